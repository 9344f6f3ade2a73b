/- A part of the proofs of statements of this seat: contracts of functions, and the plain laws that they lean on. No conditions. -/
import Derived.Test.YtbimaodbcjjbfaaRunsW
import Derived.Test.YtbimaodbcjjbfaaRunsD5
import Derived.Test.YtbimaodbcjjbfaaRunsX
import Derived.Test.YtbimaodbcjjbfaaRunsU
import Derived.MapKept
namespace Go.Sl
open Go.Proofs
set_option linter.unusedVariables false
set_option linter.unusedSimpArgs false
set_option maxRecDepth 4000
structure Lk where
  u : Int
  v : Int
  w : Int
  lb : Int
  sg : Int
  tm : Int
deriving DecidableEq, Inhabited
instance : Enc Lk := ⟨fun x => [I64 x.u, I64 x.v, I64 x.w, I64 x.lb, I64 x.sg, I64 x.tm], 6, by omega, fun _ => rfl, fun x u h => by
  simp only [List.mem_cons, List.not_mem_nil, or_false] at h
  rcases h with rfl | rfl | rfl | rfl | rfl | rfl <;> rfl⟩
theorem eqt158 : EqT Try.prog 158 Lk := EqT.flat (fun p : Lk => [p.u, p.v, p.w, p.lb, p.sg, p.tm]) (fun _ => rfl) (fun x y h => by cases x; cases y; simpa using h) (n := 6) (fun _ => rfl) (by kernel_rfl) (by kernel_rfl) (by kernel_rfl) (by kernel_rfl) (by kernel_rfl)
structure Ev where
  kd : Int
  tm : Int
  u : Int
  v : Int
  w : Int
  lb : Int
  sg : Int
deriving DecidableEq, Inhabited
instance : Enc Ev := ⟨fun x => [I64 x.kd, I64 x.tm, I64 x.u, I64 x.v, I64 x.w, I64 x.lb, I64 x.sg], 7, by omega, fun _ => rfl, fun x u h => by
  simp only [List.mem_cons, List.not_mem_nil, or_false] at h
  rcases h with rfl | rfl | rfl | rfl | rfl | rfl | rfl <;> rfl⟩
theorem eqt122 : EqT Try.prog 122 Ev := EqT.flat (fun p : Ev => [p.kd, p.tm, p.u, p.v, p.w, p.lb, p.sg]) (fun _ => rfl) (fun x y h => by cases x; cases y; simpa using h) (n := 7) (fun _ => rfl) (by kernel_rfl) (by kernel_rfl) (by kernel_rfl) (by kernel_rfl) (by kernel_rfl)
def Lk.p (l : Lk) : Pt := ⟨l.u, l.v⟩
def Lk.cmp (a c : Lk) : Int := Pt.cmp a.p c.p
def Lk.lt (a c : Lk) : Prop := Pt.lt a.p c.p
instance : DecidableRel Lk.lt := fun a c => by unfold Lk.lt; infer_instance
/-- What a link may carry. -/
def rightW (w lb sg : Int) : Prop := 1 ≤ w ∧ w ≤ 1000 ∧ 0 ≤ lb ∧ lb ≤ 15 ∧ (sg = 1 ∨ sg = -1)
instance (w lb sg : Int) : Decidable (rightW w lb sg) := by unfold rightW; infer_instance
def badL (n : Int) (l : Lk) : Int := if l.u < 0 ∨ l.v ≤ l.u ∨ n ≤ l.v then 6 else if ¬ rightW l.w l.lb l.sg then 1 else if l.tm < 0 ∨ 1048576 < l.tm then 9 else 0
def checkS (n : Int) (xs : List Lk) : Int := if n < 0 ∨ 64 < n then 1 else scanL (badL n) Lk.lt none xs
theorem badL_zero {n : Int} {l : Lk} (h1 : ¬ (l.u < 0 ∨ l.v ≤ l.u ∨ n ≤ l.v)) (h2 : rightW l.w l.lb l.sg) (h3 : ¬ (l.tm < 0 ∨ 1048576 < l.tm)) : badL n l = 0 := by
  unfold badL; rw [if_neg h1, if_neg (fun h => h h2), if_neg h3]
theorem badL_six {n : Int} {l : Lk} (h1 : l.u < 0 ∨ l.v ≤ l.u ∨ n ≤ l.v) : badL n l = 6 := by unfold badL; rw [if_pos h1]
theorem badL_one {n : Int} {l : Lk} (h1 : ¬ (l.u < 0 ∨ l.v ≤ l.u ∨ n ≤ l.v)) (h2 : ¬ rightW l.w l.lb l.sg) : badL n l = 1 := by unfold badL; rw [if_neg h1, if_pos h2]
theorem badL_nine {n : Int} {l : Lk} (h1 : ¬ (l.u < 0 ∨ l.v ≤ l.u ∨ n ≤ l.v)) (h2 : rightW l.w l.lb l.sg) (h3 : l.tm < 0 ∨ 1048576 < l.tm) : badL n l = 9 := by unfold badL; rw [if_neg h1, if_neg (fun h => h h2), if_pos h3]
/-- The first error of a window. -/
def checkW (kd wd mo : Int) : Int := if kd < 1 ∨ 3 < kd then 8 else if (kd = 2 ∧ (wd < 1 ∨ 1048576 < wd)) ∨ (kd ≠ 2 ∧ wd ≠ 0) ∨ (kd = 3 ∧ (mo < 0 ∨ 2016 < mo)) ∨ (kd ≠ 3 ∧ mo ≠ 0) then 1 else 0

theorem CheckW_ok {κ : Ctx} {I : List Item} (kd wd mo : Int) :
    CallS Try.prog κ 61 [.agg #[I64 (kd), I64 (wd), I64 (mo)]] I (fun r J => r = I64 (checkW kd wd mo) ∧ I = J) := by
 refine CallS.enter (L := [(0, .agg #[I64 (kd), I64 (wd), I64 (mo)])]) Try.func61 rfl rfl rfl rfl ?_
 refine W.sr ?_
 refine G.e (Eff.box (cs := [_, _, _]) rfl rfl rfl) ?_
 rintro _ _ ⟨b1, rfl, rfl⟩
 refine G.r (Runs.assign rfl) ?_
 refine G.nt ?_
 refine W.sr ?_
 refine G.r (Runs.assign rfl) ?_
 refine G.r (Runs.assign rfl) ?_
 refine G.nt ?_
 refine W.seq ?_
 refine W.sr ?_
 refine G.r (Runs.fieldAddr fld73_0 rfl) ?_
 refine G.r (Runs.ld ty3) ?_
 refine G.nt ?_
 refine W.block ?_
 refine W.sr ?_
 refine G.r (Runs.eql rfl rfl) ?_
 refine G.r (Runs.assign rfl) ?_
 refine G.nt ?_
 refine W.ite rfl (fun c7 => ?_) (fun c7 => ?_)
 ·refine W.skip ?_
  refine V.block_normal ?_
  refine V.then ?_
  refine W.seq ?_
  refine W.sr ?_
  refine G.r (Runs.fieldAddr fld73_1 rfl) ?_
  refine G.r (Runs.ld ty3) ?_
  refine G.r (Runs.move rfl) ?_
  refine G.r (Runs.neq rfl rfl) ?_
  refine G.r (Runs.move rfl) ?_
  refine G.split (d := 37) rfl (fun g37 => ?_) (fun g37 => ?_)
  ·refine G.po ?_
   refine G.po ?_
   refine G.po ?_
   refine G.po ?_
   refine G.r (Runs.pickt rfl rfl) ?_
   refine G.nt ?_
   refine W.sub (L' := [(42, _)]) (Sub.cons rfl Sub.nil) ?_
   refine W.yes rfl ?_
   refine W.sr ?_
   refine G.r (Runs.assign rfl) ?_
   refine G.nt ?_
   refine W.ret ?_
   refine V.then_ret ?_
   exact V.ret1 rfl rfl (I) Fit.m ⟨by rw [show checkW kd wd mo = 1 from by unfold checkW; split <;> first | rfl | omega | (split <;> first | rfl | omega)], rfl⟩
  ·refine G.ro (Runs.fieldAddr fld73_2 rfl) ?_
   refine G.ro (Runs.ld ty3) ?_
   refine G.ro (Runs.move rfl) ?_
   refine G.ro (Runs.neq rfl rfl) ?_
   refine G.r (Runs.pickf rfl rfl) ?_
   refine G.nt ?_
   refine W.sub (L' := [(42, _)]) (Sub.cons rfl Sub.nil) ?_
   refine W.ite rfl (fun c42 => ?_) (fun c42 => ?_)
   ·refine W.sr ?_
    refine G.r (Runs.assign rfl) ?_
    refine G.nt ?_
    refine W.ret ?_
    refine V.then_ret ?_
    exact V.ret1 rfl rfl (I) Fit.m ⟨by rw [show checkW kd wd mo = 1 from by unfold checkW; split <;> first | rfl | omega | (split <;> first | rfl | omega)], rfl⟩
   ·refine W.skip ?_
    refine V.then ?_
    refine W.sr ?_
    refine G.r (Runs.assign rfl) ?_
    refine G.nt ?_
    refine W.ret ?_
    exact V.ret1 rfl rfl (I) Fit.m ⟨by rw [show checkW kd wd mo = 0 from by unfold checkW; split <;> first | rfl | omega | (split <;> first | rfl | omega)], rfl⟩
 ·refine W.sr ?_
  refine G.r (Runs.eql rfl rfl) ?_
  refine G.r (Runs.assign rfl) ?_
  refine G.nt ?_
  refine W.ite rfl (fun c9 => ?_) (fun c9 => ?_)
  ·refine W.seq ?_
   refine W.sr ?_
   refine G.r (Runs.fieldAddr fld73_1 rfl) ?_
   refine G.r (Runs.ld ty3) ?_
   refine G.r (Runs.lss rfl rfl) ?_
   refine G.r (Runs.move rfl) ?_
   refine G.split (d := 14) rfl (fun g14 => ?_) (fun g14 => ?_)
   ·refine G.po ?_
    refine G.po ?_
    refine G.po ?_
    refine G.r (Runs.pickt rfl rfl) ?_
    refine G.nt ?_
    refine W.sub (L' := [(18, _), (4, _), (1, _)]) (Sub.cons rfl (Sub.cons rfl (Sub.cons rfl Sub.nil))) ?_
    refine W.yes rfl ?_
    refine W.sr ?_
    refine G.r (Runs.assign rfl) ?_
    refine G.nt ?_
    refine W.ret ?_
    refine V.then_ret ?_
    refine V.block_ret ?_
    refine V.then_ret ?_
    exact V.ret1 rfl rfl (I) Fit.m ⟨by rw [show checkW kd wd mo = 1 from by unfold checkW; split <;> first | rfl | omega | (split <;> first | rfl | omega)], rfl⟩
   ·refine G.ro (Runs.fieldAddr fld73_1 rfl) ?_
    refine G.ro (Runs.ld ty3) ?_
    refine G.ro (Runs.gtr rfl rfl) ?_
    refine G.r (Runs.pickf rfl rfl) ?_
    refine G.nt ?_
    refine W.sub (L' := [(18, _), (4, _), (1, _)]) (Sub.cons rfl (Sub.cons rfl (Sub.cons rfl Sub.nil))) ?_
    refine W.ite rfl (fun c18 => ?_) (fun c18 => ?_)
    ·refine W.sr ?_
     refine G.r (Runs.assign rfl) ?_
     refine G.nt ?_
     refine W.ret ?_
     refine V.then_ret ?_
     refine V.block_ret ?_
     refine V.then_ret ?_
     exact V.ret1 rfl rfl (I) Fit.m ⟨by rw [show checkW kd wd mo = 1 from by unfold checkW; split <;> first | rfl | omega | (split <;> first | rfl | omega)], rfl⟩
    ·refine W.skip ?_
     refine V.then ?_
     refine W.region ?_
     refine G.r (Runs.fieldAddr fld73_1 rfl) ?_
     refine G.r (Runs.ld ty3) ?_
     refine G.r (Runs.assign rfl) ?_
     refine G.nil ?_
     refine V.block_normal ?_
     refine V.then ?_
     refine W.seq ?_
     refine W.sr ?_
     refine G.r (Runs.fieldAddr fld73_1 rfl) ?_
     refine G.r (Runs.ld ty3) ?_
     refine G.r (Runs.move rfl) ?_
     refine G.r (Runs.neq rfl rfl) ?_
     refine G.r (Runs.move rfl) ?_
     refine G.split (d := 37) rfl (fun g37 => ?_) (fun g37 => ?_)
     ·refine G.po ?_
      refine G.po ?_
      refine G.po ?_
      refine G.po ?_
      refine G.r (Runs.pickt rfl rfl) ?_
      refine G.nt ?_
      refine W.sub (L' := [(42, _)]) (Sub.cons rfl Sub.nil) ?_
      refine W.yes rfl ?_
      refine W.sr ?_
      refine G.r (Runs.assign rfl) ?_
      refine G.nt ?_
      refine W.ret ?_
      refine V.then_ret ?_
      exact V.ret1 rfl rfl (I) Fit.m ⟨by rw [show checkW kd wd mo = 1 from by unfold checkW; split <;> first | rfl | omega | (split <;> first | rfl | omega)], rfl⟩
     ·refine G.ro (Runs.fieldAddr fld73_2 rfl) ?_
      refine G.ro (Runs.ld ty3) ?_
      refine G.ro (Runs.move rfl) ?_
      refine G.ro (Runs.neq rfl rfl) ?_
      refine G.r (Runs.pickf rfl rfl) ?_
      refine G.nt ?_
      refine W.sub (L' := [(42, _)]) (Sub.cons rfl Sub.nil) ?_
      refine W.ite rfl (fun c42 => ?_) (fun c42 => ?_)
      ·refine W.sr ?_
       refine G.r (Runs.assign rfl) ?_
       refine G.nt ?_
       refine W.ret ?_
       refine V.then_ret ?_
       exact V.ret1 rfl rfl (I) Fit.m ⟨by rw [show checkW kd wd mo = 1 from by unfold checkW; split <;> first | rfl | omega | (split <;> first | rfl | omega)], rfl⟩
      ·refine W.skip ?_
       refine V.then ?_
       refine W.sr ?_
       refine G.r (Runs.assign rfl) ?_
       refine G.nt ?_
       refine W.ret ?_
       exact V.ret1 rfl rfl (I) Fit.m ⟨by rw [show checkW kd wd mo = 0 from by unfold checkW; split <;> first | rfl | omega | (split <;> first | rfl | omega)], rfl⟩
  ·refine W.sr ?_
   refine G.r (Runs.eql rfl rfl) ?_
   refine G.r (Runs.assign rfl) ?_
   refine G.nt ?_
   refine W.ite rfl (fun c21 => ?_) (fun c21 => ?_)
   ·refine W.seq ?_
    refine W.sr ?_
    refine G.r (Runs.fieldAddr fld73_2 rfl) ?_
    refine G.r (Runs.ld ty3) ?_
    refine G.r (Runs.lss rfl rfl) ?_
    refine G.r (Runs.move rfl) ?_
    refine G.split (d := 26) rfl (fun g26 => ?_) (fun g26 => ?_)
    ·refine G.po ?_
     refine G.po ?_
     refine G.po ?_
     refine G.r (Runs.pickt rfl rfl) ?_
     refine G.nt ?_
     refine W.sub (L' := [(30, _), (3, _), (1, _)]) (Sub.cons rfl (Sub.cons rfl (Sub.cons rfl Sub.nil))) ?_
     refine W.yes rfl ?_
     refine W.sr ?_
     refine G.r (Runs.assign rfl) ?_
     refine G.nt ?_
     refine W.ret ?_
     refine V.then_ret ?_
     refine V.block_ret ?_
     refine V.then_ret ?_
     exact V.ret1 rfl rfl (I) Fit.m ⟨by rw [show checkW kd wd mo = 1 from by unfold checkW; split <;> first | rfl | omega | (split <;> first | rfl | omega)], rfl⟩
    ·refine G.ro (Runs.fieldAddr fld73_2 rfl) ?_
     refine G.ro (Runs.ld ty3) ?_
     refine G.ro (Runs.gtr rfl rfl) ?_
     refine G.r (Runs.pickf rfl rfl) ?_
     refine G.nt ?_
     refine W.sub (L' := [(30, _), (3, _), (1, _)]) (Sub.cons rfl (Sub.cons rfl (Sub.cons rfl Sub.nil))) ?_
     refine W.ite rfl (fun c30 => ?_) (fun c30 => ?_)
     ·refine W.sr ?_
      refine G.r (Runs.assign rfl) ?_
      refine G.nt ?_
      refine W.ret ?_
      refine V.then_ret ?_
      refine V.block_ret ?_
      refine V.then_ret ?_
      exact V.ret1 rfl rfl (I) Fit.m ⟨by rw [show checkW kd wd mo = 1 from by unfold checkW; split <;> first | rfl | omega | (split <;> first | rfl | omega)], rfl⟩
     ·refine W.skip ?_
      refine V.then ?_
      refine W.region ?_
      refine G.r (Runs.fieldAddr fld73_2 rfl) ?_
      refine G.r (Runs.ld ty3) ?_
      refine G.r (Runs.assign rfl) ?_
      refine G.nil ?_
      refine V.block_normal ?_
      refine V.then ?_
      refine W.seq ?_
      refine W.sr ?_
      refine G.r (Runs.fieldAddr fld73_1 rfl) ?_
      refine G.r (Runs.ld ty3) ?_
      refine G.r (Runs.move rfl) ?_
      refine G.r (Runs.neq rfl rfl) ?_
      refine G.r (Runs.move rfl) ?_
      refine G.split (d := 37) rfl (fun g37 => ?_) (fun g37 => ?_)
      ·refine G.po ?_
       refine G.po ?_
       refine G.po ?_
       refine G.po ?_
       refine G.r (Runs.pickt rfl rfl) ?_
       refine G.nt ?_
       refine W.sub (L' := [(42, _)]) (Sub.cons rfl Sub.nil) ?_
       refine W.yes rfl ?_
       refine W.sr ?_
       refine G.r (Runs.assign rfl) ?_
       refine G.nt ?_
       refine W.ret ?_
       refine V.then_ret ?_
       exact V.ret1 rfl rfl (I) Fit.m ⟨by rw [show checkW kd wd mo = 1 from by unfold checkW; split <;> first | rfl | omega | (split <;> first | rfl | omega)], rfl⟩
      ·refine G.ro (Runs.fieldAddr fld73_2 rfl) ?_
       refine G.ro (Runs.ld ty3) ?_
       refine G.ro (Runs.move rfl) ?_
       refine G.ro (Runs.neq rfl rfl) ?_
       refine G.r (Runs.pickf rfl rfl) ?_
       refine G.nt ?_
       refine W.sub (L' := [(42, _)]) (Sub.cons rfl Sub.nil) ?_
       refine W.ite rfl (fun c42 => ?_) (fun c42 => ?_)
       ·refine W.sr ?_
        refine G.r (Runs.assign rfl) ?_
        refine G.nt ?_
        refine W.ret ?_
        refine V.then_ret ?_
        exact V.ret1 rfl rfl (I) Fit.m ⟨by rw [show checkW kd wd mo = 1 from by unfold checkW; split <;> first | rfl | omega | (split <;> first | rfl | omega)], rfl⟩
       ·refine W.skip ?_
        refine V.then ?_
        refine W.sr ?_
        refine G.r (Runs.assign rfl) ?_
        refine G.nt ?_
        refine W.ret ?_
        exact V.ret1 rfl rfl (I) Fit.m ⟨by rw [show checkW kd wd mo = 0 from by unfold checkW; split <;> first | rfl | omega | (split <;> first | rfl | omega)], rfl⟩
   ·refine W.sr ?_
    refine G.r (Runs.assign rfl) ?_
    refine G.nt ?_
    refine W.sub (L' := [(2, _)]) (Sub.cons rfl Sub.nil) ?_
    refine W.ret ?_
    refine V.block_ret ?_
    refine V.then_ret ?_
    exact V.ret1 rfl rfl (I) Fit.m ⟨by rw [show checkW kd wd mo = 8 from by unfold checkW; split <;> first | rfl | omega | (split <;> first | rfl | omega)], rfl⟩

theorem RightW_ok {κ : Ctx} {I : List Item} (w lb sg : Int) :
    CallS Try.prog κ 187 [I64 (w), I64 (lb), I64 (sg)] I (fun r J => r = .bool (decide (rightW w lb sg)) ∧ I = J) := by
 refine CallS.enter (L := [(0, I64 (w)), (1, I64 (lb)), (2, I64 (sg))]) Try.func187 rfl rfl rfl rfl ?_
 refine W.sr ?_
 refine G.r (Runs.assign rfl) ?_
 refine G.nt ?_
 refine W.sr ?_
 refine G.r (Runs.move rfl) ?_
 refine G.r (Runs.geq rfl rfl) ?_
 refine G.r (Runs.move rfl) ?_
 refine G.split (d := 9) rfl (fun g9 => ?_) (fun g9 => ?_)
 ·refine G.ro (Runs.move rfl) ?_
  refine G.ro (Runs.leq rfl rfl) ?_
  refine G.r (Runs.pickt rfl rfl) ?_
  refine G.r (Runs.move rfl) ?_
  refine G.split (d := 13) rfl (fun g13 => ?_) (fun g13 => ?_)
  ·refine G.ro (Runs.move rfl) ?_
   refine G.ro (Runs.geq rfl rfl) ?_
   refine G.r (Runs.pickt rfl rfl) ?_
   refine G.r (Runs.move rfl) ?_
   refine G.split (d := 17) rfl (fun g17 => ?_) (fun g17 => ?_)
   ·refine G.ro (Runs.move rfl) ?_
    refine G.ro (Runs.leq rfl rfl) ?_
    refine G.r (Runs.pickt rfl rfl) ?_
    refine G.r (Runs.move rfl) ?_
    refine G.split (d := 21) rfl (fun g21 => ?_) (fun g21 => ?_)
    ·refine G.ro (Runs.move rfl) ?_
     refine G.ro (Runs.eql rfl rfl) ?_
     refine G.ro (Runs.move rfl) ?_
     refine G.split (d := 24) rfl (fun g24 => ?_) (fun g24 => ?_)
     ·refine G.po ?_
      refine G.po ?_
      refine G.ro (Runs.pickt rfl rfl) ?_
      refine G.r (Runs.pickt rfl rfl) ?_
      refine G.r (Runs.assign rfl) ?_
      refine G.nt ?_
      refine W.sub (L' := [(6, _)]) (Sub.cons rfl Sub.nil) ?_
      refine W.ret ?_
      exact V.ret1 rfl rfl (I) Fit.m ⟨(by first | exact congrArg Value.bool (decide_eq_decide.2 (by unfold rightW; omega)) | exact congrArg Value.bool (decide_eq_true (by unfold rightW; omega)).symm | exact congrArg Value.bool (decide_eq_false (by unfold rightW; omega)).symm), rfl⟩
     ·refine G.ro (Runs.move rfl) ?_
      refine G.ro (Runs.eql rfl rfl) ?_
      refine G.ro (Runs.pickf rfl rfl) ?_
      refine G.r (Runs.pickt rfl rfl) ?_
      refine G.r (Runs.assign rfl) ?_
      refine G.nt ?_
      refine W.sub (L' := [(6, _)]) (Sub.cons rfl Sub.nil) ?_
      refine W.ret ?_
      exact V.ret1 rfl rfl (I) Fit.m ⟨(by first | exact congrArg Value.bool (decide_eq_decide.2 (by unfold rightW; omega)) | exact congrArg Value.bool (decide_eq_true (by unfold rightW; omega)).symm | exact congrArg Value.bool (decide_eq_false (by unfold rightW; omega)).symm), rfl⟩
    ·refine G.po ?_
     refine G.po ?_
     refine G.po ?_
     refine G.pu ?_
     refine G.pu ?_
     refine G.po ?_
     refine G.r (Runs.pickf rfl rfl) ?_
     refine G.r (Runs.assign rfl) ?_
     refine G.nt ?_
     refine W.sub (L' := [(6, _)]) (Sub.cons rfl Sub.nil) ?_
     refine W.ret ?_
     exact V.ret1 rfl rfl (I) Fit.m ⟨(by first | exact congrArg Value.bool (decide_eq_decide.2 (by unfold rightW; omega)) | exact congrArg Value.bool (decide_eq_true (by unfold rightW; omega)).symm | exact congrArg Value.bool (decide_eq_false (by unfold rightW; omega)).symm), rfl⟩
   ·refine G.po ?_
    refine G.po ?_
    refine G.r (Runs.pickf rfl rfl) ?_
    refine G.r (Runs.move rfl) ?_
    refine G.po ?_
    refine G.po ?_
    refine G.po ?_
    refine G.pu ?_
    refine G.pu ?_
    refine G.po ?_
    refine G.r (Runs.pickf rfl rfl) ?_
    refine G.r (Runs.assign rfl) ?_
    refine G.nt ?_
    refine W.sub (L' := [(6, _)]) (Sub.cons rfl Sub.nil) ?_
    refine W.ret ?_
    exact V.ret1 rfl rfl (I) Fit.m ⟨(by first | exact congrArg Value.bool (decide_eq_decide.2 (by unfold rightW; omega)) | exact congrArg Value.bool (decide_eq_true (by unfold rightW; omega)).symm | exact congrArg Value.bool (decide_eq_false (by unfold rightW; omega)).symm), rfl⟩
  ·refine G.po ?_
   refine G.po ?_
   refine G.r (Runs.pickf rfl rfl) ?_
   refine G.r (Runs.move rfl) ?_
   refine G.po ?_
   refine G.po ?_
   refine G.r (Runs.pickf rfl rfl) ?_
   refine G.r (Runs.move rfl) ?_
   refine G.po ?_
   refine G.po ?_
   refine G.po ?_
   refine G.pu ?_
   refine G.pu ?_
   refine G.po ?_
   refine G.r (Runs.pickf rfl rfl) ?_
   refine G.r (Runs.assign rfl) ?_
   refine G.nt ?_
   refine W.sub (L' := [(6, _)]) (Sub.cons rfl Sub.nil) ?_
   refine W.ret ?_
   exact V.ret1 rfl rfl (I) Fit.m ⟨(by first | exact congrArg Value.bool (decide_eq_decide.2 (by unfold rightW; omega)) | exact congrArg Value.bool (decide_eq_true (by unfold rightW; omega)).symm | exact congrArg Value.bool (decide_eq_false (by unfold rightW; omega)).symm), rfl⟩
 ·refine G.po ?_
  refine G.po ?_
  refine G.r (Runs.pickf rfl rfl) ?_
  refine G.r (Runs.move rfl) ?_
  refine G.po ?_
  refine G.po ?_
  refine G.r (Runs.pickf rfl rfl) ?_
  refine G.r (Runs.move rfl) ?_
  refine G.po ?_
  refine G.po ?_
  refine G.r (Runs.pickf rfl rfl) ?_
  refine G.r (Runs.move rfl) ?_
  refine G.po ?_
  refine G.po ?_
  refine G.po ?_
  refine G.pu ?_
  refine G.pu ?_
  refine G.po ?_
  refine G.r (Runs.pickf rfl rfl) ?_
  refine G.r (Runs.assign rfl) ?_
  refine G.nt ?_
  refine W.sub (L' := [(6, _)]) (Sub.cons rfl Sub.nil) ?_
  refine W.ret ?_
  exact V.ret1 rfl rfl (I) Fit.m ⟨(by first | exact congrArg Value.bool (decide_eq_decide.2 (by unfold rightW; omega)) | exact congrArg Value.bool (decide_eq_true (by unfold rightW; omega)).symm | exact congrArg Value.bool (decide_eq_false (by unfold rightW; omega)).symm), rfl⟩

theorem From4_ok {κ : Ctx} {I : List Item} (n a c : Int) :
    CallS Try.prog κ 208 [I64 (n), I64 (a), I64 (c)] I (fun r J => r = .bool (decide (a ≤ n ∧ n ≤ c)) ∧ I = J) := by
 refine CallS.enter (L := [(0, I64 (n)), (1, I64 (a)), (2, I64 (c))]) Try.func208 rfl rfl rfl rfl ?_
 refine W.sr ?_
 refine G.r (Runs.assign rfl) ?_
 refine G.nt ?_
 refine W.sr ?_
 refine G.r (Runs.move rfl) ?_
 refine G.r (Runs.move rfl) ?_
 refine G.r (Runs.geq rfl rfl) ?_
 refine G.r (Runs.move rfl) ?_
 refine G.split (d := 10) rfl (fun g10 => ?_) (fun g10 => ?_)
 ·refine G.ro (Runs.move rfl) ?_
  refine G.ro (Runs.move rfl) ?_
  refine G.ro (Runs.leq rfl rfl) ?_
  refine G.r (Runs.pickt rfl rfl) ?_
  refine G.r (Runs.assign rfl) ?_
  refine G.nt ?_
  refine W.sub (L' := [(6, _)]) (Sub.cons rfl Sub.nil) ?_
  refine W.ret ?_
  exact V.ret1 rfl rfl (I) Fit.m ⟨(by first | exact congrArg Value.bool (decide_eq_decide.2 (by skip; omega)) | exact congrArg Value.bool (decide_eq_true (by skip; omega)).symm | exact congrArg Value.bool (decide_eq_false (by skip; omega)).symm), rfl⟩
 ·refine G.po ?_
  refine G.po ?_
  refine G.po ?_
  refine G.r (Runs.pickf rfl rfl) ?_
  refine G.r (Runs.assign rfl) ?_
  refine G.nt ?_
  refine W.sub (L' := [(6, _)]) (Sub.cons rfl Sub.nil) ?_
  refine W.ret ?_
  exact V.ret1 rfl rfl (I) Fit.m ⟨(by first | exact congrArg Value.bool (decide_eq_decide.2 (by skip; omega)) | exact congrArg Value.bool (decide_eq_true (by skip; omega)).symm | exact congrArg Value.bool (decide_eq_false (by skip; omega)).symm), rfl⟩

theorem Attr4_ok {κ : Ctx} {I : List Item} (w lb sg : Int) :
    CallS Try.prog κ 191 [I64 (w), I64 (lb), I64 (sg)] I (fun r J => r = I64 (if rightW w lb sg then 0 else 1) ∧ I = J) := by
 refine CallS.enter (L := [(0, I64 (w)), (1, I64 (lb)), (2, I64 (sg))]) Try.func191 rfl rfl rfl rfl ?_
 refine W.sr ?_
 refine G.r (Runs.assign rfl) ?_
 refine G.nt ?_
 refine W.seq ?_
 refine W.sr ?_
 refine G.r (Runs.move rfl) ?_
 refine G.e (Eff.call call208 rfl rfl (From4_ok w 1 1000)) ?_
 rintro _ _ ⟨_, _, ⟨rfl, rfl⟩, rfl, rfl⟩
 refine G.r (Runs.notd rfl) ?_
 refine G.r (Runs.move rfl) ?_
 refine G.split (d := 10) rfl (fun g10 => ?_) (fun g10 => ?_)
 ·refine G.po ?_
  refine G.po ?_
  refine G.po ?_
  refine G.r (Runs.pickt rfl rfl) ?_
  refine G.r (Runs.move rfl) ?_
  refine G.po ?_
  refine G.po ?_
  refine G.po ?_
  refine G.pu ?_
  refine G.pu ?_
  refine G.po ?_
  refine G.r (Runs.pickt rfl rfl) ?_
  refine G.nt ?_
  refine W.sub (L' := [(22, _)]) (Sub.cons rfl Sub.nil) ?_
  refine W.yes rfl ?_
  refine W.sr ?_
  refine G.r (Runs.assign rfl) ?_
  refine G.nt ?_
  refine W.ret ?_
  refine V.then_ret ?_
  exact V.ret1 rfl rfl (I) Fit.m ⟨by rw [if_neg (by unfold rightW; omega)], rfl⟩
 ·refine G.ro (Runs.move rfl) ?_
  refine G.eff (Wanted.on rfl rfl rfl) (Eff.call call208 rfl rfl (From4_ok lb 0 15)) ?_
  rintro _ _ ⟨_, _, ⟨rfl, rfl⟩, rfl, rfl⟩
  refine G.ro (Runs.notd rfl) ?_
  refine G.r (Runs.pickf rfl rfl) ?_
  refine G.r (Runs.move rfl) ?_
  refine G.split (d := 15) rfl (fun g15 => ?_) (fun g15 => ?_)
  ·refine G.po ?_
   refine G.po ?_
   refine G.po ?_
   refine G.pu ?_
   refine G.pu ?_
   refine G.po ?_
   refine G.r (Runs.pickt rfl rfl) ?_
   refine G.nt ?_
   refine W.sub (L' := [(22, _)]) (Sub.cons rfl Sub.nil) ?_
   refine W.yes rfl ?_
   refine W.sr ?_
   refine G.r (Runs.assign rfl) ?_
   refine G.nt ?_
   refine W.ret ?_
   refine V.then_ret ?_
   exact V.ret1 rfl rfl (I) Fit.m ⟨by rw [if_neg (by unfold rightW; omega)], rfl⟩
  ·refine G.ro (Runs.move rfl) ?_
   refine G.ro (Runs.neq rfl rfl) ?_
   refine G.ro (Runs.move rfl) ?_
   refine G.split (d := 18) rfl (fun g18 => ?_) (fun g18 => ?_)
   ·refine G.ro (Runs.move rfl) ?_
    refine G.ro (Runs.neq rfl rfl) ?_
    refine G.ro (Runs.pickt rfl rfl) ?_
    refine G.r (Runs.pickf rfl rfl) ?_
    refine G.nt ?_
    refine W.sub (L' := [(22, _)]) (Sub.cons rfl Sub.nil) ?_
    refine W.ite rfl (fun c22 => ?_) (fun c22 => ?_)
    ·refine W.sr ?_
     refine G.r (Runs.assign rfl) ?_
     refine G.nt ?_
     refine W.ret ?_
     refine V.then_ret ?_
     exact V.ret1 rfl rfl (I) Fit.m ⟨by rw [if_neg (by unfold rightW; omega)], rfl⟩
    ·refine W.skip ?_
     refine V.then ?_
     refine W.sr ?_
     refine G.r (Runs.assign rfl) ?_
     refine G.nt ?_
     refine W.ret ?_
     exact V.ret1 rfl rfl (I) Fit.m ⟨by rw [if_pos (by unfold rightW; omega)], rfl⟩
   ·refine G.po ?_
    refine G.po ?_
    refine G.ro (Runs.pickf rfl rfl) ?_
    refine G.r (Runs.pickf rfl rfl) ?_
    refine G.nt ?_
    refine W.sub (L' := [(22, _)]) (Sub.cons rfl Sub.nil) ?_
    refine W.no rfl ?_
    refine W.skip ?_
    refine V.then ?_
    refine W.sr ?_
    refine G.r (Runs.assign rfl) ?_
    refine G.nt ?_
    refine W.ret ?_
    exact V.ret1 rfl rfl (I) Fit.m ⟨by rw [if_pos (by unfold rightW; omega)], rfl⟩

theorem OrderL_ok {κ : Ctx} {I : List Item} (a c : Lk) :
    CallS Try.prog κ 188 [.agg #[I64 (a.u), I64 (a.v), I64 (a.w), I64 (a.lb), I64 (a.sg), I64 (a.tm)], .agg #[I64 (c.u), I64 (c.v), I64 (c.w), I64 (c.lb), I64 (c.sg), I64 (c.tm)]] I (fun r J => r = I64 (Lk.cmp a c) ∧ I = J) := by
 refine CallS.enter (L := [(0, .agg #[I64 (a.u), I64 (a.v), I64 (a.w), I64 (a.lb), I64 (a.sg), I64 (a.tm)]), (1, .agg #[I64 (c.u), I64 (c.v), I64 (c.w), I64 (c.lb), I64 (c.sg), I64 (c.tm)])]) Try.func188 rfl rfl rfl rfl ?_
 refine W.sr ?_
 refine G.e (Eff.box (cs := [_, _, _, _, _, _]) rfl rfl rfl) ?_
 rintro _ _ ⟨b1, rfl, rfl⟩
 refine G.e (Eff.box (cs := [_, _, _, _, _, _]) rfl rfl rfl) ?_
 rintro _ _ ⟨b2, rfl, rfl⟩
 refine G.r (Runs.assign rfl) ?_
 refine G.nt ?_
 refine W.seq ?_
 refine W.drawn mixed ?_
 refine A.hold (blk b2 [I64 (c.u), I64 (c.v), I64 (c.w), I64 (c.lb), I64 (c.sg), I64 (c.tm)] 158 :: blk b1 [I64 (a.u), I64 (a.v), I64 (a.w), I64 (a.lb), I64 (a.sg), I64 (a.tm)] 158 :: I) 12 ?_
 refine D.r 0 rfl (Runs.fieldAddr fld158_0 rfl) ?_
 refine D.r 1 rfl (Runs.ld ty3) ?_
 refine D.r 2 rfl (Runs.fieldAddr fld158_0 rfl) ?_
 refine D.r 3 rfl (Runs.ld ty3) ?_
 refine D.r 5 rfl (Runs.fieldAddr fld158_1 rfl) ?_
 refine D.r 6 rfl (Runs.ld ty3) ?_
 refine D.r 7 rfl (Runs.fieldAddr fld158_1 rfl) ?_
 refine D.r 8 rfl (Runs.ld ty3) ?_
 refine D.step (rs := [4]) (by kernel_rfl) rfl rfl (all1 ?_)
 refine Step.eff rfl (Wanted.plain rfl) (Eff.call call173 rfl rfl (Compare_ok a.u c.u)) ?_
 rintro _ _ ⟨_, _, ⟨rfl, rfl⟩, rfl, rfl⟩
 refine ⟨Fit.m, ?_⟩
 refine D.step (rs := [9]) (by kernel_rfl) rfl rfl (all1 ?_)
 refine Step.eff rfl (Wanted.plain rfl) (Eff.call call173 rfl rfl (Compare_ok a.v c.v)) ?_
 rintro _ _ ⟨_, _, ⟨rfl, rfl⟩, rfl, rfl⟩
 refine ⟨Fit.m, ?_⟩
 refine D.step (rs := [10]) (by kernel_rfl) rfl rfl (all1 ?_)
 refine Step.eff rfl (Wanted.plain rfl) (Eff.bs (α := Int) (cs := [_, _]) (xs := [cmpI a.u c.u, cmpI a.v c.v]) Try.underlying22 ty3 rfl rfl (by decide) (by decide) rfl rfl rfl rfl) ?_
 rintro _ _ ⟨ad3, rfl, rfl⟩
 refine ⟨Fit.m, ?_⟩
 refine D.step (rs := [11]) (by kernel_rfl) rfl rfl (all1 ?_)
 refine Step.eff rfl (Wanted.plain rfl) (Eff.call call172 rfl rfl (Or_ok Sl.o)) ?_
 rintro _ _ ⟨_, _, ⟨rfl, rfl⟩, rfl, rfl⟩
 refine ⟨Fit.m, ?_⟩
 refine D.stop (by kernel_rfl) ?_
 refine A.read (i := 12) (by kernel_rfl) rfl (Wanted.plain rfl) rfl rfl (Runs.assign rfl) ?_
 refine A.done (by kernel_rfl) ?_
 refine V.then ?_
 refine W.sub (L' := [(4, _)]) (Sub.cons rfl Sub.nil) ?_
 refine W.ret ?_
 exact V.ret1 rfl rfl (I) Fit.m ⟨by rw [show Lk.cmp a c = Pt.cmp ⟨a.u, a.v⟩ ⟨c.u, c.v⟩ from rfl, ← orL_cmp], rfl⟩

theorem Edge5_ok {κ : Ctx} {I : List Item} (l : Lk) :
    CallS Try.prog κ 158 [.agg #[I64 (l.u), I64 (l.v), I64 (l.w), I64 (l.lb), I64 (l.sg), I64 (l.tm)]] I (fun r J => r = .agg #[I64 l.p.u, I64 l.p.v] ∧ I = J) := by
 refine CallS.enter (L := [(0, .agg #[I64 (l.u), I64 (l.v), I64 (l.w), I64 (l.lb), I64 (l.sg), I64 (l.tm)])]) Try.func158 rfl rfl rfl rfl ?_
 refine W.sr ?_
 refine G.e (Eff.box (cs := [_, _, _, _, _, _]) rfl rfl rfl) ?_
 rintro _ _ ⟨b1, rfl, rfl⟩
 refine G.e (Eff.alloc ty150 rfl) ?_
 rintro _ _ ⟨b2, rfl, rfl⟩
 refine G.nt ?_
 refine W.sr ?_
 refine G.r (Runs.fieldAddr fld158_0 rfl) ?_
 refine G.r (Runs.ld ty3) ?_
 refine G.r (Runs.fieldAddr fld158_1 rfl) ?_
 refine G.r (Runs.ld ty3) ?_
 refine G.r (Runs.build (cells := [_, _]) ty150 Try.underlying150 pl150 rfl rfl) ?_
 refine G.e (Eff.st (cs := [_, _]) (vs := [_, _]) (cs' := [_, _]) ty150) ?_
 rintro _ _ ⟨rfl, rfl⟩
 refine G.nt ?_
 refine W.ret ?_
 exact V.retc rfl ty150 rfl (by repeat (first | exact List.mem_cons_self | apply List.mem_cons_of_mem)) rfl (I) Fit.m ⟨rfl, rfl⟩

end Go.Sl
namespace Go.Sl
open Go.Proofs
set_option linter.unusedVariables false
set_option linter.unusedSimpArgs false
set_option maxRecDepth 4000
theorem ext_atw {α : Type} [Inhabited α] {xs ys : List α} (hl : xs.length = ys.length) (h : ∀ j, j < xs.length → at_ xs (j : Int) = at_ ys (j : Int)) : xs = ys := by
  refine List.ext_getElem hl fun j h1 h2 => ?_
  have := h j h1
  rwa [at_get xs j h1, at_get ys j h2] at this
theorem Lk.cmp_lt (a c : Lk) : Lk.cmp a c < 0 ↔ Lk.lt a c := Pt.cmp_lt _ _
/-- The first error of what is asked about the window of a state. -/
def askE (nd : Int) (xs : List Lk) (kd wd mo nw : Int) : Int := if checkW kd wd mo ≠ 0 then checkW kd wd mo else if checkS nd xs ≠ 0 then checkS nd xs else if nw < 0 ∨ 1048576 < nw ∨ xs.any (fun x => decide (nw < x.tm)) = true then 9 else 0

theorem CheckS_ok {κ : Ctx} {I : List Item} {nd : Int} {va : Value} {xs : List Lk} (hl : Sl κ I va xs) :
    CallS Try.prog κ 122 [.agg #[I64 (nd), va]] I (fun r J => r = I64 (checkS nd xs) ∧ I = J) := by
 refine CallS.pull hl.le fun hmax => ?_
 refine CallS.enter (L := [(0, .agg #[I64 (nd), va])]) Try.func122 rfl rfl rfl rfl ?_
 refine W.sr ?_
 refine G.e (Eff.box (cs := [_, _]) rfl rfl rfl) ?_
 rintro _ _ ⟨b1, rfl, rfl⟩
 refine G.r (Runs.assign rfl) ?_
 refine G.nt ?_
 refine W.seq ?_
 refine W.sr ?_
 refine G.r (Runs.fieldAddr fld71_0 rfl) ?_
 refine G.r (Runs.ld ty3) ?_
 refine G.r (Runs.lss rfl rfl) ?_
 refine G.r (Runs.move rfl) ?_
 refine G.split (d := 8) rfl (fun g8 => ?_) (fun g8 => ?_)
 ·refine G.po ?_
  refine G.po ?_
  refine G.po ?_
  refine G.r (Runs.pickt rfl rfl) ?_
  refine G.nt ?_
  refine W.yes rfl ?_
  refine W.sr ?_
  refine G.r (Runs.assign rfl) ?_
  refine G.nt ?_
  refine W.ret ?_
  refine V.then_ret ?_
  exact V.ret1 rfl rfl (I) Fit.m ⟨by rw [show checkS nd xs = 1 from (by first | (unfold checkS; rw [if_pos (by omega)]; done) | exact hs.trans ((scanL_bad (by omega) (by rw [badL_one (by omega) (by assumption)]; decide)).trans (badL_one (by omega) (by assumption))))], rfl⟩
 ·refine G.ro (Runs.fieldAddr fld71_0 rfl) ?_
  refine G.ro (Runs.ld ty3) ?_
  refine G.ro (Runs.gtr rfl rfl) ?_
  refine G.r (Runs.pickf rfl rfl) ?_
  refine G.nt ?_
  refine W.ite rfl (fun c12 => ?_) (fun c12 => ?_)
  ·refine W.sr ?_
   refine G.r (Runs.assign rfl) ?_
   refine G.nt ?_
   refine W.ret ?_
   refine V.then_ret ?_
   exact V.ret1 rfl rfl (I) Fit.m ⟨by rw [show checkS nd xs = 1 from (by first | (unfold checkS; rw [if_pos (by omega)]; done) | exact hs.trans ((scanL_bad (by omega) (by rw [badL_one (by omega) (by assumption)]; decide)).trans (badL_one (by omega) (by assumption))))], rfl⟩
  ·refine W.skip ?_
   refine V.then ?_
   refine W.seq ?_
   refine W.sr ?_
   refine G.r (Runs.fieldAddr fld71_1 rfl) ?_
   refine G.r (Runs.ld ty69) ?_
   refine G.r (Runs.lenT (α := Lk) (xs := xs) Try.underlying69 rfl (Sl.f hl)) ?_
   refine G.r (Runs.move rfl) ?_
   refine G.nt ?_
   refine W.sub (L' := [(16, _), (15, _), (14, _), (1, _)]) (Sub.cons rfl (Sub.cons rfl (Sub.cons rfl (Sub.cons rfl Sub.nil)))) ?_
   refine W.block ?_
   refine W.loop (σ := Nat) (fun s => ([(1, .pointer (some ⟨b1, 0, none⟩)), (14, va), (15, I64 (((xs.length : Nat) : Int))), (16, I64 (((s : Nat) : Int)))] : Env)) (fun s => blk b1 [I64 (nd), va] 71 :: I) (fun s => (s ≤ xs.length) ∧ (checkS nd xs = scanL (badL nd) Lk.lt (prevAt xs s) (xs.drop s))) (fun s => xs.length - s) (0) (show ((0 : Nat) ≤ xs.length) ∧ (checkS nd xs = scanL (badL nd) Lk.lt (prevAt xs (0 : Nat)) (xs.drop (0 : Nat))) from ⟨(by omega), (by unfold checkS; rw [if_neg (by omega)]; rfl)⟩) (Sub.cons rfl (Sub.cons rfl (Sub.cons rfl (Sub.cons lookO Sub.nil)))) (show Fit κ _ (blk b1 [I64 (nd), va] 71 :: I) from Fit.sub) ?_
   rintro k hp
   obtain ⟨hk, hs⟩ : (k ≤ xs.length) ∧ (checkS nd xs = scanL (badL nd) Lk.lt (prevAt xs k) (xs.drop k)) := hp
   show W Try.prog κ 72 _ _ ([(1, .pointer (some ⟨b1, 0, none⟩)), (14, va), (15, I64 (((xs.length : Nat) : Int))), (16, I64 (((k : Nat) : Int)))] : Env) (blk b1 [I64 (nd), va] 71 :: I)
   refine W.sr ?_
   refine G.r (Runs.lss rfl rfl) ?_
   refine G.nt ?_
   refine W.seq ?_
   refine W.ite rfl (fun c17 => ?_) (fun c17 => ?_)
   ·refine W.skip ?_
    refine V.then ?_
    refine W.seq ?_
    refine W.block ?_
    refine W.sr ?_
    refine G.r (Runs.move rfl) ?_
    refine G.r (Runs.idx (α := Lk) (xs := xs) Try.underlying69 ty158 rfl rfl (Sl.f hl) (by omega) (by omega)) ?_
    refine G.r (Runs.gets (α := Lk) (xs := xs) ty158 rfl (Sl.f hl) (by omega) (by omega)) ?_
    refine G.e (Eff.alloc ty158 rfl) ?_
    rintro _ _ ⟨b2, rfl, rfl⟩
    refine G.r (Runs.assign rfl) ?_
    refine G.e (Eff.st (cs := [_, _, _, _, _, _]) (vs := [_, _, _, _, _, _]) (cs' := [_, _, _, _, _, _]) ty158) ?_
    rintro _ _ ⟨rfl, rfl⟩
    refine G.nt ?_
    refine W.block ?_
    refine W.sr ?_
    refine G.r (Runs.fieldAddr fld158_0 rfl) ?_
    refine G.r (Runs.ld ty3) ?_
    refine G.r (Runs.lss rfl rfl) ?_
    refine G.r (Runs.move rfl) ?_
    refine G.split (d := 25) rfl (fun g25 => ?_) (fun g25 => ?_)
    ·refine G.po ?_
     refine G.po ?_
     refine G.po ?_
     refine G.po ?_
     refine G.po ?_
     refine G.r (Runs.pickt rfl rfl) ?_
     refine G.r (Runs.move rfl) ?_
     refine G.po ?_
     refine G.po ?_
     refine G.po ?_
     refine G.po ?_
     refine G.po ?_
     refine G.r (Runs.pickt rfl rfl) ?_
     refine G.r (Runs.assign rfl) ?_
     refine G.nt ?_
     refine W.sub (L' := [(21, _), (3, _), (4, _), (1, _), (14, _), (15, _), (16, _)]) (Sub.cons rfl (Sub.cons rfl (Sub.cons rfl (Sub.cons rfl (Sub.cons rfl (Sub.cons rfl (Sub.cons rfl Sub.nil))))))) ?_
     refine W.yes rfl ?_
     refine W.sr ?_
     refine G.r (Runs.assign rfl) ?_
     refine G.nt ?_
     refine W.ret ?_
     refine V.block_ret ?_
     refine V.block_ret ?_
     refine V.then_ret ?_
     refine V.then_ret ?_
     refine V.block_ret ?_
     refine V.then_ret ?_
     exact V.ret1 rfl rfl (I) Fit.m ⟨by rw [show checkS nd xs = 6 from (hs.trans ((scanL_bad (by omega) (by rw [badL_six (by omega)]; decide)).trans (badL_six (by omega))))], rfl⟩
    ·refine G.ro (Runs.fieldAddr fld158_0 rfl) ?_
     refine G.ro (Runs.ld ty3) ?_
     refine G.ro (Runs.fieldAddr fld158_1 rfl) ?_
     refine G.ro (Runs.ld ty3) ?_
     refine G.ro (Runs.geq rfl rfl) ?_
     refine G.r (Runs.pickf rfl rfl) ?_
     refine G.r (Runs.move rfl) ?_
     refine G.split (d := 32) rfl (fun g32 => ?_) (fun g32 => ?_)
     ·refine G.po ?_
      refine G.po ?_
      refine G.po ?_
      refine G.po ?_
      refine G.po ?_
      refine G.r (Runs.pickt rfl rfl) ?_
      refine G.r (Runs.assign rfl) ?_
      refine G.nt ?_
      refine W.sub (L' := [(21, _), (3, _), (4, _), (1, _), (14, _), (15, _), (16, _)]) (Sub.cons rfl (Sub.cons rfl (Sub.cons rfl (Sub.cons rfl (Sub.cons rfl (Sub.cons rfl (Sub.cons rfl Sub.nil))))))) ?_
      refine W.yes rfl ?_
      refine W.sr ?_
      refine G.r (Runs.assign rfl) ?_
      refine G.nt ?_
      refine W.ret ?_
      refine V.block_ret ?_
      refine V.block_ret ?_
      refine V.then_ret ?_
      refine V.then_ret ?_
      refine V.block_ret ?_
      refine V.then_ret ?_
      exact V.ret1 rfl rfl (I) Fit.m ⟨by rw [show checkS nd xs = 6 from (hs.trans ((scanL_bad (by omega) (by rw [badL_six (by omega)]; decide)).trans (badL_six (by omega))))], rfl⟩
     ·refine G.ro (Runs.fieldAddr fld158_1 rfl) ?_
      refine G.ro (Runs.ld ty3) ?_
      refine G.ro (Runs.fieldAddr fld71_0 rfl) ?_
      refine G.ro (Runs.ld ty3) ?_
      refine G.ro (Runs.geq rfl rfl) ?_
      refine G.r (Runs.pickf rfl rfl) ?_
      refine G.r (Runs.assign rfl) ?_
      refine G.nt ?_
      refine W.sub (L' := [(21, _), (3, _), (4, _), (1, _), (14, _), (15, _), (16, _)]) (Sub.cons rfl (Sub.cons rfl (Sub.cons rfl (Sub.cons rfl (Sub.cons rfl (Sub.cons rfl (Sub.cons rfl Sub.nil))))))) ?_
      refine W.ite rfl (fun c21 => ?_) (fun c21 => ?_)
      ·refine W.sr ?_
       refine G.r (Runs.assign rfl) ?_
       refine G.nt ?_
       refine W.ret ?_
       refine V.block_ret ?_
       refine V.block_ret ?_
       refine V.then_ret ?_
       refine V.then_ret ?_
       refine V.block_ret ?_
       refine V.then_ret ?_
       exact V.ret1 rfl rfl (I) Fit.m ⟨by rw [show checkS nd xs = 6 from (hs.trans ((scanL_bad (by omega) (by rw [badL_six (by omega)]; decide)).trans (badL_six (by omega))))], rfl⟩
      ·refine W.sr ?_
       refine G.r (Runs.fieldAddr fld158_2 rfl) ?_
       refine G.r (Runs.ld ty3) ?_
       refine G.r (Runs.fieldAddr fld158_3 rfl) ?_
       refine G.r (Runs.ld ty3) ?_
       refine G.r (Runs.fieldAddr fld158_4 rfl) ?_
       refine G.r (Runs.ld ty3) ?_
       refine G.e (Eff.call call187 rfl rfl (RightW_ok ((at_ xs ((k : Nat) : Int)).w) ((at_ xs ((k : Nat) : Int)).lb) ((at_ xs ((k : Nat) : Int)).sg))) ?_
       rintro _ _ ⟨_, _, ⟨rfl, rfl⟩, rfl, rfl⟩
       refine G.r (Runs.notd rfl) ?_
       refine G.r (Runs.assign rfl) ?_
       refine G.nt ?_
       refine W.sub (L' := [(39, _), (3, _), (4, _), (1, _), (14, _), (15, _), (16, _)]) (Sub.cons rfl (Sub.cons rfl (Sub.cons rfl (Sub.cons rfl (Sub.cons rfl (Sub.cons rfl (Sub.cons rfl Sub.nil))))))) ?_
       refine W.ite rfl (fun c39 => ?_) (fun c39 => ?_)
       ·refine W.sr ?_
        refine G.r (Runs.assign rfl) ?_
        refine G.nt ?_
        refine W.ret ?_
        refine V.block_ret ?_
        refine V.block_ret ?_
        refine V.then_ret ?_
        refine V.then_ret ?_
        refine V.block_ret ?_
        refine V.then_ret ?_
        exact V.ret1 rfl rfl (I) Fit.m ⟨by rw [show checkS nd xs = 1 from (by first | (unfold checkS; rw [if_pos (by omega)]; done) | exact hs.trans ((scanL_bad (by omega) (by rw [badL_one (by omega) (by assumption)]; decide)).trans (badL_one (by omega) (by assumption))))], rfl⟩
       ·refine W.sr ?_
        refine G.r (Runs.fieldAddr fld158_5 rfl) ?_
        refine G.r (Runs.ld ty3) ?_
        refine G.r (Runs.lss rfl rfl) ?_
        refine G.r (Runs.move rfl) ?_
        refine G.split (d := 52) rfl (fun g52 => ?_) (fun g52 => ?_)
        ·refine G.po ?_
         refine G.po ?_
         refine G.po ?_
         refine G.r (Runs.pickt rfl rfl) ?_
         refine G.r (Runs.assign rfl) ?_
         refine G.nt ?_
         refine W.sub (L' := [(48, _), (3, _), (4, _), (1, _), (14, _), (15, _), (16, _)]) (Sub.cons rfl (Sub.cons rfl (Sub.cons rfl (Sub.cons rfl (Sub.cons rfl (Sub.cons rfl (Sub.cons rfl Sub.nil))))))) ?_
         refine W.yes rfl ?_
         refine W.sr ?_
         refine G.r (Runs.assign rfl) ?_
         refine G.nt ?_
         refine W.ret ?_
         refine V.block_ret ?_
         refine V.block_ret ?_
         refine V.then_ret ?_
         refine V.then_ret ?_
         refine V.block_ret ?_
         refine V.then_ret ?_
         exact V.ret1 rfl rfl (I) Fit.m ⟨by rw [show checkS nd xs = 9 from (hs.trans ((scanL_bad (by omega) (by rw [badL_nine (by omega) (by first | assumption | exact Classical.not_not.1 (by assumption) | exact Classical.byContradiction fun h => c47 (by rw [if_neg h]; decide)) (by omega)]; decide)).trans (badL_nine (by omega) (by first | assumption | exact Classical.not_not.1 (by assumption) | exact Classical.byContradiction fun h => c47 (by rw [if_neg h]; decide)) (by omega))))], rfl⟩
        ·refine G.ro (Runs.fieldAddr fld158_5 rfl) ?_
         refine G.ro (Runs.ld ty3) ?_
         refine G.ro (Runs.gtr rfl rfl) ?_
         refine G.r (Runs.pickf rfl rfl) ?_
         refine G.r (Runs.assign rfl) ?_
         refine G.nt ?_
         refine W.sub (L' := [(48, _), (3, _), (4, _), (1, _), (14, _), (15, _), (16, _)]) (Sub.cons rfl (Sub.cons rfl (Sub.cons rfl (Sub.cons rfl (Sub.cons rfl (Sub.cons rfl (Sub.cons rfl Sub.nil))))))) ?_
         refine W.ite rfl (fun c48 => ?_) (fun c48 => ?_)
         ·refine W.sr ?_
          refine G.r (Runs.assign rfl) ?_
          refine G.nt ?_
          refine W.ret ?_
          refine V.block_ret ?_
          refine V.block_ret ?_
          refine V.then_ret ?_
          refine V.then_ret ?_
          refine V.block_ret ?_
          refine V.then_ret ?_
          exact V.ret1 rfl rfl (I) Fit.m ⟨by rw [show checkS nd xs = 9 from (hs.trans ((scanL_bad (by omega) (by rw [badL_nine (by omega) (by first | assumption | exact Classical.not_not.1 (by assumption) | exact Classical.byContradiction fun h => c47 (by rw [if_neg h]; decide)) (by omega)]; decide)).trans (badL_nine (by omega) (by first | assumption | exact Classical.not_not.1 (by assumption) | exact Classical.byContradiction fun h => c47 (by rw [if_neg h]; decide)) (by omega))))], rfl⟩
         ·refine W.seq ?_
          refine W.drawn mixed ?_
          refine A.hold (blk b2 [I64 ((at_ xs ((k : Nat) : Int)).u), I64 ((at_ xs ((k : Nat) : Int)).v), I64 ((at_ xs ((k : Nat) : Int)).w), I64 ((at_ xs ((k : Nat) : Int)).lb), I64 ((at_ xs ((k : Nat) : Int)).sg), I64 ((at_ xs ((k : Nat) : Int)).tm)] 158 :: blk b1 [I64 (nd), va] 71 :: I) 14 ?_
          refine D.r 0 rfl (Runs.move rfl) ?_
          refine D.r 1 rfl (Runs.gtr rfl rfl) ?_
          refine D.r 2 rfl (Runs.move rfl) ?_
          refine D.split (d := 60) rfl (fun g60 => ?_) (fun g60 => ?_)
          ·refine D.ro 3 rfl (Runs.fieldAddr fld71_1 rfl) ?_
           refine D.ro 4 rfl (Runs.ld ty69) ?_
           refine D.ro 5 rfl (Runs.move rfl) ?_
           refine D.ro 6 rfl (Runs.sub rfl rfl (by unfold InR; omega)) ?_
           refine D.ro 7 rfl (Runs.idx (α := Lk) (xs := xs) Try.underlying69 ty158 rfl rfl (Sl.f hl) (by omega) (by omega)) ?_
           refine D.ro 8 rfl (Runs.gets (α := Lk) (xs := xs) ty158 rfl (Sl.f hl) (by omega) (by omega)) ?_
           refine D.ro 9 rfl (Runs.lds (vs := [_, _, _, _, _, _]) ty158) ?_
           refine D.step (rs := [10]) (by kernel_rfl) rfl rfl (all1 ?_)
           refine Step.eff rfl (Wanted.on rfl rfl rfl) (Eff.call call188 rfl rfl (OrderL_ok (at_ xs (((k : Nat) : Int) - 1)) (at_ xs ((k : Nat) : Int)))) ?_
           rintro _ _ ⟨_, _, ⟨rfl, rfl⟩, rfl, rfl⟩
           refine ⟨Fit.m, ?_⟩
           refine D.ro 11 rfl (Runs.geq rfl rfl) ?_
           refine D.r 12 rfl (Runs.pickt rfl rfl) ?_
           refine D.r 13 rfl (Runs.assign rfl) ?_
           refine D.done (by kernel_rfl) ?_
           refine V.then ?_
           refine W.sub (L' := [(57, _), (1, _), (14, _), (15, _), (16, _)]) (Sub.cons rfl (Sub.cons rfl (Sub.cons rfl (Sub.cons rfl (Sub.cons rfl Sub.nil))))) ?_
           refine W.ite rfl (fun c57 => ?_) (fun c57 => ?_)
           ·refine W.sr ?_
            refine G.r (Runs.assign rfl) ?_
            refine G.nt ?_
            refine W.ret ?_
            refine V.block_ret ?_
            refine V.block_ret ?_
            refine V.then_ret ?_
            refine V.then_ret ?_
            refine V.block_ret ?_
            refine V.then_ret ?_
            exact V.ret1 rfl rfl (I) Fit.m ⟨by rw [show checkS nd xs = 5 from (hs.trans (scanL_order (by omega) (badL_zero (by omega) (by first | assumption | exact Classical.not_not.1 (by assumption) | exact Classical.byContradiction fun h => c47 (by rw [if_neg h]; decide)) (by omega)) (by omega) (by first | assumption | (intro h; have := (Lk.cmp_lt _ _).2 h; omega))))], rfl⟩
           ·refine W.skip ?_
            refine V.block_normal ?_
            refine V.block_normal ?_
            refine V.then ?_
            refine W.region ?_
            refine G.r (Runs.add rfl rfl (by unfold InR; omega)) ?_
            refine G.r (Runs.move rfl) ?_
            refine G.nil ?_
            exact V.next ((k + 1)) (show ((k + 1 : Nat) ≤ xs.length) ∧ (checkS nd xs = scanL (badL nd) Lk.lt (prevAt xs (k + 1 : Nat)) (xs.drop (k + 1 : Nat))) from ⟨(by omega), (hs.trans (scanL_step (by omega) (badL_zero (by omega) (by first | assumption | exact Classical.not_not.1 (by assumption) | exact Classical.byContradiction fun h => c47 (by rw [if_neg h]; decide)) (by omega)) (fun h0 => by first | omega | exact (Lk.cmp_lt _ _).1 (by omega) | exact Classical.not_not.1 (by assumption))))⟩) (show xs.length - (k + 1 : Nat) < xs.length - k from (by omega)) (Sub.cons rfl (Sub.cons rfl (Sub.cons rfl (Sub.cons lookO Sub.nil)))) (show Fit κ _ (blk b1 [I64 (nd), va] 71 :: I) from Fit.sub)
          ·refine D.po 3 rfl ?_
           refine D.po 4 rfl ?_
           refine D.po 5 rfl ?_
           refine D.po 6 rfl ?_
           refine D.po 7 rfl ?_
           refine D.po 8 rfl ?_
           refine D.po 9 rfl ?_
           refine D.po 10 rfl ?_
           refine D.po 11 rfl ?_
           refine D.r 12 rfl (Runs.pickf rfl rfl) ?_
           refine D.r 13 rfl (Runs.assign rfl) ?_
           refine D.done (by kernel_rfl) ?_
           refine V.then ?_
           refine W.sub (L' := [(57, _), (1, _), (14, _), (15, _), (16, _)]) (Sub.cons rfl (Sub.cons rfl (Sub.cons rfl (Sub.cons rfl (Sub.cons rfl Sub.nil))))) ?_
           refine W.no rfl ?_
           refine W.skip ?_
           refine V.block_normal ?_
           refine V.block_normal ?_
           refine V.then ?_
           refine W.region ?_
           refine G.r (Runs.add rfl rfl (by unfold InR; omega)) ?_
           refine G.r (Runs.move rfl) ?_
           refine G.nil ?_
           exact V.next ((k + 1)) (show ((k + 1 : Nat) ≤ xs.length) ∧ (checkS nd xs = scanL (badL nd) Lk.lt (prevAt xs (k + 1 : Nat)) (xs.drop (k + 1 : Nat))) from ⟨(by omega), (hs.trans (scanL_step (by omega) (badL_zero (by omega) (by first | assumption | exact Classical.not_not.1 (by assumption) | exact Classical.byContradiction fun h => c47 (by rw [if_neg h]; decide)) (by omega)) (fun h0 => by first | omega | exact (Lk.cmp_lt _ _).1 (by omega) | exact Classical.not_not.1 (by assumption))))⟩) (show xs.length - (k + 1 : Nat) < xs.length - k from (by omega)) (Sub.cons rfl (Sub.cons rfl (Sub.cons rfl (Sub.cons lookO Sub.nil)))) (show Fit κ _ (blk b1 [I64 (nd), va] 71 :: I) from Fit.sub)
   ·refine W.exit ?_
    refine V.then_exit ?_
    refine V.then_exit ?_
    refine V.block_hit ?_
    refine V.then ?_
    refine W.sr ?_
    refine G.r (Runs.assign rfl) ?_
    refine G.nt ?_
    refine W.ret ?_
    exact V.ret1 rfl rfl (I) Fit.m ⟨by rw [show checkS nd xs = 0 from (hs.trans (scanL_end (by omega)))], rfl⟩

theorem CheckS5_ok {κ : Ctx} {I : List Item} {nd : Int} {va : Value} {xs : List Lk} (hl : Sl κ I va xs) :
    CallS Try.prog κ 124 [.agg #[I64 (nd), va]] I (fun r J => r = I64 (checkS nd xs) ∧ I = J) := by
 refine CallS.pull hl.le fun hmax => ?_
 refine CallS.enter (L := [(0, .agg #[I64 (nd), va])]) Try.func124 rfl rfl rfl rfl ?_
 refine W.sr ?_
 refine G.e (Eff.box (cs := [_, _]) rfl rfl rfl) ?_
 rintro _ _ ⟨b1, rfl, rfl⟩
 refine G.r (Runs.assign rfl) ?_
 refine G.nt ?_
 refine W.seq ?_
 refine W.sr ?_
 refine G.r (Runs.fieldAddr fld71_0 rfl) ?_
 refine G.r (Runs.ld ty3) ?_
 refine G.r (Runs.lss rfl rfl) ?_
 refine G.r (Runs.move rfl) ?_
 refine G.split (d := 9) rfl (fun g9 => ?_) (fun g9 => ?_)
 ·refine G.po ?_
  refine G.po ?_
  refine G.po ?_
  refine G.r (Runs.pickt rfl rfl) ?_
  refine G.nt ?_
  refine W.yes rfl ?_
  refine W.sr ?_
  refine G.r (Runs.assign rfl) ?_
  refine G.nt ?_
  refine W.ret ?_
  refine V.then_ret ?_
  exact V.ret1 rfl rfl (I) Fit.m ⟨by rw [show checkS nd xs = 1 from (by first | (unfold checkS; rw [if_pos (by omega)]; done) | exact hs.trans ((scanL_bad (by omega) (by rw [badL_one (by omega) (by assumption)]; decide)).trans (badL_one (by omega) (by assumption))))], rfl⟩
 ·refine G.ro (Runs.fieldAddr fld71_0 rfl) ?_
  refine G.ro (Runs.ld ty3) ?_
  refine G.ro (Runs.gtr rfl rfl) ?_
  refine G.r (Runs.pickf rfl rfl) ?_
  refine G.nt ?_
  refine W.ite rfl (fun c13 => ?_) (fun c13 => ?_)
  ·refine W.sr ?_
   refine G.r (Runs.assign rfl) ?_
   refine G.nt ?_
   refine W.ret ?_
   refine V.then_ret ?_
   exact V.ret1 rfl rfl (I) Fit.m ⟨by rw [show checkS nd xs = 1 from (by first | (unfold checkS; rw [if_pos (by omega)]; done) | exact hs.trans ((scanL_bad (by omega) (by rw [badL_one (by omega) (by assumption)]; decide)).trans (badL_one (by omega) (by assumption))))], rfl⟩
  ·refine W.skip ?_
   refine V.then ?_
   refine W.seq ?_
   refine W.sr ?_
   refine G.r (Runs.fieldAddr fld71_1 rfl) ?_
   refine G.r (Runs.ld ty69) ?_
   refine G.r (Runs.lenT (α := Lk) (xs := xs) Try.underlying69 rfl (Sl.f hl)) ?_
   refine G.r (Runs.move rfl) ?_
   refine G.nt ?_
   refine W.sub (L' := [(17, _), (16, _), (15, _), (1, _)]) (Sub.cons rfl (Sub.cons rfl (Sub.cons rfl (Sub.cons rfl Sub.nil)))) ?_
   refine W.block ?_
   refine W.loop (σ := Nat) (fun s => ([(1, .pointer (some ⟨b1, 0, none⟩)), (15, va), (16, I64 (((xs.length : Nat) : Int))), (17, I64 (((s : Nat) : Int)))] : Env)) (fun s => blk b1 [I64 (nd), va] 71 :: I) (fun s => (s ≤ xs.length) ∧ (checkS nd xs = scanL (badL nd) Lk.lt (prevAt xs s) (xs.drop s))) (fun s => xs.length - s) (0) (show ((0 : Nat) ≤ xs.length) ∧ (checkS nd xs = scanL (badL nd) Lk.lt (prevAt xs (0 : Nat)) (xs.drop (0 : Nat))) from ⟨(by omega), (by unfold checkS; rw [if_neg (by omega)]; rfl)⟩) (Sub.cons rfl (Sub.cons rfl (Sub.cons rfl (Sub.cons lookO Sub.nil)))) (show Fit κ _ (blk b1 [I64 (nd), va] 71 :: I) from Fit.sub) ?_
   rintro k hp
   obtain ⟨hk, hs⟩ : (k ≤ xs.length) ∧ (checkS nd xs = scanL (badL nd) Lk.lt (prevAt xs k) (xs.drop k)) := hp
   show W Try.prog κ 73 _ _ ([(1, .pointer (some ⟨b1, 0, none⟩)), (15, va), (16, I64 (((xs.length : Nat) : Int))), (17, I64 (((k : Nat) : Int)))] : Env) (blk b1 [I64 (nd), va] 71 :: I)
   refine W.sr ?_
   refine G.r (Runs.lss rfl rfl) ?_
   refine G.nt ?_
   refine W.seq ?_
   refine W.ite rfl (fun c18 => ?_) (fun c18 => ?_)
   ·refine W.skip ?_
    refine V.then ?_
    refine W.seq ?_
    refine W.block ?_
    refine W.sr ?_
    refine G.r (Runs.move rfl) ?_
    refine G.r (Runs.idx (α := Lk) (xs := xs) Try.underlying69 ty158 rfl rfl (Sl.f hl) (by omega) (by omega)) ?_
    refine G.r (Runs.gets (α := Lk) (xs := xs) ty158 rfl (Sl.f hl) (by omega) (by omega)) ?_
    refine G.e (Eff.alloc ty158 rfl) ?_
    rintro _ _ ⟨b2, rfl, rfl⟩
    refine G.r (Runs.assign rfl) ?_
    refine G.e (Eff.st (cs := [_, _, _, _, _, _]) (vs := [_, _, _, _, _, _]) (cs' := [_, _, _, _, _, _]) ty158) ?_
    rintro _ _ ⟨rfl, rfl⟩
    refine G.nt ?_
    refine W.seq ?_
    refine W.sr ?_
    refine G.r (Runs.fieldAddr fld158_0 rfl) ?_
    refine G.r (Runs.ld ty3) ?_
    refine G.r (Runs.lss rfl rfl) ?_
    refine G.r (Runs.move rfl) ?_
    refine G.split (d := 25) rfl (fun g25 => ?_) (fun g25 => ?_)
    ·refine G.po ?_
     refine G.po ?_
     refine G.po ?_
     refine G.po ?_
     refine G.po ?_
     refine G.r (Runs.pickt rfl rfl) ?_
     refine G.r (Runs.move rfl) ?_
     refine G.po ?_
     refine G.po ?_
     refine G.po ?_
     refine G.po ?_
     refine G.po ?_
     refine G.r (Runs.pickt rfl rfl) ?_
     refine G.nt ?_
     refine W.sub (L' := [(38, _), (3, _), (4, _), (1, _), (15, _), (16, _), (17, _)]) (Sub.cons rfl (Sub.cons rfl (Sub.cons rfl (Sub.cons rfl (Sub.cons rfl (Sub.cons rfl (Sub.cons rfl Sub.nil))))))) ?_
     refine W.yes rfl ?_
     refine W.sr ?_
     refine G.r (Runs.assign rfl) ?_
     refine G.nt ?_
     refine W.ret ?_
     refine V.then_ret ?_
     refine V.block_ret ?_
     refine V.then_ret ?_
     refine V.then_ret ?_
     refine V.block_ret ?_
     refine V.then_ret ?_
     exact V.ret1 rfl rfl (I) Fit.m ⟨by rw [show checkS nd xs = 6 from (hs.trans ((scanL_bad (by omega) (by rw [badL_six (by omega)]; decide)).trans (badL_six (by omega))))], rfl⟩
    ·refine G.ro (Runs.fieldAddr fld158_0 rfl) ?_
     refine G.ro (Runs.ld ty3) ?_
     refine G.ro (Runs.fieldAddr fld158_1 rfl) ?_
     refine G.ro (Runs.ld ty3) ?_
     refine G.ro (Runs.geq rfl rfl) ?_
     refine G.r (Runs.pickf rfl rfl) ?_
     refine G.r (Runs.move rfl) ?_
     refine G.split (d := 32) rfl (fun g32 => ?_) (fun g32 => ?_)
     ·refine G.po ?_
      refine G.po ?_
      refine G.po ?_
      refine G.po ?_
      refine G.po ?_
      refine G.r (Runs.pickt rfl rfl) ?_
      refine G.nt ?_
      refine W.sub (L' := [(38, _), (3, _), (4, _), (1, _), (15, _), (16, _), (17, _)]) (Sub.cons rfl (Sub.cons rfl (Sub.cons rfl (Sub.cons rfl (Sub.cons rfl (Sub.cons rfl (Sub.cons rfl Sub.nil))))))) ?_
      refine W.yes rfl ?_
      refine W.sr ?_
      refine G.r (Runs.assign rfl) ?_
      refine G.nt ?_
      refine W.ret ?_
      refine V.then_ret ?_
      refine V.block_ret ?_
      refine V.then_ret ?_
      refine V.then_ret ?_
      refine V.block_ret ?_
      refine V.then_ret ?_
      exact V.ret1 rfl rfl (I) Fit.m ⟨by rw [show checkS nd xs = 6 from (hs.trans ((scanL_bad (by omega) (by rw [badL_six (by omega)]; decide)).trans (badL_six (by omega))))], rfl⟩
     ·refine G.ro (Runs.fieldAddr fld158_1 rfl) ?_
      refine G.ro (Runs.ld ty3) ?_
      refine G.ro (Runs.fieldAddr fld71_0 rfl) ?_
      refine G.ro (Runs.ld ty3) ?_
      refine G.ro (Runs.geq rfl rfl) ?_
      refine G.r (Runs.pickf rfl rfl) ?_
      refine G.nt ?_
      refine W.sub (L' := [(38, _), (3, _), (4, _), (1, _), (15, _), (16, _), (17, _)]) (Sub.cons rfl (Sub.cons rfl (Sub.cons rfl (Sub.cons rfl (Sub.cons rfl (Sub.cons rfl (Sub.cons rfl Sub.nil))))))) ?_
      refine W.ite rfl (fun c38 => ?_) (fun c38 => ?_)
      ·refine W.sr ?_
       refine G.r (Runs.assign rfl) ?_
       refine G.nt ?_
       refine W.ret ?_
       refine V.then_ret ?_
       refine V.block_ret ?_
       refine V.then_ret ?_
       refine V.then_ret ?_
       refine V.block_ret ?_
       refine V.then_ret ?_
       exact V.ret1 rfl rfl (I) Fit.m ⟨by rw [show checkS nd xs = 6 from (hs.trans ((scanL_bad (by omega) (by rw [badL_six (by omega)]; decide)).trans (badL_six (by omega))))], rfl⟩
      ·refine W.skip ?_
       refine V.then ?_
       refine W.seq ?_
       refine W.sr ?_
       refine G.r (Runs.fieldAddr fld158_2 rfl) ?_
       refine G.r (Runs.ld ty3) ?_
       refine G.r (Runs.fieldAddr fld158_3 rfl) ?_
       refine G.r (Runs.ld ty3) ?_
       refine G.r (Runs.fieldAddr fld158_4 rfl) ?_
       refine G.r (Runs.ld ty3) ?_
       refine G.e (Eff.call call191 rfl rfl (Attr4_ok ((at_ xs ((k : Nat) : Int)).w) ((at_ xs ((k : Nat) : Int)).lb) ((at_ xs ((k : Nat) : Int)).sg))) ?_
       rintro _ _ ⟨_, _, ⟨rfl, rfl⟩, rfl, rfl⟩
       refine G.r (Runs.assign rfl) ?_
       refine G.nt ?_
       refine W.sub (L' := [(5, _), (3, _), (4, _), (1, _), (15, _), (16, _), (17, _)]) (Sub.cons rfl (Sub.cons rfl (Sub.cons rfl (Sub.cons rfl (Sub.cons rfl (Sub.cons rfl (Sub.cons rfl Sub.nil))))))) ?_
       refine W.sr ?_
       refine G.r (Runs.move rfl) ?_
       refine G.r (Runs.neq rfl rfl) ?_
       refine G.nt ?_
       refine W.ite rfl (fun c47 => ?_) (fun c47 => ?_)
       ·refine W.sr ?_
        refine G.r (Runs.move rfl) ?_
        refine G.r (Runs.assign rfl) ?_
        refine G.nt ?_
        refine W.ret ?_
        refine V.then_ret ?_
        refine V.block_ret ?_
        refine V.then_ret ?_
        refine V.then_ret ?_
        refine V.block_ret ?_
        refine V.then_ret ?_
        have hnr : ¬ rightW (at_ xs ((k : Nat) : Int)).w (at_ xs ((k : Nat) : Int)).lb (at_ xs ((k : Nat) : Int)).sg := fun h => c47 (if_pos h)
        exact V.ret1 rfl rfl (I) Fit.m ⟨by rw [if_neg hnr, show checkS nd xs = 1 from (by first | (unfold checkS; rw [if_pos (by omega)]; done) | exact hs.trans ((scanL_bad (by omega) (by rw [badL_one (by omega) (by assumption)]; decide)).trans (badL_one (by omega) (by assumption))))], rfl⟩
       ·refine W.skip ?_
        refine V.then ?_
        refine W.seq ?_
        refine W.sr ?_
        refine G.r (Runs.fieldAddr fld158_5 rfl) ?_
        refine G.r (Runs.ld ty3) ?_
        refine G.r (Runs.lss rfl rfl) ?_
        refine G.r (Runs.move rfl) ?_
        refine G.split (d := 52) rfl (fun g52 => ?_) (fun g52 => ?_)
        ·refine G.po ?_
         refine G.po ?_
         refine G.po ?_
         refine G.r (Runs.pickt rfl rfl) ?_
         refine G.nt ?_
         refine W.sub (L' := [(56, _), (3, _), (4, _), (1, _), (15, _), (16, _), (17, _)]) (Sub.cons rfl (Sub.cons rfl (Sub.cons rfl (Sub.cons rfl (Sub.cons rfl (Sub.cons rfl (Sub.cons rfl Sub.nil))))))) ?_
         refine W.yes rfl ?_
         refine W.sr ?_
         refine G.r (Runs.assign rfl) ?_
         refine G.nt ?_
         refine W.ret ?_
         refine V.then_ret ?_
         refine V.block_ret ?_
         refine V.then_ret ?_
         refine V.then_ret ?_
         refine V.block_ret ?_
         refine V.then_ret ?_
         exact V.ret1 rfl rfl (I) Fit.m ⟨by rw [show checkS nd xs = 9 from (hs.trans ((scanL_bad (by omega) (by rw [badL_nine (by omega) (by first | assumption | exact Classical.not_not.1 (by assumption) | exact Classical.byContradiction fun h => c47 (by rw [if_neg h]; decide)) (by omega)]; decide)).trans (badL_nine (by omega) (by first | assumption | exact Classical.not_not.1 (by assumption) | exact Classical.byContradiction fun h => c47 (by rw [if_neg h]; decide)) (by omega))))], rfl⟩
        ·refine G.ro (Runs.fieldAddr fld158_5 rfl) ?_
         refine G.ro (Runs.ld ty3) ?_
         refine G.ro (Runs.gtr rfl rfl) ?_
         refine G.r (Runs.pickf rfl rfl) ?_
         refine G.nt ?_
         refine W.sub (L' := [(56, _), (3, _), (4, _), (1, _), (15, _), (16, _), (17, _)]) (Sub.cons rfl (Sub.cons rfl (Sub.cons rfl (Sub.cons rfl (Sub.cons rfl (Sub.cons rfl (Sub.cons rfl Sub.nil))))))) ?_
         refine W.ite rfl (fun c56 => ?_) (fun c56 => ?_)
         ·refine W.sr ?_
          refine G.r (Runs.assign rfl) ?_
          refine G.nt ?_
          refine W.ret ?_
          refine V.then_ret ?_
          refine V.block_ret ?_
          refine V.then_ret ?_
          refine V.then_ret ?_
          refine V.block_ret ?_
          refine V.then_ret ?_
          exact V.ret1 rfl rfl (I) Fit.m ⟨by rw [show checkS nd xs = 9 from (hs.trans ((scanL_bad (by omega) (by rw [badL_nine (by omega) (by first | assumption | exact Classical.not_not.1 (by assumption) | exact Classical.byContradiction fun h => c47 (by rw [if_neg h]; decide)) (by omega)]; decide)).trans (badL_nine (by omega) (by first | assumption | exact Classical.not_not.1 (by assumption) | exact Classical.byContradiction fun h => c47 (by rw [if_neg h]; decide)) (by omega))))], rfl⟩
         ·refine W.skip ?_
          refine V.then ?_
          refine W.seq ?_
          refine W.drawn mixed ?_
          refine A.hold (blk b2 [I64 ((at_ xs ((k : Nat) : Int)).u), I64 ((at_ xs ((k : Nat) : Int)).v), I64 ((at_ xs ((k : Nat) : Int)).w), I64 ((at_ xs ((k : Nat) : Int)).lb), I64 ((at_ xs ((k : Nat) : Int)).sg), I64 ((at_ xs ((k : Nat) : Int)).tm)] 158 :: blk b1 [I64 (nd), va] 71 :: I) 15 ?_
          refine D.r 0 rfl (Runs.move rfl) ?_
          refine D.r 1 rfl (Runs.gtr rfl rfl) ?_
          refine D.r 2 rfl (Runs.move rfl) ?_
          refine D.split (d := 59) rfl (fun g59 => ?_) (fun g59 => ?_)
          ·refine D.ro 3 rfl (Runs.fieldAddr fld71_1 rfl) ?_
           refine D.ro 4 rfl (Runs.ld ty69) ?_
           refine D.ro 5 rfl (Runs.move rfl) ?_
           refine D.ro 6 rfl (Runs.sub rfl rfl (by unfold InR; omega)) ?_
           refine D.ro 7 rfl (Runs.idx (α := Lk) (xs := xs) Try.underlying69 ty158 rfl rfl (Sl.f hl) (by omega) (by omega)) ?_
           refine D.ro 8 rfl (Runs.gets (α := Lk) (xs := xs) ty158 rfl (Sl.f hl) (by omega) (by omega)) ?_
           refine D.ro 10 rfl (Runs.lds (vs := [_, _, _, _, _, _]) ty158) ?_
           refine D.step (rs := [9]) (by kernel_rfl) rfl rfl (all1 ?_)
           refine Step.eff rfl (Wanted.on rfl rfl rfl) (Eff.call call158 rfl rfl (Edge5_ok (at_ xs (((k : Nat) : Int) - 1)))) ?_
           rintro _ _ ⟨_, _, ⟨rfl, rfl⟩, rfl, rfl⟩
           refine ⟨Fit.m, ?_⟩
           refine D.step (rs := [11]) (by kernel_rfl) rfl rfl (all1 ?_)
           refine Step.eff rfl (Wanted.on rfl rfl rfl) (Eff.call call158 rfl rfl (Edge5_ok (at_ xs ((k : Nat) : Int)))) ?_
           rintro _ _ ⟨_, _, ⟨rfl, rfl⟩, rfl, rfl⟩
           refine ⟨Fit.m, ?_⟩
           refine D.step (rs := [12]) (by kernel_rfl) rfl rfl (all1 ?_)
           refine Step.eff rfl (Wanted.on rfl rfl rfl) (Eff.call call136 rfl rfl (Before03_ok (at_ xs (((k : Nat) : Int) - 1)).p (at_ xs ((k : Nat) : Int)).p)) ?_
           rintro _ _ ⟨_, _, ⟨rfl, rfl⟩, rfl, rfl⟩
           refine ⟨Fit.m, ?_⟩
           refine D.ro 13 rfl (Runs.notd rfl) ?_
           refine D.r 14 rfl (Runs.pickt rfl rfl) ?_
           refine D.done (by kernel_rfl) ?_
           refine V.then ?_
           refine W.sub (L' := [(71, _), (1, _), (15, _), (16, _), (17, _)]) (Sub.cons rfl (Sub.cons rfl (Sub.cons rfl (Sub.cons rfl (Sub.cons rfl Sub.nil))))) ?_
           refine W.ite rfl (fun c71 => ?_) (fun c71 => ?_)
           ·refine W.sr ?_
            refine G.r (Runs.assign rfl) ?_
            refine G.nt ?_
            refine W.ret ?_
            refine V.block_ret ?_
            refine V.then_ret ?_
            refine V.then_ret ?_
            refine V.block_ret ?_
            refine V.then_ret ?_
            exact V.ret1 rfl rfl (I) Fit.m ⟨by rw [show checkS nd xs = 5 from (hs.trans (scanL_order (by omega) (badL_zero (by omega) (by first | assumption | exact Classical.not_not.1 (by assumption) | exact Classical.byContradiction fun h => c47 (by rw [if_neg h]; decide)) (by omega)) (by omega) (by first | assumption | (intro h; have := (Lk.cmp_lt _ _).2 h; omega))))], rfl⟩
           ·refine W.skip ?_
            refine V.block_normal ?_
            refine V.then ?_
            refine W.region ?_
            refine G.r (Runs.add rfl rfl (by unfold InR; omega)) ?_
            refine G.r (Runs.move rfl) ?_
            refine G.nil ?_
            exact V.next ((k + 1)) (show ((k + 1 : Nat) ≤ xs.length) ∧ (checkS nd xs = scanL (badL nd) Lk.lt (prevAt xs (k + 1 : Nat)) (xs.drop (k + 1 : Nat))) from ⟨(by omega), (hs.trans (scanL_step (by omega) (badL_zero (by omega) (by first | assumption | exact Classical.not_not.1 (by assumption) | exact Classical.byContradiction fun h => c47 (by rw [if_neg h]; decide)) (by omega)) (fun h0 => by first | omega | exact (Lk.cmp_lt _ _).1 (by omega) | exact Classical.not_not.1 (by assumption))))⟩) (show xs.length - (k + 1 : Nat) < xs.length - k from (by omega)) (Sub.cons rfl (Sub.cons rfl (Sub.cons rfl (Sub.cons lookO Sub.nil)))) (show Fit κ _ (blk b1 [I64 (nd), va] 71 :: I) from Fit.sub)
          ·refine D.po 3 rfl ?_
           refine D.po 4 rfl ?_
           refine D.po 5 rfl ?_
           refine D.po 6 rfl ?_
           refine D.po 7 rfl ?_
           refine D.po 8 rfl ?_
           refine D.po 10 rfl ?_
           refine D.po 9 rfl ?_
           refine D.po 11 rfl ?_
           refine D.po 12 rfl ?_
           refine D.po 13 rfl ?_
           refine D.r 14 rfl (Runs.pickf rfl rfl) ?_
           refine D.done (by kernel_rfl) ?_
           refine V.then ?_
           refine W.sub (L' := [(71, _), (1, _), (15, _), (16, _), (17, _)]) (Sub.cons rfl (Sub.cons rfl (Sub.cons rfl (Sub.cons rfl (Sub.cons rfl Sub.nil))))) ?_
           refine W.no rfl ?_
           refine W.skip ?_
           refine V.block_normal ?_
           refine V.then ?_
           refine W.region ?_
           refine G.r (Runs.add rfl rfl (by unfold InR; omega)) ?_
           refine G.r (Runs.move rfl) ?_
           refine G.nil ?_
           exact V.next ((k + 1)) (show ((k + 1 : Nat) ≤ xs.length) ∧ (checkS nd xs = scanL (badL nd) Lk.lt (prevAt xs (k + 1 : Nat)) (xs.drop (k + 1 : Nat))) from ⟨(by omega), (hs.trans (scanL_step (by omega) (badL_zero (by omega) (by first | assumption | exact Classical.not_not.1 (by assumption) | exact Classical.byContradiction fun h => c47 (by rw [if_neg h]; decide)) (by omega)) (fun h0 => by first | omega | exact (Lk.cmp_lt _ _).1 (by omega) | exact Classical.not_not.1 (by assumption))))⟩) (show xs.length - (k + 1 : Nat) < xs.length - k from (by omega)) (Sub.cons rfl (Sub.cons rfl (Sub.cons rfl (Sub.cons lookO Sub.nil)))) (show Fit κ _ (blk b1 [I64 (nd), va] 71 :: I) from Fit.sub)
   ·refine W.exit ?_
    refine V.then_exit ?_
    refine V.then_exit ?_
    refine V.block_hit ?_
    refine V.then ?_
    refine W.sr ?_
    refine G.r (Runs.assign rfl) ?_
    refine G.nt ?_
    refine W.ret ?_
    exact V.ret1 rfl rfl (I) Fit.m ⟨by rw [show checkS nd xs = 0 from (hs.trans (scanL_end (by omega)))], rfl⟩

end Go.Sl
namespace Go.Sl
open Go.Proofs
set_option linter.unusedVariables false
set_option linter.unusedSimpArgs false
set_option maxRecDepth 4000
theorem Same4_ok {κ : Ctx} {I : List Item} {va vb : Value} {xs ys : List Ev} (hx : Sl κ I va xs) (hy : Sl κ I vb ys) :
    CallS Try.prog κ 58 [va, vb] I (fun r J => r = .bool (decide (xs = ys)) ∧ I = J) := by
 refine CallS.pull hx.le fun hmax => ?_
 refine CallS.pull hy.le fun hmay => ?_
 refine CallS.enter (L := [(0, va), (1, vb)]) Try.func58 rfl rfl rfl rfl ?_
 refine W.sr ?_
 refine G.r (Runs.assign rfl) ?_
 refine G.nt ?_
 refine W.seq ?_
 refine W.sr ?_
 refine G.r (Runs.move rfl) ?_
 refine G.r (Runs.lenT (α := Ev) (xs := xs) Try.underlying81 rfl (Sl.f hx)) ?_
 refine G.r (Runs.move rfl) ?_
 refine G.r (Runs.lenT (α := Ev) (xs := ys) Try.underlying81 rfl (Sl.f hy)) ?_
 refine G.r (Runs.neq rfl rfl) ?_
 refine G.nt ?_
 refine W.ite rfl (fun c10 => ?_) (fun c10 => ?_)
 ·refine W.sr ?_
  refine G.r (Runs.assign rfl) ?_
  refine G.nt ?_
  refine W.ret ?_
  refine V.then_ret ?_
  exact V.ret1 rfl rfl (I) Fit.m ⟨by rw [decide_eq_false (show ¬ xs = ys from fun e => by first | (have e2 := congrArg List.length e; omega) | (have e3 := congrArg (fun l => at_ l ((k : Nat) : Int)) e; exact absurd e3 (by assumption)))], rfl⟩
 ·refine W.skip ?_
  refine V.then ?_
  refine W.seq ?_
  refine W.sr ?_
  refine G.r (Runs.move rfl) ?_
  refine G.r (Runs.lenT (α := Ev) (xs := xs) Try.underlying81 rfl (Sl.f hx)) ?_
  refine G.r (Runs.move rfl) ?_
  refine G.nt ?_
  refine W.block ?_
  refine W.loop (σ := Nat) (fun s => ([(0, va), (1, vb), (12, I64 (((xs.length : Nat) : Int))), (13, I64 (((s : Nat) : Int)))] : Env)) (fun s => I) (fun s => (s ≤ xs.length) ∧ (∀ j, j < s → at_ xs (j : Int) = at_ ys (j : Int))) (fun s => xs.length - s) (0) (show ((0 : Nat) ≤ xs.length) ∧ (∀ j, j < (0 : Nat) → at_ xs (j : Int) = at_ ys (j : Int)) from ⟨(by omega), all_zero⟩) (Sub.cons rfl (Sub.cons rfl (Sub.cons rfl (Sub.cons lookO Sub.nil)))) (show Fit κ _ (I) from Fit.sub) ?_
  rintro k hp
  obtain ⟨hk, hn⟩ : (k ≤ xs.length) ∧ (∀ j, j < k → at_ xs (j : Int) = at_ ys (j : Int)) := hp
  show W Try.prog κ 26 _ _ ([(0, va), (1, vb), (12, I64 (((xs.length : Nat) : Int))), (13, I64 (((k : Nat) : Int)))] : Env) (I)
  refine W.sr ?_
  refine G.r (Runs.lss rfl rfl) ?_
  refine G.nt ?_
  refine W.seq ?_
  refine W.ite rfl (fun c14 => ?_) (fun c14 => ?_)
  ·refine W.skip ?_
   refine V.then ?_
   refine W.seq ?_
   refine W.block ?_
   refine W.sr ?_
   refine G.r (Runs.move rfl) ?_
   refine G.r (Runs.assign rfl) ?_
   refine G.nt ?_
   refine W.seq ?_
   refine W.drawn mixed ?_
   refine A.hold (I) 9 ?_
   refine D.r 0 rfl (Runs.move rfl) ?_
   refine D.r 1 rfl (Runs.move rfl) ?_
   refine D.r 2 rfl (Runs.idx (α := Ev) (xs := xs) Try.underlying81 ty122 rfl rfl (Sl.f hx) (by omega) (by omega)) ?_
   refine D.r 3 rfl (Runs.gets (α := Ev) (xs := xs) ty122 rfl (Sl.f hx) (by omega) (by omega)) ?_
   refine D.r 4 rfl (Runs.move rfl) ?_
   refine D.r 5 rfl (Runs.move rfl) ?_
   refine D.r 6 rfl (Runs.idx (α := Ev) (xs := ys) Try.underlying81 ty122 rfl rfl (Sl.f hy) (by omega) (by omega)) ?_
   refine D.r 7 rfl (Runs.gets (α := Ev) (xs := ys) ty122 rfl (Sl.f hy) (by omega) (by omega)) ?_
   refine D.r 8 rfl (Runs.neqT (α := Ev) (a := (at_ xs ((k : Nat) : Int))) (b := (at_ ys ((k : Nat) : Int))) eqt122 rfl rfl) ?_
   refine D.done (by kernel_rfl) ?_
   refine V.then ?_
   refine W.sub (L' := [(24, _), (0, _), (1, _), (12, _), (13, _)]) (Sub.cons rfl (Sub.cons rfl (Sub.cons rfl (Sub.cons rfl (Sub.cons rfl Sub.nil))))) ?_
   refine W.ite rfl (fun c24 => ?_) (fun c24 => ?_)
   ·refine W.sr ?_
    refine G.r (Runs.assign rfl) ?_
    refine G.nt ?_
    refine W.ret ?_
    refine V.block_ret ?_
    refine V.then_ret ?_
    refine V.then_ret ?_
    refine V.block_ret ?_
    refine V.then_ret ?_
    exact V.ret1 rfl rfl (I) Fit.m ⟨by rw [decide_eq_false (show ¬ xs = ys from fun e => by first | (have e2 := congrArg List.length e; omega) | (have e3 := congrArg (fun l => at_ l ((k : Nat) : Int)) e; exact absurd e3 (by assumption)))], rfl⟩
   ·refine W.skip ?_
    refine V.block_normal ?_
    refine V.then ?_
    refine W.region ?_
    refine G.r (Runs.add rfl rfl (by unfold InR; omega)) ?_
    refine G.r (Runs.move rfl) ?_
    refine G.nil ?_
    exact V.next ((k + 1)) (show ((k + 1 : Nat) ≤ xs.length) ∧ (∀ j, j < (k + 1 : Nat) → at_ xs (j : Int) = at_ ys (j : Int)) from ⟨(by omega), (all_succ hn (Classical.not_not.1 c24))⟩) (show xs.length - (k + 1 : Nat) < xs.length - k from (by omega)) (Sub.cons rfl (Sub.cons rfl (Sub.cons rfl (Sub.cons lookO Sub.nil)))) (show Fit κ _ (I) from Fit.sub)
  ·refine W.exit ?_
   refine V.then_exit ?_
   refine V.then_exit ?_
   refine V.block_hit ?_
   refine V.then ?_
   refine W.sr ?_
   refine G.r (Runs.assign rfl) ?_
   refine G.nt ?_
   refine W.ret ?_
   exact V.ret1 rfl rfl (I) Fit.m ⟨by rw [decide_eq_true (show xs = ys from ext_atw (by omega) (fun j hj => hn j (by omega)))], rfl⟩

theorem Same5_ok {κ : Ctx} {I : List Item} {n m : Int} {va vb : Value} {xs ys : List Lk} (hx : Sl κ I va xs) (hy : Sl κ I vb ys) :
    CallS Try.prog κ 57 [.agg #[I64 (n), va], .agg #[I64 (m), vb]] I (fun r J => r = .bool (decide (n = m ∧ xs = ys)) ∧ I = J) := by
 refine CallS.pull hx.le fun hmax => ?_
 refine CallS.pull hy.le fun hmay => ?_
 refine CallS.enter (L := [(0, .agg #[I64 (n), va]), (1, .agg #[I64 (m), vb])]) Try.func57 rfl rfl rfl rfl ?_
 refine W.sr ?_
 refine G.e (Eff.box (cs := [_, _]) rfl rfl rfl) ?_
 rintro _ _ ⟨b1, rfl, rfl⟩
 refine G.e (Eff.box (cs := [_, _]) rfl rfl rfl) ?_
 rintro _ _ ⟨b2, rfl, rfl⟩
 refine G.r (Runs.assign rfl) ?_
 refine G.nt ?_
 refine W.seq ?_
 refine W.sr ?_
 refine G.r (Runs.fieldAddr fld71_0 rfl) ?_
 refine G.r (Runs.ld ty3) ?_
 refine G.r (Runs.fieldAddr fld71_0 rfl) ?_
 refine G.r (Runs.ld ty3) ?_
 refine G.r (Runs.neq rfl rfl) ?_
 refine G.r (Runs.move rfl) ?_
 refine G.split (d := 11) rfl (fun g11 => ?_) (fun g11 => ?_)
 ·refine G.po ?_
  refine G.po ?_
  refine G.po ?_
  refine G.po ?_
  refine G.po ?_
  refine G.po ?_
  refine G.po ?_
  refine G.r (Runs.pickt rfl rfl) ?_
  refine G.nt ?_
  refine W.sub (L' := [(19, _), (3, _), (2, _)]) (Sub.cons rfl (Sub.cons rfl (Sub.cons rfl Sub.nil))) ?_
  refine W.yes rfl ?_
  refine W.sr ?_
  refine G.r (Runs.assign rfl) ?_
  refine G.nt ?_
  refine W.ret ?_
  refine V.then_ret ?_
  exact V.ret1 rfl rfl (I) Fit.m ⟨by rw [decide_eq_false (show ¬ (n = m ∧ xs = ys) from fun e => by first | (have e2 := congrArg List.length e.2; omega) | (have e3 := congrArg (fun l => at_ l ((k : Nat) : Int)) e.2; exact absurd e3 (by assumption)) | (have := e.1; omega))], rfl⟩
 ·refine G.ro (Runs.fieldAddr fld71_1 rfl) ?_
  refine G.ro (Runs.ld ty69) ?_
  refine G.ro (Runs.lenT (α := Lk) (xs := xs) Try.underlying69 rfl (Sl.f hx)) ?_
  refine G.ro (Runs.fieldAddr fld71_1 rfl) ?_
  refine G.ro (Runs.ld ty69) ?_
  refine G.ro (Runs.lenT (α := Lk) (xs := ys) Try.underlying69 rfl (Sl.f hy)) ?_
  refine G.ro (Runs.neq rfl rfl) ?_
  refine G.r (Runs.pickf rfl rfl) ?_
  refine G.nt ?_
  refine W.sub (L' := [(19, _), (3, _), (2, _)]) (Sub.cons rfl (Sub.cons rfl (Sub.cons rfl Sub.nil))) ?_
  refine W.ite rfl (fun c19 => ?_) (fun c19 => ?_)
  ·refine W.sr ?_
   refine G.r (Runs.assign rfl) ?_
   refine G.nt ?_
   refine W.ret ?_
   refine V.then_ret ?_
   exact V.ret1 rfl rfl (I) Fit.m ⟨by rw [decide_eq_false (show ¬ (n = m ∧ xs = ys) from fun e => by first | (have e2 := congrArg List.length e.2; omega) | (have e3 := congrArg (fun l => at_ l ((k : Nat) : Int)) e.2; exact absurd e3 (by assumption)) | (have := e.1; omega))], rfl⟩
  ·refine W.skip ?_
   refine V.then ?_
   refine W.seq ?_
   refine W.sr ?_
   refine G.r (Runs.fieldAddr fld71_1 rfl) ?_
   refine G.r (Runs.ld ty69) ?_
   refine G.r (Runs.lenT (α := Lk) (xs := xs) Try.underlying69 rfl (Sl.f hx)) ?_
   refine G.r (Runs.move rfl) ?_
   refine G.nt ?_
   refine W.block ?_
   refine W.loop (σ := Nat) (fun s => ([(2, .pointer (some ⟨b1, 0, none⟩)), (3, .pointer (some ⟨b2, 0, none⟩)), (22, I64 (((xs.length : Nat) : Int))), (23, I64 (((s : Nat) : Int)))] : Env)) (fun s => blk b2 [I64 (m), vb] 71 :: blk b1 [I64 (n), va] 71 :: I) (fun s => (s ≤ xs.length) ∧ (∀ j, j < s → at_ xs (j : Int) = at_ ys (j : Int))) (fun s => xs.length - s) (0) (show ((0 : Nat) ≤ xs.length) ∧ (∀ j, j < (0 : Nat) → at_ xs (j : Int) = at_ ys (j : Int)) from ⟨(by omega), all_zero⟩) (Sub.cons rfl (Sub.cons rfl (Sub.cons rfl (Sub.cons lookO Sub.nil)))) (show Fit κ _ (blk b2 [I64 (m), vb] 71 :: blk b1 [I64 (n), va] 71 :: I) from Fit.sub) ?_
   rintro k hp
   obtain ⟨hk, hn⟩ : (k ≤ xs.length) ∧ (∀ j, j < k → at_ xs (j : Int) = at_ ys (j : Int)) := hp
   show W Try.prog κ 38 _ _ ([(2, .pointer (some ⟨b1, 0, none⟩)), (3, .pointer (some ⟨b2, 0, none⟩)), (22, I64 (((xs.length : Nat) : Int))), (23, I64 (((k : Nat) : Int)))] : Env) (blk b2 [I64 (m), vb] 71 :: blk b1 [I64 (n), va] 71 :: I)
   refine W.sr ?_
   refine G.r (Runs.lss rfl rfl) ?_
   refine G.nt ?_
   refine W.seq ?_
   refine W.ite rfl (fun c24 => ?_) (fun c24 => ?_)
   ·refine W.skip ?_
    refine V.then ?_
    refine W.seq ?_
    refine W.block ?_
    refine W.sr ?_
    refine G.r (Runs.move rfl) ?_
    refine G.r (Runs.assign rfl) ?_
    refine G.nt ?_
    refine W.seq ?_
    refine W.drawn mixed ?_
    refine A.hold (blk b2 [I64 (m), vb] 71 :: blk b1 [I64 (n), va] 71 :: I) 11 ?_
    refine D.r 0 rfl (Runs.fieldAddr fld71_1 rfl) ?_
    refine D.r 1 rfl (Runs.ld ty69) ?_
    refine D.r 2 rfl (Runs.move rfl) ?_
    refine D.r 3 rfl (Runs.idx (α := Lk) (xs := xs) Try.underlying69 ty158 rfl rfl (Sl.f hx) (by omega) (by omega)) ?_
    refine D.r 4 rfl (Runs.gets (α := Lk) (xs := xs) ty158 rfl (Sl.f hx) (by omega) (by omega)) ?_
    refine D.r 5 rfl (Runs.fieldAddr fld71_1 rfl) ?_
    refine D.r 6 rfl (Runs.ld ty69) ?_
    refine D.r 7 rfl (Runs.move rfl) ?_
    refine D.r 8 rfl (Runs.idx (α := Lk) (xs := ys) Try.underlying69 ty158 rfl rfl (Sl.f hy) (by omega) (by omega)) ?_
    refine D.r 9 rfl (Runs.gets (α := Lk) (xs := ys) ty158 rfl (Sl.f hy) (by omega) (by omega)) ?_
    refine D.r 10 rfl (Runs.neqT (α := Lk) (a := (at_ xs ((k : Nat) : Int))) (b := (at_ ys ((k : Nat) : Int))) eqt158 rfl rfl) ?_
    refine D.done (by kernel_rfl) ?_
    refine V.then ?_
    refine W.sub (L' := [(36, _), (2, _), (3, _), (22, _), (23, _)]) (Sub.cons rfl (Sub.cons rfl (Sub.cons rfl (Sub.cons rfl (Sub.cons rfl Sub.nil))))) ?_
    refine W.ite rfl (fun c36 => ?_) (fun c36 => ?_)
    ·refine W.sr ?_
     refine G.r (Runs.assign rfl) ?_
     refine G.nt ?_
     refine W.ret ?_
     refine V.block_ret ?_
     refine V.then_ret ?_
     refine V.then_ret ?_
     refine V.block_ret ?_
     refine V.then_ret ?_
     exact V.ret1 rfl rfl (I) Fit.m ⟨by rw [decide_eq_false (show ¬ (n = m ∧ xs = ys) from fun e => by first | (have e2 := congrArg List.length e.2; omega) | (have e3 := congrArg (fun l => at_ l ((k : Nat) : Int)) e.2; exact absurd e3 (by assumption)) | (have := e.1; omega))], rfl⟩
    ·refine W.skip ?_
     refine V.block_normal ?_
     refine V.then ?_
     refine W.region ?_
     refine G.r (Runs.add rfl rfl (by unfold InR; omega)) ?_
     refine G.r (Runs.move rfl) ?_
     refine G.nil ?_
     exact V.next ((k + 1)) (show ((k + 1 : Nat) ≤ xs.length) ∧ (∀ j, j < (k + 1 : Nat) → at_ xs (j : Int) = at_ ys (j : Int)) from ⟨(by omega), (all_succ hn (Classical.not_not.1 c36))⟩) (show xs.length - (k + 1 : Nat) < xs.length - k from (by omega)) (Sub.cons rfl (Sub.cons rfl (Sub.cons rfl (Sub.cons lookO Sub.nil)))) (show Fit κ _ (blk b2 [I64 (m), vb] 71 :: blk b1 [I64 (n), va] 71 :: I) from Fit.sub)
   ·refine W.exit ?_
    refine V.then_exit ?_
    refine V.then_exit ?_
    refine V.block_hit ?_
    refine V.then ?_
    refine W.sr ?_
    refine G.r (Runs.assign rfl) ?_
    refine G.nt ?_
    refine W.ret ?_
    exact V.ret1 rfl rfl (I) Fit.m ⟨by rw [decide_eq_true (show n = m ∧ xs = ys from ⟨by omega, ext_atw (by omega) (fun j hj => hn j (by omega))⟩)], rfl⟩

end Go.Sl
/- Maps with integer keys: made, filled, looked up. No conditions. -/
namespace Go.Sl
open Go.RowKit (Below)
set_option linter.unusedVariables false
set_option linter.unusedSimpArgs false
set_option linter.unusedSectionVars false
/-- A map's object: its entries, the number of the next one. -/
def mp (r : Nat) (es : List MapEntry) (cl : Nat) : Item where
  fp k := k = r
  ok w := w.heap[r]? = some (.map es.toArray cl)
  loc w w' h hw := (h r rfl).trans hw
section
variable {P : Program} {κ : Ctx} {N : Nat} {Q : Exit → Act → World → Prop} {L : Env} {I J : List Item} {ops : Array Oper} {rest : List Oper}
variable {d : Option Tmp} {ty : TypeId} {ps : String} {af : Array Edge} {gd : Option (Nat × Bool)}
theorem Eff.makeMap {T dd : Nat} (hN : Nat.blt dd N = true) :
    Eff P κ N Q ⟨some dd, .makeMap T none, ty, ps, af, gd⟩ L I fun L' I' => ∃ r, L' = (dd, .map (some r)) :: L ∧ I' = mp r [] 0 :: I :=
  Eff.of_value rfl hN fun a w ha hs =>
    ⟨_, _, _, by simp [execOp, Instr.makeMap, Result.andThen], ⟨_, rfl, rfl⟩, hs.new (hs.alloc (.map #[] 0)) (heap_alloc_new w _) fun k hk => by obtain rfl : k = _ := hk; exact ⟨Nat.le_refl _, by simp⟩⟩
theorem Eff.insertK {x y z : Operand} {T kt et r cl : Nat} {es : List MapEntry} {kd : IntKind} {k v : Value} {I' : List Item} (ht : P.underlying T = some (.map kt et)) (hkt : P.underlying kt = some (.int kd)) (hx : evalO L x = some (.map (some r)))
    (hy : evalO L y = some k) (hz : evalO L z = some v) (hk : MapKept.IsKey (.int kd) k) (hf : Instr.findNow (.int kd) k es 0 = some none) (hat : At I (mp r es cl) (mp r (es ++ [{ key := k, val := v, born := cl }]) (cl + 1)) I') :
    Eff P κ N Q ⟨none, .insert T x y z, ty, ps, af, gd⟩ L I fun L' I'' => L' = L ∧ I'' = I' :=
  Eff.of_skip rfl fun a w ha hs => by
    have hb := (hs.ok _ hat.mem).1
    refine ⟨{ w with heap := w.heap.setIfInBounds r (.map (es ++ [({ key := k, val := v, born := cl } : MapEntry)]).toArray (cl + 1)) }, I', ?_, ⟨rfl, rfl⟩, ?_⟩
    · simp [execOp, ha.eval hx, ha.eval hy, ha.eval hz, Instr.mapUpdate, run_underlying ht, MapKept.run_getObj_map hb, MapKept.run_checkKey hkt hk, MapKept.run_findKey hkt hf, MapKept.run_setObj_map _ hb, Result.andThen]
    · exact hs.upd hat rfl ⟨rfl, Nat.le_refl _⟩ rfl (by simp) (fun k _ hne => (MapKept.heap_set hb).2 k fun e => hne e) (MapKept.heap_set hb).1 fun k hk => .inl hk
theorem Runs.lookupK {x y : Operand} {T kt et r cl i : Nat} {es : List MapEntry} {kd : IntKind} {k v : Value} (ht : P.underlying T = some (.map kt et)) (hkt : P.underlying kt = some (.int kd)) (hx : evalO L x = some (.map (some r)))
    (hy : evalO L y = some k) (hk : MapKept.IsKey (.int kd) k) (hm : mp r es cl ∈ J) (hf : Instr.findNow (.int kd) k es 0 = some (some (i, v))) : Runs P κ N ⟨d, .lookup T x y false, ty, ps, af, gd⟩ L J v :=
  fun a w ha hs => by
    have hb := (hs.ok _ hm).1
    simp [execOp, ha.eval hx, ha.eval hy, Instr.lookup, run_underlying ht, MapKept.run_getObj_map hb, MapKept.run_checkKey hkt hk, MapKept.run_findKey hkt hf, Result.andThen]
end
end Go.Sl
namespace Go.Sl
open Go.Proofs
set_option linter.unusedVariables false
set_option linter.unusedSimpArgs false
set_option maxRecDepth 4000
theorem IndexFuncL {κ : Ctx} {I : List Item} {v : Value} {xs : List Lk} (hl : Sl κ I v xs) {g : FuncId} {cp_ : List Value} {p : Lk → Bool} (hcb : Says Try.prog κ I g cp_ p) :
    CallS Try.prog κ 218 [v, .func (.func g) #[] cp_.toArray] I (fun r J => ∃ y : Int, r = I64 y ∧ IdxF p xs y ∧ I = J) := by
 refine CallS.pull hl.le fun hmax => ?_
 refine CallS.enter (L := [(0, v), (1, .func (.func g) #[] cp_.toArray)]) Try.func218 rfl rfl rfl rfl ?_
 refine W.sr ?_
 refine G.r (Runs.assign rfl) ?_
 refine G.nt ?_
 refine W.seq ?_
 refine W.sr ?_
 refine G.r (Runs.move rfl) ?_
 refine G.r (Runs.lenT (α := Lk) (xs := xs) Try.underlying69 rfl (Sl.f hl)) ?_
 refine G.r (Runs.move rfl) ?_
 refine G.nt ?_
 refine W.block ?_
 refine W.loop (σ := Nat) (fun s => ([(0, v), (1, .func (.func g) #[] cp_.toArray), (7, I64 (((xs.length : Nat) : Int))), (8, I64 (((s : Nat) : Int)))] : Env)) (fun s => I) (fun s => (s ≤ xs.length) ∧ (∀ j, j < s → p (at_ xs (j : Int)) = false)) (fun s => xs.length - s) (0) (show ((0 : Nat) ≤ xs.length) ∧ (∀ j, j < (0 : Nat) → p (at_ xs (j : Int)) = false) from ⟨(by omega), all_zero⟩) (Sub.cons rfl (Sub.cons rfl (Sub.cons rfl (Sub.cons lookO Sub.nil)))) (show Fit κ _ (I) from Fit.sub) ?_
 rintro k hp
 obtain ⟨hk, hn⟩ : (k ≤ xs.length) ∧ (∀ j, j < k → p (at_ xs (j : Int)) = false) := hp
 show W Try.prog κ 19 _ _ ([(0, v), (1, .func (.func g) #[] cp_.toArray), (7, I64 (((xs.length : Nat) : Int))), (8, I64 (((k : Nat) : Int)))] : Env) (I)
 refine W.sr ?_
 refine G.r (Runs.lss rfl rfl) ?_
 refine G.nt ?_
 refine W.seq ?_
 refine W.ite rfl (fun c9 => ?_) (fun c9 => ?_)
 ·refine W.skip ?_
  refine V.then ?_
  refine W.seq ?_
  refine W.block ?_
  refine W.sr ?_
  refine G.r (Runs.move rfl) ?_
  refine G.r (Runs.assign rfl) ?_
  refine G.nt ?_
  refine W.sr ?_
  refine G.r (Runs.move rfl) ?_
  refine G.r (Runs.move rfl) ?_
  refine G.r (Runs.move rfl) ?_
  refine G.r (Runs.idx (α := Lk) (xs := xs) Try.underlying69 ty158 rfl rfl (Sl.f hl) (by omega) (by omega)) ?_
  refine G.r (Runs.gets (α := Lk) (xs := xs) ty158 rfl (Sl.f hl) (by omega) (by omega)) ?_
  refine G.e (Eff.callv hcb.1 (first := []) (caps := cp_) rfl rfl rfl (hcb.2 (at_ xs ((k : Nat) : Int)) _ Fit.m)) ?_
  rintro _ _ ⟨_, _, ⟨rfl, rfl⟩, rfl, rfl⟩
  refine G.nt ?_
  refine W.cond rfl (fun c16 => ?_) (fun c16 => ?_)
  ·refine W.sr ?_
   refine G.r (Runs.move rfl) ?_
   refine G.r (Runs.assign rfl) ?_
   refine G.nt ?_
   refine W.sub (L' := [(4, _)]) (Sub.cons rfl Sub.nil) ?_
   refine W.ret ?_
   refine V.block_ret ?_
   refine V.then_ret ?_
   refine V.then_ret ?_
   refine V.block_ret ?_
   refine V.then_ret ?_
   exact V.ret1 rfl rfl (I) Fit.m ⟨_, rfl, .inr ⟨by omega, by omega, fun j hj => hn j (by omega), c16⟩, rfl⟩
  ·refine W.skip ?_
   refine V.block_normal ?_
   refine V.then ?_
   refine W.region ?_
   refine G.r (Runs.add rfl rfl (by unfold InR; omega)) ?_
   refine G.r (Runs.move rfl) ?_
   refine G.nil ?_
   exact V.next ((k + 1)) (show ((k + 1 : Nat) ≤ xs.length) ∧ (∀ j, j < (k + 1 : Nat) → p (at_ xs (j : Int)) = false) from ⟨(by omega), (all_succ hn c16)⟩) (show xs.length - (k + 1 : Nat) < xs.length - k from (by omega)) (Sub.cons rfl (Sub.cons rfl (Sub.cons rfl (Sub.cons lookO Sub.nil)))) (show Fit κ _ (I) from Fit.sub)
 ·refine W.exit ?_
  refine V.then_exit ?_
  refine V.then_exit ?_
  refine V.block_hit ?_
  refine V.then ?_
  refine W.sr ?_
  refine G.r (Runs.assign rfl) ?_
  refine G.nt ?_
  refine W.ret ?_
  exact V.ret1 rfl rfl (I) Fit.m ⟨_, rfl, .inl ⟨rfl, fun j hj => hn j (by omega)⟩, rfl⟩

theorem ContainsFuncL {κ : Ctx} {I : List Item} {v : Value} {xs : List Lk} (hl : Sl κ I v xs) {g : FuncId} {cp_ : List Value} {p : Lk → Bool} (hcb : Says Try.prog κ I g cp_ p) :
    CallS Try.prog κ 176 [v, .func (.func g) #[] cp_.toArray] I (fun r J => r = .bool (xs.any p) ∧ I = J) := by
 refine CallS.enter (L := [(0, v), (1, .func (.func g) #[] cp_.toArray)]) Try.func176 rfl rfl rfl rfl ?_
 refine W.sr ?_
 refine G.r (Runs.assign rfl) ?_
 refine G.nt ?_
 refine W.sr ?_
 refine G.r (Runs.move rfl) ?_
 refine G.r (Runs.move rfl) ?_
 refine G.e (Eff.call call218 rfl rfl (IndexFuncL (Sl.f hl) (Says.fit hcb Fit.m))) ?_
 rintro _ _ ⟨_, _, ⟨y1, rfl, hy1, rfl⟩, rfl, rfl⟩
 refine G.r (Runs.geq rfl rfl) ?_
 refine G.r (Runs.assign rfl) ?_
 refine G.nt ?_
 refine W.ret ?_
 exact V.ret1 rfl rfl (I) Fit.m ⟨by rw [← IdxF.any (by assumption)], rfl⟩

theorem Asked1_ok {κ : Ctx} {I : List Item} {b : Nat} {nw : Int} (hb : BlkRd κ I b [I64 nw] 3) (x : Lk) :
    CallS Try.prog κ 177 [.agg #[I64 (x.u), I64 (x.v), I64 (x.w), I64 (x.lb), I64 (x.sg), I64 (x.tm)], .pointer (some ⟨b, 0, none⟩)] I (fun r J => r = .bool (decide (nw < x.tm)) ∧ I = J) := by
 refine CallS.enter (L := [(0, .agg #[I64 (x.u), I64 (x.v), I64 (x.w), I64 (x.lb), I64 (x.sg), I64 (x.tm)]), (1, .pointer (some ⟨b, 0, none⟩))]) Try.func177 rfl rfl rfl rfl ?_
 refine W.sr ?_
 refine G.e (Eff.box (cs := [_, _, _, _, _, _]) rfl rfl rfl) ?_
 rintro _ _ ⟨b1, rfl, rfl⟩
 refine G.r (Runs.assign rfl) ?_
 refine G.nt ?_
 refine W.sr ?_
 refine G.r (Runs.fieldAddr fld158_5 rfl) ?_
 refine G.r (Runs.ld ty3) ?_
 refine G.r (Runs.loadB ty3 rfl (BlkRd.fit hb Fit.m) rfl) ?_
 refine G.r (Runs.gtr rfl rfl) ?_
 refine G.r (Runs.assign rfl) ?_
 refine G.nt ?_
 refine W.ret ?_
 exact V.ret1 rfl rfl (I) Fit.m ⟨rfl, rfl⟩

theorem Asked1_says {κ : Ctx} {I : List Item} {b : Nat} {nw : Int} (hb : BlkRd κ I b [I64 nw] 3) : Says Try.prog κ I 177 [.pointer (some ⟨b, 0, none⟩)] (fun x : Lk => decide (nw < x.tm)) := ⟨call177, fun x J hf => Asked1_ok (hb.fit hf) x⟩

theorem Asked_ok {κ : Ctx} {I : List Item} {nd kd wd mo nw : Int} {va : Value} {xs : List Lk} (hl : Sl κ I va xs) :
    CallS Try.prog κ 115 [.agg #[I64 (nd), va], .agg #[I64 (kd), I64 (wd), I64 (mo)], I64 (nw)] I (fun r J => r = I64 (askE nd xs kd wd mo nw) ∧ I = J) := by
 refine CallS.pull hl.le fun hmax => ?_
 refine CallS.enter (L := [(0, .agg #[I64 (nd), va]), (1, .agg #[I64 (kd), I64 (wd), I64 (mo)]), (2, I64 (nw))]) Try.func115 rfl rfl rfl rfl ?_
 refine W.sr ?_
 refine G.e (Eff.box (cs := [_, _]) rfl rfl rfl) ?_
 rintro _ _ ⟨b1, rfl, rfl⟩
 refine G.e (Eff.box (cs := [_, _, _]) rfl rfl rfl) ?_
 rintro _ _ ⟨b2, rfl, rfl⟩
 refine G.e (Eff.box (cs := [_]) rfl rfl rfl) ?_
 rintro _ _ ⟨b3, rfl, rfl⟩
 refine G.r (Runs.assign rfl) ?_
 refine G.nt ?_
 refine W.seq ?_
 refine W.sr ?_
 refine G.r (Runs.lds (vs := [_, _, _]) ty73) ?_
 refine G.e (Eff.call call61 rfl rfl (CheckW_ok kd wd mo)) ?_
 rintro _ _ ⟨_, _, ⟨rfl, rfl⟩, rfl, rfl⟩
 refine G.r (Runs.assign rfl) ?_
 refine G.nt ?_
 refine W.sr ?_
 refine G.r (Runs.move rfl) ?_
 refine G.r (Runs.neq rfl rfl) ?_
 refine G.nt ?_
 refine W.ite rfl (fun c12 => ?_) (fun c12 => ?_)
 ·refine W.sr ?_
  refine G.r (Runs.move rfl) ?_
  refine G.r (Runs.assign rfl) ?_
  refine G.nt ?_
  refine W.sub (L' := [(6, _)]) (Sub.cons rfl Sub.nil) ?_
  refine W.ret ?_
  refine V.then_ret ?_
  exact V.ret1 rfl rfl (I) Fit.m ⟨by rw [show askE nd xs kd wd mo nw = checkW kd wd mo from (by unfold askE; rw [if_pos c12])], rfl⟩
 ·refine W.skip ?_
  refine V.then ?_
  refine W.seq ?_
  refine W.sr ?_
  refine G.r (Runs.lds (vs := [_, _]) ty71) ?_
  refine G.e (Eff.call call122 rfl rfl (CheckS_ok (nd := nd) (Sl.f hl))) ?_
  rintro _ _ ⟨_, _, ⟨rfl, rfl⟩, rfl, rfl⟩
  refine G.r (Runs.assign rfl) ?_
  refine G.nt ?_
  refine W.sub (L' := [(8, _), (5, _), (3, _)]) (Sub.cons rfl (Sub.cons rfl (Sub.cons rfl Sub.nil))) ?_
  refine W.sr ?_
  refine G.r (Runs.move rfl) ?_
  refine G.r (Runs.neq rfl rfl) ?_
  refine G.nt ?_
  refine W.ite rfl (fun c17 => ?_) (fun c17 => ?_)
  ·refine W.sr ?_
   refine G.r (Runs.move rfl) ?_
   refine G.r (Runs.assign rfl) ?_
   refine G.nt ?_
   refine W.ret ?_
   refine V.then_ret ?_
   exact V.ret1 rfl rfl (I) Fit.m ⟨by rw [show askE nd xs kd wd mo nw = checkS nd xs from (by unfold askE; rw [if_neg c12, if_pos c17])], rfl⟩
  ·refine W.skip ?_
   refine V.then ?_
   refine W.seq ?_
   refine W.sr ?_
   refine G.r (Runs.ld ty3) ?_
   refine G.r (Runs.lss rfl rfl) ?_
   refine G.r (Runs.move rfl) ?_
   refine G.split (d := 21) rfl (fun g21 => ?_) (fun g21 => ?_)
   ·refine G.po ?_
    refine G.po ?_
    refine G.r (Runs.pickt rfl rfl) ?_
    refine G.r (Runs.move rfl) ?_
    refine G.po ?_
    refine G.po ?_
    refine G.po ?_
    refine G.po ?_
    refine G.r (Runs.pickt rfl rfl) ?_
    refine G.nt ?_
    refine W.sub (L' := [(30, _)]) (Sub.cons rfl Sub.nil) ?_
    refine W.yes rfl ?_
    refine W.sr ?_
    refine G.r (Runs.assign rfl) ?_
    refine G.nt ?_
    refine W.ret ?_
    refine V.then_ret ?_
    exact V.ret1 rfl rfl (I) Fit.m ⟨by rw [show askE nd xs kd wd mo nw = 9 from (by unfold askE; rw [if_neg c12, if_neg c17, if_pos (by first | omega | (simp only [*]; done) | exact .inr (.inr (by assumption)) | exact .inr (.inr c30))])], rfl⟩
   ·refine G.ro (Runs.ld ty3) ?_
    refine G.ro (Runs.gtr rfl rfl) ?_
    refine G.r (Runs.pickf rfl rfl) ?_
    refine G.r (Runs.move rfl) ?_
    refine G.split (d := 25) rfl (fun g25 => ?_) (fun g25 => ?_)
    ·refine G.po ?_
     refine G.po ?_
     refine G.po ?_
     refine G.po ?_
     refine G.r (Runs.pickt rfl rfl) ?_
     refine G.nt ?_
     refine W.sub (L' := [(30, _)]) (Sub.cons rfl Sub.nil) ?_
     refine W.yes rfl ?_
     refine W.sr ?_
     refine G.r (Runs.assign rfl) ?_
     refine G.nt ?_
     refine W.ret ?_
     refine V.then_ret ?_
     exact V.ret1 rfl rfl (I) Fit.m ⟨by rw [show askE nd xs kd wd mo nw = 9 from (by unfold askE; rw [if_neg c12, if_neg c17, if_pos (by first | omega | (simp only [*]; done) | exact .inr (.inr (by assumption)) | exact .inr (.inr c30))])], rfl⟩
    ·refine G.ro (Runs.fieldAddr fld71_1 rfl) ?_
     refine G.ro (Runs.ld ty69) ?_
     refine G.ro (Runs.makeFunc rfl rfl) ?_
     refine G.eff (Wanted.on rfl rfl rfl) (Eff.call call176 rfl rfl (ContainsFuncL (Sl.f hl) (Asked1_says (BlkRd.of (by repeat (first | exact List.mem_cons_self | apply List.mem_cons_of_mem)))))) ?_
     rintro _ _ ⟨_, _, ⟨rfl, rfl⟩, rfl, rfl⟩
     refine G.r (Runs.pickf rfl rfl) ?_
     refine G.nt ?_
     refine W.sub (L' := [(30, _)]) (Sub.cons rfl Sub.nil) ?_
     refine W.cond rfl (fun c30 => ?_) (fun c30 => ?_)
     ·refine W.sr ?_
      refine G.r (Runs.assign rfl) ?_
      refine G.nt ?_
      refine W.ret ?_
      refine V.then_ret ?_
      exact V.ret1 rfl rfl (I) Fit.m ⟨by rw [show askE nd xs kd wd mo nw = 9 from (by unfold askE; rw [if_neg c12, if_neg c17, if_pos (by first | omega | (simp only [*]; done) | exact .inr (.inr (by assumption)) | exact .inr (.inr c30))])], rfl⟩
     ·refine W.skip ?_
      refine V.then ?_
      refine W.sr ?_
      refine G.r (Runs.assign rfl) ?_
      refine G.nt ?_
      refine W.ret ?_
      exact V.ret1 rfl rfl (I) Fit.m ⟨by rw [show askE nd xs kd wd mo nw = 0 from (by unfold askE; rw [if_neg c12, if_neg c17, if_neg (by rintro (h | h | h) <;> first | omega | (exact absurd (c30.symm.trans h) (by decide)))])], rfl⟩

end Go.Sl
namespace Go.Sl
open Go.Proofs
set_option linter.unusedVariables false
set_option linter.unusedSimpArgs false
set_option maxRecDepth 4000
theorem All1_ok {κ : Ctx} {I : List Item} (x : Lk) :
    CallS Try.prog κ 179 [.agg #[I64 (x.u), I64 (x.v), I64 (x.w), I64 (x.lb), I64 (x.sg), I64 (x.tm)]] I (fun r J => r = .bool true ∧ I = J) := by
 refine CallS.enter (L := [(0, .agg #[I64 (x.u), I64 (x.v), I64 (x.w), I64 (x.lb), I64 (x.sg), I64 (x.tm)])]) Try.func179 rfl rfl rfl rfl ?_
 refine W.sr ?_
 refine G.e (Eff.box (cs := [_, _, _, _, _, _]) rfl rfl rfl) ?_
 rintro _ _ ⟨b1, rfl, rfl⟩
 refine G.r (Runs.assign rfl) ?_
 refine G.nt ?_
 refine W.sr ?_
 refine G.r (Runs.assign rfl) ?_
 refine G.nt ?_
 refine W.ret ?_
 exact V.ret1 rfl rfl (I) Fit.m ⟨rfl, rfl⟩

theorem Age1_ok {κ : Ctx} {I : List Item} {b c : Nat} {nw kd wd mo : Int} (hb : BlkRd κ I b [I64 nw] 3) (hc : BlkRd κ I c [I64 kd, I64 wd, I64 mo] 73) (x : Lk) :
    CallS Try.prog κ 181 [.agg #[I64 (x.u), I64 (x.v), I64 (x.w), I64 (x.lb), I64 (x.sg), I64 (x.tm)], .pointer (some ⟨b, 0, none⟩), .pointer (some ⟨c, 0, none⟩)] I (fun r J => r = .bool (decide (IntKind.i64.wrap (nw - x.tm) < wd)) ∧ I = J) := by
 refine CallS.enter (L := [(0, .agg #[I64 (x.u), I64 (x.v), I64 (x.w), I64 (x.lb), I64 (x.sg), I64 (x.tm)]), (1, .pointer (some ⟨b, 0, none⟩)), (2, .pointer (some ⟨c, 0, none⟩))]) Try.func181 rfl rfl rfl rfl ?_
 refine W.sr ?_
 refine G.e (Eff.box (cs := [_, _, _, _, _, _]) rfl rfl rfl) ?_
 rintro _ _ ⟨b1, rfl, rfl⟩
 refine G.r (Runs.assign rfl) ?_
 refine G.nt ?_
 refine W.sr ?_
 refine G.r (Runs.loadB ty3 rfl (BlkRd.fit hb Fit.m) rfl) ?_
 refine G.r (Runs.fieldAddr fld158_5 rfl) ?_
 refine G.r (Runs.ld ty3) ?_
 refine G.r (Runs.subw rfl rfl) ?_
 refine G.r (Runs.fieldAddr fld73_1 rfl) ?_
 refine G.r (Runs.loadB ty3 rfl (BlkRd.fit hc Fit.m) rfl) ?_
 refine G.r (Runs.lss rfl rfl) ?_
 refine G.r (Runs.assign rfl) ?_
 refine G.nt ?_
 refine W.ret ?_
 exact V.ret1 rfl rfl (I) Fit.m ⟨rfl, rfl⟩

theorem flk_yes {p : Lk → Bool} {xs : List Lk} {k : Nat} (hk : k < xs.length) (h : p (at_ xs (k : Int)) = true) : (xs.take (k + 1)).filter p = (xs.take k).filter p ++ [at_ xs (k : Int)] := by
  rw [take_at xs k hk, List.filter_append]; simp [h]
theorem flk_no {p : Lk → Bool} {xs : List Lk} {k : Nat} (hk : k < xs.length) (h : p (at_ xs (k : Int)) = false) : (xs.take (k + 1)).filter p = (xs.take k).filter p := by
  rw [take_at xs k hk, List.filter_append]; simp [h]

theorem All1_says {κ : Ctx} {I : List Item} : Says Try.prog κ I 179 [] (fun _ : Lk => true) := ⟨call179, fun x J hf => All1_ok x⟩
theorem Age1_says {κ : Ctx} {I : List Item} {b c : Nat} {nw kd wd mo : Int} (hb : BlkRd κ I b [I64 nw] 3) (hc : BlkRd κ I c [I64 kd, I64 wd, I64 mo] 73) : Says Try.prog κ I 181 [.pointer (some ⟨b, 0, none⟩), .pointer (some ⟨c, 0, none⟩)] (fun x : Lk => decide (IntKind.i64.wrap (nw - x.tm) < wd)) := ⟨call181, fun x J hf => Age1_ok (hb.fit hf) (hc.fit hf) x⟩

theorem Rule1_ok {κ : Ctx} {I : List Item} {nd kd wd mo nw : Int} {va : Value} :
    CallS Try.prog κ 178 [.agg #[I64 (nd), va], .agg #[I64 (kd), I64 (wd), I64 (mo)], I64 (nw)] I (fun r J => r = .func (.func 179) #[] #[] ∧ I = J) := by
 refine CallS.enter (L := [(0, .agg #[I64 (nd), va]), (1, .agg #[I64 (kd), I64 (wd), I64 (mo)]), (2, I64 (nw))]) Try.func178 rfl rfl rfl rfl ?_
 refine W.sr ?_
 refine G.e (Eff.box (cs := [_, _]) rfl rfl rfl) ?_
 rintro _ _ ⟨b1, rfl, rfl⟩
 refine G.e (Eff.box (cs := [_, _, _]) rfl rfl rfl) ?_
 rintro _ _ ⟨b2, rfl, rfl⟩
 refine G.r (Runs.assign rfl) ?_
 refine G.nt ?_
 refine W.sr ?_
 refine G.r (Runs.assign rfl) ?_
 refine G.nt ?_
 refine W.ret ?_
 exact V.ret1 rfl rfl (I) Fit.m ⟨rfl, rfl⟩

theorem Rule2_ok {κ : Ctx} {I : List Item} {nd kd wd mo nw : Int} {va : Value} :
    CallS Try.prog κ 180 [.agg #[I64 (nd), va], .agg #[I64 (kd), I64 (wd), I64 (mo)], I64 (nw)] I (fun r J => ∃ b c, r = .func (.func 181) #[] #[.pointer (some ⟨b, 0, none⟩), .pointer (some ⟨c, 0, none⟩)] ∧ J = blk b [I64 nw] 3 :: blk c [I64 kd, I64 wd, I64 mo] 73 :: I) := by
 refine CallS.enter (L := [(0, .agg #[I64 (nd), va]), (1, .agg #[I64 (kd), I64 (wd), I64 (mo)]), (2, I64 (nw))]) Try.func180 rfl rfl rfl rfl ?_
 refine W.sr ?_
 refine G.e (Eff.box (cs := [_, _]) rfl rfl rfl) ?_
 rintro _ _ ⟨b1, rfl, rfl⟩
 refine G.e (Eff.box (cs := [_, _, _]) rfl rfl rfl) ?_
 rintro _ _ ⟨b2, rfl, rfl⟩
 refine G.e (Eff.box (cs := [_]) rfl rfl rfl) ?_
 rintro _ _ ⟨b3, rfl, rfl⟩
 refine G.r (Runs.assign rfl) ?_
 refine G.nt ?_
 refine W.sr ?_
 refine G.r (Runs.makeFunc rfl rfl) ?_
 refine G.r (Runs.assign rfl) ?_
 refine G.nt ?_
 refine W.ret ?_
 exact V.ret1 rfl rfl (blk b3 [I64 (nw)] 3 :: blk b2 [I64 (kd), I64 (wd), I64 (mo)] 73 :: I) Fit.sub ⟨b3, b2, rfl, rfl⟩

theorem Rules_ok {κ : Ctx} {I : List Item}  :
    CallS Try.prog κ 117 [] I (fun r J => ∃ m, r = .map (some m) ∧ J = mp m [({ key := I64 (1), val := .func (.func 178) #[] #[], born := 0 } : MapEntry), ({ key := I64 (2), val := .func (.func 180) #[] #[], born := 1 } : MapEntry), ({ key := I64 (3), val := .func (.func 182) #[] #[], born := 2 } : MapEntry)] 3 :: I) := by
 refine CallS.enter (L := []) Try.func117 rfl rfl rfl rfl ?_
 refine W.sr ?_
 refine G.r (Runs.assign rfl) ?_
 refine G.nt ?_
 refine W.sr ?_
 refine G.e (Eff.makeMap rfl) ?_
 rintro _ _ ⟨mr1, rfl, rfl⟩
 refine G.e (Eff.insertK Try.underlying163 Try.underlying3 rfl rfl rfl rfl rfl (by repeat (first | exact At.head _ _ _ | apply At.tail))) ?_
 rintro _ _ ⟨rfl, rfl⟩
 refine G.e (Eff.insertK Try.underlying163 Try.underlying3 rfl rfl rfl rfl rfl (by repeat (first | exact At.head _ _ _ | apply At.tail))) ?_
 rintro _ _ ⟨rfl, rfl⟩
 refine G.e (Eff.insertK Try.underlying163 Try.underlying3 rfl rfl rfl rfl rfl (by repeat (first | exact At.head _ _ _ | apply At.tail))) ?_
 rintro _ _ ⟨rfl, rfl⟩
 refine G.r (Runs.move rfl) ?_
 refine G.r (Runs.assign rfl) ?_
 refine G.nt ?_
 refine W.ret ?_
 exact V.ret1 rfl rfl (mp mr1 [({ key := I64 (1), val := .func (.func 178) #[] #[], born := 0 } : MapEntry), ({ key := I64 (2), val := .func (.func 180) #[] #[], born := 1 } : MapEntry), ({ key := I64 (3), val := .func (.func 182) #[] #[], born := 2 } : MapEntry)] 3 :: I) Fit.sub ⟨mr1, rfl, rfl⟩

theorem Only_ok {κ : Ctx} {I : List Item} {nd : Int} {va : Value} {xs : List Lk} (hl : Sl κ I va xs) {g : FuncId} {cp_ : List Value} {p : Lk → Bool} (hcb : Says Try.prog κ I g cp_ p) (hsz : xs.length ≤ 1000000) :
    CallS Try.prog κ 116 [.agg #[I64 (nd), va], .func (.func g) #[] cp_.toArray] I (fun r J => ∃ a c, r = .agg #[I64 nd, .slice a (xs.filter p).length c] ∧ J = vc 158 (.slice a (xs.filter p).length c) (xs.filter p) :: I) := by
 refine CallS.pull hl.le fun hmax => ?_
 refine CallS.enter (L := [(0, .agg #[I64 (nd), va]), (1, .func (.func g) #[] cp_.toArray)]) Try.func116 rfl rfl rfl rfl ?_
 refine W.sr ?_
 refine G.e (Eff.box (cs := [_, _]) rfl rfl rfl) ?_
 rintro _ _ ⟨b1, rfl, rfl⟩
 refine G.e (Eff.alloc ty71 rfl) ?_
 rintro _ _ ⟨b2, rfl, rfl⟩
 refine G.nt ?_
 refine W.sr ?_
 refine G.r (Runs.fieldAddr fld71_0 rfl) ?_
 refine G.r (Runs.ld ty3) ?_
 refine G.r (Runs.build (cells := [_, _]) ty71 Try.underlying71 pl71 rfl rfl) ?_
 refine G.e (Eff.alloc ty71 rfl) ?_
 rintro _ _ ⟨b3, rfl, rfl⟩
 refine G.e (Eff.st (cs := [_, _]) (vs := [_, _]) (cs' := [_, _]) ty71) ?_
 rintro _ _ ⟨rfl, rfl⟩
 refine G.nt ?_
 refine W.seq ?_
 refine W.sr ?_
 refine G.r (Runs.fieldAddr fld71_1 rfl) ?_
 refine G.r (Runs.ld ty69) ?_
 refine G.r (Runs.lenT (α := Lk) (xs := xs) Try.underlying69 rfl (Sl.f hl)) ?_
 refine G.r (Runs.move rfl) ?_
 refine G.nt ?_
 refine W.block ?_
 refine W.loop (σ := Nat × (Option Addr) × Nat × (List Lk)) (fun s => ([(1, .func (.func g) #[] cp_.toArray), (4, .pointer (some ⟨b2, 0, none⟩)), (5, .pointer (some ⟨b3, 0, none⟩)), (12, va), (13, I64 (((xs.length : Nat) : Int))), (14, I64 (((s.1 : Nat) : Int)))] : Env)) (fun s => vc 158 (.slice s.2.1 s.2.2.2.length s.2.2.1) (s.2.2.2) :: blk b3 [I64 (nd), .slice s.2.1 s.2.2.2.length s.2.2.1] 71 :: blk b2 [I64 (0), .slice none 0 0] 71 :: blk b1 [I64 (nd), va] 71 :: I) (fun s => (s.1 ≤ xs.length) ∧ (s.2.2.2 = (xs.take s.1).filter p)) (fun s => xs.length - s.1) (0, none, 0, []) (show ((0 : Nat) ≤ xs.length) ∧ (([] : List Lk) = (xs.take (0 : Nat)).filter p) from ⟨(by omega), rfl⟩) (Sub.cons rfl (Sub.cons rfl (Sub.cons rfl (Sub.cons rfl (Sub.cons rfl (Sub.cons lookO Sub.nil)))))) (show Fit κ _ (vc 158 (.slice (none) ([]).length (0)) (([])) :: blk b3 [I64 (nd), .slice (none) ([]).length (0)] 71 :: blk b2 [I64 (0), .slice none 0 0] 71 :: blk b1 [I64 (nd), va] 71 :: I) from (Fit.nilvc _ _)) ?_
 rintro ⟨k, a, c, out⟩ hp
 obtain ⟨hk, ho⟩ : (k ≤ xs.length) ∧ (out = (xs.take k).filter p) := hp
 show W Try.prog κ 29 _ _ ([(1, .func (.func g) #[] cp_.toArray), (4, .pointer (some ⟨b2, 0, none⟩)), (5, .pointer (some ⟨b3, 0, none⟩)), (12, va), (13, I64 (((xs.length : Nat) : Int))), (14, I64 (((k : Nat) : Int)))] : Env) (vc 158 (.slice a out.length c) (out) :: blk b3 [I64 (nd), .slice a out.length c] 71 :: blk b2 [I64 (0), .slice none 0 0] 71 :: blk b1 [I64 (nd), va] 71 :: I)
 have hol : out.length ≤ xs.length := by rw [ho]; refine Nat.le_trans (List.length_filter_le _ _) ?_; simp only [List.length_take]; omega
 refine W.sr ?_
 refine G.r (Runs.lss rfl rfl) ?_
 refine G.nt ?_
 refine W.seq ?_
 refine W.ite rfl (fun c15 => ?_) (fun c15 => ?_)
 ·refine W.skip ?_
  refine V.then ?_
  refine W.seq ?_
  refine W.block ?_
  refine W.sr ?_
  refine G.r (Runs.idx (α := Lk) (xs := xs) Try.underlying69 ty158 rfl rfl (Sl.f hl) (by omega) (by omega)) ?_
  refine G.r (Runs.gets (α := Lk) (xs := xs) ty158 rfl (Sl.f hl) (by omega) (by omega)) ?_
  refine G.e (Eff.alloc ty158 rfl) ?_
  rintro _ _ ⟨b4, rfl, rfl⟩
  refine G.e (Eff.st (cs := [_, _, _, _, _, _]) (vs := [_, _, _, _, _, _]) (cs' := [_, _, _, _, _, _]) ty158) ?_
  rintro _ _ ⟨rfl, rfl⟩
  refine G.nt ?_
  refine W.sr ?_
  refine G.r (Runs.move rfl) ?_
  refine G.r (Runs.lds (vs := [_, _, _, _, _, _]) ty158) ?_
  refine G.e (Eff.callv hcb.1 (first := []) (caps := cp_) rfl rfl rfl (hcb.2 (at_ xs ((k : Nat) : Int)) _ Fit.m)) ?_
  rintro _ _ ⟨_, _, ⟨rfl, rfl⟩, rfl, rfl⟩
  refine G.nt ?_
  refine W.cond rfl (fun c20 => ?_) (fun c20 => ?_)
  ·refine W.region ?_
   refine G.r (Runs.fieldAddr fld71_1 rfl) ?_
   refine G.r (Runs.ld ty69) ?_
   refine G.r (Runs.lds (vs := [_, _, _, _, _, _]) ty158) ?_
   refine G.e (Eff.bs (α := Lk) (cs := [I64 ((at_ xs ((k : Nat) : Int)).u), I64 ((at_ xs ((k : Nat) : Int)).v), I64 ((at_ xs ((k : Nat) : Int)).w), I64 ((at_ xs ((k : Nat) : Int)).lb), I64 ((at_ xs ((k : Nat) : Int)).sg), I64 ((at_ xs ((k : Nat) : Int)).tm)]) (xs := [⟨(at_ xs ((k : Nat) : Int)).u, (at_ xs ((k : Nat) : Int)).v, (at_ xs ((k : Nat) : Int)).w, (at_ xs ((k : Nat) : Int)).lb, (at_ xs ((k : Nat) : Int)).sg, (at_ xs ((k : Nat) : Int)).tm⟩]) Try.underlying69 ty158 rfl rfl (by decide) (by decide) rfl (by kernel_rfl) rfl rfl) ?_
   rintro _ _ ⟨ad5, rfl, rfl⟩
   refine G.e (Eff.app (α := Lk) (e := 158) (xs := out) (ys := ([⟨(at_ xs ((k : Nat) : Int)).u, (at_ xs ((k : Nat) : Int)).v, (at_ xs ((k : Nat) : Int)).w, (at_ xs ((k : Nat) : Int)).lb, (at_ xs ((k : Nat) : Int)).sg, (at_ xs ((k : Nat) : Int)).tm⟩] : List Lk)) Try.underlying69 ty158 rfl rfl rfl (by repeat (first | exact List.mem_cons_self | apply List.mem_cons_of_mem)) Sl.o (by simp only [List.length_cons, List.length_nil]; omega) (by decide) rfl (fun _ _ => (by repeat (first | exact At.head _ _ _ | apply At.tail)))) ?_
   rintro _ _ ⟨ad6, cp7, rfl, rfl⟩
   refine G.r (Runs.fieldAddr fld71_1 rfl) ?_
   refine G.e (Eff.st (cs := [_, _]) (vs := [_]) (cs' := [_, _]) ty69) ?_
   rintro _ _ ⟨rfl, rfl⟩
   refine G.nil ?_
   refine V.block_normal ?_
   refine V.then ?_
   refine W.sub (L' := [(1, _), (4, _), (5, _), (12, _), (13, _), (14, _)]) (Sub.cons rfl (Sub.cons rfl (Sub.cons rfl (Sub.cons rfl (Sub.cons rfl (Sub.cons rfl Sub.nil)))))) ?_
   refine W.region ?_
   refine G.r (Runs.add rfl rfl (by unfold InR; omega)) ?_
   refine G.r (Runs.move rfl) ?_
   refine G.nil ?_
   exact V.next ((k + 1), (ad6), (cp7), (out ++ ([⟨(at_ xs ((k : Nat) : Int)).u, (at_ xs ((k : Nat) : Int)).v, (at_ xs ((k : Nat) : Int)).w, (at_ xs ((k : Nat) : Int)).lb, (at_ xs ((k : Nat) : Int)).sg, (at_ xs ((k : Nat) : Int)).tm⟩] : List Lk))) (show ((k + 1 : Nat) ≤ xs.length) ∧ ((out ++ ([⟨(at_ xs ((k : Nat) : Int)).u, (at_ xs ((k : Nat) : Int)).v, (at_ xs ((k : Nat) : Int)).w, (at_ xs ((k : Nat) : Int)).lb, (at_ xs ((k : Nat) : Int)).sg, (at_ xs ((k : Nat) : Int)).tm⟩] : List Lk) : List Lk) = (xs.take (k + 1 : Nat)).filter p) from ⟨(by omega), (by first | rw [flk_yes (by omega) c20, ← ho] | rw [flk_no (by omega) c20, ← ho])⟩) (show xs.length - (k + 1 : Nat) < xs.length - k from (by omega)) (Sub.cons rfl (Sub.cons rfl (Sub.cons rfl (Sub.cons rfl (Sub.cons rfl (Sub.cons lookO Sub.nil)))))) (show Fit κ _ (vc 158 (.slice (ad6) (out ++ ([⟨(at_ xs ((k : Nat) : Int)).u, (at_ xs ((k : Nat) : Int)).v, (at_ xs ((k : Nat) : Int)).w, (at_ xs ((k : Nat) : Int)).lb, (at_ xs ((k : Nat) : Int)).sg, (at_ xs ((k : Nat) : Int)).tm⟩] : List Lk)).length (cp7)) ((out ++ ([⟨(at_ xs ((k : Nat) : Int)).u, (at_ xs ((k : Nat) : Int)).v, (at_ xs ((k : Nat) : Int)).w, (at_ xs ((k : Nat) : Int)).lb, (at_ xs ((k : Nat) : Int)).sg, (at_ xs ((k : Nat) : Int)).tm⟩] : List Lk))) :: blk b3 [I64 (nd), .slice (ad6) (out ++ ([⟨(at_ xs ((k : Nat) : Int)).u, (at_ xs ((k : Nat) : Int)).v, (at_ xs ((k : Nat) : Int)).w, (at_ xs ((k : Nat) : Int)).lb, (at_ xs ((k : Nat) : Int)).sg, (at_ xs ((k : Nat) : Int)).tm⟩] : List Lk)).length (cp7)] 71 :: blk b2 [I64 (0), .slice none 0 0] 71 :: blk b1 [I64 (nd), va] 71 :: I) from Fit.sub)
  ·refine W.skip ?_
   refine V.block_normal ?_
   refine V.then ?_
   refine W.region ?_
   refine G.r (Runs.add rfl rfl (by unfold InR; omega)) ?_
   refine G.r (Runs.move rfl) ?_
   refine G.nil ?_
   exact V.next ((k + 1), (a), (c), (out)) (show ((k + 1 : Nat) ≤ xs.length) ∧ ((out : List Lk) = (xs.take (k + 1 : Nat)).filter p) from ⟨(by omega), (by first | rw [flk_yes (by omega) c20, ← ho] | rw [flk_no (by omega) c20, ← ho])⟩) (show xs.length - (k + 1 : Nat) < xs.length - k from (by omega)) (Sub.cons rfl (Sub.cons rfl (Sub.cons rfl (Sub.cons rfl (Sub.cons rfl (Sub.cons lookO Sub.nil)))))) (show Fit κ _ (vc 158 (.slice (a) (out).length (c)) ((out)) :: blk b3 [I64 (nd), .slice (a) (out).length (c)] 71 :: blk b2 [I64 (0), .slice none 0 0] 71 :: blk b1 [I64 (nd), va] 71 :: I) from Fit.sub)
 ·refine W.exit ?_
  refine V.then_exit ?_
  refine V.then_exit ?_
  refine V.block_hit ?_
  refine V.then ?_
  refine W.sr ?_
  refine G.r (Runs.lds (vs := [_, _]) ty71) ?_
  refine G.e (Eff.st (cs := [_, _]) (vs := [_, _]) (cs' := [_, _]) ty71) ?_
  rintro _ _ ⟨rfl, rfl⟩
  refine G.nt ?_
  refine W.ret ?_
  have ho2 : out = xs.filter p := by rw [ho, List.take_of_length_le (by omega)]
  subst ho2
  exact V.retc rfl ty71 rfl (by repeat (first | exact List.mem_cons_self | apply List.mem_cons_of_mem)) rfl (vc 158 (.slice a (xs.filter p).length c) (xs.filter p) :: I) Fit.sub ⟨a, c, rfl, rfl⟩

end Go.Sl
