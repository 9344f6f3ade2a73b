/- A part of the proofs of statements of this seat: contracts of functions, and the plain laws that they lean on. No conditions. -/
import Derived.Test.YtbimaodbcjjbfaaGreatDoorTy
import Derived.Test.YtbimaodbcjjbfaaGreatDoorRunsX
import Derived.Test.YtbimaodbcjjbfaaGreatDoorSets
namespace Go.Sl
open Go.Proofs
set_option linter.unusedVariables false
set_option linter.unusedSimpArgs false
set_option maxRecDepth 4000
theorem eqt32 : EqT Tryz.prog 32 Pt := ⟨fun x y w => by
  have hi : ∃ i, Tryz.prog.info? 3 = some i := ⟨_, rfl⟩
  obtain ⟨i, hi⟩ := hi
  have h2 : Tryz.prog.cellsOf 3 = 1 := by kernel_rfl
  rw [show (10000 : Nat) = 9999 + 1 from rfl, run_equalIn_array w 9999 _ _ Tryz.underlying32 hi, h2]
  have hu := Tryz.underlying3
  have hz : ∀ w, (isAgg 3).run Tryz.prog w = .ok false w := fun w => by simp [isAgg, run_underlying hu]
  simp [Op.eqItems, List.range, List.range.loop, part, hz, Enc.enc, run_equalIn_int _ _ _ _ _ _ _ hu, Pt.ext_iff']
  by_cases h1 : x.u = y.u <;> by_cases h2 : x.v = y.v <;> simp [h1, h2], by kernel_rfl⟩

end Go.Sl
namespace Go.Sl
open Go.Proofs
set_option linter.unusedVariables false
set_option linter.unusedSimpArgs false
set_option maxRecDepth 4000
theorem IsNaN_ok {κ : Ctx} {I : List Item} (n : Int) :
    CallS Tryz.prog κ 149 [I64 (n)] I (fun r J => r = .bool false ∧ I = J) := by
 refine CallS.enter (L := [(0, I64 (n))]) Tryz.func149 rfl rfl rfl rfl ?_
 refine W.sr ?_
 refine G.r (Runs.assign rfl) ?_
 refine G.nt ?_
 refine W.sr ?_
 refine G.r (Runs.move rfl) ?_
 refine G.r (Runs.move rfl) ?_
 refine G.r (Runs.neq rfl rfl) ?_
 refine G.r (Runs.assign rfl) ?_
 refine G.nt ?_
 refine W.ret ?_
 exact V.ret1 rfl rfl (I) Fit.m ⟨by simp, rfl⟩

theorem Compare_ok {κ : Ctx} {I : List Item} (m n : Int) :
    CallS Tryz.prog κ 121 [I64 (m), I64 (n)] I (fun r J => r = I64 (cmpI m n) ∧ I = J) := by
 refine CallS.enter (L := [(0, I64 (m)), (1, I64 (n))]) Tryz.func121 rfl rfl rfl rfl ?_
 refine W.sr ?_
 refine G.r (Runs.assign rfl) ?_
 refine G.nt ?_
 refine W.sr ?_
 refine G.r (Runs.move rfl) ?_
 refine G.e (Eff.call call149 rfl rfl (IsNaN_ok m)) ?_
 rintro _ _ ⟨_, _, ⟨rfl, rfl⟩, rfl, rfl⟩
 refine G.r (Runs.assign rfl) ?_
 refine G.nt ?_
 refine W.sr ?_
 refine G.r (Runs.move rfl) ?_
 refine G.e (Eff.call call149 rfl rfl (IsNaN_ok n)) ?_
 rintro _ _ ⟨_, _, ⟨rfl, rfl⟩, rfl, rfl⟩
 refine G.r (Runs.assign rfl) ?_
 refine G.nt ?_
 refine W.seq ?_
 refine W.sr ?_
 refine G.r (Runs.move rfl) ?_
 refine G.nt ?_
 refine W.no rfl ?_
 refine W.skip ?_
 refine V.then ?_
 refine W.seq ?_
 refine W.sr ?_
 refine G.r (Runs.move rfl) ?_
 refine G.nt ?_
 refine W.no rfl ?_
 refine W.skip ?_
 refine V.then ?_
 refine W.seq ?_
 refine W.sr ?_
 refine G.r (Runs.move rfl) ?_
 refine G.r (Runs.move rfl) ?_
 refine G.r (Runs.lss rfl rfl) ?_
 refine G.nt ?_
 refine W.sub (L' := [(16, _), (0, _), (1, _)]) (Sub.cons rfl (Sub.cons rfl (Sub.cons rfl Sub.nil))) ?_
 refine W.ite rfl (fun c16 => ?_) (fun c16 => ?_)
 ·refine W.sr ?_
  refine G.r (Runs.assign rfl) ?_
  refine G.nt ?_
  refine W.ret ?_
  refine V.then_ret ?_
  exact V.ret1 rfl rfl (I) Fit.m ⟨by unfold cmpI; rw [if_pos c16], rfl⟩
 ·refine W.skip ?_
  refine V.then ?_
  refine W.seq ?_
  refine W.sr ?_
  refine G.r (Runs.move rfl) ?_
  refine G.r (Runs.move rfl) ?_
  refine G.r (Runs.gtr rfl rfl) ?_
  refine G.nt ?_
  refine W.ite rfl (fun c19 => ?_) (fun c19 => ?_)
  ·refine W.sr ?_
   refine G.r (Runs.assign rfl) ?_
   refine G.nt ?_
   refine W.ret ?_
   refine V.then_ret ?_
   exact V.ret1 rfl rfl (I) Fit.m ⟨by unfold cmpI; rw [if_neg c16, if_pos c19], rfl⟩
  ·refine W.skip ?_
   refine V.then ?_
   refine W.sr ?_
   refine G.r (Runs.assign rfl) ?_
   refine G.nt ?_
   refine W.ret ?_
   exact V.ret1 rfl rfl (I) Fit.m ⟨by unfold cmpI; rw [if_neg c16, if_neg c19], rfl⟩

end Go.Sl
namespace Go.Sl
open Go.Proofs
set_option linter.unusedVariables false
set_option linter.unusedSimpArgs false
set_option maxRecDepth 4000

end Go.Sl
namespace Go.Sl
open Go.Proofs
set_option linter.unusedVariables false
set_option linter.unusedSimpArgs false
set_option maxRecDepth 4000

end Go.Sl
namespace Go.Sl
open Go.Proofs
set_option linter.unusedVariables false
set_option linter.unusedSimpArgs false
set_option maxRecDepth 4000
theorem Before03_ok {κ : Ctx} {I : List Item} (a c : Pt) :
    CallS Tryz.prog κ 88 [.agg #[I64 (a.u), I64 (a.v)], .agg #[I64 (c.u), I64 (c.v)]] I (fun r J => r = .bool (decide (Pt.lt a c)) ∧ I = J) := by
 refine CallS.enter (L := [(0, .agg #[I64 (a.u), I64 (a.v)]), (1, .agg #[I64 (c.u), I64 (c.v)])]) Tryz.func88 rfl rfl rfl rfl ?_
 refine W.sr ?_
 refine G.e (Eff.box (cs := [_, _]) rfl rfl rfl) ?_
 rintro _ _ ⟨b1, rfl, rfl⟩
 refine G.e (Eff.box (cs := [_, _]) rfl rfl rfl) ?_
 rintro _ _ ⟨b2, rfl, rfl⟩
 refine G.r (Runs.assign rfl) ?_
 refine G.nt ?_
 refine W.sr ?_
 refine G.r (Runs.fieldAddr fld52_0 rfl) ?_
 refine G.r (Runs.ld ty3) ?_
 refine G.r (Runs.fieldAddr fld52_0 rfl) ?_
 refine G.r (Runs.ld ty3) ?_
 refine G.r (Runs.lss rfl rfl) ?_
 refine G.r (Runs.move rfl) ?_
 refine G.split (d := 10) rfl (fun g10 => ?_) (fun g10 => ?_)
 ·refine G.po ?_
  refine G.po ?_
  refine G.po ?_
  refine G.po ?_
  refine G.po ?_
  refine G.po ?_
  refine G.pu ?_
  refine G.pu ?_
  refine G.pu ?_
  refine G.pu ?_
  refine G.pu ?_
  refine G.po ?_
  refine G.r (Runs.pickt rfl rfl) ?_
  refine G.r (Runs.assign rfl) ?_
  refine G.nt ?_
  refine W.sub (L' := [(4, _)]) (Sub.cons rfl Sub.nil) ?_
  refine W.ret ?_
  exact V.ret1 rfl rfl (I) Fit.m ⟨(by first | exact congrArg Value.bool (decide_eq_decide.2 (by unfold Pt.lt; omega)) | exact congrArg Value.bool (decide_eq_true (by unfold Pt.lt; omega)).symm | exact congrArg Value.bool (decide_eq_false (by unfold Pt.lt; omega)).symm), rfl⟩
 ·refine G.ro (Runs.fieldAddr fld52_0 rfl) ?_
  refine G.ro (Runs.ld ty3) ?_
  refine G.ro (Runs.fieldAddr fld52_0 rfl) ?_
  refine G.ro (Runs.ld ty3) ?_
  refine G.ro (Runs.eql rfl rfl) ?_
  refine G.ro (Runs.move rfl) ?_
  refine G.split (d := 16) rfl (fun g16 => ?_) (fun g16 => ?_)
  ·refine G.ro (Runs.fieldAddr fld52_1 rfl) ?_
   refine G.ro (Runs.ld ty3) ?_
   refine G.ro (Runs.fieldAddr fld52_1 rfl) ?_
   refine G.ro (Runs.ld ty3) ?_
   refine G.ro (Runs.lss rfl rfl) ?_
   refine G.ro (Runs.pickt rfl rfl) ?_
   refine G.r (Runs.pickf rfl rfl) ?_
   refine G.r (Runs.assign rfl) ?_
   refine G.nt ?_
   refine W.sub (L' := [(4, _)]) (Sub.cons rfl Sub.nil) ?_
   refine W.ret ?_
   exact V.ret1 rfl rfl (I) Fit.m ⟨(by first | exact congrArg Value.bool (decide_eq_decide.2 (by unfold Pt.lt; omega)) | exact congrArg Value.bool (decide_eq_true (by unfold Pt.lt; omega)).symm | exact congrArg Value.bool (decide_eq_false (by unfold Pt.lt; omega)).symm), rfl⟩
  ·refine G.po ?_
   refine G.po ?_
   refine G.po ?_
   refine G.po ?_
   refine G.po ?_
   refine G.ro (Runs.pickf rfl rfl) ?_
   refine G.r (Runs.pickf rfl rfl) ?_
   refine G.r (Runs.assign rfl) ?_
   refine G.nt ?_
   refine W.sub (L' := [(4, _)]) (Sub.cons rfl Sub.nil) ?_
   refine W.ret ?_
   exact V.ret1 rfl rfl (I) Fit.m ⟨(by first | exact congrArg Value.bool (decide_eq_decide.2 (by unfold Pt.lt; omega)) | exact congrArg Value.bool (decide_eq_true (by unfold Pt.lt; omega)).symm | exact congrArg Value.bool (decide_eq_false (by unfold Pt.lt; omega)).symm), rfl⟩

theorem Check03_ok {κ : Ctx} {I : List Item} {nd : Int} {v : Value} {es : List Pt} (hl : Sl κ I v es) (hG : GrOk nd es) :
    CallS Tryz.prog κ 35 [.agg #[I64 (nd), v]] I (fun r J => r = I64 0 ∧ I = J) := by
 refine CallS.pull hl.le fun hmax => ?_
 refine CallS.enter (L := [(0, .agg #[I64 (nd), v])]) Tryz.func35 rfl rfl rfl rfl ?_
 refine W.sr ?_
 refine G.e (Eff.box (cs := [_, _]) rfl rfl rfl) ?_
 rintro _ _ ⟨b1, rfl, rfl⟩
 refine G.r (Runs.assign rfl) ?_
 refine G.nt ?_
 refine W.seq ?_
 refine W.sr ?_
 refine G.r (Runs.fieldAddr fld28_0 rfl) ?_
 refine G.r (Runs.ld ty3) ?_
 refine G.r (Runs.lss rfl rfl) ?_
 refine G.r (Runs.move rfl) ?_
 refine G.split (d := 8) rfl (fun g8 => ?_) (fun g8 => ?_)
 ·exact absurd hG.rng (by omega)
 ·refine G.ro (Runs.fieldAddr fld28_0 rfl) ?_
  refine G.ro (Runs.ld ty3) ?_
  refine G.ro (Runs.gtr rfl rfl) ?_
  refine G.r (Runs.pickf rfl rfl) ?_
  refine G.nt ?_
  refine W.ite rfl (fun c12 => ?_) (fun c12 => ?_)
  ·exact absurd hG.rng (by omega)
  ·refine W.skip ?_
   refine V.then ?_
   refine W.seq ?_
   refine W.sr ?_
   refine G.r (Runs.fieldAddr fld28_1 rfl) ?_
   refine G.r (Runs.ld ty26) ?_
   refine G.r (Runs.lenT (α := Pt) (xs := es) Tryz.underlying26 rfl (Sl.f hl)) ?_
   refine G.r (Runs.move rfl) ?_
   refine G.nt ?_
   refine W.sub (L' := [(16, _), (15, _), (14, _), (1, _)]) (Sub.cons rfl (Sub.cons rfl (Sub.cons rfl (Sub.cons rfl Sub.nil)))) ?_
   refine W.block ?_
   refine W.loop (σ := Nat) (fun s => ([(1, .pointer (some ⟨b1, 0, none⟩)), (14, v), (15, I64 (((es.length : Nat) : Int))), (16, I64 (((s : Nat) : Int)))] : Env)) (fun s => blk b1 [I64 (nd), v] 28 :: I) (fun s => (s ≤ es.length)) (fun s => es.length - s) (0) (show ((0 : Nat) ≤ es.length) from (by omega)) (Sub.cons rfl (Sub.cons rfl (Sub.cons rfl (Sub.cons lookO Sub.nil)))) (show Fit κ _ (blk b1 [I64 (nd), v] 28 :: I) from Fit.sub) ?_
   rintro k hp
   have hk : (k ≤ es.length) := hp
   show W Tryz.prog κ 52 _ _ ([(1, .pointer (some ⟨b1, 0, none⟩)), (14, v), (15, I64 (((es.length : Nat) : Int))), (16, I64 (((k : Nat) : Int)))] : Env) (blk b1 [I64 (nd), v] 28 :: I)
   refine W.sr ?_
   refine G.r (Runs.lss rfl rfl) ?_
   refine G.nt ?_
   refine W.seq ?_
   refine W.ite rfl (fun c17 => ?_) (fun c17 => ?_)
   ·refine W.skip ?_
    refine V.then ?_
    refine W.seq ?_
    refine W.block ?_
    refine W.sr ?_
    refine G.r (Runs.move rfl) ?_
    refine G.r (Runs.idx (α := Pt) (xs := es) Tryz.underlying26 ty52 rfl rfl (Sl.f hl) (by omega) (by omega)) ?_
    refine G.r (Runs.gets (α := Pt) (xs := es) ty52 rfl (Sl.f hl) (by omega) (by omega)) ?_
    refine G.e (Eff.alloc ty52 rfl) ?_
    rintro _ _ ⟨b2, rfl, rfl⟩
    refine G.r (Runs.assign rfl) ?_
    refine G.e (Eff.st (cs := [_, _]) (vs := [_, _]) (cs' := [_, _]) ty52) ?_
    rintro _ _ ⟨rfl, rfl⟩
    refine G.nt ?_
    refine W.seq ?_
    refine W.sr ?_
    refine G.r (Runs.fieldAddr fld52_0 rfl) ?_
    refine G.r (Runs.ld ty3) ?_
    refine G.r (Runs.lss rfl rfl) ?_
    refine G.r (Runs.move rfl) ?_
    refine G.split (d := 24) rfl (fun g24 => ?_) (fun g24 => ?_)
    ·exact absurd (hG.at (k := k) (by omega)) (by omega)
    ·refine G.ro (Runs.fieldAddr fld52_0 rfl) ?_
     refine G.ro (Runs.ld ty3) ?_
     refine G.ro (Runs.fieldAddr fld52_1 rfl) ?_
     refine G.ro (Runs.ld ty3) ?_
     refine G.ro (Runs.geq rfl rfl) ?_
     refine G.r (Runs.pickf rfl rfl) ?_
     refine G.r (Runs.move rfl) ?_
     refine G.split (d := 31) rfl (fun g31 => ?_) (fun g31 => ?_)
     ·exact absurd (hG.at (k := k) (by omega)) (by omega)
     ·refine G.ro (Runs.fieldAddr fld52_1 rfl) ?_
      refine G.ro (Runs.ld ty3) ?_
      refine G.ro (Runs.fieldAddr fld28_0 rfl) ?_
      refine G.ro (Runs.ld ty3) ?_
      refine G.ro (Runs.geq rfl rfl) ?_
      refine G.r (Runs.pickf rfl rfl) ?_
      refine G.nt ?_
      refine W.sub (L' := [(37, _), (3, _), (4, _), (1, _), (14, _), (15, _), (16, _)]) (Sub.cons rfl (Sub.cons rfl (Sub.cons rfl (Sub.cons rfl (Sub.cons rfl (Sub.cons rfl (Sub.cons rfl Sub.nil))))))) ?_
      refine W.ite rfl (fun c37 => ?_) (fun c37 => ?_)
      ·exact absurd (hG.at (k := k) (by omega)) (by omega)
      ·refine W.skip ?_
       refine V.then ?_
       refine W.seq ?_
       refine W.drawn mixed ?_
       refine A.hold (blk b2 [I64 ((at_ es ((k : Nat) : Int)).u), I64 ((at_ es ((k : Nat) : Int)).v)] 52 :: blk b1 [I64 (nd), v] 28 :: I) 13 ?_
       refine D.r 0 rfl (Runs.move rfl) ?_
       refine D.r 1 rfl (Runs.gtr rfl rfl) ?_
       refine D.r 2 rfl (Runs.move rfl) ?_
       refine D.split (d := 40) rfl (fun g40 => ?_) (fun g40 => ?_)
       ·refine D.ro 3 rfl (Runs.fieldAddr fld28_1 rfl) ?_
        refine D.ro 4 rfl (Runs.ld ty26) ?_
        refine D.ro 5 rfl (Runs.move rfl) ?_
        refine D.ro 6 rfl (Runs.sub rfl rfl (by unfold InR; omega)) ?_
        refine D.ro 7 rfl (Runs.idx (α := Pt) (xs := es) Tryz.underlying26 ty52 rfl rfl (Sl.f hl) (by omega) (by omega)) ?_
        refine D.ro 8 rfl (Runs.gets (α := Pt) (xs := es) ty52 rfl (Sl.f hl) (by omega) (by omega)) ?_
        refine D.ro 9 rfl (Runs.lds (vs := [_, _]) ty52) ?_
        refine D.step (rs := [10]) (by kernel_rfl) rfl rfl (all1 ?_)
        refine Step.eff rfl (Wanted.on rfl rfl rfl) (Eff.call call88 rfl rfl (Before03_ok (at_ es (((k : Nat) : Int) - 1)) (at_ es ((k : Nat) : Int)))) ?_
        rintro _ _ ⟨_, _, ⟨rfl, rfl⟩, rfl, rfl⟩
        refine ⟨Fit.m, ?_⟩
        refine D.ro 11 rfl (Runs.notd rfl) ?_
        refine D.r 12 rfl (Runs.pickt rfl rfl) ?_
        refine D.done (by kernel_rfl) ?_
        refine V.then ?_
        refine W.sub (L' := [(50, _), (1, _), (14, _), (15, _), (16, _)]) (Sub.cons rfl (Sub.cons rfl (Sub.cons rfl (Sub.cons rfl (Sub.cons rfl Sub.nil))))) ?_
        refine W.ite rfl (fun c50 => ?_) (fun c50 => ?_)
        ·exact absurd (hG.prev (k := k) (by omega) (by omega)) c50
        ·refine W.skip ?_
         refine V.block_normal ?_
         refine V.then ?_
         refine W.region ?_
         refine G.r (Runs.add rfl rfl (by unfold InR; omega)) ?_
         refine G.r (Runs.move rfl) ?_
         refine G.nil ?_
         exact V.next ((k + 1)) (show ((k + 1 : Nat) ≤ es.length) from (by omega)) (show es.length - (k + 1 : Nat) < es.length - k from (by omega)) (Sub.cons rfl (Sub.cons rfl (Sub.cons rfl (Sub.cons lookO Sub.nil)))) (show Fit κ _ (blk b1 [I64 (nd), v] 28 :: I) from Fit.sub)
       ·refine D.po 3 rfl ?_
        refine D.po 4 rfl ?_
        refine D.po 5 rfl ?_
        refine D.po 6 rfl ?_
        refine D.po 7 rfl ?_
        refine D.po 8 rfl ?_
        refine D.po 9 rfl ?_
        refine D.po 10 rfl ?_
        refine D.po 11 rfl ?_
        refine D.r 12 rfl (Runs.pickf rfl rfl) ?_
        refine D.done (by kernel_rfl) ?_
        refine V.then ?_
        refine W.sub (L' := [(50, _), (1, _), (14, _), (15, _), (16, _)]) (Sub.cons rfl (Sub.cons rfl (Sub.cons rfl (Sub.cons rfl (Sub.cons rfl Sub.nil))))) ?_
        refine W.no rfl ?_
        refine W.skip ?_
        refine V.block_normal ?_
        refine V.then ?_
        refine W.region ?_
        refine G.r (Runs.add rfl rfl (by unfold InR; omega)) ?_
        refine G.r (Runs.move rfl) ?_
        refine G.nil ?_
        exact V.next ((k + 1)) (show ((k + 1 : Nat) ≤ es.length) from (by omega)) (show es.length - (k + 1 : Nat) < es.length - k from (by omega)) (Sub.cons rfl (Sub.cons rfl (Sub.cons rfl (Sub.cons lookO Sub.nil)))) (show Fit κ _ (blk b1 [I64 (nd), v] 28 :: I) from Fit.sub)
   ·refine W.exit ?_
    refine V.then_exit ?_
    refine V.then_exit ?_
    refine V.block_hit ?_
    refine V.then ?_
    refine W.sr ?_
    refine G.r (Runs.assign rfl) ?_
    refine G.nt ?_
    refine W.ret ?_
    exact V.ret1 rfl rfl (I) Fit.m ⟨rfl, rfl⟩

end Go.Sl
namespace Go.Sl
open Go.Proofs
set_option linter.unusedVariables false
set_option linter.unusedSimpArgs false
set_option maxRecDepth 4000

end Go.Sl
namespace Go.Sl
open Go.Proofs
set_option linter.unusedVariables false
set_option linter.unusedSimpArgs false
set_option maxRecDepth 4000
theorem MkGraph_base {κ : Ctx} {I : List Item} {b : Nat} {lv : Value} {ls : List Int} {i : Int} {most : Int} (hl : ∀ q, Sl κ (deck b lv q :: I) lv ls) (h0 : 0 ≤ i)  (hm : 0 ≤ most ∧ most ≤ 20) :
    CallS Tryz.prog κ 9 [.pointer (some ⟨b, 0, none⟩), I64 (most)] (blk b [lv, I64 (i)] 79 :: I) (fun r J => ∃ y : Int × (Option Addr) × Nat × (List Pt) × Int, ((r = .agg #[I64 y.1, .slice y.2.1 y.2.2.2.1.length y.2.2.1] ∧ (y.1 ≤ most ∧ GrOk y.1 y.2.2.2.1 ∧ y.2.2.2.1.length ≤ 400)) ∧ 0 ≤ y.2.2.2.2) ∧ J = [vc 52 (.slice y.2.1 y.2.2.2.1.length y.2.2.1) y.2.2.2.1] ++ deck b lv y.2.2.2.2 :: I) := by
 refine CallS.enter (L := [(0, .pointer (some ⟨b, 0, none⟩)), (1, I64 (most))]) Tryz.func9 rfl rfl rfl rfl ?_
 refine W.sr ?_
 refine G.e (Eff.alloc ty28 rfl) ?_
 rintro _ _ ⟨b1, rfl, rfl⟩
 refine G.nt ?_
 refine W.sr ?_
 refine G.r (Runs.move rfl) ?_
 refine G.r (Runs.move rfl) ?_
 refine G.r (Runs.add rfl rfl (by unfold InR; omega)) ?_
 refine G.e (Eff.call call10 rfl rfl (Next_ok (by repeat (first | exact AtF.head _ _ | apply AtF.tail)) (Sl.fit (hl _) Fit.m) (by omega) (by omega))) ?_
 rintro _ _ ⟨_, _, ⟨x2, i3, rfl, hx2, hi3, rfl⟩, rfl, rfl⟩
 show G Tryz.prog κ _ _ _ _ ([(12, I64 (x2)), (11, I64 (most + 1)), (10, I64 (most)), (9, .pointer (some ⟨b, 0, none⟩)), (4, .pointer (some ⟨b1, 0, none⟩)), (0, .pointer (some ⟨b, 0, none⟩)), (1, I64 (most))] : Env) (blk b1 [I64 (0), .slice none 0 0] 28 :: blk b [lv, I64 (i3)] 79 :: I)
 refine G.r (Runs.build (cells := [_, _]) ty28 Tryz.underlying28 pl28 rfl rfl) ?_
 refine G.e (Eff.alloc ty28 rfl) ?_
 rintro _ _ ⟨b4, rfl, rfl⟩
 refine G.e (Eff.st (cs := [_, _]) (vs := [_, _]) (cs' := [_, _]) ty28) ?_
 rintro _ _ ⟨rfl, rfl⟩
 refine G.nt ?_
 refine W.cut (σ := Int × Int) (fun s => ([(0, .pointer (some ⟨b, 0, none⟩)), (4, .pointer (some ⟨b1, 0, none⟩)), (5, .pointer (some ⟨b4, 0, none⟩))] : Env)) (fun s => blk b4 [I64 (s.1), .slice none 0 0] 28 :: blk b1 [I64 (0), .slice none 0 0] 28 :: blk b [lv, I64 (s.2)] 79 :: I) (fun s => (0 ≤ s.1 ∧ s.1 ≤ most) ∧ (0 ≤ s.2)) ?_ ?_
 ·refine W.sr ?_
  refine G.r (Runs.fieldAddr fld28_0 rfl) ?_
  refine G.r (Runs.ld ty3) ?_
  refine G.r (Runs.lss rfl rfl) ?_
  refine G.nt ?_
  refine W.ite rfl (fun c16 => ?_) (fun c16 => ?_)
  ·refine W.drawn mixed ?_
   refine A.hold (blk b4 [I64 (x2), .slice none 0 0] 28 :: blk b1 [I64 (0), .slice none 0 0] 28 :: I) 10 ?_
   refine D.r 0 rfl (Runs.move rfl) ?_ (hJ := Fit.sub)
   refine D.r 1 rfl (Runs.fieldAddr fld28_0 rfl) ?_ (hJ := Fit.sub)
   refine D.r 2 rfl (Runs.ld ty3) ?_ (hJ := Fit.sub)
   refine D.r 3 rfl (Runs.move rfl) ?_ (hJ := Fit.sub)
   refine D.r 4 rfl (Runs.move rfl) ?_ (hJ := Fit.sub)
   refine D.r 5 rfl (Runs.add rfl rfl (by unfold InR; omega)) ?_ (hJ := Fit.sub)
   refine D.step (rs := [6]) (by kernel_rfl) rfl rfl (all1 ?_)
   refine Step.eff rfl (Wanted.plain rfl) (Eff.call call10 rfl rfl (Next_ok (by repeat (first | exact AtF.head _ _ | apply AtF.tail)) (Sl.fit (hl _) Fit.m) (by omega) (by omega))) ?_
   rintro _ _ ⟨_, _, ⟨x5, i6, rfl, hx5, hi6, rfl⟩, rfl, rfl⟩
   refine ⟨Fit.sub, ?_⟩
   show D Tryz.prog κ _ _ _ _ _ _ _ ([(23, I64 (x5)), (22, I64 (most + 1)), (21, I64 (most)), (20, .pointer (some ⟨b, 0, none⟩)), (19, I64 (x2)), (18, .pointer (some ⟨b4, 0, none⟩)), (17, I64 (most)), (16, .bool (decide (x2 < 4))), (15, I64 (x2)), (14, .pointer (some ⟨b4, 0, none⟩)), (5, .pointer (some ⟨b4, 0, none⟩)), (13, .agg #[I64 (x2), .slice none 0 0]), (12, I64 (x2)), (11, I64 (most + 1)), (10, I64 (most)), (9, .pointer (some ⟨b, 0, none⟩)), (4, .pointer (some ⟨b1, 0, none⟩)), (0, .pointer (some ⟨b, 0, none⟩)), (1, I64 (most))] : Env) (blk b4 [I64 (x2), .slice none 0 0] 28 :: blk b1 [I64 (0), .slice none 0 0] 28 :: blk b [lv, I64 (i6)] 79 :: I)
   refine D.r 7 rfl (Runs.add rfl rfl (by unfold InR; omega)) ?_ (hJ := Fit.sub)
   refine D.r 8 rfl (Runs.min rfl rfl) ?_ (hJ := Fit.sub)
   refine D.r 9 rfl (Runs.fieldAddr fld28_0 rfl) ?_ (hJ := Fit.sub)
   refine D.stop (by kernel_rfl) ?_
   refine A.eff (i := 10) (by kernel_rfl) rfl (Wanted.plain rfl) (Eff.st (cs := [_, _]) (vs := [_]) (cs' := [_, _]) ty3) ?_
   rintro _ _ ⟨rfl, rfl⟩
   refine A.done (by kernel_rfl) ?_
   exact V.mid ((if (x2 + x5) < most then (x2 + x5) else most), (i6)) (show (0 ≤ (if (x2 + x5) < most then (x2 + x5) else most : Int) ∧ (if (x2 + x5) < most then (x2 + x5) else most : Int) ≤ most) ∧ (0 ≤ (i6 : Int)) from ⟨(by refine ⟨?_, ?_⟩ <;> first | omega | (split <;> omega)), (by omega)⟩) (Sub.cons rfl (Sub.cons rfl (Sub.cons rfl Sub.nil))) (show Fit κ _ (blk b4 [I64 ((if (x2 + x5) < most then (x2 + x5) else most)), .slice none 0 0] 28 :: blk b1 [I64 (0), .slice none 0 0] 28 :: blk b [lv, I64 ((i6))] 79 :: I) from Fit.s)
  ·refine W.skip ?_
   exact V.mid ((x2), (i3)) (show (0 ≤ (x2 : Int) ∧ (x2 : Int) ≤ most) ∧ (0 ≤ (i3 : Int)) from ⟨(by refine ⟨?_, ?_⟩ <;> first | omega | (split <;> omega)), (by omega)⟩) (Sub.cons rfl (Sub.cons rfl (Sub.cons rfl Sub.nil))) (show Fit κ _ (blk b4 [I64 ((x2)), .slice none 0 0] 28 :: blk b1 [I64 (0), .slice none 0 0] 28 :: blk b [lv, I64 ((i3))] 79 :: I) from Fit.s)
 ·rintro ⟨nd, iqz⟩ hp
  obtain ⟨hnd, hiqz⟩ : (0 ≤ nd ∧ nd ≤ most) ∧ (0 ≤ iqz) := hp
  show W Tryz.prog κ 58 _ _ ([(0, .pointer (some ⟨b, 0, none⟩)), (4, .pointer (some ⟨b1, 0, none⟩)), (5, .pointer (some ⟨b4, 0, none⟩))] : Env) (blk b4 [I64 (nd), .slice none 0 0] 28 :: blk b1 [I64 (0), .slice none 0 0] 28 :: blk b [lv, I64 (iqz)] 79 :: I)
  refine W.sr ?_
  refine G.r (Runs.move rfl) ?_
  refine G.e (Eff.call call10 rfl rfl (Next_ok (by repeat (first | exact AtF.head _ _ | apply AtF.tail)) (Sl.fit (hl _) Fit.m) (by omega) (by omega))) ?_
  rintro _ _ ⟨_, _, ⟨x7, i8, rfl, hx7, hi8, rfl⟩, rfl, rfl⟩
  show G Tryz.prog κ _ _ _ _ ([(28, I64 (x7)), (27, .pointer (some ⟨b, 0, none⟩)), (0, .pointer (some ⟨b, 0, none⟩)), (4, .pointer (some ⟨b1, 0, none⟩)), (5, .pointer (some ⟨b4, 0, none⟩))] : Env) (blk b4 [I64 (nd), .slice none 0 0] 28 :: blk b1 [I64 (0), .slice none 0 0] 28 :: blk b [lv, I64 (i8)] 79 :: I)
  refine G.r (Runs.add rfl rfl (by unfold InR; omega)) ?_
  refine G.r (Runs.assign rfl) ?_
  refine G.nt ?_
  refine W.seq ?_
  refine W.sr ?_
  refine G.r (Runs.assign rfl) ?_
  refine G.nt ?_
  refine W.block ?_
  refine W.loop (σ := Int × Int × (Option Addr) × Nat × (List Pt)) (fun s => ([(0, .pointer (some ⟨b, 0, none⟩)), (4, .pointer (some ⟨b1, 0, none⟩)), (5, .pointer (some ⟨b4, 0, none⟩)), (6, I64 (1 + x7)), (7, I64 (s.1))] : Env)) (fun s => vc 52 (.slice s.2.2.1 s.2.2.2.2.length s.2.2.2.1) (s.2.2.2.2) :: blk b4 [I64 (nd), .slice s.2.2.1 s.2.2.2.2.length s.2.2.2.1] 28 :: blk b1 [I64 (0), .slice none 0 0] 28 :: blk b [lv, I64 (s.2.1)] 79 :: I) (fun s => (0 ≤ s.1 ∧ s.1 ≤ nd) ∧ (0 ≤ s.2.1) ∧ (GI nd s.2.2.2.2 s.1 0) ∧ ((s.2.2.2.2.length : Int) ≤ s.1 * 20)) (fun s => (nd - s.1).toNat) (0, i8, none, 0, []) (show (0 ≤ (0 : Int) ∧ (0 : Int) ≤ nd) ∧ (0 ≤ (i8 : Int)) ∧ (GI nd ([] : List Pt) (0 : Int) 0) ∧ ((([] : List Pt).length : Int) ≤ (0 : Int) * 20) from ⟨(by omega), (by omega), GI.start, (by simp)⟩) (Sub.cons rfl (Sub.cons rfl (Sub.cons rfl (Sub.cons rfl (Sub.cons lookO Sub.nil))))) (show Fit κ _ (vc 52 (.slice (none) ([]).length (0)) (([])) :: blk b4 [I64 (nd), .slice (none) ([]).length (0)] 28 :: blk b1 [I64 (0), .slice none 0 0] 28 :: blk b [lv, I64 ((i8))] 79 :: I) from (Fit.nilvc _ _)) ?_
  rintro ⟨u, iqa, a, c, es⟩ hp
  obtain ⟨hu, hiqa, hG, hlen⟩ : (0 ≤ u ∧ u ≤ nd) ∧ (0 ≤ iqa) ∧ (GI nd es u 0) ∧ ((es.length : Int) ≤ u * 20) := hp
  show W Tryz.prog κ 58 _ _ ([(0, .pointer (some ⟨b, 0, none⟩)), (4, .pointer (some ⟨b1, 0, none⟩)), (5, .pointer (some ⟨b4, 0, none⟩)), (6, I64 (1 + x7)), (7, I64 (u))] : Env) (vc 52 (.slice a es.length c) (es) :: blk b4 [I64 (nd), .slice a es.length c] 28 :: blk b1 [I64 (0), .slice none 0 0] 28 :: blk b [lv, I64 (iqa)] 79 :: I)
  refine W.seq ?_
  refine W.sr ?_
  refine G.r (Runs.move rfl) ?_
  refine G.r (Runs.fieldAddr fld28_0 rfl) ?_
  refine G.r (Runs.ld ty3) ?_
  refine G.r (Runs.lss rfl rfl) ?_
  refine G.nt ?_
  refine W.ite rfl (fun c33 => ?_) (fun c33 => ?_)
  ·refine W.skip ?_
   refine V.then ?_
   refine W.seq ?_
   refine W.block ?_
   refine W.sr ?_
   refine G.r (Runs.move rfl) ?_
   refine G.r (Runs.add rfl rfl (by unfold InR; omega)) ?_
   refine G.r (Runs.assign rfl) ?_
   refine G.nt ?_
   refine W.block ?_
   refine W.loop (σ := Int × Int × (Option Addr) × Nat × (List Pt)) (fun s => ([(0, .pointer (some ⟨b, 0, none⟩)), (4, .pointer (some ⟨b1, 0, none⟩)), (5, .pointer (some ⟨b4, 0, none⟩)), (6, I64 (1 + x7)), (7, I64 (u)), (8, I64 (s.1))] : Env)) (fun s => vc 52 (.slice s.2.2.1 s.2.2.2.2.length s.2.2.2.1) (s.2.2.2.2) :: blk b4 [I64 (nd), .slice s.2.2.1 s.2.2.2.2.length s.2.2.2.1] 28 :: blk b1 [I64 (0), .slice none 0 0] 28 :: blk b [lv, I64 (s.2.1)] 79 :: I) (fun s => (u + 1 ≤ s.1 ∧ s.1 ≤ nd) ∧ (0 ≤ s.2.1) ∧ (GI nd s.2.2.2.2 u s.1) ∧ ((s.2.2.2.2.length : Int) ≤ u * 20 + s.1)) (fun s => (nd - s.1).toNat) (u + 1, iqa, a, c, es) (show (u + 1 ≤ (u + 1 : Int) ∧ (u + 1 : Int) ≤ nd) ∧ (0 ≤ (iqa : Int)) ∧ (GI nd (es : List Pt) u (u + 1 : Int)) ∧ (((es : List Pt).length : Int) ≤ u * 20 + (u + 1 : Int)) from ⟨(by omega), (by omega), (hG.mono (by omega)), (by omega)⟩) (Sub.cons rfl (Sub.cons rfl (Sub.cons rfl (Sub.cons rfl (Sub.cons rfl (Sub.cons lookO Sub.nil)))))) (show Fit κ _ (vc 52 (.slice (a) (es).length (c)) ((es)) :: blk b4 [I64 (nd), .slice (a) (es).length (c)] 28 :: blk b1 [I64 (0), .slice none 0 0] 28 :: blk b [lv, I64 ((iqa))] 79 :: I) from Fit.sub) ?_
   rintro ⟨v, iqb, a2, c2, es2⟩ hp
   obtain ⟨hw, hiqb, hG2, hlen2⟩ : (u + 1 ≤ v ∧ v ≤ nd) ∧ (0 ≤ iqb) ∧ (GI nd es2 u v) ∧ ((es2.length : Int) ≤ u * 20 + v) := hp
   show W Tryz.prog κ 58 _ _ ([(0, .pointer (some ⟨b, 0, none⟩)), (4, .pointer (some ⟨b1, 0, none⟩)), (5, .pointer (some ⟨b4, 0, none⟩)), (6, I64 (1 + x7)), (7, I64 (u)), (8, I64 (v))] : Env) (vc 52 (.slice a2 es2.length c2) (es2) :: blk b4 [I64 (nd), .slice a2 es2.length c2] 28 :: blk b1 [I64 (0), .slice none 0 0] 28 :: blk b [lv, I64 (iqb)] 79 :: I)
   refine W.seq ?_
   refine W.sr ?_
   refine G.r (Runs.move rfl) ?_
   refine G.r (Runs.fieldAddr fld28_0 rfl) ?_
   refine G.r (Runs.ld ty3) ?_
   refine G.r (Runs.lss rfl rfl) ?_
   refine G.nt ?_
   refine W.ite rfl (fun c41 => ?_) (fun c41 => ?_)
   ·refine W.skip ?_
    refine V.then ?_
    refine W.seq ?_
    refine W.block ?_
    refine W.sr ?_
    refine G.r (Runs.move rfl) ?_
    refine G.e (Eff.call call10 rfl rfl (Next_ok (by repeat (first | exact AtF.head _ _ | apply AtF.tail)) (Sl.fit (hl _) Fit.m) (by omega) (by omega))) ?_
    rintro _ _ ⟨_, _, ⟨x9, i10, rfl, hx9, hi10, rfl⟩, rfl, rfl⟩
    show G Tryz.prog κ _ _ _ _ ([(45, I64 (x9)), (44, .pointer (some ⟨b, 0, none⟩)), (41, .bool (decide (v < nd))), (40, I64 (nd)), (39, .pointer (some ⟨b4, 0, none⟩)), (38, I64 (v)), (0, .pointer (some ⟨b, 0, none⟩)), (4, .pointer (some ⟨b1, 0, none⟩)), (5, .pointer (some ⟨b4, 0, none⟩)), (6, I64 (1 + x7)), (7, I64 (u)), (8, I64 (v))] : Env) (vc 52 (.slice a2 es2.length c2) (es2) :: blk b4 [I64 (nd), .slice a2 es2.length c2] 28 :: blk b1 [I64 (0), .slice none 0 0] 28 :: blk b [lv, I64 (i10)] 79 :: I)
    refine G.r (Runs.move rfl) ?_
    refine G.r (Runs.sub rfl rfl (by unfold InR; omega)) ?_
    refine G.r (Runs.geq rfl rfl) ?_
    refine G.nt ?_
    refine W.sub (L' := [(48, _), (0, _), (4, _), (5, _), (6, _), (7, _), (8, _)]) (Sub.cons rfl (Sub.cons rfl (Sub.cons rfl (Sub.cons rfl (Sub.cons rfl (Sub.cons rfl (Sub.cons rfl Sub.nil))))))) ?_
    refine W.ite rfl (fun c48 => ?_) (fun c48 => ?_)
    ·refine W.region ?_
     refine G.r (Runs.fieldAddr fld28_1 rfl) ?_
     refine G.r (Runs.ld ty26) ?_
     refine G.r (Runs.move rfl) ?_
     refine G.r (Runs.move rfl) ?_
     refine G.r (Runs.build (cells := [_, _]) ty52 Tryz.underlying52 pl52 rfl rfl) ?_
     refine G.e (Eff.bs (α := Pt) (cs := [_, _]) (xs := [⟨u, v⟩]) Tryz.underlying26 ty52 rfl rfl (by decide) (by decide) rfl rfl rfl rfl) ?_
     rintro _ _ ⟨ad11, rfl, rfl⟩
     refine G.e (Eff.app (α := Pt) (e := 52) (xs := es2) (ys := ([⟨u, v⟩] : List Pt)) Tryz.underlying26 ty52 rfl rfl rfl (by repeat (first | exact List.mem_cons_self | apply List.mem_cons_of_mem)) Sl.o (by simp only [List.length_cons, List.length_nil]; omega) (by decide) rfl (fun _ _ => (by repeat (first | exact At.head _ _ _ | apply At.tail)))) ?_
     rintro _ _ ⟨ad12, cp13, rfl, rfl⟩
     refine G.r (Runs.fieldAddr fld28_1 rfl) ?_
     refine G.e (Eff.st (cs := [_, _]) (vs := [_]) (cs' := [_, _]) ty26) ?_
     rintro _ _ ⟨rfl, rfl⟩
     refine G.nil ?_
     refine V.block_normal ?_
     refine V.then ?_
     refine W.sub (L' := [(0, _), (4, _), (5, _), (6, _), (7, _), (8, _)]) (Sub.cons rfl (Sub.cons rfl (Sub.cons rfl (Sub.cons rfl (Sub.cons rfl (Sub.cons rfl Sub.nil)))))) ?_
     refine W.region ?_
     refine G.r (Runs.move rfl) ?_
     refine G.r (Runs.add rfl rfl (by unfold InR; omega)) ?_
     refine G.r (Runs.assign rfl) ?_
     refine G.nil ?_
     exact V.next ((v + 1), (i10), (ad12), (cp13), (es2 ++ ([⟨u, v⟩] : List Pt))) (show (u + 1 ≤ (v + 1 : Int) ∧ (v + 1 : Int) ≤ nd) ∧ (0 ≤ (i10 : Int)) ∧ (GI nd (es2 ++ ([⟨u, v⟩] : List Pt) : List Pt) u (v + 1 : Int)) ∧ (((es2 ++ ([⟨u, v⟩] : List Pt) : List Pt).length : Int) ≤ u * 20 + (v + 1 : Int)) from ⟨(by omega), (by omega), (by first | exact hG2.push (by omega) (by omega) (by omega) | exact hG2.mono (by omega)), (by first | omega | (simp only [List.length_append, List.length_cons, List.length_nil]; omega))⟩) (show (nd - (v + 1 : Int)).toNat < (nd - v).toNat from (by omega)) (Sub.cons rfl (Sub.cons rfl (Sub.cons rfl (Sub.cons rfl (Sub.cons rfl (Sub.cons lookO Sub.nil)))))) (show Fit κ _ (vc 52 (.slice (ad12) (es2 ++ ([⟨u, v⟩] : List Pt)).length (cp13)) ((es2 ++ ([⟨u, v⟩] : List Pt))) :: blk b4 [I64 (nd), .slice (ad12) (es2 ++ ([⟨u, v⟩] : List Pt)).length (cp13)] 28 :: blk b1 [I64 (0), .slice none 0 0] 28 :: blk b [lv, I64 ((i10))] 79 :: I) from Fit.sub)
    ·refine W.skip ?_
     refine V.block_normal ?_
     refine V.then ?_
     refine W.region ?_
     refine G.r (Runs.move rfl) ?_
     refine G.r (Runs.add rfl rfl (by unfold InR; omega)) ?_
     refine G.r (Runs.assign rfl) ?_
     refine G.nil ?_
     exact V.next ((v + 1), (i10), (a2), (c2), (es2)) (show (u + 1 ≤ (v + 1 : Int) ∧ (v + 1 : Int) ≤ nd) ∧ (0 ≤ (i10 : Int)) ∧ (GI nd (es2 : List Pt) u (v + 1 : Int)) ∧ (((es2 : List Pt).length : Int) ≤ u * 20 + (v + 1 : Int)) from ⟨(by omega), (by omega), (by first | exact hG2.push (by omega) (by omega) (by omega) | exact hG2.mono (by omega)), (by first | omega | (simp only [List.length_append, List.length_cons, List.length_nil]; omega))⟩) (show (nd - (v + 1 : Int)).toNat < (nd - v).toNat from (by omega)) (Sub.cons rfl (Sub.cons rfl (Sub.cons rfl (Sub.cons rfl (Sub.cons rfl (Sub.cons lookO Sub.nil)))))) (show Fit κ _ (vc 52 (.slice (a2) (es2).length (c2)) ((es2)) :: blk b4 [I64 (nd), .slice (a2) (es2).length (c2)] 28 :: blk b1 [I64 (0), .slice none 0 0] 28 :: blk b [lv, I64 ((i10))] 79 :: I) from Fit.sub)
   ·refine W.exit ?_
    refine V.then_exit ?_
    refine V.then_exit ?_
    refine V.block_hit ?_
    refine V.block_normal ?_
    refine V.then ?_
    refine W.region ?_
    refine G.r (Runs.move rfl) ?_
    refine G.r (Runs.add rfl rfl (by unfold InR; omega)) ?_
    refine G.r (Runs.assign rfl) ?_
    refine G.nil ?_
    exact V.next ((u + 1), (iqb), (a2), (c2), (es2)) (show (0 ≤ (u + 1 : Int) ∧ (u + 1 : Int) ≤ nd) ∧ (0 ≤ (iqb : Int)) ∧ (GI nd (es2 : List Pt) (u + 1 : Int) 0) ∧ (((es2 : List Pt).length : Int) ≤ (u + 1 : Int) * 20) from ⟨(by omega), (by omega), hG2.row, (by omega)⟩) (show (nd - (u + 1 : Int)).toNat < (nd - u).toNat from (by omega)) (Sub.cons rfl (Sub.cons rfl (Sub.cons rfl (Sub.cons rfl (Sub.cons lookO Sub.nil))))) (show Fit κ _ (vc 52 (.slice (a2) (es2).length (c2)) ((es2)) :: blk b4 [I64 (nd), .slice (a2) (es2).length (c2)] 28 :: blk b1 [I64 (0), .slice none 0 0] 28 :: blk b [lv, I64 ((iqb))] 79 :: I) from Fit.sub)
  ·refine W.exit ?_
   refine V.then_exit ?_
   refine V.then_exit ?_
   refine V.block_hit ?_
   refine V.then ?_
   refine W.sr ?_
   refine G.r (Runs.lds (vs := [_, _]) ty28) ?_
   refine G.e (Eff.st (cs := [_, _]) (vs := [_, _]) (cs' := [_, _]) ty28) ?_
   rintro _ _ ⟨rfl, rfl⟩
   refine G.nt ?_
   refine W.ret ?_
   exact V.retc rfl ty28 rfl (by repeat (first | exact List.mem_cons_self | apply List.mem_cons_of_mem)) rfl (vc 52 (.slice a es.length c) (es) :: blk b [lv, I64 (iqa)] 79 :: I) Fit.s ⟨(nd, a, c, es, iqa), ⟨⟨rfl, hnd.2, hG.ok (by omega), by show es.length ≤ 400; omega⟩, hiqa⟩, rfl⟩

theorem MkGraph_at {κ : Ctx} {I : List Item} {F : Item → List Item} {b : Nat} {lv : Value} {ls : List Int} {i : Int} {most : Int} (hat : AtF I (deck b lv i) F) (hl : ∀ q, Sl κ (F (deck b lv q)) lv ls) (h0 : 0 ≤ i)  (hm : 0 ≤ most ∧ most ≤ 20) :
    CallS Tryz.prog κ 9 [.pointer (some ⟨b, 0, none⟩), I64 (most)] I fun r J => ∃ y : Int × (Option Addr) × Nat × (List Pt) × Int, ((r = .agg #[I64 y.1, .slice y.2.1 y.2.2.2.1.length y.2.2.1] ∧ (y.1 ≤ most ∧ GrOk y.1 y.2.2.2.1 ∧ y.2.2.2.1.length ≤ 400)) ∧ 0 ≤ y.2.2.2.2) ∧ J = [vc 52 (.slice y.2.1 y.2.2.2.1.length y.2.2.1) y.2.2.2.1] ++ F (deck b lv y.2.2.2.2) :=
  CallS.at (Post := fun r (y : Int × (Option Addr) × Nat × (List Pt) × Int) => (r = .agg #[I64 y.1, .slice y.2.1 y.2.2.2.1.length y.2.2.1] ∧ (y.1 ≤ most ∧ GrOk y.1 y.2.2.2.1 ∧ y.2.2.2.1.length ≤ 400)) ∧ 0 ≤ y.2.2.2.2) (Z := fun y : Int × (Option Addr) × Nat × (List Pt) × Int => [vc 52 (.slice y.2.1 y.2.2.2.1.length y.2.2.1) y.2.2.2.1]) (X := fun y : Int × (Option Addr) × Nat × (List Pt) × Int => deck b lv y.2.2.2.2) hat fun J _ hF => MkGraph_base (fun q => (hl q).fit (hF _)) h0  hm

end Go.Sl
