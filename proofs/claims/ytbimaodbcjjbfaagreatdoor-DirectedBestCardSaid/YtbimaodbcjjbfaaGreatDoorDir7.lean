/- A part of the proofs of statements of this seat: contracts of functions, and the plain laws that they lean on. No conditions. -/
import Derived.Test.YtbimaodbcjjbfaaGreatDoorReach9
import Derived.Test.YtbimaodbcjjbfaaGreatDoorDir8
import Derived.Test.YtbimaodbcjjbfaaGreatDoorGraphH5
import Derived.Test.YtbimaodbcjjbfaaGreatDoorRunsT
import Derived.Test.YtbimaodbcjjbfaaGreatDoorSets
namespace Go.Sl
open Go.Proofs
set_option linter.unusedVariables false
set_option linter.unusedSimpArgs false
set_option maxRecDepth 4000
theorem CmpA_ok {κ : Ctx} {I : List Item} (a c : Pt) :
    CallS Tryz.prog κ 71 [.agg #[I64 (a.u), I64 (a.v)], .agg #[I64 (c.u), I64 (c.v)]] I (fun r J => r = I64 (Pt.cmp a c) ∧ I = J) := by
 refine CallS.enter (L := [(0, .agg #[I64 (a.u), I64 (a.v)]), (1, .agg #[I64 (c.u), I64 (c.v)])]) Tryz.func71 rfl rfl rfl rfl ?_
 refine W.sr ?_
 refine G.e (Eff.box (cs := [_, _]) rfl rfl rfl) ?_
 rintro _ _ ⟨b1, rfl, rfl⟩
 refine G.e (Eff.box (cs := [_, _]) rfl rfl rfl) ?_
 rintro _ _ ⟨b2, rfl, rfl⟩
 refine G.r (Runs.assign rfl) ?_
 refine G.nt ?_
 refine W.seq ?_
 refine W.drawn mixed ?_
 refine A.hold (blk b2 [I64 (c.u), I64 (c.v)] 32 :: blk b1 [I64 (a.u), I64 (a.v)] 32 :: I) 4 ?_
 refine D.r 0 rfl (Runs.sliceBlk Tryz.underlying32 ty3 rfl (by decide)) ?_ (hJ := Fit.sub)
 refine D.r 1 rfl (Runs.sliceBlk Tryz.underlying32 ty3 rfl (by decide)) ?_ (hJ := Fit.sub)
 refine D.step (rs := [2]) (by kernel_rfl) rfl rfl (all1 ?_)
 refine Step.eff rfl (Wanted.plain rfl) (Eff.call call72 rfl rfl (CompareD_ok (Sl.arr (xs := arL a) (BlkRd.of (by repeat (first | exact List.mem_cons_self | apply List.mem_cons_of_mem))) rfl rfl (by decide)) (Sl.arr (xs := arL c) (BlkRd.of (by repeat (first | exact List.mem_cons_self | apply List.mem_cons_of_mem))) rfl rfl (by decide)))) ?_
 rintro _ _ ⟨_, _, ⟨rfl, rfl⟩, rfl, rfl⟩
 refine ⟨Fit.sub, ?_⟩
 refine D.r 3 rfl (Runs.assign rfl) ?_ (hJ := Fit.sub)
 refine D.done (by kernel_rfl) ?_
 refine V.then ?_
 refine W.ret ?_
 exact V.ret1 rfl rfl (I) Fit.m ⟨by rw [cmp_arL], rfl⟩

open Go.Proofs Go.Shelf Go.Sort in
theorem SortD_ok {κ : Ctx} {I : List Item} {a : Option Addr} {c : Nat} {xs : List Pt} (hsz : xs.length < 1000000000) :
    CallS Tryz.prog κ 70 [.slice a xs.length c, .func (.func 71) #[] #[]] (vc 32 (.slice a xs.length c) xs :: I) fun r J => ∃ ys : List Pt, (r = .tuple #[] ∧ SortedP xs ys ∧ ys.length = xs.length) ∧ J = [] ++ vc 32 (.slice a xs.length c) ys :: I :=
  (sort_any (α := Pt) (ρ := Tryz.sort70_ren) Tryz.sort70 Tryz.isAgg32 Tryz.sizeOf32 Pt.cmp swo_pt 71 #[] (enters_of Tryz.func71 (by kernel_rfl) rfl) (fun x y W => lays_of (CmpA_ok x y)) (by omega)).mono fun r J ⟨ys, ⟨h1, h2, h3⟩, h4⟩ =>
    ⟨ys, ⟨h1, ⟨h2, h3.imp fun {a b} h => by rw [← Pt.cmp_lt]; exact of_decide_eq_false h⟩, h2.length_eq⟩, by rw [h4, h2.length_eq]⟩
theorem SortD_at {κ : Ctx} {I : List Item} {F : Item → List Item} {a : Option Addr} {c : Nat} {xs : List Pt} (hat : AtF I (vc 32 (.slice a xs.length c) xs) F) (hsz : xs.length < 1000000000) :
    CallS Tryz.prog κ 70 [.slice a xs.length c, .func (.func 71) #[] #[]] I fun r J => ∃ ys : List Pt, (r = .tuple #[] ∧ SortedP xs ys ∧ ys.length = xs.length) ∧ J = [] ++ F (vc 32 (.slice a xs.length c) ys) :=
  CallS.at (Z := fun _ => []) (X := fun ys : List Pt => vc 32 (.slice a xs.length c) ys) (Post := fun r ys => r = .tuple #[] ∧ SortedP xs ys ∧ ys.length = xs.length) hat fun J _ _ => SortD_ok hsz

theorem CloneA {κ : Ctx} {I : List Item} {a : Option Addr} {c : Nat} {xs : List Pt} (hl : Sl κ I (.slice a xs.length c) xs) (hb : xs.length ≤ 1000000000) :
    CallS Tryz.prog κ 69 [.slice a xs.length c] I (fun r J => ∃ a' c', r = .slice a' xs.length c' ∧ J = vc 32 (.slice a' xs.length c') xs :: I) := by
 refine CallS.pull (p := a.isNone = true → xs = [] ∧ c = 0) (fun w hs hn => hl.isNone w hs hn) fun hnone => ?_
 refine CallS.enter (L := [(0, .slice a xs.length c)]) Tryz.func69 rfl rfl rfl rfl ?_
 refine W.sr ?_
 refine G.r (Runs.assign rfl) ?_
 refine G.nt ?_
 refine W.seq ?_
 refine W.sr ?_
 refine G.r (Runs.move rfl) ?_
 refine G.r (Runs.eqnil Tryz.underlying33 rfl rfl) ?_
 refine G.nt ?_
 refine W.cond rfl (fun c4 => ?_) (fun c4 => ?_)
 ·refine W.sr ?_
  refine G.r (Runs.assign rfl) ?_
  refine G.nt ?_
  refine W.ret ?_
  refine V.then_ret ?_
  obtain ⟨hx0, _⟩ := hnone c4
  subst hx0
  exact V.ret1 rfl rfl (vc 32 (.slice none ([] : List Pt).length 0) ([] : List Pt) :: I) (Fit.nilvc _ _) ⟨none, 0, rfl, rfl⟩
 ·refine W.skip ?_
  refine V.then ?_
  refine W.sr ?_
  refine G.e (Eff.bs0 (α := Pt) Tryz.underlying33 ty32 rfl) ?_
  rintro _ _ ⟨ad1, rfl, rfl⟩
  refine G.r (Runs.move rfl) ?_
  refine G.e (Eff.app (α := Pt) (e := 32) (xs := ([] : List Pt)) (ys := xs) Tryz.underlying33 ty32 rfl rfl rfl (by repeat (first | exact List.mem_cons_self | apply List.mem_cons_of_mem)) (Sl.f hl) (by simp only [List.length_nil]; omega) (by decide) rfl (fun _ _ => (by repeat (first | exact At.head _ _ _ | apply At.tail)))) ?_
  rintro _ _ ⟨ad2, cp3, rfl, rfl⟩
  refine G.r (Runs.assign rfl) ?_
  refine G.nt ?_
  refine W.ret ?_
  exact V.ret1 rfl rfl (vc 32 (.slice ad2 xs.length cp3) xs :: I) Fit.sub ⟨ad2, cp3, rfl, rfl⟩

theorem Ends1_ok {κ : Ctx} {I : List Item} {b : Nat} {nd : Int} (hB : BlkRd κ I b [I64 nd] 3) (x : Pt) :
    CallS Tryz.prog κ 67 [.agg #[I64 (x.u), I64 (x.v)], .pointer (some ⟨b, 0, none⟩)] I (fun r J => r = .bool (!decide (endsP nd x.u x.v)) ∧ I = J) := by
 refine CallS.enter (L := [(0, .agg #[I64 (x.u), I64 (x.v)]), (1, .pointer (some ⟨b, 0, none⟩))]) Tryz.func67 rfl rfl rfl rfl ?_
 refine W.sr ?_
 refine G.e (Eff.box (cs := [_, _]) rfl rfl rfl) ?_
 rintro _ _ ⟨b1, rfl, rfl⟩
 refine G.r (Runs.assign rfl) ?_
 refine G.nt ?_
 refine W.sr ?_
 refine G.r (Runs.loadB ty3 rfl (BlkRd.fit hB Fit.m) rfl) ?_
 refine G.r (Runs.idxArr Tryz.underlying32 ty2 rfl rfl (by omega) (by omega)) ?_
 refine G.r (Runs.ld ty3) ?_
 refine G.r (Runs.idxArr Tryz.underlying32 ty2 rfl rfl (by omega) (by omega)) ?_
 refine G.r (Runs.ld ty3) ?_
 refine G.e (Eff.call call68 rfl rfl (Ends_ok nd x.u x.v)) ?_
 rintro _ _ ⟨_, _, ⟨rfl, rfl⟩, rfl, rfl⟩
 refine G.r (Runs.notd rfl) ?_
 refine G.r (Runs.assign rfl) ?_
 refine G.nt ?_
 refine W.ret ?_
 exact V.ret1 rfl rfl (I) Fit.m ⟨by simp, rfl⟩

theorem any_ends {nd : Int} {l : List Pt} (h : ∀ a ∈ l, endsP nd a.u a.v) : (l.any fun a : Pt => !decide (endsP nd a.u a.v)) = false := by
  rw [List.any_eq_false]
  intro x hx
  rw [decide_eq_true (h x hx)]; decide

theorem OfD_ok {κ : Ctx} {I : List Item} {nd : Int} {a0 : Option Addr} {c0 : Nat} {l : List Pt} (hl : Sl κ I (.slice a0 l.length c0) l) (hn : 0 ≤ nd ∧ nd ≤ 64) (he : ∀ a ∈ l, endsP nd a.u a.v) (hb : l.length ≤ 1000000) :
    CallS Tryz.prog κ 29 [I64 (nd), .slice a0 l.length c0] I (fun r J => ∃ a c, r = .tuple #[.agg #[I64 nd, .slice a (sortB Pt.lt l).length c], I64 0] ∧ J = vc 32 (.slice a (sortB Pt.lt l).length c) (sortB Pt.lt l) :: I) := by
 refine CallS.pull hl.le fun hmax => ?_
 refine CallS.enter (L := [(0, I64 (nd)), (1, .slice a0 l.length c0)]) Tryz.func29 rfl rfl rfl rfl ?_
 refine W.sr ?_
 refine G.e (Eff.box (cs := [_]) rfl rfl rfl) ?_
 rintro _ _ ⟨b1, rfl, rfl⟩
 refine G.e (Eff.alloc ty54 rfl) ?_
 rintro _ _ ⟨b2, rfl, rfl⟩
 refine G.r (Runs.assign rfl) ?_
 refine G.nt ?_
 refine W.seq ?_
 refine W.sr ?_
 refine G.r (Runs.ld ty3) ?_
 refine G.r (Runs.lss rfl rfl) ?_
 refine G.r (Runs.move rfl) ?_
 refine G.split (d := 8) rfl (fun g8 => ?_) (fun g8 => ?_)
 ·exact absurd g8 (by omega)
 ·refine G.ro (Runs.ld ty3) ?_
  refine G.ro (Runs.gtr rfl rfl) ?_
  refine G.r (Runs.pickf rfl rfl) ?_
  refine G.nt ?_
  refine W.ite rfl (fun c11 => ?_) (fun c11 => ?_)
  ·exact absurd c11 (by omega)
  ·refine W.skip ?_
   refine V.then ?_
   refine W.seq ?_
   refine W.sr ?_
   refine G.r (Runs.move rfl) ?_
   refine G.r (Runs.makeFunc rfl rfl) ?_
   refine G.e (Eff.call call66 rfl rfl (ContainsFuncP (Sl.f hl) (show Says Tryz.prog κ _ 67 [.pointer (some ⟨b1, 0, none⟩)] (fun a : Pt => !decide (endsP nd a.u a.v)) from ⟨call67, fun x K hK => Ends1_ok (nd := nd) (BlkRd.fit (BlkRd.of (by repeat (first | exact List.mem_cons_self | apply List.mem_cons_of_mem))) hK) x⟩))) ?_
   rintro _ _ ⟨_, _, ⟨rfl, rfl⟩, rfl, rfl⟩
   refine G.nt ?_
   refine W.sub (L' := [(15, _), (4, _), (2, _), (1, _)]) (Sub.cons rfl (Sub.cons rfl (Sub.cons rfl (Sub.cons rfl Sub.nil)))) ?_
   refine W.cond rfl (fun c15 => ?_) (fun c15 => ?_)
   ·exact absurd c15 (by rw [any_ends he]; decide)
   ·refine W.skip ?_
    refine V.then ?_
    refine W.sr ?_
    refine G.r (Runs.move rfl) ?_
    refine G.e (Eff.call call69 rfl rfl (CloneA (xs := l) (Sl.f hl) (by omega))) ?_
    rintro _ _ ⟨_, _, ⟨ad3, cp4, rfl, rfl⟩, rfl, rfl⟩
    refine G.r (Runs.assign rfl) ?_
    refine G.nt ?_
    refine W.sr ?_
    refine G.r (Runs.move rfl) ?_
    refine G.e (Eff.call call70 rfl rfl (SortD_at (by repeat (first | exact AtF.head _ _ | apply AtF.tail)) (by omega))) ?_
    rintro _ _ ⟨_, _, ⟨ys5, ⟨rfl, hsys5, hlys5⟩, rfl⟩, rfl, rfl⟩
    show G Tryz.prog κ _ _ _ _ ([(20, .tuple #[]), (19, .slice ad3 l.length cp4), (1, .slice ad3 l.length cp4), (18, .slice ad3 l.length cp4), (17, .slice a0 l.length c0), (15, .bool (l.any (fun a : Pt => !decide (endsP nd a.u a.v)))), (4, .pointer (some ⟨b2, 0, none⟩)), (2, .pointer (some ⟨b1, 0, none⟩)), (1, .slice a0 l.length c0)] : Env) (vc 32 (.slice ad3 l.length cp4) (ys5) :: blk b2 [I64 (0), .slice none 0 0] 54 :: blk b1 [I64 (nd)] 3 :: I)
    refine G.nt ?_
    refine W.seq ?_
    refine W.drawn mixed ?_
    refine A.hold (blk b2 [I64 (0), .slice none 0 0] 54 :: blk b1 [I64 (nd)] 3 :: I) 4 ?_
    refine D.r 0 rfl (Runs.ld ty3) ?_ (hJ := Fit.sub)
    refine D.r 1 rfl (Runs.move rfl) ?_ (hJ := Fit.sub)
    refine D.step (rs := [2]) (by kernel_rfl) rfl rfl (all1 ?_)
    refine Step.eff rfl (Wanted.plain rfl) (Eff.call call73 rfl rfl (CompactP_at (by repeat (first | exact AtF.head _ _ | apply AtF.tail)) (by omega) (by omega))) ?_
    rintro _ _ ⟨_, _, ⟨_, ⟨rfl, rfl⟩, rfl⟩, rfl, rfl⟩
    refine ⟨Fit.sub, ?_⟩
    show D Tryz.prog κ _ _ _ _ _ _ _ ([(23, .slice ad3 (compactN ys5 ys5.length).length cp4), (22, .slice ad3 l.length cp4), (21, I64 (nd)), (20, .tuple #[]), (19, .slice ad3 l.length cp4), (1, .slice ad3 l.length cp4), (18, .slice ad3 l.length cp4), (17, .slice a0 l.length c0), (15, .bool (l.any (fun a : Pt => !decide (endsP nd a.u a.v)))), (4, .pointer (some ⟨b2, 0, none⟩)), (2, .pointer (some ⟨b1, 0, none⟩)), (1, .slice a0 l.length c0)] : Env) (vc 32 (.slice ad3 (compactN ys5 ys5.length).length cp4) (compactN ys5 ys5.length) :: blk b2 [I64 (0), .slice none 0 0] 54 :: blk b1 [I64 (nd)] 3 :: I)
    refine D.r 3 rfl (Runs.build (cells := [_, _]) ty54 Tryz.underlying54 pl54 rfl rfl) ?_ (hJ := Fit.sub)
    refine D.stop (by kernel_rfl) ?_
    refine A.eff (i := 4) (by kernel_rfl) rfl (Wanted.plain rfl) (Eff.st (cs := [_, _]) (vs := [_, _]) (cs' := [_, _]) ty54) ?_
    rintro _ _ ⟨rfl, rfl⟩
    refine A.read (i := 5) (by kernel_rfl) rfl (Wanted.plain rfl) rfl rfl (Runs.assign rfl) ?_
    refine A.done (by kernel_rfl) ?_
    refine V.then ?_
    refine W.sub (L' := [(5, _), (4, _)]) (Sub.cons rfl (Sub.cons rfl Sub.nil)) ?_
    refine W.ret ?_
    have hM := compactN_of hsys5
    exact V.retc1 rfl ty54 rfl rfl (by repeat (first | exact List.mem_cons_self | apply List.mem_cons_of_mem)) rfl (vc 32 (.slice ad3 (sortB Pt.lt l).length cp4) (sortB Pt.lt l) :: I) (by rw [← hM]; exact Fit.sub) ⟨ad3, cp4, by first | (rw [← hM]; done) | (rw [← hM]; rfl), rfl⟩

theorem REnds_ok {κ : Ctx} {I : List Item} (nd : Int) (a : Pt) :
    CallS Tryz.prog κ 100 [I64 (nd), .agg #[I64 (a.u), I64 (a.v)]] I (fun r J => r = .bool (decide (endsP nd a.u a.v)) ∧ I = J) := by
 refine CallS.enter (L := [(0, I64 (nd)), (1, .agg #[I64 (a.u), I64 (a.v)])]) Tryz.func100 rfl rfl rfl rfl ?_
 refine W.sr ?_
 refine G.e (Eff.box (cs := [_, _]) rfl rfl rfl) ?_
 rintro _ _ ⟨b1, rfl, rfl⟩
 refine G.r (Runs.assign rfl) ?_
 refine G.nt ?_
 refine W.sr ?_
 refine G.r (Runs.idxArr Tryz.underlying32 ty2 rfl rfl (by omega) (by omega)) ?_
 refine G.r (Runs.ld ty3) ?_
 refine G.r (Runs.geq rfl rfl) ?_
 refine G.r (Runs.move rfl) ?_
 refine G.split (d := 8) rfl (fun g8 => ?_) (fun g8 => ?_)
 ·refine G.ro (Runs.idxArr Tryz.underlying32 ty2 rfl rfl (by omega) (by omega)) ?_
  refine G.ro (Runs.ld ty3) ?_
  refine G.ro (Runs.geq rfl rfl) ?_
  refine G.r (Runs.pickt rfl rfl) ?_
  refine G.r (Runs.move rfl) ?_
  refine G.split (d := 13) rfl (fun g13 => ?_) (fun g13 => ?_)
  ·refine G.ro (Runs.idxArr Tryz.underlying32 ty2 rfl rfl (by omega) (by omega)) ?_
   refine G.ro (Runs.ld ty3) ?_
   refine G.ro (Runs.move rfl) ?_
   refine G.ro (Runs.lss rfl rfl) ?_
   refine G.r (Runs.pickt rfl rfl) ?_
   refine G.r (Runs.move rfl) ?_
   refine G.split (d := 19) rfl (fun g19 => ?_) (fun g19 => ?_)
   ·refine G.ro (Runs.idxArr Tryz.underlying32 ty2 rfl rfl (by omega) (by omega)) ?_
    refine G.ro (Runs.ld ty3) ?_
    refine G.ro (Runs.move rfl) ?_
    refine G.ro (Runs.lss rfl rfl) ?_
    refine G.r (Runs.pickt rfl rfl) ?_
    refine G.r (Runs.move rfl) ?_
    refine G.split (d := 25) rfl (fun g25 => ?_) (fun g25 => ?_)
    ·refine G.ro (Runs.idxArr Tryz.underlying32 ty2 rfl rfl (by omega) (by omega)) ?_
     refine G.ro (Runs.ld ty3) ?_
     refine G.ro (Runs.idxArr Tryz.underlying32 ty2 rfl rfl (by omega) (by omega)) ?_
     refine G.ro (Runs.ld ty3) ?_
     refine G.ro (Runs.neq rfl rfl) ?_
     refine G.r (Runs.pickt rfl rfl) ?_
     refine G.r (Runs.assign rfl) ?_
     refine G.nt ?_
     refine W.sub (L' := [(4, _)]) (Sub.cons rfl Sub.nil) ?_
     refine W.ret ?_
     exact V.ret1 rfl rfl (I) Fit.m ⟨(by first | exact congrArg Value.bool (decide_eq_decide.2 (by unfold endsP; omega)) | exact congrArg Value.bool (decide_eq_true (by unfold endsP; omega)).symm | exact congrArg Value.bool (decide_eq_false (by unfold endsP; omega)).symm), rfl⟩
    ·refine G.po ?_
     refine G.po ?_
     refine G.po ?_
     refine G.po ?_
     refine G.po ?_
     refine G.r (Runs.pickf rfl rfl) ?_
     refine G.r (Runs.assign rfl) ?_
     refine G.nt ?_
     refine W.sub (L' := [(4, _)]) (Sub.cons rfl Sub.nil) ?_
     refine W.ret ?_
     exact V.ret1 rfl rfl (I) Fit.m ⟨(by first | exact congrArg Value.bool (decide_eq_decide.2 (by unfold endsP; omega)) | exact congrArg Value.bool (decide_eq_true (by unfold endsP; omega)).symm | exact congrArg Value.bool (decide_eq_false (by unfold endsP; omega)).symm), rfl⟩
   ·refine G.po ?_
    refine G.po ?_
    refine G.po ?_
    refine G.po ?_
    refine G.r (Runs.pickf rfl rfl) ?_
    refine G.r (Runs.move rfl) ?_
    refine G.po ?_
    refine G.po ?_
    refine G.po ?_
    refine G.po ?_
    refine G.po ?_
    refine G.r (Runs.pickf rfl rfl) ?_
    refine G.r (Runs.assign rfl) ?_
    refine G.nt ?_
    refine W.sub (L' := [(4, _)]) (Sub.cons rfl Sub.nil) ?_
    refine W.ret ?_
    exact V.ret1 rfl rfl (I) Fit.m ⟨(by first | exact congrArg Value.bool (decide_eq_decide.2 (by unfold endsP; omega)) | exact congrArg Value.bool (decide_eq_true (by unfold endsP; omega)).symm | exact congrArg Value.bool (decide_eq_false (by unfold endsP; omega)).symm), rfl⟩
  ·refine G.po ?_
   refine G.po ?_
   refine G.po ?_
   refine G.po ?_
   refine G.r (Runs.pickf rfl rfl) ?_
   refine G.r (Runs.move rfl) ?_
   refine G.po ?_
   refine G.po ?_
   refine G.po ?_
   refine G.po ?_
   refine G.r (Runs.pickf rfl rfl) ?_
   refine G.r (Runs.move rfl) ?_
   refine G.po ?_
   refine G.po ?_
   refine G.po ?_
   refine G.po ?_
   refine G.po ?_
   refine G.r (Runs.pickf rfl rfl) ?_
   refine G.r (Runs.assign rfl) ?_
   refine G.nt ?_
   refine W.sub (L' := [(4, _)]) (Sub.cons rfl Sub.nil) ?_
   refine W.ret ?_
   exact V.ret1 rfl rfl (I) Fit.m ⟨(by first | exact congrArg Value.bool (decide_eq_decide.2 (by unfold endsP; omega)) | exact congrArg Value.bool (decide_eq_true (by unfold endsP; omega)).symm | exact congrArg Value.bool (decide_eq_false (by unfold endsP; omega)).symm), rfl⟩
 ·refine G.po ?_
  refine G.po ?_
  refine G.po ?_
  refine G.r (Runs.pickf rfl rfl) ?_
  refine G.r (Runs.move rfl) ?_
  refine G.po ?_
  refine G.po ?_
  refine G.po ?_
  refine G.po ?_
  refine G.r (Runs.pickf rfl rfl) ?_
  refine G.r (Runs.move rfl) ?_
  refine G.po ?_
  refine G.po ?_
  refine G.po ?_
  refine G.po ?_
  refine G.r (Runs.pickf rfl rfl) ?_
  refine G.r (Runs.move rfl) ?_
  refine G.po ?_
  refine G.po ?_
  refine G.po ?_
  refine G.po ?_
  refine G.po ?_
  refine G.r (Runs.pickf rfl rfl) ?_
  refine G.r (Runs.assign rfl) ?_
  refine G.nt ?_
  refine W.sub (L' := [(4, _)]) (Sub.cons rfl Sub.nil) ?_
  refine W.ret ?_
  exact V.ret1 rfl rfl (I) Fit.m ⟨(by first | exact congrArg Value.bool (decide_eq_decide.2 (by unfold endsP; omega)) | exact congrArg Value.bool (decide_eq_true (by unfold endsP; omega)).symm | exact congrArg Value.bool (decide_eq_false (by unfold endsP; omega)).symm), rfl⟩

theorem RBef_ok {κ : Ctx} {I : List Item} (a c : Pt) :
    CallS Tryz.prog κ 101 [.agg #[I64 (a.u), I64 (a.v)], .agg #[I64 (c.u), I64 (c.v)]] I (fun r J => r = .bool (decide (Pt.lt a c)) ∧ I = J) := by
 refine CallS.enter (L := [(0, .agg #[I64 (a.u), I64 (a.v)]), (1, .agg #[I64 (c.u), I64 (c.v)])]) Tryz.func101 rfl rfl rfl rfl ?_
 refine W.sr ?_
 refine G.e (Eff.box (cs := [_, _]) rfl rfl rfl) ?_
 rintro _ _ ⟨b1, rfl, rfl⟩
 refine G.e (Eff.box (cs := [_, _]) rfl rfl rfl) ?_
 rintro _ _ ⟨b2, rfl, rfl⟩
 refine G.r (Runs.assign rfl) ?_
 refine G.nt ?_
 refine W.sr ?_
 refine G.r (Runs.idxArr Tryz.underlying32 ty2 rfl rfl (by omega) (by omega)) ?_
 refine G.r (Runs.ld ty3) ?_
 refine G.r (Runs.idxArr Tryz.underlying32 ty2 rfl rfl (by omega) (by omega)) ?_
 refine G.r (Runs.ld ty3) ?_
 refine G.r (Runs.lss rfl rfl) ?_
 refine G.r (Runs.move rfl) ?_
 refine G.split (d := 10) rfl (fun g10 => ?_) (fun g10 => ?_)
 ·refine G.po ?_
  refine G.po ?_
  refine G.po ?_
  refine G.po ?_
  refine G.po ?_
  refine G.po ?_
  refine G.pu ?_
  refine G.pu ?_
  refine G.pu ?_
  refine G.pu ?_
  refine G.pu ?_
  refine G.po ?_
  refine G.r (Runs.pickt rfl rfl) ?_
  refine G.r (Runs.assign rfl) ?_
  refine G.nt ?_
  refine W.sub (L' := [(4, _)]) (Sub.cons rfl Sub.nil) ?_
  refine W.ret ?_
  exact V.ret1 rfl rfl (I) Fit.m ⟨(by first | exact congrArg Value.bool (decide_eq_decide.2 (by unfold Pt.lt; omega)) | exact congrArg Value.bool (decide_eq_true (by unfold Pt.lt; omega)).symm | exact congrArg Value.bool (decide_eq_false (by unfold Pt.lt; omega)).symm), rfl⟩
 ·refine G.ro (Runs.idxArr Tryz.underlying32 ty2 rfl rfl (by omega) (by omega)) ?_
  refine G.ro (Runs.ld ty3) ?_
  refine G.ro (Runs.idxArr Tryz.underlying32 ty2 rfl rfl (by omega) (by omega)) ?_
  refine G.ro (Runs.ld ty3) ?_
  refine G.ro (Runs.eql rfl rfl) ?_
  refine G.ro (Runs.move rfl) ?_
  refine G.split (d := 16) rfl (fun g16 => ?_) (fun g16 => ?_)
  ·refine G.ro (Runs.idxArr Tryz.underlying32 ty2 rfl rfl (by omega) (by omega)) ?_
   refine G.ro (Runs.ld ty3) ?_
   refine G.ro (Runs.idxArr Tryz.underlying32 ty2 rfl rfl (by omega) (by omega)) ?_
   refine G.ro (Runs.ld ty3) ?_
   refine G.ro (Runs.lss rfl rfl) ?_
   refine G.ro (Runs.pickt rfl rfl) ?_
   refine G.r (Runs.pickf rfl rfl) ?_
   refine G.r (Runs.assign rfl) ?_
   refine G.nt ?_
   refine W.sub (L' := [(4, _)]) (Sub.cons rfl Sub.nil) ?_
   refine W.ret ?_
   exact V.ret1 rfl rfl (I) Fit.m ⟨(by first | exact congrArg Value.bool (decide_eq_decide.2 (by unfold Pt.lt; omega)) | exact congrArg Value.bool (decide_eq_true (by unfold Pt.lt; omega)).symm | exact congrArg Value.bool (decide_eq_false (by unfold Pt.lt; omega)).symm), rfl⟩
  ·refine G.po ?_
   refine G.po ?_
   refine G.po ?_
   refine G.po ?_
   refine G.po ?_
   refine G.ro (Runs.pickf rfl rfl) ?_
   refine G.r (Runs.pickf rfl rfl) ?_
   refine G.r (Runs.assign rfl) ?_
   refine G.nt ?_
   refine W.sub (L' := [(4, _)]) (Sub.cons rfl Sub.nil) ?_
   refine W.ret ?_
   exact V.ret1 rfl rfl (I) Fit.m ⟨(by first | exact congrArg Value.bool (decide_eq_decide.2 (by unfold Pt.lt; omega)) | exact congrArg Value.bool (decide_eq_true (by unfold Pt.lt; omega)).symm | exact congrArg Value.bool (decide_eq_false (by unfold Pt.lt; omega)).symm), rfl⟩

theorem put_asc {out : List Pt} {a : Pt} {i : Nat} (h : out.Pairwise Pt.lt) (hi : i ≤ out.length) (hgt : ∀ j : Nat, i ≤ j → j < out.length → Pt.lt a (at_ out (j : Int))) (hst : i = 0 ∨ (0 < i ∧ ¬ Pt.lt a (at_ out ((i : Int) - 1)) ∧ at_ out ((i : Int) - 1) ≠ a)) : (out.take i ++ ([a] ++ out.drop i)).Pairwise Pt.lt := by
  rw [List.pairwise_append, List.singleton_append, List.pairwise_cons]
  have hd : ∀ x ∈ out.drop i, Pt.lt a x := fun x hx => by
    obtain ⟨j, hj, he⟩ := mem_at hx
    rw [List.length_drop] at hj
    have e : at_ (out.drop i) (j : Int) = at_ out ((i + j : Nat) : Int) := by rw [at_nat, at_nat, List.getD_eq_getElem?_getD, List.getD_eq_getElem?_getD, List.getElem?_drop]
    rw [← he, e]; exact hgt _ (by omega) (by omega)
  have ht : ∀ x ∈ out.take i, Pt.lt x a := fun x hx => by
    rcases hst with h0 | ⟨h0, h1, h2⟩
    · subst h0; simp at hx
    · obtain ⟨j, hj, he⟩ := mem_at hx
      rw [List.length_take] at hj
      have e : at_ (out.take i) (j : Int) = at_ out (j : Int) := by rw [at_nat, at_nat, List.getD_eq_getElem?_getD, List.getD_eq_getElem?_getD, List.getElem?_take, if_pos (by omega)]
      have hl : Pt.lt (at_ out ((i : Int) - 1)) a := by
        have h3 : ¬ ((at_ out ((i : Int) - 1)).u = a.u ∧ (at_ out ((i : Int) - 1)).v = a.v) := fun hh => h2 ((Pt.ext_iff' _ _).2 hh)
        unfold Pt.lt at h1 ⊢
        omega
      rw [← he, e]
      by_cases hj2 : j = i - 1
      · rw [show (j : Int) = (i : Int) - 1 by omega]; exact hl
      · have := asc_at h (i := j) (j := i - 1) (by omega) (by omega)
        rw [show ((i - 1 : Nat) : Int) = (i : Int) - 1 by omega] at this
        exact Pt.lin.tr _ _ _ this hl
  exact ⟨h.sublist (List.take_sublist _ _), ⟨hd, h.sublist (List.drop_sublist _ _)⟩, fun x hx y hy => by
    rcases List.mem_cons.1 hy with rfl | hy
    · exact ht x hx
    · exact Pt.lin.tr _ _ _ (ht x hx) (hd y hy)⟩

set_option maxHeartbeats 4000000 in
theorem Of23_ok {κ : Ctx} {I : List Item} {nd : Int} {va : Value} {l : List Pt} (hl : Sl κ I va l) (hn : 0 ≤ nd ∧ nd ≤ 64) (he : ∀ a ∈ l, endsP nd a.u a.v) (hb : l.length ≤ 1000000) :
    CallS Tryz.prog κ 89 [I64 (nd), va] I (fun r J => ∃ a c out, r = .tuple #[.agg #[I64 nd, .slice a out.length c], I64 0] ∧ (DgOk nd out ∧ out.length ≤ l.length) ∧ J = vc 32 (.slice a out.length c) out :: I) := by
 refine CallS.pull hl.le fun hmax => ?_
 refine CallS.enter (L := [(0, I64 (nd)), (1, va)]) Tryz.func89 rfl rfl rfl rfl ?_
 refine W.sr ?_
 refine G.e (Eff.alloc ty54 rfl) ?_
 rintro _ _ ⟨b1, rfl, rfl⟩
 refine G.r (Runs.assign rfl) ?_
 refine G.nt ?_
 refine W.seq ?_
 refine W.sr ?_
 refine G.r (Runs.move rfl) ?_
 refine G.r (Runs.lss rfl rfl) ?_
 refine G.r (Runs.move rfl) ?_
 refine G.split (d := 12) rfl (fun g12 => ?_) (fun g12 => ?_)
 ·exact absurd g12 (by omega)
 ·refine G.ro (Runs.move rfl) ?_
  refine G.ro (Runs.gtr rfl rfl) ?_
  refine G.r (Runs.pickf rfl rfl) ?_
  refine G.nt ?_
  refine W.ite rfl (fun c15 => ?_) (fun c15 => ?_)
  ·exact absurd c15 (by omega)
  ·refine W.skip ?_
   refine V.then ?_
   refine W.sr ?_
   refine G.r (Runs.move rfl) ?_
   refine G.r (Runs.build (cells := [_, _]) ty54 Tryz.underlying54 pl54 rfl rfl) ?_
   refine G.e (Eff.alloc ty54 rfl) ?_
   rintro _ _ ⟨b2, rfl, rfl⟩
   refine G.e (Eff.st (cs := [_, _]) (vs := [_, _]) (cs' := [_, _]) ty54) ?_
   rintro _ _ ⟨rfl, rfl⟩
   refine G.nt ?_
   refine W.sub (L' := [(6, _), (4, _), (0, _), (1, _)]) (Sub.cons rfl (Sub.cons rfl (Sub.cons rfl (Sub.cons rfl Sub.nil)))) ?_
   refine W.seq ?_
   refine W.sr ?_
   refine G.r (Runs.move rfl) ?_
   refine G.r (Runs.lenT (α := Pt) (xs := l) Tryz.underlying33 rfl (Sl.f hl)) ?_
   refine G.r (Runs.move rfl) ?_
   refine G.nt ?_
   refine W.block ?_
   refine W.loop (σ := Nat × (Option Addr) × Nat × (List Pt)) (fun s => ([(0, I64 (nd)), (4, .pointer (some ⟨b1, 0, none⟩)), (6, .pointer (some ⟨b2, 0, none⟩)), (19, va), (20, I64 (((l.length : Nat) : Int))), (21, I64 (((s.1 : Nat) : Int)))] : Env)) (fun s => vc 32 (.slice s.2.1 s.2.2.2.length s.2.2.1) (s.2.2.2) :: blk b2 [I64 (nd), .slice s.2.1 s.2.2.2.length s.2.2.1] 54 :: blk b1 [I64 (0), .slice none 0 0] 54 :: I) (fun s => (s.1 ≤ l.length) ∧ (s.2.2.2.Pairwise Pt.lt) ∧ (∀ x ∈ s.2.2.2, endsP nd x.u x.v) ∧ (s.2.2.2.length ≤ s.1)) (fun s => l.length - s.1) (0, none, 0, []) (show ((0 : Nat) ≤ l.length) ∧ (([] : List Pt).Pairwise Pt.lt) ∧ (∀ x ∈ ([] : List Pt), endsP nd x.u x.v) ∧ (([] : List Pt).length ≤ (0 : Nat)) from ⟨(by omega), List.Pairwise.nil, (fun x hx => by cases hx), (Nat.le_refl _)⟩) (Sub.cons rfl (Sub.cons rfl (Sub.cons rfl (Sub.cons rfl (Sub.cons rfl (Sub.cons lookO Sub.nil)))))) (show Fit κ _ (vc 32 (.slice (none) ([]).length (0)) (([])) :: blk b2 [I64 (nd), .slice (none) ([]).length (0)] 54 :: blk b1 [I64 (0), .slice none 0 0] 54 :: I) from (Fit.nilvc _ _)) ?_
   rintro ⟨k, a, c, out⟩ hp
   obtain ⟨hk, hA, hE, hL⟩ : (k ≤ l.length) ∧ (out.Pairwise Pt.lt) ∧ (∀ x ∈ out, endsP nd x.u x.v) ∧ (out.length ≤ k) := hp
   show W Tryz.prog κ 74 _ _ ([(0, I64 (nd)), (4, .pointer (some ⟨b1, 0, none⟩)), (6, .pointer (some ⟨b2, 0, none⟩)), (19, va), (20, I64 (((l.length : Nat) : Int))), (21, I64 (((k : Nat) : Int)))] : Env) (vc 32 (.slice a out.length c) (out) :: blk b2 [I64 (nd), .slice a out.length c] 54 :: blk b1 [I64 (0), .slice none 0 0] 54 :: I)
   refine W.sr ?_
   refine G.r (Runs.lss rfl rfl) ?_
   refine G.nt ?_
   refine W.seq ?_
   refine W.ite rfl (fun c22 => ?_) (fun c22 => ?_)
   ·refine W.skip ?_
    refine V.then ?_
    refine W.seq ?_
    refine W.block ?_
    refine W.sr ?_
    refine G.r (Runs.idx (α := Pt) (xs := l) Tryz.underlying33 ty32 rfl rfl (Sl.f hl) (by omega) (by omega)) ?_
    refine G.r (Runs.gets (α := Pt) (xs := l) ty32 rfl (Sl.f hl) (by omega) (by omega)) ?_
    refine G.e (Eff.alloc ty32 rfl) ?_
    rintro _ _ ⟨b3, rfl, rfl⟩
    refine G.e (Eff.st (cs := [_, _]) (vs := [_, _]) (cs' := [_, _]) ty32) ?_
    rintro _ _ ⟨rfl, rfl⟩
    refine G.nt ?_
    refine W.seq ?_
    refine W.sr ?_
    refine G.r (Runs.move rfl) ?_
    refine G.r (Runs.lds (vs := [_, _]) ty32) ?_
    refine G.e (Eff.call call100 rfl rfl (REnds_ok nd (at_ l ((k : Nat) : Int)))) ?_
    rintro _ _ ⟨_, _, ⟨rfl, rfl⟩, rfl, rfl⟩
    refine G.r (Runs.notd rfl) ?_
    refine G.nt ?_
    refine W.sub (L' := [(28, _), (8, _), (0, _), (4, _), (6, _), (19, _), (20, _), (21, _)]) (Sub.cons rfl (Sub.cons rfl (Sub.cons rfl (Sub.cons rfl (Sub.cons rfl (Sub.cons rfl (Sub.cons rfl (Sub.cons rfl Sub.nil)))))))) ?_
    refine W.ite rfl (fun c28 => ?_) (fun c28 => ?_)
    ·exact absurd (he _ (at_mem (by omega) (by omega))) c28
    ·refine W.skip ?_
     refine V.then ?_
     refine W.sr ?_
     refine G.r (Runs.fieldAddr fld54_1 rfl) ?_
     refine G.r (Runs.ld ty33) ?_
     refine G.r (Runs.lens Tryz.underlying33 rfl) ?_
     refine G.r (Runs.assign rfl) ?_
     refine G.nt ?_
     refine W.cut (σ := Nat) (fun s => ([(0, I64 (nd)), (4, .pointer (some ⟨b1, 0, none⟩)), (6, .pointer (some ⟨b2, 0, none⟩)), (8, .pointer (some ⟨b3, 0, none⟩)), (9, I64 (((s : Nat) : Int))), (19, va), (20, I64 (((l.length : Nat) : Int))), (21, I64 (((k : Nat) : Int)))] : Env)) (fun s => blk b3 [I64 ((at_ l ((k : Nat) : Int)).u), I64 ((at_ l ((k : Nat) : Int)).v)] 32 :: vc 32 (.slice a out.length c) (out) :: blk b2 [I64 (nd), .slice a out.length c] 54 :: blk b1 [I64 (0), .slice none 0 0] 54 :: I) (fun s => (s ≤ out.length) ∧ (∀ j : Nat, s ≤ j → j < out.length → Pt.lt (at_ l ((k : Nat) : Int)) (at_ out (j : Int))) ∧ (s = 0 ∨ (0 < s ∧ ¬ Pt.lt (at_ l ((k : Nat) : Int)) (at_ out ((s : Int) - 1))))) ?_ ?_
     ·refine W.block ?_
      refine W.loop (σ := Nat) (fun s => ([(0, I64 (nd)), (4, .pointer (some ⟨b1, 0, none⟩)), (6, .pointer (some ⟨b2, 0, none⟩)), (8, .pointer (some ⟨b3, 0, none⟩)), (9, I64 (((s : Nat) : Int))), (19, va), (20, I64 (((l.length : Nat) : Int))), (21, I64 (((k : Nat) : Int)))] : Env)) (fun s => blk b3 [I64 ((at_ l ((k : Nat) : Int)).u), I64 ((at_ l ((k : Nat) : Int)).v)] 32 :: vc 32 (.slice a out.length c) (out) :: blk b2 [I64 (nd), .slice a out.length c] 54 :: blk b1 [I64 (0), .slice none 0 0] 54 :: I) (fun s => (s ≤ out.length) ∧ (∀ j : Nat, s ≤ j → j < out.length → Pt.lt (at_ l ((k : Nat) : Int)) (at_ out (j : Int)))) (fun s => s) (out.length) (show ((out.length : Nat) ≤ out.length) ∧ (∀ j : Nat, (out.length : Nat) ≤ j → j < out.length → Pt.lt (at_ l ((k : Nat) : Int)) (at_ out (j : Int))) from ⟨(by omega), (fun j h1 h2 => by omega)⟩) (Sub.cons rfl (Sub.cons rfl (Sub.cons rfl (Sub.cons rfl (Sub.cons lookO (Sub.cons rfl (Sub.cons rfl (Sub.cons rfl Sub.nil)))))))) (show Fit κ _ (blk b3 [I64 ((at_ l ((k : Nat) : Int)).u), I64 ((at_ l ((k : Nat) : Int)).v)] 32 :: vc 32 (.slice a out.length c) (out) :: blk b2 [I64 (nd), .slice a out.length c] 54 :: blk b1 [I64 (0), .slice none 0 0] 54 :: I) from Fit.sub) ?_
      rintro i hp
      obtain ⟨hi, hgt⟩ : (i ≤ out.length) ∧ (∀ j : Nat, i ≤ j → j < out.length → Pt.lt (at_ l ((k : Nat) : Int)) (at_ out (j : Int))) := hp
      show W Tryz.prog κ 74 _ _ ([(0, I64 (nd)), (4, .pointer (some ⟨b1, 0, none⟩)), (6, .pointer (some ⟨b2, 0, none⟩)), (8, .pointer (some ⟨b3, 0, none⟩)), (9, I64 (((i : Nat) : Int))), (19, va), (20, I64 (((l.length : Nat) : Int))), (21, I64 (((k : Nat) : Int)))] : Env) (blk b3 [I64 ((at_ l ((k : Nat) : Int)).u), I64 ((at_ l ((k : Nat) : Int)).v)] 32 :: vc 32 (.slice a out.length c) (out) :: blk b2 [I64 (nd), .slice a out.length c] 54 :: blk b1 [I64 (0), .slice none 0 0] 54 :: I)
      refine W.seq ?_
      refine W.seq ?_
      refine W.drawn mixed ?_
      refine A.hold (blk b3 [I64 ((at_ l ((k : Nat) : Int)).u), I64 ((at_ l ((k : Nat) : Int)).v)] 32 :: vc 32 (.slice a out.length c) (out) :: blk b2 [I64 (nd), .slice a out.length c] 54 :: blk b1 [I64 (0), .slice none 0 0] 54 :: I) 12 ?_
      refine D.r 0 rfl (Runs.move rfl) ?_ (hJ := Fit.sub)
      refine D.r 1 rfl (Runs.gtr rfl rfl) ?_ (hJ := Fit.sub)
      refine D.r 2 rfl (Runs.move rfl) ?_ (hJ := Fit.sub)
      refine D.split (d := 35) rfl (fun g35 => ?_) (fun g35 => ?_)
      ·refine D.read 3 rfl (by kernel_rfl) (by kernel_rfl) (by kernel_rfl) rfl (by kernel_rfl) (fun _ _ _ _ h => h) (Wanted.on rfl rfl rfl) rfl rfl Fit.sub (Runs.lds (vs := [_, _]) ty32) ?_
       refine D.read 4 rfl (by kernel_rfl) (by kernel_rfl) (by kernel_rfl) rfl (by kernel_rfl) (fun _ _ _ _ h => h) (Wanted.on rfl rfl rfl) rfl rfl Fit.sub (Runs.fieldAddr fld54_1 rfl) ?_
       refine D.read 5 rfl (by kernel_rfl) (by kernel_rfl) (by kernel_rfl) rfl (by kernel_rfl) (fun _ _ _ _ h => h) (Wanted.on rfl rfl rfl) rfl rfl Fit.sub (Runs.ld ty33) ?_
       refine D.read 6 rfl (by kernel_rfl) (by kernel_rfl) (by kernel_rfl) rfl (by kernel_rfl) (fun _ _ _ _ h => h) (Wanted.on rfl rfl rfl) rfl rfl Fit.sub (Runs.move rfl) ?_
       refine D.read 7 rfl (by kernel_rfl) (by kernel_rfl) (by kernel_rfl) rfl (by kernel_rfl) (fun _ _ _ _ h => h) (Wanted.on rfl rfl rfl) rfl rfl Fit.sub (Runs.sub rfl rfl (by unfold InR; omega)) ?_
       refine D.read 8 rfl (by kernel_rfl) (by kernel_rfl) (by kernel_rfl) rfl (by kernel_rfl) (fun _ _ _ _ h => h) (Wanted.on rfl rfl rfl) rfl rfl Fit.sub (Runs.idx (α := Pt) (xs := out) Tryz.underlying33 ty32 rfl rfl Sl.o (by omega) (by omega)) ?_
       refine D.read 9 rfl (by kernel_rfl) (by kernel_rfl) (by kernel_rfl) rfl (by kernel_rfl) (fun _ _ _ _ h => h) (Wanted.on rfl rfl rfl) rfl rfl Fit.sub (Runs.gets (α := Pt) (xs := out) ty32 rfl Sl.o (by omega) (by omega)) ?_
       refine D.step (rs := [10]) (by kernel_rfl) rfl rfl (all1 ?_)
       refine Step.eff rfl (Wanted.on rfl rfl rfl) (Eff.call call101 rfl rfl (RBef_ok (at_ l ((k : Nat) : Int)) (at_ out (((i : Nat) : Int) - 1)))) ?_
       rintro _ _ ⟨_, _, ⟨rfl, rfl⟩, rfl, rfl⟩
       refine ⟨Fit.sub, ?_⟩
       refine D.r 11 rfl (Runs.pickt rfl rfl) ?_ (hJ := Fit.sub)
       refine D.done (by kernel_rfl) ?_
       refine V.then ?_
       refine W.sub (L' := [(44, _), (0, _), (4, _), (6, _), (8, _), (9, _), (19, _), (20, _), (21, _)]) (Sub.cons rfl (Sub.cons rfl (Sub.cons rfl (Sub.cons rfl (Sub.cons rfl (Sub.cons rfl (Sub.cons rfl (Sub.cons rfl (Sub.cons rfl Sub.nil))))))))) ?_
       refine W.ite rfl (fun c44 => ?_) (fun c44 => ?_)
       ·refine W.skip ?_
        refine V.then ?_
        refine W.block ?_
        refine W.region ?_
        refine G.r (Runs.move rfl) ?_
        refine G.r (Runs.sub rfl rfl (by unfold InR; omega)) ?_
        refine G.r (Runs.assign rfl) ?_
        refine G.nil ?_
        refine V.block_normal ?_
        exact V.next ((i - 1)) (show ((i - 1 : Nat) ≤ out.length) ∧ (∀ j : Nat, (i - 1 : Nat) ≤ j → j < out.length → Pt.lt (at_ l ((k : Nat) : Int)) (at_ out (j : Int))) from ⟨(by omega), (fun j h1 h2 => if h : i ≤ j then hgt j h h2 else by have e : (j : Int) = (i : Int) - 1 := (by omega); rw [e]; exact c44)⟩) (show (i - 1 : Nat) < i from (by omega)) (Sub.cons rfl (Sub.cons rfl (Sub.cons rfl (Sub.cons rfl (Sub.cons lookO (Sub.cons rfl (Sub.cons rfl (Sub.cons rfl Sub.nil)))))))) (show Fit κ _ (blk b3 [I64 ((at_ l ((k : Nat) : Int)).u), I64 ((at_ l ((k : Nat) : Int)).v)] 32 :: vc 32 (.slice a out.length c) (out) :: blk b2 [I64 (nd), .slice a out.length c] 54 :: blk b1 [I64 (0), .slice none 0 0] 54 :: I) from Fit.sub)
       ·refine W.exit ?_
        refine V.then_exit ?_
        refine V.then_exit ?_
        refine V.block_hit ?_
        exact V.mid ((i)) (show ((i : Nat) ≤ out.length) ∧ (∀ j : Nat, (i : Nat) ≤ j → j < out.length → Pt.lt (at_ l ((k : Nat) : Int)) (at_ out (j : Int))) ∧ ((i : Nat) = 0 ∨ (0 < (i : Nat) ∧ ¬ Pt.lt (at_ l ((k : Nat) : Int)) (at_ out (((i : Nat) : Int) - 1)))) from ⟨(by omega), hgt, (by first | omega | exact .inr ⟨by omega, c44⟩)⟩) (Sub.cons rfl (Sub.cons rfl (Sub.cons rfl (Sub.cons rfl (Sub.cons lookO (Sub.cons rfl (Sub.cons rfl (Sub.cons rfl Sub.nil)))))))) (show Fit κ _ (blk b3 [I64 ((at_ l ((k : Nat) : Int)).u), I64 ((at_ l ((k : Nat) : Int)).v)] 32 :: vc 32 (.slice a out.length c) (out) :: blk b2 [I64 (nd), .slice a out.length c] 54 :: blk b1 [I64 (0), .slice none 0 0] 54 :: I) from Fit.sub)
      ·refine D.pass 3 rfl (by kernel_rfl) (by kernel_rfl) (by kernel_rfl) rfl (by kernel_rfl) (fun _ _ _ _ h => h) (Unwanted.off rfl rfl rfl) rfl rfl Fit.sub ?_
       refine D.pass 4 rfl (by kernel_rfl) (by kernel_rfl) (by kernel_rfl) rfl (by kernel_rfl) (fun _ _ _ _ h => h) (Unwanted.off rfl rfl rfl) rfl rfl Fit.sub ?_
       refine D.pass 5 rfl (by kernel_rfl) (by kernel_rfl) (by kernel_rfl) rfl (by kernel_rfl) (fun _ _ _ _ h => h) (Unwanted.off rfl rfl rfl) rfl rfl Fit.sub ?_
       refine D.pass 6 rfl (by kernel_rfl) (by kernel_rfl) (by kernel_rfl) rfl (by kernel_rfl) (fun _ _ _ _ h => h) (Unwanted.off rfl rfl rfl) rfl rfl Fit.sub ?_
       refine D.pass 7 rfl (by kernel_rfl) (by kernel_rfl) (by kernel_rfl) rfl (by kernel_rfl) (fun _ _ _ _ h => h) (Unwanted.off rfl rfl rfl) rfl rfl Fit.sub ?_
       refine D.pass 8 rfl (by kernel_rfl) (by kernel_rfl) (by kernel_rfl) rfl (by kernel_rfl) (fun _ _ _ _ h => h) (Unwanted.off rfl rfl rfl) rfl rfl Fit.sub ?_
       refine D.pass 9 rfl (by kernel_rfl) (by kernel_rfl) (by kernel_rfl) rfl (by kernel_rfl) (fun _ _ _ _ h => h) (Unwanted.off rfl rfl rfl) rfl rfl Fit.sub ?_
       refine D.pass 10 rfl (by kernel_rfl) (by kernel_rfl) (by kernel_rfl) rfl (by kernel_rfl) (fun _ _ _ _ h => h) (Unwanted.off rfl rfl rfl) rfl rfl Fit.sub ?_
       refine D.r 11 rfl (Runs.pickf rfl rfl) ?_ (hJ := Fit.sub)
       refine D.done (by kernel_rfl) ?_
       refine V.then ?_
       refine W.sub (L' := [(44, _), (0, _), (4, _), (6, _), (8, _), (9, _), (19, _), (20, _), (21, _)]) (Sub.cons rfl (Sub.cons rfl (Sub.cons rfl (Sub.cons rfl (Sub.cons rfl (Sub.cons rfl (Sub.cons rfl (Sub.cons rfl (Sub.cons rfl Sub.nil))))))))) ?_
       refine W.no rfl ?_
       refine W.exit ?_
       refine V.then_exit ?_
       refine V.then_exit ?_
       refine V.block_hit ?_
       exact V.mid ((i)) (show ((i : Nat) ≤ out.length) ∧ (∀ j : Nat, (i : Nat) ≤ j → j < out.length → Pt.lt (at_ l ((k : Nat) : Int)) (at_ out (j : Int))) ∧ ((i : Nat) = 0 ∨ (0 < (i : Nat) ∧ ¬ Pt.lt (at_ l ((k : Nat) : Int)) (at_ out (((i : Nat) : Int) - 1)))) from ⟨(by omega), hgt, (by first | omega | exact .inr ⟨by omega, c44⟩)⟩) (Sub.cons rfl (Sub.cons rfl (Sub.cons rfl (Sub.cons rfl (Sub.cons lookO (Sub.cons rfl (Sub.cons rfl (Sub.cons rfl Sub.nil)))))))) (show Fit κ _ (blk b3 [I64 ((at_ l ((k : Nat) : Int)).u), I64 ((at_ l ((k : Nat) : Int)).v)] 32 :: vc 32 (.slice a out.length c) (out) :: blk b2 [I64 (nd), .slice a out.length c] 54 :: blk b1 [I64 (0), .slice none 0 0] 54 :: I) from Fit.sub)
     ·rintro i hp
      obtain ⟨hi, hgt, hst⟩ : (i ≤ out.length) ∧ (∀ j : Nat, i ≤ j → j < out.length → Pt.lt (at_ l ((k : Nat) : Int)) (at_ out (j : Int))) ∧ (i = 0 ∨ (0 < i ∧ ¬ Pt.lt (at_ l ((k : Nat) : Int)) (at_ out ((i : Int) - 1)))) := hp
      show W Tryz.prog κ 74 _ _ ([(0, I64 (nd)), (4, .pointer (some ⟨b1, 0, none⟩)), (6, .pointer (some ⟨b2, 0, none⟩)), (8, .pointer (some ⟨b3, 0, none⟩)), (9, I64 (((i : Nat) : Int))), (19, va), (20, I64 (((l.length : Nat) : Int))), (21, I64 (((k : Nat) : Int)))] : Env) (blk b3 [I64 ((at_ l ((k : Nat) : Int)).u), I64 ((at_ l ((k : Nat) : Int)).v)] 32 :: vc 32 (.slice a out.length c) (out) :: blk b2 [I64 (nd), .slice a out.length c] 54 :: blk b1 [I64 (0), .slice none 0 0] 54 :: I)
      refine W.seq ?_
      refine W.drawn mixed ?_
      refine A.hold (blk b3 [I64 ((at_ l ((k : Nat) : Int)).u), I64 ((at_ l ((k : Nat) : Int)).v)] 32 :: vc 32 (.slice a out.length c) (out) :: blk b2 [I64 (nd), .slice a out.length c] 54 :: blk b1 [I64 (0), .slice none 0 0] 54 :: I) 12 ?_
      refine D.r 0 rfl (Runs.move rfl) ?_ (hJ := Fit.sub)
      refine D.r 1 rfl (Runs.eql rfl rfl) ?_ (hJ := Fit.sub)
      refine D.r 2 rfl (Runs.move rfl) ?_ (hJ := Fit.sub)
      refine D.split (d := 49) rfl (fun g49 => ?_) (fun g49 => ?_)
      ·refine D.pass 3 rfl (by kernel_rfl) (by kernel_rfl) (by kernel_rfl) rfl (by kernel_rfl) (fun _ _ _ _ h => h) (Unwanted.off rfl rfl rfl) rfl rfl Fit.sub ?_
       refine D.pass 4 rfl (by kernel_rfl) (by kernel_rfl) (by kernel_rfl) rfl (by kernel_rfl) (fun _ _ _ _ h => h) (Unwanted.off rfl rfl rfl) rfl rfl Fit.sub ?_
       refine D.pass 5 rfl (by kernel_rfl) (by kernel_rfl) (by kernel_rfl) rfl (by kernel_rfl) (fun _ _ _ _ h => h) (Unwanted.off rfl rfl rfl) rfl rfl Fit.sub ?_
       refine D.pass 6 rfl (by kernel_rfl) (by kernel_rfl) (by kernel_rfl) rfl (by kernel_rfl) (fun _ _ _ _ h => h) (Unwanted.off rfl rfl rfl) rfl rfl Fit.sub ?_
       refine D.pass 7 rfl (by kernel_rfl) (by kernel_rfl) (by kernel_rfl) rfl (by kernel_rfl) (fun _ _ _ _ h => h) (Unwanted.off rfl rfl rfl) rfl rfl Fit.sub ?_
       refine D.pass 8 rfl (by kernel_rfl) (by kernel_rfl) (by kernel_rfl) rfl (by kernel_rfl) (fun _ _ _ _ h => h) (Unwanted.off rfl rfl rfl) rfl rfl Fit.sub ?_
       refine D.pass 9 rfl (by kernel_rfl) (by kernel_rfl) (by kernel_rfl) rfl (by kernel_rfl) (fun _ _ _ _ h => h) (Unwanted.off rfl rfl rfl) rfl rfl Fit.sub ?_
       refine D.pass 10 rfl (by kernel_rfl) (by kernel_rfl) (by kernel_rfl) rfl (by kernel_rfl) (fun _ _ _ _ h => h) (Unwanted.off rfl rfl rfl) rfl rfl Fit.sub ?_
       refine D.r 11 rfl (Runs.pickt rfl rfl) ?_ (hJ := Fit.sub)
       refine D.done (by kernel_rfl) ?_
       refine V.then ?_
       refine W.sub (L' := [(58, _), (0, _), (4, _), (6, _), (8, _), (9, _), (19, _), (20, _), (21, _)]) (Sub.cons rfl (Sub.cons rfl (Sub.cons rfl (Sub.cons rfl (Sub.cons rfl (Sub.cons rfl (Sub.cons rfl (Sub.cons rfl (Sub.cons rfl Sub.nil))))))))) ?_
       refine W.yes rfl ?_
       refine W.drawn mixed ?_
       refine A.hold (blk b3 [I64 ((at_ l ((k : Nat) : Int)).u), I64 ((at_ l ((k : Nat) : Int)).v)] 32 :: blk b2 [I64 (nd), .slice a out.length c] 54 :: blk b1 [I64 (0), .slice none 0 0] 54 :: I) 13 ?_
       refine D.r 0 rfl (Runs.fieldAddr fld54_1 rfl) ?_ (hJ := Fit.sub)
       refine D.r 1 rfl (Runs.ld ty33) ?_ (hJ := Fit.sub)
       refine D.r 2 rfl (Runs.move rfl) ?_ (hJ := Fit.sub)
       refine D.r 4 rfl (Runs.lds (vs := [_, _]) ty32) ?_ (hJ := Fit.sub)
       refine D.r 6 rfl (Runs.fieldAddr fld54_1 rfl) ?_ (hJ := Fit.sub)
       refine D.r 7 rfl (Runs.ld ty33) ?_ (hJ := Fit.sub)
       refine D.r 8 rfl (Runs.move rfl) ?_ (hJ := Fit.sub)
       refine D.step (rs := [3, 5, 9]) (by kernel_rfl) rfl rfl (all2 ?_ (all2 ?_ (all1 ?_)))
       ·refine Step.read rfl (Wanted.plain rfl) rfl rfl (Runs.hi (α := Pt) (xs := out) (h := i) Tryz.underlying33 ty32 rfl rfl (by omega) Sl.o (by omega)) Fit.sub ?_
        refine D.step (rs := [5, 9]) (by kernel_rfl) rfl rfl (all2 ?_ (all1 ?_))
        ·refine Step.eff rfl (Wanted.plain rfl) (Eff.bs (α := Pt) (cs := [_, _]) (xs := [⟨(at_ l ((k : Nat) : Int)).u, (at_ l ((k : Nat) : Int)).v⟩]) Tryz.underlying33 ty32 rfl rfl (by decide) (by decide) rfl rfl rfl rfl) ?_
         rintro _ _ ⟨ad4, rfl, rfl⟩
         refine ⟨Fit.sub, ?_⟩
         refine D.step (rs := [9]) (by kernel_rfl) rfl rfl (all1 ?_)
         refine Step.read rfl (Wanted.plain rfl) rfl rfl (Runs.lo (α := Pt) (xs := out) (l := i) Tryz.underlying33 ty32 rfl rfl (by omega) Sl.o (by omega)) Fit.sub ?_
         refine D.step (rs := [10]) (by kernel_rfl) rfl rfl (all1 ?_)
         refine Step.eff rfl (Wanted.plain rfl) (Eff.app (α := Pt) (e := 32) (xs := ([⟨(at_ l ((k : Nat) : Int)).u, (at_ l ((k : Nat) : Int)).v⟩] : List Pt)) (ys := List.drop i out) Tryz.underlying33 ty32 rfl rfl rfl (by repeat (first | exact List.mem_cons_self | apply List.mem_cons_of_mem)) (Sl.drop Sl.o (by omega)) (by simp only [List.length_cons, List.length_nil, List.length_append, List.length_take, List.length_drop]; omega) (by decide) rfl (fun _ _ => (by repeat (first | exact At.head _ _ _ | apply At.tail)))) ?_
         rintro _ _ ⟨ad5, cp6, rfl, rfl⟩
         refine ⟨Fit.sub, ?_⟩
         refine D.fit (J := vc 32 (.slice a (List.take i out).length c) (List.take i out) :: vc 32 (.slice ad5 (([⟨(at_ l ((k : Nat) : Int)).u, (at_ l ((k : Nat) : Int)).v⟩] : List Pt) ++ (List.drop i out)).length cp6) (([⟨(at_ l ((k : Nat) : Int)).u, (at_ l ((k : Nat) : Int)).v⟩] : List Pt) ++ (List.drop i out)) :: blk b3 [I64 ((at_ l ((k : Nat) : Int)).u), I64 ((at_ l ((k : Nat) : Int)).v)] 32 :: blk b2 [I64 (nd), .slice a out.length c] 54 :: blk b1 [I64 (0), .slice none 0 0] 54 :: I) (Fit.trans (show Fit κ _ (vc 32 (.slice a out.length c) (out) :: vc 32 (.slice ad5 (([⟨(at_ l ((k : Nat) : Int)).u, (at_ l ((k : Nat) : Int)).v⟩] : List Pt) ++ (List.drop i out)).length cp6) (([⟨(at_ l ((k : Nat) : Int)).u, (at_ l ((k : Nat) : Int)).v⟩] : List Pt) ++ (List.drop i out)) :: blk b3 [I64 ((at_ l ((k : Nat) : Int)).u), I64 ((at_ l ((k : Nat) : Int)).v)] 32 :: blk b2 [I64 (nd), .slice a out.length c] 54 :: blk b1 [I64 (0), .slice none 0 0] 54 :: I) from Fit.s) (Fit.takevc (α := Pt) rfl)) ?_
         refine D.step (rs := [11]) (by kernel_rfl) rfl rfl (all1 ?_)
         refine Step.eff rfl (Wanted.plain rfl) (Eff.app (α := Pt) (e := 32) (xs := List.take i out) (ys := ([⟨(at_ l ((k : Nat) : Int)).u, (at_ l ((k : Nat) : Int)).v⟩] : List Pt) ++ (List.drop i out)) Tryz.underlying33 ty32 rfl rfl rfl (by repeat (first | exact List.mem_cons_self | apply List.mem_cons_of_mem)) Sl.o (by simp only [List.length_cons, List.length_nil, List.length_append, List.length_take, List.length_drop]; omega) (by decide) rfl (fun _ _ => (by repeat (first | exact At.head _ _ _ | apply At.tail)))) ?_
         rintro _ _ ⟨ad7, cp8, rfl, rfl⟩
         refine ⟨Fit.sub, ?_⟩
         refine D.r 12 rfl (Runs.fieldAddr fld54_1 rfl) ?_ (hJ := Fit.sub)
         refine D.stop (by kernel_rfl) ?_
         refine A.eff (i := 13) (by kernel_rfl) rfl (Wanted.plain rfl) (Eff.st (cs := [_, _]) (vs := [_]) (cs' := [_, _]) ty33) ?_
         rintro _ _ ⟨rfl, rfl⟩
         refine A.done (by kernel_rfl) ?_
         refine V.block_normal ?_
         refine V.then ?_
         refine W.sub (L' := [(0, _), (4, _), (6, _), (19, _), (20, _), (21, _)]) (Sub.cons rfl (Sub.cons rfl (Sub.cons rfl (Sub.cons rfl (Sub.cons rfl (Sub.cons rfl Sub.nil)))))) ?_
         refine W.region ?_
         refine G.r (Runs.add rfl rfl (by unfold InR; omega)) ?_
         refine G.r (Runs.move rfl) ?_
         refine G.nil ?_
         exact V.next ((k + 1), (ad7), (cp8), ((List.take i out) ++ (([⟨(at_ l ((k : Nat) : Int)).u, (at_ l ((k : Nat) : Int)).v⟩] : List Pt) ++ (List.drop i out)))) (show ((k + 1 : Nat) ≤ l.length) ∧ (((List.take i out) ++ (([⟨(at_ l ((k : Nat) : Int)).u, (at_ l ((k : Nat) : Int)).v⟩] : List Pt) ++ (List.drop i out)) : List Pt).Pairwise Pt.lt) ∧ (∀ x ∈ ((List.take i out) ++ (([⟨(at_ l ((k : Nat) : Int)).u, (at_ l ((k : Nat) : Int)).v⟩] : List Pt) ++ (List.drop i out)) : List Pt), endsP nd x.u x.v) ∧ (((List.take i out) ++ (([⟨(at_ l ((k : Nat) : Int)).u, (at_ l ((k : Nat) : Int)).v⟩] : List Pt) ++ (List.drop i out)) : List Pt).length ≤ (k + 1 : Nat)) from ⟨(by omega), (put_asc hA hi hgt (by first | exact .inl (by omega) | (by_cases h0 : i = 0; (· exact .inl h0); (· exact .inr ⟨by omega, (hst.resolve_left h0).2, by simpa [Pt.ext_iff'] using c58⟩)))), (fun x hx => by rcases List.mem_append.1 hx with h | h; (· exact hE x (List.mem_of_mem_take h)); (· rcases List.mem_append.1 h with h | h; (· rw [List.mem_singleton] at h; rw [h]; exact Classical.not_not.1 c28); (· exact hE x (List.mem_of_mem_drop h)))), (by first | omega | (simp only [List.length_append, List.length_take, List.length_drop, List.length_cons, List.length_nil]; omega))⟩) (show l.length - (k + 1 : Nat) < l.length - k from (by omega)) (Sub.cons rfl (Sub.cons rfl (Sub.cons rfl (Sub.cons rfl (Sub.cons rfl (Sub.cons lookO Sub.nil)))))) (show Fit κ _ (vc 32 (.slice (ad7) ((List.take i out) ++ (([⟨(at_ l ((k : Nat) : Int)).u, (at_ l ((k : Nat) : Int)).v⟩] : List Pt) ++ (List.drop i out))).length (cp8)) (((List.take i out) ++ (([⟨(at_ l ((k : Nat) : Int)).u, (at_ l ((k : Nat) : Int)).v⟩] : List Pt) ++ (List.drop i out)))) :: blk b2 [I64 (nd), .slice (ad7) ((List.take i out) ++ (([⟨(at_ l ((k : Nat) : Int)).u, (at_ l ((k : Nat) : Int)).v⟩] : List Pt) ++ (List.drop i out))).length (cp8)] 54 :: blk b1 [I64 (0), .slice none 0 0] 54 :: I) from (by first | exact Fit.s | exact Fit.sub))
        ·refine Step.read rfl (Wanted.plain rfl) rfl rfl (Runs.lo (α := Pt) (xs := out) (l := i) Tryz.underlying33 ty32 rfl rfl (by omega) Sl.o (by omega)) Fit.sub ?_
         refine D.step (rs := [5]) (by kernel_rfl) rfl rfl (all1 ?_)
         refine Step.eff rfl (Wanted.plain rfl) (Eff.bs (α := Pt) (cs := [_, _]) (xs := [⟨(at_ l ((k : Nat) : Int)).u, (at_ l ((k : Nat) : Int)).v⟩]) Tryz.underlying33 ty32 rfl rfl (by decide) (by decide) rfl rfl rfl rfl) ?_
         rintro _ _ ⟨ad9, rfl, rfl⟩
         refine ⟨Fit.sub, ?_⟩
         refine D.step (rs := [10]) (by kernel_rfl) rfl rfl (all1 ?_)
         refine Step.eff rfl (Wanted.plain rfl) (Eff.app (α := Pt) (e := 32) (xs := ([⟨(at_ l ((k : Nat) : Int)).u, (at_ l ((k : Nat) : Int)).v⟩] : List Pt)) (ys := List.drop i out) Tryz.underlying33 ty32 rfl rfl rfl (by repeat (first | exact List.mem_cons_self | apply List.mem_cons_of_mem)) (Sl.drop Sl.o (by omega)) (by simp only [List.length_cons, List.length_nil, List.length_append, List.length_take, List.length_drop]; omega) (by decide) rfl (fun _ _ => (by repeat (first | exact At.head _ _ _ | apply At.tail)))) ?_
         rintro _ _ ⟨ad10, cp11, rfl, rfl⟩
         refine ⟨Fit.sub, ?_⟩
         refine D.fit (J := vc 32 (.slice a (List.take i out).length c) (List.take i out) :: vc 32 (.slice ad10 (([⟨(at_ l ((k : Nat) : Int)).u, (at_ l ((k : Nat) : Int)).v⟩] : List Pt) ++ (List.drop i out)).length cp11) (([⟨(at_ l ((k : Nat) : Int)).u, (at_ l ((k : Nat) : Int)).v⟩] : List Pt) ++ (List.drop i out)) :: blk b3 [I64 ((at_ l ((k : Nat) : Int)).u), I64 ((at_ l ((k : Nat) : Int)).v)] 32 :: blk b2 [I64 (nd), .slice a out.length c] 54 :: blk b1 [I64 (0), .slice none 0 0] 54 :: I) (Fit.trans (show Fit κ _ (vc 32 (.slice a out.length c) (out) :: vc 32 (.slice ad10 (([⟨(at_ l ((k : Nat) : Int)).u, (at_ l ((k : Nat) : Int)).v⟩] : List Pt) ++ (List.drop i out)).length cp11) (([⟨(at_ l ((k : Nat) : Int)).u, (at_ l ((k : Nat) : Int)).v⟩] : List Pt) ++ (List.drop i out)) :: blk b3 [I64 ((at_ l ((k : Nat) : Int)).u), I64 ((at_ l ((k : Nat) : Int)).v)] 32 :: blk b2 [I64 (nd), .slice a out.length c] 54 :: blk b1 [I64 (0), .slice none 0 0] 54 :: I) from Fit.s) (Fit.takevc (α := Pt) rfl)) ?_
         refine D.step (rs := [11]) (by kernel_rfl) rfl rfl (all1 ?_)
         refine Step.eff rfl (Wanted.plain rfl) (Eff.app (α := Pt) (e := 32) (xs := List.take i out) (ys := ([⟨(at_ l ((k : Nat) : Int)).u, (at_ l ((k : Nat) : Int)).v⟩] : List Pt) ++ (List.drop i out)) Tryz.underlying33 ty32 rfl rfl rfl (by repeat (first | exact List.mem_cons_self | apply List.mem_cons_of_mem)) Sl.o (by simp only [List.length_cons, List.length_nil, List.length_append, List.length_take, List.length_drop]; omega) (by decide) rfl (fun _ _ => (by repeat (first | exact At.head _ _ _ | apply At.tail)))) ?_
         rintro _ _ ⟨ad12, cp13, rfl, rfl⟩
         refine ⟨Fit.sub, ?_⟩
         refine D.r 12 rfl (Runs.fieldAddr fld54_1 rfl) ?_ (hJ := Fit.sub)
         refine D.stop (by kernel_rfl) ?_
         refine A.eff (i := 13) (by kernel_rfl) rfl (Wanted.plain rfl) (Eff.st (cs := [_, _]) (vs := [_]) (cs' := [_, _]) ty33) ?_
         rintro _ _ ⟨rfl, rfl⟩
         refine A.done (by kernel_rfl) ?_
         refine V.block_normal ?_
         refine V.then ?_
         refine W.sub (L' := [(0, _), (4, _), (6, _), (19, _), (20, _), (21, _)]) (Sub.cons rfl (Sub.cons rfl (Sub.cons rfl (Sub.cons rfl (Sub.cons rfl (Sub.cons rfl Sub.nil)))))) ?_
         refine W.region ?_
         refine G.r (Runs.add rfl rfl (by unfold InR; omega)) ?_
         refine G.r (Runs.move rfl) ?_
         refine G.nil ?_
         exact V.next ((k + 1), (ad12), (cp13), ((List.take i out) ++ (([⟨(at_ l ((k : Nat) : Int)).u, (at_ l ((k : Nat) : Int)).v⟩] : List Pt) ++ (List.drop i out)))) (show ((k + 1 : Nat) ≤ l.length) ∧ (((List.take i out) ++ (([⟨(at_ l ((k : Nat) : Int)).u, (at_ l ((k : Nat) : Int)).v⟩] : List Pt) ++ (List.drop i out)) : List Pt).Pairwise Pt.lt) ∧ (∀ x ∈ ((List.take i out) ++ (([⟨(at_ l ((k : Nat) : Int)).u, (at_ l ((k : Nat) : Int)).v⟩] : List Pt) ++ (List.drop i out)) : List Pt), endsP nd x.u x.v) ∧ (((List.take i out) ++ (([⟨(at_ l ((k : Nat) : Int)).u, (at_ l ((k : Nat) : Int)).v⟩] : List Pt) ++ (List.drop i out)) : List Pt).length ≤ (k + 1 : Nat)) from ⟨(by omega), (put_asc hA hi hgt (by first | exact .inl (by omega) | (by_cases h0 : i = 0; (· exact .inl h0); (· exact .inr ⟨by omega, (hst.resolve_left h0).2, by simpa [Pt.ext_iff'] using c58⟩)))), (fun x hx => by rcases List.mem_append.1 hx with h | h; (· exact hE x (List.mem_of_mem_take h)); (· rcases List.mem_append.1 h with h | h; (· rw [List.mem_singleton] at h; rw [h]; exact Classical.not_not.1 c28); (· exact hE x (List.mem_of_mem_drop h)))), (by first | omega | (simp only [List.length_append, List.length_take, List.length_drop, List.length_cons, List.length_nil]; omega))⟩) (show l.length - (k + 1 : Nat) < l.length - k from (by omega)) (Sub.cons rfl (Sub.cons rfl (Sub.cons rfl (Sub.cons rfl (Sub.cons rfl (Sub.cons lookO Sub.nil)))))) (show Fit κ _ (vc 32 (.slice (ad12) ((List.take i out) ++ (([⟨(at_ l ((k : Nat) : Int)).u, (at_ l ((k : Nat) : Int)).v⟩] : List Pt) ++ (List.drop i out))).length (cp13)) (((List.take i out) ++ (([⟨(at_ l ((k : Nat) : Int)).u, (at_ l ((k : Nat) : Int)).v⟩] : List Pt) ++ (List.drop i out)))) :: blk b2 [I64 (nd), .slice (ad12) ((List.take i out) ++ (([⟨(at_ l ((k : Nat) : Int)).u, (at_ l ((k : Nat) : Int)).v⟩] : List Pt) ++ (List.drop i out))).length (cp13)] 54 :: blk b1 [I64 (0), .slice none 0 0] 54 :: I) from (by first | exact Fit.s | exact Fit.sub))
       ·refine Step.eff rfl (Wanted.plain rfl) (Eff.bs (α := Pt) (cs := [_, _]) (xs := [⟨(at_ l ((k : Nat) : Int)).u, (at_ l ((k : Nat) : Int)).v⟩]) Tryz.underlying33 ty32 rfl rfl (by decide) (by decide) rfl rfl rfl rfl) ?_
        rintro _ _ ⟨ad14, rfl, rfl⟩
        refine ⟨Fit.sub, ?_⟩
        refine D.step (rs := [3, 9]) (by kernel_rfl) rfl rfl (all2 ?_ (all1 ?_))
        ·refine Step.read rfl (Wanted.plain rfl) rfl rfl (Runs.hi (α := Pt) (xs := out) (h := i) Tryz.underlying33 ty32 rfl rfl (by omega) Sl.o (by omega)) Fit.sub ?_
         refine D.step (rs := [9]) (by kernel_rfl) rfl rfl (all1 ?_)
         refine Step.read rfl (Wanted.plain rfl) rfl rfl (Runs.lo (α := Pt) (xs := out) (l := i) Tryz.underlying33 ty32 rfl rfl (by omega) Sl.o (by omega)) Fit.sub ?_
         refine D.step (rs := [10]) (by kernel_rfl) rfl rfl (all1 ?_)
         refine Step.eff rfl (Wanted.plain rfl) (Eff.app (α := Pt) (e := 32) (xs := ([⟨(at_ l ((k : Nat) : Int)).u, (at_ l ((k : Nat) : Int)).v⟩] : List Pt)) (ys := List.drop i out) Tryz.underlying33 ty32 rfl rfl rfl (by repeat (first | exact List.mem_cons_self | apply List.mem_cons_of_mem)) (Sl.drop Sl.o (by omega)) (by simp only [List.length_cons, List.length_nil, List.length_append, List.length_take, List.length_drop]; omega) (by decide) rfl (fun _ _ => (by repeat (first | exact At.head _ _ _ | apply At.tail)))) ?_
         rintro _ _ ⟨ad15, cp16, rfl, rfl⟩
         refine ⟨Fit.sub, ?_⟩
         refine D.fit (J := vc 32 (.slice a (List.take i out).length c) (List.take i out) :: vc 32 (.slice ad15 (([⟨(at_ l ((k : Nat) : Int)).u, (at_ l ((k : Nat) : Int)).v⟩] : List Pt) ++ (List.drop i out)).length cp16) (([⟨(at_ l ((k : Nat) : Int)).u, (at_ l ((k : Nat) : Int)).v⟩] : List Pt) ++ (List.drop i out)) :: blk b3 [I64 ((at_ l ((k : Nat) : Int)).u), I64 ((at_ l ((k : Nat) : Int)).v)] 32 :: blk b2 [I64 (nd), .slice a out.length c] 54 :: blk b1 [I64 (0), .slice none 0 0] 54 :: I) (Fit.trans (show Fit κ _ (vc 32 (.slice a out.length c) (out) :: vc 32 (.slice ad15 (([⟨(at_ l ((k : Nat) : Int)).u, (at_ l ((k : Nat) : Int)).v⟩] : List Pt) ++ (List.drop i out)).length cp16) (([⟨(at_ l ((k : Nat) : Int)).u, (at_ l ((k : Nat) : Int)).v⟩] : List Pt) ++ (List.drop i out)) :: blk b3 [I64 ((at_ l ((k : Nat) : Int)).u), I64 ((at_ l ((k : Nat) : Int)).v)] 32 :: blk b2 [I64 (nd), .slice a out.length c] 54 :: blk b1 [I64 (0), .slice none 0 0] 54 :: I) from Fit.s) (Fit.takevc (α := Pt) rfl)) ?_
         refine D.step (rs := [11]) (by kernel_rfl) rfl rfl (all1 ?_)
         refine Step.eff rfl (Wanted.plain rfl) (Eff.app (α := Pt) (e := 32) (xs := List.take i out) (ys := ([⟨(at_ l ((k : Nat) : Int)).u, (at_ l ((k : Nat) : Int)).v⟩] : List Pt) ++ (List.drop i out)) Tryz.underlying33 ty32 rfl rfl rfl (by repeat (first | exact List.mem_cons_self | apply List.mem_cons_of_mem)) Sl.o (by simp only [List.length_cons, List.length_nil, List.length_append, List.length_take, List.length_drop]; omega) (by decide) rfl (fun _ _ => (by repeat (first | exact At.head _ _ _ | apply At.tail)))) ?_
         rintro _ _ ⟨ad17, cp18, rfl, rfl⟩
         refine ⟨Fit.sub, ?_⟩
         refine D.r 12 rfl (Runs.fieldAddr fld54_1 rfl) ?_ (hJ := Fit.sub)
         refine D.stop (by kernel_rfl) ?_
         refine A.eff (i := 13) (by kernel_rfl) rfl (Wanted.plain rfl) (Eff.st (cs := [_, _]) (vs := [_]) (cs' := [_, _]) ty33) ?_
         rintro _ _ ⟨rfl, rfl⟩
         refine A.done (by kernel_rfl) ?_
         refine V.block_normal ?_
         refine V.then ?_
         refine W.sub (L' := [(0, _), (4, _), (6, _), (19, _), (20, _), (21, _)]) (Sub.cons rfl (Sub.cons rfl (Sub.cons rfl (Sub.cons rfl (Sub.cons rfl (Sub.cons rfl Sub.nil)))))) ?_
         refine W.region ?_
         refine G.r (Runs.add rfl rfl (by unfold InR; omega)) ?_
         refine G.r (Runs.move rfl) ?_
         refine G.nil ?_
         exact V.next ((k + 1), (ad17), (cp18), ((List.take i out) ++ (([⟨(at_ l ((k : Nat) : Int)).u, (at_ l ((k : Nat) : Int)).v⟩] : List Pt) ++ (List.drop i out)))) (show ((k + 1 : Nat) ≤ l.length) ∧ (((List.take i out) ++ (([⟨(at_ l ((k : Nat) : Int)).u, (at_ l ((k : Nat) : Int)).v⟩] : List Pt) ++ (List.drop i out)) : List Pt).Pairwise Pt.lt) ∧ (∀ x ∈ ((List.take i out) ++ (([⟨(at_ l ((k : Nat) : Int)).u, (at_ l ((k : Nat) : Int)).v⟩] : List Pt) ++ (List.drop i out)) : List Pt), endsP nd x.u x.v) ∧ (((List.take i out) ++ (([⟨(at_ l ((k : Nat) : Int)).u, (at_ l ((k : Nat) : Int)).v⟩] : List Pt) ++ (List.drop i out)) : List Pt).length ≤ (k + 1 : Nat)) from ⟨(by omega), (put_asc hA hi hgt (by first | exact .inl (by omega) | (by_cases h0 : i = 0; (· exact .inl h0); (· exact .inr ⟨by omega, (hst.resolve_left h0).2, by simpa [Pt.ext_iff'] using c58⟩)))), (fun x hx => by rcases List.mem_append.1 hx with h | h; (· exact hE x (List.mem_of_mem_take h)); (· rcases List.mem_append.1 h with h | h; (· rw [List.mem_singleton] at h; rw [h]; exact Classical.not_not.1 c28); (· exact hE x (List.mem_of_mem_drop h)))), (by first | omega | (simp only [List.length_append, List.length_take, List.length_drop, List.length_cons, List.length_nil]; omega))⟩) (show l.length - (k + 1 : Nat) < l.length - k from (by omega)) (Sub.cons rfl (Sub.cons rfl (Sub.cons rfl (Sub.cons rfl (Sub.cons rfl (Sub.cons lookO Sub.nil)))))) (show Fit κ _ (vc 32 (.slice (ad17) ((List.take i out) ++ (([⟨(at_ l ((k : Nat) : Int)).u, (at_ l ((k : Nat) : Int)).v⟩] : List Pt) ++ (List.drop i out))).length (cp18)) (((List.take i out) ++ (([⟨(at_ l ((k : Nat) : Int)).u, (at_ l ((k : Nat) : Int)).v⟩] : List Pt) ++ (List.drop i out)))) :: blk b2 [I64 (nd), .slice (ad17) ((List.take i out) ++ (([⟨(at_ l ((k : Nat) : Int)).u, (at_ l ((k : Nat) : Int)).v⟩] : List Pt) ++ (List.drop i out))).length (cp18)] 54 :: blk b1 [I64 (0), .slice none 0 0] 54 :: I) from (by first | exact Fit.s | exact Fit.sub))
        ·refine Step.read rfl (Wanted.plain rfl) rfl rfl (Runs.lo (α := Pt) (xs := out) (l := i) Tryz.underlying33 ty32 rfl rfl (by omega) Sl.o (by omega)) Fit.sub ?_
         refine D.step (rs := [3, 10]) (by kernel_rfl) rfl rfl (all2 ?_ (all1 ?_))
         ·refine Step.read rfl (Wanted.plain rfl) rfl rfl (Runs.hi (α := Pt) (xs := out) (h := i) Tryz.underlying33 ty32 rfl rfl (by omega) Sl.o (by omega)) Fit.sub ?_
          refine D.step (rs := [10]) (by kernel_rfl) rfl rfl (all1 ?_)
          refine Step.eff rfl (Wanted.plain rfl) (Eff.app (α := Pt) (e := 32) (xs := ([⟨(at_ l ((k : Nat) : Int)).u, (at_ l ((k : Nat) : Int)).v⟩] : List Pt)) (ys := List.drop i out) Tryz.underlying33 ty32 rfl rfl rfl (by repeat (first | exact List.mem_cons_self | apply List.mem_cons_of_mem)) (Sl.drop Sl.o (by omega)) (by simp only [List.length_cons, List.length_nil, List.length_append, List.length_take, List.length_drop]; omega) (by decide) rfl (fun _ _ => (by repeat (first | exact At.head _ _ _ | apply At.tail)))) ?_
          rintro _ _ ⟨ad19, cp20, rfl, rfl⟩
          refine ⟨Fit.sub, ?_⟩
          refine D.fit (J := vc 32 (.slice a (List.take i out).length c) (List.take i out) :: vc 32 (.slice ad19 (([⟨(at_ l ((k : Nat) : Int)).u, (at_ l ((k : Nat) : Int)).v⟩] : List Pt) ++ (List.drop i out)).length cp20) (([⟨(at_ l ((k : Nat) : Int)).u, (at_ l ((k : Nat) : Int)).v⟩] : List Pt) ++ (List.drop i out)) :: blk b3 [I64 ((at_ l ((k : Nat) : Int)).u), I64 ((at_ l ((k : Nat) : Int)).v)] 32 :: blk b2 [I64 (nd), .slice a out.length c] 54 :: blk b1 [I64 (0), .slice none 0 0] 54 :: I) (Fit.trans (show Fit κ _ (vc 32 (.slice a out.length c) (out) :: vc 32 (.slice ad19 (([⟨(at_ l ((k : Nat) : Int)).u, (at_ l ((k : Nat) : Int)).v⟩] : List Pt) ++ (List.drop i out)).length cp20) (([⟨(at_ l ((k : Nat) : Int)).u, (at_ l ((k : Nat) : Int)).v⟩] : List Pt) ++ (List.drop i out)) :: blk b3 [I64 ((at_ l ((k : Nat) : Int)).u), I64 ((at_ l ((k : Nat) : Int)).v)] 32 :: blk b2 [I64 (nd), .slice a out.length c] 54 :: blk b1 [I64 (0), .slice none 0 0] 54 :: I) from Fit.s) (Fit.takevc (α := Pt) rfl)) ?_
          refine D.step (rs := [11]) (by kernel_rfl) rfl rfl (all1 ?_)
          refine Step.eff rfl (Wanted.plain rfl) (Eff.app (α := Pt) (e := 32) (xs := List.take i out) (ys := ([⟨(at_ l ((k : Nat) : Int)).u, (at_ l ((k : Nat) : Int)).v⟩] : List Pt) ++ (List.drop i out)) Tryz.underlying33 ty32 rfl rfl rfl (by repeat (first | exact List.mem_cons_self | apply List.mem_cons_of_mem)) Sl.o (by simp only [List.length_cons, List.length_nil, List.length_append, List.length_take, List.length_drop]; omega) (by decide) rfl (fun _ _ => (by repeat (first | exact At.head _ _ _ | apply At.tail)))) ?_
          rintro _ _ ⟨ad21, cp22, rfl, rfl⟩
          refine ⟨Fit.sub, ?_⟩
          refine D.r 12 rfl (Runs.fieldAddr fld54_1 rfl) ?_ (hJ := Fit.sub)
          refine D.stop (by kernel_rfl) ?_
          refine A.eff (i := 13) (by kernel_rfl) rfl (Wanted.plain rfl) (Eff.st (cs := [_, _]) (vs := [_]) (cs' := [_, _]) ty33) ?_
          rintro _ _ ⟨rfl, rfl⟩
          refine A.done (by kernel_rfl) ?_
          refine V.block_normal ?_
          refine V.then ?_
          refine W.sub (L' := [(0, _), (4, _), (6, _), (19, _), (20, _), (21, _)]) (Sub.cons rfl (Sub.cons rfl (Sub.cons rfl (Sub.cons rfl (Sub.cons rfl (Sub.cons rfl Sub.nil)))))) ?_
          refine W.region ?_
          refine G.r (Runs.add rfl rfl (by unfold InR; omega)) ?_
          refine G.r (Runs.move rfl) ?_
          refine G.nil ?_
          exact V.next ((k + 1), (ad21), (cp22), ((List.take i out) ++ (([⟨(at_ l ((k : Nat) : Int)).u, (at_ l ((k : Nat) : Int)).v⟩] : List Pt) ++ (List.drop i out)))) (show ((k + 1 : Nat) ≤ l.length) ∧ (((List.take i out) ++ (([⟨(at_ l ((k : Nat) : Int)).u, (at_ l ((k : Nat) : Int)).v⟩] : List Pt) ++ (List.drop i out)) : List Pt).Pairwise Pt.lt) ∧ (∀ x ∈ ((List.take i out) ++ (([⟨(at_ l ((k : Nat) : Int)).u, (at_ l ((k : Nat) : Int)).v⟩] : List Pt) ++ (List.drop i out)) : List Pt), endsP nd x.u x.v) ∧ (((List.take i out) ++ (([⟨(at_ l ((k : Nat) : Int)).u, (at_ l ((k : Nat) : Int)).v⟩] : List Pt) ++ (List.drop i out)) : List Pt).length ≤ (k + 1 : Nat)) from ⟨(by omega), (put_asc hA hi hgt (by first | exact .inl (by omega) | (by_cases h0 : i = 0; (· exact .inl h0); (· exact .inr ⟨by omega, (hst.resolve_left h0).2, by simpa [Pt.ext_iff'] using c58⟩)))), (fun x hx => by rcases List.mem_append.1 hx with h | h; (· exact hE x (List.mem_of_mem_take h)); (· rcases List.mem_append.1 h with h | h; (· rw [List.mem_singleton] at h; rw [h]; exact Classical.not_not.1 c28); (· exact hE x (List.mem_of_mem_drop h)))), (by first | omega | (simp only [List.length_append, List.length_take, List.length_drop, List.length_cons, List.length_nil]; omega))⟩) (show l.length - (k + 1 : Nat) < l.length - k from (by omega)) (Sub.cons rfl (Sub.cons rfl (Sub.cons rfl (Sub.cons rfl (Sub.cons rfl (Sub.cons lookO Sub.nil)))))) (show Fit κ _ (vc 32 (.slice (ad21) ((List.take i out) ++ (([⟨(at_ l ((k : Nat) : Int)).u, (at_ l ((k : Nat) : Int)).v⟩] : List Pt) ++ (List.drop i out))).length (cp22)) (((List.take i out) ++ (([⟨(at_ l ((k : Nat) : Int)).u, (at_ l ((k : Nat) : Int)).v⟩] : List Pt) ++ (List.drop i out)))) :: blk b2 [I64 (nd), .slice (ad21) ((List.take i out) ++ (([⟨(at_ l ((k : Nat) : Int)).u, (at_ l ((k : Nat) : Int)).v⟩] : List Pt) ++ (List.drop i out))).length (cp22)] 54 :: blk b1 [I64 (0), .slice none 0 0] 54 :: I) from (by first | exact Fit.s | exact Fit.sub))
         ·refine Step.eff rfl (Wanted.plain rfl) (Eff.app (α := Pt) (e := 32) (xs := ([⟨(at_ l ((k : Nat) : Int)).u, (at_ l ((k : Nat) : Int)).v⟩] : List Pt)) (ys := List.drop i out) Tryz.underlying33 ty32 rfl rfl rfl (by repeat (first | exact List.mem_cons_self | apply List.mem_cons_of_mem)) (Sl.drop Sl.o (by omega)) (by simp only [List.length_cons, List.length_nil, List.length_append, List.length_take, List.length_drop]; omega) (by decide) rfl (fun _ _ => (by repeat (first | exact At.head _ _ _ | apply At.tail)))) ?_
          rintro _ _ ⟨ad23, cp24, rfl, rfl⟩
          refine ⟨Fit.sub, ?_⟩
          refine D.step (rs := [3]) (by kernel_rfl) rfl rfl (all1 ?_)
          refine Step.read rfl (Wanted.plain rfl) rfl rfl (Runs.hi (α := Pt) (xs := out) (h := i) Tryz.underlying33 ty32 rfl rfl (by omega) Sl.o (by omega)) Fit.sub ?_
          refine D.fit (J := vc 32 (.slice a (List.take i out).length c) (List.take i out) :: vc 32 (.slice ad23 (([⟨(at_ l ((k : Nat) : Int)).u, (at_ l ((k : Nat) : Int)).v⟩] : List Pt) ++ (List.drop i out)).length cp24) (([⟨(at_ l ((k : Nat) : Int)).u, (at_ l ((k : Nat) : Int)).v⟩] : List Pt) ++ (List.drop i out)) :: blk b3 [I64 ((at_ l ((k : Nat) : Int)).u), I64 ((at_ l ((k : Nat) : Int)).v)] 32 :: blk b2 [I64 (nd), .slice a out.length c] 54 :: blk b1 [I64 (0), .slice none 0 0] 54 :: I) (Fit.trans (show Fit κ _ (vc 32 (.slice a out.length c) (out) :: vc 32 (.slice ad23 (([⟨(at_ l ((k : Nat) : Int)).u, (at_ l ((k : Nat) : Int)).v⟩] : List Pt) ++ (List.drop i out)).length cp24) (([⟨(at_ l ((k : Nat) : Int)).u, (at_ l ((k : Nat) : Int)).v⟩] : List Pt) ++ (List.drop i out)) :: blk b3 [I64 ((at_ l ((k : Nat) : Int)).u), I64 ((at_ l ((k : Nat) : Int)).v)] 32 :: blk b2 [I64 (nd), .slice a out.length c] 54 :: blk b1 [I64 (0), .slice none 0 0] 54 :: I) from Fit.s) (Fit.takevc (α := Pt) rfl)) ?_
          refine D.step (rs := [11]) (by kernel_rfl) rfl rfl (all1 ?_)
          refine Step.eff rfl (Wanted.plain rfl) (Eff.app (α := Pt) (e := 32) (xs := List.take i out) (ys := ([⟨(at_ l ((k : Nat) : Int)).u, (at_ l ((k : Nat) : Int)).v⟩] : List Pt) ++ (List.drop i out)) Tryz.underlying33 ty32 rfl rfl rfl (by repeat (first | exact List.mem_cons_self | apply List.mem_cons_of_mem)) Sl.o (by simp only [List.length_cons, List.length_nil, List.length_append, List.length_take, List.length_drop]; omega) (by decide) rfl (fun _ _ => (by repeat (first | exact At.head _ _ _ | apply At.tail)))) ?_
          rintro _ _ ⟨ad25, cp26, rfl, rfl⟩
          refine ⟨Fit.sub, ?_⟩
          refine D.r 12 rfl (Runs.fieldAddr fld54_1 rfl) ?_ (hJ := Fit.sub)
          refine D.stop (by kernel_rfl) ?_
          refine A.eff (i := 13) (by kernel_rfl) rfl (Wanted.plain rfl) (Eff.st (cs := [_, _]) (vs := [_]) (cs' := [_, _]) ty33) ?_
          rintro _ _ ⟨rfl, rfl⟩
          refine A.done (by kernel_rfl) ?_
          refine V.block_normal ?_
          refine V.then ?_
          refine W.sub (L' := [(0, _), (4, _), (6, _), (19, _), (20, _), (21, _)]) (Sub.cons rfl (Sub.cons rfl (Sub.cons rfl (Sub.cons rfl (Sub.cons rfl (Sub.cons rfl Sub.nil)))))) ?_
          refine W.region ?_
          refine G.r (Runs.add rfl rfl (by unfold InR; omega)) ?_
          refine G.r (Runs.move rfl) ?_
          refine G.nil ?_
          exact V.next ((k + 1), (ad25), (cp26), ((List.take i out) ++ (([⟨(at_ l ((k : Nat) : Int)).u, (at_ l ((k : Nat) : Int)).v⟩] : List Pt) ++ (List.drop i out)))) (show ((k + 1 : Nat) ≤ l.length) ∧ (((List.take i out) ++ (([⟨(at_ l ((k : Nat) : Int)).u, (at_ l ((k : Nat) : Int)).v⟩] : List Pt) ++ (List.drop i out)) : List Pt).Pairwise Pt.lt) ∧ (∀ x ∈ ((List.take i out) ++ (([⟨(at_ l ((k : Nat) : Int)).u, (at_ l ((k : Nat) : Int)).v⟩] : List Pt) ++ (List.drop i out)) : List Pt), endsP nd x.u x.v) ∧ (((List.take i out) ++ (([⟨(at_ l ((k : Nat) : Int)).u, (at_ l ((k : Nat) : Int)).v⟩] : List Pt) ++ (List.drop i out)) : List Pt).length ≤ (k + 1 : Nat)) from ⟨(by omega), (put_asc hA hi hgt (by first | exact .inl (by omega) | (by_cases h0 : i = 0; (· exact .inl h0); (· exact .inr ⟨by omega, (hst.resolve_left h0).2, by simpa [Pt.ext_iff'] using c58⟩)))), (fun x hx => by rcases List.mem_append.1 hx with h | h; (· exact hE x (List.mem_of_mem_take h)); (· rcases List.mem_append.1 h with h | h; (· rw [List.mem_singleton] at h; rw [h]; exact Classical.not_not.1 c28); (· exact hE x (List.mem_of_mem_drop h)))), (by first | omega | (simp only [List.length_append, List.length_take, List.length_drop, List.length_cons, List.length_nil]; omega))⟩) (show l.length - (k + 1 : Nat) < l.length - k from (by omega)) (Sub.cons rfl (Sub.cons rfl (Sub.cons rfl (Sub.cons rfl (Sub.cons rfl (Sub.cons lookO Sub.nil)))))) (show Fit κ _ (vc 32 (.slice (ad25) ((List.take i out) ++ (([⟨(at_ l ((k : Nat) : Int)).u, (at_ l ((k : Nat) : Int)).v⟩] : List Pt) ++ (List.drop i out))).length (cp26)) (((List.take i out) ++ (([⟨(at_ l ((k : Nat) : Int)).u, (at_ l ((k : Nat) : Int)).v⟩] : List Pt) ++ (List.drop i out)))) :: blk b2 [I64 (nd), .slice (ad25) ((List.take i out) ++ (([⟨(at_ l ((k : Nat) : Int)).u, (at_ l ((k : Nat) : Int)).v⟩] : List Pt) ++ (List.drop i out))).length (cp26)] 54 :: blk b1 [I64 (0), .slice none 0 0] 54 :: I) from (by first | exact Fit.s | exact Fit.sub))
       ·refine Step.read rfl (Wanted.plain rfl) rfl rfl (Runs.lo (α := Pt) (xs := out) (l := i) Tryz.underlying33 ty32 rfl rfl (by omega) Sl.o (by omega)) Fit.sub ?_
        refine D.step (rs := [3, 5]) (by kernel_rfl) rfl rfl (all2 ?_ (all1 ?_))
        ·refine Step.read rfl (Wanted.plain rfl) rfl rfl (Runs.hi (α := Pt) (xs := out) (h := i) Tryz.underlying33 ty32 rfl rfl (by omega) Sl.o (by omega)) Fit.sub ?_
         refine D.step (rs := [5]) (by kernel_rfl) rfl rfl (all1 ?_)
         refine Step.eff rfl (Wanted.plain rfl) (Eff.bs (α := Pt) (cs := [_, _]) (xs := [⟨(at_ l ((k : Nat) : Int)).u, (at_ l ((k : Nat) : Int)).v⟩]) Tryz.underlying33 ty32 rfl rfl (by decide) (by decide) rfl rfl rfl rfl) ?_
         rintro _ _ ⟨ad27, rfl, rfl⟩
         refine ⟨Fit.sub, ?_⟩
         refine D.step (rs := [10]) (by kernel_rfl) rfl rfl (all1 ?_)
         refine Step.eff rfl (Wanted.plain rfl) (Eff.app (α := Pt) (e := 32) (xs := ([⟨(at_ l ((k : Nat) : Int)).u, (at_ l ((k : Nat) : Int)).v⟩] : List Pt)) (ys := List.drop i out) Tryz.underlying33 ty32 rfl rfl rfl (by repeat (first | exact List.mem_cons_self | apply List.mem_cons_of_mem)) (Sl.drop Sl.o (by omega)) (by simp only [List.length_cons, List.length_nil, List.length_append, List.length_take, List.length_drop]; omega) (by decide) rfl (fun _ _ => (by repeat (first | exact At.head _ _ _ | apply At.tail)))) ?_
         rintro _ _ ⟨ad28, cp29, rfl, rfl⟩
         refine ⟨Fit.sub, ?_⟩
         refine D.fit (J := vc 32 (.slice a (List.take i out).length c) (List.take i out) :: vc 32 (.slice ad28 (([⟨(at_ l ((k : Nat) : Int)).u, (at_ l ((k : Nat) : Int)).v⟩] : List Pt) ++ (List.drop i out)).length cp29) (([⟨(at_ l ((k : Nat) : Int)).u, (at_ l ((k : Nat) : Int)).v⟩] : List Pt) ++ (List.drop i out)) :: blk b3 [I64 ((at_ l ((k : Nat) : Int)).u), I64 ((at_ l ((k : Nat) : Int)).v)] 32 :: blk b2 [I64 (nd), .slice a out.length c] 54 :: blk b1 [I64 (0), .slice none 0 0] 54 :: I) (Fit.trans (show Fit κ _ (vc 32 (.slice a out.length c) (out) :: vc 32 (.slice ad28 (([⟨(at_ l ((k : Nat) : Int)).u, (at_ l ((k : Nat) : Int)).v⟩] : List Pt) ++ (List.drop i out)).length cp29) (([⟨(at_ l ((k : Nat) : Int)).u, (at_ l ((k : Nat) : Int)).v⟩] : List Pt) ++ (List.drop i out)) :: blk b3 [I64 ((at_ l ((k : Nat) : Int)).u), I64 ((at_ l ((k : Nat) : Int)).v)] 32 :: blk b2 [I64 (nd), .slice a out.length c] 54 :: blk b1 [I64 (0), .slice none 0 0] 54 :: I) from Fit.s) (Fit.takevc (α := Pt) rfl)) ?_
         refine D.step (rs := [11]) (by kernel_rfl) rfl rfl (all1 ?_)
         refine Step.eff rfl (Wanted.plain rfl) (Eff.app (α := Pt) (e := 32) (xs := List.take i out) (ys := ([⟨(at_ l ((k : Nat) : Int)).u, (at_ l ((k : Nat) : Int)).v⟩] : List Pt) ++ (List.drop i out)) Tryz.underlying33 ty32 rfl rfl rfl (by repeat (first | exact List.mem_cons_self | apply List.mem_cons_of_mem)) Sl.o (by simp only [List.length_cons, List.length_nil, List.length_append, List.length_take, List.length_drop]; omega) (by decide) rfl (fun _ _ => (by repeat (first | exact At.head _ _ _ | apply At.tail)))) ?_
         rintro _ _ ⟨ad30, cp31, rfl, rfl⟩
         refine ⟨Fit.sub, ?_⟩
         refine D.r 12 rfl (Runs.fieldAddr fld54_1 rfl) ?_ (hJ := Fit.sub)
         refine D.stop (by kernel_rfl) ?_
         refine A.eff (i := 13) (by kernel_rfl) rfl (Wanted.plain rfl) (Eff.st (cs := [_, _]) (vs := [_]) (cs' := [_, _]) ty33) ?_
         rintro _ _ ⟨rfl, rfl⟩
         refine A.done (by kernel_rfl) ?_
         refine V.block_normal ?_
         refine V.then ?_
         refine W.sub (L' := [(0, _), (4, _), (6, _), (19, _), (20, _), (21, _)]) (Sub.cons rfl (Sub.cons rfl (Sub.cons rfl (Sub.cons rfl (Sub.cons rfl (Sub.cons rfl Sub.nil)))))) ?_
         refine W.region ?_
         refine G.r (Runs.add rfl rfl (by unfold InR; omega)) ?_
         refine G.r (Runs.move rfl) ?_
         refine G.nil ?_
         exact V.next ((k + 1), (ad30), (cp31), ((List.take i out) ++ (([⟨(at_ l ((k : Nat) : Int)).u, (at_ l ((k : Nat) : Int)).v⟩] : List Pt) ++ (List.drop i out)))) (show ((k + 1 : Nat) ≤ l.length) ∧ (((List.take i out) ++ (([⟨(at_ l ((k : Nat) : Int)).u, (at_ l ((k : Nat) : Int)).v⟩] : List Pt) ++ (List.drop i out)) : List Pt).Pairwise Pt.lt) ∧ (∀ x ∈ ((List.take i out) ++ (([⟨(at_ l ((k : Nat) : Int)).u, (at_ l ((k : Nat) : Int)).v⟩] : List Pt) ++ (List.drop i out)) : List Pt), endsP nd x.u x.v) ∧ (((List.take i out) ++ (([⟨(at_ l ((k : Nat) : Int)).u, (at_ l ((k : Nat) : Int)).v⟩] : List Pt) ++ (List.drop i out)) : List Pt).length ≤ (k + 1 : Nat)) from ⟨(by omega), (put_asc hA hi hgt (by first | exact .inl (by omega) | (by_cases h0 : i = 0; (· exact .inl h0); (· exact .inr ⟨by omega, (hst.resolve_left h0).2, by simpa [Pt.ext_iff'] using c58⟩)))), (fun x hx => by rcases List.mem_append.1 hx with h | h; (· exact hE x (List.mem_of_mem_take h)); (· rcases List.mem_append.1 h with h | h; (· rw [List.mem_singleton] at h; rw [h]; exact Classical.not_not.1 c28); (· exact hE x (List.mem_of_mem_drop h)))), (by first | omega | (simp only [List.length_append, List.length_take, List.length_drop, List.length_cons, List.length_nil]; omega))⟩) (show l.length - (k + 1 : Nat) < l.length - k from (by omega)) (Sub.cons rfl (Sub.cons rfl (Sub.cons rfl (Sub.cons rfl (Sub.cons rfl (Sub.cons lookO Sub.nil)))))) (show Fit κ _ (vc 32 (.slice (ad30) ((List.take i out) ++ (([⟨(at_ l ((k : Nat) : Int)).u, (at_ l ((k : Nat) : Int)).v⟩] : List Pt) ++ (List.drop i out))).length (cp31)) (((List.take i out) ++ (([⟨(at_ l ((k : Nat) : Int)).u, (at_ l ((k : Nat) : Int)).v⟩] : List Pt) ++ (List.drop i out)))) :: blk b2 [I64 (nd), .slice (ad30) ((List.take i out) ++ (([⟨(at_ l ((k : Nat) : Int)).u, (at_ l ((k : Nat) : Int)).v⟩] : List Pt) ++ (List.drop i out))).length (cp31)] 54 :: blk b1 [I64 (0), .slice none 0 0] 54 :: I) from (by first | exact Fit.s | exact Fit.sub))
        ·refine Step.eff rfl (Wanted.plain rfl) (Eff.bs (α := Pt) (cs := [_, _]) (xs := [⟨(at_ l ((k : Nat) : Int)).u, (at_ l ((k : Nat) : Int)).v⟩]) Tryz.underlying33 ty32 rfl rfl (by decide) (by decide) rfl rfl rfl rfl) ?_
         rintro _ _ ⟨ad32, rfl, rfl⟩
         refine ⟨Fit.sub, ?_⟩
         refine D.step (rs := [3, 10]) (by kernel_rfl) rfl rfl (all2 ?_ (all1 ?_))
         ·refine Step.read rfl (Wanted.plain rfl) rfl rfl (Runs.hi (α := Pt) (xs := out) (h := i) Tryz.underlying33 ty32 rfl rfl (by omega) Sl.o (by omega)) Fit.sub ?_
          refine D.step (rs := [10]) (by kernel_rfl) rfl rfl (all1 ?_)
          refine Step.eff rfl (Wanted.plain rfl) (Eff.app (α := Pt) (e := 32) (xs := ([⟨(at_ l ((k : Nat) : Int)).u, (at_ l ((k : Nat) : Int)).v⟩] : List Pt)) (ys := List.drop i out) Tryz.underlying33 ty32 rfl rfl rfl (by repeat (first | exact List.mem_cons_self | apply List.mem_cons_of_mem)) (Sl.drop Sl.o (by omega)) (by simp only [List.length_cons, List.length_nil, List.length_append, List.length_take, List.length_drop]; omega) (by decide) rfl (fun _ _ => (by repeat (first | exact At.head _ _ _ | apply At.tail)))) ?_
          rintro _ _ ⟨ad33, cp34, rfl, rfl⟩
          refine ⟨Fit.sub, ?_⟩
          refine D.fit (J := vc 32 (.slice a (List.take i out).length c) (List.take i out) :: vc 32 (.slice ad33 (([⟨(at_ l ((k : Nat) : Int)).u, (at_ l ((k : Nat) : Int)).v⟩] : List Pt) ++ (List.drop i out)).length cp34) (([⟨(at_ l ((k : Nat) : Int)).u, (at_ l ((k : Nat) : Int)).v⟩] : List Pt) ++ (List.drop i out)) :: blk b3 [I64 ((at_ l ((k : Nat) : Int)).u), I64 ((at_ l ((k : Nat) : Int)).v)] 32 :: blk b2 [I64 (nd), .slice a out.length c] 54 :: blk b1 [I64 (0), .slice none 0 0] 54 :: I) (Fit.trans (show Fit κ _ (vc 32 (.slice a out.length c) (out) :: vc 32 (.slice ad33 (([⟨(at_ l ((k : Nat) : Int)).u, (at_ l ((k : Nat) : Int)).v⟩] : List Pt) ++ (List.drop i out)).length cp34) (([⟨(at_ l ((k : Nat) : Int)).u, (at_ l ((k : Nat) : Int)).v⟩] : List Pt) ++ (List.drop i out)) :: blk b3 [I64 ((at_ l ((k : Nat) : Int)).u), I64 ((at_ l ((k : Nat) : Int)).v)] 32 :: blk b2 [I64 (nd), .slice a out.length c] 54 :: blk b1 [I64 (0), .slice none 0 0] 54 :: I) from Fit.s) (Fit.takevc (α := Pt) rfl)) ?_
          refine D.step (rs := [11]) (by kernel_rfl) rfl rfl (all1 ?_)
          refine Step.eff rfl (Wanted.plain rfl) (Eff.app (α := Pt) (e := 32) (xs := List.take i out) (ys := ([⟨(at_ l ((k : Nat) : Int)).u, (at_ l ((k : Nat) : Int)).v⟩] : List Pt) ++ (List.drop i out)) Tryz.underlying33 ty32 rfl rfl rfl (by repeat (first | exact List.mem_cons_self | apply List.mem_cons_of_mem)) Sl.o (by simp only [List.length_cons, List.length_nil, List.length_append, List.length_take, List.length_drop]; omega) (by decide) rfl (fun _ _ => (by repeat (first | exact At.head _ _ _ | apply At.tail)))) ?_
          rintro _ _ ⟨ad35, cp36, rfl, rfl⟩
          refine ⟨Fit.sub, ?_⟩
          refine D.r 12 rfl (Runs.fieldAddr fld54_1 rfl) ?_ (hJ := Fit.sub)
          refine D.stop (by kernel_rfl) ?_
          refine A.eff (i := 13) (by kernel_rfl) rfl (Wanted.plain rfl) (Eff.st (cs := [_, _]) (vs := [_]) (cs' := [_, _]) ty33) ?_
          rintro _ _ ⟨rfl, rfl⟩
          refine A.done (by kernel_rfl) ?_
          refine V.block_normal ?_
          refine V.then ?_
          refine W.sub (L' := [(0, _), (4, _), (6, _), (19, _), (20, _), (21, _)]) (Sub.cons rfl (Sub.cons rfl (Sub.cons rfl (Sub.cons rfl (Sub.cons rfl (Sub.cons rfl Sub.nil)))))) ?_
          refine W.region ?_
          refine G.r (Runs.add rfl rfl (by unfold InR; omega)) ?_
          refine G.r (Runs.move rfl) ?_
          refine G.nil ?_
          exact V.next ((k + 1), (ad35), (cp36), ((List.take i out) ++ (([⟨(at_ l ((k : Nat) : Int)).u, (at_ l ((k : Nat) : Int)).v⟩] : List Pt) ++ (List.drop i out)))) (show ((k + 1 : Nat) ≤ l.length) ∧ (((List.take i out) ++ (([⟨(at_ l ((k : Nat) : Int)).u, (at_ l ((k : Nat) : Int)).v⟩] : List Pt) ++ (List.drop i out)) : List Pt).Pairwise Pt.lt) ∧ (∀ x ∈ ((List.take i out) ++ (([⟨(at_ l ((k : Nat) : Int)).u, (at_ l ((k : Nat) : Int)).v⟩] : List Pt) ++ (List.drop i out)) : List Pt), endsP nd x.u x.v) ∧ (((List.take i out) ++ (([⟨(at_ l ((k : Nat) : Int)).u, (at_ l ((k : Nat) : Int)).v⟩] : List Pt) ++ (List.drop i out)) : List Pt).length ≤ (k + 1 : Nat)) from ⟨(by omega), (put_asc hA hi hgt (by first | exact .inl (by omega) | (by_cases h0 : i = 0; (· exact .inl h0); (· exact .inr ⟨by omega, (hst.resolve_left h0).2, by simpa [Pt.ext_iff'] using c58⟩)))), (fun x hx => by rcases List.mem_append.1 hx with h | h; (· exact hE x (List.mem_of_mem_take h)); (· rcases List.mem_append.1 h with h | h; (· rw [List.mem_singleton] at h; rw [h]; exact Classical.not_not.1 c28); (· exact hE x (List.mem_of_mem_drop h)))), (by first | omega | (simp only [List.length_append, List.length_take, List.length_drop, List.length_cons, List.length_nil]; omega))⟩) (show l.length - (k + 1 : Nat) < l.length - k from (by omega)) (Sub.cons rfl (Sub.cons rfl (Sub.cons rfl (Sub.cons rfl (Sub.cons rfl (Sub.cons lookO Sub.nil)))))) (show Fit κ _ (vc 32 (.slice (ad35) ((List.take i out) ++ (([⟨(at_ l ((k : Nat) : Int)).u, (at_ l ((k : Nat) : Int)).v⟩] : List Pt) ++ (List.drop i out))).length (cp36)) (((List.take i out) ++ (([⟨(at_ l ((k : Nat) : Int)).u, (at_ l ((k : Nat) : Int)).v⟩] : List Pt) ++ (List.drop i out)))) :: blk b2 [I64 (nd), .slice (ad35) ((List.take i out) ++ (([⟨(at_ l ((k : Nat) : Int)).u, (at_ l ((k : Nat) : Int)).v⟩] : List Pt) ++ (List.drop i out))).length (cp36)] 54 :: blk b1 [I64 (0), .slice none 0 0] 54 :: I) from (by first | exact Fit.s | exact Fit.sub))
         ·refine Step.eff rfl (Wanted.plain rfl) (Eff.app (α := Pt) (e := 32) (xs := ([⟨(at_ l ((k : Nat) : Int)).u, (at_ l ((k : Nat) : Int)).v⟩] : List Pt)) (ys := List.drop i out) Tryz.underlying33 ty32 rfl rfl rfl (by repeat (first | exact List.mem_cons_self | apply List.mem_cons_of_mem)) (Sl.drop Sl.o (by omega)) (by simp only [List.length_cons, List.length_nil, List.length_append, List.length_take, List.length_drop]; omega) (by decide) rfl (fun _ _ => (by repeat (first | exact At.head _ _ _ | apply At.tail)))) ?_
          rintro _ _ ⟨ad37, cp38, rfl, rfl⟩
          refine ⟨Fit.sub, ?_⟩
          refine D.step (rs := [3]) (by kernel_rfl) rfl rfl (all1 ?_)
          refine Step.read rfl (Wanted.plain rfl) rfl rfl (Runs.hi (α := Pt) (xs := out) (h := i) Tryz.underlying33 ty32 rfl rfl (by omega) Sl.o (by omega)) Fit.sub ?_
          refine D.fit (J := vc 32 (.slice a (List.take i out).length c) (List.take i out) :: vc 32 (.slice ad37 (([⟨(at_ l ((k : Nat) : Int)).u, (at_ l ((k : Nat) : Int)).v⟩] : List Pt) ++ (List.drop i out)).length cp38) (([⟨(at_ l ((k : Nat) : Int)).u, (at_ l ((k : Nat) : Int)).v⟩] : List Pt) ++ (List.drop i out)) :: blk b3 [I64 ((at_ l ((k : Nat) : Int)).u), I64 ((at_ l ((k : Nat) : Int)).v)] 32 :: blk b2 [I64 (nd), .slice a out.length c] 54 :: blk b1 [I64 (0), .slice none 0 0] 54 :: I) (Fit.trans (show Fit κ _ (vc 32 (.slice a out.length c) (out) :: vc 32 (.slice ad37 (([⟨(at_ l ((k : Nat) : Int)).u, (at_ l ((k : Nat) : Int)).v⟩] : List Pt) ++ (List.drop i out)).length cp38) (([⟨(at_ l ((k : Nat) : Int)).u, (at_ l ((k : Nat) : Int)).v⟩] : List Pt) ++ (List.drop i out)) :: blk b3 [I64 ((at_ l ((k : Nat) : Int)).u), I64 ((at_ l ((k : Nat) : Int)).v)] 32 :: blk b2 [I64 (nd), .slice a out.length c] 54 :: blk b1 [I64 (0), .slice none 0 0] 54 :: I) from Fit.s) (Fit.takevc (α := Pt) rfl)) ?_
          refine D.step (rs := [11]) (by kernel_rfl) rfl rfl (all1 ?_)
          refine Step.eff rfl (Wanted.plain rfl) (Eff.app (α := Pt) (e := 32) (xs := List.take i out) (ys := ([⟨(at_ l ((k : Nat) : Int)).u, (at_ l ((k : Nat) : Int)).v⟩] : List Pt) ++ (List.drop i out)) Tryz.underlying33 ty32 rfl rfl rfl (by repeat (first | exact List.mem_cons_self | apply List.mem_cons_of_mem)) Sl.o (by simp only [List.length_cons, List.length_nil, List.length_append, List.length_take, List.length_drop]; omega) (by decide) rfl (fun _ _ => (by repeat (first | exact At.head _ _ _ | apply At.tail)))) ?_
          rintro _ _ ⟨ad39, cp40, rfl, rfl⟩
          refine ⟨Fit.sub, ?_⟩
          refine D.r 12 rfl (Runs.fieldAddr fld54_1 rfl) ?_ (hJ := Fit.sub)
          refine D.stop (by kernel_rfl) ?_
          refine A.eff (i := 13) (by kernel_rfl) rfl (Wanted.plain rfl) (Eff.st (cs := [_, _]) (vs := [_]) (cs' := [_, _]) ty33) ?_
          rintro _ _ ⟨rfl, rfl⟩
          refine A.done (by kernel_rfl) ?_
          refine V.block_normal ?_
          refine V.then ?_
          refine W.sub (L' := [(0, _), (4, _), (6, _), (19, _), (20, _), (21, _)]) (Sub.cons rfl (Sub.cons rfl (Sub.cons rfl (Sub.cons rfl (Sub.cons rfl (Sub.cons rfl Sub.nil)))))) ?_
          refine W.region ?_
          refine G.r (Runs.add rfl rfl (by unfold InR; omega)) ?_
          refine G.r (Runs.move rfl) ?_
          refine G.nil ?_
          exact V.next ((k + 1), (ad39), (cp40), ((List.take i out) ++ (([⟨(at_ l ((k : Nat) : Int)).u, (at_ l ((k : Nat) : Int)).v⟩] : List Pt) ++ (List.drop i out)))) (show ((k + 1 : Nat) ≤ l.length) ∧ (((List.take i out) ++ (([⟨(at_ l ((k : Nat) : Int)).u, (at_ l ((k : Nat) : Int)).v⟩] : List Pt) ++ (List.drop i out)) : List Pt).Pairwise Pt.lt) ∧ (∀ x ∈ ((List.take i out) ++ (([⟨(at_ l ((k : Nat) : Int)).u, (at_ l ((k : Nat) : Int)).v⟩] : List Pt) ++ (List.drop i out)) : List Pt), endsP nd x.u x.v) ∧ (((List.take i out) ++ (([⟨(at_ l ((k : Nat) : Int)).u, (at_ l ((k : Nat) : Int)).v⟩] : List Pt) ++ (List.drop i out)) : List Pt).length ≤ (k + 1 : Nat)) from ⟨(by omega), (put_asc hA hi hgt (by first | exact .inl (by omega) | (by_cases h0 : i = 0; (· exact .inl h0); (· exact .inr ⟨by omega, (hst.resolve_left h0).2, by simpa [Pt.ext_iff'] using c58⟩)))), (fun x hx => by rcases List.mem_append.1 hx with h | h; (· exact hE x (List.mem_of_mem_take h)); (· rcases List.mem_append.1 h with h | h; (· rw [List.mem_singleton] at h; rw [h]; exact Classical.not_not.1 c28); (· exact hE x (List.mem_of_mem_drop h)))), (by first | omega | (simp only [List.length_append, List.length_take, List.length_drop, List.length_cons, List.length_nil]; omega))⟩) (show l.length - (k + 1 : Nat) < l.length - k from (by omega)) (Sub.cons rfl (Sub.cons rfl (Sub.cons rfl (Sub.cons rfl (Sub.cons rfl (Sub.cons lookO Sub.nil)))))) (show Fit κ _ (vc 32 (.slice (ad39) ((List.take i out) ++ (([⟨(at_ l ((k : Nat) : Int)).u, (at_ l ((k : Nat) : Int)).v⟩] : List Pt) ++ (List.drop i out))).length (cp40)) (((List.take i out) ++ (([⟨(at_ l ((k : Nat) : Int)).u, (at_ l ((k : Nat) : Int)).v⟩] : List Pt) ++ (List.drop i out)))) :: blk b2 [I64 (nd), .slice (ad39) ((List.take i out) ++ (([⟨(at_ l ((k : Nat) : Int)).u, (at_ l ((k : Nat) : Int)).v⟩] : List Pt) ++ (List.drop i out))).length (cp40)] 54 :: blk b1 [I64 (0), .slice none 0 0] 54 :: I) from (by first | exact Fit.s | exact Fit.sub))
      ·refine D.read 3 rfl (by kernel_rfl) (by kernel_rfl) (by kernel_rfl) rfl (by kernel_rfl) (fun _ _ _ _ h => h) (Wanted.on rfl rfl rfl) rfl rfl Fit.sub (Runs.fieldAddr fld54_1 rfl) ?_
       refine D.read 4 rfl (by kernel_rfl) (by kernel_rfl) (by kernel_rfl) rfl (by kernel_rfl) (fun _ _ _ _ h => h) (Wanted.on rfl rfl rfl) rfl rfl Fit.sub (Runs.ld ty33) ?_
       refine D.read 5 rfl (by kernel_rfl) (by kernel_rfl) (by kernel_rfl) rfl (by kernel_rfl) (fun _ _ _ _ h => h) (Wanted.on rfl rfl rfl) rfl rfl Fit.sub (Runs.move rfl) ?_
       refine D.read 6 rfl (by kernel_rfl) (by kernel_rfl) (by kernel_rfl) rfl (by kernel_rfl) (fun _ _ _ _ h => h) (Wanted.on rfl rfl rfl) rfl rfl Fit.sub (Runs.sub rfl rfl (by unfold InR; omega)) ?_
       refine D.read 7 rfl (by kernel_rfl) (by kernel_rfl) (by kernel_rfl) rfl (by kernel_rfl) (fun _ _ _ _ h => h) (Wanted.on rfl rfl rfl) rfl rfl Fit.sub (Runs.idx (α := Pt) (xs := out) Tryz.underlying33 ty32 rfl rfl Sl.o (by omega) (by omega)) ?_
       refine D.read 8 rfl (by kernel_rfl) (by kernel_rfl) (by kernel_rfl) rfl (by kernel_rfl) (fun _ _ _ _ h => h) (Wanted.on rfl rfl rfl) rfl rfl Fit.sub (Runs.gets (α := Pt) (xs := out) ty32 rfl Sl.o (by omega) (by omega)) ?_
       refine D.read 9 rfl (by kernel_rfl) (by kernel_rfl) (by kernel_rfl) rfl (by kernel_rfl) (fun _ _ _ _ h => h) (Wanted.on rfl rfl rfl) rfl rfl Fit.sub (Runs.lds (vs := [_, _]) ty32) ?_
       refine D.read 10 rfl (by kernel_rfl) (by kernel_rfl) (by kernel_rfl) rfl (by kernel_rfl) (fun _ _ _ _ h => h) (Wanted.on rfl rfl rfl) rfl rfl Fit.sub (Runs.neqT (α := Pt) (a := (at_ out (((i : Nat) : Int) - 1))) (b := (at_ l ((k : Nat) : Int))) eqt32 rfl rfl) ?_
       refine D.r 11 rfl (Runs.pickf rfl rfl) ?_ (hJ := Fit.sub)
       refine D.done (by kernel_rfl) ?_
       refine V.then ?_
       refine W.sub (L' := [(58, _), (0, _), (4, _), (6, _), (8, _), (9, _), (19, _), (20, _), (21, _)]) (Sub.cons rfl (Sub.cons rfl (Sub.cons rfl (Sub.cons rfl (Sub.cons rfl (Sub.cons rfl (Sub.cons rfl (Sub.cons rfl (Sub.cons rfl Sub.nil))))))))) ?_
       refine W.ite rfl (fun c58 => ?_) (fun c58 => ?_)
       ·refine W.drawn mixed ?_
        refine A.hold (blk b3 [I64 ((at_ l ((k : Nat) : Int)).u), I64 ((at_ l ((k : Nat) : Int)).v)] 32 :: blk b2 [I64 (nd), .slice a out.length c] 54 :: blk b1 [I64 (0), .slice none 0 0] 54 :: I) 13 ?_
        refine D.r 0 rfl (Runs.fieldAddr fld54_1 rfl) ?_ (hJ := Fit.sub)
        refine D.r 1 rfl (Runs.ld ty33) ?_ (hJ := Fit.sub)
        refine D.r 2 rfl (Runs.move rfl) ?_ (hJ := Fit.sub)
        refine D.r 4 rfl (Runs.lds (vs := [_, _]) ty32) ?_ (hJ := Fit.sub)
        refine D.r 6 rfl (Runs.fieldAddr fld54_1 rfl) ?_ (hJ := Fit.sub)
        refine D.r 7 rfl (Runs.ld ty33) ?_ (hJ := Fit.sub)
        refine D.r 8 rfl (Runs.move rfl) ?_ (hJ := Fit.sub)
        refine D.step (rs := [3, 5, 9]) (by kernel_rfl) rfl rfl (all2 ?_ (all2 ?_ (all1 ?_)))
        ·refine Step.read rfl (Wanted.plain rfl) rfl rfl (Runs.hi (α := Pt) (xs := out) (h := i) Tryz.underlying33 ty32 rfl rfl (by omega) Sl.o (by omega)) Fit.sub ?_
         refine D.step (rs := [5, 9]) (by kernel_rfl) rfl rfl (all2 ?_ (all1 ?_))
         ·refine Step.eff rfl (Wanted.plain rfl) (Eff.bs (α := Pt) (cs := [_, _]) (xs := [⟨(at_ l ((k : Nat) : Int)).u, (at_ l ((k : Nat) : Int)).v⟩]) Tryz.underlying33 ty32 rfl rfl (by decide) (by decide) rfl rfl rfl rfl) ?_
          rintro _ _ ⟨ad41, rfl, rfl⟩
          refine ⟨Fit.sub, ?_⟩
          refine D.step (rs := [9]) (by kernel_rfl) rfl rfl (all1 ?_)
          refine Step.read rfl (Wanted.plain rfl) rfl rfl (Runs.lo (α := Pt) (xs := out) (l := i) Tryz.underlying33 ty32 rfl rfl (by omega) Sl.o (by omega)) Fit.sub ?_
          refine D.step (rs := [10]) (by kernel_rfl) rfl rfl (all1 ?_)
          refine Step.eff rfl (Wanted.plain rfl) (Eff.app (α := Pt) (e := 32) (xs := ([⟨(at_ l ((k : Nat) : Int)).u, (at_ l ((k : Nat) : Int)).v⟩] : List Pt)) (ys := List.drop i out) Tryz.underlying33 ty32 rfl rfl rfl (by repeat (first | exact List.mem_cons_self | apply List.mem_cons_of_mem)) (Sl.drop Sl.o (by omega)) (by simp only [List.length_cons, List.length_nil, List.length_append, List.length_take, List.length_drop]; omega) (by decide) rfl (fun _ _ => (by repeat (first | exact At.head _ _ _ | apply At.tail)))) ?_
          rintro _ _ ⟨ad42, cp43, rfl, rfl⟩
          refine ⟨Fit.sub, ?_⟩
          refine D.fit (J := vc 32 (.slice a (List.take i out).length c) (List.take i out) :: vc 32 (.slice ad42 (([⟨(at_ l ((k : Nat) : Int)).u, (at_ l ((k : Nat) : Int)).v⟩] : List Pt) ++ (List.drop i out)).length cp43) (([⟨(at_ l ((k : Nat) : Int)).u, (at_ l ((k : Nat) : Int)).v⟩] : List Pt) ++ (List.drop i out)) :: blk b3 [I64 ((at_ l ((k : Nat) : Int)).u), I64 ((at_ l ((k : Nat) : Int)).v)] 32 :: blk b2 [I64 (nd), .slice a out.length c] 54 :: blk b1 [I64 (0), .slice none 0 0] 54 :: I) (Fit.trans (show Fit κ _ (vc 32 (.slice a out.length c) (out) :: vc 32 (.slice ad42 (([⟨(at_ l ((k : Nat) : Int)).u, (at_ l ((k : Nat) : Int)).v⟩] : List Pt) ++ (List.drop i out)).length cp43) (([⟨(at_ l ((k : Nat) : Int)).u, (at_ l ((k : Nat) : Int)).v⟩] : List Pt) ++ (List.drop i out)) :: blk b3 [I64 ((at_ l ((k : Nat) : Int)).u), I64 ((at_ l ((k : Nat) : Int)).v)] 32 :: blk b2 [I64 (nd), .slice a out.length c] 54 :: blk b1 [I64 (0), .slice none 0 0] 54 :: I) from Fit.s) (Fit.takevc (α := Pt) rfl)) ?_
          refine D.step (rs := [11]) (by kernel_rfl) rfl rfl (all1 ?_)
          refine Step.eff rfl (Wanted.plain rfl) (Eff.app (α := Pt) (e := 32) (xs := List.take i out) (ys := ([⟨(at_ l ((k : Nat) : Int)).u, (at_ l ((k : Nat) : Int)).v⟩] : List Pt) ++ (List.drop i out)) Tryz.underlying33 ty32 rfl rfl rfl (by repeat (first | exact List.mem_cons_self | apply List.mem_cons_of_mem)) Sl.o (by simp only [List.length_cons, List.length_nil, List.length_append, List.length_take, List.length_drop]; omega) (by decide) rfl (fun _ _ => (by repeat (first | exact At.head _ _ _ | apply At.tail)))) ?_
          rintro _ _ ⟨ad44, cp45, rfl, rfl⟩
          refine ⟨Fit.sub, ?_⟩
          refine D.r 12 rfl (Runs.fieldAddr fld54_1 rfl) ?_ (hJ := Fit.sub)
          refine D.stop (by kernel_rfl) ?_
          refine A.eff (i := 13) (by kernel_rfl) rfl (Wanted.plain rfl) (Eff.st (cs := [_, _]) (vs := [_]) (cs' := [_, _]) ty33) ?_
          rintro _ _ ⟨rfl, rfl⟩
          refine A.done (by kernel_rfl) ?_
          refine V.block_normal ?_
          refine V.then ?_
          refine W.sub (L' := [(0, _), (4, _), (6, _), (19, _), (20, _), (21, _)]) (Sub.cons rfl (Sub.cons rfl (Sub.cons rfl (Sub.cons rfl (Sub.cons rfl (Sub.cons rfl Sub.nil)))))) ?_
          refine W.region ?_
          refine G.r (Runs.add rfl rfl (by unfold InR; omega)) ?_
          refine G.r (Runs.move rfl) ?_
          refine G.nil ?_
          exact V.next ((k + 1), (ad44), (cp45), ((List.take i out) ++ (([⟨(at_ l ((k : Nat) : Int)).u, (at_ l ((k : Nat) : Int)).v⟩] : List Pt) ++ (List.drop i out)))) (show ((k + 1 : Nat) ≤ l.length) ∧ (((List.take i out) ++ (([⟨(at_ l ((k : Nat) : Int)).u, (at_ l ((k : Nat) : Int)).v⟩] : List Pt) ++ (List.drop i out)) : List Pt).Pairwise Pt.lt) ∧ (∀ x ∈ ((List.take i out) ++ (([⟨(at_ l ((k : Nat) : Int)).u, (at_ l ((k : Nat) : Int)).v⟩] : List Pt) ++ (List.drop i out)) : List Pt), endsP nd x.u x.v) ∧ (((List.take i out) ++ (([⟨(at_ l ((k : Nat) : Int)).u, (at_ l ((k : Nat) : Int)).v⟩] : List Pt) ++ (List.drop i out)) : List Pt).length ≤ (k + 1 : Nat)) from ⟨(by omega), (put_asc hA hi hgt (by first | exact .inl (by omega) | (by_cases h0 : i = 0; (· exact .inl h0); (· exact .inr ⟨by omega, (hst.resolve_left h0).2, by simpa [Pt.ext_iff'] using c58⟩)))), (fun x hx => by rcases List.mem_append.1 hx with h | h; (· exact hE x (List.mem_of_mem_take h)); (· rcases List.mem_append.1 h with h | h; (· rw [List.mem_singleton] at h; rw [h]; exact Classical.not_not.1 c28); (· exact hE x (List.mem_of_mem_drop h)))), (by first | omega | (simp only [List.length_append, List.length_take, List.length_drop, List.length_cons, List.length_nil]; omega))⟩) (show l.length - (k + 1 : Nat) < l.length - k from (by omega)) (Sub.cons rfl (Sub.cons rfl (Sub.cons rfl (Sub.cons rfl (Sub.cons rfl (Sub.cons lookO Sub.nil)))))) (show Fit κ _ (vc 32 (.slice (ad44) ((List.take i out) ++ (([⟨(at_ l ((k : Nat) : Int)).u, (at_ l ((k : Nat) : Int)).v⟩] : List Pt) ++ (List.drop i out))).length (cp45)) (((List.take i out) ++ (([⟨(at_ l ((k : Nat) : Int)).u, (at_ l ((k : Nat) : Int)).v⟩] : List Pt) ++ (List.drop i out)))) :: blk b2 [I64 (nd), .slice (ad44) ((List.take i out) ++ (([⟨(at_ l ((k : Nat) : Int)).u, (at_ l ((k : Nat) : Int)).v⟩] : List Pt) ++ (List.drop i out))).length (cp45)] 54 :: blk b1 [I64 (0), .slice none 0 0] 54 :: I) from (by first | exact Fit.s | exact Fit.sub))
         ·refine Step.read rfl (Wanted.plain rfl) rfl rfl (Runs.lo (α := Pt) (xs := out) (l := i) Tryz.underlying33 ty32 rfl rfl (by omega) Sl.o (by omega)) Fit.sub ?_
          refine D.step (rs := [5]) (by kernel_rfl) rfl rfl (all1 ?_)
          refine Step.eff rfl (Wanted.plain rfl) (Eff.bs (α := Pt) (cs := [_, _]) (xs := [⟨(at_ l ((k : Nat) : Int)).u, (at_ l ((k : Nat) : Int)).v⟩]) Tryz.underlying33 ty32 rfl rfl (by decide) (by decide) rfl rfl rfl rfl) ?_
          rintro _ _ ⟨ad46, rfl, rfl⟩
          refine ⟨Fit.sub, ?_⟩
          refine D.step (rs := [10]) (by kernel_rfl) rfl rfl (all1 ?_)
          refine Step.eff rfl (Wanted.plain rfl) (Eff.app (α := Pt) (e := 32) (xs := ([⟨(at_ l ((k : Nat) : Int)).u, (at_ l ((k : Nat) : Int)).v⟩] : List Pt)) (ys := List.drop i out) Tryz.underlying33 ty32 rfl rfl rfl (by repeat (first | exact List.mem_cons_self | apply List.mem_cons_of_mem)) (Sl.drop Sl.o (by omega)) (by simp only [List.length_cons, List.length_nil, List.length_append, List.length_take, List.length_drop]; omega) (by decide) rfl (fun _ _ => (by repeat (first | exact At.head _ _ _ | apply At.tail)))) ?_
          rintro _ _ ⟨ad47, cp48, rfl, rfl⟩
          refine ⟨Fit.sub, ?_⟩
          refine D.fit (J := vc 32 (.slice a (List.take i out).length c) (List.take i out) :: vc 32 (.slice ad47 (([⟨(at_ l ((k : Nat) : Int)).u, (at_ l ((k : Nat) : Int)).v⟩] : List Pt) ++ (List.drop i out)).length cp48) (([⟨(at_ l ((k : Nat) : Int)).u, (at_ l ((k : Nat) : Int)).v⟩] : List Pt) ++ (List.drop i out)) :: blk b3 [I64 ((at_ l ((k : Nat) : Int)).u), I64 ((at_ l ((k : Nat) : Int)).v)] 32 :: blk b2 [I64 (nd), .slice a out.length c] 54 :: blk b1 [I64 (0), .slice none 0 0] 54 :: I) (Fit.trans (show Fit κ _ (vc 32 (.slice a out.length c) (out) :: vc 32 (.slice ad47 (([⟨(at_ l ((k : Nat) : Int)).u, (at_ l ((k : Nat) : Int)).v⟩] : List Pt) ++ (List.drop i out)).length cp48) (([⟨(at_ l ((k : Nat) : Int)).u, (at_ l ((k : Nat) : Int)).v⟩] : List Pt) ++ (List.drop i out)) :: blk b3 [I64 ((at_ l ((k : Nat) : Int)).u), I64 ((at_ l ((k : Nat) : Int)).v)] 32 :: blk b2 [I64 (nd), .slice a out.length c] 54 :: blk b1 [I64 (0), .slice none 0 0] 54 :: I) from Fit.s) (Fit.takevc (α := Pt) rfl)) ?_
          refine D.step (rs := [11]) (by kernel_rfl) rfl rfl (all1 ?_)
          refine Step.eff rfl (Wanted.plain rfl) (Eff.app (α := Pt) (e := 32) (xs := List.take i out) (ys := ([⟨(at_ l ((k : Nat) : Int)).u, (at_ l ((k : Nat) : Int)).v⟩] : List Pt) ++ (List.drop i out)) Tryz.underlying33 ty32 rfl rfl rfl (by repeat (first | exact List.mem_cons_self | apply List.mem_cons_of_mem)) Sl.o (by simp only [List.length_cons, List.length_nil, List.length_append, List.length_take, List.length_drop]; omega) (by decide) rfl (fun _ _ => (by repeat (first | exact At.head _ _ _ | apply At.tail)))) ?_
          rintro _ _ ⟨ad49, cp50, rfl, rfl⟩
          refine ⟨Fit.sub, ?_⟩
          refine D.r 12 rfl (Runs.fieldAddr fld54_1 rfl) ?_ (hJ := Fit.sub)
          refine D.stop (by kernel_rfl) ?_
          refine A.eff (i := 13) (by kernel_rfl) rfl (Wanted.plain rfl) (Eff.st (cs := [_, _]) (vs := [_]) (cs' := [_, _]) ty33) ?_
          rintro _ _ ⟨rfl, rfl⟩
          refine A.done (by kernel_rfl) ?_
          refine V.block_normal ?_
          refine V.then ?_
          refine W.sub (L' := [(0, _), (4, _), (6, _), (19, _), (20, _), (21, _)]) (Sub.cons rfl (Sub.cons rfl (Sub.cons rfl (Sub.cons rfl (Sub.cons rfl (Sub.cons rfl Sub.nil)))))) ?_
          refine W.region ?_
          refine G.r (Runs.add rfl rfl (by unfold InR; omega)) ?_
          refine G.r (Runs.move rfl) ?_
          refine G.nil ?_
          exact V.next ((k + 1), (ad49), (cp50), ((List.take i out) ++ (([⟨(at_ l ((k : Nat) : Int)).u, (at_ l ((k : Nat) : Int)).v⟩] : List Pt) ++ (List.drop i out)))) (show ((k + 1 : Nat) ≤ l.length) ∧ (((List.take i out) ++ (([⟨(at_ l ((k : Nat) : Int)).u, (at_ l ((k : Nat) : Int)).v⟩] : List Pt) ++ (List.drop i out)) : List Pt).Pairwise Pt.lt) ∧ (∀ x ∈ ((List.take i out) ++ (([⟨(at_ l ((k : Nat) : Int)).u, (at_ l ((k : Nat) : Int)).v⟩] : List Pt) ++ (List.drop i out)) : List Pt), endsP nd x.u x.v) ∧ (((List.take i out) ++ (([⟨(at_ l ((k : Nat) : Int)).u, (at_ l ((k : Nat) : Int)).v⟩] : List Pt) ++ (List.drop i out)) : List Pt).length ≤ (k + 1 : Nat)) from ⟨(by omega), (put_asc hA hi hgt (by first | exact .inl (by omega) | (by_cases h0 : i = 0; (· exact .inl h0); (· exact .inr ⟨by omega, (hst.resolve_left h0).2, by simpa [Pt.ext_iff'] using c58⟩)))), (fun x hx => by rcases List.mem_append.1 hx with h | h; (· exact hE x (List.mem_of_mem_take h)); (· rcases List.mem_append.1 h with h | h; (· rw [List.mem_singleton] at h; rw [h]; exact Classical.not_not.1 c28); (· exact hE x (List.mem_of_mem_drop h)))), (by first | omega | (simp only [List.length_append, List.length_take, List.length_drop, List.length_cons, List.length_nil]; omega))⟩) (show l.length - (k + 1 : Nat) < l.length - k from (by omega)) (Sub.cons rfl (Sub.cons rfl (Sub.cons rfl (Sub.cons rfl (Sub.cons rfl (Sub.cons lookO Sub.nil)))))) (show Fit κ _ (vc 32 (.slice (ad49) ((List.take i out) ++ (([⟨(at_ l ((k : Nat) : Int)).u, (at_ l ((k : Nat) : Int)).v⟩] : List Pt) ++ (List.drop i out))).length (cp50)) (((List.take i out) ++ (([⟨(at_ l ((k : Nat) : Int)).u, (at_ l ((k : Nat) : Int)).v⟩] : List Pt) ++ (List.drop i out)))) :: blk b2 [I64 (nd), .slice (ad49) ((List.take i out) ++ (([⟨(at_ l ((k : Nat) : Int)).u, (at_ l ((k : Nat) : Int)).v⟩] : List Pt) ++ (List.drop i out))).length (cp50)] 54 :: blk b1 [I64 (0), .slice none 0 0] 54 :: I) from (by first | exact Fit.s | exact Fit.sub))
        ·refine Step.eff rfl (Wanted.plain rfl) (Eff.bs (α := Pt) (cs := [_, _]) (xs := [⟨(at_ l ((k : Nat) : Int)).u, (at_ l ((k : Nat) : Int)).v⟩]) Tryz.underlying33 ty32 rfl rfl (by decide) (by decide) rfl rfl rfl rfl) ?_
         rintro _ _ ⟨ad51, rfl, rfl⟩
         refine ⟨Fit.sub, ?_⟩
         refine D.step (rs := [3, 9]) (by kernel_rfl) rfl rfl (all2 ?_ (all1 ?_))
         ·refine Step.read rfl (Wanted.plain rfl) rfl rfl (Runs.hi (α := Pt) (xs := out) (h := i) Tryz.underlying33 ty32 rfl rfl (by omega) Sl.o (by omega)) Fit.sub ?_
          refine D.step (rs := [9]) (by kernel_rfl) rfl rfl (all1 ?_)
          refine Step.read rfl (Wanted.plain rfl) rfl rfl (Runs.lo (α := Pt) (xs := out) (l := i) Tryz.underlying33 ty32 rfl rfl (by omega) Sl.o (by omega)) Fit.sub ?_
          refine D.step (rs := [10]) (by kernel_rfl) rfl rfl (all1 ?_)
          refine Step.eff rfl (Wanted.plain rfl) (Eff.app (α := Pt) (e := 32) (xs := ([⟨(at_ l ((k : Nat) : Int)).u, (at_ l ((k : Nat) : Int)).v⟩] : List Pt)) (ys := List.drop i out) Tryz.underlying33 ty32 rfl rfl rfl (by repeat (first | exact List.mem_cons_self | apply List.mem_cons_of_mem)) (Sl.drop Sl.o (by omega)) (by simp only [List.length_cons, List.length_nil, List.length_append, List.length_take, List.length_drop]; omega) (by decide) rfl (fun _ _ => (by repeat (first | exact At.head _ _ _ | apply At.tail)))) ?_
          rintro _ _ ⟨ad52, cp53, rfl, rfl⟩
          refine ⟨Fit.sub, ?_⟩
          refine D.fit (J := vc 32 (.slice a (List.take i out).length c) (List.take i out) :: vc 32 (.slice ad52 (([⟨(at_ l ((k : Nat) : Int)).u, (at_ l ((k : Nat) : Int)).v⟩] : List Pt) ++ (List.drop i out)).length cp53) (([⟨(at_ l ((k : Nat) : Int)).u, (at_ l ((k : Nat) : Int)).v⟩] : List Pt) ++ (List.drop i out)) :: blk b3 [I64 ((at_ l ((k : Nat) : Int)).u), I64 ((at_ l ((k : Nat) : Int)).v)] 32 :: blk b2 [I64 (nd), .slice a out.length c] 54 :: blk b1 [I64 (0), .slice none 0 0] 54 :: I) (Fit.trans (show Fit κ _ (vc 32 (.slice a out.length c) (out) :: vc 32 (.slice ad52 (([⟨(at_ l ((k : Nat) : Int)).u, (at_ l ((k : Nat) : Int)).v⟩] : List Pt) ++ (List.drop i out)).length cp53) (([⟨(at_ l ((k : Nat) : Int)).u, (at_ l ((k : Nat) : Int)).v⟩] : List Pt) ++ (List.drop i out)) :: blk b3 [I64 ((at_ l ((k : Nat) : Int)).u), I64 ((at_ l ((k : Nat) : Int)).v)] 32 :: blk b2 [I64 (nd), .slice a out.length c] 54 :: blk b1 [I64 (0), .slice none 0 0] 54 :: I) from Fit.s) (Fit.takevc (α := Pt) rfl)) ?_
          refine D.step (rs := [11]) (by kernel_rfl) rfl rfl (all1 ?_)
          refine Step.eff rfl (Wanted.plain rfl) (Eff.app (α := Pt) (e := 32) (xs := List.take i out) (ys := ([⟨(at_ l ((k : Nat) : Int)).u, (at_ l ((k : Nat) : Int)).v⟩] : List Pt) ++ (List.drop i out)) Tryz.underlying33 ty32 rfl rfl rfl (by repeat (first | exact List.mem_cons_self | apply List.mem_cons_of_mem)) Sl.o (by simp only [List.length_cons, List.length_nil, List.length_append, List.length_take, List.length_drop]; omega) (by decide) rfl (fun _ _ => (by repeat (first | exact At.head _ _ _ | apply At.tail)))) ?_
          rintro _ _ ⟨ad54, cp55, rfl, rfl⟩
          refine ⟨Fit.sub, ?_⟩
          refine D.r 12 rfl (Runs.fieldAddr fld54_1 rfl) ?_ (hJ := Fit.sub)
          refine D.stop (by kernel_rfl) ?_
          refine A.eff (i := 13) (by kernel_rfl) rfl (Wanted.plain rfl) (Eff.st (cs := [_, _]) (vs := [_]) (cs' := [_, _]) ty33) ?_
          rintro _ _ ⟨rfl, rfl⟩
          refine A.done (by kernel_rfl) ?_
          refine V.block_normal ?_
          refine V.then ?_
          refine W.sub (L' := [(0, _), (4, _), (6, _), (19, _), (20, _), (21, _)]) (Sub.cons rfl (Sub.cons rfl (Sub.cons rfl (Sub.cons rfl (Sub.cons rfl (Sub.cons rfl Sub.nil)))))) ?_
          refine W.region ?_
          refine G.r (Runs.add rfl rfl (by unfold InR; omega)) ?_
          refine G.r (Runs.move rfl) ?_
          refine G.nil ?_
          exact V.next ((k + 1), (ad54), (cp55), ((List.take i out) ++ (([⟨(at_ l ((k : Nat) : Int)).u, (at_ l ((k : Nat) : Int)).v⟩] : List Pt) ++ (List.drop i out)))) (show ((k + 1 : Nat) ≤ l.length) ∧ (((List.take i out) ++ (([⟨(at_ l ((k : Nat) : Int)).u, (at_ l ((k : Nat) : Int)).v⟩] : List Pt) ++ (List.drop i out)) : List Pt).Pairwise Pt.lt) ∧ (∀ x ∈ ((List.take i out) ++ (([⟨(at_ l ((k : Nat) : Int)).u, (at_ l ((k : Nat) : Int)).v⟩] : List Pt) ++ (List.drop i out)) : List Pt), endsP nd x.u x.v) ∧ (((List.take i out) ++ (([⟨(at_ l ((k : Nat) : Int)).u, (at_ l ((k : Nat) : Int)).v⟩] : List Pt) ++ (List.drop i out)) : List Pt).length ≤ (k + 1 : Nat)) from ⟨(by omega), (put_asc hA hi hgt (by first | exact .inl (by omega) | (by_cases h0 : i = 0; (· exact .inl h0); (· exact .inr ⟨by omega, (hst.resolve_left h0).2, by simpa [Pt.ext_iff'] using c58⟩)))), (fun x hx => by rcases List.mem_append.1 hx with h | h; (· exact hE x (List.mem_of_mem_take h)); (· rcases List.mem_append.1 h with h | h; (· rw [List.mem_singleton] at h; rw [h]; exact Classical.not_not.1 c28); (· exact hE x (List.mem_of_mem_drop h)))), (by first | omega | (simp only [List.length_append, List.length_take, List.length_drop, List.length_cons, List.length_nil]; omega))⟩) (show l.length - (k + 1 : Nat) < l.length - k from (by omega)) (Sub.cons rfl (Sub.cons rfl (Sub.cons rfl (Sub.cons rfl (Sub.cons rfl (Sub.cons lookO Sub.nil)))))) (show Fit κ _ (vc 32 (.slice (ad54) ((List.take i out) ++ (([⟨(at_ l ((k : Nat) : Int)).u, (at_ l ((k : Nat) : Int)).v⟩] : List Pt) ++ (List.drop i out))).length (cp55)) (((List.take i out) ++ (([⟨(at_ l ((k : Nat) : Int)).u, (at_ l ((k : Nat) : Int)).v⟩] : List Pt) ++ (List.drop i out)))) :: blk b2 [I64 (nd), .slice (ad54) ((List.take i out) ++ (([⟨(at_ l ((k : Nat) : Int)).u, (at_ l ((k : Nat) : Int)).v⟩] : List Pt) ++ (List.drop i out))).length (cp55)] 54 :: blk b1 [I64 (0), .slice none 0 0] 54 :: I) from (by first | exact Fit.s | exact Fit.sub))
         ·refine Step.read rfl (Wanted.plain rfl) rfl rfl (Runs.lo (α := Pt) (xs := out) (l := i) Tryz.underlying33 ty32 rfl rfl (by omega) Sl.o (by omega)) Fit.sub ?_
          refine D.step (rs := [3, 10]) (by kernel_rfl) rfl rfl (all2 ?_ (all1 ?_))
          ·refine Step.read rfl (Wanted.plain rfl) rfl rfl (Runs.hi (α := Pt) (xs := out) (h := i) Tryz.underlying33 ty32 rfl rfl (by omega) Sl.o (by omega)) Fit.sub ?_
           refine D.step (rs := [10]) (by kernel_rfl) rfl rfl (all1 ?_)
           refine Step.eff rfl (Wanted.plain rfl) (Eff.app (α := Pt) (e := 32) (xs := ([⟨(at_ l ((k : Nat) : Int)).u, (at_ l ((k : Nat) : Int)).v⟩] : List Pt)) (ys := List.drop i out) Tryz.underlying33 ty32 rfl rfl rfl (by repeat (first | exact List.mem_cons_self | apply List.mem_cons_of_mem)) (Sl.drop Sl.o (by omega)) (by simp only [List.length_cons, List.length_nil, List.length_append, List.length_take, List.length_drop]; omega) (by decide) rfl (fun _ _ => (by repeat (first | exact At.head _ _ _ | apply At.tail)))) ?_
           rintro _ _ ⟨ad56, cp57, rfl, rfl⟩
           refine ⟨Fit.sub, ?_⟩
           refine D.fit (J := vc 32 (.slice a (List.take i out).length c) (List.take i out) :: vc 32 (.slice ad56 (([⟨(at_ l ((k : Nat) : Int)).u, (at_ l ((k : Nat) : Int)).v⟩] : List Pt) ++ (List.drop i out)).length cp57) (([⟨(at_ l ((k : Nat) : Int)).u, (at_ l ((k : Nat) : Int)).v⟩] : List Pt) ++ (List.drop i out)) :: blk b3 [I64 ((at_ l ((k : Nat) : Int)).u), I64 ((at_ l ((k : Nat) : Int)).v)] 32 :: blk b2 [I64 (nd), .slice a out.length c] 54 :: blk b1 [I64 (0), .slice none 0 0] 54 :: I) (Fit.trans (show Fit κ _ (vc 32 (.slice a out.length c) (out) :: vc 32 (.slice ad56 (([⟨(at_ l ((k : Nat) : Int)).u, (at_ l ((k : Nat) : Int)).v⟩] : List Pt) ++ (List.drop i out)).length cp57) (([⟨(at_ l ((k : Nat) : Int)).u, (at_ l ((k : Nat) : Int)).v⟩] : List Pt) ++ (List.drop i out)) :: blk b3 [I64 ((at_ l ((k : Nat) : Int)).u), I64 ((at_ l ((k : Nat) : Int)).v)] 32 :: blk b2 [I64 (nd), .slice a out.length c] 54 :: blk b1 [I64 (0), .slice none 0 0] 54 :: I) from Fit.s) (Fit.takevc (α := Pt) rfl)) ?_
           refine D.step (rs := [11]) (by kernel_rfl) rfl rfl (all1 ?_)
           refine Step.eff rfl (Wanted.plain rfl) (Eff.app (α := Pt) (e := 32) (xs := List.take i out) (ys := ([⟨(at_ l ((k : Nat) : Int)).u, (at_ l ((k : Nat) : Int)).v⟩] : List Pt) ++ (List.drop i out)) Tryz.underlying33 ty32 rfl rfl rfl (by repeat (first | exact List.mem_cons_self | apply List.mem_cons_of_mem)) Sl.o (by simp only [List.length_cons, List.length_nil, List.length_append, List.length_take, List.length_drop]; omega) (by decide) rfl (fun _ _ => (by repeat (first | exact At.head _ _ _ | apply At.tail)))) ?_
           rintro _ _ ⟨ad58, cp59, rfl, rfl⟩
           refine ⟨Fit.sub, ?_⟩
           refine D.r 12 rfl (Runs.fieldAddr fld54_1 rfl) ?_ (hJ := Fit.sub)
           refine D.stop (by kernel_rfl) ?_
           refine A.eff (i := 13) (by kernel_rfl) rfl (Wanted.plain rfl) (Eff.st (cs := [_, _]) (vs := [_]) (cs' := [_, _]) ty33) ?_
           rintro _ _ ⟨rfl, rfl⟩
           refine A.done (by kernel_rfl) ?_
           refine V.block_normal ?_
           refine V.then ?_
           refine W.sub (L' := [(0, _), (4, _), (6, _), (19, _), (20, _), (21, _)]) (Sub.cons rfl (Sub.cons rfl (Sub.cons rfl (Sub.cons rfl (Sub.cons rfl (Sub.cons rfl Sub.nil)))))) ?_
           refine W.region ?_
           refine G.r (Runs.add rfl rfl (by unfold InR; omega)) ?_
           refine G.r (Runs.move rfl) ?_
           refine G.nil ?_
           exact V.next ((k + 1), (ad58), (cp59), ((List.take i out) ++ (([⟨(at_ l ((k : Nat) : Int)).u, (at_ l ((k : Nat) : Int)).v⟩] : List Pt) ++ (List.drop i out)))) (show ((k + 1 : Nat) ≤ l.length) ∧ (((List.take i out) ++ (([⟨(at_ l ((k : Nat) : Int)).u, (at_ l ((k : Nat) : Int)).v⟩] : List Pt) ++ (List.drop i out)) : List Pt).Pairwise Pt.lt) ∧ (∀ x ∈ ((List.take i out) ++ (([⟨(at_ l ((k : Nat) : Int)).u, (at_ l ((k : Nat) : Int)).v⟩] : List Pt) ++ (List.drop i out)) : List Pt), endsP nd x.u x.v) ∧ (((List.take i out) ++ (([⟨(at_ l ((k : Nat) : Int)).u, (at_ l ((k : Nat) : Int)).v⟩] : List Pt) ++ (List.drop i out)) : List Pt).length ≤ (k + 1 : Nat)) from ⟨(by omega), (put_asc hA hi hgt (by first | exact .inl (by omega) | (by_cases h0 : i = 0; (· exact .inl h0); (· exact .inr ⟨by omega, (hst.resolve_left h0).2, by simpa [Pt.ext_iff'] using c58⟩)))), (fun x hx => by rcases List.mem_append.1 hx with h | h; (· exact hE x (List.mem_of_mem_take h)); (· rcases List.mem_append.1 h with h | h; (· rw [List.mem_singleton] at h; rw [h]; exact Classical.not_not.1 c28); (· exact hE x (List.mem_of_mem_drop h)))), (by first | omega | (simp only [List.length_append, List.length_take, List.length_drop, List.length_cons, List.length_nil]; omega))⟩) (show l.length - (k + 1 : Nat) < l.length - k from (by omega)) (Sub.cons rfl (Sub.cons rfl (Sub.cons rfl (Sub.cons rfl (Sub.cons rfl (Sub.cons lookO Sub.nil)))))) (show Fit κ _ (vc 32 (.slice (ad58) ((List.take i out) ++ (([⟨(at_ l ((k : Nat) : Int)).u, (at_ l ((k : Nat) : Int)).v⟩] : List Pt) ++ (List.drop i out))).length (cp59)) (((List.take i out) ++ (([⟨(at_ l ((k : Nat) : Int)).u, (at_ l ((k : Nat) : Int)).v⟩] : List Pt) ++ (List.drop i out)))) :: blk b2 [I64 (nd), .slice (ad58) ((List.take i out) ++ (([⟨(at_ l ((k : Nat) : Int)).u, (at_ l ((k : Nat) : Int)).v⟩] : List Pt) ++ (List.drop i out))).length (cp59)] 54 :: blk b1 [I64 (0), .slice none 0 0] 54 :: I) from (by first | exact Fit.s | exact Fit.sub))
          ·refine Step.eff rfl (Wanted.plain rfl) (Eff.app (α := Pt) (e := 32) (xs := ([⟨(at_ l ((k : Nat) : Int)).u, (at_ l ((k : Nat) : Int)).v⟩] : List Pt)) (ys := List.drop i out) Tryz.underlying33 ty32 rfl rfl rfl (by repeat (first | exact List.mem_cons_self | apply List.mem_cons_of_mem)) (Sl.drop Sl.o (by omega)) (by simp only [List.length_cons, List.length_nil, List.length_append, List.length_take, List.length_drop]; omega) (by decide) rfl (fun _ _ => (by repeat (first | exact At.head _ _ _ | apply At.tail)))) ?_
           rintro _ _ ⟨ad60, cp61, rfl, rfl⟩
           refine ⟨Fit.sub, ?_⟩
           refine D.step (rs := [3]) (by kernel_rfl) rfl rfl (all1 ?_)
           refine Step.read rfl (Wanted.plain rfl) rfl rfl (Runs.hi (α := Pt) (xs := out) (h := i) Tryz.underlying33 ty32 rfl rfl (by omega) Sl.o (by omega)) Fit.sub ?_
           refine D.fit (J := vc 32 (.slice a (List.take i out).length c) (List.take i out) :: vc 32 (.slice ad60 (([⟨(at_ l ((k : Nat) : Int)).u, (at_ l ((k : Nat) : Int)).v⟩] : List Pt) ++ (List.drop i out)).length cp61) (([⟨(at_ l ((k : Nat) : Int)).u, (at_ l ((k : Nat) : Int)).v⟩] : List Pt) ++ (List.drop i out)) :: blk b3 [I64 ((at_ l ((k : Nat) : Int)).u), I64 ((at_ l ((k : Nat) : Int)).v)] 32 :: blk b2 [I64 (nd), .slice a out.length c] 54 :: blk b1 [I64 (0), .slice none 0 0] 54 :: I) (Fit.trans (show Fit κ _ (vc 32 (.slice a out.length c) (out) :: vc 32 (.slice ad60 (([⟨(at_ l ((k : Nat) : Int)).u, (at_ l ((k : Nat) : Int)).v⟩] : List Pt) ++ (List.drop i out)).length cp61) (([⟨(at_ l ((k : Nat) : Int)).u, (at_ l ((k : Nat) : Int)).v⟩] : List Pt) ++ (List.drop i out)) :: blk b3 [I64 ((at_ l ((k : Nat) : Int)).u), I64 ((at_ l ((k : Nat) : Int)).v)] 32 :: blk b2 [I64 (nd), .slice a out.length c] 54 :: blk b1 [I64 (0), .slice none 0 0] 54 :: I) from Fit.s) (Fit.takevc (α := Pt) rfl)) ?_
           refine D.step (rs := [11]) (by kernel_rfl) rfl rfl (all1 ?_)
           refine Step.eff rfl (Wanted.plain rfl) (Eff.app (α := Pt) (e := 32) (xs := List.take i out) (ys := ([⟨(at_ l ((k : Nat) : Int)).u, (at_ l ((k : Nat) : Int)).v⟩] : List Pt) ++ (List.drop i out)) Tryz.underlying33 ty32 rfl rfl rfl (by repeat (first | exact List.mem_cons_self | apply List.mem_cons_of_mem)) Sl.o (by simp only [List.length_cons, List.length_nil, List.length_append, List.length_take, List.length_drop]; omega) (by decide) rfl (fun _ _ => (by repeat (first | exact At.head _ _ _ | apply At.tail)))) ?_
           rintro _ _ ⟨ad62, cp63, rfl, rfl⟩
           refine ⟨Fit.sub, ?_⟩
           refine D.r 12 rfl (Runs.fieldAddr fld54_1 rfl) ?_ (hJ := Fit.sub)
           refine D.stop (by kernel_rfl) ?_
           refine A.eff (i := 13) (by kernel_rfl) rfl (Wanted.plain rfl) (Eff.st (cs := [_, _]) (vs := [_]) (cs' := [_, _]) ty33) ?_
           rintro _ _ ⟨rfl, rfl⟩
           refine A.done (by kernel_rfl) ?_
           refine V.block_normal ?_
           refine V.then ?_
           refine W.sub (L' := [(0, _), (4, _), (6, _), (19, _), (20, _), (21, _)]) (Sub.cons rfl (Sub.cons rfl (Sub.cons rfl (Sub.cons rfl (Sub.cons rfl (Sub.cons rfl Sub.nil)))))) ?_
           refine W.region ?_
           refine G.r (Runs.add rfl rfl (by unfold InR; omega)) ?_
           refine G.r (Runs.move rfl) ?_
           refine G.nil ?_
           exact V.next ((k + 1), (ad62), (cp63), ((List.take i out) ++ (([⟨(at_ l ((k : Nat) : Int)).u, (at_ l ((k : Nat) : Int)).v⟩] : List Pt) ++ (List.drop i out)))) (show ((k + 1 : Nat) ≤ l.length) ∧ (((List.take i out) ++ (([⟨(at_ l ((k : Nat) : Int)).u, (at_ l ((k : Nat) : Int)).v⟩] : List Pt) ++ (List.drop i out)) : List Pt).Pairwise Pt.lt) ∧ (∀ x ∈ ((List.take i out) ++ (([⟨(at_ l ((k : Nat) : Int)).u, (at_ l ((k : Nat) : Int)).v⟩] : List Pt) ++ (List.drop i out)) : List Pt), endsP nd x.u x.v) ∧ (((List.take i out) ++ (([⟨(at_ l ((k : Nat) : Int)).u, (at_ l ((k : Nat) : Int)).v⟩] : List Pt) ++ (List.drop i out)) : List Pt).length ≤ (k + 1 : Nat)) from ⟨(by omega), (put_asc hA hi hgt (by first | exact .inl (by omega) | (by_cases h0 : i = 0; (· exact .inl h0); (· exact .inr ⟨by omega, (hst.resolve_left h0).2, by simpa [Pt.ext_iff'] using c58⟩)))), (fun x hx => by rcases List.mem_append.1 hx with h | h; (· exact hE x (List.mem_of_mem_take h)); (· rcases List.mem_append.1 h with h | h; (· rw [List.mem_singleton] at h; rw [h]; exact Classical.not_not.1 c28); (· exact hE x (List.mem_of_mem_drop h)))), (by first | omega | (simp only [List.length_append, List.length_take, List.length_drop, List.length_cons, List.length_nil]; omega))⟩) (show l.length - (k + 1 : Nat) < l.length - k from (by omega)) (Sub.cons rfl (Sub.cons rfl (Sub.cons rfl (Sub.cons rfl (Sub.cons rfl (Sub.cons lookO Sub.nil)))))) (show Fit κ _ (vc 32 (.slice (ad62) ((List.take i out) ++ (([⟨(at_ l ((k : Nat) : Int)).u, (at_ l ((k : Nat) : Int)).v⟩] : List Pt) ++ (List.drop i out))).length (cp63)) (((List.take i out) ++ (([⟨(at_ l ((k : Nat) : Int)).u, (at_ l ((k : Nat) : Int)).v⟩] : List Pt) ++ (List.drop i out)))) :: blk b2 [I64 (nd), .slice (ad62) ((List.take i out) ++ (([⟨(at_ l ((k : Nat) : Int)).u, (at_ l ((k : Nat) : Int)).v⟩] : List Pt) ++ (List.drop i out))).length (cp63)] 54 :: blk b1 [I64 (0), .slice none 0 0] 54 :: I) from (by first | exact Fit.s | exact Fit.sub))
        ·refine Step.read rfl (Wanted.plain rfl) rfl rfl (Runs.lo (α := Pt) (xs := out) (l := i) Tryz.underlying33 ty32 rfl rfl (by omega) Sl.o (by omega)) Fit.sub ?_
         refine D.step (rs := [3, 5]) (by kernel_rfl) rfl rfl (all2 ?_ (all1 ?_))
         ·refine Step.read rfl (Wanted.plain rfl) rfl rfl (Runs.hi (α := Pt) (xs := out) (h := i) Tryz.underlying33 ty32 rfl rfl (by omega) Sl.o (by omega)) Fit.sub ?_
          refine D.step (rs := [5]) (by kernel_rfl) rfl rfl (all1 ?_)
          refine Step.eff rfl (Wanted.plain rfl) (Eff.bs (α := Pt) (cs := [_, _]) (xs := [⟨(at_ l ((k : Nat) : Int)).u, (at_ l ((k : Nat) : Int)).v⟩]) Tryz.underlying33 ty32 rfl rfl (by decide) (by decide) rfl rfl rfl rfl) ?_
          rintro _ _ ⟨ad64, rfl, rfl⟩
          refine ⟨Fit.sub, ?_⟩
          refine D.step (rs := [10]) (by kernel_rfl) rfl rfl (all1 ?_)
          refine Step.eff rfl (Wanted.plain rfl) (Eff.app (α := Pt) (e := 32) (xs := ([⟨(at_ l ((k : Nat) : Int)).u, (at_ l ((k : Nat) : Int)).v⟩] : List Pt)) (ys := List.drop i out) Tryz.underlying33 ty32 rfl rfl rfl (by repeat (first | exact List.mem_cons_self | apply List.mem_cons_of_mem)) (Sl.drop Sl.o (by omega)) (by simp only [List.length_cons, List.length_nil, List.length_append, List.length_take, List.length_drop]; omega) (by decide) rfl (fun _ _ => (by repeat (first | exact At.head _ _ _ | apply At.tail)))) ?_
          rintro _ _ ⟨ad65, cp66, rfl, rfl⟩
          refine ⟨Fit.sub, ?_⟩
          refine D.fit (J := vc 32 (.slice a (List.take i out).length c) (List.take i out) :: vc 32 (.slice ad65 (([⟨(at_ l ((k : Nat) : Int)).u, (at_ l ((k : Nat) : Int)).v⟩] : List Pt) ++ (List.drop i out)).length cp66) (([⟨(at_ l ((k : Nat) : Int)).u, (at_ l ((k : Nat) : Int)).v⟩] : List Pt) ++ (List.drop i out)) :: blk b3 [I64 ((at_ l ((k : Nat) : Int)).u), I64 ((at_ l ((k : Nat) : Int)).v)] 32 :: blk b2 [I64 (nd), .slice a out.length c] 54 :: blk b1 [I64 (0), .slice none 0 0] 54 :: I) (Fit.trans (show Fit κ _ (vc 32 (.slice a out.length c) (out) :: vc 32 (.slice ad65 (([⟨(at_ l ((k : Nat) : Int)).u, (at_ l ((k : Nat) : Int)).v⟩] : List Pt) ++ (List.drop i out)).length cp66) (([⟨(at_ l ((k : Nat) : Int)).u, (at_ l ((k : Nat) : Int)).v⟩] : List Pt) ++ (List.drop i out)) :: blk b3 [I64 ((at_ l ((k : Nat) : Int)).u), I64 ((at_ l ((k : Nat) : Int)).v)] 32 :: blk b2 [I64 (nd), .slice a out.length c] 54 :: blk b1 [I64 (0), .slice none 0 0] 54 :: I) from Fit.s) (Fit.takevc (α := Pt) rfl)) ?_
          refine D.step (rs := [11]) (by kernel_rfl) rfl rfl (all1 ?_)
          refine Step.eff rfl (Wanted.plain rfl) (Eff.app (α := Pt) (e := 32) (xs := List.take i out) (ys := ([⟨(at_ l ((k : Nat) : Int)).u, (at_ l ((k : Nat) : Int)).v⟩] : List Pt) ++ (List.drop i out)) Tryz.underlying33 ty32 rfl rfl rfl (by repeat (first | exact List.mem_cons_self | apply List.mem_cons_of_mem)) Sl.o (by simp only [List.length_cons, List.length_nil, List.length_append, List.length_take, List.length_drop]; omega) (by decide) rfl (fun _ _ => (by repeat (first | exact At.head _ _ _ | apply At.tail)))) ?_
          rintro _ _ ⟨ad67, cp68, rfl, rfl⟩
          refine ⟨Fit.sub, ?_⟩
          refine D.r 12 rfl (Runs.fieldAddr fld54_1 rfl) ?_ (hJ := Fit.sub)
          refine D.stop (by kernel_rfl) ?_
          refine A.eff (i := 13) (by kernel_rfl) rfl (Wanted.plain rfl) (Eff.st (cs := [_, _]) (vs := [_]) (cs' := [_, _]) ty33) ?_
          rintro _ _ ⟨rfl, rfl⟩
          refine A.done (by kernel_rfl) ?_
          refine V.block_normal ?_
          refine V.then ?_
          refine W.sub (L' := [(0, _), (4, _), (6, _), (19, _), (20, _), (21, _)]) (Sub.cons rfl (Sub.cons rfl (Sub.cons rfl (Sub.cons rfl (Sub.cons rfl (Sub.cons rfl Sub.nil)))))) ?_
          refine W.region ?_
          refine G.r (Runs.add rfl rfl (by unfold InR; omega)) ?_
          refine G.r (Runs.move rfl) ?_
          refine G.nil ?_
          exact V.next ((k + 1), (ad67), (cp68), ((List.take i out) ++ (([⟨(at_ l ((k : Nat) : Int)).u, (at_ l ((k : Nat) : Int)).v⟩] : List Pt) ++ (List.drop i out)))) (show ((k + 1 : Nat) ≤ l.length) ∧ (((List.take i out) ++ (([⟨(at_ l ((k : Nat) : Int)).u, (at_ l ((k : Nat) : Int)).v⟩] : List Pt) ++ (List.drop i out)) : List Pt).Pairwise Pt.lt) ∧ (∀ x ∈ ((List.take i out) ++ (([⟨(at_ l ((k : Nat) : Int)).u, (at_ l ((k : Nat) : Int)).v⟩] : List Pt) ++ (List.drop i out)) : List Pt), endsP nd x.u x.v) ∧ (((List.take i out) ++ (([⟨(at_ l ((k : Nat) : Int)).u, (at_ l ((k : Nat) : Int)).v⟩] : List Pt) ++ (List.drop i out)) : List Pt).length ≤ (k + 1 : Nat)) from ⟨(by omega), (put_asc hA hi hgt (by first | exact .inl (by omega) | (by_cases h0 : i = 0; (· exact .inl h0); (· exact .inr ⟨by omega, (hst.resolve_left h0).2, by simpa [Pt.ext_iff'] using c58⟩)))), (fun x hx => by rcases List.mem_append.1 hx with h | h; (· exact hE x (List.mem_of_mem_take h)); (· rcases List.mem_append.1 h with h | h; (· rw [List.mem_singleton] at h; rw [h]; exact Classical.not_not.1 c28); (· exact hE x (List.mem_of_mem_drop h)))), (by first | omega | (simp only [List.length_append, List.length_take, List.length_drop, List.length_cons, List.length_nil]; omega))⟩) (show l.length - (k + 1 : Nat) < l.length - k from (by omega)) (Sub.cons rfl (Sub.cons rfl (Sub.cons rfl (Sub.cons rfl (Sub.cons rfl (Sub.cons lookO Sub.nil)))))) (show Fit κ _ (vc 32 (.slice (ad67) ((List.take i out) ++ (([⟨(at_ l ((k : Nat) : Int)).u, (at_ l ((k : Nat) : Int)).v⟩] : List Pt) ++ (List.drop i out))).length (cp68)) (((List.take i out) ++ (([⟨(at_ l ((k : Nat) : Int)).u, (at_ l ((k : Nat) : Int)).v⟩] : List Pt) ++ (List.drop i out)))) :: blk b2 [I64 (nd), .slice (ad67) ((List.take i out) ++ (([⟨(at_ l ((k : Nat) : Int)).u, (at_ l ((k : Nat) : Int)).v⟩] : List Pt) ++ (List.drop i out))).length (cp68)] 54 :: blk b1 [I64 (0), .slice none 0 0] 54 :: I) from (by first | exact Fit.s | exact Fit.sub))
         ·refine Step.eff rfl (Wanted.plain rfl) (Eff.bs (α := Pt) (cs := [_, _]) (xs := [⟨(at_ l ((k : Nat) : Int)).u, (at_ l ((k : Nat) : Int)).v⟩]) Tryz.underlying33 ty32 rfl rfl (by decide) (by decide) rfl rfl rfl rfl) ?_
          rintro _ _ ⟨ad69, rfl, rfl⟩
          refine ⟨Fit.sub, ?_⟩
          refine D.step (rs := [3, 10]) (by kernel_rfl) rfl rfl (all2 ?_ (all1 ?_))
          ·refine Step.read rfl (Wanted.plain rfl) rfl rfl (Runs.hi (α := Pt) (xs := out) (h := i) Tryz.underlying33 ty32 rfl rfl (by omega) Sl.o (by omega)) Fit.sub ?_
           refine D.step (rs := [10]) (by kernel_rfl) rfl rfl (all1 ?_)
           refine Step.eff rfl (Wanted.plain rfl) (Eff.app (α := Pt) (e := 32) (xs := ([⟨(at_ l ((k : Nat) : Int)).u, (at_ l ((k : Nat) : Int)).v⟩] : List Pt)) (ys := List.drop i out) Tryz.underlying33 ty32 rfl rfl rfl (by repeat (first | exact List.mem_cons_self | apply List.mem_cons_of_mem)) (Sl.drop Sl.o (by omega)) (by simp only [List.length_cons, List.length_nil, List.length_append, List.length_take, List.length_drop]; omega) (by decide) rfl (fun _ _ => (by repeat (first | exact At.head _ _ _ | apply At.tail)))) ?_
           rintro _ _ ⟨ad70, cp71, rfl, rfl⟩
           refine ⟨Fit.sub, ?_⟩
           refine D.fit (J := vc 32 (.slice a (List.take i out).length c) (List.take i out) :: vc 32 (.slice ad70 (([⟨(at_ l ((k : Nat) : Int)).u, (at_ l ((k : Nat) : Int)).v⟩] : List Pt) ++ (List.drop i out)).length cp71) (([⟨(at_ l ((k : Nat) : Int)).u, (at_ l ((k : Nat) : Int)).v⟩] : List Pt) ++ (List.drop i out)) :: blk b3 [I64 ((at_ l ((k : Nat) : Int)).u), I64 ((at_ l ((k : Nat) : Int)).v)] 32 :: blk b2 [I64 (nd), .slice a out.length c] 54 :: blk b1 [I64 (0), .slice none 0 0] 54 :: I) (Fit.trans (show Fit κ _ (vc 32 (.slice a out.length c) (out) :: vc 32 (.slice ad70 (([⟨(at_ l ((k : Nat) : Int)).u, (at_ l ((k : Nat) : Int)).v⟩] : List Pt) ++ (List.drop i out)).length cp71) (([⟨(at_ l ((k : Nat) : Int)).u, (at_ l ((k : Nat) : Int)).v⟩] : List Pt) ++ (List.drop i out)) :: blk b3 [I64 ((at_ l ((k : Nat) : Int)).u), I64 ((at_ l ((k : Nat) : Int)).v)] 32 :: blk b2 [I64 (nd), .slice a out.length c] 54 :: blk b1 [I64 (0), .slice none 0 0] 54 :: I) from Fit.s) (Fit.takevc (α := Pt) rfl)) ?_
           refine D.step (rs := [11]) (by kernel_rfl) rfl rfl (all1 ?_)
           refine Step.eff rfl (Wanted.plain rfl) (Eff.app (α := Pt) (e := 32) (xs := List.take i out) (ys := ([⟨(at_ l ((k : Nat) : Int)).u, (at_ l ((k : Nat) : Int)).v⟩] : List Pt) ++ (List.drop i out)) Tryz.underlying33 ty32 rfl rfl rfl (by repeat (first | exact List.mem_cons_self | apply List.mem_cons_of_mem)) Sl.o (by simp only [List.length_cons, List.length_nil, List.length_append, List.length_take, List.length_drop]; omega) (by decide) rfl (fun _ _ => (by repeat (first | exact At.head _ _ _ | apply At.tail)))) ?_
           rintro _ _ ⟨ad72, cp73, rfl, rfl⟩
           refine ⟨Fit.sub, ?_⟩
           refine D.r 12 rfl (Runs.fieldAddr fld54_1 rfl) ?_ (hJ := Fit.sub)
           refine D.stop (by kernel_rfl) ?_
           refine A.eff (i := 13) (by kernel_rfl) rfl (Wanted.plain rfl) (Eff.st (cs := [_, _]) (vs := [_]) (cs' := [_, _]) ty33) ?_
           rintro _ _ ⟨rfl, rfl⟩
           refine A.done (by kernel_rfl) ?_
           refine V.block_normal ?_
           refine V.then ?_
           refine W.sub (L' := [(0, _), (4, _), (6, _), (19, _), (20, _), (21, _)]) (Sub.cons rfl (Sub.cons rfl (Sub.cons rfl (Sub.cons rfl (Sub.cons rfl (Sub.cons rfl Sub.nil)))))) ?_
           refine W.region ?_
           refine G.r (Runs.add rfl rfl (by unfold InR; omega)) ?_
           refine G.r (Runs.move rfl) ?_
           refine G.nil ?_
           exact V.next ((k + 1), (ad72), (cp73), ((List.take i out) ++ (([⟨(at_ l ((k : Nat) : Int)).u, (at_ l ((k : Nat) : Int)).v⟩] : List Pt) ++ (List.drop i out)))) (show ((k + 1 : Nat) ≤ l.length) ∧ (((List.take i out) ++ (([⟨(at_ l ((k : Nat) : Int)).u, (at_ l ((k : Nat) : Int)).v⟩] : List Pt) ++ (List.drop i out)) : List Pt).Pairwise Pt.lt) ∧ (∀ x ∈ ((List.take i out) ++ (([⟨(at_ l ((k : Nat) : Int)).u, (at_ l ((k : Nat) : Int)).v⟩] : List Pt) ++ (List.drop i out)) : List Pt), endsP nd x.u x.v) ∧ (((List.take i out) ++ (([⟨(at_ l ((k : Nat) : Int)).u, (at_ l ((k : Nat) : Int)).v⟩] : List Pt) ++ (List.drop i out)) : List Pt).length ≤ (k + 1 : Nat)) from ⟨(by omega), (put_asc hA hi hgt (by first | exact .inl (by omega) | (by_cases h0 : i = 0; (· exact .inl h0); (· exact .inr ⟨by omega, (hst.resolve_left h0).2, by simpa [Pt.ext_iff'] using c58⟩)))), (fun x hx => by rcases List.mem_append.1 hx with h | h; (· exact hE x (List.mem_of_mem_take h)); (· rcases List.mem_append.1 h with h | h; (· rw [List.mem_singleton] at h; rw [h]; exact Classical.not_not.1 c28); (· exact hE x (List.mem_of_mem_drop h)))), (by first | omega | (simp only [List.length_append, List.length_take, List.length_drop, List.length_cons, List.length_nil]; omega))⟩) (show l.length - (k + 1 : Nat) < l.length - k from (by omega)) (Sub.cons rfl (Sub.cons rfl (Sub.cons rfl (Sub.cons rfl (Sub.cons rfl (Sub.cons lookO Sub.nil)))))) (show Fit κ _ (vc 32 (.slice (ad72) ((List.take i out) ++ (([⟨(at_ l ((k : Nat) : Int)).u, (at_ l ((k : Nat) : Int)).v⟩] : List Pt) ++ (List.drop i out))).length (cp73)) (((List.take i out) ++ (([⟨(at_ l ((k : Nat) : Int)).u, (at_ l ((k : Nat) : Int)).v⟩] : List Pt) ++ (List.drop i out)))) :: blk b2 [I64 (nd), .slice (ad72) ((List.take i out) ++ (([⟨(at_ l ((k : Nat) : Int)).u, (at_ l ((k : Nat) : Int)).v⟩] : List Pt) ++ (List.drop i out))).length (cp73)] 54 :: blk b1 [I64 (0), .slice none 0 0] 54 :: I) from (by first | exact Fit.s | exact Fit.sub))
          ·refine Step.eff rfl (Wanted.plain rfl) (Eff.app (α := Pt) (e := 32) (xs := ([⟨(at_ l ((k : Nat) : Int)).u, (at_ l ((k : Nat) : Int)).v⟩] : List Pt)) (ys := List.drop i out) Tryz.underlying33 ty32 rfl rfl rfl (by repeat (first | exact List.mem_cons_self | apply List.mem_cons_of_mem)) (Sl.drop Sl.o (by omega)) (by simp only [List.length_cons, List.length_nil, List.length_append, List.length_take, List.length_drop]; omega) (by decide) rfl (fun _ _ => (by repeat (first | exact At.head _ _ _ | apply At.tail)))) ?_
           rintro _ _ ⟨ad74, cp75, rfl, rfl⟩
           refine ⟨Fit.sub, ?_⟩
           refine D.step (rs := [3]) (by kernel_rfl) rfl rfl (all1 ?_)
           refine Step.read rfl (Wanted.plain rfl) rfl rfl (Runs.hi (α := Pt) (xs := out) (h := i) Tryz.underlying33 ty32 rfl rfl (by omega) Sl.o (by omega)) Fit.sub ?_
           refine D.fit (J := vc 32 (.slice a (List.take i out).length c) (List.take i out) :: vc 32 (.slice ad74 (([⟨(at_ l ((k : Nat) : Int)).u, (at_ l ((k : Nat) : Int)).v⟩] : List Pt) ++ (List.drop i out)).length cp75) (([⟨(at_ l ((k : Nat) : Int)).u, (at_ l ((k : Nat) : Int)).v⟩] : List Pt) ++ (List.drop i out)) :: blk b3 [I64 ((at_ l ((k : Nat) : Int)).u), I64 ((at_ l ((k : Nat) : Int)).v)] 32 :: blk b2 [I64 (nd), .slice a out.length c] 54 :: blk b1 [I64 (0), .slice none 0 0] 54 :: I) (Fit.trans (show Fit κ _ (vc 32 (.slice a out.length c) (out) :: vc 32 (.slice ad74 (([⟨(at_ l ((k : Nat) : Int)).u, (at_ l ((k : Nat) : Int)).v⟩] : List Pt) ++ (List.drop i out)).length cp75) (([⟨(at_ l ((k : Nat) : Int)).u, (at_ l ((k : Nat) : Int)).v⟩] : List Pt) ++ (List.drop i out)) :: blk b3 [I64 ((at_ l ((k : Nat) : Int)).u), I64 ((at_ l ((k : Nat) : Int)).v)] 32 :: blk b2 [I64 (nd), .slice a out.length c] 54 :: blk b1 [I64 (0), .slice none 0 0] 54 :: I) from Fit.s) (Fit.takevc (α := Pt) rfl)) ?_
           refine D.step (rs := [11]) (by kernel_rfl) rfl rfl (all1 ?_)
           refine Step.eff rfl (Wanted.plain rfl) (Eff.app (α := Pt) (e := 32) (xs := List.take i out) (ys := ([⟨(at_ l ((k : Nat) : Int)).u, (at_ l ((k : Nat) : Int)).v⟩] : List Pt) ++ (List.drop i out)) Tryz.underlying33 ty32 rfl rfl rfl (by repeat (first | exact List.mem_cons_self | apply List.mem_cons_of_mem)) Sl.o (by simp only [List.length_cons, List.length_nil, List.length_append, List.length_take, List.length_drop]; omega) (by decide) rfl (fun _ _ => (by repeat (first | exact At.head _ _ _ | apply At.tail)))) ?_
           rintro _ _ ⟨ad76, cp77, rfl, rfl⟩
           refine ⟨Fit.sub, ?_⟩
           refine D.r 12 rfl (Runs.fieldAddr fld54_1 rfl) ?_ (hJ := Fit.sub)
           refine D.stop (by kernel_rfl) ?_
           refine A.eff (i := 13) (by kernel_rfl) rfl (Wanted.plain rfl) (Eff.st (cs := [_, _]) (vs := [_]) (cs' := [_, _]) ty33) ?_
           rintro _ _ ⟨rfl, rfl⟩
           refine A.done (by kernel_rfl) ?_
           refine V.block_normal ?_
           refine V.then ?_
           refine W.sub (L' := [(0, _), (4, _), (6, _), (19, _), (20, _), (21, _)]) (Sub.cons rfl (Sub.cons rfl (Sub.cons rfl (Sub.cons rfl (Sub.cons rfl (Sub.cons rfl Sub.nil)))))) ?_
           refine W.region ?_
           refine G.r (Runs.add rfl rfl (by unfold InR; omega)) ?_
           refine G.r (Runs.move rfl) ?_
           refine G.nil ?_
           exact V.next ((k + 1), (ad76), (cp77), ((List.take i out) ++ (([⟨(at_ l ((k : Nat) : Int)).u, (at_ l ((k : Nat) : Int)).v⟩] : List Pt) ++ (List.drop i out)))) (show ((k + 1 : Nat) ≤ l.length) ∧ (((List.take i out) ++ (([⟨(at_ l ((k : Nat) : Int)).u, (at_ l ((k : Nat) : Int)).v⟩] : List Pt) ++ (List.drop i out)) : List Pt).Pairwise Pt.lt) ∧ (∀ x ∈ ((List.take i out) ++ (([⟨(at_ l ((k : Nat) : Int)).u, (at_ l ((k : Nat) : Int)).v⟩] : List Pt) ++ (List.drop i out)) : List Pt), endsP nd x.u x.v) ∧ (((List.take i out) ++ (([⟨(at_ l ((k : Nat) : Int)).u, (at_ l ((k : Nat) : Int)).v⟩] : List Pt) ++ (List.drop i out)) : List Pt).length ≤ (k + 1 : Nat)) from ⟨(by omega), (put_asc hA hi hgt (by first | exact .inl (by omega) | (by_cases h0 : i = 0; (· exact .inl h0); (· exact .inr ⟨by omega, (hst.resolve_left h0).2, by simpa [Pt.ext_iff'] using c58⟩)))), (fun x hx => by rcases List.mem_append.1 hx with h | h; (· exact hE x (List.mem_of_mem_take h)); (· rcases List.mem_append.1 h with h | h; (· rw [List.mem_singleton] at h; rw [h]; exact Classical.not_not.1 c28); (· exact hE x (List.mem_of_mem_drop h)))), (by first | omega | (simp only [List.length_append, List.length_take, List.length_drop, List.length_cons, List.length_nil]; omega))⟩) (show l.length - (k + 1 : Nat) < l.length - k from (by omega)) (Sub.cons rfl (Sub.cons rfl (Sub.cons rfl (Sub.cons rfl (Sub.cons rfl (Sub.cons lookO Sub.nil)))))) (show Fit κ _ (vc 32 (.slice (ad76) ((List.take i out) ++ (([⟨(at_ l ((k : Nat) : Int)).u, (at_ l ((k : Nat) : Int)).v⟩] : List Pt) ++ (List.drop i out))).length (cp77)) (((List.take i out) ++ (([⟨(at_ l ((k : Nat) : Int)).u, (at_ l ((k : Nat) : Int)).v⟩] : List Pt) ++ (List.drop i out)))) :: blk b2 [I64 (nd), .slice (ad76) ((List.take i out) ++ (([⟨(at_ l ((k : Nat) : Int)).u, (at_ l ((k : Nat) : Int)).v⟩] : List Pt) ++ (List.drop i out))).length (cp77)] 54 :: blk b1 [I64 (0), .slice none 0 0] 54 :: I) from (by first | exact Fit.s | exact Fit.sub))
       ·refine W.skip ?_
        refine V.block_normal ?_
        refine V.then ?_
        refine W.region ?_
        refine G.r (Runs.add rfl rfl (by unfold InR; omega)) ?_
        refine G.r (Runs.move rfl) ?_
        refine G.nil ?_
        exact V.next ((k + 1), (a), (c), (out)) (show ((k + 1 : Nat) ≤ l.length) ∧ ((out : List Pt).Pairwise Pt.lt) ∧ (∀ x ∈ (out : List Pt), endsP nd x.u x.v) ∧ ((out : List Pt).length ≤ (k + 1 : Nat)) from ⟨(by omega), hA, hE, (by first | omega | (simp only [List.length_append, List.length_take, List.length_drop, List.length_cons, List.length_nil]; omega))⟩) (show l.length - (k + 1 : Nat) < l.length - k from (by omega)) (Sub.cons rfl (Sub.cons rfl (Sub.cons rfl (Sub.cons rfl (Sub.cons rfl (Sub.cons lookO Sub.nil)))))) (show Fit κ _ (vc 32 (.slice (a) (out).length (c)) ((out)) :: blk b2 [I64 (nd), .slice (a) (out).length (c)] 54 :: blk b1 [I64 (0), .slice none 0 0] 54 :: I) from (by first | exact Fit.s | exact Fit.sub))
   ·refine W.exit ?_
    refine V.then_exit ?_
    refine V.then_exit ?_
    refine V.block_hit ?_
    refine V.then ?_
    refine W.sr ?_
    refine G.r (Runs.lds (vs := [_, _]) ty54) ?_
    refine G.e (Eff.st (cs := [_, _]) (vs := [_, _]) (cs' := [_, _]) ty54) ?_
    rintro _ _ ⟨rfl, rfl⟩
    refine G.r (Runs.assign rfl) ?_
    refine G.nt ?_
    refine W.ret ?_
    exact V.retc1 rfl ty54 rfl rfl (by repeat (first | exact List.mem_cons_self | apply List.mem_cons_of_mem)) rfl (vc 32 (.slice a out.length c) out :: I) (by first | exact Fit.s | exact Fit.sub) ⟨a, c, out, rfl, ⟨⟨hn, hA, hE⟩, by omega⟩, rfl⟩

theorem MkDigraph_base {κ : Ctx} {I : List Item} {b : Nat} {lv : Value} {ls : List Int} {i : Int} {most : Int} (hl : ∀ q, Sl κ (deck b lv q :: I) lv ls) (h0 : 0 ≤ i)  (hm : 0 ≤ most ∧ most ≤ 6) :
    CallS Tryz.prog κ 37 [.pointer (some ⟨b, 0, none⟩), I64 (most)] (blk b [lv, I64 (i)] 79 :: I) (fun r J => ∃ y : Int × (Option Addr) × Nat × (List Pt) × Int, ((r = .agg #[I64 y.1, .slice y.2.1 y.2.2.2.1.length y.2.2.1] ∧ (y.1 ≤ most ∧ DgOk y.1 y.2.2.2.1 ∧ y.2.2.2.1.length ≤ 60)) ∧ 0 ≤ y.2.2.2.2) ∧ J = [vc 32 (.slice y.2.1 y.2.2.2.1.length y.2.2.1) y.2.2.2.1] ++ deck b lv y.2.2.2.2 :: I) := by
 refine CallS.enter (L := [(0, .pointer (some ⟨b, 0, none⟩)), (1, I64 (most))]) Tryz.func37 rfl rfl rfl rfl ?_
 refine W.sr ?_
 refine G.e (Eff.alloc ty54 rfl) ?_
 rintro _ _ ⟨b1, rfl, rfl⟩
 refine G.nt ?_
 refine W.sr ?_
 refine G.r (Runs.move rfl) ?_
 refine G.r (Runs.move rfl) ?_
 refine G.r (Runs.add rfl rfl (by unfold InR; omega)) ?_
 refine G.e (Eff.call call10 rfl rfl (Next_ok (by repeat (first | exact AtF.head _ _ | apply AtF.tail)) (Sl.fit (hl _) Fit.m) (by omega) (by omega))) ?_
 rintro _ _ ⟨_, _, ⟨x2, i3, rfl, hx2, hi3, rfl⟩, rfl, rfl⟩
 show G Tryz.prog κ _ _ _ _ ([(15, I64 (x2)), (14, I64 (most + 1)), (13, I64 (most)), (12, .pointer (some ⟨b, 0, none⟩)), (4, .pointer (some ⟨b1, 0, none⟩)), (0, .pointer (some ⟨b, 0, none⟩)), (1, I64 (most))] : Env) (blk b1 [I64 (0), .slice none 0 0] 54 :: blk b [lv, I64 (i3)] 79 :: I)
 refine G.r (Runs.assign rfl) ?_
 refine G.nt ?_
 refine W.sr ?_
 refine G.r (Runs.move rfl) ?_
 refine G.e (Eff.call call10 rfl rfl (Next_ok (by repeat (first | exact AtF.head _ _ | apply AtF.tail)) (Sl.fit (hl _) Fit.m) (by omega) (by omega))) ?_
 rintro _ _ ⟨_, _, ⟨x4, i5, rfl, hx4, hi5, rfl⟩, rfl, rfl⟩
 show G Tryz.prog κ _ _ _ _ ([(17, I64 (x4)), (16, .pointer (some ⟨b, 0, none⟩)), (5, I64 (x2)), (15, I64 (x2)), (14, I64 (most + 1)), (13, I64 (most)), (12, .pointer (some ⟨b, 0, none⟩)), (4, .pointer (some ⟨b1, 0, none⟩)), (0, .pointer (some ⟨b, 0, none⟩)), (1, I64 (most))] : Env) (blk b1 [I64 (0), .slice none 0 0] 54 :: blk b [lv, I64 (i5)] 79 :: I)
 refine G.r (Runs.add rfl rfl (by unfold InR; omega)) ?_
 refine G.r (Runs.assign rfl) ?_
 refine G.nt ?_
 refine W.sr ?_
 refine G.r (Runs.assign rfl) ?_
 refine G.nt ?_
 refine W.seq ?_
 refine W.sr ?_
 refine G.r (Runs.assign rfl) ?_
 refine G.nt ?_
 refine W.sub (L' := [(8, _), (7, _), (6, _), (5, _), (4, _), (0, _)]) (Sub.cons rfl (Sub.cons rfl (Sub.cons rfl (Sub.cons rfl (Sub.cons rfl (Sub.cons rfl Sub.nil)))))) ?_
 refine W.block ?_
 refine W.loop (σ := Int × Int × (Option Addr) × Nat × (List Pt)) (fun s => ([(0, .pointer (some ⟨b, 0, none⟩)), (4, .pointer (some ⟨b1, 0, none⟩)), (5, I64 (x2)), (6, I64 (1 + x4)), (7, .slice s.2.2.1 s.2.2.2.2.length s.2.2.2.1), (8, I64 (s.1))] : Env)) (fun s => vc 32 (.slice s.2.2.1 s.2.2.2.2.length s.2.2.2.1) (s.2.2.2.2) :: blk b1 [I64 (0), .slice none 0 0] 54 :: blk b [lv, I64 (s.2.1)] 79 :: I) (fun s => (0 ≤ s.1 ∧ s.1 ≤ x2) ∧ (0 ≤ s.2.1) ∧ (∀ x ∈ s.2.2.2.2, endsP x2 x.u x.v) ∧ ((s.2.2.2.2.length : Int) ≤ s.1 * 7)) (fun s => (x2 - s.1).toNat) (0, i5, none, 0, []) (show (0 ≤ (0 : Int) ∧ (0 : Int) ≤ x2) ∧ (0 ≤ (i5 : Int)) ∧ (∀ x ∈ ([] : List Pt), endsP x2 x.u x.v) ∧ ((([] : List Pt).length : Int) ≤ (0 : Int) * 7) from ⟨(by omega), (by omega), (fun x hx => by cases hx), (by simp)⟩) (Sub.cons rfl (Sub.cons rfl (Sub.cons rfl (Sub.cons rfl (Sub.cons (lookV rfl (by first | rfl | simp)) (Sub.cons lookO Sub.nil)))))) (show Fit κ _ (vc 32 (.slice (none) ([]).length (0)) (([])) :: blk b1 [I64 (0), .slice none 0 0] 54 :: blk b [lv, I64 ((i5))] 79 :: I) from (Fit.nilvc _ _)) ?_
 rintro ⟨u, iqa, a, c, es⟩ hp
 obtain ⟨hu, hiqa, hE, hlen⟩ : (0 ≤ u ∧ u ≤ x2) ∧ (0 ≤ iqa) ∧ (∀ x ∈ es, endsP x2 x.u x.v) ∧ ((es.length : Int) ≤ u * 7) := hp
 show W Tryz.prog κ 51 _ _ ([(0, .pointer (some ⟨b, 0, none⟩)), (4, .pointer (some ⟨b1, 0, none⟩)), (5, I64 (x2)), (6, I64 (1 + x4)), (7, .slice a es.length c), (8, I64 (u))] : Env) (vc 32 (.slice a es.length c) (es) :: blk b1 [I64 (0), .slice none 0 0] 54 :: blk b [lv, I64 (iqa)] 79 :: I)
 refine W.seq ?_
 refine W.sr ?_
 refine G.r (Runs.move rfl) ?_
 refine G.r (Runs.move rfl) ?_
 refine G.r (Runs.lss rfl rfl) ?_
 refine G.nt ?_
 refine W.ite rfl (fun c21 => ?_) (fun c21 => ?_)
 ·refine W.skip ?_
  refine V.then ?_
  refine W.seq ?_
  refine W.block ?_
  refine W.sr ?_
  refine G.r (Runs.assign rfl) ?_
  refine G.nt ?_
  refine W.block ?_
  refine W.loop (σ := Int × Int × (Option Addr) × Nat × (List Pt)) (fun s => ([(0, .pointer (some ⟨b, 0, none⟩)), (4, .pointer (some ⟨b1, 0, none⟩)), (5, I64 (x2)), (6, I64 (1 + x4)), (7, .slice s.2.2.1 s.2.2.2.2.length s.2.2.2.1), (8, I64 (u)), (9, I64 (s.1))] : Env)) (fun s => vc 32 (.slice s.2.2.1 s.2.2.2.2.length s.2.2.2.1) (s.2.2.2.2) :: blk b1 [I64 (0), .slice none 0 0] 54 :: blk b [lv, I64 (s.2.1)] 79 :: I) (fun s => (0 ≤ s.1 ∧ s.1 ≤ x2) ∧ (0 ≤ s.2.1) ∧ (∀ x ∈ s.2.2.2.2, endsP x2 x.u x.v) ∧ ((s.2.2.2.2.length : Int) ≤ u * 7 + s.1)) (fun s => (x2 - s.1).toNat) (0, iqa, a, c, es) (show (0 ≤ (0 : Int) ∧ (0 : Int) ≤ x2) ∧ (0 ≤ (iqa : Int)) ∧ (∀ x ∈ (es : List Pt), endsP x2 x.u x.v) ∧ (((es : List Pt).length : Int) ≤ u * 7 + (0 : Int)) from ⟨(by omega), (by omega), hE, (by omega)⟩) (Sub.cons rfl (Sub.cons rfl (Sub.cons rfl (Sub.cons rfl (Sub.cons (lookV rfl (by first | rfl | simp)) (Sub.cons rfl (Sub.cons lookO Sub.nil))))))) (show Fit κ _ (vc 32 (.slice (a) (es).length (c)) ((es)) :: blk b1 [I64 (0), .slice none 0 0] 54 :: blk b [lv, I64 ((iqa))] 79 :: I) from Fit.sub) ?_
  rintro ⟨v, iqb, a2, c2, es2⟩ hp
  obtain ⟨hw, hiqb, hE2, hlen2⟩ : (0 ≤ v ∧ v ≤ x2) ∧ (0 ≤ iqb) ∧ (∀ x ∈ es2, endsP x2 x.u x.v) ∧ ((es2.length : Int) ≤ u * 7 + v) := hp
  show W Tryz.prog κ 51 _ _ ([(0, .pointer (some ⟨b, 0, none⟩)), (4, .pointer (some ⟨b1, 0, none⟩)), (5, I64 (x2)), (6, I64 (1 + x4)), (7, .slice a2 es2.length c2), (8, I64 (u)), (9, I64 (v))] : Env) (vc 32 (.slice a2 es2.length c2) (es2) :: blk b1 [I64 (0), .slice none 0 0] 54 :: blk b [lv, I64 (iqb)] 79 :: I)
  refine W.seq ?_
  refine W.sr ?_
  refine G.r (Runs.move rfl) ?_
  refine G.r (Runs.move rfl) ?_
  refine G.r (Runs.lss rfl rfl) ?_
  refine G.nt ?_
  refine W.ite rfl (fun c26 => ?_) (fun c26 => ?_)
  ·refine W.skip ?_
   refine V.then ?_
   refine W.seq ?_
   refine W.block ?_
   refine W.sr ?_
   refine G.r (Runs.move rfl) ?_
   refine G.r (Runs.move rfl) ?_
   refine G.r (Runs.neq rfl rfl) ?_
   refine G.r (Runs.move rfl) ?_
   refine G.split (d := 32) rfl (fun g32 => ?_) (fun g32 => ?_)
   ·refine G.ro (Runs.move rfl) ?_
    refine G.eff (Wanted.on rfl rfl rfl) (Eff.call call10 rfl rfl (Next_ok (by repeat (first | exact AtF.head _ _ | apply AtF.tail)) (Sl.fit (hl _) Fit.m) (by omega) (by omega))) ?_
    rintro _ _ ⟨_, _, ⟨x6, i7, rfl, hx6, hi7, rfl⟩, rfl, rfl⟩
    show G Tryz.prog κ _ _ _ _ ([(34, I64 (x6)), (33, .pointer (some ⟨b, 0, none⟩)), (32, .bool true), (32, .bool (decide (u ≠ v))), (31, .bool (decide (u ≠ v))), (30, I64 (v)), (29, I64 (u)), (26, .bool (decide (v < x2))), (25, I64 (x2)), (24, I64 (v)), (0, .pointer (some ⟨b, 0, none⟩)), (4, .pointer (some ⟨b1, 0, none⟩)), (5, I64 (x2)), (6, I64 (1 + x4)), (7, .slice a2 es2.length c2), (8, I64 (u)), (9, I64 (v))] : Env) (vc 32 (.slice a2 es2.length c2) (es2) :: blk b1 [I64 (0), .slice none 0 0] 54 :: blk b [lv, I64 (i7)] 79 :: I)
    refine G.ro (Runs.move rfl) ?_
    refine G.ro (Runs.lss rfl rfl) ?_
    refine G.r (Runs.pickt rfl rfl) ?_
    refine G.nt ?_
    refine W.sub (L' := [(37, _), (0, _), (4, _), (5, _), (6, _), (7, _), (8, _), (9, _)]) (Sub.cons rfl (Sub.cons rfl (Sub.cons rfl (Sub.cons rfl (Sub.cons rfl (Sub.cons rfl (Sub.cons rfl (Sub.cons rfl Sub.nil)))))))) ?_
    refine W.ite rfl (fun c37 => ?_) (fun c37 => ?_)
    ·refine W.region ?_
     refine G.r (Runs.move rfl) ?_
     refine G.r (Runs.move rfl) ?_
     refine G.r (Runs.move rfl) ?_
     refine G.r (Runs.buildArr (cells := [_, _]) ty32 Tryz.underlying32 ty3 rfl rfl) ?_
     refine G.e (Eff.bs (α := Pt) (cs := [_, _]) (xs := [⟨u, v⟩]) Tryz.underlying33 ty32 rfl rfl (by decide) (by decide) rfl rfl rfl rfl) ?_
     rintro _ _ ⟨ad8, rfl, rfl⟩
     refine G.e (Eff.app (α := Pt) (e := 32) (xs := es2) (ys := ([⟨u, v⟩] : List Pt)) Tryz.underlying33 ty32 rfl rfl rfl (by repeat (first | exact List.mem_cons_self | apply List.mem_cons_of_mem)) Sl.o (by simp only [List.length_cons, List.length_nil]; omega) (by decide) rfl (fun _ _ => (by repeat (first | exact At.head _ _ _ | apply At.tail)))) ?_
     rintro _ _ ⟨ad9, cp10, rfl, rfl⟩
     refine G.r (Runs.assign rfl) ?_
     refine G.nil ?_
     refine V.block_normal ?_
     refine V.then ?_
     refine W.sub (L' := [(7, _), (0, _), (4, _), (5, _), (6, _), (8, _), (9, _)]) (Sub.cons rfl (Sub.cons rfl (Sub.cons rfl (Sub.cons rfl (Sub.cons rfl (Sub.cons rfl (Sub.cons rfl Sub.nil))))))) ?_
     refine W.region ?_
     refine G.r (Runs.move rfl) ?_
     refine G.r (Runs.add rfl rfl (by unfold InR; omega)) ?_
     refine G.r (Runs.assign rfl) ?_
     refine G.nil ?_
     exact V.next ((v + 1), (i7), (ad9), (cp10), (es2 ++ ([⟨u, v⟩] : List Pt))) (show (0 ≤ (v + 1 : Int) ∧ (v + 1 : Int) ≤ x2) ∧ (0 ≤ (i7 : Int)) ∧ (∀ x ∈ (es2 ++ ([⟨u, v⟩] : List Pt) : List Pt), endsP x2 x.u x.v) ∧ (((es2 ++ ([⟨u, v⟩] : List Pt) : List Pt).length : Int) ≤ u * 7 + (v + 1 : Int)) from ⟨(by omega), (by omega), (by first | exact hE2 | (intro x hx; rcases List.mem_append.1 hx with h | h; (· exact hE2 x h); (· rw [List.mem_singleton] at h; rw [h]; unfold endsP; dsimp only; omega))), (by first | omega | (simp only [List.length_append, List.length_cons, List.length_nil]; omega))⟩) (show (x2 - (v + 1 : Int)).toNat < (x2 - v).toNat from (by omega)) (Sub.cons rfl (Sub.cons rfl (Sub.cons rfl (Sub.cons rfl (Sub.cons (lookV rfl (by first | rfl | simp)) (Sub.cons rfl (Sub.cons lookO Sub.nil))))))) (show Fit κ _ (vc 32 (.slice (ad9) (es2 ++ ([⟨u, v⟩] : List Pt)).length (cp10)) ((es2 ++ ([⟨u, v⟩] : List Pt))) :: blk b1 [I64 (0), .slice none 0 0] 54 :: blk b [lv, I64 ((i7))] 79 :: I) from Fit.sub)
    ·refine W.skip ?_
     refine V.block_normal ?_
     refine V.then ?_
     refine W.region ?_
     refine G.r (Runs.move rfl) ?_
     refine G.r (Runs.add rfl rfl (by unfold InR; omega)) ?_
     refine G.r (Runs.assign rfl) ?_
     refine G.nil ?_
     exact V.next ((v + 1), (i7), (a2), (c2), (es2)) (show (0 ≤ (v + 1 : Int) ∧ (v + 1 : Int) ≤ x2) ∧ (0 ≤ (i7 : Int)) ∧ (∀ x ∈ (es2 : List Pt), endsP x2 x.u x.v) ∧ (((es2 : List Pt).length : Int) ≤ u * 7 + (v + 1 : Int)) from ⟨(by omega), (by omega), (by first | exact hE2 | (intro x hx; rcases List.mem_append.1 hx with h | h; (· exact hE2 x h); (· rw [List.mem_singleton] at h; rw [h]; unfold endsP; dsimp only; omega))), (by first | omega | (simp only [List.length_append, List.length_cons, List.length_nil]; omega))⟩) (show (x2 - (v + 1 : Int)).toNat < (x2 - v).toNat from (by omega)) (Sub.cons rfl (Sub.cons rfl (Sub.cons rfl (Sub.cons rfl (Sub.cons (lookV rfl (by first | rfl | simp)) (Sub.cons rfl (Sub.cons lookO Sub.nil))))))) (show Fit κ _ (vc 32 (.slice (a2) (es2).length (c2)) ((es2)) :: blk b1 [I64 (0), .slice none 0 0] 54 :: blk b [lv, I64 ((i7))] 79 :: I) from Fit.sub)
   ·refine G.po ?_
    refine G.po ?_
    refine G.po ?_
    refine G.po ?_
    refine G.r (Runs.pickf rfl rfl) ?_
    refine G.nt ?_
    refine W.sub (L' := [(37, _), (0, _), (4, _), (5, _), (6, _), (7, _), (8, _), (9, _)]) (Sub.cons rfl (Sub.cons rfl (Sub.cons rfl (Sub.cons rfl (Sub.cons rfl (Sub.cons rfl (Sub.cons rfl (Sub.cons rfl Sub.nil)))))))) ?_
    refine W.no rfl ?_
    refine W.skip ?_
    refine V.block_normal ?_
    refine V.then ?_
    refine W.region ?_
    refine G.r (Runs.move rfl) ?_
    refine G.r (Runs.add rfl rfl (by unfold InR; omega)) ?_
    refine G.r (Runs.assign rfl) ?_
    refine G.nil ?_
    exact V.next ((v + 1), (iqb), (a2), (c2), (es2)) (show (0 ≤ (v + 1 : Int) ∧ (v + 1 : Int) ≤ x2) ∧ (0 ≤ (iqb : Int)) ∧ (∀ x ∈ (es2 : List Pt), endsP x2 x.u x.v) ∧ (((es2 : List Pt).length : Int) ≤ u * 7 + (v + 1 : Int)) from ⟨(by omega), (by omega), (by first | exact hE2 | (intro x hx; rcases List.mem_append.1 hx with h | h; (· exact hE2 x h); (· rw [List.mem_singleton] at h; rw [h]; unfold endsP; dsimp only; omega))), (by first | omega | (simp only [List.length_append, List.length_cons, List.length_nil]; omega))⟩) (show (x2 - (v + 1 : Int)).toNat < (x2 - v).toNat from (by omega)) (Sub.cons rfl (Sub.cons rfl (Sub.cons rfl (Sub.cons rfl (Sub.cons (lookV rfl (by first | rfl | simp)) (Sub.cons rfl (Sub.cons lookO Sub.nil))))))) (show Fit κ _ (vc 32 (.slice (a2) (es2).length (c2)) ((es2)) :: blk b1 [I64 (0), .slice none 0 0] 54 :: blk b [lv, I64 ((iqb))] 79 :: I) from Fit.sub)
  ·refine W.exit ?_
   refine V.then_exit ?_
   refine V.then_exit ?_
   refine V.block_hit ?_
   refine V.block_normal ?_
   refine V.then ?_
   refine W.region ?_
   refine G.r (Runs.move rfl) ?_
   refine G.r (Runs.add rfl rfl (by unfold InR; omega)) ?_
   refine G.r (Runs.assign rfl) ?_
   refine G.nil ?_
   exact V.next ((u + 1), (iqb), (a2), (c2), (es2)) (show (0 ≤ (u + 1 : Int) ∧ (u + 1 : Int) ≤ x2) ∧ (0 ≤ (iqb : Int)) ∧ (∀ x ∈ (es2 : List Pt), endsP x2 x.u x.v) ∧ (((es2 : List Pt).length : Int) ≤ (u + 1 : Int) * 7) from ⟨(by omega), (by omega), hE2, (by omega)⟩) (show (x2 - (u + 1 : Int)).toNat < (x2 - u).toNat from (by omega)) (Sub.cons rfl (Sub.cons rfl (Sub.cons rfl (Sub.cons rfl (Sub.cons (lookV rfl (by first | rfl | simp)) (Sub.cons lookO Sub.nil)))))) (show Fit κ _ (vc 32 (.slice (a2) (es2).length (c2)) ((es2)) :: blk b1 [I64 (0), .slice none 0 0] 54 :: blk b [lv, I64 ((iqb))] 79 :: I) from Fit.sub)
 ·refine W.exit ?_
  refine V.then_exit ?_
  refine V.then_exit ?_
  refine V.block_hit ?_
  refine V.then ?_
  refine W.sr ?_
  refine G.r (Runs.move rfl) ?_
  refine G.r (Runs.move rfl) ?_
  refine G.e (Eff.call call89 rfl rfl (Of23_ok (nd := x2) Sl.o (by omega) hE (by omega))) ?_
  rintro _ _ ⟨_, _, ⟨ad11, cp12, og13, rfl, hog13, rfl⟩, rfl, rfl⟩
  refine G.r (Runs.move rfl) ?_
  refine G.r (Runs.extract rfl rfl) ?_
  refine G.r (Runs.extract rfl rfl) ?_
  refine G.e (Eff.alloc ty54 rfl) ?_
  rintro _ _ ⟨b14, rfl, rfl⟩
  refine G.e (Eff.st (cs := [_, _]) (vs := [_, _]) (cs' := [_, _]) ty54) ?_
  rintro _ _ ⟨rfl, rfl⟩
  refine G.r (Runs.assign rfl) ?_
  refine G.nt ?_
  refine W.sub (L' := [(10, _), (4, _)]) (Sub.cons rfl (Sub.cons rfl Sub.nil)) ?_
  refine W.sr ?_
  refine G.r (Runs.lds (vs := [_, _]) ty54) ?_
  refine G.e (Eff.st (cs := [_, _]) (vs := [_, _]) (cs' := [_, _]) ty54) ?_
  rintro _ _ ⟨rfl, rfl⟩
  refine G.nt ?_
  refine W.ret ?_
  exact V.retc rfl ty54 rfl (by repeat (first | exact List.mem_cons_self | apply List.mem_cons_of_mem)) rfl (vc 32 (.slice ad11 og13.length cp12) (og13) :: blk b [lv, I64 (iqa)] 79 :: I) Fit.s ⟨(x2, ad11, cp12, og13, iqa), ⟨⟨rfl, by show x2 ≤ most; omega, hog13.1, by have := hog13.2; show og13.length ≤ 60; omega⟩, by show 0 ≤ iqa; omega⟩, rfl⟩

theorem MkDigraph_at {κ : Ctx} {I : List Item} {F : Item → List Item} {b : Nat} {lv : Value} {ls : List Int} {i : Int} {most : Int} (hat : AtF I (deck b lv i) F) (hl : ∀ q, Sl κ (F (deck b lv q)) lv ls) (h0 : 0 ≤ i)  (hm : 0 ≤ most ∧ most ≤ 6) :
    CallS Tryz.prog κ 37 [.pointer (some ⟨b, 0, none⟩), I64 (most)] I fun r J => ∃ y : Int × (Option Addr) × Nat × (List Pt) × Int, ((r = .agg #[I64 y.1, .slice y.2.1 y.2.2.2.1.length y.2.2.1] ∧ (y.1 ≤ most ∧ DgOk y.1 y.2.2.2.1 ∧ y.2.2.2.1.length ≤ 60)) ∧ 0 ≤ y.2.2.2.2) ∧ J = [vc 32 (.slice y.2.1 y.2.2.2.1.length y.2.2.1) y.2.2.2.1] ++ F (deck b lv y.2.2.2.2) :=
  CallS.at (Post := fun r (y : Int × (Option Addr) × Nat × (List Pt) × Int) => (r = .agg #[I64 y.1, .slice y.2.1 y.2.2.2.1.length y.2.2.1] ∧ (y.1 ≤ most ∧ DgOk y.1 y.2.2.2.1 ∧ y.2.2.2.1.length ≤ 60)) ∧ 0 ≤ y.2.2.2.2) (Z := fun y : Int × (Option Addr) × Nat × (List Pt) × Int => [vc 32 (.slice y.2.1 y.2.2.2.1.length y.2.2.1) y.2.2.2.1]) (X := fun y : Int × (Option Addr) × Nat × (List Pt) × Int => deck b lv y.2.2.2.2) hat fun J _ hF => MkDigraph_base (fun q => (hl q).fit (hF _)) h0  hm

end Go.Sl
namespace Go.Sl
open Go.Proofs
set_option linter.unusedVariables false
set_option linter.unusedSimpArgs false
set_option maxRecDepth 4000
theorem aw_best : bestG 3 (sortB Pt.lt ([⟨1, 2⟩, ⟨0, 2⟩, ⟨1, 2⟩] : List Pt)) = ⟨[0, 1], [2], 2, ⟨2, 1⟩⟩ := by decide +kernel
theorem aw_chk : checkD 3 (sortB Pt.lt ([⟨1, 2⟩, ⟨0, 2⟩, ⟨1, 2⟩] : List Pt)) = 0 := by decide +kernel
theorem aw_len : ((sortB Pt.lt ([⟨1, 2⟩, ⟨0, 2⟩, ⟨1, 2⟩] : List Pt)).length : Int) = 2 := by decide +kernel
theorem bestG_eq {nd : Int} {ars : List Pt} (hd : DgOk nd ars) : bestG nd ars = bestF (outB nd ars) := by unfold bestG; rw [if_neg (by rw [checkD_ok.2 hd]; decide)]
theorem outB_ln {nd : Int} {ars : List Pt} (hd : DgOk nd ars) : ((outB nd ars).length : Int) = nd := by rw [outB_len]; have := hd.rng; omega
theorem arcN_out {nd : Int} {ars : List Pt} (hd : DgOk nd ars) {v w : Int} (hv : 0 ≤ v) (hw : 0 ≤ w) : arcN (outB nd ars) v w = if (⟨v, w⟩ : Pt) ∈ ars then 1 else 0 := by
  have h := outB_bit hd v w.toNat hv
  rw [show ((w.toNat : Nat) : Int) = w by omega] at h
  unfold arcN
  by_cases hm : (⟨v, w⟩ : Pt) ∈ ars
  · rw [if_pos (h.2 hm), if_pos hm]
  · rw [if_neg (fun hh => hm (h.1 hh)), if_neg hm]
set_option maxHeartbeats 1000000 in
theorem Awake23_ok {κ : Ctx} {I : List Item} (hT : TabRd κ I 0 tzCells) :
    CallS Tryz.prog κ 36 [] I (fun r J => r = .bool true ∧ I = J) := by
 refine CallS.enter (L := []) Tryz.func36 rfl rfl rfl rfl ?_
 refine W.sr ?_
 refine G.r (Runs.assign rfl) ?_
 refine G.nt ?_
 refine W.sr ?_
 refine G.r (Runs.buildArr (cells := [_, _]) ty32 Tryz.underlying32 ty3 rfl rfl) ?_
 refine G.r (Runs.buildArr (cells := [_, _]) ty32 Tryz.underlying32 ty3 rfl rfl) ?_
 refine G.r (Runs.buildArr (cells := [_, _]) ty32 Tryz.underlying32 ty3 rfl rfl) ?_
 refine G.e (Eff.bs (α := Pt) (cs := [I64 (1), I64 (2), I64 (0), I64 (2), I64 (1), I64 (2)]) (xs := [⟨1, 2⟩, ⟨0, 2⟩, ⟨1, 2⟩]) Tryz.underlying33 ty32 rfl rfl (by decide) (by decide) rfl (by kernel_rfl) rfl rfl) ?_
 rintro _ _ ⟨ad1, rfl, rfl⟩
 refine G.e (Eff.call call29 rfl rfl (OfD_ok (nd := 3) (l := ([⟨1, 2⟩, ⟨0, 2⟩, ⟨1, 2⟩] : List Pt)) Sl.o (by omega) (by decide) (by simp))) ?_
 rintro _ _ ⟨_, _, ⟨ad2, cp3, rfl, rfl⟩, rfl, rfl⟩
 refine G.r (Runs.move rfl) ?_
 refine G.r (Runs.extract rfl rfl) ?_
 refine G.r (Runs.extract rfl rfl) ?_
 refine G.e (Eff.alloc ty54 rfl) ?_
 rintro _ _ ⟨b4, rfl, rfl⟩
 refine G.e (Eff.st (cs := [_, _]) (vs := [_, _]) (cs' := [_, _]) ty54) ?_
 rintro _ _ ⟨rfl, rfl⟩
 refine G.r (Runs.assign rfl) ?_
 refine G.nt ?_
 refine W.sr ?_
 refine G.r (Runs.lds (vs := [_, _]) ty54) ?_
 refine G.e (Eff.call call30 rfl rfl (BestD_ok (nd := 3) Sl.o (fun _ => by omega) (TabRd.fit hT Fit.m))) ?_
 rintro _ _ ⟨_, _, ⟨ad5, cp6, ad7, cp8, rfl, rfl⟩, rfl, rfl⟩
 refine G.r (Runs.move rfl) ?_
 refine G.r (Runs.extract rfl rfl) ?_
 refine G.r (Runs.extract rfl rfl) ?_
 refine G.e (Eff.alloc ty58 rfl) ?_
 rintro _ _ ⟨b9, rfl, rfl⟩
 refine G.e (Eff.st (cs := [_, _, _, _, _]) (vs := [_, _, _, _, _]) (cs' := [_, _, _, _, _]) ty58) ?_
 rintro _ _ ⟨rfl, rfl⟩
 refine G.r (Runs.assign rfl) ?_
 refine G.nt ?_
 refine W.sub (L' := [(4, _), (3, _), (2, _), (1, _)]) (Sub.cons rfl (Sub.cons rfl (Sub.cons rfl (Sub.cons rfl Sub.nil)))) ?_
 refine W.sr ?_
 refine G.r (Runs.move rfl) ?_
 refine G.r (Runs.eql rfl rfl) ?_
 refine G.r (Runs.move rfl) ?_
 refine G.split (d := 20) rfl (fun g20 => ?_) (fun g20 => ?_)
 ·refine G.ro (Runs.move rfl) ?_
  refine G.ro (Runs.eql rfl rfl) ?_
  refine G.r (Runs.pickt rfl rfl) ?_
  refine G.r (Runs.move rfl) ?_
  refine G.split (d := 24) rfl (fun g24 => ?_) (fun g24 => ?_)
  ·refine G.ro (Runs.fieldAddr fld54_1 rfl) ?_
   refine G.ro (Runs.ld ty33) ?_
   refine G.ro (Runs.lens Tryz.underlying33 rfl) ?_
   refine G.ro (Runs.eql rfl rfl) ?_
   refine G.r (Runs.pickt rfl rfl) ?_
   refine G.r (Runs.move rfl) ?_
   refine G.split (d := 30) rfl (fun g30 => ?_) (fun g30 => ?_)
   ·refine G.ro (Runs.fieldAddr fld58_0 rfl) ?_
    refine G.ro (Runs.ld ty22) ?_
    refine G.eff (Wanted.on rfl rfl rfl) (Eff.bs (α := Int) (cs := [_, _]) (xs := [0, 1]) Tryz.underlying22 ty3 rfl rfl (by decide) (by decide) rfl rfl rfl rfl) ?_
    rintro _ _ ⟨ad10, rfl, rfl⟩
    refine G.eff (Wanted.on rfl rfl rfl) (Eff.call call14 rfl rfl (Same_ok Sl.o Sl.o)) ?_
    rintro _ _ ⟨_, _, ⟨rfl, rfl⟩, rfl, rfl⟩
    refine G.r (Runs.pickt rfl rfl) ?_
    refine G.r (Runs.move rfl) ?_
    refine G.split (d := 36) rfl (fun g36 => ?_) (fun g36 => ?_)
    ·refine G.ro (Runs.fieldAddr fld58_1 rfl) ?_
     refine G.ro (Runs.ld ty22) ?_
     refine G.eff (Wanted.on rfl rfl rfl) (Eff.bs (α := Int) (cs := [_]) (xs := [2]) Tryz.underlying22 ty3 rfl rfl (by decide) (by decide) rfl rfl rfl rfl) ?_
     rintro _ _ ⟨ad11, rfl, rfl⟩
     refine G.eff (Wanted.on rfl rfl rfl) (Eff.call call14 rfl rfl (Same_ok Sl.o Sl.o)) ?_
     rintro _ _ ⟨_, _, ⟨rfl, rfl⟩, rfl, rfl⟩
     refine G.r (Runs.pickt rfl rfl) ?_
     refine G.r (Runs.move rfl) ?_
     refine G.split (d := 42) rfl (fun g42 => ?_) (fun g42 => ?_)
     ·refine G.ro (Runs.fieldAddr fld58_2 rfl) ?_
      refine G.ro (Runs.ld ty3) ?_
      refine G.ro (Runs.eql rfl rfl) ?_
      refine G.r (Runs.pickt rfl rfl) ?_
      refine G.r (Runs.move rfl) ?_
      refine G.split (d := 47) rfl (fun g47 => ?_) (fun g47 => ?_)
      ·refine G.ro (Runs.fieldAddr fld58_3 rfl) ?_
       refine G.ro (Runs.lds (vs := [_, _]) ty45) ?_
       refine G.ro (Runs.build (cells := [_, _]) ty45 Tryz.underlying45 pl45 rfl rfl) ?_
       refine G.ro (Runs.eqlT (α := Fr) (a := (bestG 3 (sortB Pt.lt ([⟨1, 2⟩, ⟨0, 2⟩, ⟨1, 2⟩] : List Pt))).sq) (b := (⟨2, 1⟩ : Fr)) eqt45 rfl rfl) ?_
       refine G.r (Runs.pickt rfl rfl) ?_
       refine G.r (Runs.assign rfl) ?_
       refine G.nt ?_
       refine W.sub (L' := [(0, _)]) (Sub.cons rfl Sub.nil) ?_
       refine W.ret ?_
       exact V.ret1 rfl rfl (I) Fit.m ⟨by rw [aw_best]; rfl, rfl⟩
      ·exact absurd (by rw [aw_best]) g47
     ·exact absurd (by rw [aw_best]) g42
    ·exact absurd (by rw [aw_best]) g36
   ·exact absurd aw_len g30
  ·exact absurd aw_chk g24
 ·exact absurd rfl g20

end Go.Sl
