/- A part of the proofs of statements of this seat: contracts of functions, and the plain laws that they lean on. No conditions. -/
import Derived.Test.YtbimaodbcjjbfaaWinG6
import Derived.Test.YtbimaodbcjjbfaaWinC5
import Derived.Test.YtbimaodbcjjbfaaRunsT
namespace Go.Sl
open Go.Proofs
set_option linter.unusedVariables false
set_option linter.unusedSimpArgs false
set_option maxRecDepth 4000
set_option maxHeartbeats 4000000 in
theorem WindowSlides_walk {κ : Ctx} {I : List Item} {k0 w0 m0 : Int} {ga : Option Addr} {gc : Nat} {gx : List Ev} (hgx : Sl κ I (.slice ga gx.length gc) gx) {la : Option Addr} {ln lc : Nat} {ls : List Int} (hl : Sl κ I (.slice la ln lc) ls) (h : Int) :
    CallS Try.prog κ 15 [.slice ga gx.length gc, .agg #[I64 (k0), I64 (w0), I64 (m0)], .slice la ln lc, I64 (h)] I (fun r J => r = .bool true ∧ I = J) := by
 refine CallS.pull hgx.le fun hmax => ?_
 refine CallS.enter (L := [(0, .slice ga gx.length gc), (1, .agg #[I64 (k0), I64 (w0), I64 (m0)]), (2, .slice la ln lc), (3, I64 (h))]) Try.func15 rfl rfl rfl rfl ?_
 refine W.sr ?_
 refine G.e (Eff.box (cs := [_, _, _]) rfl rfl rfl) ?_
 rintro _ _ ⟨b1, rfl, rfl⟩
 refine G.r (Runs.assign rfl) ?_
 refine G.nt ?_
 refine W.seq ?_
 refine W.sr ?_
 refine G.r (Runs.move rfl) ?_
 refine G.r (Runs.lens Try.underlying81 rfl) ?_
 refine G.r (Runs.gtr rfl rfl) ?_
 refine G.nt ?_
 refine W.ite rfl (fun c25 => ?_) (fun c25 => ?_)
 ·refine W.sr ?_
  refine G.e (Eff.call call49 rfl rfl Awake7_ok) ?_
  rintro _ _ ⟨_, _, ⟨rfl, rfl⟩, rfl, rfl⟩
  refine G.r (Runs.assign rfl) ?_
  refine G.nt ?_
  refine W.ret ?_
  refine V.then_ret ?_
  exact V.ret1 rfl rfl (I) Fit.m ⟨rfl, rfl⟩
 ·refine W.skip ?_
  refine V.then ?_
  refine W.sr ?_
  refine G.r (Runs.move rfl) ?_
  refine G.e (Eff.call call22 rfl rfl New_ok) ?_
  rintro _ _ ⟨_, _, ⟨dk2, rfl, rfl⟩, rfl, rfl⟩
  show G Try.prog κ _ _ _ _ ([(28, .pointer (some ⟨dk2, 0, none⟩)), (27, .slice la ln lc), (25, .bool (decide (60 < ((gx.length : Nat) : Int)))), (24, I64 (((gx.length : Nat) : Int))), (23, .slice ga gx.length gc), (8, .bool false), (5, .pointer (some ⟨b1, 0, none⟩)), (0, .slice ga gx.length gc), (1, .agg #[I64 (k0), I64 (w0), I64 (m0)]), (2, .slice la ln lc), (3, I64 (h))] : Env) (blk dk2 [.slice la ln lc, I64 (0)] 129 :: blk b1 [I64 (k0), I64 (w0), I64 (m0)] 73 :: I)
  have hi0 : (0 : Int) ≤ 0 := Int.le_refl _
  refine G.r (Runs.assign rfl) ?_
  refine G.nt ?_
  refine W.sr ?_
  refine G.r (Runs.move rfl) ?_
  refine G.e (Eff.call call25 rfl rfl (Next_ok (by repeat (first | exact AtF.head _ _ | apply AtF.tail)) (Sl.f hl) (by omega) (by omega))) ?_
  rintro _ _ ⟨_, _, ⟨x3, i4, rfl, hx3, hi4, rfl⟩, rfl, rfl⟩
  show G Try.prog κ _ _ _ _ ([(30, I64 (x3)), (29, .pointer (some ⟨dk2, 0, none⟩)), (9, .pointer (some ⟨dk2, 0, none⟩)), (28, .pointer (some ⟨dk2, 0, none⟩)), (27, .slice la ln lc), (25, .bool (decide (60 < ((gx.length : Nat) : Int)))), (24, I64 (((gx.length : Nat) : Int))), (23, .slice ga gx.length gc), (8, .bool false), (5, .pointer (some ⟨b1, 0, none⟩)), (0, .slice ga gx.length gc), (1, .agg #[I64 (k0), I64 (w0), I64 (m0)]), (2, .slice la ln lc), (3, I64 (h))] : Env) (blk dk2 [.slice la ln lc, I64 (i4)] 129 :: blk b1 [I64 (k0), I64 (w0), I64 (m0)] 73 :: I)
  refine G.r (Runs.add rfl rfl (by unfold InR; omega)) ?_
  refine G.r (Runs.assign rfl) ?_
  refine G.nt ?_
  refine W.sub (L' := [(10, _), (9, _), (5, _), (0, _), (3, _)]) (Sub.cons rfl (Sub.cons rfl (Sub.cons rfl (Sub.cons rfl (Sub.cons rfl Sub.nil))))) ?_
  refine W.sr ?_
  refine G.r (Runs.move rfl) ?_
  refine G.r (Runs.move rfl) ?_
  refine G.e (Eff.call call84 rfl rfl (MkEvents_at (by repeat (first | exact AtF.head _ _ | apply AtF.tail)) (fun _ => Sl.fit hl Fit.m) (by omega)  (by omega) (by omega))) ?_
  rintro _ _ ⟨_, _, ⟨⟨ad5, cp6, es7, i8⟩, ⟨⟨rfl, hses7⟩, hi8⟩, rfl⟩, rfl, rfl⟩
  show G Try.prog κ _ _ _ _ ([(34, .slice ad5 es7.length cp6), (33, I64 (2 + x3)), (32, .pointer (some ⟨dk2, 0, none⟩)), (10, I64 (2 + x3)), (9, .pointer (some ⟨dk2, 0, none⟩)), (5, .pointer (some ⟨b1, 0, none⟩)), (0, .slice ga gx.length gc), (3, I64 (h))] : Env) (vc 122 (.slice ad5 es7.length cp6) (es7) :: blk dk2 [.slice la ln lc, I64 (i8)] 129 :: blk b1 [I64 (k0), I64 (w0), I64 (m0)] 73 :: I)
  have hi8 : 0 ≤ i8 := hi8
  dsimp only at hses7
  refine G.r (Runs.move rfl) ?_
  refine G.e (Eff.call call51 rfl rfl (MkWindow_at (by repeat (first | exact AtF.head _ _ | apply AtF.tail)) (fun _ => Sl.fit hl Fit.m) (by omega)  )) ?_
  rintro _ _ ⟨_, _, ⟨⟨kd9, wd10, mo11, i12⟩, ⟨rfl, hi12⟩, rfl⟩, rfl, rfl⟩
  show G Try.prog κ _ _ _ _ ([(36, .agg #[I64 (kd9), I64 (wd10), I64 (mo11)]), (35, .pointer (some ⟨dk2, 0, none⟩)), (34, .slice ad5 es7.length cp6), (33, I64 (2 + x3)), (32, .pointer (some ⟨dk2, 0, none⟩)), (10, I64 (2 + x3)), (9, .pointer (some ⟨dk2, 0, none⟩)), (5, .pointer (some ⟨b1, 0, none⟩)), (0, .slice ga gx.length gc), (3, I64 (h))] : Env) (vc 122 (.slice ad5 es7.length cp6) (es7) :: blk dk2 [.slice la ln lc, I64 (i12)] 129 :: blk b1 [I64 (k0), I64 (w0), I64 (m0)] 73 :: I)
  have hi12 : 0 ≤ i12 := hi12
  refine G.e (Eff.alloc ty73 rfl) ?_
  rintro _ _ ⟨b13, rfl, rfl⟩
  refine G.r (Runs.assign rfl) ?_
  refine G.e (Eff.st (cs := [_, _, _]) (vs := [_, _, _]) (cs' := [_, _, _]) ty73) ?_
  rintro _ _ ⟨rfl, rfl⟩
  refine G.nt ?_
  refine W.seq ?_
  refine W.sr ?_
  refine G.r (Runs.move rfl) ?_
  refine G.r (Runs.move rfl) ?_
  refine G.r (Runs.move rfl) ?_
  refine G.e (Eff.clone (α := Ev) (ys := es7) Try.underlying81 ty122 rfl rfl rfl Sl.o (by first | omega | (simp only [List.length_append, List.length_cons, List.length_nil]; omega)) (by decide) rfl) ?_
  rintro _ _ ⟨ad14, cp15, rfl, rfl⟩
  refine G.r (Runs.move rfl) ?_
  refine G.e (Eff.app (α := Ev) (e := 122) (xs := es7) (ys := gx) Try.underlying81 ty122 rfl rfl rfl (by repeat (first | exact List.mem_cons_self | apply List.mem_cons_of_mem)) (Sl.f hgx) (by first | omega | (simp only [List.length_append, List.length_cons, List.length_nil]; omega)) (by decide) rfl (fun _ _ => (by repeat (first | exact At.head _ _ _ | apply At.tail)))) ?_
  rintro _ _ ⟨ad16, cp17, rfl, rfl⟩
  refine G.e (Eff.bs (α := (RowG Ev)) (cs := [_, _, _]) (xs := [⟨ad5, cp6, es7⟩, ⟨ga, gc, gx⟩, ⟨ad16, cp17, es7 ++ gx⟩]) Try.underlying116 ty81 rfl rfl (by decide) (by decide) rfl rfl rfl rfl) ?_
  rintro _ _ ⟨ad18, rfl, rfl⟩
  refine G.r (Runs.lens Try.underlying116 rfl) ?_
  have hh4 : HeldAll κ (vc 122 (.slice ad16 (es7 ++ gx).length cp17) (es7 ++ gx) :: vc 122 (.slice ad5 es7.length cp6) (es7) :: I) ([⟨ad5, cp6, es7⟩, ⟨ga, gc, gx⟩, ⟨ad16, cp17, es7 ++ gx⟩] : List (RowG Ev)) := (HeldAll.cons (show RowG.Held κ _ (⟨ad5, cp6, es7⟩ : RowG Ev) from (Sl.vec (by repeat (first | exact List.mem_cons_self | apply List.mem_cons_of_mem)) : Sl κ _ (.slice ad5 es7.length cp6) (es7))) (HeldAll.cons (show RowG.Held κ _ (⟨ga, gc, gx⟩ : RowG Ev) from Sl.fit hgx Fit.m) (HeldAll.cons (show RowG.Held κ _ (⟨ad16, cp17, es7 ++ gx⟩ : RowG Ev) from (Sl.vec (by repeat (first | exact List.mem_cons_self | apply List.mem_cons_of_mem)) : Sl κ _ (.slice ad16 (es7 ++ gx).length cp17) (es7 ++ gx))) HeldAll.nil)))
  have hl4 : ([⟨ad5, cp6, es7⟩, ⟨ga, gc, gx⟩, ⟨ad16, cp17, es7 ++ gx⟩] : List (RowG Ev)).length = 3 := rfl
  refine G.r (Runs.move rfl) ?_
  refine G.nt ?_
  refine W.sub (L' := [(45, _), (44, _), (43, _), (12, _), (10, _), (9, _), (5, _), (3, _)]) (Sub.cons rfl (Sub.cons rfl (Sub.cons rfl (Sub.cons rfl (Sub.cons rfl (Sub.cons rfl (Sub.cons rfl (Sub.cons rfl Sub.nil)))))))) ?_
  refine W.block ?_
  refine W.loop (σ := Nat × Int) (fun s => ([(3, I64 (h)), (5, .pointer (some ⟨b1, 0, none⟩)), (9, .pointer (some ⟨dk2, 0, none⟩)), (10, I64 (2 + x3)), (12, .pointer (some ⟨b13, 0, none⟩)), (43, .slice ad18 3 3), (44, I64 (((3 : Nat) : Int))), (45, I64 (((s.1 : Nat) : Int)))] : Env)) (fun s => vc 81 (.slice ad18 3 3) (([⟨ad5, cp6, es7⟩, ⟨ga, gc, gx⟩, ⟨ad16, cp17, es7 ++ gx⟩] : List (RowG Ev))) :: vc 122 (.slice ad16 (es7 ++ gx).length cp17) (es7 ++ gx) :: blk b13 [I64 (kd9), I64 (wd10), I64 (mo11)] 73 :: vc 122 (.slice ad5 es7.length cp6) (es7) :: blk dk2 [.slice la ln lc, I64 (s.2)] 129 :: blk b1 [I64 (k0), I64 (w0), I64 (m0)] 73 :: I) (fun s => (s.1 ≤ ([⟨ad5, cp6, es7⟩, ⟨ga, gc, gx⟩, ⟨ad16, cp17, es7 ++ gx⟩] : List (RowG Ev)).length) ∧ (0 ≤ s.2)) (fun s => ([⟨ad5, cp6, es7⟩, ⟨ga, gc, gx⟩, ⟨ad16, cp17, es7 ++ gx⟩] : List (RowG Ev)).length - s.1) (0, i12) (show ((0 : Nat) ≤ ([⟨ad5, cp6, es7⟩, ⟨ga, gc, gx⟩, ⟨ad16, cp17, es7 ++ gx⟩] : List (RowG Ev)).length) ∧ (0 ≤ (i12 : Int)) from ⟨(by omega), (by omega)⟩) (Sub.cons rfl (Sub.cons rfl (Sub.cons rfl (Sub.cons rfl (Sub.cons rfl (Sub.cons rfl (Sub.cons rfl (Sub.cons lookO Sub.nil)))))))) (show Fit κ _ (vc 81 (.slice ad18 3 3) (([⟨ad5, cp6, es7⟩, ⟨ga, gc, gx⟩, ⟨ad16, cp17, es7 ++ gx⟩] : List (RowG Ev))) :: vc 122 (.slice ad16 (es7 ++ gx).length cp17) (es7 ++ gx) :: blk b13 [I64 (kd9), I64 (wd10), I64 (mo11)] 73 :: vc 122 (.slice ad5 es7.length cp6) (es7) :: blk dk2 [.slice la ln lc, I64 ((i12))] 129 :: blk b1 [I64 (k0), I64 (w0), I64 (m0)] 73 :: I) from Fit.sub) ?_
  rintro ⟨ka, iqa⟩ hp
  obtain ⟨hka, hiqa⟩ : (ka ≤ ([⟨ad5, cp6, es7⟩, ⟨ga, gc, gx⟩, ⟨ad16, cp17, es7 ++ gx⟩] : List (RowG Ev)).length) ∧ (0 ≤ iqa) := hp
  show W Try.prog κ 98 _ _ ([(3, I64 (h)), (5, .pointer (some ⟨b1, 0, none⟩)), (9, .pointer (some ⟨dk2, 0, none⟩)), (10, I64 (2 + x3)), (12, .pointer (some ⟨b13, 0, none⟩)), (43, .slice ad18 3 3), (44, I64 (((3 : Nat) : Int))), (45, I64 (((ka : Nat) : Int)))] : Env) (vc 81 (.slice ad18 3 3) (([⟨ad5, cp6, es7⟩, ⟨ga, gc, gx⟩, ⟨ad16, cp17, es7 ++ gx⟩] : List (RowG Ev))) :: vc 122 (.slice ad16 (es7 ++ gx).length cp17) (es7 ++ gx) :: blk b13 [I64 (kd9), I64 (wd10), I64 (mo11)] 73 :: vc 122 (.slice ad5 es7.length cp6) (es7) :: blk dk2 [.slice la ln lc, I64 (iqa)] 129 :: blk b1 [I64 (k0), I64 (w0), I64 (m0)] 73 :: I)
  refine W.sr ?_
  refine G.r (Runs.lss rfl rfl) ?_
  refine G.nt ?_
  refine W.seq ?_
  refine W.ite rfl (fun c46 => ?_) (fun c46 => ?_)
  ·refine W.skip ?_
   refine V.then ?_
   refine W.seq ?_
   refine W.block ?_
   refine W.sr ?_
   refine G.r (Runs.idx (α := (RowG Ev)) (xs := ([⟨ad5, cp6, es7⟩, ⟨ga, gc, gx⟩, ⟨ad16, cp17, es7 ++ gx⟩] : List (RowG Ev))) Try.underlying116 ty81 rfl rfl Sl.o (by omega) (by omega)) ?_
   refine G.r (Runs.getf0 (α := (RowG Ev)) (xs := ([⟨ad5, cp6, es7⟩, ⟨ga, gc, gx⟩, ⟨ad16, cp17, es7 ++ gx⟩] : List (RowG Ev))) (u := .slice (at_ ([⟨ad5, cp6, es7⟩, ⟨ga, gc, gx⟩, ⟨ad16, cp17, es7 ++ gx⟩] : List (RowG Ev)) ((ka : Nat) : Int)).a (at_ ([⟨ad5, cp6, es7⟩, ⟨ga, gc, gx⟩, ⟨ad16, cp17, es7 ++ gx⟩] : List (RowG Ev)) ((ka : Nat) : Int)).xs.length (at_ ([⟨ad5, cp6, es7⟩, ⟨ga, gc, gx⟩, ⟨ad16, cp17, es7 ++ gx⟩] : List (RowG Ev)) ((ka : Nat) : Int)).c) ty81 rfl Sl.o (by omega) (by omega) rfl) ?_
   refine G.r (Runs.assign rfl) ?_
   refine G.nt ?_
   refine W.seq ?_
   refine W.drawn mixed ?_
   refine A.hold (vc 81 (.slice ad18 3 3) (([⟨ad5, cp6, es7⟩, ⟨ga, gc, gx⟩, ⟨ad16, cp17, es7 ++ gx⟩] : List (RowG Ev))) :: vc 122 (.slice ad16 (es7 ++ gx).length cp17) (es7 ++ gx) :: blk b13 [I64 (kd9), I64 (wd10), I64 (mo11)] 73 :: vc 122 (.slice ad5 es7.length cp6) (es7) :: blk b1 [I64 (k0), I64 (w0), I64 (m0)] 73 :: I) 8 ?_
   refine D.r 0 rfl (Runs.lds (vs := [_, _, _]) ty73) ?_ (hJ := Fit.sub)
   refine D.r 1 rfl (Runs.move rfl) ?_ (hJ := Fit.sub)
   refine D.r 2 rfl (Runs.lds (vs := [_, _, _]) ty73) ?_ (hJ := Fit.sub)
   refine D.r 4 rfl (Runs.lds (vs := [_, _, _]) ty73) ?_ (hJ := Fit.sub)
   refine D.r 7 rfl (Runs.move rfl) ?_ (hJ := Fit.sub)
   refine D.step (rs := [3]) (by kernel_rfl) rfl rfl (all1 ?_)
   refine Step.eff rfl (Wanted.plain rfl) (Eff.call call52 rfl rfl (Odd7_at (by repeat (first | exact AtF.head _ _ | apply AtF.tail)) (fun _ => Sl.fit hl Fit.m) (by omega)  )) ?_
   rintro _ _ ⟨_, _, ⟨⟨kd19, wd20, mo21, i22⟩, ⟨rfl, hi22⟩, rfl⟩, rfl, rfl⟩
   refine ⟨Fit.sub, ?_⟩
   show D Try.prog κ _ _ _ _ _ _ _ ([(52, .agg #[I64 (kd19), I64 (wd20), I64 (mo21)]), (56, I64 (0)), (53, .agg #[I64 (k0), I64 (w0), I64 (m0)]), (51, .agg #[I64 (kd9), I64 (wd10), I64 (mo11)]), (50, .pointer (some ⟨dk2, 0, none⟩)), (49, .agg #[I64 (kd9), I64 (wd10), I64 (mo11)]), (14, .slice (at_ ([⟨ad5, cp6, es7⟩, ⟨ga, gc, gx⟩, ⟨ad16, cp17, es7 ++ gx⟩] : List (RowG Ev)) ((ka : Nat) : Int)).a (at_ ([⟨ad5, cp6, es7⟩, ⟨ga, gc, gx⟩, ⟨ad16, cp17, es7 ++ gx⟩] : List (RowG Ev)) ((ka : Nat) : Int)).xs.length (at_ ([⟨ad5, cp6, es7⟩, ⟨ga, gc, gx⟩, ⟨ad16, cp17, es7 ++ gx⟩] : List (RowG Ev)) ((ka : Nat) : Int)).c), (48, .slice (at_ ([⟨ad5, cp6, es7⟩, ⟨ga, gc, gx⟩, ⟨ad16, cp17, es7 ++ gx⟩] : List (RowG Ev)) ((ka : Nat) : Int)).a (at_ ([⟨ad5, cp6, es7⟩, ⟨ga, gc, gx⟩, ⟨ad16, cp17, es7 ++ gx⟩] : List (RowG Ev)) ((ka : Nat) : Int)).xs.length (at_ ([⟨ad5, cp6, es7⟩, ⟨ga, gc, gx⟩, ⟨ad16, cp17, es7 ++ gx⟩] : List (RowG Ev)) ((ka : Nat) : Int)).c), (47, elemPtr (.slice ad18 3 3) ((((ka : Nat) : Int)).toNat * Enc.sz (RowG Ev))), (46, .bool (decide (((ka : Nat) : Int) < ((3 : Nat) : Int)))), (3, I64 (h)), (5, .pointer (some ⟨b1, 0, none⟩)), (9, .pointer (some ⟨dk2, 0, none⟩)), (10, I64 (2 + x3)), (12, .pointer (some ⟨b13, 0, none⟩)), (43, .slice ad18 3 3), (44, I64 (((3 : Nat) : Int))), (45, I64 (((ka : Nat) : Int)))] : Env) (vc 81 (.slice ad18 3 3) (([⟨ad5, cp6, es7⟩, ⟨ga, gc, gx⟩, ⟨ad16, cp17, es7 ++ gx⟩] : List (RowG Ev))) :: vc 122 (.slice ad16 (es7 ++ gx).length cp17) (es7 ++ gx) :: blk b13 [I64 (kd9), I64 (wd10), I64 (mo11)] 73 :: vc 122 (.slice ad5 es7.length cp6) (es7) :: blk dk2 [.slice la ln lc, I64 (i22)] 129 :: blk b1 [I64 (k0), I64 (w0), I64 (m0)] 73 :: I)
   have hi22 : 0 ≤ i22 := hi22
   refine D.step (rs := [5]) (by kernel_rfl) rfl rfl (all1 ?_)
   refine Step.eff rfl (Wanted.plain rfl) (Eff.bs (α := Wn) (cs := [I64 (kd9), I64 (wd10), I64 (mo11), I64 (kd19), I64 (wd20), I64 (mo21), I64 (k0), I64 (w0), I64 (m0)]) (xs := [⟨kd9, wd10, mo11⟩, ⟨kd19, wd20, mo21⟩, ⟨k0, w0, m0⟩]) Try.underlying78 ty73 rfl rfl (by decide) (by decide) rfl (by kernel_rfl) rfl rfl) ?_
   rintro _ _ ⟨ad23, rfl, rfl⟩
   refine ⟨Fit.sub, ?_⟩
   refine D.r 6 rfl (Runs.lens Try.underlying78 rfl) ?_ (hJ := Fit.sub)
   have hl5 : ([⟨kd9, wd10, mo11⟩, ⟨kd19, wd20, mo21⟩, ⟨k0, w0, m0⟩] : List Wn).length = 3 := rfl
   refine D.done (by kernel_rfl) ?_
   refine V.then ?_
   refine W.sub (L' := [(55, _), (54, _), (56, _), (14, _), (3, _), (5, _), (9, _), (10, _), (12, _), (43, _), (44, _), (45, _)]) (Sub.cons rfl (Sub.cons rfl (Sub.cons rfl (Sub.cons rfl (Sub.cons rfl (Sub.cons rfl (Sub.cons rfl (Sub.cons rfl (Sub.cons rfl (Sub.cons rfl (Sub.cons rfl (Sub.cons rfl Sub.nil)))))))))))) ?_
   refine W.block ?_
   refine W.loop (σ := Nat × Int) (fun s => ([(3, I64 (h)), (5, .pointer (some ⟨b1, 0, none⟩)), (9, .pointer (some ⟨dk2, 0, none⟩)), (10, I64 (2 + x3)), (12, .pointer (some ⟨b13, 0, none⟩)), (14, .slice (at_ ([⟨ad5, cp6, es7⟩, ⟨ga, gc, gx⟩, ⟨ad16, cp17, es7 ++ gx⟩] : List (RowG Ev)) ((ka : Nat) : Int)).a (at_ ([⟨ad5, cp6, es7⟩, ⟨ga, gc, gx⟩, ⟨ad16, cp17, es7 ++ gx⟩] : List (RowG Ev)) ((ka : Nat) : Int)).xs.length (at_ ([⟨ad5, cp6, es7⟩, ⟨ga, gc, gx⟩, ⟨ad16, cp17, es7 ++ gx⟩] : List (RowG Ev)) ((ka : Nat) : Int)).c), (43, .slice ad18 3 3), (44, I64 (((3 : Nat) : Int))), (45, I64 (((ka : Nat) : Int))), (54, .slice ad23 3 3), (55, I64 (((3 : Nat) : Int))), (56, I64 (((s.1 : Nat) : Int)))] : Env)) (fun s => vc 73 (.slice ad23 3 3) (([⟨kd9, wd10, mo11⟩, ⟨kd19, wd20, mo21⟩, ⟨k0, w0, m0⟩] : List Wn)) :: vc 81 (.slice ad18 3 3) (([⟨ad5, cp6, es7⟩, ⟨ga, gc, gx⟩, ⟨ad16, cp17, es7 ++ gx⟩] : List (RowG Ev))) :: vc 122 (.slice ad16 (es7 ++ gx).length cp17) (es7 ++ gx) :: blk b13 [I64 (kd9), I64 (wd10), I64 (mo11)] 73 :: vc 122 (.slice ad5 es7.length cp6) (es7) :: blk dk2 [.slice la ln lc, I64 (s.2)] 129 :: blk b1 [I64 (k0), I64 (w0), I64 (m0)] 73 :: I) (fun s => (s.1 ≤ ([⟨kd9, wd10, mo11⟩, ⟨kd19, wd20, mo21⟩, ⟨k0, w0, m0⟩] : List Wn).length) ∧ (0 ≤ s.2)) (fun s => ([⟨kd9, wd10, mo11⟩, ⟨kd19, wd20, mo21⟩, ⟨k0, w0, m0⟩] : List Wn).length - s.1) (0, i22) (show ((0 : Nat) ≤ ([⟨kd9, wd10, mo11⟩, ⟨kd19, wd20, mo21⟩, ⟨k0, w0, m0⟩] : List Wn).length) ∧ (0 ≤ (i22 : Int)) from ⟨(by omega), (by omega)⟩) (Sub.cons rfl (Sub.cons rfl (Sub.cons rfl (Sub.cons rfl (Sub.cons rfl (Sub.cons rfl (Sub.cons rfl (Sub.cons rfl (Sub.cons rfl (Sub.cons rfl (Sub.cons rfl (Sub.cons lookO Sub.nil)))))))))))) (show Fit κ _ (vc 73 (.slice ad23 3 3) (([⟨kd9, wd10, mo11⟩, ⟨kd19, wd20, mo21⟩, ⟨k0, w0, m0⟩] : List Wn)) :: vc 81 (.slice ad18 3 3) (([⟨ad5, cp6, es7⟩, ⟨ga, gc, gx⟩, ⟨ad16, cp17, es7 ++ gx⟩] : List (RowG Ev))) :: vc 122 (.slice ad16 (es7 ++ gx).length cp17) (es7 ++ gx) :: blk b13 [I64 (kd9), I64 (wd10), I64 (mo11)] 73 :: vc 122 (.slice ad5 es7.length cp6) (es7) :: blk dk2 [.slice la ln lc, I64 ((i22))] 129 :: blk b1 [I64 (k0), I64 (w0), I64 (m0)] 73 :: I) from Fit.sub) ?_
   rintro ⟨kb, iqb⟩ hp
   obtain ⟨hkb, hiqb⟩ : (kb ≤ ([⟨kd9, wd10, mo11⟩, ⟨kd19, wd20, mo21⟩, ⟨k0, w0, m0⟩] : List Wn).length) ∧ (0 ≤ iqb) := hp
   show W Try.prog κ 98 _ _ ([(3, I64 (h)), (5, .pointer (some ⟨b1, 0, none⟩)), (9, .pointer (some ⟨dk2, 0, none⟩)), (10, I64 (2 + x3)), (12, .pointer (some ⟨b13, 0, none⟩)), (14, .slice (at_ ([⟨ad5, cp6, es7⟩, ⟨ga, gc, gx⟩, ⟨ad16, cp17, es7 ++ gx⟩] : List (RowG Ev)) ((ka : Nat) : Int)).a (at_ ([⟨ad5, cp6, es7⟩, ⟨ga, gc, gx⟩, ⟨ad16, cp17, es7 ++ gx⟩] : List (RowG Ev)) ((ka : Nat) : Int)).xs.length (at_ ([⟨ad5, cp6, es7⟩, ⟨ga, gc, gx⟩, ⟨ad16, cp17, es7 ++ gx⟩] : List (RowG Ev)) ((ka : Nat) : Int)).c), (43, .slice ad18 3 3), (44, I64 (((3 : Nat) : Int))), (45, I64 (((ka : Nat) : Int))), (54, .slice ad23 3 3), (55, I64 (((3 : Nat) : Int))), (56, I64 (((kb : Nat) : Int)))] : Env) (vc 73 (.slice ad23 3 3) (([⟨kd9, wd10, mo11⟩, ⟨kd19, wd20, mo21⟩, ⟨k0, w0, m0⟩] : List Wn)) :: vc 81 (.slice ad18 3 3) (([⟨ad5, cp6, es7⟩, ⟨ga, gc, gx⟩, ⟨ad16, cp17, es7 ++ gx⟩] : List (RowG Ev))) :: vc 122 (.slice ad16 (es7 ++ gx).length cp17) (es7 ++ gx) :: blk b13 [I64 (kd9), I64 (wd10), I64 (mo11)] 73 :: vc 122 (.slice ad5 es7.length cp6) (es7) :: blk dk2 [.slice la ln lc, I64 (iqb)] 129 :: blk b1 [I64 (k0), I64 (w0), I64 (m0)] 73 :: I)
   refine W.sr ?_
   refine G.r (Runs.lss rfl rfl) ?_
   refine G.nt ?_
   refine W.seq ?_
   refine W.ite rfl (fun c57 => ?_) (fun c57 => ?_)
   ·refine W.skip ?_
    refine V.then ?_
    refine W.seq ?_
    refine W.block ?_
    refine W.sr ?_
    refine G.r (Runs.idx (α := Wn) (xs := ([⟨kd9, wd10, mo11⟩, ⟨kd19, wd20, mo21⟩, ⟨k0, w0, m0⟩] : List Wn)) Try.underlying78 ty73 rfl rfl Sl.o (by omega) (by omega)) ?_
    refine G.r (Runs.gets (α := Wn) (xs := ([⟨kd9, wd10, mo11⟩, ⟨kd19, wd20, mo21⟩, ⟨k0, w0, m0⟩] : List Wn)) ty73 rfl Sl.o (by omega) (by omega)) ?_
    refine G.e (Eff.alloc ty73 rfl) ?_
    rintro _ _ ⟨b24, rfl, rfl⟩
    refine G.e (Eff.st (cs := [_, _, _]) (vs := [_, _, _]) (cs' := [_, _, _]) ty73) ?_
    rintro _ _ ⟨rfl, rfl⟩
    refine G.nt ?_
    refine W.sub (L' := [(16, _), (3, _), (5, _), (9, _), (10, _), (12, _), (14, _), (43, _), (44, _), (45, _), (54, _), (55, _), (56, _)]) (Sub.cons rfl (Sub.cons rfl (Sub.cons rfl (Sub.cons rfl (Sub.cons rfl (Sub.cons rfl (Sub.cons rfl (Sub.cons rfl (Sub.cons rfl (Sub.cons rfl (Sub.cons rfl (Sub.cons rfl (Sub.cons rfl Sub.nil))))))))))))) ?_
    refine W.sr ?_
    refine G.r (Runs.move rfl) ?_
    refine G.r (Runs.move rfl) ?_
    refine G.r (Runs.move rfl) ?_
    refine G.e (Eff.call call74 rfl rfl (Mod_ok (by omega) (by omega))) ?_
    rintro _ _ ⟨_, _, ⟨x25, rfl, hx25, rfl⟩, rfl, rfl⟩
    refine G.r (Runs.sub rfl rfl (by unfold InR; omega)) ?_
    refine G.e (Eff.bs (α := Int) (cs := [_, _, _]) (xs := [2 + x3, h, x25 - 1]) Try.underlying22 ty3 rfl rfl (by decide) (by decide) rfl rfl rfl rfl) ?_
    rintro _ _ ⟨ad26, rfl, rfl⟩
    refine G.r (Runs.lens Try.underlying22 rfl) ?_
    have hl6 : ([2 + x3, h, x25 - 1] : List Int).length = 3 := rfl
    refine G.r (Runs.move rfl) ?_
    refine G.nt ?_
    refine W.sub (L' := [(67, _), (66, _), (65, _), (16, _), (3, _), (5, _), (9, _), (10, _), (12, _), (14, _), (43, _), (44, _), (45, _), (54, _), (55, _), (56, _)]) (Sub.cons rfl (Sub.cons rfl (Sub.cons rfl (Sub.cons rfl (Sub.cons rfl (Sub.cons rfl (Sub.cons rfl (Sub.cons rfl (Sub.cons rfl (Sub.cons rfl (Sub.cons rfl (Sub.cons rfl (Sub.cons rfl (Sub.cons rfl (Sub.cons rfl (Sub.cons rfl Sub.nil)))))))))))))))) ?_
    refine W.block ?_
    refine W.loop (σ := Nat × Int) (fun s => ([(3, I64 (h)), (5, .pointer (some ⟨b1, 0, none⟩)), (9, .pointer (some ⟨dk2, 0, none⟩)), (10, I64 (2 + x3)), (12, .pointer (some ⟨b13, 0, none⟩)), (14, .slice (at_ ([⟨ad5, cp6, es7⟩, ⟨ga, gc, gx⟩, ⟨ad16, cp17, es7 ++ gx⟩] : List (RowG Ev)) ((ka : Nat) : Int)).a (at_ ([⟨ad5, cp6, es7⟩, ⟨ga, gc, gx⟩, ⟨ad16, cp17, es7 ++ gx⟩] : List (RowG Ev)) ((ka : Nat) : Int)).xs.length (at_ ([⟨ad5, cp6, es7⟩, ⟨ga, gc, gx⟩, ⟨ad16, cp17, es7 ++ gx⟩] : List (RowG Ev)) ((ka : Nat) : Int)).c), (16, .pointer (some ⟨b24, 0, none⟩)), (43, .slice ad18 3 3), (44, I64 (((3 : Nat) : Int))), (45, I64 (((ka : Nat) : Int))), (54, .slice ad23 3 3), (55, I64 (((3 : Nat) : Int))), (56, I64 (((kb : Nat) : Int))), (65, .slice ad26 3 3), (66, I64 (((3 : Nat) : Int))), (67, I64 (((s.1 : Nat) : Int)))] : Env)) (fun s => vc 3 (.slice ad26 3 3) (([2 + x3, h, x25 - 1] : List Int)) :: blk b24 [I64 ((at_ ([⟨kd9, wd10, mo11⟩, ⟨kd19, wd20, mo21⟩, ⟨k0, w0, m0⟩] : List Wn) ((kb : Nat) : Int)).kd), I64 ((at_ ([⟨kd9, wd10, mo11⟩, ⟨kd19, wd20, mo21⟩, ⟨k0, w0, m0⟩] : List Wn) ((kb : Nat) : Int)).wd), I64 ((at_ ([⟨kd9, wd10, mo11⟩, ⟨kd19, wd20, mo21⟩, ⟨k0, w0, m0⟩] : List Wn) ((kb : Nat) : Int)).mo)] 73 :: vc 73 (.slice ad23 3 3) (([⟨kd9, wd10, mo11⟩, ⟨kd19, wd20, mo21⟩, ⟨k0, w0, m0⟩] : List Wn)) :: vc 81 (.slice ad18 3 3) (([⟨ad5, cp6, es7⟩, ⟨ga, gc, gx⟩, ⟨ad16, cp17, es7 ++ gx⟩] : List (RowG Ev))) :: vc 122 (.slice ad16 (es7 ++ gx).length cp17) (es7 ++ gx) :: blk b13 [I64 (kd9), I64 (wd10), I64 (mo11)] 73 :: vc 122 (.slice ad5 es7.length cp6) (es7) :: blk dk2 [.slice la ln lc, I64 (s.2)] 129 :: blk b1 [I64 (k0), I64 (w0), I64 (m0)] 73 :: I) (fun s => (s.1 ≤ ([2 + x3, h, x25 - 1] : List Int).length) ∧ (0 ≤ s.2)) (fun s => ([2 + x3, h, x25 - 1] : List Int).length - s.1) (0, iqb) (show ((0 : Nat) ≤ ([2 + x3, h, x25 - 1] : List Int).length) ∧ (0 ≤ (iqb : Int)) from ⟨(by omega), (by omega)⟩) (Sub.cons rfl (Sub.cons rfl (Sub.cons rfl (Sub.cons rfl (Sub.cons rfl (Sub.cons rfl (Sub.cons rfl (Sub.cons rfl (Sub.cons rfl (Sub.cons rfl (Sub.cons rfl (Sub.cons rfl (Sub.cons rfl (Sub.cons rfl (Sub.cons rfl (Sub.cons lookO Sub.nil)))))))))))))))) (show Fit κ _ (vc 3 (.slice ad26 3 3) (([2 + x3, h, x25 - 1] : List Int)) :: blk b24 [I64 ((at_ ([⟨kd9, wd10, mo11⟩, ⟨kd19, wd20, mo21⟩, ⟨k0, w0, m0⟩] : List Wn) ((kb : Nat) : Int)).kd), I64 ((at_ ([⟨kd9, wd10, mo11⟩, ⟨kd19, wd20, mo21⟩, ⟨k0, w0, m0⟩] : List Wn) ((kb : Nat) : Int)).wd), I64 ((at_ ([⟨kd9, wd10, mo11⟩, ⟨kd19, wd20, mo21⟩, ⟨k0, w0, m0⟩] : List Wn) ((kb : Nat) : Int)).mo)] 73 :: vc 73 (.slice ad23 3 3) (([⟨kd9, wd10, mo11⟩, ⟨kd19, wd20, mo21⟩, ⟨k0, w0, m0⟩] : List Wn)) :: vc 81 (.slice ad18 3 3) (([⟨ad5, cp6, es7⟩, ⟨ga, gc, gx⟩, ⟨ad16, cp17, es7 ++ gx⟩] : List (RowG Ev))) :: vc 122 (.slice ad16 (es7 ++ gx).length cp17) (es7 ++ gx) :: blk b13 [I64 (kd9), I64 (wd10), I64 (mo11)] 73 :: vc 122 (.slice ad5 es7.length cp6) (es7) :: blk dk2 [.slice la ln lc, I64 ((iqb))] 129 :: blk b1 [I64 (k0), I64 (w0), I64 (m0)] 73 :: I) from Fit.sub) ?_
    rintro ⟨kc, iqc⟩ hp
    obtain ⟨hkc, hiqc⟩ : (kc ≤ ([2 + x3, h, x25 - 1] : List Int).length) ∧ (0 ≤ iqc) := hp
    show W Try.prog κ 98 _ _ ([(3, I64 (h)), (5, .pointer (some ⟨b1, 0, none⟩)), (9, .pointer (some ⟨dk2, 0, none⟩)), (10, I64 (2 + x3)), (12, .pointer (some ⟨b13, 0, none⟩)), (14, .slice (at_ ([⟨ad5, cp6, es7⟩, ⟨ga, gc, gx⟩, ⟨ad16, cp17, es7 ++ gx⟩] : List (RowG Ev)) ((ka : Nat) : Int)).a (at_ ([⟨ad5, cp6, es7⟩, ⟨ga, gc, gx⟩, ⟨ad16, cp17, es7 ++ gx⟩] : List (RowG Ev)) ((ka : Nat) : Int)).xs.length (at_ ([⟨ad5, cp6, es7⟩, ⟨ga, gc, gx⟩, ⟨ad16, cp17, es7 ++ gx⟩] : List (RowG Ev)) ((ka : Nat) : Int)).c), (16, .pointer (some ⟨b24, 0, none⟩)), (43, .slice ad18 3 3), (44, I64 (((3 : Nat) : Int))), (45, I64 (((ka : Nat) : Int))), (54, .slice ad23 3 3), (55, I64 (((3 : Nat) : Int))), (56, I64 (((kb : Nat) : Int))), (65, .slice ad26 3 3), (66, I64 (((3 : Nat) : Int))), (67, I64 (((kc : Nat) : Int)))] : Env) (vc 3 (.slice ad26 3 3) (([2 + x3, h, x25 - 1] : List Int)) :: blk b24 [I64 ((at_ ([⟨kd9, wd10, mo11⟩, ⟨kd19, wd20, mo21⟩, ⟨k0, w0, m0⟩] : List Wn) ((kb : Nat) : Int)).kd), I64 ((at_ ([⟨kd9, wd10, mo11⟩, ⟨kd19, wd20, mo21⟩, ⟨k0, w0, m0⟩] : List Wn) ((kb : Nat) : Int)).wd), I64 ((at_ ([⟨kd9, wd10, mo11⟩, ⟨kd19, wd20, mo21⟩, ⟨k0, w0, m0⟩] : List Wn) ((kb : Nat) : Int)).mo)] 73 :: vc 73 (.slice ad23 3 3) (([⟨kd9, wd10, mo11⟩, ⟨kd19, wd20, mo21⟩, ⟨k0, w0, m0⟩] : List Wn)) :: vc 81 (.slice ad18 3 3) (([⟨ad5, cp6, es7⟩, ⟨ga, gc, gx⟩, ⟨ad16, cp17, es7 ++ gx⟩] : List (RowG Ev))) :: vc 122 (.slice ad16 (es7 ++ gx).length cp17) (es7 ++ gx) :: blk b13 [I64 (kd9), I64 (wd10), I64 (mo11)] 73 :: vc 122 (.slice ad5 es7.length cp6) (es7) :: blk dk2 [.slice la ln lc, I64 (iqc)] 129 :: blk b1 [I64 (k0), I64 (w0), I64 (m0)] 73 :: I)
    refine W.sr ?_
    refine G.r (Runs.lss rfl rfl) ?_
    refine G.nt ?_
    refine W.sub (L' := [(68, _), (3, _), (5, _), (9, _), (10, _), (12, _), (14, _), (16, _), (43, _), (44, _), (45, _), (54, _), (55, _), (56, _), (65, _), (66, _), (67, _)]) (Sub.cons rfl (Sub.cons rfl (Sub.cons rfl (Sub.cons rfl (Sub.cons rfl (Sub.cons rfl (Sub.cons rfl (Sub.cons rfl (Sub.cons rfl (Sub.cons rfl (Sub.cons rfl (Sub.cons rfl (Sub.cons rfl (Sub.cons rfl (Sub.cons rfl (Sub.cons rfl (Sub.cons rfl Sub.nil))))))))))))))))) ?_
    refine W.seq ?_
    refine W.ite rfl (fun c68 => ?_) (fun c68 => ?_)
    ·refine W.skip ?_
     refine V.then ?_
     refine W.sub (L' := [(3, _), (5, _), (9, _), (10, _), (12, _), (14, _), (16, _), (43, _), (44, _), (45, _), (54, _), (55, _), (56, _), (65, _), (66, _), (67, _)]) (Sub.cons rfl (Sub.cons rfl (Sub.cons rfl (Sub.cons rfl (Sub.cons rfl (Sub.cons rfl (Sub.cons rfl (Sub.cons rfl (Sub.cons rfl (Sub.cons rfl (Sub.cons rfl (Sub.cons rfl (Sub.cons rfl (Sub.cons rfl (Sub.cons rfl (Sub.cons rfl Sub.nil)))))))))))))))) ?_
     refine W.seq ?_
     refine W.block ?_
     refine W.sr ?_
     refine G.r (Runs.idx (α := Int) (xs := ([2 + x3, h, x25 - 1] : List Int)) Try.underlying22 ty3 rfl rfl Sl.o (by omega) (by omega)) ?_
     refine G.r (Runs.get (xs := ([2 + x3, h, x25 - 1] : List Int)) ty3 rfl Sl.o (by omega) (by omega)) ?_
     refine G.r (Runs.assign rfl) ?_
     refine G.nt ?_
     refine W.sub (L' := [(18, _), (3, _), (5, _), (9, _), (10, _), (12, _), (14, _), (16, _), (43, _), (44, _), (45, _), (54, _), (55, _), (56, _), (65, _), (66, _), (67, _)]) (Sub.cons rfl (Sub.cons rfl (Sub.cons rfl (Sub.cons rfl (Sub.cons rfl (Sub.cons rfl (Sub.cons rfl (Sub.cons rfl (Sub.cons rfl (Sub.cons rfl (Sub.cons rfl (Sub.cons rfl (Sub.cons rfl (Sub.cons rfl (Sub.cons rfl (Sub.cons rfl (Sub.cons rfl Sub.nil))))))))))))))))) ?_
     refine W.sr ?_
     refine G.r (Runs.move rfl) ?_
     refine G.r (Runs.move rfl) ?_
     refine G.r (Runs.lds (vs := [_, _, _]) ty73) ?_
     refine G.e (Eff.call call85 rfl rfl (Slide_ok (nd := (at_ ([2 + x3, h, x25 - 1] : List Int) ((kc : Nat) : Int))) (kd := ((at_ ([⟨kd9, wd10, mo11⟩, ⟨kd19, wd20, mo21⟩, ⟨k0, w0, m0⟩] : List Wn) ((kb : Nat) : Int)).kd)) (wd := ((at_ ([⟨kd9, wd10, mo11⟩, ⟨kd19, wd20, mo21⟩, ⟨k0, w0, m0⟩] : List Wn) ((kb : Nat) : Int)).wd)) (mo := ((at_ ([⟨kd9, wd10, mo11⟩, ⟨kd19, wd20, mo21⟩, ⟨k0, w0, m0⟩] : List Wn) ((kb : Nat) : Int)).mo)) (es := (at_ ([⟨ad5, cp6, es7⟩, ⟨ga, gc, gx⟩, ⟨ad16, cp17, es7 ++ gx⟩] : List (RowG Ev)) ((ka : Nat) : Int)).xs) (Sl.fit (HeldAll.at hh4 (i := ((ka : Nat) : Int)) (by omega) (by omega)) Fit.sub))) ?_
     rintro _ _ ⟨_, _, (⟨hnead27, rfl, rfl⟩ | ⟨ad27, cp28, hzad27, rfl, rfl⟩), rfl, rfl⟩
     ·show G Try.prog κ _ _ _ _ ([(75, .tuple #[.slice none 0 0, I64 (slideE (at_ ([2 + x3, h, x25 - 1] : List Int) ((kc : Nat) : Int)) ((at_ ([⟨kd9, wd10, mo11⟩, ⟨kd19, wd20, mo21⟩, ⟨k0, w0, m0⟩] : List Wn) ((kb : Nat) : Int)).kd) ((at_ ([⟨kd9, wd10, mo11⟩, ⟨kd19, wd20, mo21⟩, ⟨k0, w0, m0⟩] : List Wn) ((kb : Nat) : Int)).wd) ((at_ ([⟨kd9, wd10, mo11⟩, ⟨kd19, wd20, mo21⟩, ⟨k0, w0, m0⟩] : List Wn) ((kb : Nat) : Int)).mo) ((at_ ([⟨ad5, cp6, es7⟩, ⟨ga, gc, gx⟩, ⟨ad16, cp17, es7 ++ gx⟩] : List (RowG Ev)) ((ka : Nat) : Int)).xs))]), (74, .agg #[I64 ((at_ ([⟨kd9, wd10, mo11⟩, ⟨kd19, wd20, mo21⟩, ⟨k0, w0, m0⟩] : List Wn) ((kb : Nat) : Int)).kd), I64 ((at_ ([⟨kd9, wd10, mo11⟩, ⟨kd19, wd20, mo21⟩, ⟨k0, w0, m0⟩] : List Wn) ((kb : Nat) : Int)).wd), I64 ((at_ ([⟨kd9, wd10, mo11⟩, ⟨kd19, wd20, mo21⟩, ⟨k0, w0, m0⟩] : List Wn) ((kb : Nat) : Int)).mo)]), (73, .slice (at_ ([⟨ad5, cp6, es7⟩, ⟨ga, gc, gx⟩, ⟨ad16, cp17, es7 ++ gx⟩] : List (RowG Ev)) ((ka : Nat) : Int)).a (at_ ([⟨ad5, cp6, es7⟩, ⟨ga, gc, gx⟩, ⟨ad16, cp17, es7 ++ gx⟩] : List (RowG Ev)) ((ka : Nat) : Int)).xs.length (at_ ([⟨ad5, cp6, es7⟩, ⟨ga, gc, gx⟩, ⟨ad16, cp17, es7 ++ gx⟩] : List (RowG Ev)) ((ka : Nat) : Int)).c), (72, I64 (at_ ([2 + x3, h, x25 - 1] : List Int) ((kc : Nat) : Int))), (18, I64 (at_ ([2 + x3, h, x25 - 1] : List Int) ((kc : Nat) : Int))), (3, I64 (h)), (5, .pointer (some ⟨b1, 0, none⟩)), (9, .pointer (some ⟨dk2, 0, none⟩)), (10, I64 (2 + x3)), (12, .pointer (some ⟨b13, 0, none⟩)), (14, .slice (at_ ([⟨ad5, cp6, es7⟩, ⟨ga, gc, gx⟩, ⟨ad16, cp17, es7 ++ gx⟩] : List (RowG Ev)) ((ka : Nat) : Int)).a (at_ ([⟨ad5, cp6, es7⟩, ⟨ga, gc, gx⟩, ⟨ad16, cp17, es7 ++ gx⟩] : List (RowG Ev)) ((ka : Nat) : Int)).xs.length (at_ ([⟨ad5, cp6, es7⟩, ⟨ga, gc, gx⟩, ⟨ad16, cp17, es7 ++ gx⟩] : List (RowG Ev)) ((ka : Nat) : Int)).c), (16, .pointer (some ⟨b24, 0, none⟩)), (43, .slice ad18 3 3), (44, I64 (((3 : Nat) : Int))), (45, I64 (((ka : Nat) : Int))), (54, .slice ad23 3 3), (55, I64 (((3 : Nat) : Int))), (56, I64 (((kb : Nat) : Int))), (65, .slice ad26 3 3), (66, I64 (((3 : Nat) : Int))), (67, I64 (((kc : Nat) : Int)))] : Env) (vc 3 (.slice ad26 3 3) (([2 + x3, h, x25 - 1] : List Int)) :: blk b24 [I64 ((at_ ([⟨kd9, wd10, mo11⟩, ⟨kd19, wd20, mo21⟩, ⟨k0, w0, m0⟩] : List Wn) ((kb : Nat) : Int)).kd), I64 ((at_ ([⟨kd9, wd10, mo11⟩, ⟨kd19, wd20, mo21⟩, ⟨k0, w0, m0⟩] : List Wn) ((kb : Nat) : Int)).wd), I64 ((at_ ([⟨kd9, wd10, mo11⟩, ⟨kd19, wd20, mo21⟩, ⟨k0, w0, m0⟩] : List Wn) ((kb : Nat) : Int)).mo)] 73 :: vc 73 (.slice ad23 3 3) (([⟨kd9, wd10, mo11⟩, ⟨kd19, wd20, mo21⟩, ⟨k0, w0, m0⟩] : List Wn)) :: vc 81 (.slice ad18 3 3) (([⟨ad5, cp6, es7⟩, ⟨ga, gc, gx⟩, ⟨ad16, cp17, es7 ++ gx⟩] : List (RowG Ev))) :: vc 122 (.slice ad16 (es7 ++ gx).length cp17) (es7 ++ gx) :: blk b13 [I64 (kd9), I64 (wd10), I64 (mo11)] 73 :: vc 122 (.slice ad5 es7.length cp6) (es7) :: blk dk2 [.slice la ln lc, I64 (iqc)] 129 :: blk b1 [I64 (k0), I64 (w0), I64 (m0)] 73 :: I)
      refine G.r (Runs.move rfl) ?_
      refine G.r (Runs.extract rfl rfl) ?_
      refine G.r (Runs.extract rfl rfl) ?_
      refine G.r (Runs.assign rfl) ?_
      refine G.r (Runs.assign rfl) ?_
      refine G.nt ?_
      refine W.sub (L' := [(20, _), (19, _), (18, _), (3, _), (5, _), (9, _), (10, _), (12, _), (14, _), (16, _), (43, _), (44, _), (45, _), (54, _), (55, _), (56, _), (65, _), (66, _), (67, _)]) (Sub.cons rfl (Sub.cons rfl (Sub.cons rfl (Sub.cons rfl (Sub.cons rfl (Sub.cons rfl (Sub.cons rfl (Sub.cons rfl (Sub.cons rfl (Sub.cons rfl (Sub.cons rfl (Sub.cons rfl (Sub.cons rfl (Sub.cons rfl (Sub.cons rfl (Sub.cons rfl (Sub.cons rfl (Sub.cons rfl (Sub.cons rfl Sub.nil))))))))))))))))))) ?_
      refine W.sr ?_
      refine G.r (Runs.move rfl) ?_
      refine G.r (Runs.move rfl) ?_
      refine G.r (Runs.lds (vs := [_, _, _]) ty73) ?_
      refine G.e (Eff.call call86 rfl rfl (Slide7_ok (nd := (at_ ([2 + x3, h, x25 - 1] : List Int) ((kc : Nat) : Int))) (kd := ((at_ ([⟨kd9, wd10, mo11⟩, ⟨kd19, wd20, mo21⟩, ⟨k0, w0, m0⟩] : List Wn) ((kb : Nat) : Int)).kd)) (wd := ((at_ ([⟨kd9, wd10, mo11⟩, ⟨kd19, wd20, mo21⟩, ⟨k0, w0, m0⟩] : List Wn) ((kb : Nat) : Int)).wd)) (mo := ((at_ ([⟨kd9, wd10, mo11⟩, ⟨kd19, wd20, mo21⟩, ⟨k0, w0, m0⟩] : List Wn) ((kb : Nat) : Int)).mo)) (es := (at_ ([⟨ad5, cp6, es7⟩, ⟨ga, gc, gx⟩, ⟨ad16, cp17, es7 ++ gx⟩] : List (RowG Ev)) ((ka : Nat) : Int)).xs) (Sl.fit (HeldAll.at hh4 (i := ((ka : Nat) : Int)) (by omega) (by omega)) Fit.sub))) ?_
      rintro _ _ ⟨_, _, (⟨hnead29, rfl, rfl⟩ | ⟨ad29, cp30, hzad29, rfl, rfl⟩), rfl, rfl⟩
      ·show G Try.prog κ _ _ _ _ ([(82, .tuple #[.slice none 0 0, I64 (slideE (at_ ([2 + x3, h, x25 - 1] : List Int) ((kc : Nat) : Int)) ((at_ ([⟨kd9, wd10, mo11⟩, ⟨kd19, wd20, mo21⟩, ⟨k0, w0, m0⟩] : List Wn) ((kb : Nat) : Int)).kd) ((at_ ([⟨kd9, wd10, mo11⟩, ⟨kd19, wd20, mo21⟩, ⟨k0, w0, m0⟩] : List Wn) ((kb : Nat) : Int)).wd) ((at_ ([⟨kd9, wd10, mo11⟩, ⟨kd19, wd20, mo21⟩, ⟨k0, w0, m0⟩] : List Wn) ((kb : Nat) : Int)).mo) ((at_ ([⟨ad5, cp6, es7⟩, ⟨ga, gc, gx⟩, ⟨ad16, cp17, es7 ++ gx⟩] : List (RowG Ev)) ((ka : Nat) : Int)).xs))]), (81, .agg #[I64 ((at_ ([⟨kd9, wd10, mo11⟩, ⟨kd19, wd20, mo21⟩, ⟨k0, w0, m0⟩] : List Wn) ((kb : Nat) : Int)).kd), I64 ((at_ ([⟨kd9, wd10, mo11⟩, ⟨kd19, wd20, mo21⟩, ⟨k0, w0, m0⟩] : List Wn) ((kb : Nat) : Int)).wd), I64 ((at_ ([⟨kd9, wd10, mo11⟩, ⟨kd19, wd20, mo21⟩, ⟨k0, w0, m0⟩] : List Wn) ((kb : Nat) : Int)).mo)]), (80, .slice (at_ ([⟨ad5, cp6, es7⟩, ⟨ga, gc, gx⟩, ⟨ad16, cp17, es7 ++ gx⟩] : List (RowG Ev)) ((ka : Nat) : Int)).a (at_ ([⟨ad5, cp6, es7⟩, ⟨ga, gc, gx⟩, ⟨ad16, cp17, es7 ++ gx⟩] : List (RowG Ev)) ((ka : Nat) : Int)).xs.length (at_ ([⟨ad5, cp6, es7⟩, ⟨ga, gc, gx⟩, ⟨ad16, cp17, es7 ++ gx⟩] : List (RowG Ev)) ((ka : Nat) : Int)).c), (79, I64 (at_ ([2 + x3, h, x25 - 1] : List Int) ((kc : Nat) : Int))), (20, I64 (slideE (at_ ([2 + x3, h, x25 - 1] : List Int) ((kc : Nat) : Int)) ((at_ ([⟨kd9, wd10, mo11⟩, ⟨kd19, wd20, mo21⟩, ⟨k0, w0, m0⟩] : List Wn) ((kb : Nat) : Int)).kd) ((at_ ([⟨kd9, wd10, mo11⟩, ⟨kd19, wd20, mo21⟩, ⟨k0, w0, m0⟩] : List Wn) ((kb : Nat) : Int)).wd) ((at_ ([⟨kd9, wd10, mo11⟩, ⟨kd19, wd20, mo21⟩, ⟨k0, w0, m0⟩] : List Wn) ((kb : Nat) : Int)).mo) ((at_ ([⟨ad5, cp6, es7⟩, ⟨ga, gc, gx⟩, ⟨ad16, cp17, es7 ++ gx⟩] : List (RowG Ev)) ((ka : Nat) : Int)).xs))), (19, .slice none 0 0), (18, I64 (at_ ([2 + x3, h, x25 - 1] : List Int) ((kc : Nat) : Int))), (3, I64 (h)), (5, .pointer (some ⟨b1, 0, none⟩)), (9, .pointer (some ⟨dk2, 0, none⟩)), (10, I64 (2 + x3)), (12, .pointer (some ⟨b13, 0, none⟩)), (14, .slice (at_ ([⟨ad5, cp6, es7⟩, ⟨ga, gc, gx⟩, ⟨ad16, cp17, es7 ++ gx⟩] : List (RowG Ev)) ((ka : Nat) : Int)).a (at_ ([⟨ad5, cp6, es7⟩, ⟨ga, gc, gx⟩, ⟨ad16, cp17, es7 ++ gx⟩] : List (RowG Ev)) ((ka : Nat) : Int)).xs.length (at_ ([⟨ad5, cp6, es7⟩, ⟨ga, gc, gx⟩, ⟨ad16, cp17, es7 ++ gx⟩] : List (RowG Ev)) ((ka : Nat) : Int)).c), (16, .pointer (some ⟨b24, 0, none⟩)), (43, .slice ad18 3 3), (44, I64 (((3 : Nat) : Int))), (45, I64 (((ka : Nat) : Int))), (54, .slice ad23 3 3), (55, I64 (((3 : Nat) : Int))), (56, I64 (((kb : Nat) : Int))), (65, .slice ad26 3 3), (66, I64 (((3 : Nat) : Int))), (67, I64 (((kc : Nat) : Int)))] : Env) (vc 3 (.slice ad26 3 3) (([2 + x3, h, x25 - 1] : List Int)) :: blk b24 [I64 ((at_ ([⟨kd9, wd10, mo11⟩, ⟨kd19, wd20, mo21⟩, ⟨k0, w0, m0⟩] : List Wn) ((kb : Nat) : Int)).kd), I64 ((at_ ([⟨kd9, wd10, mo11⟩, ⟨kd19, wd20, mo21⟩, ⟨k0, w0, m0⟩] : List Wn) ((kb : Nat) : Int)).wd), I64 ((at_ ([⟨kd9, wd10, mo11⟩, ⟨kd19, wd20, mo21⟩, ⟨k0, w0, m0⟩] : List Wn) ((kb : Nat) : Int)).mo)] 73 :: vc 73 (.slice ad23 3 3) (([⟨kd9, wd10, mo11⟩, ⟨kd19, wd20, mo21⟩, ⟨k0, w0, m0⟩] : List Wn)) :: vc 81 (.slice ad18 3 3) (([⟨ad5, cp6, es7⟩, ⟨ga, gc, gx⟩, ⟨ad16, cp17, es7 ++ gx⟩] : List (RowG Ev))) :: vc 122 (.slice ad16 (es7 ++ gx).length cp17) (es7 ++ gx) :: blk b13 [I64 (kd9), I64 (wd10), I64 (mo11)] 73 :: vc 122 (.slice ad5 es7.length cp6) (es7) :: blk dk2 [.slice la ln lc, I64 (iqc)] 129 :: blk b1 [I64 (k0), I64 (w0), I64 (m0)] 73 :: I)
       refine G.r (Runs.move rfl) ?_
       refine G.r (Runs.extract rfl rfl) ?_
       refine G.r (Runs.extract rfl rfl) ?_
       refine G.r (Runs.assign rfl) ?_
       refine G.r (Runs.assign rfl) ?_
       refine G.nt ?_
       refine W.sub (L' := [(22, _), (21, _), (20, _), (19, _), (3, _), (5, _), (9, _), (10, _), (12, _), (14, _), (16, _), (43, _), (44, _), (45, _), (54, _), (55, _), (56, _), (65, _), (66, _), (67, _)]) (Sub.cons rfl (Sub.cons rfl (Sub.cons rfl (Sub.cons rfl (Sub.cons rfl (Sub.cons rfl (Sub.cons rfl (Sub.cons rfl (Sub.cons rfl (Sub.cons rfl (Sub.cons rfl (Sub.cons rfl (Sub.cons rfl (Sub.cons rfl (Sub.cons rfl (Sub.cons rfl (Sub.cons rfl (Sub.cons rfl (Sub.cons rfl (Sub.cons rfl Sub.nil)))))))))))))))))))) ?_
       refine W.sr ?_
       refine G.r (Runs.move rfl) ?_
       refine G.r (Runs.move rfl) ?_
       refine G.r (Runs.neq rfl rfl) ?_
       refine G.r (Runs.move rfl) ?_
       refine G.split (d := 88) rfl (fun g88 => ?_) (fun g88 => ?_)
       ·exact absurd rfl g88
       ·refine G.ro (Runs.move rfl) ?_
        refine G.ro (Runs.move rfl) ?_
        refine G.eff (Wanted.on rfl rfl rfl) (Eff.call call58 rfl rfl (Same4_ok (Sl.nil _) (Sl.nil _))) ?_
        rintro _ _ ⟨_, _, ⟨rfl, rfl⟩, rfl, rfl⟩
        refine G.ro (Runs.notd rfl) ?_
        refine G.r (Runs.pickf rfl rfl) ?_
        refine G.nt ?_
        refine W.sub (L' := [(93, _), (3, _), (5, _), (9, _), (10, _), (12, _), (14, _), (16, _), (43, _), (44, _), (45, _), (54, _), (55, _), (56, _), (65, _), (66, _), (67, _)]) (Sub.cons rfl (Sub.cons rfl (Sub.cons rfl (Sub.cons rfl (Sub.cons rfl (Sub.cons rfl (Sub.cons rfl (Sub.cons rfl (Sub.cons rfl (Sub.cons rfl (Sub.cons rfl (Sub.cons rfl (Sub.cons rfl (Sub.cons rfl (Sub.cons rfl (Sub.cons rfl (Sub.cons rfl Sub.nil))))))))))))))))) ?_
        refine W.ite rfl (fun c93 => ?_) (fun c93 => ?_)
        ·exact (c93 rfl).elim
        ·refine W.skip ?_
         refine V.block_normal ?_
         refine V.then ?_
         refine W.sub (L' := [(3, _), (5, _), (9, _), (10, _), (12, _), (14, _), (16, _), (43, _), (44, _), (45, _), (54, _), (55, _), (56, _), (65, _), (66, _), (67, _)]) (Sub.cons rfl (Sub.cons rfl (Sub.cons rfl (Sub.cons rfl (Sub.cons rfl (Sub.cons rfl (Sub.cons rfl (Sub.cons rfl (Sub.cons rfl (Sub.cons rfl (Sub.cons rfl (Sub.cons rfl (Sub.cons rfl (Sub.cons rfl (Sub.cons rfl (Sub.cons rfl Sub.nil)))))))))))))))) ?_
         refine W.region ?_
         refine G.r (Runs.add rfl rfl (by unfold InR; omega)) ?_
         refine G.r (Runs.move rfl) ?_
         refine G.nil ?_
         exact V.next ((kc + 1), (iqc)) (show ((kc + 1 : Nat) ≤ ([2 + x3, h, x25 - 1] : List Int).length) ∧ (0 ≤ (iqc : Int)) from ⟨(by omega), (by omega)⟩) (show ([2 + x3, h, x25 - 1] : List Int).length - (kc + 1 : Nat) < ([2 + x3, h, x25 - 1] : List Int).length - kc from (by omega)) (Sub.cons rfl (Sub.cons rfl (Sub.cons rfl (Sub.cons rfl (Sub.cons rfl (Sub.cons rfl (Sub.cons rfl (Sub.cons rfl (Sub.cons rfl (Sub.cons rfl (Sub.cons rfl (Sub.cons rfl (Sub.cons rfl (Sub.cons rfl (Sub.cons rfl (Sub.cons lookO Sub.nil)))))))))))))))) (show Fit κ _ (vc 3 (.slice ad26 3 3) (([2 + x3, h, x25 - 1] : List Int)) :: blk b24 [I64 ((at_ ([⟨kd9, wd10, mo11⟩, ⟨kd19, wd20, mo21⟩, ⟨k0, w0, m0⟩] : List Wn) ((kb : Nat) : Int)).kd), I64 ((at_ ([⟨kd9, wd10, mo11⟩, ⟨kd19, wd20, mo21⟩, ⟨k0, w0, m0⟩] : List Wn) ((kb : Nat) : Int)).wd), I64 ((at_ ([⟨kd9, wd10, mo11⟩, ⟨kd19, wd20, mo21⟩, ⟨k0, w0, m0⟩] : List Wn) ((kb : Nat) : Int)).mo)] 73 :: vc 73 (.slice ad23 3 3) (([⟨kd9, wd10, mo11⟩, ⟨kd19, wd20, mo21⟩, ⟨k0, w0, m0⟩] : List Wn)) :: vc 81 (.slice ad18 3 3) (([⟨ad5, cp6, es7⟩, ⟨ga, gc, gx⟩, ⟨ad16, cp17, es7 ++ gx⟩] : List (RowG Ev))) :: vc 122 (.slice ad16 (es7 ++ gx).length cp17) (es7 ++ gx) :: blk b13 [I64 (kd9), I64 (wd10), I64 (mo11)] 73 :: vc 122 (.slice ad5 es7.length cp6) (es7) :: blk dk2 [.slice la ln lc, I64 ((iqc))] 129 :: blk b1 [I64 (k0), I64 (w0), I64 (m0)] 73 :: I) from Fit.sub)
      ·exact absurd hzad29 hnead27
     ·show G Try.prog κ _ _ _ _ ([(75, .tuple #[.slice ad27 ((slideS ((at_ ([⟨kd9, wd10, mo11⟩, ⟨kd19, wd20, mo21⟩, ⟨k0, w0, m0⟩] : List Wn) ((kb : Nat) : Int)).kd) ((at_ ([⟨kd9, wd10, mo11⟩, ⟨kd19, wd20, mo21⟩, ⟨k0, w0, m0⟩] : List Wn) ((kb : Nat) : Int)).wd) ((at_ ([⟨kd9, wd10, mo11⟩, ⟨kd19, wd20, mo21⟩, ⟨k0, w0, m0⟩] : List Wn) ((kb : Nat) : Int)).mo) ((at_ ([⟨ad5, cp6, es7⟩, ⟨ga, gc, gx⟩, ⟨ad16, cp17, es7 ++ gx⟩] : List (RowG Ev)) ((ka : Nat) : Int)).xs)).2).length cp28, I64 (0)]), (74, .agg #[I64 ((at_ ([⟨kd9, wd10, mo11⟩, ⟨kd19, wd20, mo21⟩, ⟨k0, w0, m0⟩] : List Wn) ((kb : Nat) : Int)).kd), I64 ((at_ ([⟨kd9, wd10, mo11⟩, ⟨kd19, wd20, mo21⟩, ⟨k0, w0, m0⟩] : List Wn) ((kb : Nat) : Int)).wd), I64 ((at_ ([⟨kd9, wd10, mo11⟩, ⟨kd19, wd20, mo21⟩, ⟨k0, w0, m0⟩] : List Wn) ((kb : Nat) : Int)).mo)]), (73, .slice (at_ ([⟨ad5, cp6, es7⟩, ⟨ga, gc, gx⟩, ⟨ad16, cp17, es7 ++ gx⟩] : List (RowG Ev)) ((ka : Nat) : Int)).a (at_ ([⟨ad5, cp6, es7⟩, ⟨ga, gc, gx⟩, ⟨ad16, cp17, es7 ++ gx⟩] : List (RowG Ev)) ((ka : Nat) : Int)).xs.length (at_ ([⟨ad5, cp6, es7⟩, ⟨ga, gc, gx⟩, ⟨ad16, cp17, es7 ++ gx⟩] : List (RowG Ev)) ((ka : Nat) : Int)).c), (72, I64 (at_ ([2 + x3, h, x25 - 1] : List Int) ((kc : Nat) : Int))), (18, I64 (at_ ([2 + x3, h, x25 - 1] : List Int) ((kc : Nat) : Int))), (3, I64 (h)), (5, .pointer (some ⟨b1, 0, none⟩)), (9, .pointer (some ⟨dk2, 0, none⟩)), (10, I64 (2 + x3)), (12, .pointer (some ⟨b13, 0, none⟩)), (14, .slice (at_ ([⟨ad5, cp6, es7⟩, ⟨ga, gc, gx⟩, ⟨ad16, cp17, es7 ++ gx⟩] : List (RowG Ev)) ((ka : Nat) : Int)).a (at_ ([⟨ad5, cp6, es7⟩, ⟨ga, gc, gx⟩, ⟨ad16, cp17, es7 ++ gx⟩] : List (RowG Ev)) ((ka : Nat) : Int)).xs.length (at_ ([⟨ad5, cp6, es7⟩, ⟨ga, gc, gx⟩, ⟨ad16, cp17, es7 ++ gx⟩] : List (RowG Ev)) ((ka : Nat) : Int)).c), (16, .pointer (some ⟨b24, 0, none⟩)), (43, .slice ad18 3 3), (44, I64 (((3 : Nat) : Int))), (45, I64 (((ka : Nat) : Int))), (54, .slice ad23 3 3), (55, I64 (((3 : Nat) : Int))), (56, I64 (((kb : Nat) : Int))), (65, .slice ad26 3 3), (66, I64 (((3 : Nat) : Int))), (67, I64 (((kc : Nat) : Int)))] : Env) (vc 122 (.slice ad27 ((slideS ((at_ ([⟨kd9, wd10, mo11⟩, ⟨kd19, wd20, mo21⟩, ⟨k0, w0, m0⟩] : List Wn) ((kb : Nat) : Int)).kd) ((at_ ([⟨kd9, wd10, mo11⟩, ⟨kd19, wd20, mo21⟩, ⟨k0, w0, m0⟩] : List Wn) ((kb : Nat) : Int)).wd) ((at_ ([⟨kd9, wd10, mo11⟩, ⟨kd19, wd20, mo21⟩, ⟨k0, w0, m0⟩] : List Wn) ((kb : Nat) : Int)).mo) ((at_ ([⟨ad5, cp6, es7⟩, ⟨ga, gc, gx⟩, ⟨ad16, cp17, es7 ++ gx⟩] : List (RowG Ev)) ((ka : Nat) : Int)).xs)).2).length cp28) ((slideS ((at_ ([⟨kd9, wd10, mo11⟩, ⟨kd19, wd20, mo21⟩, ⟨k0, w0, m0⟩] : List Wn) ((kb : Nat) : Int)).kd) ((at_ ([⟨kd9, wd10, mo11⟩, ⟨kd19, wd20, mo21⟩, ⟨k0, w0, m0⟩] : List Wn) ((kb : Nat) : Int)).wd) ((at_ ([⟨kd9, wd10, mo11⟩, ⟨kd19, wd20, mo21⟩, ⟨k0, w0, m0⟩] : List Wn) ((kb : Nat) : Int)).mo) ((at_ ([⟨ad5, cp6, es7⟩, ⟨ga, gc, gx⟩, ⟨ad16, cp17, es7 ++ gx⟩] : List (RowG Ev)) ((ka : Nat) : Int)).xs)).2) :: vc 3 (.slice ad26 3 3) (([2 + x3, h, x25 - 1] : List Int)) :: blk b24 [I64 ((at_ ([⟨kd9, wd10, mo11⟩, ⟨kd19, wd20, mo21⟩, ⟨k0, w0, m0⟩] : List Wn) ((kb : Nat) : Int)).kd), I64 ((at_ ([⟨kd9, wd10, mo11⟩, ⟨kd19, wd20, mo21⟩, ⟨k0, w0, m0⟩] : List Wn) ((kb : Nat) : Int)).wd), I64 ((at_ ([⟨kd9, wd10, mo11⟩, ⟨kd19, wd20, mo21⟩, ⟨k0, w0, m0⟩] : List Wn) ((kb : Nat) : Int)).mo)] 73 :: vc 73 (.slice ad23 3 3) (([⟨kd9, wd10, mo11⟩, ⟨kd19, wd20, mo21⟩, ⟨k0, w0, m0⟩] : List Wn)) :: vc 81 (.slice ad18 3 3) (([⟨ad5, cp6, es7⟩, ⟨ga, gc, gx⟩, ⟨ad16, cp17, es7 ++ gx⟩] : List (RowG Ev))) :: vc 122 (.slice ad16 (es7 ++ gx).length cp17) (es7 ++ gx) :: blk b13 [I64 (kd9), I64 (wd10), I64 (mo11)] 73 :: vc 122 (.slice ad5 es7.length cp6) (es7) :: blk dk2 [.slice la ln lc, I64 (iqc)] 129 :: blk b1 [I64 (k0), I64 (w0), I64 (m0)] 73 :: I)
      refine G.r (Runs.move rfl) ?_
      refine G.r (Runs.extract rfl rfl) ?_
      refine G.r (Runs.extract rfl rfl) ?_
      refine G.r (Runs.assign rfl) ?_
      refine G.r (Runs.assign rfl) ?_
      refine G.nt ?_
      refine W.sub (L' := [(20, _), (19, _), (18, _), (3, _), (5, _), (9, _), (10, _), (12, _), (14, _), (16, _), (43, _), (44, _), (45, _), (54, _), (55, _), (56, _), (65, _), (66, _), (67, _)]) (Sub.cons rfl (Sub.cons rfl (Sub.cons rfl (Sub.cons rfl (Sub.cons rfl (Sub.cons rfl (Sub.cons rfl (Sub.cons rfl (Sub.cons rfl (Sub.cons rfl (Sub.cons rfl (Sub.cons rfl (Sub.cons rfl (Sub.cons rfl (Sub.cons rfl (Sub.cons rfl (Sub.cons rfl (Sub.cons rfl (Sub.cons rfl Sub.nil))))))))))))))))))) ?_
      refine W.sr ?_
      refine G.r (Runs.move rfl) ?_
      refine G.r (Runs.move rfl) ?_
      refine G.r (Runs.lds (vs := [_, _, _]) ty73) ?_
      refine G.e (Eff.call call86 rfl rfl (Slide7_ok (nd := (at_ ([2 + x3, h, x25 - 1] : List Int) ((kc : Nat) : Int))) (kd := ((at_ ([⟨kd9, wd10, mo11⟩, ⟨kd19, wd20, mo21⟩, ⟨k0, w0, m0⟩] : List Wn) ((kb : Nat) : Int)).kd)) (wd := ((at_ ([⟨kd9, wd10, mo11⟩, ⟨kd19, wd20, mo21⟩, ⟨k0, w0, m0⟩] : List Wn) ((kb : Nat) : Int)).wd)) (mo := ((at_ ([⟨kd9, wd10, mo11⟩, ⟨kd19, wd20, mo21⟩, ⟨k0, w0, m0⟩] : List Wn) ((kb : Nat) : Int)).mo)) (es := (at_ ([⟨ad5, cp6, es7⟩, ⟨ga, gc, gx⟩, ⟨ad16, cp17, es7 ++ gx⟩] : List (RowG Ev)) ((ka : Nat) : Int)).xs) (Sl.fit (HeldAll.at hh4 (i := ((ka : Nat) : Int)) (by omega) (by omega)) Fit.sub))) ?_
      rintro _ _ ⟨_, _, (⟨hnead31, rfl, rfl⟩ | ⟨ad31, cp32, hzad31, rfl, rfl⟩), rfl, rfl⟩
      ·exact absurd hzad27 hnead31
      ·show G Try.prog κ _ _ _ _ ([(82, .tuple #[.slice ad31 ((slideS ((at_ ([⟨kd9, wd10, mo11⟩, ⟨kd19, wd20, mo21⟩, ⟨k0, w0, m0⟩] : List Wn) ((kb : Nat) : Int)).kd) ((at_ ([⟨kd9, wd10, mo11⟩, ⟨kd19, wd20, mo21⟩, ⟨k0, w0, m0⟩] : List Wn) ((kb : Nat) : Int)).wd) ((at_ ([⟨kd9, wd10, mo11⟩, ⟨kd19, wd20, mo21⟩, ⟨k0, w0, m0⟩] : List Wn) ((kb : Nat) : Int)).mo) ((at_ ([⟨ad5, cp6, es7⟩, ⟨ga, gc, gx⟩, ⟨ad16, cp17, es7 ++ gx⟩] : List (RowG Ev)) ((ka : Nat) : Int)).xs)).2).length cp32, I64 (0)]), (81, .agg #[I64 ((at_ ([⟨kd9, wd10, mo11⟩, ⟨kd19, wd20, mo21⟩, ⟨k0, w0, m0⟩] : List Wn) ((kb : Nat) : Int)).kd), I64 ((at_ ([⟨kd9, wd10, mo11⟩, ⟨kd19, wd20, mo21⟩, ⟨k0, w0, m0⟩] : List Wn) ((kb : Nat) : Int)).wd), I64 ((at_ ([⟨kd9, wd10, mo11⟩, ⟨kd19, wd20, mo21⟩, ⟨k0, w0, m0⟩] : List Wn) ((kb : Nat) : Int)).mo)]), (80, .slice (at_ ([⟨ad5, cp6, es7⟩, ⟨ga, gc, gx⟩, ⟨ad16, cp17, es7 ++ gx⟩] : List (RowG Ev)) ((ka : Nat) : Int)).a (at_ ([⟨ad5, cp6, es7⟩, ⟨ga, gc, gx⟩, ⟨ad16, cp17, es7 ++ gx⟩] : List (RowG Ev)) ((ka : Nat) : Int)).xs.length (at_ ([⟨ad5, cp6, es7⟩, ⟨ga, gc, gx⟩, ⟨ad16, cp17, es7 ++ gx⟩] : List (RowG Ev)) ((ka : Nat) : Int)).c), (79, I64 (at_ ([2 + x3, h, x25 - 1] : List Int) ((kc : Nat) : Int))), (20, I64 (0)), (19, .slice ad27 ((slideS ((at_ ([⟨kd9, wd10, mo11⟩, ⟨kd19, wd20, mo21⟩, ⟨k0, w0, m0⟩] : List Wn) ((kb : Nat) : Int)).kd) ((at_ ([⟨kd9, wd10, mo11⟩, ⟨kd19, wd20, mo21⟩, ⟨k0, w0, m0⟩] : List Wn) ((kb : Nat) : Int)).wd) ((at_ ([⟨kd9, wd10, mo11⟩, ⟨kd19, wd20, mo21⟩, ⟨k0, w0, m0⟩] : List Wn) ((kb : Nat) : Int)).mo) ((at_ ([⟨ad5, cp6, es7⟩, ⟨ga, gc, gx⟩, ⟨ad16, cp17, es7 ++ gx⟩] : List (RowG Ev)) ((ka : Nat) : Int)).xs)).2).length cp28), (18, I64 (at_ ([2 + x3, h, x25 - 1] : List Int) ((kc : Nat) : Int))), (3, I64 (h)), (5, .pointer (some ⟨b1, 0, none⟩)), (9, .pointer (some ⟨dk2, 0, none⟩)), (10, I64 (2 + x3)), (12, .pointer (some ⟨b13, 0, none⟩)), (14, .slice (at_ ([⟨ad5, cp6, es7⟩, ⟨ga, gc, gx⟩, ⟨ad16, cp17, es7 ++ gx⟩] : List (RowG Ev)) ((ka : Nat) : Int)).a (at_ ([⟨ad5, cp6, es7⟩, ⟨ga, gc, gx⟩, ⟨ad16, cp17, es7 ++ gx⟩] : List (RowG Ev)) ((ka : Nat) : Int)).xs.length (at_ ([⟨ad5, cp6, es7⟩, ⟨ga, gc, gx⟩, ⟨ad16, cp17, es7 ++ gx⟩] : List (RowG Ev)) ((ka : Nat) : Int)).c), (16, .pointer (some ⟨b24, 0, none⟩)), (43, .slice ad18 3 3), (44, I64 (((3 : Nat) : Int))), (45, I64 (((ka : Nat) : Int))), (54, .slice ad23 3 3), (55, I64 (((3 : Nat) : Int))), (56, I64 (((kb : Nat) : Int))), (65, .slice ad26 3 3), (66, I64 (((3 : Nat) : Int))), (67, I64 (((kc : Nat) : Int)))] : Env) (vc 122 (.slice ad31 ((slideS ((at_ ([⟨kd9, wd10, mo11⟩, ⟨kd19, wd20, mo21⟩, ⟨k0, w0, m0⟩] : List Wn) ((kb : Nat) : Int)).kd) ((at_ ([⟨kd9, wd10, mo11⟩, ⟨kd19, wd20, mo21⟩, ⟨k0, w0, m0⟩] : List Wn) ((kb : Nat) : Int)).wd) ((at_ ([⟨kd9, wd10, mo11⟩, ⟨kd19, wd20, mo21⟩, ⟨k0, w0, m0⟩] : List Wn) ((kb : Nat) : Int)).mo) ((at_ ([⟨ad5, cp6, es7⟩, ⟨ga, gc, gx⟩, ⟨ad16, cp17, es7 ++ gx⟩] : List (RowG Ev)) ((ka : Nat) : Int)).xs)).2).length cp32) ((slideS ((at_ ([⟨kd9, wd10, mo11⟩, ⟨kd19, wd20, mo21⟩, ⟨k0, w0, m0⟩] : List Wn) ((kb : Nat) : Int)).kd) ((at_ ([⟨kd9, wd10, mo11⟩, ⟨kd19, wd20, mo21⟩, ⟨k0, w0, m0⟩] : List Wn) ((kb : Nat) : Int)).wd) ((at_ ([⟨kd9, wd10, mo11⟩, ⟨kd19, wd20, mo21⟩, ⟨k0, w0, m0⟩] : List Wn) ((kb : Nat) : Int)).mo) ((at_ ([⟨ad5, cp6, es7⟩, ⟨ga, gc, gx⟩, ⟨ad16, cp17, es7 ++ gx⟩] : List (RowG Ev)) ((ka : Nat) : Int)).xs)).2) :: vc 122 (.slice ad27 ((slideS ((at_ ([⟨kd9, wd10, mo11⟩, ⟨kd19, wd20, mo21⟩, ⟨k0, w0, m0⟩] : List Wn) ((kb : Nat) : Int)).kd) ((at_ ([⟨kd9, wd10, mo11⟩, ⟨kd19, wd20, mo21⟩, ⟨k0, w0, m0⟩] : List Wn) ((kb : Nat) : Int)).wd) ((at_ ([⟨kd9, wd10, mo11⟩, ⟨kd19, wd20, mo21⟩, ⟨k0, w0, m0⟩] : List Wn) ((kb : Nat) : Int)).mo) ((at_ ([⟨ad5, cp6, es7⟩, ⟨ga, gc, gx⟩, ⟨ad16, cp17, es7 ++ gx⟩] : List (RowG Ev)) ((ka : Nat) : Int)).xs)).2).length cp28) ((slideS ((at_ ([⟨kd9, wd10, mo11⟩, ⟨kd19, wd20, mo21⟩, ⟨k0, w0, m0⟩] : List Wn) ((kb : Nat) : Int)).kd) ((at_ ([⟨kd9, wd10, mo11⟩, ⟨kd19, wd20, mo21⟩, ⟨k0, w0, m0⟩] : List Wn) ((kb : Nat) : Int)).wd) ((at_ ([⟨kd9, wd10, mo11⟩, ⟨kd19, wd20, mo21⟩, ⟨k0, w0, m0⟩] : List Wn) ((kb : Nat) : Int)).mo) ((at_ ([⟨ad5, cp6, es7⟩, ⟨ga, gc, gx⟩, ⟨ad16, cp17, es7 ++ gx⟩] : List (RowG Ev)) ((ka : Nat) : Int)).xs)).2) :: vc 3 (.slice ad26 3 3) (([2 + x3, h, x25 - 1] : List Int)) :: blk b24 [I64 ((at_ ([⟨kd9, wd10, mo11⟩, ⟨kd19, wd20, mo21⟩, ⟨k0, w0, m0⟩] : List Wn) ((kb : Nat) : Int)).kd), I64 ((at_ ([⟨kd9, wd10, mo11⟩, ⟨kd19, wd20, mo21⟩, ⟨k0, w0, m0⟩] : List Wn) ((kb : Nat) : Int)).wd), I64 ((at_ ([⟨kd9, wd10, mo11⟩, ⟨kd19, wd20, mo21⟩, ⟨k0, w0, m0⟩] : List Wn) ((kb : Nat) : Int)).mo)] 73 :: vc 73 (.slice ad23 3 3) (([⟨kd9, wd10, mo11⟩, ⟨kd19, wd20, mo21⟩, ⟨k0, w0, m0⟩] : List Wn)) :: vc 81 (.slice ad18 3 3) (([⟨ad5, cp6, es7⟩, ⟨ga, gc, gx⟩, ⟨ad16, cp17, es7 ++ gx⟩] : List (RowG Ev))) :: vc 122 (.slice ad16 (es7 ++ gx).length cp17) (es7 ++ gx) :: blk b13 [I64 (kd9), I64 (wd10), I64 (mo11)] 73 :: vc 122 (.slice ad5 es7.length cp6) (es7) :: blk dk2 [.slice la ln lc, I64 (iqc)] 129 :: blk b1 [I64 (k0), I64 (w0), I64 (m0)] 73 :: I)
       refine G.r (Runs.move rfl) ?_
       refine G.r (Runs.extract rfl rfl) ?_
       refine G.r (Runs.extract rfl rfl) ?_
       refine G.r (Runs.assign rfl) ?_
       refine G.r (Runs.assign rfl) ?_
       refine G.nt ?_
       refine W.sub (L' := [(22, _), (21, _), (20, _), (19, _), (3, _), (5, _), (9, _), (10, _), (12, _), (14, _), (16, _), (43, _), (44, _), (45, _), (54, _), (55, _), (56, _), (65, _), (66, _), (67, _)]) (Sub.cons rfl (Sub.cons rfl (Sub.cons rfl (Sub.cons rfl (Sub.cons rfl (Sub.cons rfl (Sub.cons rfl (Sub.cons rfl (Sub.cons rfl (Sub.cons rfl (Sub.cons rfl (Sub.cons rfl (Sub.cons rfl (Sub.cons rfl (Sub.cons rfl (Sub.cons rfl (Sub.cons rfl (Sub.cons rfl (Sub.cons rfl (Sub.cons rfl Sub.nil)))))))))))))))))))) ?_
       refine W.sr ?_
       refine G.r (Runs.move rfl) ?_
       refine G.r (Runs.move rfl) ?_
       refine G.r (Runs.neq rfl rfl) ?_
       refine G.r (Runs.move rfl) ?_
       refine G.split (d := 88) rfl (fun g88 => ?_) (fun g88 => ?_)
       ·exact absurd rfl g88
       ·refine G.ro (Runs.move rfl) ?_
        refine G.ro (Runs.move rfl) ?_
        refine G.eff (Wanted.on rfl rfl rfl) (Eff.call call58 rfl rfl (Same4_ok Sl.o Sl.o)) ?_
        rintro _ _ ⟨_, _, ⟨rfl, rfl⟩, rfl, rfl⟩
        refine G.ro (Runs.notd rfl) ?_
        refine G.r (Runs.pickf rfl rfl) ?_
        refine G.nt ?_
        refine W.sub (L' := [(93, _), (3, _), (5, _), (9, _), (10, _), (12, _), (14, _), (16, _), (43, _), (44, _), (45, _), (54, _), (55, _), (56, _), (65, _), (66, _), (67, _)]) (Sub.cons rfl (Sub.cons rfl (Sub.cons rfl (Sub.cons rfl (Sub.cons rfl (Sub.cons rfl (Sub.cons rfl (Sub.cons rfl (Sub.cons rfl (Sub.cons rfl (Sub.cons rfl (Sub.cons rfl (Sub.cons rfl (Sub.cons rfl (Sub.cons rfl (Sub.cons rfl (Sub.cons rfl Sub.nil))))))))))))))))) ?_
        refine W.ite rfl (fun c93 => ?_) (fun c93 => ?_)
        ·exact (c93 rfl).elim
        ·refine W.skip ?_
         refine V.block_normal ?_
         refine V.then ?_
         refine W.sub (L' := [(3, _), (5, _), (9, _), (10, _), (12, _), (14, _), (16, _), (43, _), (44, _), (45, _), (54, _), (55, _), (56, _), (65, _), (66, _), (67, _)]) (Sub.cons rfl (Sub.cons rfl (Sub.cons rfl (Sub.cons rfl (Sub.cons rfl (Sub.cons rfl (Sub.cons rfl (Sub.cons rfl (Sub.cons rfl (Sub.cons rfl (Sub.cons rfl (Sub.cons rfl (Sub.cons rfl (Sub.cons rfl (Sub.cons rfl (Sub.cons rfl Sub.nil)))))))))))))))) ?_
         refine W.region ?_
         refine G.r (Runs.add rfl rfl (by unfold InR; omega)) ?_
         refine G.r (Runs.move rfl) ?_
         refine G.nil ?_
         exact V.next ((kc + 1), (iqc)) (show ((kc + 1 : Nat) ≤ ([2 + x3, h, x25 - 1] : List Int).length) ∧ (0 ≤ (iqc : Int)) from ⟨(by omega), (by omega)⟩) (show ([2 + x3, h, x25 - 1] : List Int).length - (kc + 1 : Nat) < ([2 + x3, h, x25 - 1] : List Int).length - kc from (by omega)) (Sub.cons rfl (Sub.cons rfl (Sub.cons rfl (Sub.cons rfl (Sub.cons rfl (Sub.cons rfl (Sub.cons rfl (Sub.cons rfl (Sub.cons rfl (Sub.cons rfl (Sub.cons rfl (Sub.cons rfl (Sub.cons rfl (Sub.cons rfl (Sub.cons rfl (Sub.cons lookO Sub.nil)))))))))))))))) (show Fit κ _ (vc 3 (.slice ad26 3 3) (([2 + x3, h, x25 - 1] : List Int)) :: blk b24 [I64 ((at_ ([⟨kd9, wd10, mo11⟩, ⟨kd19, wd20, mo21⟩, ⟨k0, w0, m0⟩] : List Wn) ((kb : Nat) : Int)).kd), I64 ((at_ ([⟨kd9, wd10, mo11⟩, ⟨kd19, wd20, mo21⟩, ⟨k0, w0, m0⟩] : List Wn) ((kb : Nat) : Int)).wd), I64 ((at_ ([⟨kd9, wd10, mo11⟩, ⟨kd19, wd20, mo21⟩, ⟨k0, w0, m0⟩] : List Wn) ((kb : Nat) : Int)).mo)] 73 :: vc 73 (.slice ad23 3 3) (([⟨kd9, wd10, mo11⟩, ⟨kd19, wd20, mo21⟩, ⟨k0, w0, m0⟩] : List Wn)) :: vc 81 (.slice ad18 3 3) (([⟨ad5, cp6, es7⟩, ⟨ga, gc, gx⟩, ⟨ad16, cp17, es7 ++ gx⟩] : List (RowG Ev))) :: vc 122 (.slice ad16 (es7 ++ gx).length cp17) (es7 ++ gx) :: blk b13 [I64 (kd9), I64 (wd10), I64 (mo11)] 73 :: vc 122 (.slice ad5 es7.length cp6) (es7) :: blk dk2 [.slice la ln lc, I64 ((iqc))] 129 :: blk b1 [I64 (k0), I64 (w0), I64 (m0)] 73 :: I) from Fit.sub)
    ·refine W.exit ?_
     refine V.then_exit ?_
     refine V.then_exit ?_
     refine V.block_hit ?_
     refine V.block_normal ?_
     refine V.then ?_
     refine W.sub (L' := [(3, _), (5, _), (9, _), (10, _), (12, _), (14, _), (43, _), (44, _), (45, _), (54, _), (55, _), (56, _)]) (Sub.cons rfl (Sub.cons rfl (Sub.cons rfl (Sub.cons rfl (Sub.cons rfl (Sub.cons rfl (Sub.cons rfl (Sub.cons rfl (Sub.cons rfl (Sub.cons rfl (Sub.cons rfl (Sub.cons rfl Sub.nil)))))))))))) ?_
     refine W.region ?_
     refine G.r (Runs.add rfl rfl (by unfold InR; omega)) ?_
     refine G.r (Runs.move rfl) ?_
     refine G.nil ?_
     exact V.next ((kb + 1), (iqc)) (show ((kb + 1 : Nat) ≤ ([⟨kd9, wd10, mo11⟩, ⟨kd19, wd20, mo21⟩, ⟨k0, w0, m0⟩] : List Wn).length) ∧ (0 ≤ (iqc : Int)) from ⟨(by omega), (by omega)⟩) (show ([⟨kd9, wd10, mo11⟩, ⟨kd19, wd20, mo21⟩, ⟨k0, w0, m0⟩] : List Wn).length - (kb + 1 : Nat) < ([⟨kd9, wd10, mo11⟩, ⟨kd19, wd20, mo21⟩, ⟨k0, w0, m0⟩] : List Wn).length - kb from (by omega)) (Sub.cons rfl (Sub.cons rfl (Sub.cons rfl (Sub.cons rfl (Sub.cons rfl (Sub.cons rfl (Sub.cons rfl (Sub.cons rfl (Sub.cons rfl (Sub.cons rfl (Sub.cons rfl (Sub.cons lookO Sub.nil)))))))))))) (show Fit κ _ (vc 73 (.slice ad23 3 3) (([⟨kd9, wd10, mo11⟩, ⟨kd19, wd20, mo21⟩, ⟨k0, w0, m0⟩] : List Wn)) :: vc 81 (.slice ad18 3 3) (([⟨ad5, cp6, es7⟩, ⟨ga, gc, gx⟩, ⟨ad16, cp17, es7 ++ gx⟩] : List (RowG Ev))) :: vc 122 (.slice ad16 (es7 ++ gx).length cp17) (es7 ++ gx) :: blk b13 [I64 (kd9), I64 (wd10), I64 (mo11)] 73 :: vc 122 (.slice ad5 es7.length cp6) (es7) :: blk dk2 [.slice la ln lc, I64 ((iqc))] 129 :: blk b1 [I64 (k0), I64 (w0), I64 (m0)] 73 :: I) from Fit.sub)
   ·refine W.exit ?_
    refine V.then_exit ?_
    refine V.then_exit ?_
    refine V.block_hit ?_
    refine V.block_normal ?_
    refine V.then ?_
    refine W.region ?_
    refine G.r (Runs.add rfl rfl (by unfold InR; omega)) ?_
    refine G.r (Runs.move rfl) ?_
    refine G.nil ?_
    exact V.next ((ka + 1), (iqb)) (show ((ka + 1 : Nat) ≤ ([⟨ad5, cp6, es7⟩, ⟨ga, gc, gx⟩, ⟨ad16, cp17, es7 ++ gx⟩] : List (RowG Ev)).length) ∧ (0 ≤ (iqb : Int)) from ⟨(by omega), (by omega)⟩) (show ([⟨ad5, cp6, es7⟩, ⟨ga, gc, gx⟩, ⟨ad16, cp17, es7 ++ gx⟩] : List (RowG Ev)).length - (ka + 1 : Nat) < ([⟨ad5, cp6, es7⟩, ⟨ga, gc, gx⟩, ⟨ad16, cp17, es7 ++ gx⟩] : List (RowG Ev)).length - ka from (by omega)) (Sub.cons rfl (Sub.cons rfl (Sub.cons rfl (Sub.cons rfl (Sub.cons rfl (Sub.cons rfl (Sub.cons rfl (Sub.cons lookO Sub.nil)))))))) (show Fit κ _ (vc 81 (.slice ad18 3 3) (([⟨ad5, cp6, es7⟩, ⟨ga, gc, gx⟩, ⟨ad16, cp17, es7 ++ gx⟩] : List (RowG Ev))) :: vc 122 (.slice ad16 (es7 ++ gx).length cp17) (es7 ++ gx) :: blk b13 [I64 (kd9), I64 (wd10), I64 (mo11)] 73 :: vc 122 (.slice ad5 es7.length cp6) (es7) :: blk dk2 [.slice la ln lc, I64 ((iqb))] 129 :: blk b1 [I64 (k0), I64 (w0), I64 (m0)] 73 :: I) from Fit.sub)
  ·refine W.exit ?_
   refine V.then_exit ?_
   refine V.then_exit ?_
   refine V.block_hit ?_
   refine V.then ?_
   refine W.sr ?_
   refine G.e (Eff.call call49 rfl rfl Awake7_ok) ?_
   rintro _ _ ⟨_, _, ⟨rfl, rfl⟩, rfl, rfl⟩
   refine G.r (Runs.assign rfl) ?_
   refine G.nt ?_
   refine W.ret ?_
   exact V.ret1 rfl rfl (I) Fit.m ⟨rfl, rfl⟩

end Go.Sl
