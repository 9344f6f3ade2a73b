/- A part of the proofs of statements of this seat: contracts of functions, and the plain laws that they lean on. No conditions. -/
import Derived.Test.YtbimaodbcjjbfaaDoorKed5
import Derived.Test.YtbimaodbcjjbfaaDoorLaw17A
namespace Go.Sl
open Go.Proofs
set_option linter.unusedVariables false
set_option linter.unusedSimpArgs false
set_option maxRecDepth 4000
set_option maxHeartbeats 4000000 in
theorem KedgeGroups_walk {κ : Ctx} {I : List Item} {nd : Int} {ra : Option Addr} {rc : Nat} {rx : List Pt} (hrx : Sl κ I (.slice ra rx.length rc) rx) {la : Option Addr} {ln lc : Nat} {ls : List Int} (hl : Sl κ I (.slice la ln lc) ls) (kk : Int) (hT : TabRd κ I 0 tzCells) :
    CallS Tryd.prog κ 9 [.agg #[I64 (nd), .slice ra rx.length rc], .slice la ln lc, I64 (kk)] I (fun r J => r = .bool true ∧ I = J) := by
 refine CallS.pull hrx.le fun hmx1 => ?_
 refine CallS.enter (L := [(0, .agg #[I64 (nd), .slice ra rx.length rc]), (1, .slice la ln lc), (2, I64 (kk))]) Tryd.func9 rfl rfl rfl rfl ?_
 refine W.sr ?_
 refine G.e (Eff.box (cs := [_, _]) rfl rfl rfl) ?_
 rintro _ _ ⟨b1, rfl, rfl⟩
 refine G.r (Runs.assign rfl) ?_
 refine G.nt ?_
 refine W.seq ?_
 refine W.sr ?_
 refine G.r (Runs.lds (vs := [_, _]) ty25) ?_
 refine G.e (Eff.call call49 rfl rfl (Light17_ok (nd := nd) (Sl.f hrx))) ?_
 rintro _ _ ⟨_, _, ⟨rfl, rfl⟩, rfl, rfl⟩
 refine G.r (Runs.not rfl) ?_
 refine G.nt ?_
 refine W.cond rfl (fun c22 => ?_) (fun c22 => ?_)
 ·refine W.sr ?_
  refine G.e (Eff.call call42 rfl rfl (Awake17_ok (TabRd.fit hT Fit.m))) ?_
  rintro _ _ ⟨_, _, ⟨rfl, rfl⟩, rfl, rfl⟩
  refine G.r (Runs.assign rfl) ?_
  refine G.nt ?_
  refine W.ret ?_
  refine V.then_ret ?_
  exact V.ret1 rfl rfl (I) Fit.m ⟨rfl, rfl⟩
 ·refine W.skip ?_
  refine V.then ?_
  refine W.sr ?_
  refine G.r (Runs.move rfl) ?_
  have hrb : rx.length ≤ 25 := lightK_len (by simpa using c22)
  refine G.e (Eff.call call13 rfl rfl New_ok) ?_
  rintro _ _ ⟨_, _, ⟨dk2, rfl, rfl⟩, rfl, rfl⟩
  show G Tryd.prog κ _ _ _ _ ([(25, .pointer (some ⟨dk2, 0, none⟩)), (24, .slice la ln lc), (22, .bool (!lightK nd rx)), (21, .bool (lightK nd rx)), (20, .agg #[I64 (nd), .slice ra rx.length rc]), (6, .bool false), (3, .pointer (some ⟨b1, 0, none⟩)), (0, .agg #[I64 (nd), .slice ra rx.length rc]), (1, .slice la ln lc), (2, I64 (kk))] : Env) (blk dk2 [.slice la ln lc, I64 (0)] 96 :: blk b1 [I64 (nd), .slice ra rx.length rc] 25 :: I)
  have hi0 : (0 : Int) ≤ 0 := Int.le_refl _
  refine G.e (Eff.call call12 rfl rfl (MkGraph_at (by repeat (first | exact AtF.head _ _ | apply AtF.tail)) (fun _ => Sl.fit hl Fit.m) (by omega)  (by omega))) ?_
  rintro _ _ ⟨_, _, ⟨⟨nd3, ad4, cp5, es6, i7⟩, ⟨⟨rfl, hges6⟩, hi7⟩, rfl⟩, rfl, rfl⟩
  show G Tryd.prog κ _ _ _ _ ([(26, .agg #[I64 (nd3), .slice ad4 es6.length cp5]), (25, .pointer (some ⟨dk2, 0, none⟩)), (24, .slice la ln lc), (22, .bool (!lightK nd rx)), (21, .bool (lightK nd rx)), (20, .agg #[I64 (nd), .slice ra rx.length rc]), (6, .bool false), (3, .pointer (some ⟨b1, 0, none⟩)), (0, .agg #[I64 (nd), .slice ra rx.length rc]), (1, .slice la ln lc), (2, I64 (kk))] : Env) (vc 38 (.slice ad4 es6.length cp5) (es6) :: blk dk2 [.slice la ln lc, I64 (i7)] 96 :: blk b1 [I64 (nd), .slice ra rx.length rc] 25 :: I)
  have hi7 : 0 ≤ i7 := hi7
  dsimp only at hges6
  have hG := hges6.2.1
  have hel := hges6.2.2
  have hnd := hges6.1
  refine G.e (Eff.alloc ty25 rfl) ?_
  rintro _ _ ⟨b8, rfl, rfl⟩
  refine G.e (Eff.st (cs := [_, _]) (vs := [_, _]) (cs' := [_, _]) ty25) ?_
  rintro _ _ ⟨rfl, rfl⟩
  refine G.nt ?_
  refine W.seq ?_
  refine W.sr ?_
  refine G.r (Runs.lds (vs := [_, _]) ty25) ?_
  refine G.r (Runs.lds (vs := [_, _]) ty25) ?_
  refine G.e (Eff.bs (α := GrV) (cs := [_, _, _, _]) (xs := [⟨nd3, ad4, cp5, es6⟩, ⟨nd, ra, rc, rx⟩]) Tryd.underlying59 ty25 rfl rfl (by decide) (by decide) rfl rfl rfl rfl) ?_
  rintro _ _ ⟨ad9, rfl, rfl⟩
  have hhg : HeldGr κ (vc 38 (.slice ad4 es6.length cp5) (es6) :: I) ([⟨nd3, ad4, cp5, es6⟩, ⟨nd, ra, rc, rx⟩] : List GrV) := (HeldGr.cons (show Sl κ _ (.slice ad4 es6.length cp5) es6 from Sl.vec (by repeat (first | exact List.mem_cons_self | apply List.mem_cons_of_mem))) (HeldGr.cons (show Sl κ _ (.slice ra rx.length rc) rx from Sl.fit hrx Fit.m) HeldGr.nil))
  have hgl2 : ([⟨nd3, ad4, cp5, es6⟩, ⟨nd, ra, rc, rx⟩] : List GrV).length = 2 := rfl
  have hgb : ∀ r ∈ ([⟨nd3, ad4, cp5, es6⟩, ⟨nd, ra, rc, rx⟩] : List GrV), r.xs.length ≤ 400 := by intro r hr; simp only [List.mem_cons, List.not_mem_nil, or_false] at hr; rcases hr with rfl | rfl <;> dsimp only <;> omega
  refine G.r (Runs.lens Tryd.underlying59 rfl) ?_
  refine G.r (Runs.move rfl) ?_
  refine G.nt ?_
  refine W.sub (L' := [(31, _), (30, _), (29, _), (2, _)]) (Sub.cons rfl (Sub.cons rfl (Sub.cons rfl (Sub.cons rfl Sub.nil)))) ?_
  refine W.block ?_
  refine W.loop (σ := Nat × Int) (fun s => ([(2, I64 (kk)), (29, .slice ad9 2 2), (30, I64 (((2 : Nat) : Int))), (31, I64 (((s.1 : Nat) : Int)))] : Env)) (fun s => vc 25 (.slice ad9 2 2) (([⟨nd3, ad4, cp5, es6⟩, ⟨nd, ra, rc, rx⟩] : List GrV)) :: blk b8 [I64 (nd3), .slice ad4 es6.length cp5] 25 :: vc 38 (.slice ad4 es6.length cp5) (es6) :: blk dk2 [.slice la ln lc, I64 (s.2)] 96 :: blk b1 [I64 (nd), .slice ra rx.length rc] 25 :: I) (fun s => (s.1 ≤ ([⟨nd3, ad4, cp5, es6⟩, ⟨nd, ra, rc, rx⟩] : List GrV).length) ∧ (0 ≤ s.2)) (fun s => ([⟨nd3, ad4, cp5, es6⟩, ⟨nd, ra, rc, rx⟩] : List GrV).length - s.1) (0, i7) (show ((0 : Nat) ≤ ([⟨nd3, ad4, cp5, es6⟩, ⟨nd, ra, rc, rx⟩] : List GrV).length) ∧ (0 ≤ (i7 : Int)) from ⟨(by omega), (by omega)⟩) (Sub.cons rfl (Sub.cons rfl (Sub.cons rfl (Sub.cons lookO Sub.nil)))) (show Fit κ _ (vc 25 (.slice ad9 2 2) (([⟨nd3, ad4, cp5, es6⟩, ⟨nd, ra, rc, rx⟩] : List GrV)) :: blk b8 [I64 (nd3), .slice ad4 es6.length cp5] 25 :: vc 38 (.slice ad4 es6.length cp5) (es6) :: blk dk2 [.slice la ln lc, I64 ((i7))] 96 :: blk b1 [I64 (nd), .slice ra rx.length rc] 25 :: I) from Fit.sub) ?_
  rintro ⟨k, iqz⟩ hp
  obtain ⟨hk, hiqz⟩ : (k ≤ ([⟨nd3, ad4, cp5, es6⟩, ⟨nd, ra, rc, rx⟩] : List GrV).length) ∧ (0 ≤ iqz) := hp
  show W Tryd.prog κ 91 _ _ ([(2, I64 (kk)), (29, .slice ad9 2 2), (30, I64 (((2 : Nat) : Int))), (31, I64 (((k : Nat) : Int)))] : Env) (vc 25 (.slice ad9 2 2) (([⟨nd3, ad4, cp5, es6⟩, ⟨nd, ra, rc, rx⟩] : List GrV)) :: blk b8 [I64 (nd3), .slice ad4 es6.length cp5] 25 :: vc 38 (.slice ad4 es6.length cp5) (es6) :: blk dk2 [.slice la ln lc, I64 (iqz)] 96 :: blk b1 [I64 (nd), .slice ra rx.length rc] 25 :: I)
  have hxl : k < ([⟨nd3, ad4, cp5, es6⟩, ⟨nd, ra, rc, rx⟩] : List GrV).length → (at_ ([⟨nd3, ad4, cp5, es6⟩, ⟨nd, ra, rc, rx⟩] : List GrV) ((k : Nat) : Int)).xs.length ≤ 400 := fun h => hgb _ (at_mem (by omega) (by omega))
  refine W.sr ?_
  refine G.r (Runs.lss rfl rfl) ?_
  refine G.nt ?_
  refine W.seq ?_
  refine W.ite rfl (fun c32 => ?_) (fun c32 => ?_)
  ·refine W.skip ?_
   refine V.then ?_
   refine W.seq ?_
   refine W.block ?_
   refine W.sr ?_
   refine G.r (Runs.idx (α := GrV) (xs := ([⟨nd3, ad4, cp5, es6⟩, ⟨nd, ra, rc, rx⟩] : List GrV)) Tryd.underlying59 ty25 rfl rfl Sl.o (by omega) (by omega)) ?_
   refine G.r (Runs.gets (α := GrV) (xs := ([⟨nd3, ad4, cp5, es6⟩, ⟨nd, ra, rc, rx⟩] : List GrV)) ty25 rfl Sl.o (by omega) (by omega)) ?_
   refine G.e (Eff.alloc ty25 rfl) ?_
   rintro _ _ ⟨b10, rfl, rfl⟩
   refine G.e (Eff.st (cs := [_, _]) (vs := [_, _]) (cs' := [_, _]) ty25) ?_
   rintro _ _ ⟨rfl, rfl⟩
   refine G.nt ?_
   refine W.sr ?_
   refine G.r (Runs.move rfl) ?_
   refine G.r (Runs.move rfl) ?_
   refine G.e (Eff.call call54 rfl rfl (Mod_ok (by omega) (by omega))) ?_
   rintro _ _ ⟨_, _, ⟨x11, rfl, hx11, rfl⟩, rfl, rfl⟩
   refine G.e (Eff.bs (α := Int) (cs := [_, _]) (xs := [kk, x11]) Tryd.underlying22 ty3 rfl rfl (by decide) (by decide) rfl rfl rfl rfl) ?_
   rintro _ _ ⟨ad12, rfl, rfl⟩
   refine G.r (Runs.lens Tryd.underlying22 rfl) ?_
   refine G.r (Runs.move rfl) ?_
   refine G.nt ?_
   refine W.sub (L' := [(40, _), (39, _), (38, _), (9, _), (2, _), (29, _), (30, _), (31, _)]) (Sub.cons rfl (Sub.cons rfl (Sub.cons rfl (Sub.cons rfl (Sub.cons rfl (Sub.cons rfl (Sub.cons rfl (Sub.cons rfl Sub.nil)))))))) ?_
   refine W.block ?_
   refine W.loop (σ := Nat) (fun s => ([(2, I64 (kk)), (9, .pointer (some ⟨b10, 0, none⟩)), (29, .slice ad9 2 2), (30, I64 (((2 : Nat) : Int))), (31, I64 (((k : Nat) : Int))), (38, .slice ad12 2 2), (39, I64 (((2 : Nat) : Int))), (40, I64 (((s : Nat) : Int)))] : Env)) (fun s => vc 3 (.slice ad12 2 2) (([kk, x11] : List Int)) :: blk b10 [I64 ((at_ ([⟨nd3, ad4, cp5, es6⟩, ⟨nd, ra, rc, rx⟩] : List GrV) ((k : Nat) : Int)).n), .slice (at_ ([⟨nd3, ad4, cp5, es6⟩, ⟨nd, ra, rc, rx⟩] : List GrV) ((k : Nat) : Int)).a (at_ ([⟨nd3, ad4, cp5, es6⟩, ⟨nd, ra, rc, rx⟩] : List GrV) ((k : Nat) : Int)).xs.length (at_ ([⟨nd3, ad4, cp5, es6⟩, ⟨nd, ra, rc, rx⟩] : List GrV) ((k : Nat) : Int)).c] 25 :: vc 25 (.slice ad9 2 2) (([⟨nd3, ad4, cp5, es6⟩, ⟨nd, ra, rc, rx⟩] : List GrV)) :: blk b8 [I64 (nd3), .slice ad4 es6.length cp5] 25 :: vc 38 (.slice ad4 es6.length cp5) (es6) :: blk dk2 [.slice la ln lc, I64 (iqz)] 96 :: blk b1 [I64 (nd), .slice ra rx.length rc] 25 :: I) (fun s => (s ≤ ([kk, x11] : List Int).length)) (fun s => ([kk, x11] : List Int).length - s) (0) (show ((0 : Nat) ≤ ([kk, x11] : List Int).length) from (by omega)) (Sub.cons rfl (Sub.cons rfl (Sub.cons rfl (Sub.cons rfl (Sub.cons rfl (Sub.cons rfl (Sub.cons rfl (Sub.cons lookO Sub.nil)))))))) (show Fit κ _ (vc 3 (.slice ad12 2 2) (([kk, x11] : List Int)) :: blk b10 [I64 ((at_ ([⟨nd3, ad4, cp5, es6⟩, ⟨nd, ra, rc, rx⟩] : List GrV) ((k : Nat) : Int)).n), .slice (at_ ([⟨nd3, ad4, cp5, es6⟩, ⟨nd, ra, rc, rx⟩] : List GrV) ((k : Nat) : Int)).a (at_ ([⟨nd3, ad4, cp5, es6⟩, ⟨nd, ra, rc, rx⟩] : List GrV) ((k : Nat) : Int)).xs.length (at_ ([⟨nd3, ad4, cp5, es6⟩, ⟨nd, ra, rc, rx⟩] : List GrV) ((k : Nat) : Int)).c] 25 :: vc 25 (.slice ad9 2 2) (([⟨nd3, ad4, cp5, es6⟩, ⟨nd, ra, rc, rx⟩] : List GrV)) :: blk b8 [I64 (nd3), .slice ad4 es6.length cp5] 25 :: vc 38 (.slice ad4 es6.length cp5) (es6) :: blk dk2 [.slice la ln lc, I64 (iqz)] 96 :: blk b1 [I64 (nd), .slice ra rx.length rc] 25 :: I) from Fit.sub) ?_
   rintro j hp
   have hj : (j ≤ ([kk, x11] : List Int).length) := hp
   show W Tryd.prog κ 91 _ _ ([(2, I64 (kk)), (9, .pointer (some ⟨b10, 0, none⟩)), (29, .slice ad9 2 2), (30, I64 (((2 : Nat) : Int))), (31, I64 (((k : Nat) : Int))), (38, .slice ad12 2 2), (39, I64 (((2 : Nat) : Int))), (40, I64 (((j : Nat) : Int)))] : Env) (vc 3 (.slice ad12 2 2) (([kk, x11] : List Int)) :: blk b10 [I64 ((at_ ([⟨nd3, ad4, cp5, es6⟩, ⟨nd, ra, rc, rx⟩] : List GrV) ((k : Nat) : Int)).n), .slice (at_ ([⟨nd3, ad4, cp5, es6⟩, ⟨nd, ra, rc, rx⟩] : List GrV) ((k : Nat) : Int)).a (at_ ([⟨nd3, ad4, cp5, es6⟩, ⟨nd, ra, rc, rx⟩] : List GrV) ((k : Nat) : Int)).xs.length (at_ ([⟨nd3, ad4, cp5, es6⟩, ⟨nd, ra, rc, rx⟩] : List GrV) ((k : Nat) : Int)).c] 25 :: vc 25 (.slice ad9 2 2) (([⟨nd3, ad4, cp5, es6⟩, ⟨nd, ra, rc, rx⟩] : List GrV)) :: blk b8 [I64 (nd3), .slice ad4 es6.length cp5] 25 :: vc 38 (.slice ad4 es6.length cp5) (es6) :: blk dk2 [.slice la ln lc, I64 (iqz)] 96 :: blk b1 [I64 (nd), .slice ra rx.length rc] 25 :: I)
   have hj2 : ([kk, x11] : List Int).length = 2 := rfl
   refine W.sr ?_
   refine G.r (Runs.lss rfl rfl) ?_
   refine G.nt ?_
   refine W.seq ?_
   refine W.ite rfl (fun c41 => ?_) (fun c41 => ?_)
   ·refine W.skip ?_
    refine V.then ?_
    refine W.seq ?_
    refine W.block ?_
    refine W.sr ?_
    refine G.r (Runs.idx (α := Int) (xs := ([kk, x11] : List Int)) Tryd.underlying22 ty3 rfl rfl Sl.o (by omega) (by omega)) ?_
    refine G.r (Runs.get (xs := ([kk, x11] : List Int)) ty3 rfl Sl.o (by omega) (by omega)) ?_
    refine G.r (Runs.assign rfl) ?_
    refine G.nt ?_
    refine W.sr ?_
    refine G.r (Runs.lds (vs := [_, _]) ty25) ?_
    refine G.r (Runs.move rfl) ?_
    refine G.e (Eff.call call55 rfl rfl (KClasses_ok (nd := ((at_ ([⟨nd3, ad4, cp5, es6⟩, ⟨nd, ra, rc, rx⟩] : List GrV) ((k : Nat) : Int)).n)) (Sl.fit (HeldGr.at hhg (i := ((k : Nat) : Int)) (by omega) (by omega)) (Fit.of_sublist (by repeat (first | exact List.Sublist.refl _ | apply List.Sublist.cons_cons | apply List.Sublist.cons | exact List.sublist_append_right _ _ | apply sub_app)))) (at_ ([kk, x11] : List Int) ((j : Nat) : Int)) (TabRd.fit hT Fit.m))) ?_
    rintro _ _ ⟨_, _, ⟨ad13, cp14, rs15, rfl, hrs15, rfl⟩, rfl, rfl⟩
    refine G.fit (J := vc 22 (.slice ad13 rs15.length cp14) (rs15) :: vc 3 (.slice ad12 2 2) (([kk, x11] : List Int)) :: blk b10 [I64 ((at_ ([⟨nd3, ad4, cp5, es6⟩, ⟨nd, ra, rc, rx⟩] : List GrV) ((k : Nat) : Int)).n), .slice (at_ ([⟨nd3, ad4, cp5, es6⟩, ⟨nd, ra, rc, rx⟩] : List GrV) ((k : Nat) : Int)).a (at_ ([⟨nd3, ad4, cp5, es6⟩, ⟨nd, ra, rc, rx⟩] : List GrV) ((k : Nat) : Int)).xs.length (at_ ([⟨nd3, ad4, cp5, es6⟩, ⟨nd, ra, rc, rx⟩] : List GrV) ((k : Nat) : Int)).c] 25 :: vc 25 (.slice ad9 2 2) (([⟨nd3, ad4, cp5, es6⟩, ⟨nd, ra, rc, rx⟩] : List GrV)) :: blk b8 [I64 (nd3), .slice ad4 es6.length cp5] 25 :: vc 38 (.slice ad4 es6.length cp5) (es6) :: blk dk2 [.slice la ln lc, I64 (iqz)] 96 :: blk b1 [I64 (nd), .slice ra rx.length rc] 25 :: (ownR 3 rs15 ++ I)) Fit.s ?_
    refine G.r (Runs.move rfl) ?_
    refine G.r (Runs.extract rfl rfl) ?_
    refine G.r (Runs.extract rfl rfl) ?_
    refine G.r (Runs.assign rfl) ?_
    refine G.r (Runs.assign rfl) ?_
    refine G.nt ?_
    refine W.sub (L' := [(13, _), (12, _), (11, _), (2, _), (9, _), (29, _), (30, _), (31, _), (38, _), (39, _), (40, _)]) (Sub.cons rfl (Sub.cons rfl (Sub.cons rfl (Sub.cons rfl (Sub.cons rfl (Sub.cons rfl (Sub.cons rfl (Sub.cons rfl (Sub.cons rfl (Sub.cons rfl (Sub.cons rfl Sub.nil))))))))))) ?_
    refine W.sr ?_
    refine G.r (Runs.lds (vs := [_, _]) ty25) ?_
    refine G.r (Runs.move rfl) ?_
    refine G.e (Eff.call call56 rfl rfl (Classes17_ok (nd := ((at_ ([⟨nd3, ad4, cp5, es6⟩, ⟨nd, ra, rc, rx⟩] : List GrV) ((k : Nat) : Int)).n)) (Sl.fit (HeldGr.at hhg (i := ((k : Nat) : Int)) (by omega) (by omega)) (Fit.of_sublist (by repeat (first | exact List.Sublist.refl _ | apply List.Sublist.cons_cons | apply List.Sublist.cons | exact List.sublist_append_right _ _ | apply sub_app)))) (at_ ([kk, x11] : List Int) ((j : Nat) : Int)) (by have := hxl (by omega); omega))) ?_
    rintro _ _ ⟨_, _, ⟨ad16, cp17, rs18, rfl, hrs18, rfl⟩, rfl, rfl⟩
    refine G.fit (J := vc 22 (.slice ad16 rs18.length cp17) (rs18) :: vc 22 (.slice ad13 rs15.length cp14) (rs15) :: vc 3 (.slice ad12 2 2) (([kk, x11] : List Int)) :: blk b10 [I64 ((at_ ([⟨nd3, ad4, cp5, es6⟩, ⟨nd, ra, rc, rx⟩] : List GrV) ((k : Nat) : Int)).n), .slice (at_ ([⟨nd3, ad4, cp5, es6⟩, ⟨nd, ra, rc, rx⟩] : List GrV) ((k : Nat) : Int)).a (at_ ([⟨nd3, ad4, cp5, es6⟩, ⟨nd, ra, rc, rx⟩] : List GrV) ((k : Nat) : Int)).xs.length (at_ ([⟨nd3, ad4, cp5, es6⟩, ⟨nd, ra, rc, rx⟩] : List GrV) ((k : Nat) : Int)).c] 25 :: vc 25 (.slice ad9 2 2) (([⟨nd3, ad4, cp5, es6⟩, ⟨nd, ra, rc, rx⟩] : List GrV)) :: blk b8 [I64 (nd3), .slice ad4 es6.length cp5] 25 :: vc 38 (.slice ad4 es6.length cp5) (es6) :: blk dk2 [.slice la ln lc, I64 (iqz)] 96 :: blk b1 [I64 (nd), .slice ra rx.length rc] 25 :: (ownR 3 rs18 ++ (ownR 3 rs15 ++ I))) Fit.s ?_
    refine G.r (Runs.move rfl) ?_
    refine G.r (Runs.extract rfl rfl) ?_
    refine G.r (Runs.extract rfl rfl) ?_
    refine G.r (Runs.assign rfl) ?_
    refine G.r (Runs.assign rfl) ?_
    refine G.nt ?_
    refine W.sub (L' := [(15, _), (14, _), (13, _), (12, _), (11, _), (2, _), (9, _), (29, _), (30, _), (31, _), (38, _), (39, _), (40, _)]) (Sub.cons rfl (Sub.cons rfl (Sub.cons rfl (Sub.cons rfl (Sub.cons rfl (Sub.cons rfl (Sub.cons rfl (Sub.cons rfl (Sub.cons rfl (Sub.cons rfl (Sub.cons rfl (Sub.cons rfl (Sub.cons rfl Sub.nil))))))))))))) ?_
    refine W.sr ?_
    refine G.r (Runs.lds (vs := [_, _]) ty25) ?_
    refine G.r (Runs.move rfl) ?_
    refine G.e (Eff.call call57 rfl rfl (KParts_ok (nd := ((at_ ([⟨nd3, ad4, cp5, es6⟩, ⟨nd, ra, rc, rx⟩] : List GrV) ((k : Nat) : Int)).n)) (Sl.fit (HeldGr.at hhg (i := ((k : Nat) : Int)) (by omega) (by omega)) (Fit.of_sublist (by repeat (first | exact List.Sublist.refl _ | apply List.Sublist.cons_cons | apply List.Sublist.cons | exact List.sublist_append_right _ _ | apply sub_app)))) (at_ ([kk, x11] : List Int) ((j : Nat) : Int)) (TabRd.fit hT Fit.m))) ?_
    rintro _ _ ⟨_, _, ⟨ad19, cp20, rs21, rfl, ⟨hrs21, hbrs21⟩, rfl⟩, rfl, rfl⟩
    refine G.fit (J := vc 22 (.slice ad19 rs21.length cp20) (rs21) :: vc 22 (.slice ad16 rs18.length cp17) (rs18) :: vc 22 (.slice ad13 rs15.length cp14) (rs15) :: vc 3 (.slice ad12 2 2) (([kk, x11] : List Int)) :: blk b10 [I64 ((at_ ([⟨nd3, ad4, cp5, es6⟩, ⟨nd, ra, rc, rx⟩] : List GrV) ((k : Nat) : Int)).n), .slice (at_ ([⟨nd3, ad4, cp5, es6⟩, ⟨nd, ra, rc, rx⟩] : List GrV) ((k : Nat) : Int)).a (at_ ([⟨nd3, ad4, cp5, es6⟩, ⟨nd, ra, rc, rx⟩] : List GrV) ((k : Nat) : Int)).xs.length (at_ ([⟨nd3, ad4, cp5, es6⟩, ⟨nd, ra, rc, rx⟩] : List GrV) ((k : Nat) : Int)).c] 25 :: vc 25 (.slice ad9 2 2) (([⟨nd3, ad4, cp5, es6⟩, ⟨nd, ra, rc, rx⟩] : List GrV)) :: blk b8 [I64 (nd3), .slice ad4 es6.length cp5] 25 :: vc 38 (.slice ad4 es6.length cp5) (es6) :: blk dk2 [.slice la ln lc, I64 (iqz)] 96 :: blk b1 [I64 (nd), .slice ra rx.length rc] 25 :: (ownR 3 rs21 ++ (ownR 3 rs18 ++ (ownR 3 rs15 ++ I)))) Fit.s ?_
    refine G.r (Runs.move rfl) ?_
    refine G.r (Runs.extract rfl rfl) ?_
    refine G.r (Runs.extract rfl rfl) ?_
    refine G.r (Runs.assign rfl) ?_
    refine G.r (Runs.assign rfl) ?_
    refine G.nt ?_
    refine W.sub (L' := [(17, _), (16, _), (15, _), (14, _), (13, _), (12, _), (11, _), (2, _), (9, _), (29, _), (30, _), (31, _), (38, _), (39, _), (40, _)]) (Sub.cons rfl (Sub.cons rfl (Sub.cons rfl (Sub.cons rfl (Sub.cons rfl (Sub.cons rfl (Sub.cons rfl (Sub.cons rfl (Sub.cons rfl (Sub.cons rfl (Sub.cons rfl (Sub.cons rfl (Sub.cons rfl (Sub.cons rfl (Sub.cons rfl Sub.nil))))))))))))))) ?_
    refine W.sr ?_
    refine G.r (Runs.lds (vs := [_, _]) ty25) ?_
    refine G.r (Runs.move rfl) ?_
    refine G.e (Eff.call call58 rfl rfl (Parts17_ok (nd := ((at_ ([⟨nd3, ad4, cp5, es6⟩, ⟨nd, ra, rc, rx⟩] : List GrV) ((k : Nat) : Int)).n)) (Sl.fit (HeldGr.at hhg (i := ((k : Nat) : Int)) (by omega) (by omega)) (Fit.of_sublist (by repeat (first | exact List.Sublist.refl _ | apply List.Sublist.cons_cons | apply List.Sublist.cons | exact List.sublist_append_right _ _ | apply sub_app)))) (by have := hxl (by omega); omega) (at_ ([kk, x11] : List Int) ((j : Nat) : Int)))) ?_
    rintro _ _ ⟨_, _, ⟨ad22, cp23, rs24, rfl, ⟨hrs24, hbrs24⟩, rfl⟩, rfl, rfl⟩
    refine G.fit (J := vc 22 (.slice ad22 rs24.length cp23) (rs24) :: vc 22 (.slice ad19 rs21.length cp20) (rs21) :: vc 22 (.slice ad16 rs18.length cp17) (rs18) :: vc 22 (.slice ad13 rs15.length cp14) (rs15) :: vc 3 (.slice ad12 2 2) (([kk, x11] : List Int)) :: blk b10 [I64 ((at_ ([⟨nd3, ad4, cp5, es6⟩, ⟨nd, ra, rc, rx⟩] : List GrV) ((k : Nat) : Int)).n), .slice (at_ ([⟨nd3, ad4, cp5, es6⟩, ⟨nd, ra, rc, rx⟩] : List GrV) ((k : Nat) : Int)).a (at_ ([⟨nd3, ad4, cp5, es6⟩, ⟨nd, ra, rc, rx⟩] : List GrV) ((k : Nat) : Int)).xs.length (at_ ([⟨nd3, ad4, cp5, es6⟩, ⟨nd, ra, rc, rx⟩] : List GrV) ((k : Nat) : Int)).c] 25 :: vc 25 (.slice ad9 2 2) (([⟨nd3, ad4, cp5, es6⟩, ⟨nd, ra, rc, rx⟩] : List GrV)) :: blk b8 [I64 (nd3), .slice ad4 es6.length cp5] 25 :: vc 38 (.slice ad4 es6.length cp5) (es6) :: blk dk2 [.slice la ln lc, I64 (iqz)] 96 :: blk b1 [I64 (nd), .slice ra rx.length rc] 25 :: (ownR 3 rs24 ++ (ownR 3 rs21 ++ (ownR 3 rs18 ++ (ownR 3 rs15 ++ I))))) Fit.s ?_
    refine G.r (Runs.move rfl) ?_
    refine G.r (Runs.extract rfl rfl) ?_
    refine G.r (Runs.extract rfl rfl) ?_
    refine G.r (Runs.assign rfl) ?_
    refine G.r (Runs.assign rfl) ?_
    refine G.nt ?_
    refine W.sub (L' := [(19, _), (18, _), (17, _), (16, _), (15, _), (14, _), (13, _), (12, _), (2, _), (9, _), (29, _), (30, _), (31, _), (38, _), (39, _), (40, _)]) (Sub.cons rfl (Sub.cons rfl (Sub.cons rfl (Sub.cons rfl (Sub.cons rfl (Sub.cons rfl (Sub.cons rfl (Sub.cons rfl (Sub.cons rfl (Sub.cons rfl (Sub.cons rfl (Sub.cons rfl (Sub.cons rfl (Sub.cons rfl (Sub.cons rfl (Sub.cons rfl Sub.nil)))))))))))))))) ?_
    refine W.sr ?_
    refine G.r (Runs.move rfl) ?_
    refine G.r (Runs.move rfl) ?_
    refine G.r (Runs.neq rfl rfl) ?_
    refine G.r (Runs.move rfl) ?_
    refine G.split (d := 71) rfl (fun g71 => ?_) (fun g71 => ?_)
    ·exact absurd rfl g71
    ·refine G.ro (Runs.move rfl) ?_
     refine G.ro (Runs.move rfl) ?_
     refine G.ro (Runs.neq rfl rfl) ?_
     refine G.r (Runs.pickf rfl rfl) ?_
     refine G.r (Runs.move rfl) ?_
     refine G.split (d := 76) rfl (fun g76 => ?_) (fun g76 => ?_)
     ·exact absurd rfl g76
     ·refine G.ro (Runs.move rfl) ?_
      refine G.ro (Runs.move rfl) ?_
      refine G.eff (Wanted.on rfl rfl rfl) (Eff.call call38 rfl rfl (SameAll_ok Sl.o Sl.o (ownR_in (e := 3) (rs := rs15) (fun x hx => by repeat (first | exact List.mem_append_left _ hx | apply List.mem_append_right | apply List.mem_cons_of_mem))) (ownR_in (e := 3) (rs := rs18) (fun x hx => by repeat (first | exact List.mem_append_left _ hx | apply List.mem_append_right | apply List.mem_cons_of_mem))))) ?_
      rintro _ _ ⟨_, _, ⟨rfl, rfl⟩, rfl, rfl⟩
      refine G.ro (Runs.notd rfl) ?_
      refine G.r (Runs.pickf rfl rfl) ?_
      refine G.r (Runs.move rfl) ?_
      refine G.split (d := 82) rfl (fun g82 => ?_) (fun g82 => ?_)
      ·exact absurd (by rw [hrs15, hrs18]) g82
      ·refine G.ro (Runs.move rfl) ?_
       refine G.ro (Runs.move rfl) ?_
       refine G.eff (Wanted.on rfl rfl rfl) (Eff.call call38 rfl rfl (SameAll_ok Sl.o Sl.o (ownR_in (e := 3) (rs := rs21) (fun x hx => by repeat (first | exact List.mem_append_left _ hx | apply List.mem_append_right | apply List.mem_cons_of_mem))) (ownR_in (e := 3) (rs := rs24) (fun x hx => by repeat (first | exact List.mem_append_left _ hx | apply List.mem_append_right | apply List.mem_cons_of_mem))))) ?_
       rintro _ _ ⟨_, _, ⟨rfl, rfl⟩, rfl, rfl⟩
       refine G.ro (Runs.notd rfl) ?_
       refine G.r (Runs.pickf rfl rfl) ?_
       refine G.nt ?_
       refine W.sub (L' := [(87, _), (2, _), (9, _), (29, _), (30, _), (31, _), (38, _), (39, _), (40, _)]) (Sub.cons rfl (Sub.cons rfl (Sub.cons rfl (Sub.cons rfl (Sub.cons rfl (Sub.cons rfl (Sub.cons rfl (Sub.cons rfl (Sub.cons rfl Sub.nil))))))))) ?_
       refine W.ite rfl (fun c87 => ?_) (fun c87 => ?_)
       ·exact absurd (PartsR.uniq hrs21 hrs24) c87
       ·refine W.skip ?_
        refine V.block_normal ?_
        refine V.then ?_
        refine W.region ?_
        refine G.r (Runs.add rfl rfl (by unfold InR; omega)) ?_
        refine G.r (Runs.move rfl) ?_
        refine G.nil ?_
        exact V.next ((j + 1)) (show ((j + 1 : Nat) ≤ ([kk, x11] : List Int).length) from (by omega)) (show ([kk, x11] : List Int).length - (j + 1 : Nat) < ([kk, x11] : List Int).length - j from (by omega)) (Sub.cons rfl (Sub.cons rfl (Sub.cons rfl (Sub.cons rfl (Sub.cons rfl (Sub.cons rfl (Sub.cons rfl (Sub.cons lookO Sub.nil)))))))) (show Fit κ _ (vc 3 (.slice ad12 2 2) (([kk, x11] : List Int)) :: blk b10 [I64 ((at_ ([⟨nd3, ad4, cp5, es6⟩, ⟨nd, ra, rc, rx⟩] : List GrV) ((k : Nat) : Int)).n), .slice (at_ ([⟨nd3, ad4, cp5, es6⟩, ⟨nd, ra, rc, rx⟩] : List GrV) ((k : Nat) : Int)).a (at_ ([⟨nd3, ad4, cp5, es6⟩, ⟨nd, ra, rc, rx⟩] : List GrV) ((k : Nat) : Int)).xs.length (at_ ([⟨nd3, ad4, cp5, es6⟩, ⟨nd, ra, rc, rx⟩] : List GrV) ((k : Nat) : Int)).c] 25 :: vc 25 (.slice ad9 2 2) (([⟨nd3, ad4, cp5, es6⟩, ⟨nd, ra, rc, rx⟩] : List GrV)) :: blk b8 [I64 (nd3), .slice ad4 es6.length cp5] 25 :: vc 38 (.slice ad4 es6.length cp5) (es6) :: blk dk2 [.slice la ln lc, I64 (iqz)] 96 :: blk b1 [I64 (nd), .slice ra rx.length rc] 25 :: I) from (Fit.of_sublist (by repeat (first | exact List.Sublist.refl _ | apply List.Sublist.cons_cons | apply List.Sublist.cons | exact List.sublist_append_right _ _ | apply sub_app))))
   ·refine W.exit ?_
    refine V.then_exit ?_
    refine V.then_exit ?_
    refine V.block_hit ?_
    refine V.block_normal ?_
    refine V.then ?_
    refine W.region ?_
    refine G.r (Runs.add rfl rfl (by unfold InR; omega)) ?_
    refine G.r (Runs.move rfl) ?_
    refine G.nil ?_
    exact V.next ((k + 1), (iqz)) (show ((k + 1 : Nat) ≤ ([⟨nd3, ad4, cp5, es6⟩, ⟨nd, ra, rc, rx⟩] : List GrV).length) ∧ (0 ≤ (iqz : Int)) from ⟨(by omega), (by omega)⟩) (show ([⟨nd3, ad4, cp5, es6⟩, ⟨nd, ra, rc, rx⟩] : List GrV).length - (k + 1 : Nat) < ([⟨nd3, ad4, cp5, es6⟩, ⟨nd, ra, rc, rx⟩] : List GrV).length - k from (by omega)) (Sub.cons rfl (Sub.cons rfl (Sub.cons rfl (Sub.cons lookO Sub.nil)))) (show Fit κ _ (vc 25 (.slice ad9 2 2) (([⟨nd3, ad4, cp5, es6⟩, ⟨nd, ra, rc, rx⟩] : List GrV)) :: blk b8 [I64 (nd3), .slice ad4 es6.length cp5] 25 :: vc 38 (.slice ad4 es6.length cp5) (es6) :: blk dk2 [.slice la ln lc, I64 ((iqz))] 96 :: blk b1 [I64 (nd), .slice ra rx.length rc] 25 :: I) from (Fit.of_sublist (by repeat (first | exact List.Sublist.refl _ | apply List.Sublist.cons_cons | apply List.Sublist.cons | exact List.sublist_append_right _ _ | apply sub_app))))
  ·refine W.exit ?_
   refine V.then_exit ?_
   refine V.then_exit ?_
   refine V.block_hit ?_
   refine V.then ?_
   refine W.sr ?_
   refine G.e (Eff.call call42 rfl rfl (Awake17_ok (TabRd.fit hT Fit.m))) ?_
   rintro _ _ ⟨_, _, ⟨rfl, rfl⟩, rfl, rfl⟩
   refine G.r (Runs.assign rfl) ?_
   refine G.nt ?_
   refine W.ret ?_
   exact V.ret1 rfl rfl (I) Fit.m ⟨rfl, rfl⟩

end Go.Sl
