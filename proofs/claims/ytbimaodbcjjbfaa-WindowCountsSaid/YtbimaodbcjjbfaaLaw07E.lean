/- A part of the proofs of statements of this seat: contracts of functions, and the plain laws that they lean on. No conditions. -/
import Derived.Test.YtbimaodbcjjbfaaWinZD
namespace Go.Sl
open Go.Proofs
set_option linter.unusedVariables false
set_option linter.unusedSimpArgs false
set_option maxRecDepth 4000
theorem cnt_next {nd mo : Int} {es : List Ev} {k : Nat} (hk : k < es.length) : (slideS 3 0 mo (es.take (k + 1))).1 = (stepL (slideS 3 0 mo (es.take k)).1 (at_ es (k : Int))).filter (inW 3 0 mo (at_ es (k : Int)).tm (stepL (slideS 3 0 mo (es.take k)).1 (at_ es (k : Int)))) := by
  rw [slideS_succ hk, evStep3]

set_option maxHeartbeats 4000000 in
theorem WindowCounts_walk {κ : Ctx} {I : List Item} {la : Option Addr} {ln lc : Nat} {ls : List Int} (hl : Sl κ I (.slice la ln lc) ls) (h : Int) :
    CallS Try.prog κ 17 [.slice la ln lc, I64 (h)] I (fun r J => r = .bool true ∧ I = J) := by
 refine CallS.enter (L := [(0, .slice la ln lc), (1, I64 (h))]) Try.func17 rfl rfl rfl rfl ?_
 refine W.sr ?_
 refine G.r (Runs.assign rfl) ?_
 refine G.nt ?_
 refine W.sr ?_
 refine G.r (Runs.move rfl) ?_
 refine G.e (Eff.call call22 rfl rfl New_ok) ?_
 rintro _ _ ⟨_, _, ⟨dk1, rfl, rfl⟩, rfl, rfl⟩
 show G Try.prog κ _ _ _ _ ([(25, .pointer (some ⟨dk1, 0, none⟩)), (24, .slice la ln lc), (4, .bool false), (0, .slice la ln lc), (1, I64 (h))] : Env) (blk dk1 [.slice la ln lc, I64 (0)] 129 :: I)
 have hi0 : (0 : Int) ≤ 0 := Int.le_refl _
 refine G.r (Runs.assign rfl) ?_
 refine G.nt ?_
 refine W.sr ?_
 refine G.r (Runs.move rfl) ?_
 refine G.e (Eff.call call25 rfl rfl (Next_ok (by repeat (first | exact AtF.head _ _ | apply AtF.tail)) (Sl.f hl) (by omega) (by omega))) ?_
 rintro _ _ ⟨_, _, ⟨x2, i3, rfl, hx2, hi3, rfl⟩, rfl, rfl⟩
 show G Try.prog κ _ _ _ _ ([(27, I64 (x2)), (26, .pointer (some ⟨dk1, 0, none⟩)), (5, .pointer (some ⟨dk1, 0, none⟩)), (25, .pointer (some ⟨dk1, 0, none⟩)), (24, .slice la ln lc), (4, .bool false), (0, .slice la ln lc), (1, I64 (h))] : Env) (blk dk1 [.slice la ln lc, I64 (i3)] 129 :: I)
 refine G.r (Runs.add rfl rfl (by unfold InR; omega)) ?_
 refine G.r (Runs.assign rfl) ?_
 refine G.nt ?_
 refine W.sr ?_
 refine G.r (Runs.move rfl) ?_
 refine G.e (Eff.call call74 rfl rfl (Mod_ok (by omega) (by omega))) ?_
 rintro _ _ ⟨_, _, ⟨x4, rfl, hx4, rfl⟩, rfl, rfl⟩
 refine G.r (Runs.assign rfl) ?_
 have hMo : 0 ≤ x4 ∧ x4 < 6 := by omega
 refine G.nt ?_
 refine W.sr ?_
 refine G.r (Runs.move rfl) ?_
 refine G.r (Runs.move rfl) ?_
 refine G.e (Eff.call call84 rfl rfl (MkEvents_at (by repeat (first | exact AtF.head _ _ | apply AtF.tail)) (fun _ => Sl.fit hl Fit.m) (by omega)  (by omega) (by omega))) ?_
 rintro _ _ ⟨_, _, ⟨⟨ad5, cp6, es7, i8⟩, ⟨⟨rfl, hses7⟩, hi8⟩, rfl⟩, rfl, rfl⟩
 show G Try.prog κ _ _ _ _ ([(33, .slice ad5 es7.length cp6), (32, I64 (2 + x2)), (31, .pointer (some ⟨dk1, 0, none⟩)), (7, I64 (x4)), (30, I64 (x4)), (29, I64 (h)), (6, I64 (2 + x2)), (28, I64 (2 + x2)), (27, I64 (x2)), (26, .pointer (some ⟨dk1, 0, none⟩)), (5, .pointer (some ⟨dk1, 0, none⟩)), (25, .pointer (some ⟨dk1, 0, none⟩)), (24, .slice la ln lc), (4, .bool false), (0, .slice la ln lc), (1, I64 (h))] : Env) (vc 122 (.slice ad5 es7.length cp6) (es7) :: blk dk1 [.slice la ln lc, I64 (i8)] 129 :: I)
 have hi8 : 0 ≤ i8 := hi8
 dsimp only at hses7
 refine G.r (Runs.assign rfl) ?_
 have hSt : StOk (2 + x2) es7 := hses7.1.st (by omega) (by omega)
 have hSl := hses7.2
 refine G.nt ?_
 refine W.sub (L' := [(8, _), (7, _), (6, _)]) (Sub.cons rfl (Sub.cons rfl (Sub.cons rfl Sub.nil))) ?_
 refine W.sr ?_
 refine G.r (Runs.move rfl) ?_
 refine G.r (Runs.build (cells := [_, _, _]) ty73 Try.underlying73 pl73 rfl rfl) ?_
 refine G.e (Eff.alloc ty73 rfl) ?_
 rintro _ _ ⟨b9, rfl, rfl⟩
 refine G.e (Eff.st (cs := [_, _, _]) (vs := [_, _, _]) (cs' := [_, _, _]) ty73) ?_
 rintro _ _ ⟨rfl, rfl⟩
 refine G.nt ?_
 refine W.sr ?_
 refine G.r (Runs.move rfl) ?_
 refine G.r (Runs.move rfl) ?_
 refine G.r (Runs.lds (vs := [_, _, _]) ty73) ?_
 refine G.e (Eff.call call85 rfl rfl (Slide_yes (nd := (2 + x2)) (kd := 3) (wd := 0) (mo := x4) (es := es7) Sl.o (slideE_zero hSt (ckw3 (by omega))))) ?_
 rintro _ _ ⟨_, _, ⟨ad10, cp11, rfl, rfl⟩, rfl, rfl⟩
 show G Try.prog κ _ _ _ _ ([(40, .tuple #[.slice ad10 ((slideS 3 0 x4 es7).2).length cp11, I64 (0)]), (39, .agg #[I64 (3), I64 (0), I64 (x4)]), (38, .slice ad5 es7.length cp6), (37, I64 (2 + x2)), (9, .pointer (some ⟨b9, 0, none⟩)), (35, .agg #[I64 (3), I64 (0), I64 (x4)]), (34, I64 (x4)), (8, .slice ad5 es7.length cp6), (7, I64 (x4)), (6, I64 (2 + x2))] : Env) (vc 122 (.slice ad10 ((slideS 3 0 x4 es7).2).length cp11) ((slideS 3 0 x4 es7).2) :: blk b9 [I64 (3), I64 (0), I64 (x4)] 73 :: vc 122 (.slice ad5 es7.length cp6) (es7) :: blk dk1 [.slice la ln lc, I64 (i8)] 129 :: I)
 refine G.r (Runs.move rfl) ?_
 refine G.r (Runs.extract rfl rfl) ?_
 refine G.r (Runs.extract rfl rfl) ?_
 refine G.r (Runs.assign rfl) ?_
 refine G.r (Runs.assign rfl) ?_
 refine G.nt ?_
 refine W.sub (L' := [(11, _), (10, _), (9, _), (8, _), (7, _), (6, _)]) (Sub.cons rfl (Sub.cons rfl (Sub.cons rfl (Sub.cons rfl (Sub.cons rfl (Sub.cons rfl Sub.nil)))))) ?_
 refine W.seq ?_
 refine W.sr ?_
 refine G.r (Runs.move rfl) ?_
 refine G.r (Runs.neq rfl rfl) ?_
 refine G.nt ?_
 refine W.ite rfl (fun c44 => ?_) (fun c44 => ?_)
 ·exact absurd rfl c44
 ·refine W.skip ?_
  refine V.then ?_
  refine W.sr ?_
  refine G.r (Runs.move rfl) ?_
  refine G.r (Runs.build (cells := [_, _]) ty71 Try.underlying71 pl71 rfl rfl) ?_
  refine G.e (Eff.alloc ty71 rfl) ?_
  rintro _ _ ⟨b12, rfl, rfl⟩
  refine G.e (Eff.st (cs := [_, _]) (vs := [_, _]) (cs' := [_, _]) ty71) ?_
  rintro _ _ ⟨rfl, rfl⟩
  refine G.nt ?_
  refine W.seq ?_
  refine W.sr ?_
  refine G.r (Runs.move rfl) ?_
  refine G.r (Runs.lens Try.underlying81 rfl) ?_
  refine G.r (Runs.move rfl) ?_
  refine G.nt ?_
  refine W.sub (L' := [(49, _), (48, _), (12, _), (10, _), (9, _), (8, _), (7, _), (6, _)]) (Sub.cons rfl (Sub.cons rfl (Sub.cons rfl (Sub.cons rfl (Sub.cons rfl (Sub.cons rfl (Sub.cons rfl (Sub.cons rfl Sub.nil)))))))) ?_
  refine W.block ?_
  refine W.loop (σ := Nat × (Option Addr) × Nat) (fun s => ([(6, I64 (2 + x2)), (7, I64 (x4)), (8, .slice ad5 es7.length cp6), (9, .pointer (some ⟨b9, 0, none⟩)), (10, .slice ad10 ((slideS 3 0 x4 es7).2).length cp11), (12, .pointer (some ⟨b12, 0, none⟩)), (48, I64 (((es7.length : Nat) : Int))), (49, I64 (((s.1 : Nat) : Int)))] : Env)) (fun s => blk b12 [I64 (2 + x2), .slice s.2.1 (slideS 3 0 x4 (List.take s.1 es7)).1.length s.2.2] 71 :: vc 158 (.slice s.2.1 (slideS 3 0 x4 (List.take s.1 es7)).1.length s.2.2) ((slideS 3 0 x4 (List.take s.1 es7)).1) :: vc 122 (.slice ad10 ((slideS 3 0 x4 es7).2).length cp11) ((slideS 3 0 x4 es7).2) :: blk b9 [I64 (3), I64 (0), I64 (x4)] 73 :: vc 122 (.slice ad5 es7.length cp6) (es7) :: blk dk1 [.slice la ln lc, I64 (i8)] 129 :: I) (fun s => (s.1 ≤ es7.length)) (fun s => es7.length - s.1) (0, none, 0) (show ((0 : Nat) ≤ es7.length) from (by omega)) (Sub.cons rfl (Sub.cons rfl (Sub.cons rfl (Sub.cons rfl (Sub.cons rfl (Sub.cons rfl (Sub.cons rfl (Sub.cons lookO Sub.nil)))))))) (show Fit κ _ (blk b12 [I64 (2 + x2), .slice (none) (slideS 3 0 x4 (List.take (0) es7)).1.length (0)] 71 :: vc 158 (.slice (none) (slideS 3 0 x4 (List.take (0) es7)).1.length (0)) ((slideS 3 0 x4 (List.take (0) es7)).1) :: vc 122 (.slice ad10 ((slideS 3 0 x4 es7).2).length cp11) ((slideS 3 0 x4 es7).2) :: blk b9 [I64 (3), I64 (0), I64 (x4)] 73 :: vc 122 (.slice ad5 es7.length cp6) (es7) :: blk dk1 [.slice la ln lc, I64 (i8)] 129 :: I) from (Fit.trans (Fit.nilvc 158 _) Fit.s)) ?_
  rintro ⟨k, a1, c1⟩ hp
  have hk : (k ≤ es7.length) := hp
  show W Try.prog κ 138 _ _ ([(6, I64 (2 + x2)), (7, I64 (x4)), (8, .slice ad5 es7.length cp6), (9, .pointer (some ⟨b9, 0, none⟩)), (10, .slice ad10 ((slideS 3 0 x4 es7).2).length cp11), (12, .pointer (some ⟨b12, 0, none⟩)), (48, I64 (((es7.length : Nat) : Int))), (49, I64 (((k : Nat) : Int)))] : Env) (blk b12 [I64 (2 + x2), .slice a1 (slideS 3 0 x4 (List.take k es7)).1.length c1] 71 :: vc 158 (.slice a1 (slideS 3 0 x4 (List.take k es7)).1.length c1) ((slideS 3 0 x4 (List.take k es7)).1) :: vc 122 (.slice ad10 ((slideS 3 0 x4 es7).2).length cp11) ((slideS 3 0 x4 es7).2) :: blk b9 [I64 (3), I64 (0), I64 (x4)] 73 :: vc 122 (.slice ad5 es7.length cp6) (es7) :: blk dk1 [.slice la ln lc, I64 (i8)] 129 :: I)
  have hC := CntB.all (mo := x4) hSt hMo.1 k hk
  have hCl := hC.len
  have hCs := hC.sum
  refine W.sr ?_
  refine G.r (Runs.lss rfl rfl) ?_
  refine G.nt ?_
  refine W.seq ?_
  refine W.ite rfl (fun c50 => ?_) (fun c50 => ?_)
  ·refine W.skip ?_
   refine V.then ?_
   refine W.seq ?_
   refine W.block ?_
   refine W.sr ?_
   refine G.r (Runs.move rfl) ?_
   refine G.r (Runs.assign rfl) ?_
   have hC1 := CntB.all (mo := x4) hSt hMo.1 (k + 1) (show k + 1 ≤ es7.length by omega)
   have hC1l := hC1.len
   have hC1s := hC1.sum
   have hP := cnt_take (wd := 0) (mo := x4) (es := es7) (k := k + 1) (by omega)
   have hfe := hSt.fit k (by omega)
   have hfm := hfe.tm
   have hto := hSt.asc k (by omega)
   have hsl := stepL_len (slideS 3 0 x4 (List.take k es7)).1 (at_ es7 ((k : Nat) : Int))
   have hI2 := (hC.inv.later hto (fun h => absurd h (by decide))).step hfe rfl (fun h => absurd h (by decide))
   refine G.nt ?_
   refine W.seq ?_
   refine W.drawn mixed ?_
   refine A.hold (blk b12 [I64 (2 + x2), .slice a1 (slideS 3 0 x4 (List.take k es7)).1.length c1] 71 :: vc 158 (.slice a1 (slideS 3 0 x4 (List.take k es7)).1.length c1) ((slideS 3 0 x4 (List.take k es7)).1) :: vc 122 (.slice ad10 ((slideS 3 0 x4 es7).2).length cp11) ((slideS 3 0 x4 es7).2) :: blk b9 [I64 (3), I64 (0), I64 (x4)] 73 :: vc 122 (.slice ad5 es7.length cp6) (es7) :: blk dk1 [.slice la ln lc, I64 (i8)] 129 :: I) 12 ?_
   refine D.r 0 rfl (Runs.move rfl) ?_ (hJ := Fit.sub)
   refine D.r 1 rfl (Runs.move rfl) ?_ (hJ := Fit.sub)
   refine D.r 2 rfl (Runs.move rfl) ?_ (hJ := Fit.sub)
   refine D.r 3 rfl (Runs.add rfl rfl (by unfold InR; omega)) ?_ (hJ := Fit.sub)
   refine D.r 4 rfl (Runs.hi (α := Ev) (xs := es7) (h := (k + 1)) Try.underlying81 ty122 rfl rfl (by omega) Sl.o (by omega)) ?_ (hJ := Fit.sub)
   refine D.r 5 rfl (Runs.lds (vs := [_, _, _]) ty73) ?_ (hJ := Fit.sub)
   refine D.step (rs := [6]) (by kernel_rfl) rfl rfl (all1 ?_)
   refine Step.eff rfl (Wanted.plain rfl) (Eff.call call85 rfl rfl (Slide_yes (nd := (2 + x2)) (kd := 3) (wd := 0) (mo := x4) (es := List.take (k + 1) es7) (Sl.take Sl.o (by omega)) (slideE_zero (hSt.take (k + 1)) (ckw3 (by omega))))) ?_
   rintro _ _ ⟨_, _, ⟨ad13, cp14, rfl, rfl⟩, rfl, rfl⟩
   refine ⟨Fit.sub, ?_⟩
   show D Try.prog κ _ _ _ _ _ _ _ ([(59, .tuple #[.slice ad13 ((slideS 3 0 x4 (List.take (k + 1) es7)).2).length cp14, I64 (0)]), (58, .agg #[I64 (3), I64 (0), I64 (x4)]), (57, .slice ad5 (List.take (k + 1) es7).length cp6), (56, I64 (((k : Nat) : Int) + 1)), (55, I64 (((k : Nat) : Int))), (54, .slice ad5 es7.length cp6), (53, I64 (2 + x2)), (13, I64 (((k : Nat) : Int))), (51, I64 (((k : Nat) : Int))), (50, .bool (decide (((k : Nat) : Int) < ((es7.length : Nat) : Int)))), (6, I64 (2 + x2)), (7, I64 (x4)), (8, .slice ad5 es7.length cp6), (9, .pointer (some ⟨b9, 0, none⟩)), (10, .slice ad10 ((slideS 3 0 x4 es7).2).length cp11), (12, .pointer (some ⟨b12, 0, none⟩)), (48, I64 (((es7.length : Nat) : Int))), (49, I64 (((k : Nat) : Int)))] : Env) (vc 122 (.slice ad13 ((slideS 3 0 x4 (List.take (k + 1) es7)).2).length cp14) ((slideS 3 0 x4 (List.take (k + 1) es7)).2) :: blk b12 [I64 (2 + x2), .slice a1 (slideS 3 0 x4 (List.take k es7)).1.length c1] 71 :: vc 158 (.slice a1 (slideS 3 0 x4 (List.take k es7)).1.length c1) ((slideS 3 0 x4 (List.take k es7)).1) :: vc 122 (.slice ad10 ((slideS 3 0 x4 es7).2).length cp11) ((slideS 3 0 x4 es7).2) :: blk b9 [I64 (3), I64 (0), I64 (x4)] 73 :: vc 122 (.slice ad5 es7.length cp6) (es7) :: blk dk1 [.slice la ln lc, I64 (i8)] 129 :: I)
   refine D.r 7 rfl (Runs.move rfl) ?_ (hJ := Fit.sub)
   refine D.r 8 rfl (Runs.extract rfl rfl) ?_ (hJ := Fit.sub)
   refine D.r 9 rfl (Runs.extract rfl rfl) ?_ (hJ := Fit.sub)
   refine D.r 10 rfl (Runs.assign rfl) ?_ (hJ := Fit.sub)
   refine D.r 11 rfl (Runs.assign rfl) ?_ (hJ := Fit.sub)
   refine D.done (by kernel_rfl) ?_
   refine V.then ?_
   refine W.sub (L' := [(15, _), (14, _), (13, _), (6, _), (7, _), (8, _), (9, _), (10, _), (12, _), (48, _), (49, _)]) (Sub.cons rfl (Sub.cons rfl (Sub.cons rfl (Sub.cons rfl (Sub.cons rfl (Sub.cons rfl (Sub.cons rfl (Sub.cons rfl (Sub.cons rfl (Sub.cons rfl (Sub.cons rfl Sub.nil))))))))))) ?_
   refine W.sr ?_
   refine G.r (Runs.move rfl) ?_
   refine G.r (Runs.build (cells := [_, _]) ty71 Try.underlying71 pl71 rfl rfl) ?_
   refine G.r (Runs.move rfl) ?_
   refine G.e (Eff.call call87 rfl rfl (CallS.fit (J := vc 158 (.slice none 0 0) (([] : List Lk)) :: vc 122 (.slice ad13 ((slideS 3 0 x4 (List.take (k + 1) es7)).2).length cp14) ((slideS 3 0 x4 (List.take (k + 1) es7)).2) :: blk b12 [I64 (2 + x2), .slice a1 (slideS 3 0 x4 (List.take k es7)).1.length c1] 71 :: vc 158 (.slice a1 (slideS 3 0 x4 (List.take k es7)).1.length c1) ((slideS 3 0 x4 (List.take k es7)).1) :: vc 122 (.slice ad10 ((slideS 3 0 x4 es7).2).length cp11) ((slideS 3 0 x4 es7).2) :: blk b9 [I64 (3), I64 (0), I64 (x4)] 73 :: vc 122 (.slice ad5 es7.length cp6) (es7) :: blk dk1 [.slice la ln lc, I64 (i8)] 129 :: I) (Fit.nilvc 158 _) (All5_base (nd := 2 + x2) (xs := ([] : List Lk)) (es := (slideS 3 0 x4 (List.take (k + 1) es7)).2) Sl.o (valNil hSt.nodes) (fun j hj => hC1.fit _ (at_mem (by omega) (by omega))) (by simp only [List.length_nil]; omega)))) ?_
   rintro _ _ ⟨_, _, ⟨⟨ad15, cp16, nn17⟩, rfl, rfl⟩, rfl, rfl⟩
   show G Try.prog κ _ _ _ _ ([(66, .tuple #[.agg #[I64 (2 + x2), .slice ad15 (List.foldl stepL ([] : List Lk) ((slideS 3 0 x4 (List.take (k + 1) es7)).2)).length cp16], I64 (nn17), I64 (0)]), (65, .slice ad13 ((slideS 3 0 x4 (List.take (k + 1) es7)).2).length cp14), (64, .agg #[I64 (2 + x2), .slice none 0 0]), (63, I64 (2 + x2)), (15, I64 (0)), (14, .slice ad13 ((slideS 3 0 x4 (List.take (k + 1) es7)).2).length cp14), (13, I64 (((k : Nat) : Int))), (6, I64 (2 + x2)), (7, I64 (x4)), (8, .slice ad5 es7.length cp6), (9, .pointer (some ⟨b9, 0, none⟩)), (10, .slice ad10 ((slideS 3 0 x4 es7).2).length cp11), (12, .pointer (some ⟨b12, 0, none⟩)), (48, I64 (((es7.length : Nat) : Int))), (49, I64 (((k : Nat) : Int)))] : Env) (vc 158 (.slice ad15 (List.foldl stepL ([] : List Lk) ((slideS 3 0 x4 (List.take (k + 1) es7)).2)).length cp16) (List.foldl stepL ([] : List Lk) ((slideS 3 0 x4 (List.take (k + 1) es7)).2)) :: vc 122 (.slice ad13 ((slideS 3 0 x4 (List.take (k + 1) es7)).2).length cp14) ((slideS 3 0 x4 (List.take (k + 1) es7)).2) :: blk b12 [I64 (2 + x2), .slice a1 (slideS 3 0 x4 (List.take k es7)).1.length c1] 71 :: vc 158 (.slice a1 (slideS 3 0 x4 (List.take k es7)).1.length c1) ((slideS 3 0 x4 (List.take k es7)).1) :: vc 122 (.slice ad10 ((slideS 3 0 x4 es7).2).length cp11) ((slideS 3 0 x4 es7).2) :: blk b9 [I64 (3), I64 (0), I64 (x4)] 73 :: vc 122 (.slice ad5 es7.length cp6) (es7) :: blk dk1 [.slice la ln lc, I64 (i8)] 129 :: I)
   refine G.r (Runs.move rfl) ?_
   refine G.r (Runs.extract rfl rfl) ?_
   refine G.r (Runs.extract rfl rfl) ?_
   refine G.r (Runs.extract rfl rfl) ?_
   refine G.e (Eff.alloc ty71 rfl) ?_
   rintro _ _ ⟨b18, rfl, rfl⟩
   refine G.e (Eff.st (cs := [_, _]) (vs := [_, _]) (cs' := [_, _]) ty71) ?_
   rintro _ _ ⟨rfl, rfl⟩
   refine G.r (Runs.assign rfl) ?_
   refine G.r (Runs.assign rfl) ?_
   refine G.nt ?_
   refine W.sub (L' := [(18, _), (16, _), (15, _), (14, _), (13, _), (6, _), (7, _), (8, _), (9, _), (10, _), (12, _), (48, _), (49, _)]) (Sub.cons rfl (Sub.cons rfl (Sub.cons rfl (Sub.cons rfl (Sub.cons rfl (Sub.cons rfl (Sub.cons rfl (Sub.cons rfl (Sub.cons rfl (Sub.cons rfl (Sub.cons rfl (Sub.cons rfl (Sub.cons rfl Sub.nil))))))))))))) ?_
   refine W.seq ?_
   refine W.sr ?_
   refine G.r (Runs.move rfl) ?_
   refine G.r (Runs.neq rfl rfl) ?_
   refine G.r (Runs.move rfl) ?_
   refine G.split (d := 72) rfl (fun g72 => ?_) (fun g72 => ?_)
   ·exact absurd rfl g72
   ·refine G.ro (Runs.move rfl) ?_
    refine G.ro (Runs.neq rfl rfl) ?_
    refine G.r (Runs.pickf rfl rfl) ?_
    refine G.r (Runs.move rfl) ?_
    refine G.split (d := 76) rfl (fun g76 => ?_) (fun g76 => ?_)
    ·exact absurd rfl g76
    ·refine G.ro (Runs.move rfl) ?_
     refine G.ro (Runs.lens Try.underlying81 rfl) ?_
     refine G.ro (Runs.move rfl) ?_
     refine G.ro (Runs.lens Try.underlying81 rfl) ?_
     refine G.ro (Runs.gtr rfl rfl) ?_
     refine G.r (Runs.pickf rfl rfl) ?_
     refine G.r (Runs.move rfl) ?_
     refine G.split (d := 83) rfl (fun g83 => ?_) (fun g83 => ?_)
     ·exact absurd hP.1 (by omega)
     ·refine G.ro (Runs.move rfl) ?_
      refine G.ro (Runs.move rfl) ?_
      refine G.ro (Runs.move rfl) ?_
      refine G.ro (Runs.lens Try.underlying81 rfl) ?_
      refine G.ro (Runs.hi (α := Ev) (xs := (slideS 3 0 x4 es7).2) (h := ((slideS 3 0 x4 (List.take (k + 1) es7)).2).length) Try.underlying81 ty122 rfl rfl (by omega) Sl.o (by omega)) ?_
      refine G.eff (Wanted.on rfl rfl rfl) (Eff.call call58 rfl rfl (Same4_ok Sl.o (Sl.take Sl.o (by omega)))) ?_
      rintro _ _ ⟨_, _, ⟨rfl, rfl⟩, rfl, rfl⟩
      refine G.ro (Runs.notd rfl) ?_
      refine G.r (Runs.pickf rfl rfl) ?_
      refine G.r (Runs.move rfl) ?_
      refine G.split (d := 92) rfl (fun g92 => ?_) (fun g92 => ?_)
      ·exact (g92 hP.2).elim
      ·refine G.ro (Runs.fieldAddr fld71_1 rfl) ?_
       refine G.ro (Runs.ld ty69) ?_
       refine G.ro (Runs.lens Try.underlying69 rfl) ?_
       refine G.ro (Runs.move rfl) ?_
       refine G.ro (Runs.gtr rfl rfl) ?_
       refine G.r (Runs.pickf rfl rfl) ?_
       refine G.nt ?_
       refine W.sub (L' := [(98, _), (16, _), (13, _), (6, _), (7, _), (8, _), (9, _), (10, _), (12, _), (48, _), (49, _)]) (Sub.cons rfl (Sub.cons rfl (Sub.cons rfl (Sub.cons rfl (Sub.cons rfl (Sub.cons rfl (Sub.cons rfl (Sub.cons rfl (Sub.cons rfl (Sub.cons rfl (Sub.cons rfl Sub.nil))))))))))) ?_
       refine W.ite rfl (fun c98 => ?_) (fun c98 => ?_)
       ·exact absurd hC1l (by rw [hC1.st]; omega)
       ·refine W.skip ?_
        refine V.then ?_
        refine W.cut (σ := Nat × (Option Addr) × Nat) (fun s => ([(6, I64 (2 + x2)), (7, I64 (x4)), (8, .slice ad5 es7.length cp6), (9, .pointer (some ⟨b9, 0, none⟩)), (10, .slice ad10 ((slideS 3 0 x4 es7).2).length cp11), (12, .pointer (some ⟨b12, 0, none⟩)), (13, I64 (((k : Nat) : Int))), (16, .pointer (some ⟨b18, 0, none⟩)), (19, .pointer (some ⟨s.1, 0, none⟩)), (48, I64 (((es7.length : Nat) : Int))), (49, I64 (((k : Nat) : Int)))] : Env)) (fun s => blk s.1 [I64 (2 + x2), .slice s.2.1 (stepL (slideS 3 0 x4 (List.take k es7)).1 (at_ es7 ((k : Nat) : Int))).length s.2.2] 71 :: vc 158 (.slice s.2.1 (stepL (slideS 3 0 x4 (List.take k es7)).1 (at_ es7 ((k : Nat) : Int))).length s.2.2) (stepL (slideS 3 0 x4 (List.take k es7)).1 (at_ es7 ((k : Nat) : Int))) :: blk b18 [I64 (2 + x2), .slice ad15 (List.foldl stepL ([] : List Lk) ((slideS 3 0 x4 (List.take (k + 1) es7)).2)).length cp16] 71 :: vc 158 (.slice ad15 (List.foldl stepL ([] : List Lk) ((slideS 3 0 x4 (List.take (k + 1) es7)).2)).length cp16) (List.foldl stepL ([] : List Lk) ((slideS 3 0 x4 (List.take (k + 1) es7)).2)) :: vc 122 (.slice ad13 ((slideS 3 0 x4 (List.take (k + 1) es7)).2).length cp14) ((slideS 3 0 x4 (List.take (k + 1) es7)).2) :: blk b12 [I64 (2 + x2), .slice a1 (slideS 3 0 x4 (List.take k es7)).1.length c1] 71 :: vc 158 (.slice a1 (slideS 3 0 x4 (List.take k es7)).1.length c1) ((slideS 3 0 x4 (List.take k es7)).1) :: vc 122 (.slice ad10 ((slideS 3 0 x4 es7).2).length cp11) ((slideS 3 0 x4 es7).2) :: blk b9 [I64 (3), I64 (0), I64 (x4)] 73 :: vc 122 (.slice ad5 es7.length cp6) (es7) :: blk dk1 [.slice la ln lc, I64 (i8)] 129 :: I) (fun s => True) ?_ ?_
        ·refine W.drawn mixed ?_
         refine A.hold (blk b18 [I64 (2 + x2), .slice ad15 (List.foldl stepL ([] : List Lk) ((slideS 3 0 x4 (List.take (k + 1) es7)).2)).length cp16] 71 :: vc 158 (.slice ad15 (List.foldl stepL ([] : List Lk) ((slideS 3 0 x4 (List.take (k + 1) es7)).2)).length cp16) (List.foldl stepL ([] : List Lk) ((slideS 3 0 x4 (List.take (k + 1) es7)).2)) :: vc 122 (.slice ad13 ((slideS 3 0 x4 (List.take (k + 1) es7)).2).length cp14) ((slideS 3 0 x4 (List.take (k + 1) es7)).2) :: blk b12 [I64 (2 + x2), .slice a1 (slideS 3 0 x4 (List.take k es7)).1.length c1] 71 :: vc 158 (.slice a1 (slideS 3 0 x4 (List.take k es7)).1.length c1) ((slideS 3 0 x4 (List.take k es7)).1) :: vc 122 (.slice ad10 ((slideS 3 0 x4 es7).2).length cp11) ((slideS 3 0 x4 es7).2) :: blk b9 [I64 (3), I64 (0), I64 (x4)] 73 :: vc 122 (.slice ad5 es7.length cp6) (es7) :: blk dk1 [.slice la ln lc, I64 (i8)] 129 :: I) 14 ?_
         refine D.r 0 rfl (Runs.lds (vs := [_, _]) ty71) ?_ (hJ := Fit.sub)
         refine D.r 1 rfl (Runs.move rfl) ?_ (hJ := Fit.sub)
         refine D.r 2 rfl (Runs.move rfl) ?_ (hJ := Fit.sub)
         refine D.r 3 rfl (Runs.idx (α := Ev) (xs := es7) Try.underlying81 ty122 rfl rfl Sl.o (by omega) (by omega)) ?_ (hJ := Fit.sub)
         refine D.r 4 rfl (Runs.gets (α := Ev) (xs := es7) ty122 rfl Sl.o (by omega) (by omega)) ?_ (hJ := Fit.sub)
         refine D.step (rs := [5, 10]) (by kernel_rfl) rfl rfl (all2 ?_ (all1 ?_))
         ·refine Step.eff rfl (Wanted.plain rfl) (Eff.call call88 rfl rfl (Apply5_ok (nd := 2 + x2) (e := (at_ es7 ((k : Nat) : Int))) Sl.o hC.inv.val hfe (by omega))) ?_
          rintro _ _ ⟨_, _, ⟨⟨ad19, cp20, ad21, nn22, cp23⟩, ⟨rfl, hnn22⟩, rfl⟩, rfl, rfl⟩
          refine ⟨Fit.sub, ?_⟩
          show D Try.prog κ _ _ _ _ _ _ _ ([(105, .tuple #[.agg #[I64 (2 + x2), .slice ad19 (stepL ((slideS 3 0 x4 (List.take k es7)).1) (at_ es7 ((k : Nat) : Int))).length cp20], .slice ad21 nn22 cp23, I64 (0)]), (104, .agg #[I64 ((at_ es7 ((k : Nat) : Int)).kd), I64 ((at_ es7 ((k : Nat) : Int)).tm), I64 ((at_ es7 ((k : Nat) : Int)).u), I64 ((at_ es7 ((k : Nat) : Int)).v), I64 ((at_ es7 ((k : Nat) : Int)).w), I64 ((at_ es7 ((k : Nat) : Int)).lb), I64 ((at_ es7 ((k : Nat) : Int)).sg)]), (103, elemPtr (.slice ad5 es7.length cp6) ((((k : Nat) : Int)).toNat * Enc.sz Ev)), (102, I64 (((k : Nat) : Int))), (101, .slice ad5 es7.length cp6), (100, .agg #[I64 (2 + x2), .slice a1 (slideS 3 0 x4 (List.take k es7)).1.length c1]), (98, .bool (decide (x4 < (((List.foldl stepL ([] : List Lk) ((slideS 3 0 x4 (List.take (k + 1) es7)).2)).length : Nat) : Int)))), (16, .pointer (some ⟨b18, 0, none⟩)), (13, I64 (((k : Nat) : Int))), (6, I64 (2 + x2)), (7, I64 (x4)), (8, .slice ad5 es7.length cp6), (9, .pointer (some ⟨b9, 0, none⟩)), (10, .slice ad10 ((slideS 3 0 x4 es7).2).length cp11), (12, .pointer (some ⟨b12, 0, none⟩)), (48, I64 (((es7.length : Nat) : Int))), (49, I64 (((k : Nat) : Int)))] : Env) (vc 158 (.slice ad19 (stepL ((slideS 3 0 x4 (List.take k es7)).1) (at_ es7 ((k : Nat) : Int))).length cp20) (stepL ((slideS 3 0 x4 (List.take k es7)).1) (at_ es7 ((k : Nat) : Int))) :: blk b18 [I64 (2 + x2), .slice ad15 (List.foldl stepL ([] : List Lk) ((slideS 3 0 x4 (List.take (k + 1) es7)).2)).length cp16] 71 :: vc 158 (.slice ad15 (List.foldl stepL ([] : List Lk) ((slideS 3 0 x4 (List.take (k + 1) es7)).2)).length cp16) (List.foldl stepL ([] : List Lk) ((slideS 3 0 x4 (List.take (k + 1) es7)).2)) :: vc 122 (.slice ad13 ((slideS 3 0 x4 (List.take (k + 1) es7)).2).length cp14) ((slideS 3 0 x4 (List.take (k + 1) es7)).2) :: blk b12 [I64 (2 + x2), .slice a1 (slideS 3 0 x4 (List.take k es7)).1.length c1] 71 :: vc 158 (.slice a1 (slideS 3 0 x4 (List.take k es7)).1.length c1) ((slideS 3 0 x4 (List.take k es7)).1) :: vc 122 (.slice ad10 ((slideS 3 0 x4 es7).2).length cp11) ((slideS 3 0 x4 es7).2) :: blk b9 [I64 (3), I64 (0), I64 (x4)] 73 :: vc 122 (.slice ad5 es7.length cp6) (es7) :: blk dk1 [.slice la ln lc, I64 (i8)] 129 :: I)
          have hnn22 : nn22 ≤ 2 * ((slideS 3 0 x4 (List.take k es7)).1).length + 1 := hnn22
          refine D.r 6 rfl (Runs.move rfl) ?_ (hJ := Fit.sub)
          refine D.r 7 rfl (Runs.extract rfl rfl) ?_ (hJ := Fit.sub)
          refine D.r 8 rfl (Runs.extract rfl rfl) ?_ (hJ := Fit.sub)
          refine D.r 9 rfl (Runs.extract rfl rfl) ?_ (hJ := Fit.sub)
          refine D.step (rs := [10]) (by kernel_rfl) rfl rfl (all1 ?_)
          refine Step.eff rfl (Wanted.plain rfl) (Eff.alloc ty71 rfl) ?_
          rintro _ _ ⟨b24, rfl, rfl⟩
          refine ⟨Fit.sub, ?_⟩
          refine D.step (rs := [11]) (by kernel_rfl) rfl rfl (all1 ?_)
          refine Step.eff rfl (Wanted.plain rfl) (Eff.st (cs := [_, _]) (vs := [_, _]) (cs' := [_, _]) ty71) ?_
          rintro _ _ ⟨rfl, rfl⟩
          refine ⟨Fit.sub, ?_⟩
          refine D.r 12 rfl (Runs.assign rfl) ?_ (hJ := Fit.sub)
          refine D.r 13 rfl (Runs.assign rfl) ?_ (hJ := Fit.sub)
          refine D.done (by kernel_rfl) ?_
          exact V.mid ((b24), (ad19), (cp20)) (show True from trivial) (Sub.cons rfl (Sub.cons rfl (Sub.cons rfl (Sub.cons rfl (Sub.cons rfl (Sub.cons rfl (Sub.cons rfl (Sub.cons rfl (Sub.cons (lookV rfl (by first | rfl | simp)) (Sub.cons rfl (Sub.cons rfl Sub.nil))))))))))) (show Fit κ _ (blk (b24) [I64 (2 + x2), .slice (ad19) (stepL (slideS 3 0 x4 (List.take k es7)).1 (at_ es7 ((k : Nat) : Int))).length (cp20)] 71 :: vc 158 (.slice (ad19) (stepL (slideS 3 0 x4 (List.take k es7)).1 (at_ es7 ((k : Nat) : Int))).length (cp20)) (stepL (slideS 3 0 x4 (List.take k es7)).1 (at_ es7 ((k : Nat) : Int))) :: blk b18 [I64 (2 + x2), .slice ad15 (List.foldl stepL ([] : List Lk) ((slideS 3 0 x4 (List.take (k + 1) es7)).2)).length cp16] 71 :: vc 158 (.slice ad15 (List.foldl stepL ([] : List Lk) ((slideS 3 0 x4 (List.take (k + 1) es7)).2)).length cp16) (List.foldl stepL ([] : List Lk) ((slideS 3 0 x4 (List.take (k + 1) es7)).2)) :: vc 122 (.slice ad13 ((slideS 3 0 x4 (List.take (k + 1) es7)).2).length cp14) ((slideS 3 0 x4 (List.take (k + 1) es7)).2) :: blk b12 [I64 (2 + x2), .slice a1 (slideS 3 0 x4 (List.take k es7)).1.length c1] 71 :: vc 158 (.slice a1 (slideS 3 0 x4 (List.take k es7)).1.length c1) ((slideS 3 0 x4 (List.take k es7)).1) :: vc 122 (.slice ad10 ((slideS 3 0 x4 es7).2).length cp11) ((slideS 3 0 x4 es7).2) :: blk b9 [I64 (3), I64 (0), I64 (x4)] 73 :: vc 122 (.slice ad5 es7.length cp6) (es7) :: blk dk1 [.slice la ln lc, I64 (i8)] 129 :: I) from Fit.s)
         ·refine Step.eff rfl (Wanted.plain rfl) (Eff.alloc ty71 rfl) ?_
          rintro _ _ ⟨b25, rfl, rfl⟩
          refine ⟨Fit.sub, ?_⟩
          refine D.step (rs := [5]) (by kernel_rfl) rfl rfl (all1 ?_)
          refine Step.eff rfl (Wanted.plain rfl) (Eff.call call88 rfl rfl (Apply5_ok (nd := 2 + x2) (e := (at_ es7 ((k : Nat) : Int))) Sl.o hC.inv.val hfe (by omega))) ?_
          rintro _ _ ⟨_, _, ⟨⟨ad26, cp27, ad28, nn29, cp30⟩, ⟨rfl, hnn29⟩, rfl⟩, rfl, rfl⟩
          refine ⟨Fit.sub, ?_⟩
          show D Try.prog κ _ _ _ _ _ _ _ ([(105, .tuple #[.agg #[I64 (2 + x2), .slice ad26 (stepL ((slideS 3 0 x4 (List.take k es7)).1) (at_ es7 ((k : Nat) : Int))).length cp27], .slice ad28 nn29 cp30, I64 (0)]), (19, .pointer (some ⟨b25, 0, none⟩)), (104, .agg #[I64 ((at_ es7 ((k : Nat) : Int)).kd), I64 ((at_ es7 ((k : Nat) : Int)).tm), I64 ((at_ es7 ((k : Nat) : Int)).u), I64 ((at_ es7 ((k : Nat) : Int)).v), I64 ((at_ es7 ((k : Nat) : Int)).w), I64 ((at_ es7 ((k : Nat) : Int)).lb), I64 ((at_ es7 ((k : Nat) : Int)).sg)]), (103, elemPtr (.slice ad5 es7.length cp6) ((((k : Nat) : Int)).toNat * Enc.sz Ev)), (102, I64 (((k : Nat) : Int))), (101, .slice ad5 es7.length cp6), (100, .agg #[I64 (2 + x2), .slice a1 (slideS 3 0 x4 (List.take k es7)).1.length c1]), (98, .bool (decide (x4 < (((List.foldl stepL ([] : List Lk) ((slideS 3 0 x4 (List.take (k + 1) es7)).2)).length : Nat) : Int)))), (16, .pointer (some ⟨b18, 0, none⟩)), (13, I64 (((k : Nat) : Int))), (6, I64 (2 + x2)), (7, I64 (x4)), (8, .slice ad5 es7.length cp6), (9, .pointer (some ⟨b9, 0, none⟩)), (10, .slice ad10 ((slideS 3 0 x4 es7).2).length cp11), (12, .pointer (some ⟨b12, 0, none⟩)), (48, I64 (((es7.length : Nat) : Int))), (49, I64 (((k : Nat) : Int)))] : Env) (vc 158 (.slice ad26 (stepL ((slideS 3 0 x4 (List.take k es7)).1) (at_ es7 ((k : Nat) : Int))).length cp27) (stepL ((slideS 3 0 x4 (List.take k es7)).1) (at_ es7 ((k : Nat) : Int))) :: blk b25 [I64 (0), .slice none 0 0] 71 :: blk b18 [I64 (2 + x2), .slice ad15 (List.foldl stepL ([] : List Lk) ((slideS 3 0 x4 (List.take (k + 1) es7)).2)).length cp16] 71 :: vc 158 (.slice ad15 (List.foldl stepL ([] : List Lk) ((slideS 3 0 x4 (List.take (k + 1) es7)).2)).length cp16) (List.foldl stepL ([] : List Lk) ((slideS 3 0 x4 (List.take (k + 1) es7)).2)) :: vc 122 (.slice ad13 ((slideS 3 0 x4 (List.take (k + 1) es7)).2).length cp14) ((slideS 3 0 x4 (List.take (k + 1) es7)).2) :: blk b12 [I64 (2 + x2), .slice a1 (slideS 3 0 x4 (List.take k es7)).1.length c1] 71 :: vc 158 (.slice a1 (slideS 3 0 x4 (List.take k es7)).1.length c1) ((slideS 3 0 x4 (List.take k es7)).1) :: vc 122 (.slice ad10 ((slideS 3 0 x4 es7).2).length cp11) ((slideS 3 0 x4 es7).2) :: blk b9 [I64 (3), I64 (0), I64 (x4)] 73 :: vc 122 (.slice ad5 es7.length cp6) (es7) :: blk dk1 [.slice la ln lc, I64 (i8)] 129 :: I)
          have hnn29 : nn29 ≤ 2 * ((slideS 3 0 x4 (List.take k es7)).1).length + 1 := hnn29
          refine D.r 6 rfl (Runs.move rfl) ?_ (hJ := Fit.sub)
          refine D.r 7 rfl (Runs.extract rfl rfl) ?_ (hJ := Fit.sub)
          refine D.r 8 rfl (Runs.extract rfl rfl) ?_ (hJ := Fit.sub)
          refine D.r 9 rfl (Runs.extract rfl rfl) ?_ (hJ := Fit.sub)
          refine D.step (rs := [11]) (by kernel_rfl) rfl rfl (all1 ?_)
          refine Step.eff rfl (Wanted.plain rfl) (Eff.st (cs := [_, _]) (vs := [_, _]) (cs' := [_, _]) ty71) ?_
          rintro _ _ ⟨rfl, rfl⟩
          refine ⟨Fit.sub, ?_⟩
          refine D.r 12 rfl (Runs.assign rfl) ?_ (hJ := Fit.sub)
          refine D.r 13 rfl (Runs.assign rfl) ?_ (hJ := Fit.sub)
          refine D.done (by kernel_rfl) ?_
          exact V.mid ((b25), (ad26), (cp27)) (show True from trivial) (Sub.cons rfl (Sub.cons rfl (Sub.cons rfl (Sub.cons rfl (Sub.cons rfl (Sub.cons rfl (Sub.cons rfl (Sub.cons rfl (Sub.cons (lookV rfl (by first | rfl | simp)) (Sub.cons rfl (Sub.cons rfl Sub.nil))))))))))) (show Fit κ _ (blk (b25) [I64 (2 + x2), .slice (ad26) (stepL (slideS 3 0 x4 (List.take k es7)).1 (at_ es7 ((k : Nat) : Int))).length (cp27)] 71 :: vc 158 (.slice (ad26) (stepL (slideS 3 0 x4 (List.take k es7)).1 (at_ es7 ((k : Nat) : Int))).length (cp27)) (stepL (slideS 3 0 x4 (List.take k es7)).1 (at_ es7 ((k : Nat) : Int))) :: blk b18 [I64 (2 + x2), .slice ad15 (List.foldl stepL ([] : List Lk) ((slideS 3 0 x4 (List.take (k + 1) es7)).2)).length cp16] 71 :: vc 158 (.slice ad15 (List.foldl stepL ([] : List Lk) ((slideS 3 0 x4 (List.take (k + 1) es7)).2)).length cp16) (List.foldl stepL ([] : List Lk) ((slideS 3 0 x4 (List.take (k + 1) es7)).2)) :: vc 122 (.slice ad13 ((slideS 3 0 x4 (List.take (k + 1) es7)).2).length cp14) ((slideS 3 0 x4 (List.take (k + 1) es7)).2) :: blk b12 [I64 (2 + x2), .slice a1 (slideS 3 0 x4 (List.take k es7)).1.length c1] 71 :: vc 158 (.slice a1 (slideS 3 0 x4 (List.take k es7)).1.length c1) ((slideS 3 0 x4 (List.take k es7)).1) :: vc 122 (.slice ad10 ((slideS 3 0 x4 es7).2).length cp11) ((slideS 3 0 x4 es7).2) :: blk b9 [I64 (3), I64 (0), I64 (x4)] 73 :: vc 122 (.slice ad5 es7.length cp6) (es7) :: blk dk1 [.slice la ln lc, I64 (i8)] 129 :: I) from Fit.s)
        ·rintro ⟨by_, ay, cy⟩ hp
         show W Try.prog κ 138 _ _ ([(6, I64 (2 + x2)), (7, I64 (x4)), (8, .slice ad5 es7.length cp6), (9, .pointer (some ⟨b9, 0, none⟩)), (10, .slice ad10 ((slideS 3 0 x4 es7).2).length cp11), (12, .pointer (some ⟨b12, 0, none⟩)), (13, I64 (((k : Nat) : Int))), (16, .pointer (some ⟨b18, 0, none⟩)), (19, .pointer (some ⟨by_, 0, none⟩)), (48, I64 (((es7.length : Nat) : Int))), (49, I64 (((k : Nat) : Int)))] : Env) (blk by_ [I64 (2 + x2), .slice ay (stepL (slideS 3 0 x4 (List.take k es7)).1 (at_ es7 ((k : Nat) : Int))).length cy] 71 :: vc 158 (.slice ay (stepL (slideS 3 0 x4 (List.take k es7)).1 (at_ es7 ((k : Nat) : Int))).length cy) (stepL (slideS 3 0 x4 (List.take k es7)).1 (at_ es7 ((k : Nat) : Int))) :: blk b18 [I64 (2 + x2), .slice ad15 (List.foldl stepL ([] : List Lk) ((slideS 3 0 x4 (List.take (k + 1) es7)).2)).length cp16] 71 :: vc 158 (.slice ad15 (List.foldl stepL ([] : List Lk) ((slideS 3 0 x4 (List.take (k + 1) es7)).2)).length cp16) (List.foldl stepL ([] : List Lk) ((slideS 3 0 x4 (List.take (k + 1) es7)).2)) :: vc 122 (.slice ad13 ((slideS 3 0 x4 (List.take (k + 1) es7)).2).length cp14) ((slideS 3 0 x4 (List.take (k + 1) es7)).2) :: blk b12 [I64 (2 + x2), .slice a1 (slideS 3 0 x4 (List.take k es7)).1.length c1] 71 :: vc 158 (.slice a1 (slideS 3 0 x4 (List.take k es7)).1.length c1) ((slideS 3 0 x4 (List.take k es7)).1) :: vc 122 (.slice ad10 ((slideS 3 0 x4 es7).2).length cp11) ((slideS 3 0 x4 es7).2) :: blk b9 [I64 (3), I64 (0), I64 (x4)] 73 :: vc 122 (.slice ad5 es7.length cp6) (es7) :: blk dk1 [.slice la ln lc, I64 (i8)] 129 :: I)
         refine W.cut (σ := Nat × (Option Addr) × Nat) (fun s => ([(6, I64 (2 + x2)), (7, I64 (x4)), (8, .slice ad5 es7.length cp6), (9, .pointer (some ⟨b9, 0, none⟩)), (10, .slice ad10 ((slideS 3 0 x4 es7).2).length cp11), (12, .pointer (some ⟨b12, 0, none⟩)), (16, .pointer (some ⟨b18, 0, none⟩)), (22, .pointer (some ⟨s.1, 0, none⟩)), (23, I64 (0)), (48, I64 (((es7.length : Nat) : Int))), (49, I64 (((k : Nat) : Int)))] : Env)) (fun s => blk s.1 [I64 (2 + x2), .slice s.2.1 (List.filter (inW 3 0 x4 (at_ es7 ((k : Nat) : Int)).tm (stepL (slideS 3 0 x4 (List.take k es7)).1 (at_ es7 ((k : Nat) : Int)))) (stepL (slideS 3 0 x4 (List.take k es7)).1 (at_ es7 ((k : Nat) : Int)))).length s.2.2] 71 :: vc 158 (.slice s.2.1 (List.filter (inW 3 0 x4 (at_ es7 ((k : Nat) : Int)).tm (stepL (slideS 3 0 x4 (List.take k es7)).1 (at_ es7 ((k : Nat) : Int)))) (stepL (slideS 3 0 x4 (List.take k es7)).1 (at_ es7 ((k : Nat) : Int)))).length s.2.2) (List.filter (inW 3 0 x4 (at_ es7 ((k : Nat) : Int)).tm (stepL (slideS 3 0 x4 (List.take k es7)).1 (at_ es7 ((k : Nat) : Int)))) (stepL (slideS 3 0 x4 (List.take k es7)).1 (at_ es7 ((k : Nat) : Int)))) :: blk by_ [I64 (2 + x2), .slice ay (stepL (slideS 3 0 x4 (List.take k es7)).1 (at_ es7 ((k : Nat) : Int))).length cy] 71 :: vc 158 (.slice ay (stepL (slideS 3 0 x4 (List.take k es7)).1 (at_ es7 ((k : Nat) : Int))).length cy) (stepL (slideS 3 0 x4 (List.take k es7)).1 (at_ es7 ((k : Nat) : Int))) :: blk b18 [I64 (2 + x2), .slice ad15 (List.foldl stepL ([] : List Lk) ((slideS 3 0 x4 (List.take (k + 1) es7)).2)).length cp16] 71 :: vc 158 (.slice ad15 (List.foldl stepL ([] : List Lk) ((slideS 3 0 x4 (List.take (k + 1) es7)).2)).length cp16) (List.foldl stepL ([] : List Lk) ((slideS 3 0 x4 (List.take (k + 1) es7)).2)) :: vc 122 (.slice ad13 ((slideS 3 0 x4 (List.take (k + 1) es7)).2).length cp14) ((slideS 3 0 x4 (List.take (k + 1) es7)).2) :: blk b12 [I64 (2 + x2), .slice a1 (slideS 3 0 x4 (List.take k es7)).1.length c1] 71 :: vc 158 (.slice a1 (slideS 3 0 x4 (List.take k es7)).1.length c1) ((slideS 3 0 x4 (List.take k es7)).1) :: vc 122 (.slice ad10 ((slideS 3 0 x4 es7).2).length cp11) ((slideS 3 0 x4 es7).2) :: blk b9 [I64 (3), I64 (0), I64 (x4)] 73 :: vc 122 (.slice ad5 es7.length cp6) (es7) :: blk dk1 [.slice la ln lc, I64 (i8)] 129 :: I) (fun s => True) ?_ ?_
         ·refine W.drawn mixed ?_
          refine A.hold (blk by_ [I64 (2 + x2), .slice ay (stepL (slideS 3 0 x4 (List.take k es7)).1 (at_ es7 ((k : Nat) : Int))).length cy] 71 :: vc 158 (.slice ay (stepL (slideS 3 0 x4 (List.take k es7)).1 (at_ es7 ((k : Nat) : Int))).length cy) (stepL (slideS 3 0 x4 (List.take k es7)).1 (at_ es7 ((k : Nat) : Int))) :: blk b18 [I64 (2 + x2), .slice ad15 (List.foldl stepL ([] : List Lk) ((slideS 3 0 x4 (List.take (k + 1) es7)).2)).length cp16] 71 :: vc 158 (.slice ad15 (List.foldl stepL ([] : List Lk) ((slideS 3 0 x4 (List.take (k + 1) es7)).2)).length cp16) (List.foldl stepL ([] : List Lk) ((slideS 3 0 x4 (List.take (k + 1) es7)).2)) :: vc 122 (.slice ad13 ((slideS 3 0 x4 (List.take (k + 1) es7)).2).length cp14) ((slideS 3 0 x4 (List.take (k + 1) es7)).2) :: blk b12 [I64 (2 + x2), .slice a1 (slideS 3 0 x4 (List.take k es7)).1.length c1] 71 :: vc 158 (.slice a1 (slideS 3 0 x4 (List.take k es7)).1.length c1) ((slideS 3 0 x4 (List.take k es7)).1) :: vc 122 (.slice ad10 ((slideS 3 0 x4 es7).2).length cp11) ((slideS 3 0 x4 es7).2) :: blk b9 [I64 (3), I64 (0), I64 (x4)] 73 :: vc 122 (.slice ad5 es7.length cp6) (es7) :: blk dk1 [.slice la ln lc, I64 (i8)] 129 :: I) 14 ?_
          refine D.r 0 rfl (Runs.lds (vs := [_, _]) ty71) ?_ (hJ := Fit.sub)
          refine D.r 1 rfl (Runs.lds (vs := [_, _, _]) ty73) ?_ (hJ := Fit.sub)
          refine D.r 2 rfl (Runs.move rfl) ?_ (hJ := Fit.sub)
          refine D.r 3 rfl (Runs.move rfl) ?_ (hJ := Fit.sub)
          refine D.r 4 rfl (Runs.idx (α := Ev) (xs := es7) Try.underlying81 ty122 rfl rfl Sl.o (by omega) (by omega)) ?_ (hJ := Fit.sub)
          refine D.r 5 rfl (Runs.fld (α := Ev) (xs := es7) fld122_1 rfl Sl.o (by omega)) ?_ (hJ := Fit.sub)
          refine D.r 6 rfl (Runs.getf (α := Ev) (xs := es7) (u := I64 ((at_ es7 ((k : Nat) : Int)).tm)) ty3 rfl Sl.o (by omega) (by omega) rfl) ?_ (hJ := Fit.sub)
          refine D.step (rs := [7, 11]) (by kernel_rfl) rfl rfl (all2 ?_ (all1 ?_))
          ·refine Step.eff rfl (Wanted.plain rfl) (Eff.call call53 rfl rfl (Present_yes (nd := 2 + x2) (kd := 3) (wd := 0) (mo := x4) (nw := ((at_ es7 ((k : Nat) : Int)).tm)) (xs := stepL (slideS 3 0 x4 (List.take k es7)).1 (at_ es7 ((k : Nat) : Int))) Sl.o (by omega) (hI2.ask (ckw3 (by omega)) hfm (Int.le_refl _)))) ?_
           rintro _ _ ⟨_, _, ⟨ad31, cp32, rfl, rfl⟩, rfl, rfl⟩
           refine ⟨Fit.sub, ?_⟩
           show D Try.prog κ _ _ _ _ _ _ _ ([(117, .tuple #[.agg #[I64 (2 + x2), .slice ad31 (List.filter (inW 3 0 x4 ((at_ es7 ((k : Nat) : Int)).tm) (stepL (slideS 3 0 x4 (List.take k es7)).1 (at_ es7 ((k : Nat) : Int)))) (stepL (slideS 3 0 x4 (List.take k es7)).1 (at_ es7 ((k : Nat) : Int)))).length cp32], I64 (0)]), (116, I64 ((at_ es7 ((k : Nat) : Int)).tm)), (115, elemPtr (.slice ad5 es7.length cp6) ((((k : Nat) : Int)).toNat * Enc.sz Ev + 1)), (114, elemPtr (.slice ad5 es7.length cp6) ((((k : Nat) : Int)).toNat * Enc.sz Ev)), (113, I64 (((k : Nat) : Int))), (112, .slice ad5 es7.length cp6), (111, .agg #[I64 (3), I64 (0), I64 (x4)]), (110, .agg #[I64 (2 + x2), .slice ay (stepL (slideS 3 0 x4 (List.take k es7)).1 (at_ es7 ((k : Nat) : Int))).length cy]), (6, I64 (2 + x2)), (7, I64 (x4)), (8, .slice ad5 es7.length cp6), (9, .pointer (some ⟨b9, 0, none⟩)), (10, .slice ad10 ((slideS 3 0 x4 es7).2).length cp11), (12, .pointer (some ⟨b12, 0, none⟩)), (13, I64 (((k : Nat) : Int))), (16, .pointer (some ⟨b18, 0, none⟩)), (19, .pointer (some ⟨by_, 0, none⟩)), (48, I64 (((es7.length : Nat) : Int))), (49, I64 (((k : Nat) : Int)))] : Env) (vc 158 (.slice ad31 (List.filter (inW 3 0 x4 ((at_ es7 ((k : Nat) : Int)).tm) (stepL (slideS 3 0 x4 (List.take k es7)).1 (at_ es7 ((k : Nat) : Int)))) (stepL (slideS 3 0 x4 (List.take k es7)).1 (at_ es7 ((k : Nat) : Int)))).length cp32) (List.filter (inW 3 0 x4 ((at_ es7 ((k : Nat) : Int)).tm) (stepL (slideS 3 0 x4 (List.take k es7)).1 (at_ es7 ((k : Nat) : Int)))) (stepL (slideS 3 0 x4 (List.take k es7)).1 (at_ es7 ((k : Nat) : Int)))) :: blk by_ [I64 (2 + x2), .slice ay (stepL (slideS 3 0 x4 (List.take k es7)).1 (at_ es7 ((k : Nat) : Int))).length cy] 71 :: vc 158 (.slice ay (stepL (slideS 3 0 x4 (List.take k es7)).1 (at_ es7 ((k : Nat) : Int))).length cy) (stepL (slideS 3 0 x4 (List.take k es7)).1 (at_ es7 ((k : Nat) : Int))) :: blk b18 [I64 (2 + x2), .slice ad15 (List.foldl stepL ([] : List Lk) ((slideS 3 0 x4 (List.take (k + 1) es7)).2)).length cp16] 71 :: vc 158 (.slice ad15 (List.foldl stepL ([] : List Lk) ((slideS 3 0 x4 (List.take (k + 1) es7)).2)).length cp16) (List.foldl stepL ([] : List Lk) ((slideS 3 0 x4 (List.take (k + 1) es7)).2)) :: vc 122 (.slice ad13 ((slideS 3 0 x4 (List.take (k + 1) es7)).2).length cp14) ((slideS 3 0 x4 (List.take (k + 1) es7)).2) :: blk b12 [I64 (2 + x2), .slice a1 (slideS 3 0 x4 (List.take k es7)).1.length c1] 71 :: vc 158 (.slice a1 (slideS 3 0 x4 (List.take k es7)).1.length c1) ((slideS 3 0 x4 (List.take k es7)).1) :: vc 122 (.slice ad10 ((slideS 3 0 x4 es7).2).length cp11) ((slideS 3 0 x4 es7).2) :: blk b9 [I64 (3), I64 (0), I64 (x4)] 73 :: vc 122 (.slice ad5 es7.length cp6) (es7) :: blk dk1 [.slice la ln lc, I64 (i8)] 129 :: I)
           refine D.r 8 rfl (Runs.move rfl) ?_ (hJ := Fit.sub)
           refine D.r 9 rfl (Runs.extract rfl rfl) ?_ (hJ := Fit.sub)
           refine D.r 10 rfl (Runs.extract rfl rfl) ?_ (hJ := Fit.sub)
           refine D.step (rs := [11]) (by kernel_rfl) rfl rfl (all1 ?_)
           refine Step.eff rfl (Wanted.plain rfl) (Eff.alloc ty71 rfl) ?_
           rintro _ _ ⟨b33, rfl, rfl⟩
           refine ⟨Fit.sub, ?_⟩
           refine D.step (rs := [12]) (by kernel_rfl) rfl rfl (all1 ?_)
           refine Step.eff rfl (Wanted.plain rfl) (Eff.st (cs := [_, _]) (vs := [_, _]) (cs' := [_, _]) ty71) ?_
           rintro _ _ ⟨rfl, rfl⟩
           refine ⟨Fit.sub, ?_⟩
           refine D.r 13 rfl (Runs.assign rfl) ?_ (hJ := Fit.sub)
           refine D.done (by kernel_rfl) ?_
           exact V.mid ((b33), (ad31), (cp32)) (show True from trivial) (Sub.cons rfl (Sub.cons rfl (Sub.cons rfl (Sub.cons rfl (Sub.cons rfl (Sub.cons rfl (Sub.cons rfl (Sub.cons (lookV rfl (by first | rfl | simp)) (Sub.cons rfl (Sub.cons rfl (Sub.cons rfl Sub.nil))))))))))) (show Fit κ _ (blk (b33) [I64 (2 + x2), .slice (ad31) (List.filter (inW 3 0 x4 (at_ es7 ((k : Nat) : Int)).tm (stepL (slideS 3 0 x4 (List.take k es7)).1 (at_ es7 ((k : Nat) : Int)))) (stepL (slideS 3 0 x4 (List.take k es7)).1 (at_ es7 ((k : Nat) : Int)))).length (cp32)] 71 :: vc 158 (.slice (ad31) (List.filter (inW 3 0 x4 (at_ es7 ((k : Nat) : Int)).tm (stepL (slideS 3 0 x4 (List.take k es7)).1 (at_ es7 ((k : Nat) : Int)))) (stepL (slideS 3 0 x4 (List.take k es7)).1 (at_ es7 ((k : Nat) : Int)))).length (cp32)) (List.filter (inW 3 0 x4 (at_ es7 ((k : Nat) : Int)).tm (stepL (slideS 3 0 x4 (List.take k es7)).1 (at_ es7 ((k : Nat) : Int)))) (stepL (slideS 3 0 x4 (List.take k es7)).1 (at_ es7 ((k : Nat) : Int)))) :: blk by_ [I64 (2 + x2), .slice ay (stepL (slideS 3 0 x4 (List.take k es7)).1 (at_ es7 ((k : Nat) : Int))).length cy] 71 :: vc 158 (.slice ay (stepL (slideS 3 0 x4 (List.take k es7)).1 (at_ es7 ((k : Nat) : Int))).length cy) (stepL (slideS 3 0 x4 (List.take k es7)).1 (at_ es7 ((k : Nat) : Int))) :: blk b18 [I64 (2 + x2), .slice ad15 (List.foldl stepL ([] : List Lk) ((slideS 3 0 x4 (List.take (k + 1) es7)).2)).length cp16] 71 :: vc 158 (.slice ad15 (List.foldl stepL ([] : List Lk) ((slideS 3 0 x4 (List.take (k + 1) es7)).2)).length cp16) (List.foldl stepL ([] : List Lk) ((slideS 3 0 x4 (List.take (k + 1) es7)).2)) :: vc 122 (.slice ad13 ((slideS 3 0 x4 (List.take (k + 1) es7)).2).length cp14) ((slideS 3 0 x4 (List.take (k + 1) es7)).2) :: blk b12 [I64 (2 + x2), .slice a1 (slideS 3 0 x4 (List.take k es7)).1.length c1] 71 :: vc 158 (.slice a1 (slideS 3 0 x4 (List.take k es7)).1.length c1) ((slideS 3 0 x4 (List.take k es7)).1) :: vc 122 (.slice ad10 ((slideS 3 0 x4 es7).2).length cp11) ((slideS 3 0 x4 es7).2) :: blk b9 [I64 (3), I64 (0), I64 (x4)] 73 :: vc 122 (.slice ad5 es7.length cp6) (es7) :: blk dk1 [.slice la ln lc, I64 (i8)] 129 :: I) from Fit.s)
          ·refine Step.eff rfl (Wanted.plain rfl) (Eff.alloc ty71 rfl) ?_
           rintro _ _ ⟨b34, rfl, rfl⟩
           refine ⟨Fit.sub, ?_⟩
           refine D.step (rs := [7]) (by kernel_rfl) rfl rfl (all1 ?_)
           refine Step.eff rfl (Wanted.plain rfl) (Eff.call call53 rfl rfl (Present_yes (nd := 2 + x2) (kd := 3) (wd := 0) (mo := x4) (nw := ((at_ es7 ((k : Nat) : Int)).tm)) (xs := stepL (slideS 3 0 x4 (List.take k es7)).1 (at_ es7 ((k : Nat) : Int))) Sl.o (by omega) (hI2.ask (ckw3 (by omega)) hfm (Int.le_refl _)))) ?_
           rintro _ _ ⟨_, _, ⟨ad35, cp36, rfl, rfl⟩, rfl, rfl⟩
           refine ⟨Fit.sub, ?_⟩
           show D Try.prog κ _ _ _ _ _ _ _ ([(117, .tuple #[.agg #[I64 (2 + x2), .slice ad35 (List.filter (inW 3 0 x4 ((at_ es7 ((k : Nat) : Int)).tm) (stepL (slideS 3 0 x4 (List.take k es7)).1 (at_ es7 ((k : Nat) : Int)))) (stepL (slideS 3 0 x4 (List.take k es7)).1 (at_ es7 ((k : Nat) : Int)))).length cp36], I64 (0)]), (22, .pointer (some ⟨b34, 0, none⟩)), (116, I64 ((at_ es7 ((k : Nat) : Int)).tm)), (115, elemPtr (.slice ad5 es7.length cp6) ((((k : Nat) : Int)).toNat * Enc.sz Ev + 1)), (114, elemPtr (.slice ad5 es7.length cp6) ((((k : Nat) : Int)).toNat * Enc.sz Ev)), (113, I64 (((k : Nat) : Int))), (112, .slice ad5 es7.length cp6), (111, .agg #[I64 (3), I64 (0), I64 (x4)]), (110, .agg #[I64 (2 + x2), .slice ay (stepL (slideS 3 0 x4 (List.take k es7)).1 (at_ es7 ((k : Nat) : Int))).length cy]), (6, I64 (2 + x2)), (7, I64 (x4)), (8, .slice ad5 es7.length cp6), (9, .pointer (some ⟨b9, 0, none⟩)), (10, .slice ad10 ((slideS 3 0 x4 es7).2).length cp11), (12, .pointer (some ⟨b12, 0, none⟩)), (13, I64 (((k : Nat) : Int))), (16, .pointer (some ⟨b18, 0, none⟩)), (19, .pointer (some ⟨by_, 0, none⟩)), (48, I64 (((es7.length : Nat) : Int))), (49, I64 (((k : Nat) : Int)))] : Env) (vc 158 (.slice ad35 (List.filter (inW 3 0 x4 ((at_ es7 ((k : Nat) : Int)).tm) (stepL (slideS 3 0 x4 (List.take k es7)).1 (at_ es7 ((k : Nat) : Int)))) (stepL (slideS 3 0 x4 (List.take k es7)).1 (at_ es7 ((k : Nat) : Int)))).length cp36) (List.filter (inW 3 0 x4 ((at_ es7 ((k : Nat) : Int)).tm) (stepL (slideS 3 0 x4 (List.take k es7)).1 (at_ es7 ((k : Nat) : Int)))) (stepL (slideS 3 0 x4 (List.take k es7)).1 (at_ es7 ((k : Nat) : Int)))) :: blk b34 [I64 (0), .slice none 0 0] 71 :: blk by_ [I64 (2 + x2), .slice ay (stepL (slideS 3 0 x4 (List.take k es7)).1 (at_ es7 ((k : Nat) : Int))).length cy] 71 :: vc 158 (.slice ay (stepL (slideS 3 0 x4 (List.take k es7)).1 (at_ es7 ((k : Nat) : Int))).length cy) (stepL (slideS 3 0 x4 (List.take k es7)).1 (at_ es7 ((k : Nat) : Int))) :: blk b18 [I64 (2 + x2), .slice ad15 (List.foldl stepL ([] : List Lk) ((slideS 3 0 x4 (List.take (k + 1) es7)).2)).length cp16] 71 :: vc 158 (.slice ad15 (List.foldl stepL ([] : List Lk) ((slideS 3 0 x4 (List.take (k + 1) es7)).2)).length cp16) (List.foldl stepL ([] : List Lk) ((slideS 3 0 x4 (List.take (k + 1) es7)).2)) :: vc 122 (.slice ad13 ((slideS 3 0 x4 (List.take (k + 1) es7)).2).length cp14) ((slideS 3 0 x4 (List.take (k + 1) es7)).2) :: blk b12 [I64 (2 + x2), .slice a1 (slideS 3 0 x4 (List.take k es7)).1.length c1] 71 :: vc 158 (.slice a1 (slideS 3 0 x4 (List.take k es7)).1.length c1) ((slideS 3 0 x4 (List.take k es7)).1) :: vc 122 (.slice ad10 ((slideS 3 0 x4 es7).2).length cp11) ((slideS 3 0 x4 es7).2) :: blk b9 [I64 (3), I64 (0), I64 (x4)] 73 :: vc 122 (.slice ad5 es7.length cp6) (es7) :: blk dk1 [.slice la ln lc, I64 (i8)] 129 :: I)
           refine D.r 8 rfl (Runs.move rfl) ?_ (hJ := Fit.sub)
           refine D.r 9 rfl (Runs.extract rfl rfl) ?_ (hJ := Fit.sub)
           refine D.r 10 rfl (Runs.extract rfl rfl) ?_ (hJ := Fit.sub)
           refine D.step (rs := [12]) (by kernel_rfl) rfl rfl (all1 ?_)
           refine Step.eff rfl (Wanted.plain rfl) (Eff.st (cs := [_, _]) (vs := [_, _]) (cs' := [_, _]) ty71) ?_
           rintro _ _ ⟨rfl, rfl⟩
           refine ⟨Fit.sub, ?_⟩
           refine D.r 13 rfl (Runs.assign rfl) ?_ (hJ := Fit.sub)
           refine D.done (by kernel_rfl) ?_
           exact V.mid ((b34), (ad35), (cp36)) (show True from trivial) (Sub.cons rfl (Sub.cons rfl (Sub.cons rfl (Sub.cons rfl (Sub.cons rfl (Sub.cons rfl (Sub.cons rfl (Sub.cons (lookV rfl (by first | rfl | simp)) (Sub.cons rfl (Sub.cons rfl (Sub.cons rfl Sub.nil))))))))))) (show Fit κ _ (blk (b34) [I64 (2 + x2), .slice (ad35) (List.filter (inW 3 0 x4 (at_ es7 ((k : Nat) : Int)).tm (stepL (slideS 3 0 x4 (List.take k es7)).1 (at_ es7 ((k : Nat) : Int)))) (stepL (slideS 3 0 x4 (List.take k es7)).1 (at_ es7 ((k : Nat) : Int)))).length (cp36)] 71 :: vc 158 (.slice (ad35) (List.filter (inW 3 0 x4 (at_ es7 ((k : Nat) : Int)).tm (stepL (slideS 3 0 x4 (List.take k es7)).1 (at_ es7 ((k : Nat) : Int)))) (stepL (slideS 3 0 x4 (List.take k es7)).1 (at_ es7 ((k : Nat) : Int)))).length (cp36)) (List.filter (inW 3 0 x4 (at_ es7 ((k : Nat) : Int)).tm (stepL (slideS 3 0 x4 (List.take k es7)).1 (at_ es7 ((k : Nat) : Int)))) (stepL (slideS 3 0 x4 (List.take k es7)).1 (at_ es7 ((k : Nat) : Int)))) :: blk by_ [I64 (2 + x2), .slice ay (stepL (slideS 3 0 x4 (List.take k es7)).1 (at_ es7 ((k : Nat) : Int))).length cy] 71 :: vc 158 (.slice ay (stepL (slideS 3 0 x4 (List.take k es7)).1 (at_ es7 ((k : Nat) : Int))).length cy) (stepL (slideS 3 0 x4 (List.take k es7)).1 (at_ es7 ((k : Nat) : Int))) :: blk b18 [I64 (2 + x2), .slice ad15 (List.foldl stepL ([] : List Lk) ((slideS 3 0 x4 (List.take (k + 1) es7)).2)).length cp16] 71 :: vc 158 (.slice ad15 (List.foldl stepL ([] : List Lk) ((slideS 3 0 x4 (List.take (k + 1) es7)).2)).length cp16) (List.foldl stepL ([] : List Lk) ((slideS 3 0 x4 (List.take (k + 1) es7)).2)) :: vc 122 (.slice ad13 ((slideS 3 0 x4 (List.take (k + 1) es7)).2).length cp14) ((slideS 3 0 x4 (List.take (k + 1) es7)).2) :: blk b12 [I64 (2 + x2), .slice a1 (slideS 3 0 x4 (List.take k es7)).1.length c1] 71 :: vc 158 (.slice a1 (slideS 3 0 x4 (List.take k es7)).1.length c1) ((slideS 3 0 x4 (List.take k es7)).1) :: vc 122 (.slice ad10 ((slideS 3 0 x4 es7).2).length cp11) ((slideS 3 0 x4 es7).2) :: blk b9 [I64 (3), I64 (0), I64 (x4)] 73 :: vc 122 (.slice ad5 es7.length cp6) (es7) :: blk dk1 [.slice la ln lc, I64 (i8)] 129 :: I) from Fit.s)
         ·rintro ⟨bz, az, cz⟩ hp
          show W Try.prog κ 138 _ _ ([(6, I64 (2 + x2)), (7, I64 (x4)), (8, .slice ad5 es7.length cp6), (9, .pointer (some ⟨b9, 0, none⟩)), (10, .slice ad10 ((slideS 3 0 x4 es7).2).length cp11), (12, .pointer (some ⟨b12, 0, none⟩)), (16, .pointer (some ⟨b18, 0, none⟩)), (22, .pointer (some ⟨bz, 0, none⟩)), (23, I64 (0)), (48, I64 (((es7.length : Nat) : Int))), (49, I64 (((k : Nat) : Int)))] : Env) (blk bz [I64 (2 + x2), .slice az (List.filter (inW 3 0 x4 (at_ es7 ((k : Nat) : Int)).tm (stepL (slideS 3 0 x4 (List.take k es7)).1 (at_ es7 ((k : Nat) : Int)))) (stepL (slideS 3 0 x4 (List.take k es7)).1 (at_ es7 ((k : Nat) : Int)))).length cz] 71 :: vc 158 (.slice az (List.filter (inW 3 0 x4 (at_ es7 ((k : Nat) : Int)).tm (stepL (slideS 3 0 x4 (List.take k es7)).1 (at_ es7 ((k : Nat) : Int)))) (stepL (slideS 3 0 x4 (List.take k es7)).1 (at_ es7 ((k : Nat) : Int)))).length cz) (List.filter (inW 3 0 x4 (at_ es7 ((k : Nat) : Int)).tm (stepL (slideS 3 0 x4 (List.take k es7)).1 (at_ es7 ((k : Nat) : Int)))) (stepL (slideS 3 0 x4 (List.take k es7)).1 (at_ es7 ((k : Nat) : Int)))) :: blk by_ [I64 (2 + x2), .slice ay (stepL (slideS 3 0 x4 (List.take k es7)).1 (at_ es7 ((k : Nat) : Int))).length cy] 71 :: vc 158 (.slice ay (stepL (slideS 3 0 x4 (List.take k es7)).1 (at_ es7 ((k : Nat) : Int))).length cy) (stepL (slideS 3 0 x4 (List.take k es7)).1 (at_ es7 ((k : Nat) : Int))) :: blk b18 [I64 (2 + x2), .slice ad15 (List.foldl stepL ([] : List Lk) ((slideS 3 0 x4 (List.take (k + 1) es7)).2)).length cp16] 71 :: vc 158 (.slice ad15 (List.foldl stepL ([] : List Lk) ((slideS 3 0 x4 (List.take (k + 1) es7)).2)).length cp16) (List.foldl stepL ([] : List Lk) ((slideS 3 0 x4 (List.take (k + 1) es7)).2)) :: vc 122 (.slice ad13 ((slideS 3 0 x4 (List.take (k + 1) es7)).2).length cp14) ((slideS 3 0 x4 (List.take (k + 1) es7)).2) :: blk b12 [I64 (2 + x2), .slice a1 (slideS 3 0 x4 (List.take k es7)).1.length c1] 71 :: vc 158 (.slice a1 (slideS 3 0 x4 (List.take k es7)).1.length c1) ((slideS 3 0 x4 (List.take k es7)).1) :: vc 122 (.slice ad10 ((slideS 3 0 x4 es7).2).length cp11) ((slideS 3 0 x4 es7).2) :: blk b9 [I64 (3), I64 (0), I64 (x4)] 73 :: vc 122 (.slice ad5 es7.length cp6) (es7) :: blk dk1 [.slice la ln lc, I64 (i8)] 129 :: I)
          refine W.seq ?_
          refine W.sr ?_
          refine G.r (Runs.move rfl) ?_
          refine G.r (Runs.neq rfl rfl) ?_
          refine G.r (Runs.move rfl) ?_
          refine G.split (d := 122) rfl (fun g122 => ?_) (fun g122 => ?_)
          ·exact absurd rfl g122
          ·refine G.ro (Runs.lds (vs := [_, _]) ty71) ?_
           refine G.ro (Runs.lds (vs := [_, _]) ty71) ?_
           refine G.eff (Wanted.on rfl rfl rfl) (Eff.call call57 rfl rfl (Same5_ok Sl.o Sl.o)) ?_
           rintro _ _ ⟨_, _, ⟨rfl, rfl⟩, rfl, rfl⟩
           refine G.ro (Runs.notd rfl) ?_
           refine G.r (Runs.pickf rfl rfl) ?_
           refine G.nt ?_
           refine W.sub (L' := [(127, _), (6, _), (7, _), (8, _), (9, _), (10, _), (12, _), (16, _), (48, _), (49, _)]) (Sub.cons rfl (Sub.cons rfl (Sub.cons rfl (Sub.cons rfl (Sub.cons rfl (Sub.cons rfl (Sub.cons rfl (Sub.cons rfl (Sub.cons rfl (Sub.cons rfl Sub.nil)))))))))) ?_
           refine W.ite rfl (fun c127 => ?_) (fun c127 => ?_)
           ·exact (c127 ⟨rfl, hC1.st.symm.trans (cnt_next (nd := 0) (by omega))⟩).elim
           ·refine W.skip ?_
            refine V.then ?_
            refine W.region ?_
            refine G.r (Runs.lds (vs := [_, _]) ty71) ?_
            refine G.e (Eff.st (cs := [_, _]) (vs := [_, _]) (cs' := [_, _]) ty71) ?_
            rintro _ _ ⟨rfl, rfl⟩
            refine G.nil ?_
            refine V.block_normal ?_
            refine V.then ?_
            refine W.region ?_
            refine G.r (Runs.add rfl rfl (by unfold InR; omega)) ?_
            refine G.r (Runs.move rfl) ?_
            refine G.nil ?_
            exact V.next ((k + 1), (ad15), (cp16)) (show ((k + 1 : Nat) ≤ es7.length) from (by omega)) (show es7.length - (k + 1 : Nat) < es7.length - k from (by omega)) (Sub.cons rfl (Sub.cons rfl (Sub.cons rfl (Sub.cons rfl (Sub.cons rfl (Sub.cons rfl (Sub.cons rfl (Sub.cons lookO Sub.nil)))))))) (show Fit κ _ (blk b12 [I64 (2 + x2), .slice (ad15) (slideS 3 0 x4 (List.take (k + 1) es7)).1.length (cp16)] 71 :: vc 158 (.slice (ad15) (slideS 3 0 x4 (List.take (k + 1) es7)).1.length (cp16)) ((slideS 3 0 x4 (List.take (k + 1) es7)).1) :: vc 122 (.slice ad10 ((slideS 3 0 x4 es7).2).length cp11) ((slideS 3 0 x4 es7).2) :: blk b9 [I64 (3), I64 (0), I64 (x4)] 73 :: vc 122 (.slice ad5 es7.length cp6) (es7) :: blk dk1 [.slice la ln lc, I64 (i8)] 129 :: I) from (by rw [hC1.st]; exact Fit.s))
  ·refine W.exit ?_
   refine V.then_exit ?_
   refine V.then_exit ?_
   refine V.block_hit ?_
   refine V.then ?_
   refine W.sr ?_
   refine G.r (Runs.fieldAddr fld71_1 rfl) ?_
   refine G.r (Runs.ld ty69) ?_
   refine G.r (Runs.lens Try.underlying69 rfl) ?_
   refine G.r (Runs.move rfl) ?_
   refine G.r (Runs.leq rfl rfl) ?_
   refine G.r (Runs.move rfl) ?_
   refine G.split (d := 135) rfl (fun g135 => ?_) (fun g135 => ?_)
   ·refine G.eff (Wanted.on rfl rfl rfl) (Eff.call call49 rfl rfl Awake7_ok) ?_
    rintro _ _ ⟨_, _, ⟨rfl, rfl⟩, rfl, rfl⟩
    refine G.r (Runs.pickt rfl rfl) ?_
    refine G.r (Runs.assign rfl) ?_
    refine G.nt ?_
    refine W.sub (L' := [(4, _)]) (Sub.cons rfl Sub.nil) ?_
    refine W.ret ?_
    exact V.ret1 rfl rfl (I) Fit.m ⟨rfl, rfl⟩
   ·exact absurd hCl (by omega)

end Go.Sl
