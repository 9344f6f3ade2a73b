/- A part of the proofs of statements of this seat: contracts of functions, and the plain laws that they lean on. No conditions. -/
import Derived.Test.YtbimaodbcjjbfaaNetY
import Derived.Test.YtbimaodbcjjbfaaNet
namespace Go.Sl
open Go.Proofs
set_option linter.unusedVariables false
set_option linter.unusedSimpArgs false
set_option maxRecDepth 4000
set_option maxHeartbeats 4000000 in
theorem FlowGrows_walk {κ : Ctx} {I : List Item} {la : Option Addr} {ln lc : Nat} {ls : List Int} (hl : Sl κ I (.slice la ln lc) ls) :
    CallS Try.prog κ 4 [.slice la ln lc] I (fun r J => r = .bool true ∧ I = J) := by
 refine CallS.enter (L := [(0, .slice la ln lc)]) Try.func4 rfl rfl rfl rfl ?_
 refine W.sr ?_
 refine G.r (Runs.assign rfl) ?_
 refine G.nt ?_
 refine W.sr ?_
 refine G.r (Runs.move rfl) ?_
 refine G.e (Eff.call call22 rfl rfl New_ok) ?_
 rintro _ _ ⟨_, _, ⟨dk1, rfl, rfl⟩, rfl, rfl⟩
 show G Try.prog κ _ _ _ _ ([(18, .pointer (some ⟨dk1, 0, none⟩)), (17, .slice la ln lc), (2, .bool false), (0, .slice la ln lc)] : Env) (blk dk1 [.slice la ln lc, I64 (0)] 129 :: I)
 have hi0 : (0 : Int) ≤ 0 := Int.le_refl _
 refine G.r (Runs.assign rfl) ?_
 refine G.nt ?_
 refine W.sr ?_
 refine G.r (Runs.move rfl) ?_
 refine G.e (Eff.call call23 rfl rfl (Network_at (by repeat (first | exact AtF.head _ _ | apply AtF.tail)) (fun _ => Sl.fit hl Fit.m) (by omega))) ?_
 rintro _ _ ⟨_, _, ⟨n, ad3, cp4, i2, rfl, hmade, hi2, rfl⟩, rfl, rfl⟩
 show G Try.prog κ _ _ _ _ ([(20, .agg #[I64 (n.nodes), I64 (n.source), I64 (n.sink), .slice ad3 n.arcs.length cp4]), (19, .pointer (some ⟨dk1, 0, none⟩)), (3, .pointer (some ⟨dk1, 0, none⟩)), (18, .pointer (some ⟨dk1, 0, none⟩)), (17, .slice la ln lc), (2, .bool false), (0, .slice la ln lc)] : Env) (vc 43 (.slice ad3 n.arcs.length cp4) (n.arcs) :: blk dk1 [.slice la ln lc, I64 (i2)] 129 :: I)
 have hok := hmade.ok
 have hmlim := hmade.lim
 have htwo := hok.two
 refine G.e (Eff.alloc ty30 rfl) ?_
 rintro _ _ ⟨b5, rfl, rfl⟩
 refine G.e (Eff.st (cs := [_, _, _, _]) (vs := [_, _, _, _]) (cs' := [_, _, _, _]) ty30) ?_
 rintro _ _ ⟨rfl, rfl⟩
 refine G.nt ?_
 refine W.cut (σ := Nat × Nat) (fun s => ([(3, .pointer (some ⟨dk1, 0, none⟩)), (4, .pointer (some ⟨b5, 0, none⟩)), (5, .pointer (some ⟨s.1, 0, none⟩)), (6, .pointer (some ⟨s.2, 0, none⟩))] : Env)) (fun s => blk s.1 [I64 (n.nodes), I64 (n.source), I64 (n.sink), .slice ad3 n.arcs.length cp4] 30 :: blk s.2 [I64 (n.nodes), I64 (n.source), I64 (n.sink), .slice ad3 n.arcs.length cp4] 30 :: blk b5 [I64 (n.nodes), I64 (n.source), I64 (n.sink), .slice ad3 n.arcs.length cp4] 30 :: vc 43 (.slice ad3 n.arcs.length cp4) (n.arcs) :: blk dk1 [.slice la ln lc, I64 (i2)] 129 :: I) (fun s => True) ?_ ?_
 ·refine W.drawn mixed ?_
  refine A.hold (blk b5 [I64 (n.nodes), I64 (n.source), I64 (n.sink), .slice ad3 n.arcs.length cp4] 30 :: vc 43 (.slice ad3 n.arcs.length cp4) (n.arcs) :: blk dk1 [.slice la ln lc, I64 (i2)] 129 :: I) 6 ?_
  refine D.r 0 rfl (Runs.lds (vs := [_, _, _, _]) ty30) ?_
  refine D.r 1 rfl (Runs.lds (vs := [_, _, _, _]) ty30) ?_
  refine D.step (rs := [2, 3]) (by kernel_rfl) rfl rfl (all2 ?_ (all1 ?_))
  ·refine Step.eff rfl (Wanted.plain rfl) (Eff.alloc ty30 rfl) ?_
   rintro _ _ ⟨b6, rfl, rfl⟩
   refine ⟨Fit.m, ?_⟩
   refine D.step (rs := [3]) (by kernel_rfl) rfl rfl (all1 ?_)
   refine Step.eff rfl (Wanted.plain rfl) (Eff.alloc ty30 rfl) ?_
   rintro _ _ ⟨b7, rfl, rfl⟩
   refine ⟨Fit.m, ?_⟩
   refine D.step (rs := [4]) (by kernel_rfl) rfl rfl (all1 ?_)
   refine Step.eff rfl (Wanted.plain rfl) (Eff.st (cs := [_, _, _, _]) (vs := [_, _, _, _]) (cs' := [_, _, _, _]) ty30) ?_
   rintro _ _ ⟨rfl, rfl⟩
   refine ⟨Fit.m, ?_⟩
   refine D.step (rs := [5]) (by kernel_rfl) rfl rfl (all1 ?_)
   refine Step.eff rfl (Wanted.plain rfl) (Eff.st (cs := [_, _, _, _]) (vs := [_, _, _, _]) (cs' := [_, _, _, _]) ty30) ?_
   rintro _ _ ⟨rfl, rfl⟩
   refine ⟨Fit.m, ?_⟩
   refine D.done (by kernel_rfl) ?_
   exact V.mid ((b6), (b7)) (show True from trivial) (Sub.cons rfl (Sub.cons rfl (Sub.cons (lookV rfl (by first | rfl | simp)) (Sub.cons (lookV rfl (by first | rfl | simp)) Sub.nil)))) (show Fit κ _ (blk (b6) [I64 (n.nodes), I64 (n.source), I64 (n.sink), .slice ad3 n.arcs.length cp4] 30 :: blk (b7) [I64 (n.nodes), I64 (n.source), I64 (n.sink), .slice ad3 n.arcs.length cp4] 30 :: blk b5 [I64 (n.nodes), I64 (n.source), I64 (n.sink), .slice ad3 n.arcs.length cp4] 30 :: vc 43 (.slice ad3 n.arcs.length cp4) (n.arcs) :: blk dk1 [.slice la ln lc, I64 (i2)] 129 :: I) from Fit.s)
  ·refine Step.eff rfl (Wanted.plain rfl) (Eff.alloc ty30 rfl) ?_
   rintro _ _ ⟨b8, rfl, rfl⟩
   refine ⟨Fit.m, ?_⟩
   refine D.step (rs := [2]) (by kernel_rfl) rfl rfl (all1 ?_)
   refine Step.eff rfl (Wanted.plain rfl) (Eff.alloc ty30 rfl) ?_
   rintro _ _ ⟨b9, rfl, rfl⟩
   refine ⟨Fit.m, ?_⟩
   refine D.step (rs := [4]) (by kernel_rfl) rfl rfl (all1 ?_)
   refine Step.eff rfl (Wanted.plain rfl) (Eff.st (cs := [_, _, _, _]) (vs := [_, _, _, _]) (cs' := [_, _, _, _]) ty30) ?_
   rintro _ _ ⟨rfl, rfl⟩
   refine ⟨Fit.m, ?_⟩
   refine D.step (rs := [5]) (by kernel_rfl) rfl rfl (all1 ?_)
   refine Step.eff rfl (Wanted.plain rfl) (Eff.st (cs := [_, _, _, _]) (vs := [_, _, _, _]) (cs' := [_, _, _, _]) ty30) ?_
   rintro _ _ ⟨rfl, rfl⟩
   refine ⟨Fit.m, ?_⟩
   refine D.done (by kernel_rfl) ?_
   exact V.mid ((b9), (b8)) (show True from trivial) (Sub.cons rfl (Sub.cons rfl (Sub.cons (lookV rfl (by first | rfl | simp)) (Sub.cons (lookV rfl (by first | rfl | simp)) Sub.nil)))) (show Fit κ _ (blk (b9) [I64 (n.nodes), I64 (n.source), I64 (n.sink), .slice ad3 n.arcs.length cp4] 30 :: blk (b8) [I64 (n.nodes), I64 (n.source), I64 (n.sink), .slice ad3 n.arcs.length cp4] 30 :: blk b5 [I64 (n.nodes), I64 (n.source), I64 (n.sink), .slice ad3 n.arcs.length cp4] 30 :: vc 43 (.slice ad3 n.arcs.length cp4) (n.arcs) :: blk dk1 [.slice la ln lc, I64 (i2)] 129 :: I) from Fit.s)
 ·rintro ⟨bm, bb⟩ hp
  show W Try.prog κ 124 _ _ ([(3, .pointer (some ⟨dk1, 0, none⟩)), (4, .pointer (some ⟨b5, 0, none⟩)), (5, .pointer (some ⟨bm, 0, none⟩)), (6, .pointer (some ⟨bb, 0, none⟩))] : Env) (blk bm [I64 (n.nodes), I64 (n.source), I64 (n.sink), .slice ad3 n.arcs.length cp4] 30 :: blk bb [I64 (n.nodes), I64 (n.source), I64 (n.sink), .slice ad3 n.arcs.length cp4] 30 :: blk b5 [I64 (n.nodes), I64 (n.source), I64 (n.sink), .slice ad3 n.arcs.length cp4] 30 :: vc 43 (.slice ad3 n.arcs.length cp4) (n.arcs) :: blk dk1 [.slice la ln lc, I64 (i2)] 129 :: I)
  refine W.sr ?_
  refine G.r (Runs.move rfl) ?_
  refine G.r (Runs.fieldAddr fld30_0 rfl) ?_
  refine G.r (Runs.ld ty3) ?_
  refine G.e (Eff.call call25 rfl rfl (Next_ok (by repeat (first | exact AtF.head _ _ | apply AtF.tail)) (Sl.f hl) (by omega) (by omega))) ?_
  rintro _ _ ⟨_, _, ⟨x10, i11, rfl, hx10, hi11, rfl⟩, rfl, rfl⟩
  show G Try.prog κ _ _ _ _ ([(26, I64 (x10)), (25, I64 (n.nodes)), (24, .pointer (some ⟨b5, 0, none⟩)), (23, .pointer (some ⟨dk1, 0, none⟩)), (3, .pointer (some ⟨dk1, 0, none⟩)), (4, .pointer (some ⟨b5, 0, none⟩)), (5, .pointer (some ⟨bm, 0, none⟩)), (6, .pointer (some ⟨bb, 0, none⟩))] : Env) (blk bm [I64 (n.nodes), I64 (n.source), I64 (n.sink), .slice ad3 n.arcs.length cp4] 30 :: blk bb [I64 (n.nodes), I64 (n.source), I64 (n.sink), .slice ad3 n.arcs.length cp4] 30 :: blk b5 [I64 (n.nodes), I64 (n.source), I64 (n.sink), .slice ad3 n.arcs.length cp4] 30 :: vc 43 (.slice ad3 n.arcs.length cp4) (n.arcs) :: blk dk1 [.slice la ln lc, I64 (i11)] 129 :: I)
  refine G.r (Runs.assign rfl) ?_
  refine G.nt ?_
  refine W.cut (σ := Nat × Int × Int × Int) (fun s => ([(4, .pointer (some ⟨b5, 0, none⟩)), (5, .pointer (some ⟨bm, 0, none⟩)), (6, .pointer (some ⟨bb, 0, none⟩)), (8, .pointer (some ⟨s.1, 0, none⟩))] : Env)) (fun s => blk s.1 [I64 (x10), I64 (s.2.1), I64 (s.2.2.1)] 43 :: blk bm [I64 (n.nodes), I64 (n.source), I64 (n.sink), .slice ad3 n.arcs.length cp4] 30 :: blk bb [I64 (n.nodes), I64 (n.source), I64 (n.sink), .slice ad3 n.arcs.length cp4] 30 :: blk b5 [I64 (n.nodes), I64 (n.source), I64 (n.sink), .slice ad3 n.arcs.length cp4] 30 :: vc 43 (.slice ad3 n.arcs.length cp4) (n.arcs) :: blk dk1 [.slice la ln lc, I64 (s.2.2.2)] 129 :: I) (fun s => ((0 ≤ s.2.1 ∧ s.2.1 < n.nodes) ∧ s.2.1 ≠ x10) ∧ (0 ≤ s.2.2.1 ∧ s.2.2.1 < 6) ∧ (0 ≤ s.2.2.2)) ?_ ?_
  ·refine W.drawn mixed ?_
   refine A.hold (blk bm [I64 (n.nodes), I64 (n.source), I64 (n.sink), .slice ad3 n.arcs.length cp4] 30 :: blk bb [I64 (n.nodes), I64 (n.source), I64 (n.sink), .slice ad3 n.arcs.length cp4] 30 :: blk b5 [I64 (n.nodes), I64 (n.source), I64 (n.sink), .slice ad3 n.arcs.length cp4] 30 :: vc 43 (.slice ad3 n.arcs.length cp4) (n.arcs) :: I) 16 ?_
   refine D.r 0 rfl (Runs.move rfl) ?_ (hJ := Fit.sub)
   refine D.r 1 rfl (Runs.move rfl) ?_ (hJ := Fit.sub)
   refine D.r 2 rfl (Runs.add rfl rfl (by unfold InR; omega)) ?_ (hJ := Fit.sub)
   refine D.r 3 rfl (Runs.move rfl) ?_ (hJ := Fit.sub)
   refine D.r 4 rfl (Runs.fieldAddr fld30_0 rfl) ?_ (hJ := Fit.sub)
   refine D.r 5 rfl (Runs.ld ty3) ?_ (hJ := Fit.sub)
   refine D.r 6 rfl (Runs.sub rfl rfl (by unfold InR; omega)) ?_ (hJ := Fit.sub)
   refine D.r 9 rfl (Runs.fieldAddr fld30_0 rfl) ?_ (hJ := Fit.sub)
   refine D.r 10 rfl (Runs.ld ty3) ?_ (hJ := Fit.sub)
   refine D.r 12 rfl (Runs.move rfl) ?_ (hJ := Fit.sub)
   refine D.step (rs := [7, 15]) (by kernel_rfl) rfl rfl (all2 ?_ (all1 ?_))
   ·refine Step.eff rfl (Wanted.plain rfl) (Eff.call call25 rfl rfl (Next_ok (by repeat (first | exact AtF.head _ _ | apply AtF.tail)) (Sl.f hl) (by omega) (by omega))) ?_
    rintro _ _ ⟨_, _, ⟨x12, i13, rfl, hx12, hi13, rfl⟩, rfl, rfl⟩
    refine ⟨Fit.sub, ?_⟩
    show D Try.prog κ _ _ _ _ _ _ _ ([(34, I64 (x12)), (39, .pointer (some ⟨dk1, 0, none⟩)), (37, I64 (n.nodes)), (36, .pointer (some ⟨b5, 0, none⟩)), (33, I64 (n.nodes - 1)), (32, I64 (n.nodes)), (31, .pointer (some ⟨b5, 0, none⟩)), (30, .pointer (some ⟨dk1, 0, none⟩)), (29, I64 (x10 + 1)), (28, I64 (x10)), (27, I64 (x10)), (7, I64 (x10)), (26, I64 (x10)), (25, I64 (n.nodes)), (24, .pointer (some ⟨b5, 0, none⟩)), (23, .pointer (some ⟨dk1, 0, none⟩)), (3, .pointer (some ⟨dk1, 0, none⟩)), (4, .pointer (some ⟨b5, 0, none⟩)), (5, .pointer (some ⟨bm, 0, none⟩)), (6, .pointer (some ⟨bb, 0, none⟩))] : Env) (blk bm [I64 (n.nodes), I64 (n.source), I64 (n.sink), .slice ad3 n.arcs.length cp4] 30 :: blk bb [I64 (n.nodes), I64 (n.source), I64 (n.sink), .slice ad3 n.arcs.length cp4] 30 :: blk b5 [I64 (n.nodes), I64 (n.source), I64 (n.sink), .slice ad3 n.arcs.length cp4] 30 :: vc 43 (.slice ad3 n.arcs.length cp4) (n.arcs) :: blk dk1 [.slice la ln lc, I64 (i13)] 129 :: I)
    refine D.r 8 rfl (Runs.add rfl rfl (by unfold InR; omega)) ?_ (hJ := Fit.sub)
    refine D.r 11 rfl (Runs.rem rfl rfl (by omega)) ?_ (hJ := Fit.sub)
    refine D.step (rs := [13, 15]) (by kernel_rfl) rfl rfl (all2 ?_ (all1 ?_))
    ·refine Step.eff rfl (Wanted.plain rfl) (Eff.call call25 rfl rfl (Next_ok (by repeat (first | exact AtF.head _ _ | apply AtF.tail)) (Sl.f hl) (by omega) (by omega))) ?_
     rintro _ _ ⟨_, _, ⟨x14, i15, rfl, hx14, hi15, rfl⟩, rfl, rfl⟩
     refine ⟨Fit.sub, ?_⟩
     show D Try.prog κ _ _ _ _ _ _ _ ([(40, I64 (x14)), (38, I64 (Int.tmod ((x10 + 1) + x12) n.nodes)), (35, I64 ((x10 + 1) + x12)), (34, I64 (x12)), (39, .pointer (some ⟨dk1, 0, none⟩)), (37, I64 (n.nodes)), (36, .pointer (some ⟨b5, 0, none⟩)), (33, I64 (n.nodes - 1)), (32, I64 (n.nodes)), (31, .pointer (some ⟨b5, 0, none⟩)), (30, .pointer (some ⟨dk1, 0, none⟩)), (29, I64 (x10 + 1)), (28, I64 (x10)), (27, I64 (x10)), (7, I64 (x10)), (26, I64 (x10)), (25, I64 (n.nodes)), (24, .pointer (some ⟨b5, 0, none⟩)), (23, .pointer (some ⟨dk1, 0, none⟩)), (3, .pointer (some ⟨dk1, 0, none⟩)), (4, .pointer (some ⟨b5, 0, none⟩)), (5, .pointer (some ⟨bm, 0, none⟩)), (6, .pointer (some ⟨bb, 0, none⟩))] : Env) (blk bm [I64 (n.nodes), I64 (n.source), I64 (n.sink), .slice ad3 n.arcs.length cp4] 30 :: blk bb [I64 (n.nodes), I64 (n.source), I64 (n.sink), .slice ad3 n.arcs.length cp4] 30 :: blk b5 [I64 (n.nodes), I64 (n.source), I64 (n.sink), .slice ad3 n.arcs.length cp4] 30 :: vc 43 (.slice ad3 n.arcs.length cp4) (n.arcs) :: blk dk1 [.slice la ln lc, I64 (i15)] 129 :: I)
     refine D.r 14 rfl (Runs.build (cells := [_, _, _]) ty43 Try.underlying43 pl43 rfl rfl) ?_ (hJ := Fit.sub)
     refine D.step (rs := [15]) (by kernel_rfl) rfl rfl (all1 ?_)
     refine Step.eff rfl (Wanted.plain rfl) (Eff.alloc ty43 rfl) ?_
     rintro _ _ ⟨b16, rfl, rfl⟩
     refine ⟨Fit.sub, ?_⟩
     refine D.stop (by kernel_rfl) ?_
     refine A.eff (i := 16) (by kernel_rfl) rfl (Wanted.plain rfl) (Eff.st (cs := [_, _, _]) (vs := [_, _, _]) (cs' := [_, _, _]) ty43) ?_
     rintro _ _ ⟨rfl, rfl⟩
     refine A.done (by kernel_rfl) ?_
     have hts := tmod_step (s := x10) (x := x12) (N := n.nodes) (by omega) (by omega) (by omega) (by omega)
     exact V.mid ((b16), (Int.tmod ((x10 + 1) + x12) n.nodes), (x14), (i15)) (show ((0 ≤ (Int.tmod ((x10 + 1) + x12) n.nodes : Int) ∧ (Int.tmod ((x10 + 1) + x12) n.nodes : Int) < n.nodes) ∧ (Int.tmod ((x10 + 1) + x12) n.nodes : Int) ≠ x10) ∧ (0 ≤ (x14 : Int) ∧ (x14 : Int) < 6) ∧ (0 ≤ (i15 : Int)) from ⟨hts, (by omega), (by omega)⟩) (Sub.cons rfl (Sub.cons rfl (Sub.cons rfl (Sub.cons (lookV rfl (by first | rfl | simp)) Sub.nil)))) (show Fit κ _ (blk (b16) [I64 (x10), I64 ((Int.tmod ((x10 + 1) + x12) n.nodes)), I64 ((x14))] 43 :: blk bm [I64 (n.nodes), I64 (n.source), I64 (n.sink), .slice ad3 n.arcs.length cp4] 30 :: blk bb [I64 (n.nodes), I64 (n.source), I64 (n.sink), .slice ad3 n.arcs.length cp4] 30 :: blk b5 [I64 (n.nodes), I64 (n.source), I64 (n.sink), .slice ad3 n.arcs.length cp4] 30 :: vc 43 (.slice ad3 n.arcs.length cp4) (n.arcs) :: blk dk1 [.slice la ln lc, I64 ((i15))] 129 :: I) from Fit.s)
    ·refine Step.eff rfl (Wanted.plain rfl) (Eff.alloc ty43 rfl) ?_
     rintro _ _ ⟨b17, rfl, rfl⟩
     refine ⟨Fit.sub, ?_⟩
     refine D.step (rs := [13]) (by kernel_rfl) rfl rfl (all1 ?_)
     refine Step.eff rfl (Wanted.plain rfl) (Eff.call call25 rfl rfl (Next_ok (by repeat (first | exact AtF.head _ _ | apply AtF.tail)) (Sl.f hl) (by omega) (by omega))) ?_
     rintro _ _ ⟨_, _, ⟨x18, i19, rfl, hx18, hi19, rfl⟩, rfl, rfl⟩
     refine ⟨Fit.sub, ?_⟩
     show D Try.prog κ _ _ _ _ _ _ _ ([(40, I64 (x18)), (8, .pointer (some ⟨b17, 0, none⟩)), (38, I64 (Int.tmod ((x10 + 1) + x12) n.nodes)), (35, I64 ((x10 + 1) + x12)), (34, I64 (x12)), (39, .pointer (some ⟨dk1, 0, none⟩)), (37, I64 (n.nodes)), (36, .pointer (some ⟨b5, 0, none⟩)), (33, I64 (n.nodes - 1)), (32, I64 (n.nodes)), (31, .pointer (some ⟨b5, 0, none⟩)), (30, .pointer (some ⟨dk1, 0, none⟩)), (29, I64 (x10 + 1)), (28, I64 (x10)), (27, I64 (x10)), (7, I64 (x10)), (26, I64 (x10)), (25, I64 (n.nodes)), (24, .pointer (some ⟨b5, 0, none⟩)), (23, .pointer (some ⟨dk1, 0, none⟩)), (3, .pointer (some ⟨dk1, 0, none⟩)), (4, .pointer (some ⟨b5, 0, none⟩)), (5, .pointer (some ⟨bm, 0, none⟩)), (6, .pointer (some ⟨bb, 0, none⟩))] : Env) (blk b17 [I64 (0), I64 (0), I64 (0)] 43 :: blk bm [I64 (n.nodes), I64 (n.source), I64 (n.sink), .slice ad3 n.arcs.length cp4] 30 :: blk bb [I64 (n.nodes), I64 (n.source), I64 (n.sink), .slice ad3 n.arcs.length cp4] 30 :: blk b5 [I64 (n.nodes), I64 (n.source), I64 (n.sink), .slice ad3 n.arcs.length cp4] 30 :: vc 43 (.slice ad3 n.arcs.length cp4) (n.arcs) :: blk dk1 [.slice la ln lc, I64 (i19)] 129 :: I)
     refine D.r 14 rfl (Runs.build (cells := [_, _, _]) ty43 Try.underlying43 pl43 rfl rfl) ?_ (hJ := Fit.sub)
     refine D.stop (by kernel_rfl) ?_
     refine A.eff (i := 16) (by kernel_rfl) rfl (Wanted.plain rfl) (Eff.st (cs := [_, _, _]) (vs := [_, _, _]) (cs' := [_, _, _]) ty43) ?_
     rintro _ _ ⟨rfl, rfl⟩
     refine A.done (by kernel_rfl) ?_
     have hts := tmod_step (s := x10) (x := x12) (N := n.nodes) (by omega) (by omega) (by omega) (by omega)
     exact V.mid ((b17), (Int.tmod ((x10 + 1) + x12) n.nodes), (x18), (i19)) (show ((0 ≤ (Int.tmod ((x10 + 1) + x12) n.nodes : Int) ∧ (Int.tmod ((x10 + 1) + x12) n.nodes : Int) < n.nodes) ∧ (Int.tmod ((x10 + 1) + x12) n.nodes : Int) ≠ x10) ∧ (0 ≤ (x18 : Int) ∧ (x18 : Int) < 6) ∧ (0 ≤ (i19 : Int)) from ⟨hts, (by omega), (by omega)⟩) (Sub.cons rfl (Sub.cons rfl (Sub.cons rfl (Sub.cons (lookV rfl (by first | rfl | simp)) Sub.nil)))) (show Fit κ _ (blk (b17) [I64 (x10), I64 ((Int.tmod ((x10 + 1) + x12) n.nodes)), I64 ((x18))] 43 :: blk bm [I64 (n.nodes), I64 (n.source), I64 (n.sink), .slice ad3 n.arcs.length cp4] 30 :: blk bb [I64 (n.nodes), I64 (n.source), I64 (n.sink), .slice ad3 n.arcs.length cp4] 30 :: blk b5 [I64 (n.nodes), I64 (n.source), I64 (n.sink), .slice ad3 n.arcs.length cp4] 30 :: vc 43 (.slice ad3 n.arcs.length cp4) (n.arcs) :: blk dk1 [.slice la ln lc, I64 ((i19))] 129 :: I) from Fit.s)
   ·refine Step.eff rfl (Wanted.plain rfl) (Eff.alloc ty43 rfl) ?_
    rintro _ _ ⟨b20, rfl, rfl⟩
    refine ⟨Fit.sub, ?_⟩
    refine D.step (rs := [7]) (by kernel_rfl) rfl rfl (all1 ?_)
    refine Step.eff rfl (Wanted.plain rfl) (Eff.call call25 rfl rfl (Next_ok (by repeat (first | exact AtF.head _ _ | apply AtF.tail)) (Sl.f hl) (by omega) (by omega))) ?_
    rintro _ _ ⟨_, _, ⟨x21, i22, rfl, hx21, hi22, rfl⟩, rfl, rfl⟩
    refine ⟨Fit.sub, ?_⟩
    show D Try.prog κ _ _ _ _ _ _ _ ([(34, I64 (x21)), (8, .pointer (some ⟨b20, 0, none⟩)), (39, .pointer (some ⟨dk1, 0, none⟩)), (37, I64 (n.nodes)), (36, .pointer (some ⟨b5, 0, none⟩)), (33, I64 (n.nodes - 1)), (32, I64 (n.nodes)), (31, .pointer (some ⟨b5, 0, none⟩)), (30, .pointer (some ⟨dk1, 0, none⟩)), (29, I64 (x10 + 1)), (28, I64 (x10)), (27, I64 (x10)), (7, I64 (x10)), (26, I64 (x10)), (25, I64 (n.nodes)), (24, .pointer (some ⟨b5, 0, none⟩)), (23, .pointer (some ⟨dk1, 0, none⟩)), (3, .pointer (some ⟨dk1, 0, none⟩)), (4, .pointer (some ⟨b5, 0, none⟩)), (5, .pointer (some ⟨bm, 0, none⟩)), (6, .pointer (some ⟨bb, 0, none⟩))] : Env) (blk b20 [I64 (0), I64 (0), I64 (0)] 43 :: blk bm [I64 (n.nodes), I64 (n.source), I64 (n.sink), .slice ad3 n.arcs.length cp4] 30 :: blk bb [I64 (n.nodes), I64 (n.source), I64 (n.sink), .slice ad3 n.arcs.length cp4] 30 :: blk b5 [I64 (n.nodes), I64 (n.source), I64 (n.sink), .slice ad3 n.arcs.length cp4] 30 :: vc 43 (.slice ad3 n.arcs.length cp4) (n.arcs) :: blk dk1 [.slice la ln lc, I64 (i22)] 129 :: I)
    refine D.r 8 rfl (Runs.add rfl rfl (by unfold InR; omega)) ?_ (hJ := Fit.sub)
    refine D.r 11 rfl (Runs.rem rfl rfl (by omega)) ?_ (hJ := Fit.sub)
    refine D.step (rs := [13]) (by kernel_rfl) rfl rfl (all1 ?_)
    refine Step.eff rfl (Wanted.plain rfl) (Eff.call call25 rfl rfl (Next_ok (by repeat (first | exact AtF.head _ _ | apply AtF.tail)) (Sl.f hl) (by omega) (by omega))) ?_
    rintro _ _ ⟨_, _, ⟨x23, i24, rfl, hx23, hi24, rfl⟩, rfl, rfl⟩
    refine ⟨Fit.sub, ?_⟩
    show D Try.prog κ _ _ _ _ _ _ _ ([(40, I64 (x23)), (38, I64 (Int.tmod ((x10 + 1) + x21) n.nodes)), (35, I64 ((x10 + 1) + x21)), (34, I64 (x21)), (8, .pointer (some ⟨b20, 0, none⟩)), (39, .pointer (some ⟨dk1, 0, none⟩)), (37, I64 (n.nodes)), (36, .pointer (some ⟨b5, 0, none⟩)), (33, I64 (n.nodes - 1)), (32, I64 (n.nodes)), (31, .pointer (some ⟨b5, 0, none⟩)), (30, .pointer (some ⟨dk1, 0, none⟩)), (29, I64 (x10 + 1)), (28, I64 (x10)), (27, I64 (x10)), (7, I64 (x10)), (26, I64 (x10)), (25, I64 (n.nodes)), (24, .pointer (some ⟨b5, 0, none⟩)), (23, .pointer (some ⟨dk1, 0, none⟩)), (3, .pointer (some ⟨dk1, 0, none⟩)), (4, .pointer (some ⟨b5, 0, none⟩)), (5, .pointer (some ⟨bm, 0, none⟩)), (6, .pointer (some ⟨bb, 0, none⟩))] : Env) (blk b20 [I64 (0), I64 (0), I64 (0)] 43 :: blk bm [I64 (n.nodes), I64 (n.source), I64 (n.sink), .slice ad3 n.arcs.length cp4] 30 :: blk bb [I64 (n.nodes), I64 (n.source), I64 (n.sink), .slice ad3 n.arcs.length cp4] 30 :: blk b5 [I64 (n.nodes), I64 (n.source), I64 (n.sink), .slice ad3 n.arcs.length cp4] 30 :: vc 43 (.slice ad3 n.arcs.length cp4) (n.arcs) :: blk dk1 [.slice la ln lc, I64 (i24)] 129 :: I)
    refine D.r 14 rfl (Runs.build (cells := [_, _, _]) ty43 Try.underlying43 pl43 rfl rfl) ?_ (hJ := Fit.sub)
    refine D.stop (by kernel_rfl) ?_
    refine A.eff (i := 16) (by kernel_rfl) rfl (Wanted.plain rfl) (Eff.st (cs := [_, _, _]) (vs := [_, _, _]) (cs' := [_, _, _]) ty43) ?_
    rintro _ _ ⟨rfl, rfl⟩
    refine A.done (by kernel_rfl) ?_
    have hts := tmod_step (s := x10) (x := x21) (N := n.nodes) (by omega) (by omega) (by omega) (by omega)
    exact V.mid ((b20), (Int.tmod ((x10 + 1) + x21) n.nodes), (x23), (i24)) (show ((0 ≤ (Int.tmod ((x10 + 1) + x21) n.nodes : Int) ∧ (Int.tmod ((x10 + 1) + x21) n.nodes : Int) < n.nodes) ∧ (Int.tmod ((x10 + 1) + x21) n.nodes : Int) ≠ x10) ∧ (0 ≤ (x23 : Int) ∧ (x23 : Int) < 6) ∧ (0 ≤ (i24 : Int)) from ⟨hts, (by omega), (by omega)⟩) (Sub.cons rfl (Sub.cons rfl (Sub.cons rfl (Sub.cons (lookV rfl (by first | rfl | simp)) Sub.nil)))) (show Fit κ _ (blk (b20) [I64 (x10), I64 ((Int.tmod ((x10 + 1) + x21) n.nodes)), I64 ((x23))] 43 :: blk bm [I64 (n.nodes), I64 (n.source), I64 (n.sink), .slice ad3 n.arcs.length cp4] 30 :: blk bb [I64 (n.nodes), I64 (n.source), I64 (n.sink), .slice ad3 n.arcs.length cp4] 30 :: blk b5 [I64 (n.nodes), I64 (n.source), I64 (n.sink), .slice ad3 n.arcs.length cp4] 30 :: vc 43 (.slice ad3 n.arcs.length cp4) (n.arcs) :: blk dk1 [.slice la ln lc, I64 ((i24))] 129 :: I) from Fit.s)
  ·rintro ⟨bx, dst, cap, i5⟩ hp
   obtain ⟨hdst, hcap, hi5⟩ : ((0 ≤ dst ∧ dst < n.nodes) ∧ dst ≠ x10) ∧ (0 ≤ cap ∧ cap < 6) ∧ (0 ≤ i5) := hp
   show W Try.prog κ 124 _ _ ([(4, .pointer (some ⟨b5, 0, none⟩)), (5, .pointer (some ⟨bm, 0, none⟩)), (6, .pointer (some ⟨bb, 0, none⟩)), (8, .pointer (some ⟨bx, 0, none⟩))] : Env) (blk bx [I64 (x10), I64 (dst), I64 (cap)] 43 :: blk bm [I64 (n.nodes), I64 (n.source), I64 (n.sink), .slice ad3 n.arcs.length cp4] 30 :: blk bb [I64 (n.nodes), I64 (n.source), I64 (n.sink), .slice ad3 n.arcs.length cp4] 30 :: blk b5 [I64 (n.nodes), I64 (n.source), I64 (n.sink), .slice ad3 n.arcs.length cp4] 30 :: vc 43 (.slice ad3 n.arcs.length cp4) (n.arcs) :: blk dk1 [.slice la ln lc, I64 (i5)] 129 :: I)
   have hokp : (n.push ⟨x10, dst, cap⟩).Ok := hok.push (by omega) ⟨⟨by dsimp only; omega, by dsimp only; omega⟩, ⟨by dsimp only; omega, by dsimp only; omega⟩, by dsimp only; omega, by dsimp only; omega, by dsimp only; omega⟩
   refine W.cut (σ := (Option Addr) × Nat) (fun s => ([(4, .pointer (some ⟨b5, 0, none⟩)), (5, .pointer (some ⟨bm, 0, none⟩)), (6, .pointer (some ⟨bb, 0, none⟩)), (8, .pointer (some ⟨bx, 0, none⟩))] : Env)) (fun s => vc 43 (.slice s.1 (n.arcs ++ ([⟨x10, dst, cap⟩] : List Arc)).length s.2) (n.arcs ++ ([⟨x10, dst, cap⟩] : List Arc)) :: blk bx [I64 (x10), I64 (dst), I64 (cap)] 43 :: blk bm [I64 (n.nodes), I64 (n.source), I64 (n.sink), .slice s.1 (n.arcs ++ ([⟨x10, dst, cap⟩] : List Arc)).length s.2] 30 :: blk bb [I64 (n.nodes), I64 (n.source), I64 (n.sink), .slice ad3 n.arcs.length cp4] 30 :: blk b5 [I64 (n.nodes), I64 (n.source), I64 (n.sink), .slice ad3 n.arcs.length cp4] 30 :: vc 43 (.slice ad3 n.arcs.length cp4) (n.arcs) :: blk dk1 [.slice la ln lc, I64 (i5)] 129 :: I) (fun s => True) ?_ ?_
   ·refine W.drawn mixed ?_
    refine A.hold (blk bx [I64 (x10), I64 (dst), I64 (cap)] 43 :: blk bb [I64 (n.nodes), I64 (n.source), I64 (n.sink), .slice ad3 n.arcs.length cp4] 30 :: blk b5 [I64 (n.nodes), I64 (n.source), I64 (n.sink), .slice ad3 n.arcs.length cp4] 30 :: vc 43 (.slice ad3 n.arcs.length cp4) (n.arcs) :: blk dk1 [.slice la ln lc, I64 (i5)] 129 :: I) 7 ?_
    refine D.r 0 rfl (Runs.fieldAddr fld30_3 rfl) ?_ (hJ := Fit.sub)
    refine D.r 1 rfl (Runs.ld ty28) ?_ (hJ := Fit.sub)
    refine D.r 3 rfl (Runs.lds (vs := [_, _, _]) ty43) ?_ (hJ := Fit.sub)
    refine D.step (rs := [2, 4]) (by kernel_rfl) rfl rfl (all2 ?_ (all1 ?_))
    ·refine Step.eff rfl (Wanted.plain rfl) (Eff.clone (α := Arc) (ys := n.arcs) Try.underlying28 ty43 rfl rfl rfl Sl.o (by first | omega | (simp only [List.length_cons, List.length_nil]; omega)) (by decide) rfl) ?_
     rintro _ _ ⟨ad25, cp26, rfl, rfl⟩
     refine ⟨Fit.sub, ?_⟩
     refine D.step (rs := [4]) (by kernel_rfl) rfl rfl (all1 ?_)
     refine Step.eff rfl (Wanted.plain rfl) (Eff.bs (α := Arc) (cs := [_, _, _]) (xs := [⟨x10, dst, cap⟩]) Try.underlying28 ty43 rfl rfl (by decide) (by decide) rfl rfl rfl rfl) ?_
     rintro _ _ ⟨ad27, rfl, rfl⟩
     refine ⟨Fit.sub, ?_⟩
     refine D.step (rs := [5]) (by kernel_rfl) rfl rfl (all1 ?_)
     refine Step.eff rfl (Wanted.plain rfl) (Eff.app (α := Arc) (e := 43) (xs := n.arcs) (ys := ([⟨x10, dst, cap⟩] : List Arc)) Try.underlying28 ty43 rfl rfl rfl (by repeat (first | exact List.mem_cons_self | apply List.mem_cons_of_mem)) Sl.o (by first | omega | (simp only [List.length_cons, List.length_nil]; omega)) (by decide) rfl (fun _ _ => (by repeat (first | exact At.head _ _ _ | apply At.tail)))) ?_
     rintro _ _ ⟨ad28, cp29, rfl, rfl⟩
     refine ⟨Fit.sub, ?_⟩
     refine D.r 6 rfl (Runs.fieldAddr fld30_3 rfl) ?_ (hJ := Fit.sub)
     refine D.stop (by kernel_rfl) ?_
     refine A.eff (i := 7) (by kernel_rfl) rfl (Wanted.plain rfl) (Eff.st (cs := [_, _, _, _]) (vs := [_]) (cs' := [_, _, _, _]) ty28) ?_
     rintro _ _ ⟨rfl, rfl⟩
     refine A.done (by kernel_rfl) ?_
     exact V.mid ((ad28), (cp29)) (show True from trivial) (Sub.cons rfl (Sub.cons rfl (Sub.cons rfl (Sub.cons rfl Sub.nil)))) (show Fit κ _ (vc 43 (.slice (ad28) (n.arcs ++ ([⟨x10, dst, cap⟩] : List Arc)).length (cp29)) (n.arcs ++ ([⟨x10, dst, cap⟩] : List Arc)) :: blk bx [I64 (x10), I64 (dst), I64 (cap)] 43 :: blk bm [I64 (n.nodes), I64 (n.source), I64 (n.sink), .slice (ad28) (n.arcs ++ ([⟨x10, dst, cap⟩] : List Arc)).length (cp29)] 30 :: blk bb [I64 (n.nodes), I64 (n.source), I64 (n.sink), .slice ad3 n.arcs.length cp4] 30 :: blk b5 [I64 (n.nodes), I64 (n.source), I64 (n.sink), .slice ad3 n.arcs.length cp4] 30 :: vc 43 (.slice ad3 n.arcs.length cp4) (n.arcs) :: blk dk1 [.slice la ln lc, I64 (i5)] 129 :: I) from Fit.s)
    ·refine Step.eff rfl (Wanted.plain rfl) (Eff.bs (α := Arc) (cs := [_, _, _]) (xs := [⟨x10, dst, cap⟩]) Try.underlying28 ty43 rfl rfl (by decide) (by decide) rfl rfl rfl rfl) ?_
     rintro _ _ ⟨ad30, rfl, rfl⟩
     refine ⟨Fit.sub, ?_⟩
     refine D.step (rs := [2]) (by kernel_rfl) rfl rfl (all1 ?_)
     refine Step.eff rfl (Wanted.plain rfl) (Eff.clone (α := Arc) (ys := n.arcs) Try.underlying28 ty43 rfl rfl rfl Sl.o (by first | omega | (simp only [List.length_cons, List.length_nil]; omega)) (by decide) rfl) ?_
     rintro _ _ ⟨ad31, cp32, rfl, rfl⟩
     refine ⟨Fit.sub, ?_⟩
     refine D.step (rs := [5]) (by kernel_rfl) rfl rfl (all1 ?_)
     refine Step.eff rfl (Wanted.plain rfl) (Eff.app (α := Arc) (e := 43) (xs := n.arcs) (ys := ([⟨x10, dst, cap⟩] : List Arc)) Try.underlying28 ty43 rfl rfl rfl (by repeat (first | exact List.mem_cons_self | apply List.mem_cons_of_mem)) Sl.o (by first | omega | (simp only [List.length_cons, List.length_nil]; omega)) (by decide) rfl (fun _ _ => (by repeat (first | exact At.head _ _ _ | apply At.tail)))) ?_
     rintro _ _ ⟨ad33, cp34, rfl, rfl⟩
     refine ⟨Fit.sub, ?_⟩
     refine D.r 6 rfl (Runs.fieldAddr fld30_3 rfl) ?_ (hJ := Fit.sub)
     refine D.stop (by kernel_rfl) ?_
     refine A.eff (i := 7) (by kernel_rfl) rfl (Wanted.plain rfl) (Eff.st (cs := [_, _, _, _]) (vs := [_]) (cs' := [_, _, _, _]) ty28) ?_
     rintro _ _ ⟨rfl, rfl⟩
     refine A.done (by kernel_rfl) ?_
     exact V.mid ((ad33), (cp34)) (show True from trivial) (Sub.cons rfl (Sub.cons rfl (Sub.cons rfl (Sub.cons rfl Sub.nil)))) (show Fit κ _ (vc 43 (.slice (ad33) (n.arcs ++ ([⟨x10, dst, cap⟩] : List Arc)).length (cp34)) (n.arcs ++ ([⟨x10, dst, cap⟩] : List Arc)) :: blk bx [I64 (x10), I64 (dst), I64 (cap)] 43 :: blk bm [I64 (n.nodes), I64 (n.source), I64 (n.sink), .slice (ad33) (n.arcs ++ ([⟨x10, dst, cap⟩] : List Arc)).length (cp34)] 30 :: blk bb [I64 (n.nodes), I64 (n.source), I64 (n.sink), .slice ad3 n.arcs.length cp4] 30 :: blk b5 [I64 (n.nodes), I64 (n.source), I64 (n.sink), .slice ad3 n.arcs.length cp4] 30 :: vc 43 (.slice ad3 n.arcs.length cp4) (n.arcs) :: blk dk1 [.slice la ln lc, I64 (i5)] 129 :: I) from Fit.s)
   ·rintro ⟨am, cm⟩ hp
    show W Try.prog κ 124 _ _ ([(4, .pointer (some ⟨b5, 0, none⟩)), (5, .pointer (some ⟨bm, 0, none⟩)), (6, .pointer (some ⟨bb, 0, none⟩)), (8, .pointer (some ⟨bx, 0, none⟩))] : Env) (vc 43 (.slice am (n.arcs ++ ([⟨x10, dst, cap⟩] : List Arc)).length cm) (n.arcs ++ ([⟨x10, dst, cap⟩] : List Arc)) :: blk bx [I64 (x10), I64 (dst), I64 (cap)] 43 :: blk bm [I64 (n.nodes), I64 (n.source), I64 (n.sink), .slice am (n.arcs ++ ([⟨x10, dst, cap⟩] : List Arc)).length cm] 30 :: blk bb [I64 (n.nodes), I64 (n.source), I64 (n.sink), .slice ad3 n.arcs.length cp4] 30 :: blk b5 [I64 (n.nodes), I64 (n.source), I64 (n.sink), .slice ad3 n.arcs.length cp4] 30 :: vc 43 (.slice ad3 n.arcs.length cp4) (n.arcs) :: blk dk1 [.slice la ln lc, I64 (i5)] 129 :: I)
    refine W.seq ?_
    refine W.drawn mixed ?_
    refine A.hold (vc 43 (.slice am (n.arcs ++ ([⟨x10, dst, cap⟩] : List Arc)).length cm) (n.arcs ++ ([⟨x10, dst, cap⟩] : List Arc)) :: blk bx [I64 (x10), I64 (dst), I64 (cap)] 43 :: blk bm [I64 (n.nodes), I64 (n.source), I64 (n.sink), .slice am (n.arcs ++ ([⟨x10, dst, cap⟩] : List Arc)).length cm] 30 :: blk b5 [I64 (n.nodes), I64 (n.source), I64 (n.sink), .slice ad3 n.arcs.length cp4] 30 :: vc 43 (.slice ad3 n.arcs.length cp4) (n.arcs) :: blk dk1 [.slice la ln lc, I64 (i5)] 129 :: I) 10 ?_
    refine D.r 0 rfl (Runs.fieldAddr fld30_2 rfl) ?_ (hJ := Fit.sub)
    refine D.r 1 rfl (Runs.ld ty3) ?_ (hJ := Fit.sub)
    refine D.r 2 rfl (Runs.fieldAddr fld30_1 rfl) ?_ (hJ := Fit.sub)
    refine D.r 3 rfl (Runs.ld ty3) ?_ (hJ := Fit.sub)
    refine D.r 4 rfl (Runs.fieldAddr fld30_3 rfl) ?_ (hJ := Fit.sub)
    refine D.step (rs := [5]) (by kernel_rfl) rfl rfl (all1 ?_)
    refine Step.eff rfl (Wanted.plain rfl) (Eff.st (cs := [_, _, _, _]) (vs := [_]) (cs' := [_, _, _, _]) ty28) ?_
    rintro _ _ ⟨rfl, rfl⟩
    refine ⟨Fit.sub, ?_⟩
    refine D.r 6 rfl (Runs.fieldAddr fld30_1 rfl) ?_ (hJ := Fit.sub)
    refine D.step (rs := [7]) (by kernel_rfl) rfl rfl (all1 ?_)
    refine Step.eff rfl (Wanted.plain rfl) (Eff.st (cs := [_, _, _, _]) (vs := [_]) (cs' := [_, _, _, _]) ty3) ?_
    rintro _ _ ⟨rfl, rfl⟩
    refine ⟨Fit.sub, ?_⟩
    refine D.r 8 rfl (Runs.fieldAddr fld30_2 rfl) ?_ (hJ := Fit.sub)
    refine D.step (rs := [9]) (by kernel_rfl) rfl rfl (all1 ?_)
    refine Step.eff rfl (Wanted.plain rfl) (Eff.st (cs := [_, _, _, _]) (vs := [_]) (cs' := [_, _, _, _]) ty3) ?_
    rintro _ _ ⟨rfl, rfl⟩
    refine ⟨Fit.sub, ?_⟩
    refine D.done (by kernel_rfl) ?_
    refine V.then ?_
    refine W.seq ?_
    refine W.sr ?_
    refine G.r (Runs.fieldAddr fld30_3 rfl) ?_
    refine G.r (Runs.ld ty28) ?_
    refine G.r (Runs.lens Try.underlying28 rfl) ?_
    refine G.r (Runs.move rfl) ?_
    refine G.nt ?_
    refine W.sub (L' := [(59, _), (58, _), (57, _), (4, _), (5, _), (6, _), (8, _)]) (Sub.cons rfl (Sub.cons rfl (Sub.cons rfl (Sub.cons rfl (Sub.cons rfl (Sub.cons rfl (Sub.cons rfl Sub.nil))))))) ?_
    refine W.block ?_
    refine W.loop (σ := Nat × (Option Addr) × Nat × (List Arc)) (fun s => ([(4, .pointer (some ⟨b5, 0, none⟩)), (5, .pointer (some ⟨bm, 0, none⟩)), (6, .pointer (some ⟨bb, 0, none⟩)), (8, .pointer (some ⟨bx, 0, none⟩)), (57, .slice ad3 n.arcs.length cp4), (58, I64 (((n.arcs.length : Nat) : Int))), (59, I64 (((s.1 : Nat) : Int)))] : Env)) (fun s => vc 43 (.slice s.2.1 s.2.2.2.length s.2.2.1) (s.2.2.2) :: vc 43 (.slice am (n.arcs ++ ([⟨x10, dst, cap⟩] : List Arc)).length cm) (n.arcs ++ ([⟨x10, dst, cap⟩] : List Arc)) :: blk bx [I64 (x10), I64 (dst), I64 (cap)] 43 :: blk bm [I64 (n.nodes), I64 (n.source), I64 (n.sink), .slice am (n.arcs ++ ([⟨x10, dst, cap⟩] : List Arc)).length cm] 30 :: blk bb [I64 (n.nodes), I64 (n.sink), I64 (n.source), .slice s.2.1 s.2.2.2.length s.2.2.1] 30 :: blk b5 [I64 (n.nodes), I64 (n.source), I64 (n.sink), .slice ad3 n.arcs.length cp4] 30 :: vc 43 (.slice ad3 n.arcs.length cp4) (n.arcs) :: blk dk1 [.slice la ln lc, I64 (i5)] 129 :: I) (fun s => (s.1 ≤ n.arcs.length) ∧ (s.2.2.2 = (n.arcs.take s.1).map Arc.turn)) (fun s => n.arcs.length - s.1) (0, none, 0, []) (show ((0 : Nat) ≤ n.arcs.length) ∧ (([] : List Arc) = (n.arcs.take (0 : Nat)).map Arc.turn) from ⟨(by omega), rfl⟩) (Sub.cons rfl (Sub.cons rfl (Sub.cons rfl (Sub.cons rfl (Sub.cons rfl (Sub.cons rfl (Sub.cons (lookI rfl (by omega)) Sub.nil))))))) (show Fit κ _ (vc 43 (.slice (none) ([]).length (0)) (([])) :: vc 43 (.slice am (n.arcs ++ ([⟨x10, dst, cap⟩] : List Arc)).length cm) (n.arcs ++ ([⟨x10, dst, cap⟩] : List Arc)) :: blk bx [I64 (x10), I64 (dst), I64 (cap)] 43 :: blk bm [I64 (n.nodes), I64 (n.source), I64 (n.sink), .slice am (n.arcs ++ ([⟨x10, dst, cap⟩] : List Arc)).length cm] 30 :: blk bb [I64 (n.nodes), I64 (n.sink), I64 (n.source), .slice (none) ([]).length (0)] 30 :: blk b5 [I64 (n.nodes), I64 (n.source), I64 (n.sink), .slice ad3 n.arcs.length cp4] 30 :: vc 43 (.slice ad3 n.arcs.length cp4) (n.arcs) :: blk dk1 [.slice la ln lc, I64 (i5)] 129 :: I) from (Fit.nilvc _ _)) ?_
    rintro ⟨k, a, c, out⟩ hp
    obtain ⟨hk, hout⟩ : (k ≤ n.arcs.length) ∧ (out = (n.arcs.take k).map Arc.turn) := hp
    show W Try.prog κ 124 _ _ ([(4, .pointer (some ⟨b5, 0, none⟩)), (5, .pointer (some ⟨bm, 0, none⟩)), (6, .pointer (some ⟨bb, 0, none⟩)), (8, .pointer (some ⟨bx, 0, none⟩)), (57, .slice ad3 n.arcs.length cp4), (58, I64 (((n.arcs.length : Nat) : Int))), (59, I64 (((k : Nat) : Int)))] : Env) (vc 43 (.slice a out.length c) (out) :: vc 43 (.slice am (n.arcs ++ ([⟨x10, dst, cap⟩] : List Arc)).length cm) (n.arcs ++ ([⟨x10, dst, cap⟩] : List Arc)) :: blk bx [I64 (x10), I64 (dst), I64 (cap)] 43 :: blk bm [I64 (n.nodes), I64 (n.source), I64 (n.sink), .slice am (n.arcs ++ ([⟨x10, dst, cap⟩] : List Arc)).length cm] 30 :: blk bb [I64 (n.nodes), I64 (n.sink), I64 (n.source), .slice a out.length c] 30 :: blk b5 [I64 (n.nodes), I64 (n.source), I64 (n.sink), .slice ad3 n.arcs.length cp4] 30 :: vc 43 (.slice ad3 n.arcs.length cp4) (n.arcs) :: blk dk1 [.slice la ln lc, I64 (i5)] 129 :: I)
    have hol : out.length = k := by rw [hout, List.length_map, List.length_take]; omega
    refine W.sr ?_
    refine G.r (Runs.lss rfl rfl) ?_
    refine G.nt ?_
    refine W.seq ?_
    refine W.ite rfl (fun c60 => ?_) (fun c60 => ?_)
    ·refine W.skip ?_
     refine V.then ?_
     refine W.seq ?_
     refine W.block ?_
     refine W.sr ?_
     refine G.r (Runs.idx (α := Arc) (xs := n.arcs) Try.underlying28 ty43 rfl rfl Sl.o (by omega) (by omega)) ?_
     refine G.r (Runs.gets (α := Arc) (xs := n.arcs) ty43 rfl Sl.o (by omega) (by omega)) ?_
     refine G.e (Eff.alloc ty43 rfl) ?_
     rintro _ _ ⟨b35, rfl, rfl⟩
     refine G.e (Eff.st (cs := [_, _, _]) (vs := [_, _, _]) (cs' := [_, _, _]) ty43) ?_
     rintro _ _ ⟨rfl, rfl⟩
     refine G.nt ?_
     refine W.region ?_
     refine G.r (Runs.fieldAddr fld30_3 rfl) ?_
     refine G.r (Runs.ld ty28) ?_
     refine G.r (Runs.fieldAddr fld43_1 rfl) ?_
     refine G.r (Runs.ld ty3) ?_
     refine G.r (Runs.fieldAddr fld43_0 rfl) ?_
     refine G.r (Runs.ld ty3) ?_
     refine G.r (Runs.fieldAddr fld43_2 rfl) ?_
     refine G.r (Runs.ld ty3) ?_
     refine G.r (Runs.build (cells := [_, _, _]) ty43 Try.underlying43 pl43 rfl rfl) ?_
     refine G.e (Eff.bs (α := Arc) (cs := [_, _, _]) (xs := [⟨(at_ n.arcs ((k : Nat) : Int)).dst, (at_ n.arcs ((k : Nat) : Int)).frm, (at_ n.arcs ((k : Nat) : Int)).cap⟩]) Try.underlying28 ty43 rfl rfl (by decide) (by decide) rfl rfl rfl rfl) ?_
     rintro _ _ ⟨ad36, rfl, rfl⟩
     refine G.e (Eff.app (α := Arc) (e := 43) (xs := out) (ys := ([⟨(at_ n.arcs ((k : Nat) : Int)).dst, (at_ n.arcs ((k : Nat) : Int)).frm, (at_ n.arcs ((k : Nat) : Int)).cap⟩] : List Arc)) Try.underlying28 ty43 rfl rfl rfl (by repeat (first | exact List.mem_cons_self | apply List.mem_cons_of_mem)) Sl.o (by first | omega | (simp only [List.length_cons, List.length_nil]; omega)) (by decide) rfl (fun _ _ => (by repeat (first | exact At.head _ _ _ | apply At.tail)))) ?_
     rintro _ _ ⟨ad37, cp38, rfl, rfl⟩
     refine G.r (Runs.fieldAddr fld30_3 rfl) ?_
     refine G.e (Eff.st (cs := [_, _, _, _]) (vs := [_]) (cs' := [_, _, _, _]) ty28) ?_
     rintro _ _ ⟨rfl, rfl⟩
     refine G.nil ?_
     refine V.block_normal ?_
     refine V.then ?_
     refine W.sub (L' := [(4, _), (5, _), (6, _), (8, _), (57, _), (58, _), (59, _)]) (Sub.cons rfl (Sub.cons rfl (Sub.cons rfl (Sub.cons rfl (Sub.cons rfl (Sub.cons rfl (Sub.cons rfl Sub.nil))))))) ?_
     refine W.region ?_
     refine G.r (Runs.add rfl rfl (by unfold InR; omega)) ?_
     refine G.r (Runs.move rfl) ?_
     refine G.nil ?_
     exact V.next ((k + 1), (ad37), (cp38), (out ++ ([⟨(at_ n.arcs ((k : Nat) : Int)).dst, (at_ n.arcs ((k : Nat) : Int)).frm, (at_ n.arcs ((k : Nat) : Int)).cap⟩] : List Arc))) (show ((k + 1 : Nat) ≤ n.arcs.length) ∧ ((out ++ ([⟨(at_ n.arcs ((k : Nat) : Int)).dst, (at_ n.arcs ((k : Nat) : Int)).frm, (at_ n.arcs ((k : Nat) : Int)).cap⟩] : List Arc) : List Arc) = (n.arcs.take (k + 1 : Nat)).map Arc.turn) from ⟨(by omega), (by rw [take_at _ k (by omega), List.map_append, ← hout]; rfl)⟩) (show n.arcs.length - (k + 1 : Nat) < n.arcs.length - k from (by omega)) (Sub.cons rfl (Sub.cons rfl (Sub.cons rfl (Sub.cons rfl (Sub.cons rfl (Sub.cons rfl (Sub.cons (lookI rfl (by omega)) Sub.nil))))))) (show Fit κ _ (vc 43 (.slice (ad37) (out ++ ([⟨(at_ n.arcs ((k : Nat) : Int)).dst, (at_ n.arcs ((k : Nat) : Int)).frm, (at_ n.arcs ((k : Nat) : Int)).cap⟩] : List Arc)).length (cp38)) ((out ++ ([⟨(at_ n.arcs ((k : Nat) : Int)).dst, (at_ n.arcs ((k : Nat) : Int)).frm, (at_ n.arcs ((k : Nat) : Int)).cap⟩] : List Arc))) :: vc 43 (.slice am (n.arcs ++ ([⟨x10, dst, cap⟩] : List Arc)).length cm) (n.arcs ++ ([⟨x10, dst, cap⟩] : List Arc)) :: blk bx [I64 (x10), I64 (dst), I64 (cap)] 43 :: blk bm [I64 (n.nodes), I64 (n.source), I64 (n.sink), .slice am (n.arcs ++ ([⟨x10, dst, cap⟩] : List Arc)).length cm] 30 :: blk bb [I64 (n.nodes), I64 (n.sink), I64 (n.source), .slice (ad37) (out ++ ([⟨(at_ n.arcs ((k : Nat) : Int)).dst, (at_ n.arcs ((k : Nat) : Int)).frm, (at_ n.arcs ((k : Nat) : Int)).cap⟩] : List Arc)).length (cp38)] 30 :: blk b5 [I64 (n.nodes), I64 (n.source), I64 (n.sink), .slice ad3 n.arcs.length cp4] 30 :: vc 43 (.slice ad3 n.arcs.length cp4) (n.arcs) :: blk dk1 [.slice la ln lc, I64 (i5)] 129 :: I) from Fit.sub)
    ·refine W.exit ?_
     refine V.then_exit ?_
     refine V.then_exit ?_
     refine V.block_hit ?_
     refine V.then ?_
     refine W.sr ?_
     refine G.r (Runs.lds (vs := [_, _, _, _]) ty30) ?_
     have hot : out = n.arcs.map Arc.turn := by rw [hout, List.take_of_length_le (by omega)]
     have hokb : (⟨n.nodes, n.sink, n.source, out⟩ : Net).Ok := by rw [hot]; exact hok.turn
     refine G.e (Eff.call call30 rfl rfl (FMax_ok (n := n) Sl.o hok)) ?_
     rintro _ _ ⟨_, _, ⟨ad39, cp40, f41, ad42, cp43, sd44, vl45, rfl, hf41, rfl⟩, rfl, rfl⟩
     show G Try.prog κ _ _ _ _ ([(78, .tuple #[.agg #[.slice ad39 f41.length cp40, I64 (vl45), .slice ad42 sd44.length cp43], I64 (0)]), (77, .agg #[I64 (n.nodes), I64 (n.source), I64 (n.sink), .slice ad3 n.arcs.length cp4]), (60, .bool (decide (((k : Nat) : Int) < ((n.arcs.length : Nat) : Int)))), (4, .pointer (some ⟨b5, 0, none⟩)), (5, .pointer (some ⟨bm, 0, none⟩)), (6, .pointer (some ⟨bb, 0, none⟩)), (8, .pointer (some ⟨bx, 0, none⟩)), (57, .slice ad3 n.arcs.length cp4), (58, I64 (((n.arcs.length : Nat) : Int))), (59, I64 (((k : Nat) : Int)))] : Env) (vc 3 (.slice ad42 sd44.length cp43) (sd44) :: vc 3 (.slice ad39 f41.length cp40) (f41) :: vc 43 (.slice a out.length c) (out) :: vc 43 (.slice am (n.arcs ++ ([⟨x10, dst, cap⟩] : List Arc)).length cm) (n.arcs ++ ([⟨x10, dst, cap⟩] : List Arc)) :: blk bx [I64 (x10), I64 (dst), I64 (cap)] 43 :: blk bm [I64 (n.nodes), I64 (n.source), I64 (n.sink), .slice am (n.arcs ++ ([⟨x10, dst, cap⟩] : List Arc)).length cm] 30 :: blk bb [I64 (n.nodes), I64 (n.sink), I64 (n.source), .slice a out.length c] 30 :: blk b5 [I64 (n.nodes), I64 (n.source), I64 (n.sink), .slice ad3 n.arcs.length cp4] 30 :: vc 43 (.slice ad3 n.arcs.length cp4) (n.arcs) :: blk dk1 [.slice la ln lc, I64 (i5)] 129 :: I)
     refine G.r (Runs.move rfl) ?_
     refine G.r (Runs.extract rfl rfl) ?_
     refine G.r (Runs.extract rfl rfl) ?_
     refine G.e (Eff.alloc ty24 rfl) ?_
     rintro _ _ ⟨b46, rfl, rfl⟩
     refine G.e (Eff.st (cs := [_, _, _]) (vs := [_, _, _]) (cs' := [_, _, _]) ty24) ?_
     rintro _ _ ⟨rfl, rfl⟩
     refine G.r (Runs.assign rfl) ?_
     refine G.nt ?_
     refine W.sub (L' := [(12, _), (11, _), (5, _), (6, _), (8, _)]) (Sub.cons rfl (Sub.cons rfl (Sub.cons rfl (Sub.cons rfl (Sub.cons rfl Sub.nil))))) ?_
     refine W.sr ?_
     refine G.r (Runs.lds (vs := [_, _, _, _]) ty30) ?_
     refine G.e (Eff.call call30 rfl rfl (FMax_ok (n := n.push ⟨x10, dst, cap⟩) Sl.o hokp)) ?_
     rintro _ _ ⟨_, _, ⟨ad47, cp48, f49, ad50, cp51, sd52, vl53, rfl, hf49, rfl⟩, rfl, rfl⟩
     show G Try.prog κ _ _ _ _ ([(83, .tuple #[.agg #[.slice ad47 f49.length cp48, I64 (vl53), .slice ad50 sd52.length cp51], I64 (0)]), (82, .agg #[I64 (n.nodes), I64 (n.source), I64 (n.sink), .slice am (n.arcs ++ ([⟨x10, dst, cap⟩] : List Arc)).length cm]), (12, I64 (0)), (11, .pointer (some ⟨b46, 0, none⟩)), (5, .pointer (some ⟨bm, 0, none⟩)), (6, .pointer (some ⟨bb, 0, none⟩)), (8, .pointer (some ⟨bx, 0, none⟩))] : Env) (vc 3 (.slice ad50 sd52.length cp51) (sd52) :: vc 3 (.slice ad47 f49.length cp48) (f49) :: blk b46 [.slice ad39 f41.length cp40, I64 (vl45), .slice ad42 sd44.length cp43] 24 :: vc 3 (.slice ad42 sd44.length cp43) (sd44) :: vc 3 (.slice ad39 f41.length cp40) (f41) :: vc 43 (.slice a out.length c) (out) :: vc 43 (.slice am (n.arcs ++ ([⟨x10, dst, cap⟩] : List Arc)).length cm) (n.arcs ++ ([⟨x10, dst, cap⟩] : List Arc)) :: blk bx [I64 (x10), I64 (dst), I64 (cap)] 43 :: blk bm [I64 (n.nodes), I64 (n.source), I64 (n.sink), .slice am (n.arcs ++ ([⟨x10, dst, cap⟩] : List Arc)).length cm] 30 :: blk bb [I64 (n.nodes), I64 (n.sink), I64 (n.source), .slice a out.length c] 30 :: blk b5 [I64 (n.nodes), I64 (n.source), I64 (n.sink), .slice ad3 n.arcs.length cp4] 30 :: vc 43 (.slice ad3 n.arcs.length cp4) (n.arcs) :: blk dk1 [.slice la ln lc, I64 (i5)] 129 :: I)
     refine G.r (Runs.move rfl) ?_
     refine G.r (Runs.extract rfl rfl) ?_
     refine G.r (Runs.extract rfl rfl) ?_
     refine G.e (Eff.alloc ty24 rfl) ?_
     rintro _ _ ⟨b54, rfl, rfl⟩
     refine G.e (Eff.st (cs := [_, _, _]) (vs := [_, _, _]) (cs' := [_, _, _]) ty24) ?_
     rintro _ _ ⟨rfl, rfl⟩
     refine G.r (Runs.assign rfl) ?_
     refine G.nt ?_
     refine W.sr ?_
     refine G.r (Runs.lds (vs := [_, _, _, _]) ty30) ?_
     refine G.e (Eff.call call30 rfl rfl (FMax_ok (n := (⟨n.nodes, n.sink, n.source, out⟩ : Net)) Sl.o hokb)) ?_
     rintro _ _ ⟨_, _, ⟨ad55, cp56, f57, ad58, cp59, sd60, vl61, rfl, hf57, rfl⟩, rfl, rfl⟩
     show G Try.prog κ _ _ _ _ ([(88, .tuple #[.agg #[.slice ad55 f57.length cp56, I64 (vl61), .slice ad58 sd60.length cp59], I64 (0)]), (87, .agg #[I64 (n.nodes), I64 (n.sink), I64 (n.source), .slice a out.length c]), (14, I64 (0)), (13, .pointer (some ⟨b54, 0, none⟩)), (85, I64 (0)), (84, .agg #[.slice ad47 f49.length cp48, I64 (vl53), .slice ad50 sd52.length cp51]), (81, .tuple #[.agg #[.slice ad47 f49.length cp48, I64 (vl53), .slice ad50 sd52.length cp51], I64 (0)]), (83, .tuple #[.agg #[.slice ad47 f49.length cp48, I64 (vl53), .slice ad50 sd52.length cp51], I64 (0)]), (82, .agg #[I64 (n.nodes), I64 (n.source), I64 (n.sink), .slice am (n.arcs ++ ([⟨x10, dst, cap⟩] : List Arc)).length cm]), (12, I64 (0)), (11, .pointer (some ⟨b46, 0, none⟩)), (5, .pointer (some ⟨bm, 0, none⟩)), (6, .pointer (some ⟨bb, 0, none⟩)), (8, .pointer (some ⟨bx, 0, none⟩))] : Env) (vc 3 (.slice ad58 sd60.length cp59) (sd60) :: vc 3 (.slice ad55 f57.length cp56) (f57) :: blk b54 [.slice ad47 f49.length cp48, I64 (vl53), .slice ad50 sd52.length cp51] 24 :: vc 3 (.slice ad50 sd52.length cp51) (sd52) :: vc 3 (.slice ad47 f49.length cp48) (f49) :: blk b46 [.slice ad39 f41.length cp40, I64 (vl45), .slice ad42 sd44.length cp43] 24 :: vc 3 (.slice ad42 sd44.length cp43) (sd44) :: vc 3 (.slice ad39 f41.length cp40) (f41) :: vc 43 (.slice a out.length c) (out) :: vc 43 (.slice am (n.arcs ++ ([⟨x10, dst, cap⟩] : List Arc)).length cm) (n.arcs ++ ([⟨x10, dst, cap⟩] : List Arc)) :: blk bx [I64 (x10), I64 (dst), I64 (cap)] 43 :: blk bm [I64 (n.nodes), I64 (n.source), I64 (n.sink), .slice am (n.arcs ++ ([⟨x10, dst, cap⟩] : List Arc)).length cm] 30 :: blk bb [I64 (n.nodes), I64 (n.sink), I64 (n.source), .slice a out.length c] 30 :: blk b5 [I64 (n.nodes), I64 (n.source), I64 (n.sink), .slice ad3 n.arcs.length cp4] 30 :: vc 43 (.slice ad3 n.arcs.length cp4) (n.arcs) :: blk dk1 [.slice la ln lc, I64 (i5)] 129 :: I)
     have hpu := hf41.push hok hokp (by dsimp only; omega) hf49
     have htu := hf41.turn hok hok.turn (by have h3 := hf57; rw [hot] at h3; exact h3)
     dsimp only at hpu
     have hbd0 := hf41.bd hok
     refine G.r (Runs.move rfl) ?_
     refine G.r (Runs.extract rfl rfl) ?_
     refine G.r (Runs.extract rfl rfl) ?_
     refine G.e (Eff.alloc ty24 rfl) ?_
     rintro _ _ ⟨b62, rfl, rfl⟩
     refine G.e (Eff.st (cs := [_, _, _]) (vs := [_, _, _]) (cs' := [_, _, _]) ty24) ?_
     rintro _ _ ⟨rfl, rfl⟩
     refine G.r (Runs.assign rfl) ?_
     refine G.nt ?_
     refine W.sub (L' := [(16, _), (15, _), (14, _), (13, _), (12, _), (11, _), (8, _)]) (Sub.cons rfl (Sub.cons rfl (Sub.cons rfl (Sub.cons rfl (Sub.cons rfl (Sub.cons rfl (Sub.cons rfl Sub.nil))))))) ?_
     refine W.sr ?_
     refine G.r (Runs.move rfl) ?_
     refine G.r (Runs.move rfl) ?_
     refine G.r (Runs.add rfl rfl (by unfold InR; omega)) ?_
     refine G.r (Runs.move rfl) ?_
     refine G.r (Runs.add rfl rfl (by unfold InR; omega)) ?_
     refine G.r (Runs.eql rfl rfl) ?_
     refine G.r (Runs.move rfl) ?_
     refine G.split (d := 97) rfl (fun g97 => ?_) (fun g97 => ?_)
     ·refine G.ro (Runs.fieldAddr fld24_1 rfl) ?_
      refine G.ro (Runs.ld ty3) ?_
      refine G.ro (Runs.fieldAddr fld24_1 rfl) ?_
      refine G.ro (Runs.ld ty3) ?_
      refine G.ro (Runs.geq rfl rfl) ?_
      refine G.r (Runs.pickt rfl rfl) ?_
      refine G.r (Runs.move rfl) ?_
      refine G.split (d := 104) rfl (fun g104 => ?_) (fun g104 => ?_)
      ·refine G.ro (Runs.fieldAddr fld24_1 rfl) ?_
       refine G.ro (Runs.ld ty3) ?_
       refine G.ro (Runs.fieldAddr fld24_1 rfl) ?_
       refine G.ro (Runs.ld ty3) ?_
       refine G.ro (Runs.fieldAddr fld43_2 rfl) ?_
       refine G.ro (Runs.ld ty3) ?_
       refine G.ro (Runs.add rfl rfl (by unfold InR; omega)) ?_
       refine G.ro (Runs.leq rfl rfl) ?_
       refine G.r (Runs.pickt rfl rfl) ?_
       refine G.r (Runs.move rfl) ?_
       refine G.split (d := 114) rfl (fun g114 => ?_) (fun g114 => ?_)
       ·refine G.ro (Runs.fieldAddr fld24_1 rfl) ?_
        refine G.ro (Runs.ld ty3) ?_
        refine G.ro (Runs.fieldAddr fld24_1 rfl) ?_
        refine G.ro (Runs.ld ty3) ?_
        refine G.ro (Runs.eql rfl rfl) ?_
        refine G.r (Runs.pickt rfl rfl) ?_
        refine G.r (Runs.move rfl) ?_
        refine G.split (d := 121) rfl (fun g121 => ?_) (fun g121 => ?_)
        ·refine G.eff (Wanted.on rfl rfl rfl) (Eff.call call21 rfl rfl Awake_ok) ?_
         rintro _ _ ⟨_, _, ⟨rfl, rfl⟩, rfl, rfl⟩
         refine G.r (Runs.pickt rfl rfl) ?_
         refine G.r (Runs.assign rfl) ?_
         refine G.nt ?_
         refine W.sub (L' := [(2, _)]) (Sub.cons rfl Sub.nil) ?_
         refine W.ret ?_
         exact V.ret1 rfl rfl (I) Fit.m ⟨rfl, rfl⟩
        ·refine G.po ?_
         refine G.r (Runs.pickf rfl rfl) ?_
         refine G.r (Runs.assign rfl) ?_
         refine G.nt ?_
         refine W.sub (L' := [(2, _)]) (Sub.cons rfl Sub.nil) ?_
         refine W.ret ?_
         exfalso; omega
       ·refine G.po ?_
        refine G.po ?_
        refine G.po ?_
        refine G.po ?_
        refine G.po ?_
        refine G.r (Runs.pickf rfl rfl) ?_
        refine G.r (Runs.move rfl) ?_
        refine G.po ?_
        refine G.r (Runs.pickf rfl rfl) ?_
        refine G.r (Runs.assign rfl) ?_
        refine G.nt ?_
        refine W.sub (L' := [(2, _)]) (Sub.cons rfl Sub.nil) ?_
        refine W.ret ?_
        exfalso; omega
      ·refine G.po ?_
       refine G.po ?_
       refine G.po ?_
       refine G.po ?_
       refine G.po ?_
       refine G.po ?_
       refine G.po ?_
       refine G.po ?_
       refine G.r (Runs.pickf rfl rfl) ?_
       refine G.r (Runs.move rfl) ?_
       refine G.po ?_
       refine G.po ?_
       refine G.po ?_
       refine G.po ?_
       refine G.po ?_
       refine G.r (Runs.pickf rfl rfl) ?_
       refine G.r (Runs.move rfl) ?_
       refine G.po ?_
       refine G.r (Runs.pickf rfl rfl) ?_
       refine G.r (Runs.assign rfl) ?_
       refine G.nt ?_
       refine W.sub (L' := [(2, _)]) (Sub.cons rfl Sub.nil) ?_
       refine W.ret ?_
       exfalso; omega
     ·refine G.po ?_
      refine G.po ?_
      refine G.po ?_
      refine G.po ?_
      refine G.po ?_
      refine G.r (Runs.pickf rfl rfl) ?_
      refine G.r (Runs.move rfl) ?_
      refine G.po ?_
      refine G.po ?_
      refine G.po ?_
      refine G.po ?_
      refine G.po ?_
      refine G.po ?_
      refine G.po ?_
      refine G.po ?_
      refine G.r (Runs.pickf rfl rfl) ?_
      refine G.r (Runs.move rfl) ?_
      refine G.po ?_
      refine G.po ?_
      refine G.po ?_
      refine G.po ?_
      refine G.po ?_
      refine G.r (Runs.pickf rfl rfl) ?_
      refine G.r (Runs.move rfl) ?_
      refine G.po ?_
      refine G.r (Runs.pickf rfl rfl) ?_
      refine G.r (Runs.assign rfl) ?_
      refine G.nt ?_
      refine W.sub (L' := [(2, _)]) (Sub.cons rfl Sub.nil) ?_
      refine W.ret ?_
      exfalso; omega

end Go.Sl
