/- A part of the proofs of statements of this seat: contracts of functions, and the plain laws that they lean on. No conditions. -/
import Derived.Test.YtbimaodbcjjbfaaRunsY
namespace Go.Sl
open Go.Proofs
set_option linter.unusedVariables false
set_option linter.unusedSimpArgs false
set_option maxRecDepth 4000
end Go.Sl
namespace Go.Sl
open Go.Proofs
set_option linter.unusedVariables false
set_option linter.unusedSimpArgs false
set_option maxRecDepth 4000
def Rec (p : Pt) : Prop := p.right ∧ p.u < 7 ∧ p.v < 7
theorem rec_right {u d : Int} (hu : 0 ≤ u ∧ u < 7) (hd : 0 ≤ d ∧ d < 6) : Rec ⟨u, Int.tmod (u + 1 + d) 7⟩ := by
  rw [Int.tmod_eq_emod_of_nonneg (by omega)]; unfold Rec Pt.right; simp only; omega
theorem rec_push {rs : List Pt} {p : Pt} (h : ∀ p ∈ rs, Rec p) (hp : Rec p) : ∀ q ∈ rs ++ [p], Rec q := fun q hq => by
  rcases List.mem_append.1 hq with hq | hq
  · exact h q hq
  · rw [List.mem_singleton.1 hq]; exact hp
theorem Records_base {κ : Ctx} {I : List Item} {b : Nat} {lv : Value} {ls : List Int} {i : Int} {most : Int} (hl : ∀ q, Sl κ (deck b lv q :: I) lv ls) (h0 : 0 ≤ i)  (hm : 0 ≤ most ∧ most ≤ 1000) :
    CallS Try.prog κ 63 [.pointer (some ⟨b, 0, none⟩), I64 (most)] (blk b [lv, I64 (i)] 129 :: I) (fun r J => ∃ y : (Option Addr) × Nat × (List Pt) × Int, ((r = .slice y.1 y.2.2.1.length y.2.1 ∧ ((∀ p ∈ y.2.2.1, Rec p) ∧ (y.2.2.1.length : Int) ≤ most)) ∧ 0 ≤ y.2.2.2) ∧ J = [vc 60 (.slice y.1 y.2.2.1.length y.2.1) y.2.2.1] ++ deck b lv y.2.2.2 :: I) := by
 refine CallS.enter (L := [(0, .pointer (some ⟨b, 0, none⟩)), (1, I64 (most))]) Try.func63 rfl rfl rfl rfl ?_
 refine W.sr ?_
 refine G.r (Runs.assign rfl) ?_
 refine G.nt ?_
 refine W.sr ?_
 refine G.r (Runs.assign rfl) ?_
 refine G.nt ?_
 refine W.seq ?_
 refine W.sr ?_
 refine G.r (Runs.move rfl) ?_
 refine G.r (Runs.move rfl) ?_
 refine G.r (Runs.add rfl rfl (by unfold InR; omega)) ?_
 refine G.e (Eff.call call25 rfl rfl (Next_ok (by repeat (first | exact AtF.head _ _ | apply AtF.tail)) (Sl.fit (hl _) Fit.m) (by omega) (by omega))) ?_
 rintro _ _ ⟨_, _, ⟨x1, i2, rfl, hx1, hi2, rfl⟩, rfl, rfl⟩
 show G Try.prog κ _ _ _ _ ([(11, I64 (x1)), (10, I64 (most + 1)), (9, I64 (most)), (8, .pointer (some ⟨b, 0, none⟩)), (5, .slice none 0 0), (4, .slice none 0 0), (0, .pointer (some ⟨b, 0, none⟩)), (1, I64 (most))] : Env) (blk b [lv, I64 (i2)] 129 :: I)
 refine G.r (Runs.assign rfl) ?_
 refine G.nt ?_
 refine W.block ?_
 refine W.loop (σ := Int × Int × (Option Addr) × Nat × (List Pt)) (fun s => ([(0, .pointer (some ⟨b, 0, none⟩)), (5, .slice s.2.2.1 s.2.2.2.2.length s.2.2.2.1), (6, I64 (s.1))] : Env)) (fun s => vc 60 (.slice s.2.2.1 s.2.2.2.2.length s.2.2.2.1) (s.2.2.2.2) :: blk b [lv, I64 (s.2.1)] 129 :: I) (fun s => (0 ≤ s.1) ∧ (0 ≤ s.2.1) ∧ (∀ p ∈ s.2.2.2.2, Rec p) ∧ ((s.2.2.2.2.length : Int) + s.1 ≤ most)) (fun s => s.1.toNat) (x1, i2, none, 0, []) (show (0 ≤ (x1 : Int)) ∧ (0 ≤ (i2 : Int)) ∧ (∀ p ∈ ([] : List Pt), Rec p) ∧ ((([] : List Pt).length : Int) + (x1 : Int) ≤ most) from ⟨(by omega), (by omega), (fun p hp => by cases hp), (by simp only [List.length_nil]; omega)⟩) (Sub.cons rfl (Sub.cons (lookV rfl (by first | rfl | simp)) (Sub.cons lookO Sub.nil))) (show Fit κ _ (vc 60 (.slice (none) ([]).length (0)) (([])) :: blk b [lv, I64 ((i2))] 129 :: I) from (Fit.nilvc _ _)) ?_
 rintro ⟨kk, iq, a, c, rs⟩ hp
 obtain ⟨hkk, hiq, hall, hlen⟩ : (0 ≤ kk) ∧ (0 ≤ iq) ∧ (∀ p ∈ rs, Rec p) ∧ ((rs.length : Int) + kk ≤ most) := hp
 show W Try.prog κ 30 _ _ ([(0, .pointer (some ⟨b, 0, none⟩)), (5, .slice a rs.length c), (6, I64 (kk))] : Env) (vc 60 (.slice a rs.length c) (rs) :: blk b [lv, I64 (iq)] 129 :: I)
 refine W.seq ?_
 refine W.sr ?_
 refine G.r (Runs.move rfl) ?_
 refine G.r (Runs.gtr rfl rfl) ?_
 refine G.nt ?_
 refine W.ite rfl (fun c13 => ?_) (fun c13 => ?_)
 ·refine W.skip ?_
  refine V.then ?_
  refine W.seq ?_
  refine W.block ?_
  refine W.sr ?_
  refine G.r (Runs.move rfl) ?_
  refine G.e (Eff.call call25 rfl rfl (Next_ok (by repeat (first | exact AtF.head _ _ | apply AtF.tail)) (Sl.fit (hl _) Fit.m) (by omega) (by omega))) ?_
  rintro _ _ ⟨_, _, ⟨x3, i4, rfl, hx3, hi4, rfl⟩, rfl, rfl⟩
  show G Try.prog κ _ _ _ _ ([(17, I64 (x3)), (16, .pointer (some ⟨b, 0, none⟩)), (13, .bool (decide (0 < kk))), (12, I64 (kk)), (0, .pointer (some ⟨b, 0, none⟩)), (5, .slice a rs.length c), (6, I64 (kk))] : Env) (vc 60 (.slice a rs.length c) (rs) :: blk b [lv, I64 (i4)] 129 :: I)
  refine G.r (Runs.assign rfl) ?_
  refine G.nt ?_
  refine W.region ?_
  refine G.r (Runs.move rfl) ?_
  refine G.r (Runs.move rfl) ?_
  refine G.r (Runs.move rfl) ?_
  refine G.r (Runs.add rfl rfl (by unfold InR; omega)) ?_
  refine G.r (Runs.move rfl) ?_
  refine G.e (Eff.call call25 rfl rfl (Next_ok (by repeat (first | exact AtF.head _ _ | apply AtF.tail)) (Sl.fit (hl _) Fit.m) (by omega) (by omega))) ?_
  rintro _ _ ⟨_, _, ⟨x5, i6, rfl, hx5, hi6, rfl⟩, rfl, rfl⟩
  show G Try.prog κ _ _ _ _ ([(23, I64 (x5)), (22, .pointer (some ⟨b, 0, none⟩)), (21, I64 (x3 + 1)), (20, I64 (x3)), (19, I64 (x3)), (18, .slice a rs.length c), (7, I64 (x3)), (17, I64 (x3)), (16, .pointer (some ⟨b, 0, none⟩)), (13, .bool (decide (0 < kk))), (12, I64 (kk)), (0, .pointer (some ⟨b, 0, none⟩)), (5, .slice a rs.length c), (6, I64 (kk))] : Env) (vc 60 (.slice a rs.length c) (rs) :: blk b [lv, I64 (i6)] 129 :: I)
  refine G.r (Runs.add rfl rfl (by unfold InR; omega)) ?_
  refine G.r (Runs.rem rfl rfl (by omega)) ?_
  refine G.r (Runs.buildArr (cells := [_, _]) ty60 Try.underlying60 ty3 rfl rfl) ?_
  refine G.e (Eff.bs (α := Pt) (cs := [_, _]) (xs := [⟨x3, Int.tmod ((x3 + 1) + x5) 7⟩]) Try.underlying55 ty60 rfl rfl (by decide) (by decide) rfl rfl rfl rfl) ?_
  rintro _ _ ⟨ad7, rfl, rfl⟩
  refine G.e (Eff.app (α := Pt) (e := 60) (xs := rs) (ys := ([⟨x3, Int.tmod ((x3 + 1) + x5) 7⟩] : List Pt)) Try.underlying55 ty60 rfl rfl rfl (by repeat (first | exact List.mem_cons_self | apply List.mem_cons_of_mem)) Sl.o (by simp only [List.length_cons, List.length_nil]; omega) (by decide) rfl (fun _ _ => (by repeat (first | exact At.head _ _ _ | apply At.tail)))) ?_
  rintro _ _ ⟨ad8, cp9, rfl, rfl⟩
  refine G.r (Runs.assign rfl) ?_
  refine G.nil ?_
  refine V.block_normal ?_
  refine V.then ?_
  refine W.sub (L' := [(5, _), (0, _), (6, _)]) (Sub.cons rfl (Sub.cons rfl (Sub.cons rfl Sub.nil))) ?_
  refine W.region ?_
  refine G.r (Runs.move rfl) ?_
  refine G.r (Runs.sub rfl rfl (by unfold InR; omega)) ?_
  refine G.r (Runs.assign rfl) ?_
  refine G.nil ?_
  exact V.next ((kk - 1), (i6), (ad8), (cp9), (rs ++ ([⟨x3, Int.tmod ((x3 + 1) + x5) 7⟩] : List Pt))) (show (0 ≤ (kk - 1 : Int)) ∧ (0 ≤ (i6 : Int)) ∧ (∀ p ∈ (rs ++ ([⟨x3, Int.tmod ((x3 + 1) + x5) 7⟩] : List Pt) : List Pt), Rec p) ∧ (((rs ++ ([⟨x3, Int.tmod ((x3 + 1) + x5) 7⟩] : List Pt) : List Pt).length : Int) + (kk - 1 : Int) ≤ most) from ⟨(by omega), (by omega), (rec_push hall (rec_right (by omega) (by omega))), (by simp only [List.length_append, List.length_cons, List.length_nil]; omega)⟩) (show (kk - 1 : Int).toNat < kk.toNat from (by omega)) (Sub.cons rfl (Sub.cons (lookV rfl (by first | rfl | simp)) (Sub.cons lookO Sub.nil))) (show Fit κ _ (vc 60 (.slice (ad8) (rs ++ ([⟨x3, Int.tmod ((x3 + 1) + x5) 7⟩] : List Pt)).length (cp9)) ((rs ++ ([⟨x3, Int.tmod ((x3 + 1) + x5) 7⟩] : List Pt))) :: blk b [lv, I64 ((i6))] 129 :: I) from Fit.sub)
 ·refine W.exit ?_
  refine V.then_exit ?_
  refine V.then_exit ?_
  refine V.block_hit ?_
  refine V.then ?_
  refine W.sr ?_
  refine G.r (Runs.move rfl) ?_
  refine G.r (Runs.assign rfl) ?_
  refine G.nt ?_
  refine W.ret ?_
  exact V.ret1 rfl rfl (vc 60 (.slice a rs.length c) (rs) :: blk b [lv, I64 (iq)] 129 :: I) Fit.s ⟨(a, c, rs, iq), ⟨⟨rfl, hall, by show (rs.length : Int) ≤ most; omega⟩, hiq⟩, rfl⟩

theorem Records_at {κ : Ctx} {I : List Item} {F : Item → List Item} {b : Nat} {lv : Value} {ls : List Int} {i : Int} {most : Int} (hat : AtF I (deck b lv i) F) (hl : ∀ q, Sl κ (F (deck b lv q)) lv ls) (h0 : 0 ≤ i)  (hm : 0 ≤ most ∧ most ≤ 1000) :
    CallS Try.prog κ 63 [.pointer (some ⟨b, 0, none⟩), I64 (most)] I fun r J => ∃ y : (Option Addr) × Nat × (List Pt) × Int, ((r = .slice y.1 y.2.2.1.length y.2.1 ∧ ((∀ p ∈ y.2.2.1, Rec p) ∧ (y.2.2.1.length : Int) ≤ most)) ∧ 0 ≤ y.2.2.2) ∧ J = [vc 60 (.slice y.1 y.2.2.1.length y.2.1) y.2.2.1] ++ F (deck b lv y.2.2.2) :=
  CallS.at (Post := fun r (y : (Option Addr) × Nat × (List Pt) × Int) => (r = .slice y.1 y.2.2.1.length y.2.1 ∧ ((∀ p ∈ y.2.2.1, Rec p) ∧ (y.2.2.1.length : Int) ≤ most)) ∧ 0 ≤ y.2.2.2) (Z := fun y : (Option Addr) × Nat × (List Pt) × Int => [vc 60 (.slice y.1 y.2.2.1.length y.2.1) y.2.2.1]) (X := fun y : (Option Addr) × Nat × (List Pt) × Int => deck b lv y.2.2.2) hat fun J _ hF => Records_base (fun q => (hl q).fit (hF _)) h0  hm

end Go.Sl
namespace Go.Sl
open Go.Proofs
set_option linter.unusedVariables false
set_option linter.unusedSimpArgs false
set_option maxRecDepth 4000
end Go.Sl
