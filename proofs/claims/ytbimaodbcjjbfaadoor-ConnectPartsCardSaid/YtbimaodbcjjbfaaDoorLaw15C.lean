/- A part of the proofs of statements of this seat: contracts of functions, and the plain laws that they lean on. No conditions. -/
import Derived.Test.YtbimaodbcjjbfaaDoorLaw15A
import Derived.Test.YtbimaodbcjjbfaaDoorGraphM5
namespace Go.Sl
open Go.Proofs
set_option linter.unusedVariables false
set_option linter.unusedSimpArgs false
set_option maxRecDepth 4000
def nodesL (b : List Pt) : List Int := b.flatMap fun e => [e.u, e.v]
theorem mem_nodesL {b : List Pt} {x : Int} : x ∈ nodesL b ↔ ∃ e ∈ b, x = e.u ∨ x = e.v := by
  unfold nodesL; rw [List.mem_flatMap]; simp
/-- In how many of these a node is. -/
def cntB (bs : List (List Pt)) (v : Int) : Int := ((bs.filter fun b => decide (v ∈ nodesL b)).length : Int)
theorem nodesM_bit {i : Nat} (hi : i < 64) (b : List Pt) : (nodesM b).getLsbD i = true ↔ (i : Int) ∈ nodesL b := by
  have key : ∀ (b : List Pt) (m : BitVec 64), (b.foldl (fun m e => m ||| (bitB e.u ||| bitB e.v)) m).getLsbD i = true ↔ (m.getLsbD i = true ∨ (i : Int) ∈ nodesL b) := fun b => by
    induction b with
    | nil => intro m; simp [nodesL]
    | cons e b ih =>
      intro m
      rw [List.foldl_cons, ih, BitVec.getLsbD_or, BitVec.getLsbD_or, getLsb_bitB hi, getLsb_bitB hi]
      simp only [nodesL, List.flatMap_cons, List.mem_append, List.mem_cons, List.not_mem_nil, or_false, Bool.or_eq_true, decide_eq_true_eq]
      constructor
      · rintro ((h | h | h) | h)
        · exact .inl h
        · exact .inr (.inl (.inl h.symm))
        · exact .inr (.inl (.inr h.symm))
        · exact .inr (.inr h)
      · rintro (h | (h | h) | h)
        · exact .inl (.inl h)
        · exact .inl (.inr (.inl h.symm))
        · exact .inl (.inr (.inr h.symm))
        · exact .inr h
  unfold nodesM
  rw [key b 0#64]; simp
theorem jointM_bit {i : Nat} (hi : i < 64) (bs : List (List Pt)) : (jointM bs).2.getLsbD i = true ↔ 1 < cntB bs (i : Int) := by
  have key : ∀ (bs : List (List Pt)) (p : BitVec 64 × BitVec 64) (c : Int), 0 ≤ c → (p.1.getLsbD i = true ↔ 0 < c) → (p.2.getLsbD i = true ↔ 1 < c) →
      ((bs.foldl (fun p b => (p.1 ||| nodesM b, p.2 ||| (p.1 &&& nodesM b))) p).2.getLsbD i = true ↔ 1 < c + cntB bs (i : Int)) := fun bs => by
    induction bs with
    | nil => intro p c _ h1 h2; rw [List.foldl_nil, h2]; simp [cntB]
    | cons b bs ih =>
      intro p c hc h1 h2
      have hb := nodesM_bit hi b
      have e1 : cntB (b :: bs) (i : Int) = (if (i : Int) ∈ nodesL b then 1 else 0) + cntB bs (i : Int) := by
        unfold cntB
        rw [List.filter_cons]
        by_cases hv : (i : Int) ∈ nodesL b <;> simp [hv]
        omega
      rw [List.foldl_cons, e1, ← Int.add_assoc]
      refine ih _ _ (by split <;> omega) ?_ ?_
      · simp only [BitVec.getLsbD_or, Bool.or_eq_true, h1, hb]
        by_cases hv : (i : Int) ∈ nodesL b <;> simp only [hv, if_true, if_false, or_true, or_false, and_true, and_false, true_iff, iff_true] <;> omega
      · simp only [BitVec.getLsbD_or, BitVec.getLsbD_and, Bool.or_eq_true, Bool.and_eq_true, h1, h2, hb]
        by_cases hv : (i : Int) ∈ nodesL b <;> simp only [hv, if_true, if_false, or_true, or_false, and_true, and_false, true_iff, iff_true] <;> omega
  have := key bs (0#64, 0#64) 0 (Int.le_refl _) (by simp) (by simp)
  rw [Int.zero_add] at this
  exact this
theorem joint_iff {nd : Int} {es : List Pt} (hG : GrOk nd es) {v : Int} (h0 : 0 ≤ v) (h1 : v < nd) : v ∈ jointsG nd es ↔ 1 < cntB (blksG nd es) v := by
  have hr := hG.rng
  unfold jointsG blksG
  rw [if_neg (by rw [checkG_ok.2 hG]; decide), if_neg (by rw [checkG_ok.2 hG]; decide), mem_listB, jointM_bit (by omega), show ((v.toNat : Nat) : Int) = v by omega]
  exact ⟨fun h => h.2, fun h => ⟨h0, h⟩⟩
theorem blks_eq {nd : Int} {es : List Pt} (hG : GrOk nd es) : blksG nd es = blkR (rowsB nd es) := by unfold blksG; rw [if_neg (by rw [checkG_ok.2 hG]; decide)]; rfl
theorem blks_mem {nd : Int} {es : List Pt} (hG : GrOk nd es) {b : List Pt} (hb : b ∈ blksG nd es) {e : Pt} (he : e ∈ b) : e ∈ es ∧ edgeP e.u e.v = e := by
  rw [blks_eq hG] at hb
  have h1 := ((blk_ok (rowsG_of hG)).1.mem e).1 (List.mem_flatten.2 ⟨b, hb, he⟩)
  have h2 := (adj_mem hG).1 h1
  have := hG.edge e h2
  exact ⟨h2, by unfold edgeP; rw [if_neg (by omega), if_pos (by omega)]⟩
theorem blks_ne {nd : Int} {es : List Pt} (hG : GrOk nd es) {b : List Pt} (hb : b ∈ blksG nd es) : b ≠ [] := by rw [blks_eq hG] at hb; exact (blk_ok (rowsG_of hG)).1.full b hb
theorem blks_perm {nd : Int} {es : List Pt} (hG : GrOk nd es) : (blksG nd es).flatten.Perm es := by
  rw [blks_eq hG]
  have h := (blk_ok (rowsG_of hG)).1
  exact (List.perm_ext_iff_of_nodup h.nd (asc_nodup hG.asc)).2 fun e => (h.mem e).trans (adj_mem hG)
theorem bridges_ok {nd : Int} {es : List Pt} (hG : GrOk nd es) : GrOk nd (bridgesG nd es) := by
  have hb := blk_ok (rowsG_of hG)
  have e1 : bridgesG nd es = brL (blksG nd es) := by unfold bridgesG blksG; rw [if_neg (by rw [checkG_ok.2 hG]; decide), if_neg (by rw [checkG_ok.2 hG]; decide)]
  rw [e1]
  refine ⟨hG.rng, ?_, fun e he => ?_⟩
  · unfold AscP brL
    rw [List.pairwise_map, blks_eq hG]
    exact hb.2.2.sublist List.filter_sublist
  · unfold brL at he
    obtain ⟨b, hbm, rfl⟩ := List.mem_map.1 he
    have h2 := (List.mem_filter.1 hbm).1
    exact hG.edge _ (blks_mem hG h2 (hd0_mem (blks_ne hG h2))).1
theorem bridges_eq {nd : Int} {es : List Pt} (hG : GrOk nd es) : bridgesG nd es = brL (blksG nd es) := by unfold bridgesG blksG; rw [if_neg (by rw [checkG_ok.2 hG]; decide), if_neg (by rw [checkG_ok.2 hG]; decide)]
theorem nodes_in {nd : Int} {es : List Pt} (hG : GrOk nd es) {b : List Pt} (hb : b ∈ blksG nd es) {x : Int} (hx : x ∈ nodesL b) : 0 ≤ x ∧ x < nd := by
  obtain ⟨e, he, h⟩ := mem_nodesL.1 hx
  have := hG.edge e (blks_mem hG hb he).1
  rcases h with rfl | rfl <;> omega

end Go.Sl
