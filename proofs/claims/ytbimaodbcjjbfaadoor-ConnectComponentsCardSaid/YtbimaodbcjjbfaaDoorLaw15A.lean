/- A part of the proofs of statements of this seat: contracts of functions, and the plain laws that they lean on. No conditions. -/
import Derived.Test.YtbimaodbcjjbfaaDoorConnE
import Derived.Test.YtbimaodbcjjbfaaDoorReachB
import Derived.Test.YtbimaodbcjjbfaaDoorGraphH5
import Derived.Test.YtbimaodbcjjbfaaDoorGraphK5
import Derived.Test.YtbimaodbcjjbfaaDoorGraphM5
namespace Go.Sl
open Go.Proofs
set_option linter.unusedVariables false
set_option linter.unusedSimpArgs false
set_option maxRecDepth 4000
theorem comps_whole {nd : Int} {es : List Pt} (hG : GrOk nd es) : (compsG nd es).flatten.Perm (rangeI nd) := by
  unfold compsG
  rw [if_neg (by rw [checkG_ok.2 hG]; decide)]
  refine (groups_perm (rowsB_sym hG) 64 (allB nd) .all (listN_len _)).trans ?_
  have : listB (allB nd) = rangeI nd := by
    refine intLin.uniq (listB_asc _) ?_ fun x => ?_
    · unfold rangeI; rw [List.pairwise_map]; exact List.pairwise_lt_range.imp fun h => by omega
    · have hr := hG.rng
      rw [mem_listB, mem_rangeI]
      by_cases hx : 0 ≤ x ∧ x < 64
      · rw [getLsb_allB hr.1 hr.2 (by omega), decide_eq_true_eq]; omega
      · constructor
        · rintro ⟨h1, h2⟩; rw [BitVec.getLsbD_of_ge _ _ (by omega)] at h2; cases h2
        · omega
  rw [this]
theorem rangeI_asc (nd : Int) : (rangeI nd).Pairwise (fun a b : Int => a < b) := by unfold rangeI; rw [List.pairwise_map]; exact List.pairwise_lt_range.imp fun h => by omega
theorem comps_of {nd : Int} {es : List Pt} (hG : GrOk nd es) : ofL (compsG nd es).flatten = rangeI nd := intLin.uniq (ofL_asc _) (rangeI_asc nd) fun x => by rw [mem_ofL]; exact (comps_whole hG).mem_iff
theorem comps_count {nd : Int} {es : List Pt} (hG : GrOk nd es) : ((compsG nd es).flatten.length : Int) = nd := by
  have hr := hG.rng
  rw [(comps_whole hG).length_eq]; unfold rangeI; rw [List.length_map, List.length_range]; omega
theorem comps_ne {nd : Int} {es : List Pt} (hG : GrOk nd es) : ∀ c ∈ compsG nd es, c ≠ [] := fun c hc => by
  unfold compsG at hc
  rw [if_neg (by rw [checkG_ok.2 hG]; decide)] at hc
  obtain ⟨m, hm, rfl⟩ := List.mem_map.1 hc
  obtain ⟨h1, _⟩ := groups_mem (rowsB_sym hG) 64 (allB nd) .all m hm
  rw [listB_step h1]; exact List.cons_ne_nil _ _
theorem same_edge {nd : Int} {es : List Pt} (hG : GrOk nd es) {e : Pt} (he : e ∈ es) : sameG nd es e.u e.v = true ∧ sameE nd es e.u e.v = 0 := by
  have h1 := hG.edge e he
  have hr := hG.rng
  have hE : sameE nd es e.u e.v = 0 := by unfold sameE; rw [if_neg (by rw [checkG_ok.2 hG]; decide), if_neg (by omega)]
  refine ⟨?_, hE⟩
  unfold sameG
  rw [if_neg (by rw [hE]; decide), tog_eq hr (by omega) (by omega), decide_eq_true_eq]
  have hw : ∀ x : Int, 0 ≤ x → x < nd → (allB nd).getLsbD x.toNat = true := fun x a b => by rw [getLsb_allB hr.1 hr.2 (by omega), decide_eq_true_eq]; omega
  refine (Conn.refl (hw e.u (by omega) (by omega))).step ?_ (hw e.v (by omega) (by omega))
  rw [show ((e.u.toNat : Nat) : Int) = e.u by omega, hG.rows.bit e.u e.v (by omega) (by omega) (by omega) (by omega), decide_eq_true_eq]
  exact .inl he
theorem more_of {nd u v : Int} {es : List Pt} (hG : GrOk nd es) (he : endsP nd u v) : EdgeMore (rowsB nd es) (rowsB nd (insB Pt.lt es (edgeP u v))) u.toNat v.toNat := by
  have hG2 := hG.add he
  have he' := he
  unfold endsP at he'
  have key : ∀ {es : List Pt}, GrOk nd es → ∀ i j : Nat, (at_ (rowsB nd es) (i : Int)).getLsbD j = true ↔ ((⟨i, j⟩ : Pt) ∈ es ∨ (⟨j, i⟩ : Pt) ∈ es) := fun {es} hG i j => by
    have hn64 : ∀ a b : Int, (⟨a, b⟩ : Pt) ∈ es → 0 ≤ a ∧ a < nd ∧ 0 ≤ b ∧ b < nd := fun a b hm => by have := hG.edge _ hm; simp only at this; omega
    have hadj := adj_edge hG (a := (i : Int)) (b := (j : Int))
    unfold adjR at hadj
    rw [mem_listB, Int.toNat_natCast] at hadj
    constructor
    · intro h
      have hi : (i : Int) < (rowsB nd es).length := Classical.byContradiction fun hn => by
        rw [at_nat, List.getD_eq_getElem?_getD, List.getElem?_eq_none (by omega)] at h
        exact absurd h (by show ¬ (0#64).getLsbD j = true; simp)
      exact (hadj.1 ⟨by omega, hi, by omega, h⟩).2.2
    · intro h; exact (hadj.2 ⟨by omega, by omega, h⟩).2.2.2
  refine ⟨fun i j => ?_⟩
  rw [key hG2, key hG, mem_insB, mem_insB]
  have e1 : ∀ a b : Nat, (⟨(a : Int), (b : Int)⟩ : Pt) = edgeP u v ↔ ((a = u.toNat ∧ b = v.toNat ∧ u < v) ∨ (a = v.toNat ∧ b = u.toNat ∧ v < u)) := fun a b => by
    rcases edgeP_of he with ⟨e, hl⟩ | ⟨e, hl⟩ <;> rw [e, Pt.mk.injEq] <;> omega
  rw [e1, e1]
  constructor
  · rintro ((h | h) | (h | h))
    · right; omega
    · exact .inl (.inl h)
    · right; omega
    · exact .inl (.inr h)
  · rintro ((h | h) | h)
    · exact .inl (.inr h)
    · exact .inr (.inr h)
    · rcases Int.lt_trichotomy u v with h1 | h1 | h1
      · rcases h with h | h
        · left; left; omega
        · right; left; omega
      · omega
      · rcases h with h | h
        · right; left; omega
        · left; left; omega
theorem comps_less {nd u v : Int} {es : List Pt} (h : addG nd es u v = 0) : ((compsG nd (insB Pt.lt es (edgeP u v))).length : Int) = (compsG nd es).length - (if sameG nd es u v = true then 0 else 1) := by
  obtain ⟨hG, he, _⟩ := addG_zero.1 h
  have hG2 := hG.add he
  have hr := hG.rng
  have he' := he
  unfold endsP at he'
  have hE : sameE nd es u v = 0 := by unfold sameE; rw [if_neg (by rw [checkG_ok.2 hG]; decide), if_neg (by omega)]
  have hS : sameG nd es u v = decide (Conn (rowsB nd es) (allB nd) u.toNat v.toNat) := by
    unfold sameG
    rw [if_neg (by rw [hE]; decide), tog_eq hr (by omega) (by omega)]
  have hw : ∀ x : Int, 0 ≤ x → x < nd → (allB nd).getLsbD x.toNat = true := fun x a b => by rw [getLsb_allB hr.1 hr.2 (by omega), decide_eq_true_eq]; omega
  unfold compsG
  rw [if_neg (by rw [checkG_ok.2 hG2]; decide), if_neg (by rw [checkG_ok.2 hG]; decide), List.length_map, List.length_map, hS]
  have hm := more_of hG he
  by_cases hc : Conn (rowsB nd es) (allB nd) u.toNat v.toNat
  · rw [hm.same (rowsB_sym hG) (hw u (by omega) (by omega)) (hw v (by omega) (by omega)) hc]; simp [hc]
  · have := hm.less (rowsB_sym hG) (hw u (by omega) (by omega)) (hw v (by omega) (by omega)) hc
    simp [hc]; omega
theorem flat_take_le {α : Type} {L : List (List α)} {k : Nat} (h : k < L.length) : (L.take k).flatten.length + (at_ L (k : Int)).length ≤ L.flatten.length := by
  have e1 : L.flatten = (L.take (k + 1)).flatten ++ (L.drop (k + 1)).flatten := by rw [← List.flatten_append, List.take_append_drop]
  rw [e1, take_at L k h, List.flatten_append, List.length_append, List.length_append]
  simp
theorem flatL_take {α : Type} {L : List (List α)} {k : Nat} (h : k < L.length) : (L.take (k + 1)).flatten = (L.take k).flatten ++ at_ L (k : Int) := by
  rw [take_at L k h, List.flatten_append]; simp

end Go.Sl
