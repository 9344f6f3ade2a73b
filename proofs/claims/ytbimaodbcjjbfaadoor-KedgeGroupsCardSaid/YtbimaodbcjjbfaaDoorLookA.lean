/- A part of the proofs of statements of this seat: contracts of functions, and the plain laws that they lean on. No conditions. -/
import Derived.Test.YtbimaodbcjjbfaaDoorMaskB
import Derived.Test.YtbimaodbcjjbfaaDoorGraphL5
import Derived.Test.YtbimaodbcjjbfaaDoorGraphM5
import Derived.Test.YtbimaodbcjjbfaaDoorGraphK5
import Derived.Test.YtbimaodbcjjbfaaDoorRefFrac
import Derived.Test.YtbimaodbcjjbfaaDoorSets
namespace Go.Sl
open Go.Proofs
set_option linter.unusedVariables false
set_option linter.unusedSimpArgs false
set_option maxRecDepth 4000
/-- The row of a node, of any graph. -/
def rowG (nd : Int) (es : List Pt) (v : Int) : BitVec 64 := if v < 0 ∨ ((rowsB nd es).length : Int) ≤ v ∨ checkG nd es ≠ 0 then 0#64 else at_ (rowsB nd es) v
def nbL (es : List Pt) (v : Int) : List Int := es.flatMap fun e => (if e.u = v then [e.v] else []) ++ (if e.v = v then [e.u] else [])
theorem nbL_take {es : List Pt} {k : Nat} (h : k < es.length) (v : Int) : nbL (es.take (k + 1)) v = nbL (es.take k) v ++ ((if (at_ es (k : Int)).u = v then [(at_ es (k : Int)).v] else []) ++ (if (at_ es (k : Int)).v = v then [(at_ es (k : Int)).u] else [])) := by
  unfold nbL; rw [take_at es k h, List.flatMap_append]; simp
theorem mem_nbL {es : List Pt} {v x : Int} : x ∈ nbL es v ↔ (⟨v, x⟩ : Pt) ∈ es ∨ (⟨x, v⟩ : Pt) ∈ es := by
  unfold nbL
  rw [List.mem_flatMap]
  constructor
  · rintro ⟨⟨a, b⟩, he, hx⟩
    rcases List.mem_append.1 hx with h | h
    · split at h
      · rename_i h1; simp only [List.mem_singleton] at h; simp only at h1; subst h h1; exact .inl he
      · simp at h
    · split at h
      · rename_i h1; simp only [List.mem_singleton] at h; simp only at h1; subst h h1; exact .inr he
      · simp at h
  · rintro (h | h)
    · exact ⟨_, h, by simp⟩
    · exact ⟨_, h, by simp⟩
/-- The neighbours of a node. -/
def nbG (nd : Int) (es : List Pt) (v : Int) : List Int := if checkG nd es ≠ 0 then [] else ofL (nbL es v)
theorem nb_eq (nd : Int) (es : List Pt) (v : Int) : listB (rowG nd es v) = nbG nd es v := by
  by_cases hc : checkG nd es ≠ 0
  · unfold rowG nbG; rw [if_pos (.inr (.inr hc)), if_pos hc, listB_zero]
  · have hG := checkG_ok.1 (Classical.not_not.1 hc)
    have hr := hG.rng
    have hl := hG.rows.len
    unfold nbG
    rw [if_neg hc]
    refine intLin.uniq (listB_asc _) (ofL_asc _) fun x => ?_
    rw [mem_listB, mem_ofL, mem_nbL]
    by_cases hv : v < 0 ∨ ((rowsB nd es).length : Int) ≤ v
    · have hz : rowG nd es v = 0#64 := if_pos (by omega)
      rw [hz]
      simp only [BitVec.getLsbD_zero, Bool.false_eq_true, and_false, false_iff]
      rintro (h | h)
      · have := hG.edge _ h; simp only at this; omega
      · have := hG.edge _ h; simp only at this; omega
    · have hz : rowG nd es v = at_ (rowsB nd es) v := if_neg (by omega)
      rw [hz]
      by_cases hx : 0 ≤ x ∧ x < 64
      · rw [hG.rows.bit v x (by omega) (by omega) hx.1 hx.2, decide_eq_true_eq]
        exact ⟨fun h => h.2, fun h => ⟨hx.1, h⟩⟩
      · constructor
        · rintro ⟨h1, h2⟩
          rw [BitVec.getLsbD_of_ge _ _ (by omega)] at h2
          exact absurd h2 (by decide)
        · rintro (h | h)
          · have := hG.edge _ h; simp only at this; omega
          · have := hG.edge _ h; simp only at this; omega
theorem nbG_len (nd : Int) (es : List Pt) (v : Int) : (nbG nd es v).length ≤ 64 := by rw [← nb_eq]; exact listB_len _
/-- The induced graph. -/
def indG (nd : Int) (es : List Pt) (set : List Int) : List Pt := if checkG nd es ≠ 0 then [] else insideL set es
def indN (nd : Int) (es : List Pt) : Int := if checkG nd es ≠ 0 then 0 else nd
theorem indG_ref {nd : Int} {es : List Pt} (set : List Int) (h : ¬ checkG nd es ≠ 0) : indG nd es set = es.filter fun e => decide (e.u ∈ set ∧ e.v ∈ set) := by
  unfold indG; rw [if_neg h]; exact insideL_eq set (checkG_ok.1 (Classical.not_not.1 h))
theorem all_tab : ∀ n : Fin 65, ∀ i : Fin 64, (allB (n.val : Int)).getLsbD i.val = decide (i.val < n.val) := by decide +kernel
theorem getLsb_allB {n : Int} (h0 : 0 ≤ n) (h1 : n ≤ 64) {i : Nat} (hi : i < 64) : (allB n).getLsbD i = decide ((i : Int) < n) := by
  have := all_tab ⟨n.toNat, by omega⟩ ⟨i, hi⟩
  simp only [show ((n.toNat : Nat) : Int) = n by omega] at this
  rw [this, decide_eq_decide]; omega
end Go.Sl
