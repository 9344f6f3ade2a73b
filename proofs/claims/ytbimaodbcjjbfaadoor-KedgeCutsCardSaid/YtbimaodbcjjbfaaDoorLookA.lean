/- A part of the proofs of statements of this seat: contracts of functions, and the plain laws that they lean on. No conditions. -/
import Derived.Test.YtbimaodbcjjbfaaDoorMaskB
import Derived.Test.YtbimaodbcjjbfaaDoorGraphL5
import Derived.Test.YtbimaodbcjjbfaaDoorGraphM5
import Derived.Test.YtbimaodbcjjbfaaDoorGraphK5
import Derived.Test.YtbimaodbcjjbfaaDoorRefFrac
import Derived.Test.YtbimaodbcjjbfaaDoorSets
namespace Go.Sl
open Go.Proofs
set_option linter.unusedVariables false
set_option linter.unusedSimpArgs false
set_option maxRecDepth 4000
def FindP (nd : Int) (es : List Pt) (u v y : Int) : Prop := (checkG nd es = 0 ∧ ∃ j : Nat, y = (j : Int) ∧ j < es.length ∧ at_ es (j : Int) = edgeP u v) ∨ (y = -1 ∧ (checkG nd es ≠ 0 ∨ edgeP u v ∉ es))
theorem FindP.uniq {nd : Int} {es : List Pt} {u v y z : Int} (h : FindP nd es u v y) (h' : FindP nd es u v z) : y = z := by
  have key : ∀ {a b : Int}, (checkG nd es = 0 ∧ ∃ j : Nat, a = (j : Int) ∧ j < es.length ∧ at_ es (j : Int) = edgeP u v) → (b = -1 ∧ (checkG nd es ≠ 0 ∨ edgeP u v ∉ es)) → False := by
    rintro a b ⟨hc, j, _, hj, he⟩ ⟨_, h1 | h1⟩
    · exact h1 hc
    · exact h1 (he ▸ at_mem (by omega) (by omega))
  rcases h with h | h <;> rcases h' with h' | h'
  · obtain ⟨hc, j, rfl, hj, he⟩ := h
    obtain ⟨_, i, rfl, hi, hf⟩ := h'
    have ha := (checkG_ok.1 hc).asc
    rcases Nat.lt_trichotomy i j with h1 | h1 | h1
    · have := asc_at ha (i := i) (j := j) h1 hj; rw [he, hf] at this; exact absurd this (Pt.lin.irr _)
    · rw [h1]
    · have := asc_at ha (i := j) (j := i) h1 hi; rw [he, hf] at this; exact absurd this (Pt.lin.irr _)
  · exact (key h h').elim
  · exact (key h' h).elim
  · rw [h.1, h'.1]
theorem all_tab : ∀ n : Fin 65, ∀ i : Fin 64, (allB (n.val : Int)).getLsbD i.val = decide (i.val < n.val) := by decide +kernel
theorem getLsb_allB {n : Int} (h0 : 0 ≤ n) (h1 : n ≤ 64) {i : Nat} (hi : i < 64) : (allB n).getLsbD i = decide ((i : Int) < n) := by
  have := all_tab ⟨n.toNat, by omega⟩ ⟨i, hi⟩
  simp only [show ((n.toNat : Nat) : Int) = n by omega] at this
  rw [this, decide_eq_decide]; omega
end Go.Sl
