/- A part of the proofs of statements of this seat: contracts of functions, and the plain laws that they lean on. No conditions. -/
import Derived.Test.YtbimaodbcjjbfaaDoorConn9
import Derived.Test.YtbimaodbcjjbfaaDoorDfs9
namespace Go.Sl
open Go.Proofs
set_option linter.unusedVariables false
set_option linter.unusedSimpArgs false
set_option maxRecDepth 4000
theorem adj_edge {nd : Int} {es : List Pt} (hG : GrOk nd es) {a b : Int} : adjR (rowsB nd es) a b ↔ 0 ≤ a ∧ 0 ≤ b ∧ ((⟨a, b⟩ : Pt) ∈ es ∨ (⟨b, a⟩ : Pt) ∈ es) := by
  have hr := hG.rng
  have hl := hG.rows.len
  unfold adjR
  rw [mem_listB]
  constructor
  · rintro ⟨h0, h1, h2, h3⟩
    have h64 : b.toNat < 64 := Classical.byContradiction fun hn => by rw [BitVec.getLsbD_of_ge _ _ (by omega)] at h3; cases h3
    rw [hG.rows.bit a b h0 (by omega) h2 (by omega), decide_eq_true_eq] at h3
    exact ⟨h0, h2, h3⟩
  · rintro ⟨h0, h2, h3⟩
    have hab : a < nd ∧ b < nd := by
      rcases h3 with h4 | h4
      · have := hG.edge _ h4; simp only at this; omega
      · have := hG.edge _ h4; simp only at this; omega
    exact ⟨h0, by omega, h2, by rw [hG.rows.bit a b h0 (by omega) h2 (by omega), decide_eq_true_eq]; exact h3⟩
end Go.Sl
namespace Go.Sl
open Go.Proofs
set_option linter.unusedVariables false
set_option linter.unusedSimpArgs false
set_option maxRecDepth 4000
end Go.Sl
namespace Go.Sl
open Go.Proofs
set_option linter.unusedVariables false
set_option linter.unusedSimpArgs false
set_option maxRecDepth 4000
end Go.Sl
