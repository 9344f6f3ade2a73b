/- A part of the proofs of statements of this seat: contracts of functions, and the plain laws that they lean on. No conditions. -/
import Derived.Test.YtbimaodbcjjbfaaDoorConn9
import Derived.Test.YtbimaodbcjjbfaaDoorDfs9
namespace Go.Sl
open Go.Proofs
set_option linter.unusedVariables false
set_option linter.unusedSimpArgs false
set_option maxRecDepth 4000
theorem adj_edge {nd : Int} {es : List Pt} (hG : GrOk nd es) {a b : Int} : adjR (rowsB nd es) a b ↔ 0 ≤ a ∧ 0 ≤ b ∧ ((⟨a, b⟩ : Pt) ∈ es ∨ (⟨b, a⟩ : Pt) ∈ es) := by
  have hr := hG.rng
  have hl := hG.rows.len
  unfold adjR
  rw [mem_listB]
  constructor
  · rintro ⟨h0, h1, h2, h3⟩
    have h64 : b.toNat < 64 := Classical.byContradiction fun hn => by rw [BitVec.getLsbD_of_ge _ _ (by omega)] at h3; cases h3
    rw [hG.rows.bit a b h0 (by omega) h2 (by omega), decide_eq_true_eq] at h3
    exact ⟨h0, h2, h3⟩
  · rintro ⟨h0, h2, h3⟩
    have hab : a < nd ∧ b < nd := by
      rcases h3 with h4 | h4
      · have := hG.edge _ h4; simp only at this; omega
      · have := hG.edge _ h4; simp only at this; omega
    exact ⟨h0, by omega, h2, by rw [hG.rows.bit a b h0 (by omega) h2 (by omega), decide_eq_true_eq]; exact h3⟩
theorem rowsG_of {nd : Int} {es : List Pt} (hG : GrOk nd es) : RowsG (rowsB nd es) := by
  have hr := hG.rng
  have hl := hG.rows.len
  refine ⟨by omega, fun v k h0 h1 hb => ?_, ⟨fun a b h => ?_, fun a h => ?_⟩⟩
  · have h2 : adjR (rowsB nd es) v (k : Int) := ⟨h0, h1, mem_listB.2 ⟨by omega, by rw [Int.toNat_natCast]; exact hb⟩⟩
    obtain ⟨_, _, h4⟩ := (adj_edge hG).1 h2
    rcases h4 with h4 | h4
    · have := hG.edge _ h4; simp only at this; omega
    · have := hG.edge _ h4; simp only at this; omega
  · rw [adj_edge hG] at h ⊢; exact ⟨h.2.1, h.1, h.2.2.symm⟩
  · rw [adj_edge hG] at h
    rcases h.2.2 with h4 | h4
    · have := hG.edge _ h4; simp only at this; omega
    · have := hG.edge _ h4; simp only at this; omega
theorem adj_mem {nd : Int} {es : List Pt} (hG : GrOk nd es) {e : Pt} : (∃ a b, e = edgeP a b ∧ adjR (rowsB nd es) a b) ↔ e ∈ es := by
  constructor
  · rintro ⟨a, b, rfl, h⟩
    obtain ⟨h0, h1, h2⟩ := (adj_edge hG).1 h
    rcases h2 with h2 | h2
    · have := hG.edge _ h2; simp only at this
      rw [show edgeP a b = ⟨a, b⟩ by unfold edgeP; rw [if_neg (by omega), if_pos (by omega)]]; exact h2
    · have := hG.edge _ h2; simp only at this
      rw [show edgeP a b = ⟨b, a⟩ by unfold edgeP; rw [if_pos (by omega), if_neg (by omega)]]; exact h2
  · intro h
    have := hG.edge e h
    refine ⟨e.u, e.v, ?_, (adj_edge hG).2 ⟨by omega, by omega, .inl h⟩⟩
    unfold edgeP; rw [if_neg (by omega), if_pos (by omega)]
end Go.Sl
namespace Go.Sl
open Go.Proofs
set_option linter.unusedVariables false
set_option linter.unusedSimpArgs false
set_option maxRecDepth 4000
end Go.Sl
namespace Go.Sl
open Go.Proofs
set_option linter.unusedVariables false
set_option linter.unusedSimpArgs false
set_option maxRecDepth 4000
end Go.Sl
