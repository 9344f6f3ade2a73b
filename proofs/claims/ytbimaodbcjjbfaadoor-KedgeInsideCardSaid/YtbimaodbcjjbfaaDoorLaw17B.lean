/- A part of the proofs of statements of this seat: contracts of functions, and the plain laws that they lean on. No conditions. -/
import Derived.Test.YtbimaodbcjjbfaaDoorKed7
import Derived.Test.YtbimaodbcjjbfaaDoorLaw17A
namespace Go.Sl
open Go.Proofs
set_option linter.unusedVariables false
set_option linter.unusedSimpArgs false
set_option maxRecDepth 4000
theorem kt_deg {nd u : Int} {es : List Pt} (hG : GrOk nd es) (hu : 0 ≤ u ∧ u < nd) : lvE es (inL [u]) ≤ ((nbG nd es u).length : Int) := by
  have hr := hG.rng
  have hv : ValidP [u] nd := ValidP_iff.2 ⟨fun x hx => by rw [List.mem_singleton] at hx; rw [hx]; exact hu, by simp⟩
  have hl : listB (maskB [u]) = [u] := by
    refine intLin.uniq (listB_asc _) (by simp) fun x => ?_
    rw [mem_listB, List.mem_singleton]
    constructor
    · rintro ⟨h0, h1⟩
      have h64 : x.toNat < 64 := Classical.byContradiction fun hn => by rw [BitVec.getLsbD_of_ge _ _ (by omega)] at h1; cases h1
      rw [bit_maskB h64, List.mem_singleton] at h1; omega
    · rintro rfl
      exact ⟨hu.1, by rw [bit_maskB (by omega), List.mem_singleton]; omega⟩
  rw [← outP_eq hG hv, hl]
  have e1 : outP (rowsB nd es) (allB nd) (maskB [u]) [u] = (listB (at_ (rowsB nd es) u &&& allB nd &&& ~~~(maskB [u]))).map fun y => (⟨u, y⟩ : Pt) := by unfold outP; simp
  rw [e1, List.length_map, ← nb_eq]
  have hrl := hG.rows.len
  have e2 : rowG nd es u = at_ (rowsB nd es) u := if_neg (by rintro (h | h | h) <;> first | omega | exact h (checkG_ok.2 hG))
  rw [e2]
  unfold listB
  rw [List.length_map, List.length_map]
  have := listN_sub (a := at_ (rowsB nd es) u &&& allB nd &&& ~~~(maskB [u])) (b := at_ (rowsB nd es) u) fun i hi => by
    have h1 := (getLsb_minus.1 hi).1
    rw [BitVec.getLsbD_and, Bool.and_eq_true] at h1; exact h1.1
  omega
end Go.Sl
