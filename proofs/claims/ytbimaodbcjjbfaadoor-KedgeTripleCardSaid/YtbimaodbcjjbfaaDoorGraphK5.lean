/- A part of the proofs of statements of this seat: contracts of functions, and the plain laws that they lean on. No conditions. -/
import Derived.Test.YtbimaodbcjjbfaaDoorGraphH5
import Derived.Test.YtbimaodbcjjbfaaDoorSets
namespace Go.Sl
open Go.Proofs
set_option linter.unusedVariables false
set_option linter.unusedSimpArgs false
set_option maxRecDepth 4000
def meetL (xs ys : List Int) : List Int := (ofL xs).filter fun x => decide (x ∈ ys)
theorem mem_meetL {xs ys : List Int} {x : Int} : x ∈ meetL xs ys ↔ x ∈ xs ∧ x ∈ ys := by simp [meetL, mem_ofL]
def rangeI (n : Int) : List Int := (List.range (min n 64).toNat).map fun j : Nat => (j : Int)
theorem mem_rangeI {n x : Int} : x ∈ rangeI n ↔ 0 ≤ x ∧ x < n ∧ x < 64 := by
  unfold rangeI
  rw [List.mem_map]
  constructor
  · rintro ⟨j, hj, rfl⟩; rw [List.mem_range] at hj; omega
  · rintro ⟨h1, h2, h3⟩; exact ⟨x.toNat, by rw [List.mem_range]; omega, by omega⟩
end Go.Sl
