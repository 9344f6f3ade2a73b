/- A part of the proofs of statements of this seat: contracts of functions, and the plain laws that they lean on. No conditions. -/
import Derived.Test.YtbimaodbcjjbfaaDoorConn8
import Derived.Test.YtbimaodbcjjbfaaDoorConn9
import Derived.Test.YtbimaodbcjjbfaaDoorGraphH5
import Derived.Test.YtbimaodbcjjbfaaDoorGraphK5
import Derived.Test.YtbimaodbcjjbfaaDoorGraphM5
namespace Go.Sl
open Go.Proofs
set_option linter.unusedVariables false
set_option linter.unusedSimpArgs false
set_option maxRecDepth 4000
theorem set_bit {nd : Int} {S : List Int} (h : 0 ≤ nd ∧ nd ≤ 64) {i : Nat} : (maskB S &&& allB nd).getLsbD i = true ↔ ((i : Int) ∈ S ∧ (i : Int) < nd) := by
  by_cases hi : i < 64
  · rw [BitVec.getLsbD_and, Bool.and_eq_true, bit_maskB hi, getLsb_allB h.1 h.2 hi, decide_eq_true_eq]
  · rw [BitVec.getLsbD_of_ge _ _ (by omega)]
    exact ⟨fun h => absurd h (by decide), fun h => by omega⟩
theorem rangeI_asc (nd : Int) : (rangeI nd).Pairwise (fun a b : Int => a < b) := by unfold rangeI; rw [List.pairwise_map]; exact List.pairwise_lt_range.imp fun h => by omega
end Go.Sl
