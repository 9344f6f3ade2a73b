/- A part of the proofs of statements of this seat: contracts of functions, and the plain laws that they lean on. No conditions. -/
import Derived.Test.YtbimaodbcjjbfaaGreatDoorRunsD5
import Derived.Test.YtbimaodbcjjbfaaGreatDoorSets
import Derived.Test.YtbimaodbcjjbfaaGreatDoorGraphH5
import Derived.KernelRfl
/- Graphs as rows of bits: the plain laws. No Go. No conditions. -/
namespace Go.Sl
set_option linter.unusedVariables false
set_option linter.unusedSectionVars false
set_option maxRecDepth 10000
instance : Enc (BitVec 64) := ⟨fun b => [U64 b], 1, by omega, fun _ => rfl, fun _ u h => by simp at h; subst h; rfl⟩
def rows0 (nd : Int) : List (BitVec 64) := List.replicate (min (max nd 0) 64).toNat 0#64
theorem at_rep64 (n : Nat) (i : Int) : at_ (List.replicate n (0#64)) i = 0#64 := by
  unfold at_
  rw [List.getD_eq_getElem?_getD, List.getElem?_replicate]
  split <;> rfl
end Go.Sl
namespace Go.Sl
open Go.Proofs
set_option linter.unusedVariables false
set_option linter.unusedSimpArgs false
set_option maxRecDepth 4000
end Go.Sl
