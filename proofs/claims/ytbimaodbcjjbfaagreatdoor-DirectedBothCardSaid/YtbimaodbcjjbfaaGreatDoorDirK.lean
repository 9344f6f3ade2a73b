/- A part of the proofs of statements of this seat: contracts of functions, and the plain laws that they lean on. No conditions. -/
import Derived.Test.YtbimaodbcjjbfaaGreatDoorDir7
namespace Go.Sl
open Go.Proofs
set_option linter.unusedVariables false
set_option linter.unusedSimpArgs false
set_option maxRecDepth 4000
theorem listB_ne {f : BitVec 64} (h : f ≠ 0#64) : listB f ≠ [] := fun e => by rw [listB_step h] at e; cases e
end Go.Sl
