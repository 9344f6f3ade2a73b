/- A part of the proofs of statements of this seat: contracts of functions, and the plain laws that they lean on. No conditions. -/
import Derived.Test.YtoagcglbkeomgaaGreatDoorCards
import Derived.KernelRfl
set_option linter.unusedVariables false
set_option linter.unusedSimpArgs false
set_option linter.unusedSectionVars false
namespace Go.Proofs.YtoagcglbkeomgaaGreatDoor
set_option maxRecDepth 100000
theorem cdMain : Tryz.pinned.checked.prog.mainIs = some (true, "49c029e58199178f87f421fac60f42b8747d230bb2679928bc6b23a08bde2022".toList) := by kernel_rfl
end Go.Proofs.YtoagcglbkeomgaaGreatDoor
