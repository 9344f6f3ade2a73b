/- A part of the proofs of statements of this seat: contracts of functions, and the plain laws that they lean on. No conditions. -/
import Derived.Test.YtnbkccjkdpolmaaGreatDoorCards
import Derived.KernelRfl
set_option linter.unusedVariables false
set_option linter.unusedSimpArgs false
set_option linter.unusedSectionVars false
namespace Go.Proofs.YtnbkccjkdpolmaaGreatDoor
set_option maxRecDepth 100000
theorem cdMain : Tryz.pinned.checked.prog.mainIs = some (true, "8e349fbb55faa4aa2764ebbd74576e43fe5b1d514e5c4b331b2db2ddb4c959db".toList) := by kernel_rfl
end Go.Proofs.YtnbkccjkdpolmaaGreatDoor
