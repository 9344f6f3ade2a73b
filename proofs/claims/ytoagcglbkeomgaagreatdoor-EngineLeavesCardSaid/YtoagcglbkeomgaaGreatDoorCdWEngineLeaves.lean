/- A part of the proofs of statements of this seat: contracts of functions, and the plain laws that they lean on. No conditions. -/
import Derived.Test.YtoagcglbkeomgaaGreatDoorCards
import Derived.KernelRfl
set_option linter.unusedVariables false
set_option linter.unusedSimpArgs false
set_option linter.unusedSectionVars false
namespace Go.Proofs.YtoagcglbkeomgaaGreatDoor
set_option maxRecDepth 100000
theorem cdWEngineLeaves:Rows.engineLeavesRow.wfByText (OpenSpec.ofChange Rows.engineLeavesSpec)=true:=by kernel_rfl
end Go.Proofs.YtoagcglbkeomgaaGreatDoor
