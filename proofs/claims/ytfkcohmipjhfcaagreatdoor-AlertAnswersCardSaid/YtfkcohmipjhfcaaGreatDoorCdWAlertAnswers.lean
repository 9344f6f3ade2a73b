/- A part of the proofs of statements of this seat: contracts of functions, and the plain laws that they lean on. No conditions. -/
import Derived.Test.YtfkcohmipjhfcaaGreatDoorCards
import Derived.KernelRfl
set_option linter.unusedVariables false
set_option linter.unusedSimpArgs false
set_option linter.unusedSectionVars false
namespace Go.Proofs.YtfkcohmipjhfcaaGreatDoor
set_option maxRecDepth 100000
theorem cdWAlertAnswers:Rows.alertAnswersRow.wfByText (OpenSpec.ofChange Rows.alertAnswersSpec)=true:=by kernel_rfl
end Go.Proofs.YtfkcohmipjhfcaaGreatDoor
