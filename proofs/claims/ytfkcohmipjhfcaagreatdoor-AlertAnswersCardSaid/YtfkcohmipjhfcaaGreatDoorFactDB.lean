/- A part of the proofs of statements of this seat: contracts of functions, and the plain laws that they lean on. No conditions. -/
import Derived.Test.YtfkcohmipjhfcaaGreatDoorB2
import Derived.Test.YtfkcohmipjhfcaaGreatDoorRows
import Derived.JoinedOf
set_option linter.unusedVariables false
set_option linter.unusedSimpArgs false
set_option linter.unusedSectionVars false
namespace Go.Proofs.YtfkcohmipjhfcaaGreatDoor
theorem fact28:((Tryz.prog.make==some Rows.alertQuietRow.make))=true:=by kernel_rfl
end Go.Proofs.YtfkcohmipjhfcaaGreatDoor
