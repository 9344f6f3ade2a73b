/- A part of the proofs of statements of this seat: contracts of functions, and the plain laws that they lean on. No conditions. -/
import Derived.Test.YtnbkccjkdpolmaaGreatDoorCards
import Derived.KernelRfl
set_option linter.unusedVariables false
set_option linter.unusedSimpArgs false
set_option linter.unusedSectionVars false
namespace Go.Proofs.YtnbkccjkdpolmaaGreatDoor
set_option maxRecDepth 100000
theorem cdNAuditAccepts : Tryz.prog.funcNamed "cohesion/cohesionlaw45.AuditAccepts" = some 3 := by kernel_rfl
theorem cdSAuditAccepts:([22].all λu=> !Tryz.prog.wantsStandIn u)=true:=by kernel_rfl
end Go.Proofs.YtnbkccjkdpolmaaGreatDoor
