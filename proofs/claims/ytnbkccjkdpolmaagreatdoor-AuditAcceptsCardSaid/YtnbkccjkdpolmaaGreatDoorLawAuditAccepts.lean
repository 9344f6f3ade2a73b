/- The statement AuditAcceptsSaid, for every input. No conditions. -/
import Derived.Test.YtnbkccjkdpolmaaGreatDoorRowAuditAccepts
import Derived.Test.YtnbkccjkdpolmaaGreatDoorCdMain
import Derived.Test.YtnbkccjkdpolmaaGreatDoorCdLook
import Derived.Test.YtnbkccjkdpolmaaGreatDoorCdWAuditAccepts
import Derived.Test.YtnbkccjkdpolmaaGreatDoorCdGAuditAccepts
import Derived.Test.YtnbkccjkdpolmaaGreatDoorCdNAuditAccepts
set_option linter.unusedVariables false
set_option linter.unusedSimpArgs false
set_option linter.unusedSectionVars false
namespace Go.Proofs.YtnbkccjkdpolmaaGreatDoor
open Go.ChangeShapes Go.WideShapes Go.ChangeAt Go.RowKit Go.Sl
set_option maxRecDepth 100000
theorem auditAcceptsCard_holds:Rows.AuditAcceptsCardSaid:=
 Claim7.holds_tied_plain_at .later [] [.data] true (true, "8e349fbb55faa4aa2764ebbd74576e43fe5b1d514e5c4b331b2db2ddb4c959db") false
  auditAccepts_holds (λ_ h=>by cases h) cdWAuditAccepts (λ_ h=>by cases h) auditAccepts_row_tie rfl ⟨rfl,rfl⟩ cdMain rfl
  (λf fn hf hfn=>by
   obtain rfl:f=3:=Option.some.inj (cdNAuditAccepts.symm.trans hf) |>.symm
   obtain rfl:fn=Tryz.f3:=(Option.some.inj<|Tryz.func3.symm.trans hfn).symm
   exact ⟨cdLook,λj t ht=>by
    rw [Tryz.params3] at ht
    have hm:t∈[22]:=by simpa using Array.mem_of_getElem? ht
    exact (show Tryz.prog.wantsStandIn t=false by simpa using List.all_eq_true.1 cdSAuditAccepts t hm)⟩)
  cdGAuditAccepts
end Go.Proofs.YtnbkccjkdpolmaaGreatDoor
