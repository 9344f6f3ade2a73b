/- The statement AuditRefusesSaid, for every input. No conditions. -/
import Derived.Test.YtnbkccjkdpolmaaGreatDoorRowAuditRefuses
import Derived.Test.YtnbkccjkdpolmaaGreatDoorCdMain
import Derived.Test.YtnbkccjkdpolmaaGreatDoorCdLook
import Derived.Test.YtnbkccjkdpolmaaGreatDoorCdWAuditRefuses
import Derived.Test.YtnbkccjkdpolmaaGreatDoorCdGAuditRefuses
import Derived.Test.YtnbkccjkdpolmaaGreatDoorCdNAuditRefuses
set_option linter.unusedVariables false
set_option linter.unusedSimpArgs false
set_option linter.unusedSectionVars false
namespace Go.Proofs.YtnbkccjkdpolmaaGreatDoor
open Go.ChangeShapes Go.WideShapes Go.ChangeAt Go.RowKit Go.Sl
set_option maxRecDepth 100000
theorem auditRefusesCard_holds:Rows.AuditRefusesCardSaid:=
 Claim7.holds_tied_plain_at .later [] [.data] true (true, "8e349fbb55faa4aa2764ebbd74576e43fe5b1d514e5c4b331b2db2ddb4c959db") false
  auditRefuses_holds (λ_ h=>by cases h) cdWAuditRefuses (λ_ h=>by cases h) auditRefuses_row_tie rfl ⟨rfl,rfl⟩ cdMain rfl
  (λf fn hf hfn=>by
   obtain rfl:f=4:=Option.some.inj (cdNAuditRefuses.symm.trans hf) |>.symm
   obtain rfl:fn=Tryz.f4:=(Option.some.inj<|Tryz.func4.symm.trans hfn).symm
   exact ⟨cdLook,λj t ht=>by
    rw [Tryz.params4] at ht
    have hm:t∈[22,5]:=by simpa using Array.mem_of_getElem? ht
    exact (show Tryz.prog.wantsStandIn t=false by simpa using List.all_eq_true.1 cdSAuditRefuses t hm)⟩)
  cdGAuditRefuses
end Go.Proofs.YtnbkccjkdpolmaaGreatDoor
