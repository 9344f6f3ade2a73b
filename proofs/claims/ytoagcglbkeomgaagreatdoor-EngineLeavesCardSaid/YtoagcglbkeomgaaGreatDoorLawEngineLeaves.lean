/- The statement EngineLeavesSaid, for every input. No conditions. -/
import Derived.Test.YtoagcglbkeomgaaGreatDoorRowEngineLeaves
import Derived.Test.YtoagcglbkeomgaaGreatDoorCdMain
import Derived.Test.YtoagcglbkeomgaaGreatDoorCdLook
import Derived.Test.YtoagcglbkeomgaaGreatDoorCdWEngineLeaves
import Derived.Test.YtoagcglbkeomgaaGreatDoorCdGEngineLeaves
import Derived.Test.YtoagcglbkeomgaaGreatDoorCdNEngineLeaves
set_option linter.unusedVariables false
set_option linter.unusedSimpArgs false
set_option linter.unusedSectionVars false
namespace Go.Proofs.YtoagcglbkeomgaaGreatDoor
open Go.ChangeShapes Go.WideShapes Go.ChangeAt Go.RowKit Go.Sl
set_option maxRecDepth 100000
theorem engineLeavesCard_holds:Rows.EngineLeavesCardSaid:=
 Claim7.holds_tied_plain_at .later [] [.data] true (true, "49c029e58199178f87f421fac60f42b8747d230bb2679928bc6b23a08bde2022") false
  engineLeaves_holds (λ_ h=>by cases h) cdWEngineLeaves (λ_ h=>by cases h) engineLeaves_row_tie rfl ⟨rfl,rfl⟩ cdMain rfl
  (λf fn hf hfn=>by
   obtain rfl:f=9:=Option.some.inj (cdNEngineLeaves.symm.trans hf) |>.symm
   obtain rfl:fn=Tryz.f9:=(Option.some.inj<|Tryz.func9.symm.trans hfn).symm
   exact ⟨cdLook,λj t ht=>by
    rw [Tryz.params9] at ht
    have hm:t∈[22]:=by simpa using Array.mem_of_getElem? ht
    exact (show Tryz.prog.wantsStandIn t=false by simpa using List.all_eq_true.1 cdSEngineLeaves t hm)⟩)
  cdGEngineLeaves
end Go.Proofs.YtoagcglbkeomgaaGreatDoor
