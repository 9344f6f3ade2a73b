/- The statement EngineOrderSaid, for every input. No conditions. -/
import Derived.Test.YtoagcglbkeomgaaGreatDoorRowEngineOrder
import Derived.Test.YtoagcglbkeomgaaGreatDoorCdMain
import Derived.Test.YtoagcglbkeomgaaGreatDoorCdLook
import Derived.Test.YtoagcglbkeomgaaGreatDoorCdWEngineOrder
import Derived.Test.YtoagcglbkeomgaaGreatDoorCdGEngineOrder
import Derived.Test.YtoagcglbkeomgaaGreatDoorCdNEngineOrder
set_option linter.unusedVariables false
set_option linter.unusedSimpArgs false
set_option linter.unusedSectionVars false
namespace Go.Proofs.YtoagcglbkeomgaaGreatDoor
open Go.ChangeShapes Go.WideShapes Go.ChangeAt Go.RowKit Go.Sl
set_option maxRecDepth 100000
theorem engineOrderCard_holds:Rows.EngineOrderCardSaid:=
 Claim7.holds_tied_plain_at .later [] [.data] true (true, "49c029e58199178f87f421fac60f42b8747d230bb2679928bc6b23a08bde2022") false
  engineOrder_holds (λ_ h=>by cases h) cdWEngineOrder (λ_ h=>by cases h) engineOrder_row_tie rfl ⟨rfl,rfl⟩ cdMain rfl
  (λf fn hf hfn=>by
   obtain rfl:f=5:=Option.some.inj (cdNEngineOrder.symm.trans hf) |>.symm
   obtain rfl:fn=Tryz.f5:=(Option.some.inj<|Tryz.func5.symm.trans hfn).symm
   exact ⟨cdLook,λj t ht=>by
    rw [Tryz.params5] at ht
    have hm:t∈[22]:=by simpa using Array.mem_of_getElem? ht
    exact (show Tryz.prog.wantsStandIn t=false by simpa using List.all_eq_true.1 cdSEngineOrder t hm)⟩)
  cdGEngineOrder
end Go.Proofs.YtoagcglbkeomgaaGreatDoor
