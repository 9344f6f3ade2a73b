/- The statement EngineLateSaid, for every input. No conditions. -/
import Derived.Test.YtoagcglbkeomgaaGreatDoorRowEngineLate
import Derived.Test.YtoagcglbkeomgaaGreatDoorCdMain
import Derived.Test.YtoagcglbkeomgaaGreatDoorCdLook
import Derived.Test.YtoagcglbkeomgaaGreatDoorCdWEngineLate
import Derived.Test.YtoagcglbkeomgaaGreatDoorCdGEngineLate
import Derived.Test.YtoagcglbkeomgaaGreatDoorCdNEngineLate
set_option linter.unusedVariables false
set_option linter.unusedSimpArgs false
set_option linter.unusedSectionVars false
namespace Go.Proofs.YtoagcglbkeomgaaGreatDoor
open Go.ChangeShapes Go.WideShapes Go.ChangeAt Go.RowKit Go.Sl
set_option maxRecDepth 100000
theorem engineLateCard_holds:Rows.EngineLateCardSaid:=
 Claim7.holds_tied_plain_at .later [] [.data] true (true, "49c029e58199178f87f421fac60f42b8747d230bb2679928bc6b23a08bde2022") false
  engineLate_holds (λ_ h=>by cases h) cdWEngineLate (λ_ h=>by cases h) engineLate_row_tie rfl ⟨rfl,rfl⟩ cdMain rfl
  (λf fn hf hfn=>by
   obtain rfl:f=6:=Option.some.inj (cdNEngineLate.symm.trans hf) |>.symm
   obtain rfl:fn=Tryz.f6:=(Option.some.inj<|Tryz.func6.symm.trans hfn).symm
   exact ⟨cdLook,λj t ht=>by
    rw [Tryz.params6] at ht
    have hm:t∈[22,5]:=by simpa using Array.mem_of_getElem? ht
    exact (show Tryz.prog.wantsStandIn t=false by simpa using List.all_eq_true.1 cdSEngineLate t hm)⟩)
  cdGEngineLate
end Go.Proofs.YtoagcglbkeomgaaGreatDoor
