/- The statement EnginePartsSaid, for every input. No conditions. -/
import Derived.Test.YtoagcglbkeomgaaGreatDoorRowEngineParts
import Derived.Test.YtoagcglbkeomgaaGreatDoorCdMain
import Derived.Test.YtoagcglbkeomgaaGreatDoorCdLook
import Derived.Test.YtoagcglbkeomgaaGreatDoorCdWEngineParts
import Derived.Test.YtoagcglbkeomgaaGreatDoorCdGEngineParts
import Derived.Test.YtoagcglbkeomgaaGreatDoorCdNEngineParts
set_option linter.unusedVariables false
set_option linter.unusedSimpArgs false
set_option linter.unusedSectionVars false
namespace Go.Proofs.YtoagcglbkeomgaaGreatDoor
open Go.ChangeShapes Go.WideShapes Go.ChangeAt Go.RowKit Go.Sl
set_option maxRecDepth 100000
theorem enginePartsCard_holds:Rows.EnginePartsCardSaid:=
 Claim7.holds_tied_plain_at .later [] [.data] true (true, "49c029e58199178f87f421fac60f42b8747d230bb2679928bc6b23a08bde2022") false
  engineParts_holds (λ_ h=>by cases h) cdWEngineParts (λ_ h=>by cases h) engineParts_row_tie rfl ⟨rfl,rfl⟩ cdMain rfl
  (λf fn hf hfn=>by
   obtain rfl:f=7:=Option.some.inj (cdNEngineParts.symm.trans hf) |>.symm
   obtain rfl:fn=Tryz.f7:=(Option.some.inj<|Tryz.func7.symm.trans hfn).symm
   exact ⟨cdLook,λj t ht=>by
    rw [Tryz.params7] at ht
    have hm:t∈[22]:=by simpa using Array.mem_of_getElem? ht
    exact (show Tryz.prog.wantsStandIn t=false by simpa using List.all_eq_true.1 cdSEngineParts t hm)⟩)
  cdGEngineParts
end Go.Proofs.YtoagcglbkeomgaaGreatDoor
