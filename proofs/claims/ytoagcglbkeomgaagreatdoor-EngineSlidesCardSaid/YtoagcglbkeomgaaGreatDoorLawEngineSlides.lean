/- The statement EngineSlidesSaid, for every input. No conditions. -/
import Derived.Test.YtoagcglbkeomgaaGreatDoorRowEngineSlides
import Derived.Test.YtoagcglbkeomgaaGreatDoorCdMain
import Derived.Test.YtoagcglbkeomgaaGreatDoorCdLook
import Derived.Test.YtoagcglbkeomgaaGreatDoorCdWEngineSlides
import Derived.Test.YtoagcglbkeomgaaGreatDoorCdGEngineSlides
import Derived.Test.YtoagcglbkeomgaaGreatDoorCdNEngineSlides
set_option linter.unusedVariables false
set_option linter.unusedSimpArgs false
set_option linter.unusedSectionVars false
namespace Go.Proofs.YtoagcglbkeomgaaGreatDoor
open Go.ChangeShapes Go.WideShapes Go.ChangeAt Go.RowKit Go.Sl
set_option maxRecDepth 100000
theorem engineSlidesCard_holds:Rows.EngineSlidesCardSaid:=
 Claim7.holds_tied_plain_at .later [] [.data] true (true, "49c029e58199178f87f421fac60f42b8747d230bb2679928bc6b23a08bde2022") false
  engineSlides_holds (λ_ h=>by cases h) cdWEngineSlides (λ_ h=>by cases h) engineSlides_row_tie rfl ⟨rfl,rfl⟩ cdMain rfl
  (λf fn hf hfn=>by
   obtain rfl:f=4:=Option.some.inj (cdNEngineSlides.symm.trans hf) |>.symm
   obtain rfl:fn=Tryz.f4:=(Option.some.inj<|Tryz.func4.symm.trans hfn).symm
   exact ⟨cdLook,λj t ht=>by
    rw [Tryz.params4] at ht
    have hm:t∈[22,5]:=by simpa using Array.mem_of_getElem? ht
    exact (show Tryz.prog.wantsStandIn t=false by simpa using List.all_eq_true.1 cdSEngineSlides t hm)⟩)
  cdGEngineSlides
end Go.Proofs.YtoagcglbkeomgaaGreatDoor
