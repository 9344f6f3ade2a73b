/- The statement EngineKeepsSaid, for every input. No conditions. -/
import Derived.Test.YtoagcglbkeomgaaGreatDoorRowEngineKeeps
import Derived.Test.YtoagcglbkeomgaaGreatDoorCdMain
import Derived.Test.YtoagcglbkeomgaaGreatDoorCdLook
import Derived.Test.YtoagcglbkeomgaaGreatDoorCdWEngineKeeps
import Derived.Test.YtoagcglbkeomgaaGreatDoorCdGEngineKeeps
import Derived.Test.YtoagcglbkeomgaaGreatDoorCdNEngineKeeps
set_option linter.unusedVariables false
set_option linter.unusedSimpArgs false
set_option linter.unusedSectionVars false
namespace Go.Proofs.YtoagcglbkeomgaaGreatDoor
open Go.ChangeShapes Go.WideShapes Go.ChangeAt Go.RowKit Go.Sl
set_option maxRecDepth 100000
theorem engineKeepsCard_holds:Rows.EngineKeepsCardSaid:=
 Claim7.holds_tied_plain_at .later [] [.data] true (true, "49c029e58199178f87f421fac60f42b8747d230bb2679928bc6b23a08bde2022") false
  engineKeeps_holds (λ_ h=>by cases h) cdWEngineKeeps (λ_ h=>by cases h) engineKeeps_row_tie rfl ⟨rfl,rfl⟩ cdMain rfl
  (λf fn hf hfn=>by
   obtain rfl:f=3:=Option.some.inj (cdNEngineKeeps.symm.trans hf) |>.symm
   obtain rfl:fn=Tryz.f3:=(Option.some.inj<|Tryz.func3.symm.trans hfn).symm
   exact ⟨cdLook,λj t ht=>by
    rw [Tryz.params3] at ht
    have hm:t∈[22,5]:=by simpa using Array.mem_of_getElem? ht
    exact (show Tryz.prog.wantsStandIn t=false by simpa using List.all_eq_true.1 cdSEngineKeeps t hm)⟩)
  cdGEngineKeeps
end Go.Proofs.YtoagcglbkeomgaaGreatDoor
