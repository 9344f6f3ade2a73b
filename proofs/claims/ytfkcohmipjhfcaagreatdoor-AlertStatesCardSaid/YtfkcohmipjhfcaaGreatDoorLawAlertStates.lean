/- The statement AlertStatesSaid, for every input. No conditions. -/
import Derived.Test.YtfkcohmipjhfcaaGreatDoorRowAlertStates
import Derived.Test.YtfkcohmipjhfcaaGreatDoorCdMain
import Derived.Test.YtfkcohmipjhfcaaGreatDoorCdLook
import Derived.Test.YtfkcohmipjhfcaaGreatDoorCdWAlertStates
import Derived.Test.YtfkcohmipjhfcaaGreatDoorCdGAlertStates
import Derived.Test.YtfkcohmipjhfcaaGreatDoorCdNAlertStates
set_option linter.unusedVariables false
set_option linter.unusedSimpArgs false
set_option linter.unusedSectionVars false
namespace Go.Proofs.YtfkcohmipjhfcaaGreatDoor
open Go.ChangeShapes Go.WideShapes Go.ChangeAt Go.RowKit Go.Sl
set_option maxRecDepth 100000
theorem alertStatesCard_holds:Rows.AlertStatesCardSaid:=
 Claim7.holds_tied_plain_at .later [] [.data] true (true, "467fa26bfbaedd767c6340f682ae5caf2c065e57be24a9d96a5d52f4bc1287bb") false
  alertStates_holds (λ_ h=>by cases h) cdWAlertStates (λ_ h=>by cases h) alertStates_row_tie rfl ⟨rfl,rfl⟩ cdMain rfl
  (λf fn hf hfn=>by
   obtain rfl:f=7:=Option.some.inj (cdNAlertStates.symm.trans hf) |>.symm
   obtain rfl:fn=Tryz.f7:=(Option.some.inj (Tryz.func7.symm.trans hfn)).symm
   exact ⟨cdLook,λj t ht=>by
    rw [Tryz.params7] at ht
    have hm:t∈[22,5]:=by simpa using Array.mem_of_getElem? ht
    exact (show Tryz.prog.wantsStandIn t=false by simpa using List.all_eq_true.1 cdSAlertStates t hm)⟩)
  cdGAlertStates
end Go.Proofs.YtfkcohmipjhfcaaGreatDoor
