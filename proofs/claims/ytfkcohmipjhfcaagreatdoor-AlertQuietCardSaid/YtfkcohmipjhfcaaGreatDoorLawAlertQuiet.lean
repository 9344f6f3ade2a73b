/- The statement AlertQuietSaid, for every input. No conditions. -/
import Derived.Test.YtfkcohmipjhfcaaGreatDoorRowAlertQuiet
import Derived.Test.YtfkcohmipjhfcaaGreatDoorCdMain
import Derived.Test.YtfkcohmipjhfcaaGreatDoorCdLook
import Derived.Test.YtfkcohmipjhfcaaGreatDoorCdWAlertQuiet
import Derived.Test.YtfkcohmipjhfcaaGreatDoorCdGAlertQuiet
import Derived.Test.YtfkcohmipjhfcaaGreatDoorCdNAlertQuiet
set_option linter.unusedVariables false
set_option linter.unusedSimpArgs false
set_option linter.unusedSectionVars false
namespace Go.Proofs.YtfkcohmipjhfcaaGreatDoor
open Go.ChangeShapes Go.WideShapes Go.ChangeAt Go.RowKit Go.Sl
set_option maxRecDepth 100000
theorem alertQuietCard_holds : Rows.AlertQuietCardSaid :=
 Claim7.holds_tied_plain_at .later [] [.data] true (true, "467fa26bfbaedd767c6340f682ae5caf2c065e57be24a9d96a5d52f4bc1287bb") false
  alertQuiet_holds (fun _ h => by cases h) cdWAlertQuiet (fun _ h => by cases h) alertQuiet_row_tie rfl ⟨rfl, rfl⟩ cdMain rfl
  (fun f fn hf hfn => by
   obtain rfl : f = 4 := Option.some.inj (cdNAlertQuiet.symm.trans hf) |>.symm
   obtain rfl : fn = Tryz.f4 := (Option.some.inj (Tryz.func4.symm.trans hfn)).symm
   exact ⟨cdLook, fun j t ht => by
    rw [Tryz.params4] at ht
    have hm : t ∈ [22] := by simpa using Array.mem_of_getElem? ht
    exact (show Tryz.prog.wantsStandIn t = false by simpa using List.all_eq_true.1 cdSAlertQuiet t hm)⟩)
  cdGAlertQuiet
end Go.Proofs.YtfkcohmipjhfcaaGreatDoor
