/- The statement AlertLevelsSaid, for every input. No conditions. -/
import Derived.Test.YtfkcohmipjhfcaaGreatDoorRowAlertLevels
import Derived.Test.YtfkcohmipjhfcaaGreatDoorCdMain
import Derived.Test.YtfkcohmipjhfcaaGreatDoorCdLook
import Derived.Test.YtfkcohmipjhfcaaGreatDoorCdWAlertLevels
import Derived.Test.YtfkcohmipjhfcaaGreatDoorCdGAlertLevels
import Derived.Test.YtfkcohmipjhfcaaGreatDoorCdNAlertLevels
set_option linter.unusedVariables false
set_option linter.unusedSimpArgs false
set_option linter.unusedSectionVars false
namespace Go.Proofs.YtfkcohmipjhfcaaGreatDoor
open Go.ChangeShapes Go.WideShapes Go.ChangeAt Go.RowKit Go.Sl
set_option maxRecDepth 100000
theorem alertLevelsCard_holds : Rows.AlertLevelsCardSaid :=
 Claim7.holds_tied_plain_at .later [] [.data] true (true, "467fa26bfbaedd767c6340f682ae5caf2c065e57be24a9d96a5d52f4bc1287bb") false
  alertLevels_holds (fun _ h => by cases h) cdWAlertLevels (fun _ h => by cases h) alertLevels_row_tie rfl ⟨rfl, rfl⟩ cdMain rfl
  (fun f fn hf hfn => by
   obtain rfl : f = 5 := Option.some.inj (cdNAlertLevels.symm.trans hf) |>.symm
   obtain rfl : fn = Tryz.f5 := (Option.some.inj (Tryz.func5.symm.trans hfn)).symm
   exact ⟨cdLook, fun j t ht => by
    rw [Tryz.params5] at ht
    have hm : t ∈ [22, 5] := by simpa using Array.mem_of_getElem? ht
    exact (show Tryz.prog.wantsStandIn t = false by simpa using List.all_eq_true.1 cdSAlertLevels t hm)⟩)
  cdGAlertLevels
end Go.Proofs.YtfkcohmipjhfcaaGreatDoor
