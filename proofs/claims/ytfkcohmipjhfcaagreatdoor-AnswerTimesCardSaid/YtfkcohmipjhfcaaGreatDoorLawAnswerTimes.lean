/- The statement AnswerTimesSaid, for every input. No conditions. -/
import Derived.Test.YtfkcohmipjhfcaaGreatDoorRowAnswerTimes
import Derived.Test.YtfkcohmipjhfcaaGreatDoorCdMain
import Derived.Test.YtfkcohmipjhfcaaGreatDoorCdLook
import Derived.Test.YtfkcohmipjhfcaaGreatDoorCdWAnswerTimes
import Derived.Test.YtfkcohmipjhfcaaGreatDoorCdGAnswerTimes
import Derived.Test.YtfkcohmipjhfcaaGreatDoorCdNAnswerTimes
set_option linter.unusedVariables false
set_option linter.unusedSimpArgs false
set_option linter.unusedSectionVars false
namespace Go.Proofs.YtfkcohmipjhfcaaGreatDoor
open Go.ChangeShapes Go.WideShapes Go.ChangeAt Go.RowKit Go.Sl
set_option maxRecDepth 100000
theorem answerTimesCard_holds : Rows.AnswerTimesCardSaid :=
 Claim7.holds_tied_plain_at .later [] [.data] true (true, "467fa26bfbaedd767c6340f682ae5caf2c065e57be24a9d96a5d52f4bc1287bb") false
  answerTimes_holds (fun _ h => by cases h) cdWAnswerTimes (fun _ h => by cases h) answerTimes_row_tie rfl ⟨rfl, rfl⟩ cdMain rfl
  (fun f fn hf hfn => by
   obtain rfl : f = 11 := Option.some.inj (cdNAnswerTimes.symm.trans hf) |>.symm
   obtain rfl : fn = Tryz.f11 := (Option.some.inj (Tryz.func11.symm.trans hfn)).symm
   exact ⟨cdLook, fun j t ht => by
    rw [Tryz.params11] at ht
    have hm : t ∈ [22, 5] := by simpa using Array.mem_of_getElem? ht
    exact (show Tryz.prog.wantsStandIn t = false by simpa using List.all_eq_true.1 cdSAnswerTimes t hm)⟩)
  cdGAnswerTimes
end Go.Proofs.YtfkcohmipjhfcaaGreatDoor
