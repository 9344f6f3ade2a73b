/- The statement AnswerWindowsSaid, for every input. No conditions. -/
import Derived.Test.YtfkcohmipjhfcaaGreatDoorRowAnswerWindows
import Derived.Test.YtfkcohmipjhfcaaGreatDoorCdMain
import Derived.Test.YtfkcohmipjhfcaaGreatDoorCdLook
import Derived.Test.YtfkcohmipjhfcaaGreatDoorCdWAnswerWindows
import Derived.Test.YtfkcohmipjhfcaaGreatDoorCdGAnswerWindows
import Derived.Test.YtfkcohmipjhfcaaGreatDoorCdNAnswerWindows
set_option linter.unusedVariables false
set_option linter.unusedSimpArgs false
set_option linter.unusedSectionVars false
namespace Go.Proofs.YtfkcohmipjhfcaaGreatDoor
open Go.ChangeShapes Go.WideShapes Go.ChangeAt Go.RowKit Go.Sl
set_option maxRecDepth 100000
theorem answerWindowsCard_holds:Rows.AnswerWindowsCardSaid:=
 Claim7.holds_tied_plain_at .later [] [.data] true (true, "467fa26bfbaedd767c6340f682ae5caf2c065e57be24a9d96a5d52f4bc1287bb") false
  answerWindows_holds (λ_ h=>by cases h) cdWAnswerWindows (λ_ h=>by cases h) answerWindows_row_tie rfl ⟨rfl,rfl⟩ cdMain rfl
  (λf fn hf hfn=>by
   obtain rfl:f=15:=Option.some.inj (cdNAnswerWindows.symm.trans hf) |>.symm
   obtain rfl:fn=Tryz.f15:=(Option.some.inj (Tryz.func15.symm.trans hfn)).symm
   exact ⟨cdLook,λj t ht=>by
    rw [Tryz.params15] at ht
    have hm:t∈[22]:=by simpa using Array.mem_of_getElem? ht
    exact (show Tryz.prog.wantsStandIn t=false by simpa using List.all_eq_true.1 cdSAnswerWindows t hm)⟩)
  cdGAnswerWindows
end Go.Proofs.YtfkcohmipjhfcaaGreatDoor
