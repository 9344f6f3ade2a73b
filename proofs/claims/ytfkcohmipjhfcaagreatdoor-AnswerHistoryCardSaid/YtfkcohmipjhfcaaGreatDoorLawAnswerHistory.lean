/- The statement AnswerHistorySaid, for every input. No conditions. -/
import Derived.Test.YtfkcohmipjhfcaaGreatDoorRowAnswerHistory
import Derived.Test.YtfkcohmipjhfcaaGreatDoorCdMain
import Derived.Test.YtfkcohmipjhfcaaGreatDoorCdLook
import Derived.Test.YtfkcohmipjhfcaaGreatDoorCdWAnswerHistory
import Derived.Test.YtfkcohmipjhfcaaGreatDoorCdGAnswerHistory
import Derived.Test.YtfkcohmipjhfcaaGreatDoorCdNAnswerHistory
set_option linter.unusedVariables false
set_option linter.unusedSimpArgs false
set_option linter.unusedSectionVars false
namespace Go.Proofs.YtfkcohmipjhfcaaGreatDoor
open Go.ChangeShapes Go.WideShapes Go.ChangeAt Go.RowKit Go.Sl
set_option maxRecDepth 100000
theorem answerHistoryCard_holds:Rows.AnswerHistoryCardSaid:=
 Claim7.holds_tied_plain_at .later [] [.data] true (true, "467fa26bfbaedd767c6340f682ae5caf2c065e57be24a9d96a5d52f4bc1287bb") false
  answerHistory_holds (fun _ h=>by cases h) cdWAnswerHistory (fun _ h=>by cases h) answerHistory_row_tie rfl ⟨rfl,rfl⟩ cdMain rfl
  (fun f fn hf hfn=>by
   obtain rfl:f=12:=Option.some.inj (cdNAnswerHistory.symm.trans hf) |>.symm
   obtain rfl:fn=Tryz.f12:=(Option.some.inj (Tryz.func12.symm.trans hfn)).symm
   exact ⟨cdLook,fun j t ht=>by
    rw [Tryz.params12] at ht
    have hm:t∈[22,5]:=by simpa using Array.mem_of_getElem? ht
    exact (show Tryz.prog.wantsStandIn t=false by simpa using List.all_eq_true.1 cdSAnswerHistory t hm)⟩)
  cdGAnswerHistory
end Go.Proofs.YtfkcohmipjhfcaaGreatDoor
