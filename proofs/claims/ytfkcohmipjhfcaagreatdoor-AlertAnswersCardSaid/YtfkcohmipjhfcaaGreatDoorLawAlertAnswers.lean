/- The statement AlertAnswersSaid, for every input. No conditions. -/
import Derived.Test.YtfkcohmipjhfcaaGreatDoorRowAlertAnswers
import Derived.Test.YtfkcohmipjhfcaaGreatDoorCdMain
import Derived.Test.YtfkcohmipjhfcaaGreatDoorCdLook
import Derived.Test.YtfkcohmipjhfcaaGreatDoorCdWAlertAnswers
import Derived.Test.YtfkcohmipjhfcaaGreatDoorCdGAlertAnswers
import Derived.Test.YtfkcohmipjhfcaaGreatDoorCdNAlertAnswers
set_option linter.unusedVariables false
set_option linter.unusedSimpArgs false
set_option linter.unusedSectionVars false
namespace Go.Proofs.YtfkcohmipjhfcaaGreatDoor
open Go.ChangeShapes Go.WideShapes Go.ChangeAt Go.RowKit Go.Sl
set_option maxRecDepth 100000
theorem alertAnswersCard_holds:Rows.AlertAnswersCardSaid:=
 Claim7.holds_tied_plain_at .later [] [.data] true (true, "467fa26bfbaedd767c6340f682ae5caf2c065e57be24a9d96a5d52f4bc1287bb") false
  alertAnswers_holds (λ_ h=>by cases h) cdWAlertAnswers (λ_ h=>by cases h) alertAnswers_row_tie rfl ⟨rfl,rfl⟩ cdMain rfl
  (λf fn hf hfn=>by
   obtain rfl:f=6:=Option.some.inj (cdNAlertAnswers.symm.trans hf) |>.symm
   obtain rfl:fn=Tryz.f6:=(Option.some.inj<|Tryz.func6.symm.trans hfn).symm
   exact ⟨cdLook,λj t ht=>by
    rw [Tryz.params6] at ht
    have hm:t∈[22,33,28,31,35,3,3]:=by simpa using Array.mem_of_getElem? ht
    exact (show Tryz.prog.wantsStandIn t=false by simpa using List.all_eq_true.1 cdSAlertAnswers t hm)⟩)
  cdGAlertAnswers
end Go.Proofs.YtfkcohmipjhfcaaGreatDoor
