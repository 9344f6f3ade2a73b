/- The statement AnswerTogetherSaid, for every input. No conditions. -/
import Derived.Test.YtfkcohmipjhfcaaGreatDoorRowAnswerTogether
import Derived.Test.YtfkcohmipjhfcaaGreatDoorCdMain
import Derived.Test.YtfkcohmipjhfcaaGreatDoorCdLook
import Derived.Test.YtfkcohmipjhfcaaGreatDoorCdWAnswerTogether
import Derived.Test.YtfkcohmipjhfcaaGreatDoorCdGAnswerTogether
import Derived.Test.YtfkcohmipjhfcaaGreatDoorCdNAnswerTogether
set_option linter.unusedVariables false
set_option linter.unusedSimpArgs false
set_option linter.unusedSectionVars false
namespace Go.Proofs.YtfkcohmipjhfcaaGreatDoor
open Go.ChangeShapes Go.WideShapes Go.ChangeAt Go.RowKit Go.Sl
set_option maxRecDepth 100000
theorem answerTogetherCard_holds:Rows.AnswerTogetherCardSaid:=
 Claim7.holds_tied_plain_at .later [] [.data] true (true, "467fa26bfbaedd767c6340f682ae5caf2c065e57be24a9d96a5d52f4bc1287bb") false
  answerTogether_holds (fun _ h=>by cases h) cdWAnswerTogether (fun _ h=>by cases h) answerTogether_row_tie rfl ⟨rfl,rfl⟩ cdMain rfl
  (fun f fn hf hfn=>by
   obtain rfl:f=14:=Option.some.inj (cdNAnswerTogether.symm.trans hf) |>.symm
   obtain rfl:fn=Tryz.f14:=(Option.some.inj (Tryz.func14.symm.trans hfn)).symm
   exact ⟨cdLook,fun j t ht=>by
    rw [Tryz.params14] at ht
    have hm:t∈[22,5]:=by simpa using Array.mem_of_getElem? ht
    exact (show Tryz.prog.wantsStandIn t=false by simpa using List.all_eq_true.1 cdSAnswerTogether t hm)⟩)
  cdGAnswerTogether
end Go.Proofs.YtfkcohmipjhfcaaGreatDoor
