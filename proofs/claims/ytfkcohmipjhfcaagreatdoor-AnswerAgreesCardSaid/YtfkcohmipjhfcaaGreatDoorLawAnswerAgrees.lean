/- The statement AnswerAgreesSaid, for every input. No conditions. -/
import Derived.Test.YtfkcohmipjhfcaaGreatDoorRowAnswerAgrees
import Derived.Test.YtfkcohmipjhfcaaGreatDoorCdMain
import Derived.Test.YtfkcohmipjhfcaaGreatDoorCdLook
import Derived.Test.YtfkcohmipjhfcaaGreatDoorCdWAnswerAgrees
import Derived.Test.YtfkcohmipjhfcaaGreatDoorCdGAnswerAgrees
import Derived.Test.YtfkcohmipjhfcaaGreatDoorCdNAnswerAgrees
set_option linter.unusedVariables false
set_option linter.unusedSimpArgs false
set_option linter.unusedSectionVars false
namespace Go.Proofs.YtfkcohmipjhfcaaGreatDoor
open Go.ChangeShapes Go.WideShapes Go.ChangeAt Go.RowKit Go.Sl
set_option maxRecDepth 100000
theorem answerAgreesCard_holds:Rows.AnswerAgreesCardSaid:=
 Claim7.holds_tied_plain_at .later [] [.data] true (true, "467fa26bfbaedd767c6340f682ae5caf2c065e57be24a9d96a5d52f4bc1287bb") false
  answerAgrees_holds (fun _ h=>by cases h) cdWAnswerAgrees (fun _ h=>by cases h) answerAgrees_row_tie rfl ⟨rfl,rfl⟩ cdMain rfl
  (fun f fn hf hfn=>by
   obtain rfl:f=13:=Option.some.inj (cdNAnswerAgrees.symm.trans hf) |>.symm
   obtain rfl:fn=Tryz.f13:=(Option.some.inj (Tryz.func13.symm.trans hfn)).symm
   exact ⟨cdLook,fun j t ht=>by
    rw [Tryz.params13] at ht
    have hm:t∈[22]:=by simpa using Array.mem_of_getElem? ht
    exact (show Tryz.prog.wantsStandIn t=false by simpa using List.all_eq_true.1 cdSAnswerAgrees t hm)⟩)
  cdGAnswerAgrees
end Go.Proofs.YtfkcohmipjhfcaaGreatDoor
