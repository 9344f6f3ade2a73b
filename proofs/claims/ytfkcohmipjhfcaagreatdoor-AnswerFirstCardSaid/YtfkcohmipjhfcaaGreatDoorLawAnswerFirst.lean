/- The statement AnswerFirstSaid, for every input. No conditions. -/
import Derived.Test.YtfkcohmipjhfcaaGreatDoorRowAnswerFirst
import Derived.Test.YtfkcohmipjhfcaaGreatDoorCdMain
import Derived.Test.YtfkcohmipjhfcaaGreatDoorCdLook
import Derived.Test.YtfkcohmipjhfcaaGreatDoorCdWAnswerFirst
import Derived.Test.YtfkcohmipjhfcaaGreatDoorCdGAnswerFirst
import Derived.Test.YtfkcohmipjhfcaaGreatDoorCdNAnswerFirst
set_option linter.unusedVariables false
set_option linter.unusedSimpArgs false
set_option linter.unusedSectionVars false
namespace Go.Proofs.YtfkcohmipjhfcaaGreatDoor
open Go.ChangeShapes Go.WideShapes Go.ChangeAt Go.RowKit Go.Sl
set_option maxRecDepth 100000
theorem answerFirstCard_holds:Rows.AnswerFirstCardSaid:=
 Claim7.holds_tied_plain_at .later [] [.data] true (true, "467fa26bfbaedd767c6340f682ae5caf2c065e57be24a9d96a5d52f4bc1287bb") false
  answerFirst_holds (fun _ h=>by cases h) cdWAnswerFirst (fun _ h=>by cases h) answerFirst_row_tie rfl ⟨rfl,rfl⟩ cdMain rfl
  (fun f fn hf hfn=>by
   obtain rfl:f=10:=Option.some.inj (cdNAnswerFirst.symm.trans hf) |>.symm
   obtain rfl:fn=Tryz.f10:=(Option.some.inj (Tryz.func10.symm.trans hfn)).symm
   exact ⟨cdLook,fun j t ht=>by
    rw [Tryz.params10] at ht
    have hm:t∈[22]:=by simpa using Array.mem_of_getElem? ht
    exact (show Tryz.prog.wantsStandIn t=false by simpa using List.all_eq_true.1 cdSAnswerFirst t hm)⟩)
  cdGAnswerFirst
end Go.Proofs.YtfkcohmipjhfcaaGreatDoor
