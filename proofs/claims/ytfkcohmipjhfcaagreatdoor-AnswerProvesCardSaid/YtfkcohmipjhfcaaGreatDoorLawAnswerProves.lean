/- The statement AnswerProvesSaid, for every input. No conditions. -/
import Derived.Test.YtfkcohmipjhfcaaGreatDoorRowAnswerProves
import Derived.Test.YtfkcohmipjhfcaaGreatDoorCdMain
import Derived.Test.YtfkcohmipjhfcaaGreatDoorCdLook
import Derived.Test.YtfkcohmipjhfcaaGreatDoorCdWAnswerProves
import Derived.Test.YtfkcohmipjhfcaaGreatDoorCdGAnswerProves
import Derived.Test.YtfkcohmipjhfcaaGreatDoorCdNAnswerProves
set_option linter.unusedVariables false
set_option linter.unusedSimpArgs false
set_option linter.unusedSectionVars false
namespace Go.Proofs.YtfkcohmipjhfcaaGreatDoor
open Go.ChangeShapes Go.WideShapes Go.ChangeAt Go.RowKit Go.Sl
set_option maxRecDepth 100000
theorem answerProvesCard_holds:Rows.AnswerProvesCardSaid:=
 Claim7.holds_tied_plain_at .later [] [.data] true (true, "467fa26bfbaedd767c6340f682ae5caf2c065e57be24a9d96a5d52f4bc1287bb") false
  answerProves_holds (λ_ h=>by cases h) cdWAnswerProves (λ_ h=>by cases h) answerProves_row_tie rfl ⟨rfl,rfl⟩ cdMain rfl
  (λf fn hf hfn=>by
   obtain rfl:f=9:=Option.some.inj (cdNAnswerProves.symm.trans hf) |>.symm
   obtain rfl:fn=Tryz.f9:=(Option.some.inj (Tryz.func9.symm.trans hfn)).symm
   exact ⟨cdLook,λj t ht=>by
    rw [Tryz.params9] at ht
    have hm:t∈[22]:=by simpa using Array.mem_of_getElem? ht
    exact (show Tryz.prog.wantsStandIn t=false by simpa using List.all_eq_true.1 cdSAnswerProves t hm)⟩)
  cdGAnswerProves
end Go.Proofs.YtfkcohmipjhfcaaGreatDoor
