/- A part of the proofs of statements of this seat: contracts of functions, and the plain laws that they lean on. No conditions. -/
import Derived.Test.YtbimaodbcjjbfaaWinH6
import Derived.Test.YtbimaodbcjjbfaaWinE6
import Derived.Test.YtbimaodbcjjbfaaWinF6
import Derived.Test.YtbimaodbcjjbfaaWinC5
namespace Go.Sl
open Go.Proofs
set_option linter.unusedVariables false
set_option linter.unusedSimpArgs false
set_option maxRecDepth 4000
theorem slideE_zero {nd kd wd mo : Int} {es : List Ev} (h : StOk nd es) (hw : checkW kd wd mo = 0) : slideE nd kd wd mo es = 0 := by unfold slideE; rw [if_neg (by simp [hw])]; exact h.zero
theorem Slide_yes {κ : Ctx} {I : List Item} {nd kd wd mo : Int} {va : Value} {es : List Ev} (hl : Sl κ I va es) (hz : slideE nd kd wd mo es = 0) :
    CallS Try.prog κ 85 [I64 nd, va, .agg #[I64 kd, I64 wd, I64 mo]] I fun r J => ∃ a c, r = .tuple #[.slice a (slideS kd wd mo es).2.length c, I64 0] ∧ J = vc 122 (.slice a (slideS kd wd mo es).2.length c) (slideS kd wd mo es).2 :: I :=
  (Slide_ok hl).mono fun r J h => by
    rcases h with ⟨h1, _⟩ | ⟨a, c, _, h2, h3⟩
    · exact absurd hz h1
    · exact ⟨a, c, h2, h3⟩
theorem ckw1 : checkW 1 0 0 = 0 := by decide
theorem ckw2w : checkW 2 1000 0 = 0 := by decide
theorem ckw3m : checkW 3 0 100 = 0 := by decide
end Go.Sl
