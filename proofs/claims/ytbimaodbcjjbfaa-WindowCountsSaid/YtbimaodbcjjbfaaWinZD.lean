/- A part of the proofs of statements of this seat: contracts of functions, and the plain laws that they lean on. No conditions. -/
import Derived.Test.YtbimaodbcjjbfaaWinH6
import Derived.Test.YtbimaodbcjjbfaaWinE6
import Derived.Test.YtbimaodbcjjbfaaWinF6
import Derived.Test.YtbimaodbcjjbfaaWinC5
namespace Go.Sl
open Go.Proofs
set_option linter.unusedVariables false
set_option linter.unusedSimpArgs false
set_option maxRecDepth 4000
theorem slideE_zero {nd kd wd mo : Int} {es : List Ev} (h : StOk nd es) (hw : checkW kd wd mo = 0) : slideE nd kd wd mo es = 0 := by unfold slideE; rw [if_neg (by simp [hw])]; exact h.zero
theorem Slide_yes {κ : Ctx} {I : List Item} {nd kd wd mo : Int} {va : Value} {es : List Ev} (hl : Sl κ I va es) (hz : slideE nd kd wd mo es = 0) :
    CallS Try.prog κ 85 [I64 nd, va, .agg #[I64 kd, I64 wd, I64 mo]] I fun r J => ∃ a c, r = .tuple #[.slice a (slideS kd wd mo es).2.length c, I64 0] ∧ J = vc 122 (.slice a (slideS kd wd mo es).2.length c) (slideS kd wd mo es).2 :: I :=
  (Slide_ok hl).mono fun r J h => by
    rcases h with ⟨h1, _⟩ | ⟨a, c, _, h2, h3⟩
    · exact absurd hz h1
    · exact ⟨a, c, h2, h3⟩
theorem Present_yes {κ : Ctx} {I : List Item} {nd kd wd mo nw : Int} {a0 : Option Addr} {c0 : Nat} {xs : List Lk} (hl : Sl κ I (.slice a0 xs.length c0) xs) (hsz : xs.length ≤ 1000000) (hz : askE nd xs kd wd mo nw = 0) :
    CallS Try.prog κ 53 [.agg #[I64 (nd), .slice a0 xs.length c0], .agg #[I64 (kd), I64 (wd), I64 (mo)], I64 (nw)] I fun r J => ∃ a c, r = .tuple #[.agg #[I64 nd, .slice a (xs.filter (inW kd wd mo nw xs)).length c], I64 0] ∧ J = vc 158 (.slice a (xs.filter (inW kd wd mo nw xs)).length c) (xs.filter (inW kd wd mo nw xs)) :: I :=
  (PresentP_ok hl hsz).mono fun r J h => by
    rcases h with ⟨h1, _⟩ | ⟨a, c, _, h2, h3⟩
    · exact absurd hz h1
    · exact ⟨a, c, h2, h3⟩
theorem ckw3 {mo : Int} (h : 0 ≤ mo ∧ mo ≤ 2016) : checkW 3 0 mo = 0 := by unfold checkW; rw [if_neg (by omega), if_neg (by omega)]

end Go.Sl
