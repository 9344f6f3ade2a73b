/- A part of the proofs of statements of this seat: contracts of functions, and the plain laws that they lean on. No conditions. -/
import Derived.Test.YtbimaodbcjjbfaaDoorRunsY
namespace Go.Sl
open Go.Proofs
set_option linter.unusedVariables false
set_option linter.unusedSimpArgs false
set_option maxRecDepth 4000

end Go.Sl
namespace Go.Sl
open Go.Proofs
set_option linter.unusedVariables false
set_option linter.unusedSimpArgs false
set_option maxRecDepth 4000
end Go.Sl
namespace Go.Sl
open Go.Proofs
set_option linter.unusedVariables false
set_option linter.unusedSimpArgs false
set_option maxRecDepth 4000
structure MadeRun (most n : Int) (l : List Pt) : Prop where
  ok : RunOk n l
  size : n ≤ 6
  len : l.length ≤ 1000
  node : ∀ p ∈ l, (p.u < most ∨ p.u < 7) ∧ (p.v < most ∨ p.v < 7)
theorem MadeRun.graph {nd most n : Int} {es : List Pt} (hG : GrOk nd es) (hn : nd ≤ most) (hl : es.length ≤ 400) (h : 1 ≤ n ∧ n ≤ 6) : MadeRun most n (both es) :=
  ⟨hG.both (by omega), h.2, by have := both_len es; omega, fun p hp => by have := hG.mem_both hp; omega⟩
end Go.Sl
