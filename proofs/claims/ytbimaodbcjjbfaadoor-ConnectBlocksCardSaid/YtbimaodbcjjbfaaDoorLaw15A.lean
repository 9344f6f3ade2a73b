/- A part of the proofs of statements of this seat: contracts of functions, and the plain laws that they lean on. No conditions. -/
import Derived.Test.YtbimaodbcjjbfaaDoorConnE
import Derived.Test.YtbimaodbcjjbfaaDoorReachB
import Derived.Test.YtbimaodbcjjbfaaDoorGraphH5
import Derived.Test.YtbimaodbcjjbfaaDoorGraphK5
import Derived.Test.YtbimaodbcjjbfaaDoorGraphM5
namespace Go.Sl
open Go.Proofs
set_option linter.unusedVariables false
set_option linter.unusedSimpArgs false
set_option maxRecDepth 4000
theorem flat_take_le {α : Type} {L : List (List α)} {k : Nat} (h : k < L.length) : (L.take k).flatten.length + (at_ L (k : Int)).length ≤ L.flatten.length := by
  have e1 : L.flatten = (L.take (k + 1)).flatten ++ (L.drop (k + 1)).flatten := by rw [← List.flatten_append, List.take_append_drop]
  rw [e1, take_at L k h, List.flatten_append, List.length_append, List.length_append]
  simp
theorem flatL_take {α : Type} {L : List (List α)} {k : Nat} (h : k < L.length) : (L.take (k + 1)).flatten = (L.take k).flatten ++ at_ L (k : Int) := by
  rw [take_at L k h, List.flatten_append]; simp

end Go.Sl
