/- A part of the proofs of statements of this seat: contracts of functions, and the plain laws that they lean on. No conditions. -/
import Derived.Test.YtbimaodbcjjbfaaDoorConn8
import Derived.Test.YtbimaodbcjjbfaaDoorConn9
import Derived.Test.YtbimaodbcjjbfaaDoorGraphH5
import Derived.Test.YtbimaodbcjjbfaaDoorGraphK5
import Derived.Test.YtbimaodbcjjbfaaDoorGraphM5
namespace Go.Sl
open Go.Proofs
set_option linter.unusedVariables false
set_option linter.unusedSimpArgs false
set_option maxRecDepth 4000
theorem rangeI_asc (nd : Int) : (rangeI nd).Pairwise (fun a b : Int => a < b) := by unfold rangeI; rw [List.pairwise_map]; exact List.pairwise_lt_range.imp fun h => by omega
end Go.Sl
