/- A part of the proofs of statements of this seat: contracts of functions, and the plain laws that they lean on. No conditions. -/
import Derived.Test.YtbimaodbcjjbfaaDoorRows
import Derived.JoinedOf
namespace Go.Proofs.YtbimaodbcjjbfaaDoor
theorem fact28 : ((Tryd.prog.make == some Rows.connectReachRow.make)) = true := by kernel_rfl
end Go.Proofs.YtbimaodbcjjbfaaDoor
