/- A part of the proofs of statements of this seat: contracts of functions, and the plain laws that they lean on. No conditions. -/
import Derived.Test.YtbimaodbcjjbfaaGreatDoorRows
import Derived.JoinedOf
namespace Go.Proofs.YtbimaodbcjjbfaaGreatDoor
theorem fact28 : ((Tryz.prog.make == some Rows.graphLooksRow.make)) = true := by kernel_rfl
end Go.Proofs.YtbimaodbcjjbfaaGreatDoor
