/- A part of the proofs of statements of this seat: contracts of functions, and the plain laws that they lean on. No conditions. -/
import Derived.Test.YtbimaodbcjjbfaaGreatDoorRows
import Derived.JoinedOf
namespace Go.Proofs.YtbimaodbcjjbfaaGreatDoor
theorem fact2 : (laidOutB Tryz.prog) = true := by kernel_rfl
theorem fact3 : (mapsRowed Tryz.prog) = true := by kernel_rfl
theorem fact23 : ((Rows.graphLooksRow.plainKeys == Tryz.prog.plainKeys)) = true := by kernel_rfl
theorem fact25 : (Tryz.prog.stopsHeard) = true := by kernel_rfl
end Go.Proofs.YtbimaodbcjjbfaaGreatDoor
