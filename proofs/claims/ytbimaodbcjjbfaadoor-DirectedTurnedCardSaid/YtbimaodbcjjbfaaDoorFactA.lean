/- A part of the proofs of statements of this seat: contracts of functions, and the plain laws that they lean on. No conditions. -/
import Derived.Test.YtbimaodbcjjbfaaDoorRows
import Derived.JoinedOf
namespace Go.Proofs.YtbimaodbcjjbfaaDoor
theorem fact2 : (laidOutB Tryd.prog) = true := by kernel_rfl
theorem fact3 : (mapsRowed Tryd.prog) = true := by kernel_rfl
theorem fact23 : ((Rows.connectReachRow.plainKeys == Tryd.prog.plainKeys)) = true := by kernel_rfl
theorem fact25 : (Tryd.prog.stopsHeard) = true := by kernel_rfl
end Go.Proofs.YtbimaodbcjjbfaaDoor
