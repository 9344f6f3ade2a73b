/- A part of the proofs of statements of this seat: contracts of functions, and the plain laws that they lean on. No conditions. -/
import Derived.Test.YtbimaodbcjjbfaaRows
import Derived.JoinedOf
namespace Go.Proofs.Ytbimaodbcjjbfaa
theorem fact2 : (laidOutB Try.prog) = true := by kernel_rfl
theorem fact3 : (mapsRowed Try.prog) = true := by kernel_rfl
theorem fact23 : ((Rows.flowProvesRow.plainKeys == Try.prog.plainKeys)) = true := by kernel_rfl
theorem fact25 : (Try.prog.stopsHeard) = true := by kernel_rfl
end Go.Proofs.Ytbimaodbcjjbfaa
