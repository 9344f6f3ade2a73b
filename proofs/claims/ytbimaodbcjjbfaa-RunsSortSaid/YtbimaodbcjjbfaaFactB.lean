/- A part of the proofs of statements of this seat: contracts of functions, and the plain laws that they lean on. No conditions. -/
import Derived.Test.YtbimaodbcjjbfaaRows
import Derived.JoinedOf
namespace Go.Proofs.Ytbimaodbcjjbfaa
theorem fact26 : (Try.prog.mayEnter) = true := by kernel_rfl
end Go.Proofs.Ytbimaodbcjjbfaa
