/- A part of the proofs of statements of this seat: contracts of functions, and the plain laws that they lean on. No conditions. -/
import Derived.Test.YtbimaodbcjjbfaaGreatDoorRunsV4
/- Returning a number, a record from a cell, and a number. No conditions. -/
namespace Go.Sl
variable {P : Program} {κ : Ctx} {N : Nat} {L : Env} {I : List Item}
end Go.Sl
