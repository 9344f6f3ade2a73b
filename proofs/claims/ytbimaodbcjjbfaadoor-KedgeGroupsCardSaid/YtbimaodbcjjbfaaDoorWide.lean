/- A part of the proofs of statements of this seat: contracts of functions, and the plain laws that they lean on. No conditions. -/
import Derived.Test.YtbimaodbcjjbfaaDoorGraphH5
import Derived.Test.YtbimaodbcjjbfaaDoorRunsD5
/- Numbers of 128 bits whose upper half is nothing; division bit by bit. No conditions. -/
namespace Go.Sl
set_option linter.unusedVariables false
set_option linter.unusedSimpArgs false
section
variable {P : Program}
end
section
variable {P : Program} {κ : Ctx} {N : Nat} {L : Env} {J : List Item} {d : Option Tmp} {ty : TypeId} {ps : String} {af : Array Edge} {gd : Option (Nat × Bool)} {x y : Operand} {T U : TypeId} {k' : IntKind}
end
/-! Division, a bit at a time. -/
end Go.Sl
