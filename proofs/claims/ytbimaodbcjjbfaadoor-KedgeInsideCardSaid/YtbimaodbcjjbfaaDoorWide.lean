/- A part of the proofs of statements of this seat: contracts of functions, and the plain laws that they lean on. No conditions. -/
import Derived.Test.YtbimaodbcjjbfaaDoorGraphH5
import Derived.Test.YtbimaodbcjjbfaaDoorRunsD5
/- Numbers of 128 bits whose upper half is nothing; division bit by bit. No conditions. -/
namespace Go.Sl
set_option linter.unusedVariables false
set_option linter.unusedSimpArgs false
/-- A number of 128 bits. -/
structure Wd where
  hi : Int
  lo : Int
deriving DecidableEq
instance : Inhabited Wd := ⟨⟨0, 0⟩⟩
instance : Enc Wd := ⟨fun r => [.int .u64 r.hi, .int .u64 r.lo], 2, by omega, fun _ => rfl, fun r u hu => by
  simp only [List.mem_cons, List.not_mem_nil, or_false] at hu
  rcases hu with rfl | rfl <;> rfl⟩
section
variable {P : Program}
end
section
variable {P : Program} {κ : Ctx} {N : Nat} {L : Env} {J : List Item} {d : Option Tmp} {ty : TypeId} {ps : String} {af : Array Edge} {gd : Option (Nat × Bool)} {x y : Operand} {T U : TypeId} {k' : IntKind}
end
/-! Division, a bit at a time. -/
end Go.Sl
