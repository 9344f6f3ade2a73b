/- A part of the proofs of statements of this seat: contracts of functions, and the plain laws that they lean on. No conditions. -/
import Derived.Test.YtbimaodbcjjbfaaGreatDoorGraphL5
import Derived.Test.YtbimaodbcjjbfaaGreatDoorRunsY
namespace Go.Sl
open Go.Proofs
set_option linter.unusedVariables false
set_option linter.unusedSimpArgs false
set_option maxRecDepth 4000
end Go.Sl
namespace Go.Sl
open Go.Proofs
set_option linter.unusedVariables false
set_option linter.unusedSimpArgs false
set_option maxRecDepth 4000
section
variable {P : Program} {κ : Ctx} {N : Nat} {L : Env} {I J : List Item} {d : Option Tmp} {ty : TypeId} {ps : String} {af : Array Edge} {gd : Option (Nat × Bool)}
theorem vc.isSome {α : Type} [Enc α] {xs : List α} {e : TypeId} {ad : Option Addr} {n c : Nat} (h : vc e (.slice ad n c) xs ∈ I) : ∀ w, Sep κ w I → (0 < xs.length → ad ≠ none) := fun w hs hlt => by
  obtain ⟨b, o, cap, h0, _⟩ := ((Sl.vec (κ := κ) h) w hs).some hlt
  cases h0
  exact fun hh => by cases hh
/-- The address of an element; what lies there is not looked at. -/
theorem Runs.idxs (α : Type) [Enc α] {x y : Operand} {T E by' n c : Nat} {ag : Bool} {z : List Value} {ad : Option Addr} {i : Int} (ht : P.underlying T = some (.slice E)) (hE : tyF P E = some (Enc.sz α, ag, by', z)) (hx : evalO L x = some (.slice ad n c))
    (hy : evalO L y = some (I64 i)) (ha : ad ≠ none) (h0 : 0 ≤ i) (hn : i < n) : Runs P κ N ⟨d, .indexAddr T x y, ty, ps, af, gd⟩ L J (elemPtr (.slice ad n c) (i.toNat * Enc.sz α)) := by
  cases ad with
  | none => exact absurd rfl ha
  | some ad => exact fun a w ha hs => by simp [execOp, ha.eval hx, ha.eval hy, Instr.indexAt, asIntOf, run_underlying ht, h0, hn, run_sizeOf hE, elemPtr]
end

end Go.Sl
namespace Go.Sl
open Go.Proofs
set_option linter.unusedVariables false
set_option linter.unusedSimpArgs false
set_option maxRecDepth 4000

end Go.Sl
namespace Go.Sl
open Go.Proofs
set_option linter.unusedVariables false
set_option linter.unusedSimpArgs false
set_option maxRecDepth 4000

end Go.Sl
