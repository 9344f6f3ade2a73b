/- A part of the proofs of statements of this seat: contracts of functions, and the plain laws that they lean on. No conditions. -/
import Derived.Test.YtbimaodbcjjbfaaDoorTab
/- The library's way to count bits is right. The plain law. No Go. No conditions. -/
namespace Go.Sl
set_option linter.unusedVariables false
set_option linter.unusedSectionVars false
def p1 (b : Nat) : Nat := ((b / 2) &&& 85) + (b &&& 85)
def p2 (b : Nat) : Nat := ((b / 4) &&& 51) + (b &&& 51)
def p3 (b : Nat) : Nat := (b / 16 + b) % 16
theorem c1 : ∀ t : Fin 2, ∀ x : Fin 128, (128 * t.val + x.val) &&& 85 = x.val &&& 85 := by decide +kernel
theorem c2 : ∀ t : Fin 4, ∀ x : Fin 64, (64 * t.val + x.val) &&& 51 = x.val &&& 51 := by decide +kernel
theorem b1 : ∀ b : Fin 256, p1 b.val < 256 ∧ p2 (p1 b.val) % 16 ≤ 4 ∧ p2 (p1 b.val) / 16 ≤ 4 ∧ p3 (p2 (p1 b.val)) ≤ 8 ∧ p3 (p2 (p1 b.val)) = ((List.range 8).filter fun j => b.val.testBit j).length := by decide +kernel
end Go.Sl
