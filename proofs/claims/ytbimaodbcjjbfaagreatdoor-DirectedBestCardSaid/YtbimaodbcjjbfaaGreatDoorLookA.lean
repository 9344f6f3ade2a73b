/- A part of the proofs of statements of this seat: contracts of functions, and the plain laws that they lean on. No conditions. -/
import Derived.Test.YtbimaodbcjjbfaaGreatDoorMaskB
import Derived.Test.YtbimaodbcjjbfaaGreatDoorGraphL5
import Derived.Test.YtbimaodbcjjbfaaGreatDoorGraphM5
import Derived.Test.YtbimaodbcjjbfaaGreatDoorGraphK5
import Derived.Test.YtbimaodbcjjbfaaGreatDoorRefFrac
import Derived.Test.YtbimaodbcjjbfaaGreatDoorSets
namespace Go.Sl
open Go.Proofs
set_option linter.unusedVariables false
set_option linter.unusedSimpArgs false
set_option maxRecDepth 4000
theorem all_tab : ∀ n : Fin 65, ∀ i : Fin 64, (allB (n.val : Int)).getLsbD i.val = decide (i.val < n.val) := by decide +kernel
theorem getLsb_allB {n : Int} (h0 : 0 ≤ n) (h1 : n ≤ 64) {i : Nat} (hi : i < 64) : (allB n).getLsbD i = decide ((i : Int) < n) := by
  have := all_tab ⟨n.toNat, by omega⟩ ⟨i, hi⟩
  simp only [show ((n.toNat : Nat) : Int) = n by omega] at this
  rw [this, decide_eq_decide]; omega
end Go.Sl
