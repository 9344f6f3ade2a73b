/- A part of the proofs of statements of this seat: contracts of functions, and the plain laws that they lean on. No conditions. -/
import Derived.Test.YtbimaodbcjjbfaaWinD6
import Derived.Test.YtbimaodbcjjbfaaWinB5
import Derived.Test.YtbimaodbcjjbfaaGraphG5
/- Windows: the reference's way to apply an event. The plain laws. No Go. No conditions. -/
namespace Go.Sl
set_option linter.unusedVariables false
set_option linter.unusedSectionVars false
structure ApI (xs : List Lk) (e : Ev) (k : Nat) (O : List Lk) (q : Bool) : Prop where
  eq : stepL xs e = O ++ (if e.kd = 1 then (if q = true then xs.drop k else setL (lkOf e) (xs.drop k)) else (xs.drop k).filter fun l => !hitE e l)
  aft : q = true → e.kd = 1 → ∀ x ∈ xs.drop k, Lk.lt (lkOf e) x
  oth : e.kd ≠ 1 → q = true
section
variable {xs O : List Lk} {e : Ev} {k : Nat} {q : Bool}
theorem ApI.start : ApI xs e 0 [] (decide (e.kd ≠ 1)) := by
  refine ⟨?_, fun h h1 => absurd h1 (of_decide_eq_true h), fun h => decide_eq_true h⟩
  unfold stepL
  by_cases h : e.kd = 1
  · rw [if_pos h, if_pos h, if_neg (by simp [h])]; rfl
  · rw [if_neg h, if_neg h]; rfl
theorem ApI.drop (h : ApI xs e k O q) (hk : k < xs.length) (h1 : e.kd ≠ 1) (hh : hitE e (at_ xs (k : Int)) = true) : ApI xs e (k + 1) O q :=
  ⟨by rw [h.eq, if_neg h1, if_neg h1, drop_at xs k hk, List.filter_cons, hh]; rfl, fun _ h2 => absurd h2 h1, h.oth⟩
theorem ApI.len (h : ApI xs e k O q) : O.length ≤ xs.length + 1 := by
  have h1 := congrArg List.length h.eq
  rw [List.length_append] at h1
  have h2 := stepL_len xs e
  omega
end
end Go.Sl
namespace Go.Sl
open Go.Proofs
set_option linter.unusedVariables false
set_option linter.unusedSimpArgs false
set_option maxRecDepth 4000
end Go.Sl
namespace Go.Sl
open Go.Proofs
set_option linter.unusedVariables false
set_option linter.unusedSimpArgs false
set_option maxRecDepth 4000
end Go.Sl
