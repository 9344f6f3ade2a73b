/- A part of the proofs of statements of this seat: contracts of functions, and the plain laws that they lean on. No conditions. -/
import Derived.Test.YtbimaodbcjjbfaaDoorRunsU
import Derived.Test.YtbimaodbcjjbfaaDoorRunsW
namespace Go.Sl
open Go.Proofs
set_option linter.unusedVariables false
set_option linter.unusedSimpArgs false
set_option maxRecDepth 4000
/-- A run as an element. -/
structure RunV where
  n : Int
  a : Option Addr
  c : Nat
  xs : List Pt
instance : Inhabited RunV := ⟨⟨0, none, 0, []⟩⟩
instance : Enc RunV := ⟨fun r => [I64 r.n, .slice r.a r.xs.length r.c], 2, by omega, fun _ => rfl, fun r u hu => by
  simp only [List.mem_cons, List.not_mem_nil, or_false] at hu
  rcases hu with rfl | rfl <;> rfl⟩
def RunV.Held (κ : Ctx) (I : List Item) (r : RunV) : Prop := Sl κ I (.slice r.a r.xs.length r.c) r.xs
def HeldRuns (κ : Ctx) (I : List Item) (rs : List RunV) : Prop := ∀ r ∈ rs, RunV.Held κ I r
theorem HeldRuns.nil {κ : Ctx} {I : List Item} : HeldRuns κ I [] := fun r hr => by cases hr
theorem HeldRuns.cons {κ : Ctx} {I : List Item} {r : RunV} {rs : List RunV} (hr : RunV.Held κ I r) (h : HeldRuns κ I rs) : HeldRuns κ I (r :: rs) := fun x hx => by
  rcases List.mem_cons.1 hx with rfl | hx
  · exact hr
  · exact h x hx
theorem HeldRuns.at {κ : Ctx} {I : List Item} {rs : List RunV} (h : HeldRuns κ I rs) {i : Int} (h0 : 0 ≤ i) (hn : i < rs.length) : Sl κ I (.slice (at_ rs i).a (at_ rs i).xs.length (at_ rs i).c) (at_ rs i).xs := h _ (at_mem h0 hn)
theorem HeldRuns.fit {κ : Ctx} {I J : List Item} {rs : List RunV} (h : HeldRuns κ I rs) (hf : Fit κ J I) : HeldRuns κ J rs := fun r hr => Sl.fit (h r hr) hf
structure SizeOk (n : Int) : Prop where size : 1 ≤ n ∧ n ≤ 1024
end Go.Sl
namespace Go.Sl
open Go.Proofs
set_option linter.unusedVariables false
set_option linter.unusedSimpArgs false
set_option maxRecDepth 4000
end Go.Sl
namespace Go.Sl
open Go.Proofs
set_option linter.unusedVariables false
set_option linter.unusedSimpArgs false
set_option maxRecDepth 4000

end Go.Sl
