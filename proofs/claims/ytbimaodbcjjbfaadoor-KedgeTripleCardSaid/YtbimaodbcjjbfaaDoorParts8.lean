/- A part of the proofs of statements of this seat: contracts of functions, and the plain laws that they lean on. No conditions. -/
import Derived.Test.YtbimaodbcjjbfaaDoorParts9
import Derived.Test.YtbimaodbcjjbfaaDoorRunsT
namespace Go.Sl
open Go.Proofs
set_option linter.unusedVariables false
set_option linter.unusedSimpArgs false
set_option maxRecDepth 4000
end Go.Sl
namespace Go.Sl
open Go.Proofs
set_option linter.unusedVariables false
set_option linter.unusedSimpArgs false
set_option maxRecDepth 4000
structure PrV where
  a1 : Option Addr
  c1 : Nat
  xs1 : List Int
  a2 : Option Addr
  c2 : Nat
  xs2 : List Int
instance : Inhabited PrV := ⟨⟨none, 0, [], none, 0, []⟩⟩
instance : Enc PrV := ⟨fun r => [.slice r.a1 r.xs1.length r.c1, .slice r.a2 r.xs2.length r.c2], 2, by omega, fun _ => rfl, fun r u hu => by
  simp only [List.mem_cons, List.not_mem_nil, or_false] at hu
  rcases hu with rfl | rfl <;> rfl⟩
def HeldPr (κ : Ctx) (I : List Item) (rs : List PrV) : Prop := ∀ r ∈ rs, Sl κ I (.slice r.a1 r.xs1.length r.c1) r.xs1 ∧ Sl κ I (.slice r.a2 r.xs2.length r.c2) r.xs2
theorem HeldPr.nil {κ : Ctx} {I : List Item} : HeldPr κ I [] := fun r hr => by cases hr
theorem HeldPr.cons {κ : Ctx} {I : List Item} {r : PrV} {rs : List PrV} (h1 : Sl κ I (.slice r.a1 r.xs1.length r.c1) r.xs1) (h2 : Sl κ I (.slice r.a2 r.xs2.length r.c2) r.xs2) (h : HeldPr κ I rs) : HeldPr κ I (r :: rs) := fun x hx => by
  rcases List.mem_cons.1 hx with rfl | hx
  · exact ⟨h1, h2⟩
  · exact h x hx
structure GrV where
  n : Int
  a : Option Addr
  c : Nat
  xs : List Pt
instance : Inhabited GrV := ⟨⟨0, none, 0, []⟩⟩
instance : Enc GrV := ⟨fun r => [I64 r.n, .slice r.a r.xs.length r.c], 2, by omega, fun _ => rfl, fun r u hu => by
  simp only [List.mem_cons, List.not_mem_nil, or_false] at hu
  rcases hu with rfl | rfl <;> rfl⟩
def HeldGr (κ : Ctx) (I : List Item) (rs : List GrV) : Prop := ∀ r ∈ rs, Sl κ I (.slice r.a r.xs.length r.c) r.xs
theorem HeldGr.nil {κ : Ctx} {I : List Item} : HeldGr κ I [] := fun r hr => by cases hr
theorem HeldGr.cons {κ : Ctx} {I : List Item} {r : GrV} {rs : List GrV} (h1 : Sl κ I (.slice r.a r.xs.length r.c) r.xs) (h : HeldGr κ I rs) : HeldGr κ I (r :: rs) := fun x hx => by
  rcases List.mem_cons.1 hx with rfl | hx
  · exact h1
  · exact h x hx
theorem HeldGr.at {κ : Ctx} {I : List Item} {rs : List GrV} (h : HeldGr κ I rs) {i : Int} (h0 : 0 ≤ i) (hn : i < rs.length) : Sl κ I (.slice (at_ rs i).a (at_ rs i).xs.length (at_ rs i).c) (at_ rs i).xs := h _ (at_mem h0 hn)

end Go.Sl
