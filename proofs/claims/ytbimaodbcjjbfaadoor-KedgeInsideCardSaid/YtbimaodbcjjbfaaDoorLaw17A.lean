/- A part of the proofs of statements of this seat: contracts of functions, and the plain laws that they lean on. No conditions. -/
import Derived.Test.YtbimaodbcjjbfaaDoorKed8
import Derived.Test.YtbimaodbcjjbfaaDoorParts8
namespace Go.Sl
open Go.Proofs
set_option linter.unusedVariables false
set_option linter.unusedSimpArgs false
set_option maxRecDepth 4000
theorem HeldAll.two {κ : Ctx} {I : List Item} {α : Type} [Enc α] {r t : RowG α} (h : RowG.Held κ I r) (h' : RowG.Held κ I t) : HeldAll κ I [r, t] := fun x hx => by
  simp only [List.mem_cons, List.not_mem_nil, or_false] at hx
  rcases hx with rfl | rfl
  · exact h
  · exact h'
end Go.Sl
