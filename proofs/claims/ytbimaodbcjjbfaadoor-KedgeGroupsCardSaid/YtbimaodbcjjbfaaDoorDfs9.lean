/- A part of the proofs of statements of this seat: contracts of functions, and the plain laws that they lean on. No conditions. -/
import Derived.Test.YtbimaodbcjjbfaaDoorTab
import Derived.Test.YtbimaodbcjjbfaaDoorRunsD5
import Derived.Test.YtbimaodbcjjbfaaDoorLib
/- The search for blocks by depth first as functions: states, steps, what stays true, a measure. No Go. No conditions. -/
namespace Go.Sl
set_option linter.unusedVariables false
set_option linter.unusedSimpArgs false
set_option linter.unusedSectionVars false
/-- A node on the way, where it came from, what is left to be looked at. -/
structure Vis where
  node : Int
  src : Int
  left : BitVec 64
deriving DecidableEq
instance : Inhabited Vis := ⟨⟨0, 0, 0#64⟩⟩
instance : Enc Vis := ⟨fun t => [I64 t.node, I64 t.src, U64 t.left], 3, by omega, fun _ => rfl, fun t u hu => by
  simp only [List.mem_cons, List.not_mem_nil, or_false] at hu
  rcases hu with rfl | rfl | rfl <;> rfl⟩
end Go.Sl
/- The search for blocks: each step keeps what is true, and lowers the measure. No Go. No conditions. -/
namespace Go.Sl
set_option linter.unusedVariables false
set_option linter.unusedSimpArgs false
set_option linter.unusedSectionVars false
end Go.Sl
/- The search for blocks: bounds, its start and its end. No Go. No conditions. -/
namespace Go.Sl
set_option linter.unusedVariables false
set_option linter.unusedSimpArgs false
set_option linter.unusedSectionVars false
end Go.Sl
/- Paths that avoid nodes; edges on a common cycle. No Go. No conditions. -/
namespace Go.Sl
set_option linter.unusedVariables false
set_option linter.unusedSimpArgs false
section
variable {adj : Int → Int → Prop} {ok ok' : Int → Prop} {x y z : Int}
end
def upd (f : Int → Int) (w c : Int) : Int → Int := fun x => if x = w then c else f x
section
variable {adj : Int → Int → Prop} {N L : Int → Int} {cd : Int} {ws : List (Int × Int)} {rem rem' : Int → Int → Prop} {edges : List Pt} {out : List (List Pt)}
end
end Go.Sl
/- The search for blocks: what its steps keep, in words of edges on common cycles; the blocks of a graph. No Go. No conditions. -/
namespace Go.Sl
set_option linter.unusedVariables false
set_option linter.unusedSimpArgs false
set_option linter.unusedSectionVars false
def adjR (rows : List (BitVec 64)) (a b : Int) : Prop := 0 ≤ a ∧ a < rows.length ∧ b ∈ listB (at_ rows a)
def pairs (w : List Vis) : List (Int × Int) := w.map fun t => (t.node, t.src)
end Go.Sl
/- The blocks of a graph in their order. No Go. No conditions. -/
namespace Go.Sl
set_option linter.unusedVariables false
set_option linter.unusedSimpArgs false
def hd0 (b : List Pt) : Pt := at_ b 0
end Go.Sl
/- Joints, bridges and blocks in words of paths; classes of edges in their order. No Go. No conditions. -/
namespace Go.Sl
set_option linter.unusedVariables false
set_option linter.unusedSimpArgs false
section
variable {adj : Int → Int → Prop}
end
section
variable {adj : Int → Int → Prop}
end
end Go.Sl
