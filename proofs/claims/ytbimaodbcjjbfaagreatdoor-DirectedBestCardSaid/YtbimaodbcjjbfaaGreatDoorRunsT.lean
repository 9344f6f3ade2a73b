/- A part of the proofs of statements of this seat: contracts of functions, and the plain laws that they lean on. No conditions. -/
import Derived.Test.YtbimaodbcjjbfaaGreatDoorRunsU
import Derived.Test.YtbimaodbcjjbfaaGreatDoorRunsW
namespace Go.Sl
open Go.Proofs
set_option linter.unusedVariables false
set_option linter.unusedSimpArgs false
set_option maxRecDepth 4000
/-- A run as an element. -/
structure RunV where
  n : Int
  a : Option Addr
  c : Nat
  xs : List Pt
instance : Inhabited RunV := ⟨⟨0, none, 0, []⟩⟩
instance : Enc RunV := ⟨fun r => [I64 r.n, .slice r.a r.xs.length r.c], 2, by omega, fun _ => rfl, fun r u hu => by
  simp only [List.mem_cons, List.not_mem_nil, or_false] at hu
  rcases hu with rfl | rfl <;> rfl⟩
theorem compactN_of {xs ys : List Pt} (h : SortedP xs ys) : compactN ys ys.length = sortB Pt.lt xs :=
  (compactN_sorted h.2).trans (Pt.lin.sortB_congr fun x => h.1.mem_iff)
theorem CompactP_at {κ : Ctx} {I : List Item} {F : Item → List Item} {a : Option Addr} {n c : Nat} {xs : List Pt} (hat : AtF I (vc 32 (.slice a n c) xs) F) (hn : xs.length = n) (hsz : xs.length < 1000000000000) :
    CallS Tryz.prog κ 73 [.slice a n c] I fun r J => ∃ ys : List Pt, (r = .slice a (compactN xs xs.length).length c ∧ ys = compactN xs xs.length) ∧ J = [] ++ F (vc 32 (.slice a ys.length c) ys) :=
  CallS.at (Z := fun _ => []) (X := fun ys : List Pt => vc 32 (.slice a ys.length c) ys) (Post := fun r ys => r = .slice a (compactN xs xs.length).length c ∧ ys = compactN xs xs.length) hat fun J _ _ => by subst hn; exact CompactP_ok hsz
end Go.Sl
namespace Go.Sl
open Go.Proofs
set_option linter.unusedVariables false
set_option linter.unusedSimpArgs false
set_option maxRecDepth 4000
end Go.Sl
namespace Go.Sl
open Go.Proofs
set_option linter.unusedVariables false
set_option linter.unusedSimpArgs false
set_option maxRecDepth 4000

end Go.Sl
