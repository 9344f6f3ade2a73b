/- A part of the proofs of statements of this seat: contracts of functions, and the plain laws that they lean on. No conditions. -/
import Derived.Test.YtbimaodbcjjbfaaGreatDoorSets
import Derived.Test.YtbimaodbcjjbfaaGreatDoorOps2
/- Scanning a list for the first error; blocks of a list. No Go. No conditions. -/
namespace Go.Sl
set_option linter.unusedVariables false
set_option linter.unusedSectionVars false

/-! ### The first error of a list that ought to ascend -/
section
variable {α : Type} (bad : α → Int) (lt : α → α → Prop) [DecidableRel lt]
/-- The element before place k. -/
def prevAt [Inhabited α] (xs : List α) (k : Nat) : Option α := if k = 0 then none else some (at_ xs ((k : Int) - 1))
/-- Element by element: what is wrong with it; 5 where it does not come behind the one before. -/
def scanL : Option α → List α → Int
  | _, [] => 0
  | none, p :: ps => if bad p ≠ 0 then bad p else scanL (some p) ps
  | some q, p :: ps => if bad p ≠ 0 then bad p else if lt q p then scanL (some p) ps else 5
variable {bad lt} [Inhabited α] {xs : List α} {k : Nat}
theorem prevAt_succ : prevAt xs (k + 1) = some (at_ xs (k : Int)) := by
  unfold prevAt; rw [if_neg (by omega)]; congr 2; omega
theorem scanL_step (hk : k < xs.length) (h1 : bad (at_ xs (k : Int)) = 0) (h2 : 0 < k → lt (at_ xs ((k : Int) - 1)) (at_ xs (k : Int))) :
    scanL bad lt (prevAt xs k) (xs.drop k) = scanL bad lt (prevAt xs (k + 1)) (xs.drop (k + 1)) := by
  rw [drop_at xs k hk, prevAt_succ]
  unfold prevAt
  split
  · simp only [scanL]; rw [if_neg (by simp [h1])]
  · simp only [scanL]; rw [if_neg (by simp [h1]), if_pos (h2 (by omega))]
theorem scanL_bad (hk : k < xs.length) (h1 : bad (at_ xs (k : Int)) ≠ 0) : scanL bad lt (prevAt xs k) (xs.drop k) = bad (at_ xs (k : Int)) := by
  rw [drop_at xs k hk]
  unfold prevAt
  split
  · simp only [scanL]; rw [if_pos h1]
  · simp only [scanL]; rw [if_pos h1]
theorem scanL_order (hk : k < xs.length) (h1 : bad (at_ xs (k : Int)) = 0) (h0 : 0 < k) (h2 : ¬ lt (at_ xs ((k : Int) - 1)) (at_ xs (k : Int))) : scanL bad lt (prevAt xs k) (xs.drop k) = 5 := by
  rw [drop_at xs k hk]
  unfold prevAt
  rw [if_neg (by omega)]
  simp only [scanL]; rw [if_neg (by simp [h1]), if_neg h2]
theorem scanL_end (hk : xs.length ≤ k) : scanL bad lt (prevAt xs k) (xs.drop k) = 0 := by
  rw [List.drop_eq_nil_of_le hk]
  cases prevAt xs k <;> rfl
theorem scanL_zero_some (hlt : LinO lt) : ∀ (xs : List α) (q : α), scanL bad lt (some q) xs = 0 ↔ (∀ x ∈ xs, bad x = 0) ∧ (q :: xs).Pairwise lt
  | [], q => by simp [scanL]
  | p :: ps, q => by
    simp only [scanL]
    by_cases h1 : bad p = 0
    · rw [if_neg (by simp [h1])]
      by_cases h2 : lt q p
      · rw [if_pos h2, scanL_zero_some hlt ps p]
        constructor
        · rintro ⟨a, b⟩
          refine ⟨fun x hx => ?_, List.pairwise_cons.2 ⟨fun x hx => ?_, b⟩⟩
          · rcases List.mem_cons.1 hx with rfl | hx
            · exact h1
            · exact a x hx
          · rcases List.mem_cons.1 hx with rfl | hx
            · exact h2
            · exact hlt.tr _ _ _ h2 ((List.pairwise_cons.1 b).1 x hx)
        · rintro ⟨a, b⟩
          exact ⟨fun x hx => a x (List.mem_cons_of_mem _ hx), (List.pairwise_cons.1 b).2⟩
      · rw [if_neg h2]
        refine ⟨fun h => by simp at h, fun h => absurd ((List.pairwise_cons.1 h.2).1 p List.mem_cons_self) h2⟩
    · rw [if_pos h1]
      exact ⟨fun h => absurd h h1, fun h => h.1 p List.mem_cons_self⟩
/-- Nothing is wrong with a list just if it ascends and nothing is wrong with its elements. -/
theorem scanL_zero (hlt : LinO lt) (xs : List α) : scanL bad lt none xs = 0 ↔ (∀ x ∈ xs, bad x = 0) ∧ xs.Pairwise lt := by
  cases xs with
  | nil => simp [scanL]
  | cons p ps =>
    simp only [scanL]
    by_cases h1 : bad p = 0
    · rw [if_neg (by simp [h1]), scanL_zero_some hlt]
      constructor
      · rintro ⟨a, b⟩
        refine ⟨fun x hx => ?_, b⟩
        rcases List.mem_cons.1 hx with rfl | hx
        · exact h1
        · exact a x hx
      · rintro ⟨a, b⟩
        exact ⟨fun x hx => a x (List.mem_cons_of_mem _ hx), b⟩
    · rw [if_pos h1]
      exact ⟨fun h => absurd h h1, fun h => h.1 p List.mem_cons_self⟩
end

/-! ### Blocks -/
section
variable {α : Type}
def nblocks (n : Nat) (l : List α) : Nat := (l.length + n - 1) / n
/-- Block number i of n elements. -/
def block (n : Nat) (l : List α) (i : Nat) : List α := (l.drop (i * n)).take n
def blocks (n : Nat) (l : List α) : List (List α) := (List.range (nblocks n l)).map (block n l)
end
end Go.Sl
/- Looking for a pair in the blocks of an ascending list: the plain law. No Go. No conditions. -/
namespace Go.Sl
set_option linter.unusedVariables false
set_option linter.unusedSectionVars false

section
variable {l : List Pt} {n : Nat}
theorem asc_at {i j : Nat} (h : AscP l) (hij : i < j) (hj : j < l.length) : Pt.lt (at_ l (i : Int)) (at_ l (j : Int)) := (pairwise_at l).1 h i j hij hj

end
end Go.Sl
/- The neighbours of a node in the blocks of an ascending list: the plain law. No Go. No conditions. -/
namespace Go.Sl
set_option linter.unusedVariables false
set_option linter.unusedSectionVars false

end Go.Sl
/- Runs of records: the plain laws that the walks of package runs lean on. No Go. No conditions. -/
namespace Go.Sl
set_option linter.unusedVariables false
set_option linter.unusedSectionVars false

def cmpI (a b : Int) : Int := if a < b then -1 else if b < a then 1 else 0
/-- The nodes of a record are right. -/
def Pt.right (p : Pt) : Prop := (0 ≤ p.u ∧ p.u < 64) ∧ (0 ≤ p.v ∧ p.v < 64) ∧ p.u ≠ p.v
instance (p : Pt) : Decidable p.right := by unfold Pt.right; infer_instance
/-! ### Cutting into blocks, one after the other -/
section
variable {l rest : List Pt} {n : Nat} {j h : Nat}
end
/-! ### The search's steps -/
section
variable {bl : List (List Pt)} {x : Pt} {fuel : Nat} {first last reads m : Int}
end
/-! ### Neighbours, block by block -/
end Go.Sl
/- Graphs: nodes and ascending edges: the plain laws. No Go. No conditions. -/
namespace Go.Sl
set_option linter.unusedVariables false

section
variable {nodes u v w : Int} {es : List Pt}
end

variable {nodes : Int} {es : List Pt}
/-! ### Runs of graphs -/
/-! ### Sorting -/
/-- In order, nothing lost. -/
def SortedP (xs ys : List Pt) : Prop := ys.Perm xs ∧ ys.Pairwise fun a b => ¬ Pt.lt b a
theorem asc_nodup {l : List Pt} (h : AscP l) : l.Nodup := h.imp fun {a b} h e => Pt.lin.ne h e
end Go.Sl
