/- A part of the proofs of statements of this seat: contracts of functions, and the plain laws that they lean on. No conditions. -/
import Derived.Test.YtbimaodbcjjbfaaGreatDoorSets
import Derived.Test.YtbimaodbcjjbfaaGreatDoorOps2
/- Scanning a list for the first error; blocks of a list. No Go. No conditions. -/
namespace Go.Sl
set_option linter.unusedVariables false
set_option linter.unusedSectionVars false

/-! ### The first error of a list that ought to ascend -/
section
variable {α : Type} (bad : α → Int) (lt : α → α → Prop) [DecidableRel lt]
/-- The element before place k. -/
def prevAt [Inhabited α] (xs : List α) (k : Nat) : Option α := if k = 0 then none else some (at_ xs ((k : Int) - 1))
/-- Element by element: what is wrong with it; 5 where it does not come behind the one before. -/
def scanL : Option α → List α → Int
  | _, [] => 0
  | none, p :: ps => if bad p ≠ 0 then bad p else scanL (some p) ps
  | some q, p :: ps => if bad p ≠ 0 then bad p else if lt q p then scanL (some p) ps else 5
variable {bad lt} [Inhabited α] {xs : List α} {k : Nat}
theorem prevAt_succ : prevAt xs (k + 1) = some (at_ xs (k : Int)) := by
  unfold prevAt; rw [if_neg (by omega)]; congr 2; omega
theorem scanL_step (hk : k < xs.length) (h1 : bad (at_ xs (k : Int)) = 0) (h2 : 0 < k → lt (at_ xs ((k : Int) - 1)) (at_ xs (k : Int))) :
    scanL bad lt (prevAt xs k) (xs.drop k) = scanL bad lt (prevAt xs (k + 1)) (xs.drop (k + 1)) := by
  rw [drop_at xs k hk, prevAt_succ]
  unfold prevAt
  split
  · simp only [scanL]; rw [if_neg (by simp [h1])]
  · simp only [scanL]; rw [if_neg (by simp [h1]), if_pos (h2 (by omega))]
theorem scanL_bad (hk : k < xs.length) (h1 : bad (at_ xs (k : Int)) ≠ 0) : scanL bad lt (prevAt xs k) (xs.drop k) = bad (at_ xs (k : Int)) := by
  rw [drop_at xs k hk]
  unfold prevAt
  split
  · simp only [scanL]; rw [if_pos h1]
  · simp only [scanL]; rw [if_pos h1]
theorem scanL_order (hk : k < xs.length) (h1 : bad (at_ xs (k : Int)) = 0) (h0 : 0 < k) (h2 : ¬ lt (at_ xs ((k : Int) - 1)) (at_ xs (k : Int))) : scanL bad lt (prevAt xs k) (xs.drop k) = 5 := by
  rw [drop_at xs k hk]
  unfold prevAt
  rw [if_neg (by omega)]
  simp only [scanL]; rw [if_neg (by simp [h1]), if_neg h2]
theorem scanL_end (hk : xs.length ≤ k) : scanL bad lt (prevAt xs k) (xs.drop k) = 0 := by
  rw [List.drop_eq_nil_of_le hk]
  cases prevAt xs k <;> rfl
theorem scanL_zero_some (hlt : LinO lt) : ∀ (xs : List α) (q : α), scanL bad lt (some q) xs = 0 ↔ (∀ x ∈ xs, bad x = 0) ∧ (q :: xs).Pairwise lt
  | [], q => by simp [scanL]
  | p :: ps, q => by
    simp only [scanL]
    by_cases h1 : bad p = 0
    · rw [if_neg (by simp [h1])]
      by_cases h2 : lt q p
      · rw [if_pos h2, scanL_zero_some hlt ps p]
        constructor
        · rintro ⟨a, b⟩
          refine ⟨fun x hx => ?_, List.pairwise_cons.2 ⟨fun x hx => ?_, b⟩⟩
          · rcases List.mem_cons.1 hx with rfl | hx
            · exact h1
            · exact a x hx
          · rcases List.mem_cons.1 hx with rfl | hx
            · exact h2
            · exact hlt.tr _ _ _ h2 ((List.pairwise_cons.1 b).1 x hx)
        · rintro ⟨a, b⟩
          exact ⟨fun x hx => a x (List.mem_cons_of_mem _ hx), (List.pairwise_cons.1 b).2⟩
      · rw [if_neg h2]
        refine ⟨fun h => by simp at h, fun h => absurd ((List.pairwise_cons.1 h.2).1 p List.mem_cons_self) h2⟩
    · rw [if_pos h1]
      exact ⟨fun h => absurd h h1, fun h => h.1 p List.mem_cons_self⟩
/-- Nothing is wrong with a list just if it ascends and nothing is wrong with its elements. -/
theorem scanL_zero (hlt : LinO lt) (xs : List α) : scanL bad lt none xs = 0 ↔ (∀ x ∈ xs, bad x = 0) ∧ xs.Pairwise lt := by
  cases xs with
  | nil => simp [scanL]
  | cons p ps =>
    simp only [scanL]
    by_cases h1 : bad p = 0
    · rw [if_neg (by simp [h1]), scanL_zero_some hlt]
      constructor
      · rintro ⟨a, b⟩
        refine ⟨fun x hx => ?_, b⟩
        rcases List.mem_cons.1 hx with rfl | hx
        · exact h1
        · exact a x hx
      · rintro ⟨a, b⟩
        exact ⟨fun x hx => a x (List.mem_cons_of_mem _ hx), b⟩
    · rw [if_pos h1]
      exact ⟨fun h => absurd h h1, fun h => h.1 p List.mem_cons_self⟩
end

/-! ### Blocks -/
section
variable {α : Type}
def nblocks (n : Nat) (l : List α) : Nat := (l.length + n - 1) / n
/-- Block number i of n elements. -/
def block (n : Nat) (l : List α) (i : Nat) : List α := (l.drop (i * n)).take n
def blocks (n : Nat) (l : List α) : List (List α) := (List.range (nblocks n l)).map (block n l)
end
end Go.Sl
/- Looking for a pair in the blocks of an ascending list: the plain law. No Go. No conditions. -/
namespace Go.Sl
set_option linter.unusedVariables false
set_option linter.unusedSectionVars false

section
variable {l : List Pt} {n : Nat}
theorem asc_at {i j : Nat} (h : AscP l) (hij : i < j) (hj : j < l.length) : Pt.lt (at_ l (i : Int)) (at_ l (j : Int)) := (pairwise_at l).1 h i j hij hj

end
end Go.Sl
/- The neighbours of a node in the blocks of an ascending list: the plain law. No Go. No conditions. -/
namespace Go.Sl
set_option linter.unusedVariables false
set_option linter.unusedSectionVars false

end Go.Sl
/- Runs of records: the plain laws that the walks of package runs lean on. No Go. No conditions. -/
namespace Go.Sl
set_option linter.unusedVariables false
set_option linter.unusedSectionVars false

def cmpI (a b : Int) : Int := if a < b then -1 else if b < a then 1 else 0
/-- The nodes of a record are right. -/
def Pt.right (p : Pt) : Prop := (0 ≤ p.u ∧ p.u < 64) ∧ (0 ≤ p.v ∧ p.v < 64) ∧ p.u ≠ p.v
instance (p : Pt) : Decidable p.right := by unfold Pt.right; infer_instance
/-- A valid run. -/
structure RunOk (n : Int) (l : List Pt) : Prop where
  size : 1 ≤ n ∧ n ≤ 1024
  asc : AscP l
  right : ∀ p ∈ l, p.right

theorem RunOk.prev {n : Int} {l : List Pt} (h : RunOk n l) {k : Nat} (hk : k < l.length) (h0 : 0 < k) : Pt.cmp (at_ l ((k : Int) - 1)) (at_ l (k : Int)) < 0 := by
  rw [Pt.cmp_lt]
  have := asc_at h.asc (i := k - 1) (j := k) (by omega) hk
  rwa [show ((k - 1 : Nat) : Int) = (k : Int) - 1 from by omega] at this
theorem RunOk.at {n : Int} {l : List Pt} (h : RunOk n l) {k : Nat} (hk : k < l.length) : (at_ l (k : Int)).right := h.right _ (at_mem (by omega) (by omega))

/-! ### Cutting into blocks, one after the other -/
section
variable {l rest : List Pt} {n : Nat} {j h : Nat}
end
/-! ### The search's steps -/
section
variable {bl : List (List Pt)} {x : Pt} {fuel : Nat} {first last reads m : Int}
end
/-! ### Neighbours, block by block -/
end Go.Sl
/- Graphs: nodes and ascending edges: the plain laws. No Go. No conditions. -/
namespace Go.Sl
set_option linter.unusedVariables false

/-- A graph that is right. -/
structure GrOk (nodes : Int) (es : List Pt) : Prop where
  rng : 0 ≤ nodes ∧ nodes ≤ 64
  asc : AscP es
  edge : ∀ e ∈ es, 0 ≤ e.u ∧ e.u < e.v ∧ e.v < nodes
/-- Edges before the pair u, v. -/
structure GI (nodes : Int) (es : List Pt) (u v : Int) : Prop where
  asc : AscP es
  edge : ∀ e ∈ es, 0 ≤ e.u ∧ e.u < e.v ∧ e.v < nodes
  before : ∀ e ∈ es, e.u < u ∨ (e.u = u ∧ e.v < v)
section
variable {nodes u v w : Int} {es : List Pt}
theorem GI.start : GI nodes [] u v := ⟨List.Pairwise.nil, (fun e h => by cases h), (fun e h => by cases h)⟩
theorem GI.mono (h : GI nodes es u v) (hv : v ≤ w) : GI nodes es u w := ⟨h.asc, h.edge, fun e he => by have := h.before e he; omega⟩
theorem GI.row (h : GI nodes es u v) : GI nodes es (u + 1) w := ⟨h.asc, h.edge, fun e he => by have := h.before e he; omega⟩
theorem GI.push (h : GI nodes es u v) (h0 : 0 ≤ u) (h1 : u < v) (h2 : v < nodes) : GI nodes (es ++ [⟨u, v⟩]) u (v + 1) := by
  refine ⟨List.pairwise_append.2 ⟨h.asc, List.pairwise_singleton _ _, fun a ha b hb => ?_⟩, fun e he => ?_, fun e he => ?_⟩
  · rw [List.mem_singleton.1 hb]; exact h.before a ha
  · rcases List.mem_append.1 he with he | he
    · exact h.edge e he
    · rw [List.mem_singleton.1 he]; exact ⟨h0, h1, h2⟩
  · rcases List.mem_append.1 he with he | he
    · have := h.before e he; omega
    · rw [List.mem_singleton.1 he]; right; exact ⟨rfl, by show v < v + 1; omega⟩
theorem GI.ok (h : GI nodes es u v) (hn : 0 ≤ nodes ∧ nodes ≤ 64) : GrOk nodes es := ⟨hn, h.asc, h.edge⟩
end

/-- What is wrong with an edge. -/
def badE (nodes : Int) (e : Pt) : Int := if e.u < 0 ∨ e.v ≤ e.u ∨ nodes ≤ e.v then 6 else 0
/-- The first error of a graph. -/
def checkG (nodes : Int) (es : List Pt) : Int := if nodes < 0 ∨ 64 < nodes then 1 else scanL (badE nodes) Pt.lt none es
theorem badE_zero {nodes : Int} {e : Pt} : badE nodes e = 0 ↔ 0 ≤ e.u ∧ e.u < e.v ∧ e.v < nodes := by
  unfold badE; split <;> omega
theorem checkG_ok {nodes : Int} {es : List Pt} : checkG nodes es = 0 ↔ GrOk nodes es := by
  unfold checkG
  split
  · rename_i h
    exact ⟨fun e => by omega, fun e => by have := e.rng; omega⟩
  · rename_i h
    rw [scanL_zero Pt.lin]
    constructor
    · rintro ⟨h1, h2⟩; exact ⟨by omega, h2, fun e he => badE_zero.1 (h1 e he)⟩
    · intro h1; exact ⟨fun e he => badE_zero.2 (h1.edge e he), h1.asc⟩

variable {nodes : Int} {es : List Pt}
theorem GrOk.at (h : GrOk nodes es) {k : Nat} (hk : k < es.length) : 0 ≤ (at_ es (k : Int)).u ∧ (at_ es (k : Int)).u < (at_ es (k : Int)).v ∧ (at_ es (k : Int)).v < nodes := h.edge _ (at_mem (by omega) (by omega))
theorem GrOk.prev (h : GrOk nodes es) {k : Nat} (hk : k < es.length) (h0 : 0 < k) : Pt.lt (at_ es ((k : Int) - 1)) (at_ es (k : Int)) := by
  have := asc_at h.asc (i := k - 1) (j := k) (by omega) hk
  rwa [show ((k - 1 : Nat) : Int) = (k : Int) - 1 from by omega] at this

/-! ### Runs of graphs -/
/-- Both records of all edges. -/
def dbl : List Pt → List Pt
  | [] => []
  | e :: es => e :: e.swap :: dbl es
theorem dbl_append (a b : List Pt) : dbl (a ++ b) = dbl a ++ dbl b := by
  induction a with
  | nil => rfl
  | cons e a ih => simp [dbl, ih]
theorem dbl_len (es : List Pt) : (dbl es).length = 2 * es.length := by
  induction es with
  | nil => rfl
  | cons e es ih => simp [dbl, ih]; omega
theorem mem_dbl {p : Pt} {es : List Pt} : p ∈ dbl es ↔ p ∈ es ∨ p.swap ∈ es := by
  induction es with
  | nil => simp [dbl]
  | cons e es ih =>
    have h : p = e.swap ↔ p.swap = e := ⟨fun h => by subst h; rfl, fun h => by subst h; rfl⟩
    simp only [dbl, List.mem_cons, ih, h]
    constructor
    · rintro (h | h | h | h)
      · exact .inl (.inl h)
      · exact .inr (.inl h)
      · exact .inl (.inr h)
      · exact .inr (.inr h)
    · rintro ((h | h) | (h | h))
      · exact .inl h
      · exact .inr (.inr (.inl h))
      · exact .inr (.inl h)
      · exact .inr (.inr (.inr h))
theorem dbl_take {es : List Pt} {k : Nat} (hk : k < es.length) : dbl (es.take (k + 1)) = dbl (es.take k) ++ [⟨(at_ es (k : Int)).u, (at_ es (k : Int)).v⟩, ⟨(at_ es (k : Int)).v, (at_ es (k : Int)).u⟩] := by
  rw [take_at es k hk, dbl_append]; rfl
/-- The records of a graph. -/
def both (es : List Pt) : List Pt := sortB Pt.lt (dbl es)
theorem mem_both {p : Pt} {es : List Pt} : p ∈ both es ↔ p ∈ es ∨ p.swap ∈ es := by unfold both; rw [mem_sortB, mem_dbl]
theorem GrOk.mem_both (h : GrOk nodes es) {p : Pt} (hp : p ∈ both es) : 0 ≤ p.u ∧ p.u < nodes ∧ 0 ≤ p.v ∧ p.v < nodes ∧ p.u ≠ p.v := by
  rcases Sl.mem_both.1 hp with hp | hp
  · have := h.edge _ hp; omega
  · have := h.edge _ hp; simp only [Pt.swap] at this; omega
theorem GrOk.both (h : GrOk nodes es) {n : Int} (hn : 1 ≤ n ∧ n ≤ 1024) : RunOk n (both es) :=
  ⟨hn, Pt.lin.sortB _, fun p hp => by have := h.mem_both hp; have := h.rng; unfold Pt.right; omega⟩
/-! ### Sorting -/
/-- In order, nothing lost. -/
def SortedP (xs ys : List Pt) : Prop := ys.Perm xs ∧ ys.Pairwise fun a b => ¬ Pt.lt b a
theorem asc_nodup {l : List Pt} (h : AscP l) : l.Nodup := h.imp fun {a b} h e => Pt.lin.ne h e
theorem dbl_nodup {es : List Pt} (hn : es.Nodup) (h : ∀ e ∈ es, e.u < e.v) : (dbl es).Nodup := by
  induction es with
  | nil => exact List.nodup_nil
  | cons e es ih =>
    have hlt := h e List.mem_cons_self
    obtain ⟨he, hn'⟩ := List.nodup_cons.1 hn
    have hs : e.swap ∉ es := fun hm => by have := h _ (List.mem_cons_of_mem _ hm); simp only [Pt.swap] at this; omega
    simp only [dbl]
    refine List.nodup_cons.2 ⟨fun hm => ?_, List.nodup_cons.2 ⟨fun hm => ?_, ih hn' fun x hx => h x (List.mem_cons_of_mem _ hx)⟩⟩
    · rcases List.mem_cons.1 hm with hm | hm
      · have : e.u = e.swap.u := congrArg Pt.u hm
        simp only [Pt.swap] at this; omega
      · rcases mem_dbl.1 hm with hm | hm
        · exact he hm
        · exact hs hm
    · rcases mem_dbl.1 hm with hm | hm
      · exact hs hm
      · exact he hm
end Go.Sl
