/- A part of the proofs of statements of this seat: contracts of functions, and the plain laws that they lean on. No conditions. -/
import Derived.Test.YtbimaodbcjjbfaaSets
import Derived.Test.YtbimaodbcjjbfaaOps2
/- Scanning a list for the first error; blocks of a list. No Go. No conditions. -/
namespace Go.Sl
set_option linter.unusedVariables false
set_option linter.unusedSectionVars false

/-! ### The first error of a list that ought to ascend -/
section
variable {α : Type} (bad : α → Int) (lt : α → α → Prop) [DecidableRel lt]
variable {bad lt} [Inhabited α] {xs : List α} {k : Nat}
end

/-! ### Blocks -/
section
variable {α : Type}
def nblocks (n : Nat) (l : List α) : Nat := (l.length + n - 1) / n
/-- Block number i of n elements. -/
def block (n : Nat) (l : List α) (i : Nat) : List α := (l.drop (i * n)).take n
def blocks (n : Nat) (l : List α) : List (List α) := (List.range (nblocks n l)).map (block n l)
theorem nblocks_lt {n : Nat} (hn : 1 ≤ n) (l : List α) (i : Nat) : i < nblocks n l ↔ i * n < l.length := by
  unfold nblocks
  rw [Nat.lt_div_iff_mul_lt (by omega)]
  omega
theorem block_len (n : Nat) (l : List α) (i : Nat) : (block n l i).length = min n (l.length - i * n) := by simp [block]
theorem blocks_len (n : Nat) (l : List α) : (blocks n l).length = nblocks n l := by simp [blocks]
theorem blocks_get {n : Nat} {l : List α} {i : Nat} (h : i < (blocks n l).length) : (blocks n l)[i] = block n l i := by simp [blocks]
theorem block_ne {n : Nat} (hn : 1 ≤ n) {l : List α} {i : Nat} (h : i < nblocks n l) : block n l i ≠ [] := fun e => by
  have := block_len n l i
  rw [e] at this
  have := (nblocks_lt hn l i).1 h
  simp at *; omega
end
end Go.Sl
/- Looking for a pair in the blocks of an ascending list: the plain law. No Go. No conditions. -/
namespace Go.Sl
set_option linter.unusedVariables false
set_option linter.unusedSectionVars false

/-- How often a number can be halved till nothing is left. -/
def halvings (n : Nat) : Nat := if h : n = 0 then 0 else halvings (n / 2) + 1
termination_by n
decreasing_by omega
theorem halvings_zero : halvings 0 = 0 := by rw [halvings]; simp
theorem halvings_pos {n : Nat} (h : 0 < n) : halvings n = halvings (n / 2) + 1 := by
  conv => lhs; rw [halvings]
  rw [dif_neg (by omega)]
theorem halvings_mono : ∀ (n m : Nat), m ≤ n → halvings m ≤ halvings n := fun n => by
  induction n using Nat.strongRecOn with
  | _ n ih =>
    intro m hm
    by_cases h0 : m = 0
    · subst h0; rw [halvings_zero]; omega
    · rw [halvings_pos (by omega : 0 < m), halvings_pos (by omega : 0 < n)]
      have := ih (n / 2) (by omega) (m / 2) (by omega)
      omega

/-- The search: found or not, and how many blocks were read. -/
def searchB (bl : List (List Pt)) (x : Pt) : Nat → Int → Int → Int → Bool × Int
  | 0, _, _, reads => (false, reads)
  | fuel + 1, first, last, reads =>
    if first ≤ last then
      if x.lt (at_ (at_ bl ((first + last) / 2)) 0) then searchB bl x fuel first ((first + last) / 2 - 1) (reads + 1)
      else if (at_ (at_ bl ((first + last) / 2)) (((at_ bl ((first + last) / 2)).length : Int) - 1)).lt x then searchB bl x fuel ((first + last) / 2 + 1) last (reads + 1)
      else (decide (x ∈ at_ bl ((first + last) / 2)), reads + 1)
    else (false, reads)

section
variable {l : List Pt} {n : Nat}
theorem block_at (hn : 1 ≤ n) {i p : Nat} (hp : p < (block n l i).length) : at_ (block n l i) (p : Int) = at_ l ((i * n + p : Nat) : Int) ∧ i * n + p < l.length := by
  have hl := block_len n l i
  have hlt : i * n + p < l.length := by omega
  rw [at_get _ p hp, at_get l _ hlt]
  exact ⟨by simp [block], hlt⟩
theorem block_mem (hn : 1 ≤ n) {i : Nat} {y : Pt} (hy : y ∈ block n l i) : ∃ p, i * n ≤ p ∧ p < i * n + n ∧ p < l.length ∧ at_ l (p : Int) = y := by
  obtain ⟨p, hp, rfl⟩ := mem_at hy
  have h1 := block_len n l i
  have h2 := block_at hn hp
  exact ⟨i * n + p, by omega, by omega, h2.2, h2.1.symm⟩
theorem at_blocks (hn : 1 ≤ n) {i : Int} (h0 : 0 ≤ i) (h : i < (nblocks n l : Nat)) : at_ (blocks n l) i = block n l i.toNat := by
  obtain ⟨k, rfl⟩ : ∃ k : Nat, i = (k : Int) := ⟨i.toNat, by omega⟩
  rw [at_get _ k (by rw [blocks_len]; omega), blocks_get]; rfl

theorem asc_at {i j : Nat} (h : AscP l) (hij : i < j) (hj : j < l.length) : Pt.lt (at_ l (i : Int)) (at_ l (j : Int)) := (pairwise_at l).1 h i j hij hj

/-- What is known of the blocks from first to last on. -/
structure SearchI (n : Nat) (l : List Pt) (x : Pt) (first last : Int) : Prop where
  lo : 0 ≤ first
  hi : last < (nblocks n l : Nat)
  gap : first ≤ last + 1
  below : ∀ p : Nat, p < l.length → (p : Int) < first * n → Pt.lt (at_ l (p : Int)) x
  above : ∀ p : Nat, p < l.length → (last + 1) * n ≤ (p : Int) → Pt.lt x (at_ l (p : Int))

theorem search_spec (hn : 1 ≤ n) (hl : AscP l) (x : Pt) : ∀ (fuel : Nat) (first last reads : Int), SearchI n l x first last → last - first + 1 < fuel →
    (searchB (blocks n l) x fuel first last reads).1 = decide (x ∈ l) ∧ (searchB (blocks n l) x fuel first last reads).2 ≤ reads + (halvings (last - first + 1).toNat : Nat) ∧ reads ≤ (searchB (blocks n l) x fuel first last reads).2
  | 0, first, last, reads, h, hf => by have := h.gap; omega
  | fuel + 1, first, last, reads, h, hf => by
    unfold searchB
    by_cases hfl : first ≤ last
    · rw [if_pos hfl]
      have h0 := h.lo
      have h1 := h.hi
      have hm0 : 0 ≤ (first + last) / 2 := by omega
      have hm1 : (first + last) / 2 ≤ last := by omega
      have hm2 : first ≤ (first + last) / 2 := by omega
      obtain ⟨m, hm⟩ : ∃ m : Nat, (first + last) / 2 = (m : Int) := ⟨((first + last) / 2).toNat, by omega⟩
      rw [hm] at hm0 hm1 hm2 ⊢
      have hmb : m < nblocks n l := by omega
      have e : at_ (blocks n l) (m : Int) = block n l m := by rw [at_blocks hn (by omega) (by omega)]; rfl
      rw [e]
      have hne : 0 < (block n l m).length := List.length_pos_iff.2 (block_ne hn hmb)
      have hlen := block_len n l m
      have hfst := block_at (l := l) hn (i := m) (p := 0) hne
      have hlst := block_at (l := l) hn (i := m) (p := (block n l m).length - 1) (by omega)
      have e0 : at_ (block n l m) 0 = at_ l ((m * n : Nat) : Int) := hfst.1
      have e1 : at_ (block n l m) (((block n l m).length : Int) - 1) = at_ l ((m * n + ((block n l m).length - 1) : Nat) : Int) := by
        have := hlst.1
        rwa [show (((block n l m).length - 1 : Nat) : Int) = ((block n l m).length : Int) - 1 from by omega] at this
      have hcast : ((m * n : Nat) : Int) = (m : Int) * (n : Int) := by push_cast; rfl
      rw [e0, e1]
      have hhalf : halvings (last - first + 1).toNat = halvings ((last - first + 1).toNat / 2) + 1 := halvings_pos (by omega)
      split
      · rename_i hlt
        have hI : SearchI n l x first (m - 1) := ⟨h0, by omega, by omega, h.below, fun p hp hpm => by
          have : m * n ≤ p := by have : ((m : Int) - 1 + 1) * n ≤ p := hpm; rw [show (m : Int) - 1 + 1 = m from by omega] at this; omega
          by_cases hpe : p = m * n
          · subst hpe; exact hlt
          · exact Pt.lin.tr _ _ _ hlt (asc_at hl (by omega) hp)⟩
        obtain ⟨a, b, c⟩ := search_spec hn hl x fuel first (m - 1) (reads + 1) hI (by omega)
        refine ⟨a, ?_, by omega⟩
        have hmn := halvings_mono ((last - first + 1).toNat / 2) ((m : Int) - 1 - first + 1).toNat (by omega)
        omega
      · rename_i hnlt
        split
        · rename_i hlt
          have hI : SearchI n l x (m + 1) last := ⟨by omega, h1, by omega, fun p hp hpm => by
            have hpm' : p < m * n + n := by have : (p : Int) < ((m : Int) + 1) * n := hpm; rw [Int.add_mul, Int.one_mul] at this; omega
            by_cases hpe : p = m * n + ((block n l m).length - 1)
            · subst hpe; exact hlt
            · by_cases hpl : p < m * n + ((block n l m).length - 1)
              · exact Pt.lin.tr _ _ _ (asc_at hl hpl hlst.2) hlt
              · omega, h.above⟩
          obtain ⟨a, b, c⟩ := search_spec hn hl x fuel (m + 1) last (reads + 1) hI (by omega)
          refine ⟨a, ?_, by omega⟩
          have hmn := halvings_mono ((last - first + 1).toNat / 2) (last - ((m : Int) + 1) + 1).toNat (by omega)
          omega
        · rename_i hnlt2
          refine ⟨?_, by simp only [hhalf]; omega, by simp only; omega⟩
          simp only
          rw [decide_eq_decide]
          constructor
          · intro hx
            obtain ⟨p, _, _, hp, rfl⟩ := block_mem hn hx
            exact at_mem (by omega) (by omega)
          · intro hx
            obtain ⟨p, hp, rfl⟩ := mem_at hx
            have h3 : m * n ≤ p := by
              refine Nat.not_lt.1 fun hlt => ?_
              exact hnlt (asc_at hl hlt hfst.2)
            have h4 : p ≤ m * n + ((block n l m).length - 1) := by
              refine Nat.not_lt.1 fun hlt => ?_
              exact hnlt2 (asc_at hl hlt hp)
            have h5 := (block_at (l := l) hn (i := m) (p := p - m * n) (by omega)).1
            rw [show m * n + (p - m * n) = p from by omega] at h5
            rw [← h5]
            exact at_mem (by omega) (by omega)
    · rw [if_neg hfl]
      have hg := h.gap
      obtain rfl : last = first - 1 := by omega
      refine ⟨?_, by simp only; omega, by simp⟩
      simp only
      symm
      rw [decide_eq_false_iff_not]
      intro hx
      obtain ⟨p, hp, he⟩ := mem_at hx
      by_cases hpf : (p : Int) < first * n
      · have := h.below p hp hpf
        rw [he] at this; exact Pt.lin.irr _ this
      · have := h.above p hp (by rw [show first - 1 + 1 = first from by omega]; omega)
        rw [he] at this; exact Pt.lin.irr _ this
/-- The search through all blocks. -/
def findB (n : Nat) (l : List Pt) (x : Pt) : Bool × Int := searchB (blocks n l) x (nblocks n l + 1) 0 ((nblocks n l : Int) - 1) 0
theorem find_spec (hn : 1 ≤ n) (hl : AscP l) (x : Pt) : (findB n l x).1 = decide (x ∈ l) ∧ (findB n l x).2 ≤ (halvings (nblocks n l) : Nat) ∧ 0 ≤ (findB n l x).2 := by
  have h := search_spec hn hl x (nblocks n l + 1) 0 ((nblocks n l : Int) - 1) 0 ⟨by omega, by omega, by omega, fun p _ h => by omega, fun p hp h => by
    have h : ((nblocks n l : Int) - 1 + 1) * n ≤ p := h
    rw [show (nblocks n l : Int) - 1 + 1 = (nblocks n l : Nat) from by omega] at h
    have hh : nblocks n l * n ≤ p := by
      have : ((nblocks n l * n : Nat) : Int) = (nblocks n l : Int) * n := by push_cast; rfl
      omega
    have := (nblocks_lt hn l (nblocks n l)).2 (by omega)
    omega⟩ (by omega)
  refine ⟨h.1, ?_, h.2.2⟩
  have := h.2.1
  rw [show ((nblocks n l : Int) - 1 - 0 + 1).toNat = nblocks n l from by omega, Int.zero_add] at this
  exact this
end
end Go.Sl
/- The neighbours of a node in the blocks of an ascending list: the plain law. No Go. No conditions. -/
namespace Go.Sl
set_option linter.unusedVariables false
set_option linter.unusedSectionVars false

end Go.Sl
/- Runs of records: the plain laws that the walks of package runs lean on. No Go. No conditions. -/
namespace Go.Sl
set_option linter.unusedVariables false
set_option linter.unusedSectionVars false

def cmpI (a b : Int) : Int := if a < b then -1 else if b < a then 1 else 0
/-- The first one that is not 0. -/
def orL : List Int → Int
  | [] => 0
  | x :: xs => if x ≠ 0 then x else orL xs
theorem orL_stop {xs : List Int} {k : Nat} (hk : k < xs.length) (h : at_ xs (k : Int) ≠ 0) : orL (xs.drop k) = at_ xs (k : Int) := by
  rw [drop_at xs k hk]; simp only [orL]; rw [if_pos h]
theorem orL_step {xs : List Int} {k : Nat} (hk : k < xs.length) (h : at_ xs (k : Int) = 0) : orL (xs.drop k) = orL (xs.drop (k + 1)) := by
  rw [drop_at xs k hk]; simp only [orL]; rw [if_neg (by simp [h])]
theorem orL_end {xs : List Int} {k : Nat} (hk : xs.length ≤ k) : orL (xs.drop k) = 0 := by rw [List.drop_eq_nil_of_le hk]; rfl
theorem orL_cmp (a b : Pt) : orL [cmpI a.u b.u, cmpI a.v b.v] = Pt.cmp a b := by
  simp only [orL, cmpI, Pt.cmp]
  split <;> (try split at *) <;> (try split at *) <;> (try split at *) <;> (try split at *) <;> (try split at *) <;> omega

/-- The nodes of a record are right. -/
def Pt.right (p : Pt) : Prop := (0 ≤ p.u ∧ p.u < 64) ∧ (0 ≤ p.v ∧ p.v < 64) ∧ p.u ≠ p.v
instance (p : Pt) : Decidable p.right := by unfold Pt.right; infer_instance
/-- A valid run. -/
structure RunOk (n : Int) (l : List Pt) : Prop where
  size : 1 ≤ n ∧ n ≤ 1024
  asc : AscP l
  right : ∀ p ∈ l, p.right

theorem RunOk.prev {n : Int} {l : List Pt} (h : RunOk n l) {k : Nat} (hk : k < l.length) (h0 : 0 < k) : Pt.cmp (at_ l ((k : Int) - 1)) (at_ l (k : Int)) < 0 := by
  rw [Pt.cmp_lt]
  have := asc_at h.asc (i := k - 1) (j := k) (by omega) hk
  rwa [show ((k - 1 : Nat) : Int) = (k : Int) - 1 from by omega] at this
theorem RunOk.at {n : Int} {l : List Pt} (h : RunOk n l) {k : Nat} (hk : k < l.length) : (at_ l (k : Int)).right := h.right _ (at_mem (by omega) (by omega))

/-! ### Cutting into blocks, one after the other -/
section
variable {l rest : List Pt} {n : Nat} {j h : Nat}
theorem rest_take (hr : rest = l.drop (j * n)) (hh : h = min n rest.length) : rest.take h = block n l j := by
  subst hr hh
  unfold block
  by_cases hn : n ≤ (l.drop (j * n)).length
  · rw [Nat.min_eq_left hn]
  · rw [Nat.min_eq_right (by omega), List.take_of_length_le (Nat.le_refl _), List.take_of_length_le (by omega)]
theorem rest_drop (hr : rest = l.drop (j * n)) (hh : h = min n rest.length) : rest.drop h = l.drop ((j + 1) * n) := by
  subst hr hh
  rw [List.drop_drop, Nat.add_mul, Nat.one_mul]
  by_cases hn : n ≤ (l.drop (j * n)).length
  · rw [Nat.min_eq_left hn]
  · rw [Nat.min_eq_right (by omega), List.drop_eq_nil_of_le (by rw [List.length_drop] at *; omega), List.drop_eq_nil_of_le (by rw [List.length_drop] at *; omega)]
theorem rest_lt (hn : 1 ≤ n) (hr : rest = l.drop (j * n)) (h : 0 < rest.length) : j < nblocks n l := by
  subst hr
  rw [List.length_drop] at h
  exact (nblocks_lt hn l j).2 (by omega)
theorem rest_done (hn : 1 ≤ n) (hr : rest = l.drop (j * n)) (h : ¬ 0 < rest.length) (hj : j ≤ nblocks n l) : (List.range j).map (block n l) = blocks n l := by
  subst hr
  rw [List.length_drop] at h
  have : ¬ j < nblocks n l := fun hlt => by have := (nblocks_lt hn l j).1 hlt; omega
  have e : j = nblocks n l := by omega
  rw [e]; rfl
end
theorem map_push {rs : List (RowG Pt)} {r : RowG Pt} {j : Nat} {f : Nat → List Pt} (h : rs.map RowG.xs = (List.range j).map f) (hr : r.xs = f j) : (rs ++ [r]).map RowG.xs = (List.range (j + 1)).map f := by
  rw [List.map_append, h, List.range_succ, List.map_append]
  simp [hr]
theorem nblocks_le {n : Nat} (hn : 1 ≤ n) (l : List Pt) : nblocks n l ≤ l.length := by
  refine Nat.not_lt.1 fun h => ?_
  have := (nblocks_lt hn l l.length).1 h
  have : l.length * 1 ≤ l.length * n := Nat.mul_le_mul_left _ hn
  omega
/-- The blocks as rows. -/
theorem rows_at {rs : List (RowG Pt)} {bl : List (List Pt)} (h : rs.map RowG.xs = bl) {i : Int} (h0 : 0 ≤ i) (hn : i < rs.length) : (at_ rs i).xs = at_ bl i := by
  subst h
  obtain ⟨k, rfl⟩ : ∃ k : Nat, i = (k : Int) := ⟨i.toNat, by omega⟩
  rw [at_get rs k (by omega), at_get _ k (by simp; omega)]; simp
theorem rows_len {rs : List (RowG Pt)} {bl : List (List Pt)} (h : rs.map RowG.xs = bl) : rs.length = bl.length := by rw [← h]; simp

/-! ### The search's steps -/
section
variable {bl : List (List Pt)} {x : Pt} {fuel : Nat} {first last reads m : Int}
theorem search_lo (h : first ≤ last) (hm : (first + last) / 2 = m) (hc : Pt.cmp x (at_ (at_ bl m) 0) < 0) : searchB bl x (fuel + 1) first last reads = searchB bl x fuel first (m - 1) (reads + 1) := by
  subst hm
  conv => lhs; unfold searchB
  rw [if_pos h, if_pos ((Pt.cmp_lt _ _).1 hc)]
theorem search_hi (h : first ≤ last) (hm : (first + last) / 2 = m) (hc : ¬ Pt.cmp x (at_ (at_ bl m) 0) < 0) (hc2 : 0 < Pt.cmp x (at_ (at_ bl m) (((at_ bl m).length : Int) - 1))) : searchB bl x (fuel + 1) first last reads = searchB bl x fuel (m + 1) last (reads + 1) := by
  subst hm
  conv => lhs; unfold searchB
  rw [if_pos h, if_neg (fun hl => hc ((Pt.cmp_lt _ _).2 hl)), if_pos ((Pt.cmp_gt _ _).1 hc2)]
theorem search_in (h : first ≤ last) (hm : (first + last) / 2 = m) (hc : ¬ Pt.cmp x (at_ (at_ bl m) 0) < 0) (hc2 : ¬ 0 < Pt.cmp x (at_ (at_ bl m) (((at_ bl m).length : Int) - 1))) : searchB bl x (fuel + 1) first last reads = (decide (x ∈ at_ bl m), reads + 1) := by
  subst hm
  conv => lhs; unfold searchB
  rw [if_pos h, if_neg (fun hl => hc ((Pt.cmp_lt _ _).2 hl)), if_neg (fun hl => hc2 ((Pt.cmp_gt _ _).2 hl))]
theorem search_no (h : ¬ first ≤ last) : searchB bl x fuel first last reads = (false, reads) := by
  cases fuel with
  | zero => rfl
  | succ f => conv => lhs; unfold searchB
              rw [if_neg h]
end
theorem block_pos {n : Nat} (hn : 1 ≤ n) {l : List Pt} {i : Int} (h0 : 0 ≤ i) (h : i < (nblocks n l : Nat)) : 0 < (at_ (blocks n l) i).length := by
  rw [at_blocks hn h0 h]
  exact List.length_pos_iff.2 (block_ne hn (by omega))

theorem block_le {n : Nat} (hn : 1 ≤ n) {l : List Pt} {i : Int} (h0 : 0 ≤ i) (h : i < (nblocks n l : Nat)) : (at_ (blocks n l) i).length ≤ n := by
  rw [at_blocks hn h0 h, block_len]; omega
/-! ### Neighbours, block by block -/
end Go.Sl
/- Graphs: nodes and ascending edges: the plain laws. No Go. No conditions. -/
namespace Go.Sl
set_option linter.unusedVariables false

/-- A graph that is right. -/
structure GrOk (nodes : Int) (es : List Pt) : Prop where
  rng : 0 ≤ nodes ∧ nodes ≤ 64
  asc : AscP es
  edge : ∀ e ∈ es, 0 ≤ e.u ∧ e.u < e.v ∧ e.v < nodes
section
variable {nodes u v w : Int} {es : List Pt}
end

variable {nodes : Int} {es : List Pt}
theorem GrOk.at (h : GrOk nodes es) {k : Nat} (hk : k < es.length) : 0 ≤ (at_ es (k : Int)).u ∧ (at_ es (k : Int)).u < (at_ es (k : Int)).v ∧ (at_ es (k : Int)).v < nodes := h.edge _ (at_mem (by omega) (by omega))
theorem GrOk.prev (h : GrOk nodes es) {k : Nat} (hk : k < es.length) (h0 : 0 < k) : Pt.lt (at_ es ((k : Int) - 1)) (at_ es (k : Int)) := by
  have := asc_at h.asc (i := k - 1) (j := k) (by omega) hk
  rwa [show ((k - 1 : Nat) : Int) = (k : Int) - 1 from by omega] at this

/-! ### Runs of graphs -/
/-- Both records of all edges. -/
def dbl : List Pt → List Pt
  | [] => []
  | e :: es => e :: e.swap :: dbl es
theorem dbl_append (a b : List Pt) : dbl (a ++ b) = dbl a ++ dbl b := by
  induction a with
  | nil => rfl
  | cons e a ih => simp [dbl, ih]
theorem dbl_len (es : List Pt) : (dbl es).length = 2 * es.length := by
  induction es with
  | nil => rfl
  | cons e es ih => simp [dbl, ih]; omega
theorem mem_dbl {p : Pt} {es : List Pt} : p ∈ dbl es ↔ p ∈ es ∨ p.swap ∈ es := by
  induction es with
  | nil => simp [dbl]
  | cons e es ih =>
    have h : p = e.swap ↔ p.swap = e := ⟨fun h => by subst h; rfl, fun h => by subst h; rfl⟩
    simp only [dbl, List.mem_cons, ih, h]
    constructor
    · rintro (h | h | h | h)
      · exact .inl (.inl h)
      · exact .inr (.inl h)
      · exact .inl (.inr h)
      · exact .inr (.inr h)
    · rintro ((h | h) | (h | h))
      · exact .inl h
      · exact .inr (.inr (.inl h))
      · exact .inr (.inl h)
      · exact .inr (.inr (.inr h))
theorem dbl_take {es : List Pt} {k : Nat} (hk : k < es.length) : dbl (es.take (k + 1)) = dbl (es.take k) ++ [⟨(at_ es (k : Int)).u, (at_ es (k : Int)).v⟩, ⟨(at_ es (k : Int)).v, (at_ es (k : Int)).u⟩] := by
  rw [take_at es k hk, dbl_append]; rfl
/-- The records of a graph. -/
def both (es : List Pt) : List Pt := sortB Pt.lt (dbl es)
theorem mem_both {p : Pt} {es : List Pt} : p ∈ both es ↔ p ∈ es ∨ p.swap ∈ es := by unfold both; rw [mem_sortB, mem_dbl]
theorem both_len (es : List Pt) : (both es).length ≤ 2 * es.length := by unfold both; have := sortB_len (lt := Pt.lt) (dbl es); rw [dbl_len] at this; exact this
theorem GrOk.mem_both (h : GrOk nodes es) {p : Pt} (hp : p ∈ both es) : 0 ≤ p.u ∧ p.u < nodes ∧ 0 ≤ p.v ∧ p.v < nodes ∧ p.u ≠ p.v := by
  rcases Sl.mem_both.1 hp with hp | hp
  · have := h.edge _ hp; omega
  · have := h.edge _ hp; simp only [Pt.swap] at this; omega
theorem GrOk.both (h : GrOk nodes es) {n : Int} (hn : 1 ≤ n ∧ n ≤ 1024) : RunOk n (both es) :=
  ⟨hn, Pt.lin.sortB _, fun p hp => by have := h.mem_both hp; have := h.rng; unfold Pt.right; omega⟩
/-! ### Sorting -/
/-- In order, nothing lost. -/
def SortedP (xs ys : List Pt) : Prop := ys.Perm xs ∧ ys.Pairwise fun a b => ¬ Pt.lt b a
theorem sorted_nodup {xs ys : List Pt} (hn : xs.Nodup) (h : SortedP xs ys) : ys = sortB Pt.lt xs := by
  have hny : ys.Nodup := h.1.nodup_iff.2 hn
  have ha : ys.Pairwise Pt.lt := by
    refine (h.2.and hny).imp ?_
    rintro a b ⟨h1, h2⟩
    have h3 : ¬ (a.u = b.u ∧ a.v = b.v) := fun e => h2 ((Pt.ext_iff' a b).2 e)
    unfold Pt.lt at *
    omega
  exact (Pt.lin.sortB_eq ha fun x => h.1.mem_iff).symm
theorem asc_nodup {l : List Pt} (h : AscP l) : l.Nodup := h.imp fun {a b} h e => Pt.lin.ne h e
theorem dbl_nodup {es : List Pt} (hn : es.Nodup) (h : ∀ e ∈ es, e.u < e.v) : (dbl es).Nodup := by
  induction es with
  | nil => exact List.nodup_nil
  | cons e es ih =>
    have hlt := h e List.mem_cons_self
    obtain ⟨he, hn'⟩ := List.nodup_cons.1 hn
    have hs : e.swap ∉ es := fun hm => by have := h _ (List.mem_cons_of_mem _ hm); simp only [Pt.swap] at this; omega
    simp only [dbl]
    refine List.nodup_cons.2 ⟨fun hm => ?_, List.nodup_cons.2 ⟨fun hm => ?_, ih hn' fun x hx => h x (List.mem_cons_of_mem _ hx)⟩⟩
    · rcases List.mem_cons.1 hm with hm | hm
      · have : e.u = e.swap.u := congrArg Pt.u hm
        simp only [Pt.swap] at this; omega
      · rcases mem_dbl.1 hm with hm | hm
        · exact he hm
        · exact hs hm
    · rcases mem_dbl.1 hm with hm | hm
      · exact hs hm
      · exact he hm
theorem GrOk.sorted (h : GrOk nodes es) {ys : List Pt} (hs : SortedP (dbl es) ys) : ys = Sl.both es := sorted_nodup (dbl_nodup (asc_nodup h.asc) fun e he => (h.edge e he).2.1) hs
end Go.Sl
