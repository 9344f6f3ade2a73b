/- A part of the proofs of statements of this seat: contracts of functions, and the plain laws that they lean on. No conditions. -/
import Derived.Test.YtbimaodbcjjbfaaGreatDoorRunsD5
import Derived.Test.YtbimaodbcjjbfaaGreatDoorSets
import Derived.Test.YtbimaodbcjjbfaaGreatDoorGraphH5
import Derived.KernelRfl
/- Graphs as rows of bits: the plain laws. No Go. No conditions. -/
namespace Go.Sl
set_option linter.unusedVariables false
set_option linter.unusedSectionVars false
set_option maxRecDepth 10000
instance : Enc (BitVec 64) := ⟨fun b => [U64 b], 1, by omega, fun _ => rfl, fun _ u h => by simp at h; subst h; rfl⟩
/-- An edge more, both ways. -/
def addRow (rows : List (BitVec 64)) (e : Pt) : List (BitVec 64) :=
  if 0 ≤ e.u ∧ e.u < e.v ∧ e.v < rows.length then
    (rows.set e.u.toNat (at_ rows e.u ||| 1#64 <<< e.v.toNat)).set e.v.toNat (at_ (rows.set e.u.toNat (at_ rows e.u ||| 1#64 <<< e.v.toNat)) e.v ||| 1#64 <<< e.u.toNat)
  else rows
def rows0 (nd : Int) : List (BitVec 64) := List.replicate (min (max nd 0) 64).toNat 0#64
def rowsB (nd : Int) (es : List Pt) : List (BitVec 64) := es.foldl addRow (rows0 nd)
theorem addRow_len (rows : List (BitVec 64)) (e : Pt) : (addRow rows e).length = rows.length := by
  unfold addRow; split <;> simp
theorem rowsB_take {nd : Int} {es : List Pt} {k : Nat} (h : k < es.length) : rowsB nd (es.take (k + 1)) = addRow (rowsB nd (es.take k)) (at_ es (k : Int)) := by
  unfold rowsB; rw [take_at es k h, List.foldl_append]; rfl
theorem at_rep64 (n : Nat) (i : Int) : at_ (List.replicate n (0#64)) i = 0#64 := by
  unfold at_
  rw [List.getD_eq_getElem?_getD, List.getElem?_replicate]
  split <;> rfl
/-- Which bits are set. -/
structure RowsOk (nd : Int) (es : List Pt) (rows : List (BitVec 64)) : Prop where
  len : (rows.length : Int) = nd
  bit : ∀ v w : Int, 0 ≤ v → v < nd → 0 ≤ w → w < 64 → ((at_ rows v).getLsbD w.toNat = decide ((⟨v, w⟩ : Pt) ∈ es ∨ (⟨w, v⟩ : Pt) ∈ es))
theorem RowsOk.start {nd : Int} (h : 0 ≤ nd ∧ nd ≤ 64) : RowsOk nd [] (rows0 nd) :=
  ⟨by unfold rows0; simp; omega, fun v w _ _ _ _ => by unfold rows0; rw [at_rep64]; simp⟩
theorem addRow_at {rows : List (BitVec 64)} {e : Pt} (h : 0 ≤ e.u ∧ e.u < e.v ∧ e.v < rows.length) (j : Int) (h0 : 0 ≤ j) (h1 : j < rows.length) :
    at_ (addRow rows e) j = if e.v = j then at_ rows e.v ||| 1#64 <<< e.u.toNat else if e.u = j then at_ rows e.u ||| 1#64 <<< e.v.toNat else at_ rows j := by
  unfold addRow
  rw [if_pos h, at_set _ e.v j _ (by omega) h0 (by rw [List.length_set]; omega)]
  by_cases hv : e.v = j
  · rw [if_pos hv, if_pos hv, at_set _ e.u e.v _ (by omega) (by omega) (by omega), if_neg (by omega)]
  · rw [if_neg hv, if_neg hv, at_set _ e.u j _ (by omega) h0 (by omega)]
theorem getLsb_shl (a i : Nat) (hi : i < 64) : (1#64 <<< a).getLsbD i = decide (a = i) := by
  show (BitVec.twoPow 64 a).getLsbD i = _
  rw [BitVec.getLsbD_twoPow]
  by_cases h : a = i
  · subst h; simp [hi]
  · simp [h]
theorem RowsOk.push {nd : Int} {es : List Pt} {rows : List (BitVec 64)} {e : Pt} (h : RowsOk nd es rows) (he : 0 ≤ e.u ∧ e.u < e.v ∧ e.v < nd) (hn : nd ≤ 64) : RowsOk nd (es ++ [e]) (addRow rows e) := by
  have hl := h.len
  refine ⟨by rw [addRow_len]; exact hl, fun v w v0 v1 w0 w1 => ?_⟩
  rw [addRow_at (by omega) v v0 (by omega)]
  have hb := h.bit v w v0 v1 w0 w1
  have hext : ∀ a b : Int, ((⟨a, b⟩ : Pt) = e) ↔ (a = e.u ∧ b = e.v) := fun a b => by rw [Pt.ext_iff']
  simp only [List.mem_append, List.mem_singleton, hext]
  by_cases hv : e.v = v
  · rw [if_pos hv, BitVec.getLsbD_or, getLsb_shl _ _ (by omega), hv, hb]
    have e1 : (e.u.toNat = w.toNat) ↔ (w = e.u ∧ v = e.v) := by omega
    have e2 : ¬ (v = e.u ∧ w = e.v) := by omega
    rw [decide_eq_decide.2 e1]
    rw [← Bool.decide_or, decide_eq_decide]
    constructor
    · rintro ((a | b) | c)
      · exact .inl (.inl a)
      · exact .inr (.inl b)
      · exact .inr (.inr ⟨c.1, rfl⟩)
    · rintro ((a | c) | (b | c))
      · exact .inl (.inl a)
      · exact absurd c (fun c => by omega)
      · exact .inl (.inr b)
      · exact .inr ⟨c.1, hv.symm⟩
  · rw [if_neg hv]
    by_cases hu : e.u = v
    · rw [if_pos hu, BitVec.getLsbD_or, getLsb_shl _ _ (by omega), hu, hb]
      have e1 : (e.v.toNat = w.toNat) ↔ (v = e.u ∧ w = e.v) := by omega
      have e2 : ¬ (w = e.u ∧ v = e.v) := by omega
      rw [decide_eq_decide.2 e1]
      rw [← Bool.decide_or, decide_eq_decide]
      constructor
      · rintro ((a | b) | c)
        · exact .inl (.inl a)
        · exact .inr (.inl b)
        · exact .inl (.inr ⟨rfl, c.2⟩)
      · rintro ((a | c) | (b | c))
        · exact .inl (.inl a)
        · exact .inr ⟨hu.symm, c.2⟩
        · exact .inl (.inr b)
        · exact absurd c (fun c => by omega)
    · rw [if_neg hu, hb]
      have e1 : ¬ (v = e.u ∧ w = e.v) := by omega
      have e2 : ¬ (w = e.u ∧ v = e.v) := by omega
      simp [e1, e2]
theorem rowsB_ok {nd : Int} {es : List Pt} (h : GrOk nd es) : ∀ k, k ≤ es.length → RowsOk nd (es.take k) (rowsB nd (es.take k))
  | 0, _ => by simpa [rowsB] using RowsOk.start h.rng
  | k + 1, hk => by
    rw [rowsB_take (by omega), take_at es k (by omega)]
    exact (rowsB_ok h k (by omega)).push (h.at (by omega)) h.rng.2
theorem GrOk.rows {nd : Int} {es : List Pt} (h : GrOk nd es) : RowsOk nd es (rowsB nd es) := by
  have := rowsB_ok h es.length (Nat.le_refl _)
  rwa [List.take_length] at this
end Go.Sl
namespace Go.Sl
open Go.Proofs
set_option linter.unusedVariables false
set_option linter.unusedSimpArgs false
set_option maxRecDepth 4000
theorem RowsOk.small {nd : Int} {es : List Pt} {rows : List (BitVec 64)} (h : RowsOk nd es rows) (hG : ∀ e ∈ es, 0 ≤ e.u ∧ e.u < e.v ∧ e.v < nd) (hn : nd ≤ 9) {v : Int} (h0 : 0 ≤ v) (h1 : v < nd) : (at_ rows v).toNat < 512 := by
  refine Nat.lt_pow_two_of_testBit (n := 9) _ fun i hi => ?_
  by_cases h64 : i < 64
  · have := h.bit v (i : Int) h0 h1 (by omega) (by omega)
    rw [Int.toNat_natCast] at this
    rw [← BitVec.getLsbD, this, decide_eq_false]
    rintro (hh | hh)
    · have := hG _ hh; simp only at this; omega
    · have := hG _ hh; simp only at this; omega
  · rw [← BitVec.getLsbD]; exact BitVec.getLsbD_of_ge _ _ (by omega)
end Go.Sl
