/- A part of the proofs of statements of this seat: contracts of functions, and the plain laws that they lean on. No conditions. -/
import Derived.Test.YtbimaodbcjjbfaaGreatDoorGraphH5
import Derived.Test.YtbimaodbcjjbfaaGreatDoorRunsD5
import Derived.Test.YtbimaodbcjjbfaaGreatDoorSets
/- The library's table for trailing zeros; sets of nodes as bits, listed. No conditions. -/
namespace Go.Sl
set_option linter.unusedVariables false
set_option linter.unusedSimpArgs false
set_option linter.unusedSectionVars false
/-! ### A table that lies in memory from the start -/
def TabRd (κ : Ctx) (I : List Item) (g : Nat) (tab : List Value) : Prop := ∀ w, Sep κ w I → ∀ j u, tab[j]? = some u → w.cell? ⟨g, j, none⟩ = some u
theorem TabRd.fit {κ : Ctx} {I J : List Item} {g : Nat} {tab : List Value} (h : TabRd κ I g tab) (hf : Fit κ J I) : TabRd κ J g tab := fun w hs => h w (hf w hs)
section
variable {P : Program} {κ : Ctx} {N : Nat} {Q : Exit → Act → World → Prop} {L : Env} {I J : List Item}
variable {d : Option Tmp} {ty : TypeId} {ps : String} {af : Array Edge} {gd : Option (Nat × Bool)}
variable {x y : Operand} {T U : TypeId} {a b : BitVec 64}
theorem Runs.negB (hx : evalO L x = some (U64 a)) : Runs P κ N ⟨d, .unOp .neg T x, ty, ps, af, gd⟩ L J (U64 (-a)) := fun act w ha _ => by
  have e : IntKind.u64.wrap (-(a.toNat : Int)) = ((-a).toNat : Int) := by
    have e2 : (-a).toNat = (18446744073709551616 - a.toNat) % 18446744073709551616 := BitVec.toNat_neg a
    have h1 : a.toNat < 18446744073709551616 := a.isLt
    rw [u64_wrap, e2]; omega
  simp only [execOp, ha.eval hx]
  simp [go_sem, e]
theorem Runs.mulB (hx : evalO L x = some (U64 a)) (hy : evalO L y = some (U64 b)) : Runs P κ N ⟨d, .binOp .mul T x y U, ty, ps, af, gd⟩ L J (U64 (a * b)) := by
  have h := Runs.mulw (P := P) (κ := κ) (N := N) (J := J) (d := d) (ty := ty) (ps := ps) (af := af) (gd := gd) (T := T) (U := U) hx hy
  have e : IntKind.u64.wrap ((a.toNat : Int) * (b.toNat : Int)) = ((a * b).toNat : Int) := by 
    have e2 : (a * b).toNat = a.toNat * b.toNat % 18446744073709551616 := BitVec.toNat_mul a b
    rw [u64_wrap, e2, ← Int.natCast_mul]; omega
  rwa [e] at h
theorem Runs.idxArrU {E n g sz by' : Nat} {k : IntKind} {ag : Bool} {z : List Value} {i : Nat} (ht : P.underlying T = some (.array n E)) (hE : tyF P E = some (sz, ag, by', z)) (hx : evalO L x = some (.pointer (some ⟨g, 0, none⟩)))
    (hy : evalO L y = some (.int k (i : Int))) (hn : i < n) : Runs P κ N ⟨d, .indexAddr T x y, ty, ps, af, gd⟩ L J (.pointer (some ⟨g, 0 + i * sz, none⟩)) :=
  fun act w ha hs => by
    simp [execOp, ha.eval hx, ha.eval hy, Instr.indexAt, asIntOf, run_underlying ht, hn, run_sizeOf hE, Instr.sureAddr, addr_add]
theorem Runs.loadTab {sz by' g i : Nat} {z tab : List Value} {v : Value} (hT : tyF P T = some (sz, false, by', z)) (hx : evalO L x = some (.pointer (some ⟨g, 0 + i * 1, none⟩))) (hb : TabRd κ J g tab) (hc : tab[i]? = some v) :
    Runs P κ N ⟨d, .load T x, ty, ps, af, gd⟩ L J v := fun act w ha hs => by
  simp only [execOp, ha.eval hx]
  simp [Instr.loadAt, Instr.sureAddr, run_loadVar_one hT (hb w hs i v hc)]
end
/-! ### The least bit -/
def tzTab : List Int := [0, 1, 56, 2, 57, 49, 28, 3, 61, 58, 42, 50, 38, 29, 17, 4, 62, 47, 59, 36, 45, 43, 51, 22, 53, 39, 33, 30, 24, 18, 12, 5, 63, 55, 48, 27, 60, 41, 37, 16, 46, 35, 44, 21, 52, 32, 23, 11, 54, 26, 40, 15, 34, 20, 31, 10, 25, 14, 19, 9, 13, 8, 7, 6]
def tzCells : List Value := tzTab.map fun n => .int .u8 n
def tzIx (m : BitVec 64) : Nat := (((m &&& (-m)) * 285870213051353865#64) >>> (58 : Int).toNat).toNat
def tzB (m : BitVec 64) : Int := if m = 0#64 then 64 else tzTab.getD (tzIx m) 0
theorem tzIx_lt (m : BitVec 64) : tzIx m < 64 := by
  unfold tzIx
  rw [BitVec.toNat_ushiftRight, Nat.shiftRight_eq_div_pow, show 2 ^ (58 : Int).toNat = 288230376151711744 by decide]
  have := ((m &&& (-m)) * 285870213051353865#64).isLt
  omega
theorem tzCells_at (m : BitVec 64) : tzCells[tzIx m]? = some (.int .u8 (tzTab.getD (tzIx m) 0)) := by
  unfold tzCells
  have h : tzIx m < tzTab.length := tzIx_lt m
  rw [List.getElem?_map, List.getElem?_eq_getElem h, List.getD_eq_getElem?_getD, List.getElem?_eq_getElem h, Option.map_some, Option.getD_some]
theorem odd_part : ∀ n : Nat, 0 < n → ∃ k q, n = 2 ^ k * (2 * q + 1)
  | n, h => by
    by_cases hp : n % 2 = 1
    · exact ⟨0, n / 2, by omega⟩
    · obtain ⟨k, q, e⟩ := odd_part (n / 2) (by omega)
      exact ⟨k + 1, q, by rw [Nat.pow_succ, Nat.mul_assoc, Nat.mul_comm 2 (2 * q + 1), ← Nat.mul_assoc, ← e]; omega⟩
theorem bit_of {k q j : Nat} : (2 ^ k * (2 * q + 1)).testBit j = (decide (k ≤ j) && if j = k then true else q.testBit (j - k - 1)) := by
  rw [Nat.testBit_two_pow_mul]
  by_cases h : k ≤ j
  · rw [show decide (k ≤ j) = true from decide_eq_true h]
    by_cases hj : j = k
    · subst hj; simp
    · rw [if_neg hj, show j - k = (j - k - 1) + 1 by omega, Nat.testBit_succ, show (2 * q + 1) / 2 = q by omega]; simp
  · rw [show decide (k ≤ j) = false from decide_eq_false h]; simp
theorem bit_pred {k q j : Nat} : (2 ^ k * (2 * q + 1) - 1).testBit j = if j < k then true else if j = k then false else q.testBit (j - k - 1) := by
  have hk : 0 < 2 ^ k := Nat.two_pow_pos k
  have e : 2 ^ k * (2 * q + 1) - 1 = 2 ^ k * (2 * q) + (2 ^ k - 1) := by rw [Nat.mul_add]; omega
  rw [e, Nat.testBit_two_pow_mul_add _ (by omega)]
  by_cases h : j < k
  · rw [if_pos h, if_pos h, Nat.testBit_two_pow_sub_one]; simpa using h
  · rw [if_neg h, if_neg h]
    by_cases hj : j = k
    · rw [if_pos hj, hj]; simp
    · rw [if_neg hj, show j - k = (j - k - 1) + 1 by omega, Nat.testBit_succ, show 2 * q / 2 = q by omega]; simp
/-- The least bit of a number that is not 0. -/
theorem least_bit {m : BitVec 64} (h : m ≠ 0#64) : ∃ k : Nat, k < 64 ∧ m.getLsbD k = true ∧ (∀ j, j < k → m.getLsbD j = false) ∧ m &&& (-m) = 1#64 <<< k ∧ ∀ j, (m &&& (m - 1#64)).getLsbD j = (m.getLsbD j && decide (j ≠ k)) := by
  have h0 : 0 < m.toNat := by
    rcases Nat.eq_zero_or_pos m.toNat with h1 | h1
    · exact absurd (BitVec.eq_of_toNat_eq (by rw [h1]; rfl)) h
    · exact h1
  obtain ⟨k, q, e⟩ := odd_part m.toNat h0
  have hlt := m.isLt
  have hk : k < 64 := by
    rcases Nat.lt_or_ge k 64 with hk | hk
    · exact hk
    · have h1 : 2 ^ 64 ≤ 2 ^ k := Nat.pow_le_pow_right (by decide) hk
      have h2 : 2 ^ k * 1 ≤ 2 ^ k * (2 * q + 1) := Nat.mul_le_mul_left _ (by omega)
      omega
  have hm : ∀ j, m.getLsbD j = (decide (k ≤ j) && if j = k then true else q.testBit (j - k - 1)) := fun j => by
    rw [BitVec.getLsbD, e, bit_of]
  have hp : ∀ j, (m - 1#64).getLsbD j = if j < k then true else if j = k then false else q.testBit (j - k - 1) := fun j => by
    have e1 : (m - 1#64).toNat = m.toNat - 1 := by rw [BitVec.toNat_sub]; show (2 ^ 64 - 1 + m.toNat) % 2 ^ 64 = _; omega
    rw [BitVec.getLsbD, e1, e, bit_pred]
  have hn : ∀ j, j < 64 → (-m).getLsbD j = !(if j < k then true else if j = k then false else q.testBit (j - k - 1)) := fun j hj => by
    have e1 : (-m).toNat = 2 ^ 64 - ((m.toNat - 1) + 1) := by rw [BitVec.toNat_neg]; omega
    rw [BitVec.getLsbD, e1, Nat.testBit_two_pow_sub_succ (by omega), decide_eq_true hj, e, bit_pred]; rfl
  refine ⟨k, hk, by rw [hm]; simp, fun j hj => by rw [hm, decide_eq_false (by omega)]; rfl, ?_, fun j => ?_⟩
  · refine BitVec.eq_of_getLsbD_eq fun j hj => ?_
    rw [BitVec.getLsbD_and, hm, hn j hj, BitVec.getLsbD_shiftLeft, decide_eq_true hj, BitVec.getLsbD_one]
    by_cases h1 : j < k
    · rw [if_pos h1, decide_eq_false (show ¬ k ≤ j by omega), decide_eq_true h1]; rfl
    · rw [if_neg h1, decide_eq_true (show k ≤ j by omega), decide_eq_false h1]
      by_cases h2 : j = k
      · rw [if_pos h2, if_pos h2, decide_eq_true (show j - k = 0 by omega)]; rfl
      · rw [if_neg h2, if_neg h2, decide_eq_false (show ¬ j - k = 0 by omega)]
        cases q.testBit (j - k - 1) <;> rfl
  · rw [BitVec.getLsbD_and, hm, hp]
    by_cases h1 : j < k
    · rw [if_pos h1, decide_eq_false (show ¬ k ≤ j by omega)]; rfl
    · rw [if_neg h1, decide_eq_true (show k ≤ j by omega)]
      by_cases h2 : j = k
      · rw [if_pos h2, if_pos h2, decide_eq_false (show ¬ j ≠ k from fun hc => hc h2), Bool.and_false]
      · rw [if_neg h2, if_neg h2, decide_eq_true h2]
        cases q.testBit (j - k - 1) <;> rfl
theorem tz_pow : ∀ k : Fin 64, tzTab.getD (((1#64 <<< k.val) * 285870213051353865#64) >>> (58 : Int).toNat).toNat 0 = (k.val : Int) := by decide +kernel
theorem tzB_eq {m : BitVec 64} {k : Nat} (h : m ≠ 0#64) (hk : k < 64) (he : m &&& (-m) = 1#64 <<< k) : tzB m = (k : Int) := by
  unfold tzB tzIx
  rw [if_neg h, he]
  exact tz_pow ⟨k, hk⟩
/-! ### The members of a set, ascending -/
def listN (m : BitVec 64) : List Nat := (List.range 64).filter fun i => m.getLsbD i
def listB (m : BitVec 64) : List Int := (listN m).map fun (i : Nat) => (i : Int)
theorem listN_asc (m : BitVec 64) : (listN m).Pairwise (· < ·) := (List.pairwise_lt_range).sublist List.filter_sublist
theorem mem_listN {m : BitVec 64} {i : Nat} : i ∈ listN m ↔ m.getLsbD i = true := by
  unfold listN
  rw [List.mem_filter, List.mem_range]
  exact ⟨fun h => h.2, fun h => ⟨BitVec.lt_of_getLsbD h, h⟩⟩
theorem natLin : LinO (α := Nat) (· < ·) := ⟨Nat.lt_irrefl, fun _ _ _ => Nat.lt_trans, Nat.lt_trichotomy⟩
theorem listN_zero : listN 0#64 = [] := by
  unfold listN
  exact List.filter_eq_nil_iff.2 fun i _ => by simp
theorem listN_step {m : BitVec 64} (h : m ≠ 0#64) : ∃ k : Nat, k < 64 ∧ tzB m = (k : Int) ∧ m.getLsbD k = true ∧ listN m = k :: listN (m &&& (m - 1#64)) := by
  obtain ⟨k, hk, hb, hl, he, hc⟩ := least_bit h
  refine ⟨k, hk, tzB_eq h hk he, hb, natLin.uniq (listN_asc m) (List.pairwise_cons.2 ⟨fun j hj => ?_, listN_asc _⟩) fun j => ?_⟩
  · rw [mem_listN, hc, Bool.and_eq_true, decide_eq_true_eq] at hj
    rcases Nat.lt_trichotomy j k with h1 | h1 | h1
    · rw [hl j h1] at hj; cases hj.1
    · exact absurd h1 hj.2
    · exact h1
  · rw [List.mem_cons, mem_listN, mem_listN, hc, Bool.and_eq_true, decide_eq_true_eq]
    constructor
    · intro h1
      by_cases h2 : j = k
      · exact .inl h2
      · exact .inr ⟨h1, h2⟩
    · rintro (rfl | ⟨h1, _⟩)
      · exact hb
      · exact h1
theorem listB_zero : listB 0#64 = [] := by unfold listB; rw [listN_zero]; rfl
theorem listB_step {m : BitVec 64} (h : m ≠ 0#64) : listB m = tzB m :: listB (m &&& (m - 1#64)) := by
  obtain ⟨k, hk, ht, _, he⟩ := listN_step h
  unfold listB
  rw [he, ht]; rfl
theorem listN_len (m : BitVec 64) : (listN m).length ≤ 64 := by
  unfold listN
  have := List.length_filter_le (fun i => m.getLsbD i) (List.range 64)
  rwa [List.length_range] at this
theorem listB_len (m : BitVec 64) : (listB m).length ≤ 64 := by unfold listB; rw [List.length_map]; exact listN_len m
theorem listB_less {m : BitVec 64} (h : m ≠ 0#64) : (listB (m &&& (m - 1#64))).length < (listB m).length := by rw [listB_step h]; exact Nat.lt_succ_self _
theorem mem_listB {m : BitVec 64} {x : Int} : x ∈ listB m ↔ 0 ≤ x ∧ m.getLsbD x.toNat = true := by
  unfold listB
  rw [List.mem_map]
  constructor
  · rintro ⟨i, hi, rfl⟩; exact ⟨by omega, by rw [Int.toNat_natCast]; exact mem_listN.1 hi⟩
  · rintro ⟨h1, h2⟩; exact ⟨x.toNat, mem_listN.2 h2, by omega⟩
theorem listB_asc (m : BitVec 64) : (listB m).Pairwise (· < ·) := by
  unfold listB
  rw [List.pairwise_map]
  exact (listN_asc m).imp fun h => by omega
end Go.Sl
