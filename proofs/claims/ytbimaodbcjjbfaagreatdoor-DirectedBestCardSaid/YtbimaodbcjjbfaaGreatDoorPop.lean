/- A part of the proofs of statements of this seat: contracts of functions, and the plain laws that they lean on. No conditions. -/
import Derived.Test.YtbimaodbcjjbfaaGreatDoorTab
/- The library's way to count bits is right. The plain law. No Go. No conditions. -/
namespace Go.Sl
set_option linter.unusedVariables false
set_option linter.unusedSectionVars false
/-- A number by its bytes, the least first. -/
def valN : List Nat → Nat
  | [] => 0
  | b :: bs => 2 ^ 8 * valN bs + b
theorem and_dig {a b c d : Nat} (hb : b < 2 ^ 8) (hd : d < 2 ^ 8) : (2 ^ 8 * a + b) &&& (2 ^ 8 * c + d) = 2 ^ 8 * (a &&& c) + (b &&& d) := by
  refine Nat.eq_of_testBit_eq fun j => ?_
  rw [Nat.testBit_and, Nat.testBit_two_pow_mul_add _ hb, Nat.testBit_two_pow_mul_add _ hd, Nat.testBit_two_pow_mul_add _ (Nat.and_lt_two_pow _ hd)]
  by_cases h : j < 8
  · rw [if_pos h, if_pos h, if_pos h, Nat.testBit_and]
  · rw [if_neg h, if_neg h, if_neg h, Nat.testBit_and]
def repN (c : Nat) (k : Nat) : Nat := valN (List.replicate k c)
theorem repN_succ (c k : Nat) : repN c (k + 1) = 2 ^ 8 * repN c k + c := rfl
def p1 (b : Nat) : Nat := ((b / 2) &&& 85) + (b &&& 85)
def p2 (b : Nat) : Nat := ((b / 4) &&& 51) + (b &&& 51)
def p3 (b : Nat) : Nat := (b / 16 + b) % 16
theorem c1 : ∀ t : Fin 2, ∀ x : Fin 128, (128 * t.val + x.val) &&& 85 = x.val &&& 85 := by decide +kernel
theorem c2 : ∀ t : Fin 4, ∀ x : Fin 64, (64 * t.val + x.val) &&& 51 = x.val &&& 51 := by decide +kernel
theorem b1 : ∀ b : Fin 256, p1 b.val < 256 ∧ p2 (p1 b.val) % 16 ≤ 4 ∧ p2 (p1 b.val) / 16 ≤ 4 ∧ p3 (p2 (p1 b.val)) ≤ 8 ∧ p3 (p2 (p1 b.val)) = ((List.range 8).filter fun j => b.val.testBit j).length := by decide +kernel
theorem step1 : ∀ bs : List Nat, (∀ b ∈ bs, b < 256) → ((valN bs / 2) &&& repN 85 bs.length) + (valN bs &&& repN 85 bs.length) = valN (bs.map p1)
  | [], _ => rfl
  | b :: bs, h => by
    have hb := h b List.mem_cons_self
    have ih := step1 bs fun x hx => h x (List.mem_cons_of_mem _ hx)
    rw [List.length_cons, repN_succ, List.map_cons]
    simp only [valN]
    have e : (2 ^ 8 * valN bs + b) / 2 = 2 ^ 8 * (valN bs / 2) + (128 * (valN bs % 2) + b / 2) := by omega
    have hc := c1 ⟨valN bs % 2, by omega⟩ ⟨b / 2, by omega⟩
    simp only at hc
    rw [e, and_dig (by omega) (by decide), and_dig (by omega) (by decide), hc]
    rw [show p1 b = (b / 2 &&& 85) + (b &&& 85) from rfl]
    omega
theorem step2 : ∀ bs : List Nat, (∀ b ∈ bs, b < 256) → ((valN bs / 4) &&& repN 51 bs.length) + (valN bs &&& repN 51 bs.length) = valN (bs.map p2)
  | [], _ => rfl
  | b :: bs, h => by
    have hb := h b List.mem_cons_self
    have ih := step2 bs fun x hx => h x (List.mem_cons_of_mem _ hx)
    rw [List.length_cons, repN_succ, List.map_cons]
    simp only [valN]
    have e : (2 ^ 8 * valN bs + b) / 4 = 2 ^ 8 * (valN bs / 4) + (64 * (valN bs % 4) + b / 4) := by omega
    have hc := c2 ⟨valN bs % 4, by omega⟩ ⟨b / 4, by omega⟩
    simp only at hc
    rw [e, and_dig (by omega) (by decide), and_dig (by omega) (by decide), hc]
    rw [show p2 b = (b / 4 &&& 51) + (b &&& 51) from rfl]
    omega
theorem step3 : ∀ bs : List Nat, (∀ b ∈ bs, b % 16 ≤ 4 ∧ b / 16 ≤ 4) → (valN bs / 16 + valN bs) &&& repN 15 bs.length = valN (bs.map p3)
  | [], _ => rfl
  | b :: bs, h => by
    have hb := h b List.mem_cons_self
    have ih := step3 bs fun x hx => h x (List.mem_cons_of_mem _ hx)
    have hn : valN bs % 16 ≤ 4 := by
      cases bs with
      | nil => simp [valN]
      | cons c cs =>
        have := (h c (List.mem_cons_of_mem _ List.mem_cons_self)).1
        simp only [valN]; omega
    rw [List.length_cons, repN_succ, List.map_cons]
    simp only [valN]
    have e : (2 ^ 8 * valN bs + b) / 16 + (2 ^ 8 * valN bs + b) = 2 ^ 8 * (valN bs / 16 + valN bs) + (16 * (valN bs % 16) + b / 16 + b) := by omega
    rw [e, and_dig (by omega) (by decide), ih, show (15 : Nat) = 2 ^ 4 - 1 by decide, Nat.and_two_pow_sub_one_eq_mod]
    rw [show p3 b = (b / 16 + b) % 16 from rfl]
    omega
def bytesN (n : Nat) : Nat → List Nat
  | 0 => []
  | k + 1 => n % 256 :: bytesN (n / 256) k
theorem bytesN_len (n k : Nat) : (bytesN n k).length = k := by
  induction k generalizing n with
  | zero => rfl
  | succ k ih => simp [bytesN, ih]
theorem bytesN_lt (n k : Nat) : ∀ b ∈ bytesN n k, b < 256 := by
  induction k generalizing n with
  | zero => intro b hb; cases hb
  | succ k ih =>
    intro b hb
    rcases List.mem_cons.1 hb with rfl | hb
    · omega
    · exact ih _ b hb
theorem bytesN_val : ∀ (k n : Nat), n < 256 ^ k → valN (bytesN n k) = n
  | 0, n, h => by simp at h; subst h; rfl
  | k + 1, n, h => by
    rw [Nat.pow_succ] at h
    simp only [bytesN, valN]
    rw [bytesN_val k (n / 256) (by omega)]
    omega
def sumN' : List Nat → Nat
  | [] => 0
  | b :: bs => b + sumN' bs
theorem cnt_val : ∀ bs : List Nat, (∀ b ∈ bs, b < 256) → ((List.range (8 * bs.length)).filter fun j => (valN bs).testBit j).length = sumN' (bs.map fun b => p3 (p2 (p1 b)))
  | [], _ => rfl
  | b :: bs, h => by
    have hb := h b List.mem_cons_self
    have ih := cnt_val bs fun x hx => h x (List.mem_cons_of_mem _ hx)
    rw [List.length_cons, show 8 * (bs.length + 1) = 8 + 8 * bs.length by omega, List.range_add, List.filter_append, List.length_append, List.map_cons]
    simp only [sumN', valN]
    rw [← ih, (b1 ⟨b, hb⟩).2.2.2.2, List.filter_map, List.length_map]
    congr 2
    · refine List.filter_congr fun j hj => ?_
      rw [Nat.testBit_two_pow_mul_add _ hb, if_pos (List.mem_range.1 hj)]
    · refine List.filter_congr fun j hj => ?_
      show (2 ^ 8 * valN bs + b).testBit (8 + j) = _
      rw [Nat.testBit_two_pow_mul_add _ hb, if_neg (by omega), Nat.add_sub_cancel_left]
theorem fold4 {d0 d1 d2 m2 m3 n m1 n4 : Nat} (h0 : d0 ≤ 8) (h1 : d1 ≤ 8) (h2 : d2 ≤ 8) (en : n = d0 + 256 * d1 + 65536 * m2) (e1 : m1 = d1 + 256 * d2 + 65536 * m3) (h4 : n4 = n + m1) :
    n4 = (d0 + d1) + 256 * (d1 + d2) + 65536 * (m2 + m3) ∧ n4 / 65536 = m2 + m3 := by omega
theorem fold5 {a b c u n4 n5 : Nat} (ha : a ≤ 16) (hb : b ≤ 16) (hc : c < 65536) (h4 : n4 = a + 256 * b + 65536 * (c + 65536 * u)) (h5 : n5 = n4 + (c + 65536 * u)) : n5 = a + 256 * b + c + 65536 * (c + u) + 4294967296 * u := by omega
theorem fold6 {x c u s t n5 : Nat} (hx : x < 65536) (hc : c ≤ 5000) (hs : s ≤ 5000) (hu : u = s + 65536 * t) (h5 : n5 = x + 65536 * (c + u) + 4294967296 * u) : n5 / 4294967296 = u + t := by omega
theorem fold_sum {d0 d1 d2 d3 d4 d5 d6 d7 m1 m2 m3 m4 m5 m6 n n4 n5 n6 : Nat} (h0 : d0 ≤ 8) (h1 : d1 ≤ 8) (h2 : d2 ≤ 8) (h3 : d3 ≤ 8) (h4 : d4 ≤ 8) (h5 : d5 ≤ 8) (h6 : d6 ≤ 8) (h7 : d7 ≤ 8)
    (e6 : m6 = d6 + 256 * d7) (e5 : m5 = d5 + 256 * d6 + 65536 * d7) (e4 : m4 = d4 + 256 * d5 + 65536 * m6) (e3 : m3 = d3 + 256 * d4 + 65536 * m5) (e2 : m2 = d2 + 256 * d3 + 65536 * m4) (e1 : m1 = d1 + 256 * d2 + 65536 * m3) (e0 : n = d0 + 256 * d1 + 65536 * m2)
    (g4 : n4 = n + m1) (g5 : n5 = n4 + n4 / 65536) (g6 : n6 = n5 + n5 / 4294967296) : n6 % 128 = d0 + d1 + d2 + d3 + d4 + d5 + d6 + d7 := by
  obtain ⟨a1, a2⟩ := fold4 h0 h1 h2 e0 e1 g4
  have hc : m2 + m3 = ((d2 + d3) + 256 * (d3 + d4)) + 65536 * (m4 + m5) := by clear e0 e1 e4 e5 e6 g4 g5 g6 a1 a2; omega
  have hu : m4 + m5 = ((d4 + d5) + 256 * (d5 + d6)) + 65536 * (m6 + d7) := by clear e0 e1 e2 e3 e6 g4 g5 g6 a1 a2 hc; omega
  rw [a2, hc] at g5
  rw [hc] at a1
  have b1 := fold5 (by omega) (by omega) (by omega) a1 g5
  have b2 := fold6 (x := d0 + d1 + 256 * (d1 + d2) + ((d2 + d3) + 256 * (d3 + d4))) (by omega) (by omega) (by omega) hu b1
  rw [b2] at g6
  clear b2 a2 hc e0 e1 e2 e3 e4 e5 g4 g5 a1
  omega
/-- The bits that are set are as many as are counted. -/
theorem fold_all {bs : List Nat} {n n4 n5 n6 : Nat} (hl : bs.length = 8) (hb : ∀ b ∈ bs, b ≤ 8) (hn : n = valN bs) (g4 : n4 = n + n / 256) (g5 : n5 = n4 + n4 / 65536) (g6 : n6 = n5 + n5 / 4294967296) : n6 % 128 = sumN' bs ∧ n6 < 18446744073709551616 := by
  match bs, hl with
  | [d0, d1, d2, d3, d4, d5, d6, d7], _ =>
    have k0 := hb d0 (by simp)
    have k1 := hb d1 (by simp)
    have k2 := hb d2 (by simp)
    have k3 := hb d3 (by simp)
    have k4 := hb d4 (by simp)
    have k5 := hb d5 (by simp)
    have k6 := hb d6 (by simp)
    have k7 := hb d7 (by simp)
    obtain ⟨m6, e6⟩ : ∃ m6, m6 = d6 + 256 * d7 := ⟨_, rfl⟩
    obtain ⟨m5, e5⟩ : ∃ m5, m5 = d5 + 256 * d6 + 65536 * d7 := ⟨_, rfl⟩
    obtain ⟨m4, e4⟩ : ∃ m4, m4 = d4 + 256 * d5 + 65536 * m6 := ⟨_, rfl⟩
    obtain ⟨m3, e3⟩ : ∃ m3, m3 = d3 + 256 * d4 + 65536 * m5 := ⟨_, rfl⟩
    obtain ⟨m2, e2⟩ : ∃ m2, m2 = d2 + 256 * d3 + 65536 * m4 := ⟨_, rfl⟩
    obtain ⟨m1, e1⟩ : ∃ m1, m1 = d1 + 256 * d2 + 65536 * m3 := ⟨_, rfl⟩
    have e0 : n = d0 + 256 * d1 + 65536 * m2 := by rw [hn]; simp only [valN]; omega
    have ed : n / 256 = m1 := by
      have : n = d0 + 256 * m1 := by clear g4 g5 g6; rw [hn]; simp only [valN]; omega
      clear e0 e1 e2 e3 e4 e5 e6 g4 g5 g6 hn
      omega
    rw [ed] at g4
    refine ⟨?_, ?_⟩
    · rw [fold_sum k0 k1 k2 k3 k4 k5 k6 k7 e6 e5 e4 e3 e2 e1 e0 g4 g5 g6]; simp only [sumN']; omega
    · have q6 : m6 ≤ 2056 := by omega
      have q5 : m5 ≤ 526344 := by omega
      have q4 : m4 ≤ 134744072 := by clear g4 g5 g6 hn e0 e1 e2 e3 ed; omega
      have q3 : m3 ≤ 34494482440 := by clear g4 g5 g6 hn e0 e1 e2 e4 ed; omega
      have q2 : m2 ≤ 8830587504648 := by clear g4 g5 g6 hn e0 e1 e3 e4 e5 e6 ed; omega
      have q1 : m1 ≤ 2260630401189896 := by clear g4 g5 g6 hn e0 e2 e4 e5 e6 ed; omega
      have q0 : n ≤ 578721382704613384 := by clear g4 g5 g6 hn e1 e3 e4 e5 e6 ed; omega
      clear e0 e1 e2 e3 e4 e5 e6 hn ed
      omega
theorem valN_le {c : Nat} : ∀ bs : List Nat, (∀ b ∈ bs, b ≤ c) → valN bs ≤ repN c bs.length
  | [], _ => Nat.le_refl _
  | b :: bs, h => by
    have ih := valN_le bs fun x hx => h x (List.mem_cons_of_mem _ hx)
    have hb := h b List.mem_cons_self
    rw [List.length_cons, repN_succ]
    simp only [valN]
    omega
end Go.Sl
