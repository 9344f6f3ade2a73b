/- A part of the proofs of statements of this seat: contracts of functions, and the plain laws that they lean on. No conditions. -/
import Derived.Test.YtbimaodbcjjbfaaGreatDoorDirP
namespace Go.Sl
open Go.Proofs
set_option linter.unusedVariables false
set_option linter.unusedSimpArgs false
set_option maxRecDepth 4000
def cntS (s t : BitVec 64) (ars : List Pt) : Int := ((ars.filter fun e => s.getLsbD e.u.toNat && t.getLsbD e.v.toNat).length : Int)
theorem cntS_take {s t : BitVec 64} {ars : List Pt} {k : Nat} (h : k < ars.length) : cntS s t (ars.take (k + 1)) = cntS s t (ars.take k) + (((s >>> (at_ ars (k : Int)).u.toNat) &&& (t >>> (at_ ars (k : Int)).v.toNat) &&& 1#64).toNat : Int) := by
  have e : ((s >>> (at_ ars (k : Int)).u.toNat) &&& (t >>> (at_ ars (k : Int)).v.toNat) &&& 1#64).toNat = if (s.getLsbD (at_ ars (k : Int)).u.toNat && t.getLsbD (at_ ars (k : Int)).v.toNat) = true then 1 else 0 := by
    have h1 := bit_shr (s := s) (v := (at_ ars (k : Int)).u.toNat)
    have h2 := bit_shr (s := t) (v := (at_ ars (k : Int)).v.toNat)
    rw [BitVec.toNat_and, show (1#64).toNat = 1 from rfl, Nat.and_one_is_mod] at h1 h2 ⊢
    rw [BitVec.toNat_and]
    have h3 : ∀ x y : Nat, (x &&& y) % 2 = (x % 2) &&& (y % 2) := fun x y => by
      rw [← Nat.and_one_is_mod, ← Nat.and_one_is_mod, ← Nat.and_one_is_mod]
      apply Nat.eq_of_testBit_eq
      intro i
      simp only [Nat.testBit_and]
      cases x.testBit i <;> cases y.testBit i <;> cases (1 : Nat).testBit i <;> rfl
    rw [h3, h1, h2]
    cases s.getLsbD (at_ ars (k : Int)).u.toNat <;> cases t.getLsbD (at_ ars (k : Int)).v.toNat <;> rfl
  unfold cntS
  rw [take_at ars k h, List.filter_append, List.length_append, e]
  cases hb : (s.getLsbD (at_ ars (k : Int)).u.toNat && t.getLsbD (at_ ars (k : Int)).v.toNat) <;> simp [hb]
theorem cntS_bd (s t : BitVec 64) (ars : List Pt) : 0 ≤ cntS s t ars ∧ cntS s t ars ≤ ars.length := by
  unfold cntS
  have := List.length_filter_le (fun e : Pt => s.getLsbD e.u.toNat && t.getLsbD e.v.toNat) ars
  omega
theorem cntS_bet {nd : Int} {ars : List Pt} (hd : DgOk nd ars) {f t : BitVec 64} (hf : ∀ i : Nat, f.getLsbD i = true → (i : Int) < nd) : cntS f t ars = betB (outB nd ars) f t := by
  rw [bet_cntA hd hf]
  have e : ars.filter (fun p => decide (p.u ∈ listB f) && decide (p.v ∈ listB t)) = ars.filter fun e => f.getLsbD e.u.toNat && t.getLsbD e.v.toNat := List.filter_congr fun p hp => by
    have h := hd.arc p hp
    unfold endsP at h
    have hm : ∀ (s : BitVec 64) (x : Int), 0 ≤ x → decide (x ∈ listB s) = s.getLsbD x.toNat := fun s x hx => by
      rw [Bool.eq_iff_iff, decide_eq_true_eq, mem_listB]; exact ⟨fun h => h.2, fun h => ⟨hx, h⟩⟩
    rw [hm _ _ (by omega), hm _ _ (by omega)]
  unfold cntS cntA
  rw [e]
/-- What has been looked at. -/
def Seen (s t : Nat) (f u : BitVec 64) : Prop := f.toNat < s ∨ (f.toNat = s ∧ u.toNat < t)
structure RefI (rows : List (BitVec 64)) (s t : Nat) (b : Bst) (num den : Int) : Prop where
  inv : BestI rows (fun f u => AllP rows f u ∧ Seen s t f u) b
  sq : b.sq = mkF num den
  nm : 0 ≤ num ∧ num ≤ 16777216
  dn : 1 ≤ den ∧ den ≤ 4096
theorem nat_nz {f : BitVec 64} (h : f ≠ 0#64) : 1 ≤ f.toNat := Nat.one_le_iff_ne_zero.2 fun e => h (BitVec.eq_of_toNat_eq (by rw [e]; rfl))
theorem bits_lt {f : BitVec 64} {n : Nat} (h : ∀ i : Nat, f.getLsbD i = true → i < n) : f.toNat < 2 ^ n := Nat.lt_pow_two_of_testBit _ fun i hi => by
  rw [← Bool.not_eq_true]
  intro hb
  have := h i hb
  omega
theorem RefI.zero {rows : List (BitVec 64)} : RefI rows 1 1 noneB 0 1 := ⟨⟨noneB_val, .inl rfl, fun f t ⟨hA, hS⟩ => by
  have h1 := nat_nz hA.1.1
  have h2 := nat_nz hA.1.2
  rcases hS with h | h <;> omega⟩, by decide +kernel, by decide, by decide⟩
theorem RefI.next {rows : List (BitVec 64)} {s n : Nat} {b : Bst} {num den : Int} (h : RefI rows s (2 ^ n) b num den) (hn : rows.length = n) : RefI rows (s + 1) 1 b num den := ⟨h.inv.congr fun f u => and_congr_right fun hA => by
  have h1 := bits_lt hA.2.2.1
  have h2 := nat_nz hA.1.2
  rw [hn] at h1
  unfold Seen
  constructor
  · rintro (h | h)
    · exact .inl (by omega)
    · exact .inl (by omega)
  · rintro (h | h)
    · by_cases e : f.toNat = s
      · exact .inr ⟨e, h1⟩
      · exact .inl (by omega)
    · omega, h.sq, h.nm, h.dn⟩
theorem RefI.all {rows : List (BitVec 64)} {n : Nat} {b : Bst} {num den : Int} (h : RefI rows (2 ^ n) 1 b num den) (hn : rows.length = n) : BestI rows (AllP rows) b := h.inv.congr fun f u => ⟨fun h => h.1, fun hA => ⟨hA, .inl (by have h1 := bits_lt hA.2.1; rwa [hn] at h1)⟩⟩
theorem seen_step {s t : Nat} {f u : BitVec 64} (h : Seen s (t + 1) f u) : Seen s t f u ∨ (f = natB s ∧ u = natB t) := by
  unfold Seen at h ⊢
  by_cases e : f.toNat = s ∧ u.toNat = t
  · refine .inr ⟨?_, ?_⟩
    · rw [← e.1]; unfold natB; simp
    · rw [← e.2]; unfold natB; simp
  · exact .inl (by omega)
theorem seen_mono {s t : Nat} {f u : BitVec 64} (h : Seen s t f u) : Seen s (t + 1) f u := by unfold Seen at *; omega
theorem RefI.skip {rows : List (BitVec 64)} {s t : Nat} {b : Bst} {num den : Int} (h : RefI rows s t b num den) (hk : AllP rows (natB s) (natB t) → befB (pairB rows (natB s) (natB t)) b = false) : RefI rows s (t + 1) b num den :=
  ⟨⟨h.inv.val, h.inv.real.imp id fun ⟨f, u, h1, h2⟩ => ⟨f, u, ⟨h1.1, seen_mono h1.2⟩, h2⟩, fun f u hA => by
    rcases seen_step hA.2 with h1 | ⟨rfl, rfl⟩
    · exact h.inv.good f u ⟨hA.1, h1⟩
    · exact hk hA.1⟩, h.sq, h.nm, h.dn⟩
theorem RefI.take {rows : List (BitVec 64)} {s t : Nat} {b : Bst} {num den : Int} (h : RefI rows s t b num den) (hs : s < 4611686018427387904) (ht : t < 4611686018427387904) (hA : AllP rows (natB s) (natB t)) (hb : befB (pairB rows (natB s) (natB t)) b = true) {q : Int} (hq : q = betB rows (natB s) (natB t)) : RefI rows s (t + 1) ⟨listB (natB s), listB (natB t), q, mkF (q * q) ((((listB (natB s)).length : Nat) : Int) * (((listB (natB t)).length : Nat) : Int))⟩ (q * q) ((((listB (natB s)).length : Nat) : Int) * (((listB (natB t)).length : Nat) : Int)) := by
  have e : (⟨listB (natB s), listB (natB t), q, mkF (q * q) ((((listB (natB s)).length : Nat) : Int) * (((listB (natB t)).length : Nat) : Int))⟩ : Bst) = pairB rows (natB s) (natB t) := by
    unfold pairB sqB; rw [hq, ones_pop, ones_pop]
  have hsq := sq_bd (betB_bd rows (natB s) (natB t))
  have hom := onm_bd hA.1.1 hA.1.2
  rw [ones_pop, ones_pop] at hom
  have hv : FrV (pairB rows (natB s) (natB t)).sq := sqB_val hA.1.1 hA.1.2
  refine ⟨?_, rfl, by rw [hq]; exact hsq, hom⟩
  rw [e]
  refine ⟨hv, .inr ⟨natB s, natB t, ⟨hA, .inr ⟨natB_nat hs, by rw [natB_nat ht]; omega⟩⟩, rfl⟩, fun f u hf => ?_⟩
  rcases seen_step hf.2 with h1 | ⟨rfl, rfl⟩
  · rw [← Bool.not_eq_true]
    intro h2
    have := bef_trans (sqB_val hf.1.1.1 hf.1.1.2) hv h.inv.val h2 hb
    rw [h.inv.good _ _ ⟨hf.1, h1⟩] at this; cases this
  · exact bef_self _
theorem ref_bef {rows : List (BitVec 64)} {s t : Nat} {b : Bst} {num den : Int} (h : RefI rows s t b num den) {f u : BitVec 64} (hz : f ≠ 0#64 ∧ u ≠ 0#64) {q : Int} (hq : q = betB rows f u) :
    (q * q * den < num * (((listB f).length : Nat) : Int) * (((listB u).length : Nat) : Int) → befB (pairB rows f u) b = false) ∧ (num * (((listB f).length : Nat) : Int) * (((listB u).length : Nat) : Int) < q * q * den → befB (pairB rows f u) b = true) ∧
    (q * q * den = num * (((listB f).length : Nat) : Int) * (((listB u).length : Nat) : Int) → (cmpL (listB f) b.F < 0 ∨ (cmpL (listB f) b.F = 0 ∧ cmpL (listB u) b.T < 0)) → befB (pairB rows f u) b = true) ∧
    (q * q * den = num * (((listB f).length : Nat) : Int) * (((listB u).length : Nat) : Int) → ¬ (cmpL (listB f) b.F < 0 ∨ (cmpL (listB f) b.F = 0 ∧ cmpL (listB u) b.T < 0)) → befB (pairB rows f u) b = false) := by
  have hsq := sq_bd (betB_bd rows f u)
  have hom := onm_bd hz.1 hz.2
  have hnm := h.nm
  have hdn := h.dn
  have l1 : leF (pairB rows f u).sq b.sq ↔ q * q * den ≤ num * (((listB f).length : Nat) : Int) * (((listB u).length : Nat) : Int) := by
    rw [h.sq]
    show leF (sqB rows f u) _ ↔ _
    unfold sqB
    rw [leF_mk hsq.1 (by omega) hnm.1 (by omega), hq, ones_pop, ones_pop, Int.mul_assoc num]
  have l2 : leF b.sq (pairB rows f u).sq ↔ num * (((listB f).length : Nat) : Int) * (((listB u).length : Nat) : Int) ≤ q * q * den := by
    rw [h.sq]
    show leF _ (sqB rows f u) ↔ _
    unfold sqB
    rw [leF_mk hnm.1 (by omega) hsq.1 (by omega), hq, ones_pop, ones_pop, Int.mul_assoc num]
  generalize hx : q * q * den = x at l1 l2 ⊢
  generalize hy : num * (((listB f).length : Nat) : Int) * (((listB u).length : Nat) : Int) = y at l1 l2 ⊢
  have hbf := bef_iff (a := pairB rows f u) (b := b)
  have l3 : ltF b.sq (pairB rows f u).sq ↔ y < x := by
    rw [← Int.not_le, ← l1]
    unfold ltF leF
    exact Int.not_le.symm
  rw [l1, l2, l3] at hbf
  have hF : (pairB rows f u).F = listB f := rfl
  have hT : (pairB rows f u).T = listB u := rfl
  rw [hF, hT] at hbf
  refine ⟨fun h1 => ?_, fun h1 => hbf.2 (.inl h1), fun h1 h2 => hbf.2 (.inr ⟨by omega, h2⟩), fun h1 h2 => ?_⟩
  · rw [← Bool.not_eq_true, hbf]
    rintro (h2 | h2) <;> omega
  · rw [← Bool.not_eq_true, hbf]
    rintro (h3 | h3)
    · omega
    · exact h2 h3.2
theorem mul3 {a b : Int} (ha : 0 ≤ a ∧ a ≤ 16777216) (hb : 0 ≤ b ∧ b ≤ 4096) : 0 ≤ a * b ∧ a * b ≤ 68719476736 := by
  have := Int.mul_le_mul ha.2 hb.2 hb.1 (by decide)
  exact ⟨Int.mul_nonneg ha.1 hb.1, by omega⟩
theorem mul4 {a b : Int} (ha : 0 ≤ a ∧ a ≤ 68719476736) (hb : 0 ≤ b ∧ b ≤ 64) : 0 ≤ a * b ∧ a * b ≤ 4398046511104 := by
  have := Int.mul_le_mul ha.2 hb.2 hb.1 (by decide)
  exact ⟨Int.mul_nonneg ha.1 hb.1, by omega⟩
theorem natB_bits {m : Nat} {nd : Int} (h : m < 2 ^ nd.toNat) (h0 : 0 ≤ nd) (i : Nat) (hi : (natB m).getLsbD i = true) : (i : Int) < nd := by
  have := natB_bit h hi; omega
theorem allP_nat {nd : Int} {ars : List Pt} (hd : DgOk nd ars) (h6 : nd ≤ 6) {m n : Nat} (hm : 1 ≤ m ∧ m < 2 ^ nd.toNat) (hn : 1 ≤ n ∧ n < 2 ^ nd.toNat) {q : Int} (hq : q = betB (outB nd ars) (natB m) (natB n)) (h0 : q ≠ 0) : AllP (outB nd ars) (natB m) (natB n) := by
  have hp : 2 ^ nd.toNat ≤ 2 ^ 6 := Nat.pow_le_pow_right (by decide) (by omega)
  have hl := outB_ln hd
  have hr := hd.rng
  refine ⟨⟨natB_nz hm.1 (by omega), natB_nz hn.1 (by omega)⟩, fun i hi => by have := natB_bits hm.2 hr.1 i hi; omega, fun i hi => by have := natB_bits hn.2 hr.1 i hi; omega, by rw [← hq]; exact h0⟩

set_option maxHeartbeats 2000000 in
theorem Best23_ok {κ : Ctx} {I : List Item} {nd : Int} {va : Value} {ars : List Pt} (hl : Sl κ I va ars) (h6 : checkD nd ars = 0 → nd ≤ 6) (hb : ars.length ≤ 1000000) :
    CallS Tryz.prog κ 40 [.agg #[I64 (nd), va]] I (fun r J => ∃ a c a2 c2, r = .tuple #[.agg #[.slice a (bestG nd ars).F.length c, .slice a2 (bestG nd ars).T.length c2, I64 (bestG nd ars).n, I64 (bestG nd ars).sq.num, I64 (bestG nd ars).sq.den], I64 (checkD nd ars)] ∧ J = vc 3 (.slice a (bestG nd ars).F.length c) (bestG nd ars).F :: vc 3 (.slice a2 (bestG nd ars).T.length c2) (bestG nd ars).T :: I) := by
 refine CallS.enter (L := [(0, .agg #[I64 (nd), va])]) Tryz.func40 rfl rfl rfl rfl ?_
 refine W.sr ?_
 refine G.e (Eff.box (cs := [_, _]) rfl rfl rfl) ?_
 rintro _ _ ⟨b1, rfl, rfl⟩
 refine G.e (Eff.alloc ty58 rfl) ?_
 rintro _ _ ⟨b2, rfl, rfl⟩
 refine G.r (Runs.assign rfl) ?_
 refine G.nt ?_
 refine W.seq ?_
 refine W.sr ?_
 refine G.r (Runs.lds (vs := [_, _]) ty54) ?_
 refine G.e (Eff.call call44 rfl rfl (Check23_ok (nd := nd) (Sl.f hl))) ?_
 rintro _ _ ⟨_, _, ⟨rfl, rfl⟩, rfl, rfl⟩
 refine G.r (Runs.assign rfl) ?_
 refine G.nt ?_
 refine W.sr ?_
 refine G.r (Runs.move rfl) ?_
 refine G.r (Runs.neq rfl rfl) ?_
 refine G.nt ?_
 refine W.ite rfl (fun c21 => ?_) (fun c21 => ?_)
 ·refine W.sr ?_
  refine G.r (Runs.build (cells := [_, _, _, _, _]) ty58 Tryz.underlying58 pl58 rfl rfl) ?_
  refine G.r (Runs.move rfl) ?_
  refine G.e (Eff.st (cs := [_, _, _, _, _]) (vs := [_, _, _, _, _]) (cs' := [_, _, _, _, _]) ty58) ?_
  rintro _ _ ⟨rfl, rfl⟩
  refine G.r (Runs.assign rfl) ?_
  refine G.nt ?_
  refine W.ret ?_
  refine V.then_ret ?_
  have hX : (bestG nd ars) = ⟨[], [], 0, ⟨0, 0⟩⟩ := if_pos c21
  exact V.retc1 rfl ty58 rfl rfl (by repeat (first | exact List.mem_cons_self | apply List.mem_cons_of_mem)) rfl (vc 3 (.slice none (bestG nd ars).F.length 0) (bestG nd ars).F :: vc 3 (.slice none (bestG nd ars).T.length 0) (bestG nd ars).T :: I) (by rw [hX]; exact Fit.trans (show Fit κ _ I from Fit.m) (Fit.trans (Fit.nilvc (α := Int) _ _) (Fit.nilvc (α := Int) _ _))) ⟨none, 0, none, 0, by rw [hX]; rfl, rfl⟩
 ·refine W.skip ?_
  refine V.then ?_
  refine W.seq ?_
  refine W.sr ?_
  refine G.r (Runs.lds (vs := [_, _]) ty54) ?_
  have hd1 : checkD nd ars = 0 := Classical.not_not.1 c21
  have hd := checkD_ok.1 hd1
  have hn6 := h6 hd1
  have hrg := hd.rng
  have hRD := rowsD_of hd hn6
  have hol := outB_ln hd
  have hp64 : 2 ^ nd.toNat ≤ 2 ^ 6 := Nat.pow_le_pow_right (by decide) (by omega)
  have hat : ∀ k : Nat, k < ars.length → (0 ≤ (at_ ars (k : Int)).u ∧ (at_ ars (k : Int)).u < nd) ∧ (0 ≤ (at_ ars (k : Int)).v ∧ (at_ ars (k : Int)).v < nd) := fun k h => by have := hd.arc _ (at_mem (xs := ars) (i := ((k : Nat) : Int)) (by omega) (by omega)); unfold endsP at this; omega
  refine G.e (Eff.call call90 rfl rfl (Used_ok (nd := nd) (Sl.f hl) hd (by omega) (by omega))) ?_
  rintro _ _ ⟨_, _, ⟨ad3, cp4, us5, rfl, hus5, rfl⟩, rfl, rfl⟩
  refine G.r (Runs.lens Tryz.underlying22 rfl) ?_
  refine G.r (Runs.gtr rfl rfl) ?_
  refine G.nt ?_
  refine W.ite rfl (fun c27 => ?_) (fun c27 => ?_)
  ·omega
  ·refine W.skip ?_
   refine V.then ?_
   refine W.sr ?_
   refine G.r (Runs.build (cells := [_, _]) ty45 Tryz.underlying45 pl45 rfl rfl) ?_
   refine G.r (Runs.build (cells := [_, _, _, _, _]) ty58 Tryz.underlying58 pl58 rfl rfl) ?_
   refine G.e (Eff.alloc ty58 rfl) ?_
   rintro _ _ ⟨b6, rfl, rfl⟩
   refine G.e (Eff.st (cs := [_, _, _, _, _]) (vs := [_, _, _, _, _]) (cs' := [_, _, _, _, _]) ty58) ?_
   rintro _ _ ⟨rfl, rfl⟩
   refine G.nt ?_
   refine W.sub (L' := [(5, _), (2, _), (1, _)]) (Sub.cons rfl (Sub.cons rfl (Sub.cons rfl Sub.nil))) ?_
   refine W.sr ?_
   refine G.r (Runs.assign rfl) ?_
   refine G.r (Runs.assign rfl) ?_
   refine G.nt ?_
   refine W.seq ?_
   refine W.sr ?_
   refine G.r (Runs.assign rfl) ?_
   refine G.nt ?_
   refine W.block ?_
   refine W.loop (σ := Nat × Int × Int × (Option Addr) × Nat × (Option Addr) × Nat × Bst) (fun s => ([(1, .pointer (some ⟨b1, 0, none⟩)), (2, .pointer (some ⟨b2, 0, none⟩)), (5, .pointer (some ⟨b6, 0, none⟩)), (6, I64 (s.2.1)), (7, I64 (s.2.2.1)), (8, I64 (((s.1 : Nat) : Int)))] : Env)) (fun s => vc 3 (.slice s.2.2.2.1 s.2.2.2.2.2.2.2.F.length s.2.2.2.2.1) (s.2.2.2.2.2.2.2.F) :: vc 3 (.slice s.2.2.2.2.2.1 s.2.2.2.2.2.2.2.T.length s.2.2.2.2.2.2.1) (s.2.2.2.2.2.2.2.T) :: blk b6 [.slice s.2.2.2.1 s.2.2.2.2.2.2.2.F.length s.2.2.2.2.1, .slice s.2.2.2.2.2.1 s.2.2.2.2.2.2.2.T.length s.2.2.2.2.2.2.1, I64 (s.2.2.2.2.2.2.2.n), I64 (s.2.2.2.2.2.2.2.sq.num), I64 (s.2.2.2.2.2.2.2.sq.den)] 58 :: vc 3 (.slice ad3 us5.length cp4) (us5) :: blk b2 [.slice none 0 0, .slice none 0 0, I64 (0), I64 (0), I64 (0)] 58 :: blk b1 [I64 (nd), va] 54 :: I) (fun s => (1 ≤ s.1 ∧ s.1 ≤ 2 ^ nd.toNat) ∧ (RefI (outB nd ars) s.1 1 s.2.2.2.2.2.2.2 s.2.1 s.2.2.1)) (fun s => 2 ^ nd.toNat - s.1) (1, 0, 1, none, 0, none, 0, noneB) (show (1 ≤ (1 : Nat) ∧ (1 : Nat) ≤ 2 ^ nd.toNat) ∧ (RefI (outB nd ars) (1 : Nat) 1 (noneB : Bst) (0 : Int) (1 : Int)) from ⟨⟨Nat.le_refl _, Nat.one_le_two_pow⟩, RefI.zero⟩) (Sub.cons rfl (Sub.cons rfl (Sub.cons rfl (Sub.cons lookO (Sub.cons lookO (Sub.cons lookO Sub.nil)))))) (show Fit κ _ (vc 3 (.slice (none) (noneB).F.length (0)) ((noneB).F) :: vc 3 (.slice (none) (noneB).T.length (0)) ((noneB).T) :: blk b6 [.slice (none) (noneB).F.length (0), .slice (none) (noneB).T.length (0), I64 ((noneB).n), I64 ((noneB).sq.num), I64 ((noneB).sq.den)] 58 :: vc 3 (.slice ad3 us5.length cp4) (us5) :: blk b2 [.slice none 0 0, .slice none 0 0, I64 (0), I64 (0), I64 (0)] 58 :: blk b1 [I64 (nd), va] 54 :: I) from (Fit.trans (Fit.nilvc (α := Int) _ _) (Fit.nilvc (α := Int) _ _))) ?_
   rintro ⟨sm, num, den, fa, fc, ta, tc, bb⟩ hp
   obtain ⟨hsm, hRf⟩ : (1 ≤ sm ∧ sm ≤ 2 ^ nd.toNat) ∧ (RefI (outB nd ars) sm 1 bb num den) := hp
   show W Tryz.prog κ 130 _ _ ([(1, .pointer (some ⟨b1, 0, none⟩)), (2, .pointer (some ⟨b2, 0, none⟩)), (5, .pointer (some ⟨b6, 0, none⟩)), (6, I64 (num)), (7, I64 (den)), (8, I64 (((sm : Nat) : Int)))] : Env) (vc 3 (.slice fa bb.F.length fc) (bb.F) :: vc 3 (.slice ta bb.T.length tc) (bb.T) :: blk b6 [.slice fa bb.F.length fc, .slice ta bb.T.length tc, I64 (bb.n), I64 (bb.sq.num), I64 (bb.sq.den)] 58 :: vc 3 (.slice ad3 us5.length cp4) (us5) :: blk b2 [.slice none 0 0, .slice none 0 0, I64 (0), I64 (0), I64 (0)] 58 :: blk b1 [I64 (nd), va] 54 :: I)
   have hnmo := hRf.nm
   have hdno := hRf.dn
   refine W.seq ?_
   refine W.sr ?_
   refine G.r (Runs.move rfl) ?_
   refine G.r (Runs.fieldAddr fld54_0 rfl) ?_
   refine G.r (Runs.ld ty3) ?_
   refine G.r (Runs.convU Tryz.underlying3 Tryz.underlying109 rfl (by omega)) ?_
   refine G.r (Runs.shl1 rfl rfl (by omega) (by omega)) ?_
   refine G.r (Runs.lss rfl rfl) ?_
   refine G.nt ?_
   refine W.ite rfl (fun c36 => ?_) (fun c36 => ?_)
   ·refine W.skip ?_
    refine V.then ?_
    refine W.seq ?_
    refine W.block ?_
    refine W.sr ?_
    refine G.r (Runs.assign rfl) ?_
    refine G.nt ?_
    refine W.block ?_
    refine W.loop (σ := Nat × Int × Int × (Option Addr) × Nat × (Option Addr) × Nat × Bst) (fun s => ([(1, .pointer (some ⟨b1, 0, none⟩)), (2, .pointer (some ⟨b2, 0, none⟩)), (5, .pointer (some ⟨b6, 0, none⟩)), (6, I64 (s.2.1)), (7, I64 (s.2.2.1)), (8, I64 (((sm : Nat) : Int))), (9, I64 (((s.1 : Nat) : Int)))] : Env)) (fun s => vc 3 (.slice s.2.2.2.1 s.2.2.2.2.2.2.2.F.length s.2.2.2.2.1) (s.2.2.2.2.2.2.2.F) :: vc 3 (.slice s.2.2.2.2.2.1 s.2.2.2.2.2.2.2.T.length s.2.2.2.2.2.2.1) (s.2.2.2.2.2.2.2.T) :: blk b6 [.slice s.2.2.2.1 s.2.2.2.2.2.2.2.F.length s.2.2.2.2.1, .slice s.2.2.2.2.2.1 s.2.2.2.2.2.2.2.T.length s.2.2.2.2.2.2.1, I64 (s.2.2.2.2.2.2.2.n), I64 (s.2.2.2.2.2.2.2.sq.num), I64 (s.2.2.2.2.2.2.2.sq.den)] 58 :: vc 3 (.slice ad3 us5.length cp4) (us5) :: blk b2 [.slice none 0 0, .slice none 0 0, I64 (0), I64 (0), I64 (0)] 58 :: blk b1 [I64 (nd), va] 54 :: I) (fun s => (1 ≤ s.1 ∧ s.1 ≤ 2 ^ nd.toNat) ∧ (RefI (outB nd ars) sm s.1 s.2.2.2.2.2.2.2 s.2.1 s.2.2.1)) (fun s => 2 ^ nd.toNat - s.1) (1, num, den, fa, fc, ta, tc, bb) (show (1 ≤ (1 : Nat) ∧ (1 : Nat) ≤ 2 ^ nd.toNat) ∧ (RefI (outB nd ars) sm (1 : Nat) (bb : Bst) (num : Int) (den : Int)) from ⟨⟨Nat.le_refl _, Nat.one_le_two_pow⟩, hRf⟩) (Sub.cons rfl (Sub.cons rfl (Sub.cons rfl (Sub.cons lookO (Sub.cons lookO (Sub.cons rfl (Sub.cons lookO Sub.nil))))))) (show Fit κ _ (vc 3 (.slice (fa) (bb).F.length (fc)) ((bb).F) :: vc 3 (.slice (ta) (bb).T.length (tc)) ((bb).T) :: blk b6 [.slice (fa) (bb).F.length (fc), .slice (ta) (bb).T.length (tc), I64 ((bb).n), I64 ((bb).sq.num), I64 ((bb).sq.den)] 58 :: vc 3 (.slice ad3 us5.length cp4) (us5) :: blk b2 [.slice none 0 0, .slice none 0 0, I64 (0), I64 (0), I64 (0)] 58 :: blk b1 [I64 (nd), va] 54 :: I) from Fit.sub) ?_
    rintro ⟨tm, num1, den1, fa1, fc1, ta1, tc1, bb1⟩ hp
    obtain ⟨htm, hRg⟩ : (1 ≤ tm ∧ tm ≤ 2 ^ nd.toNat) ∧ (RefI (outB nd ars) sm tm bb1 num1 den1) := hp
    show W Tryz.prog κ 130 _ _ ([(1, .pointer (some ⟨b1, 0, none⟩)), (2, .pointer (some ⟨b2, 0, none⟩)), (5, .pointer (some ⟨b6, 0, none⟩)), (6, I64 (num1)), (7, I64 (den1)), (8, I64 (((sm : Nat) : Int))), (9, I64 (((tm : Nat) : Int)))] : Env) (vc 3 (.slice fa1 bb1.F.length fc1) (bb1.F) :: vc 3 (.slice ta1 bb1.T.length tc1) (bb1.T) :: blk b6 [.slice fa1 bb1.F.length fc1, .slice ta1 bb1.T.length tc1, I64 (bb1.n), I64 (bb1.sq.num), I64 (bb1.sq.den)] 58 :: vc 3 (.slice ad3 us5.length cp4) (us5) :: blk b2 [.slice none 0 0, .slice none 0 0, I64 (0), I64 (0), I64 (0)] 58 :: blk b1 [I64 (nd), va] 54 :: I)
    have hnmi := hRg.nm
    have hdni := hRg.dn
    refine W.seq ?_
    refine W.sr ?_
    refine G.r (Runs.move rfl) ?_
    refine G.r (Runs.fieldAddr fld54_0 rfl) ?_
    refine G.r (Runs.ld ty3) ?_
    refine G.r (Runs.convU Tryz.underlying3 Tryz.underlying109 rfl (by omega)) ?_
    refine G.r (Runs.shl1 rfl rfl (by omega) (by omega)) ?_
    refine G.r (Runs.lss rfl rfl) ?_
    refine G.nt ?_
    refine W.ite rfl (fun c44 => ?_) (fun c44 => ?_)
    ·refine W.skip ?_
     refine V.then ?_
     refine W.seq ?_
     refine W.block ?_
     refine W.sr ?_
     refine G.r (Runs.assign rfl) ?_
     refine G.nt ?_
     refine W.sub (L' := [(10, _), (1, _), (2, _), (5, _), (6, _), (7, _), (8, _), (9, _)]) (Sub.cons rfl (Sub.cons rfl (Sub.cons rfl (Sub.cons rfl (Sub.cons rfl (Sub.cons rfl (Sub.cons rfl (Sub.cons rfl Sub.nil)))))))) ?_
     refine W.seq ?_
     refine W.sr ?_
     refine G.r (Runs.fieldAddr fld54_1 rfl) ?_
     refine G.r (Runs.ld ty33) ?_
     refine G.r (Runs.lenT (α := Pt) (xs := ars) Tryz.underlying33 rfl (Sl.f hl)) ?_
     refine G.r (Runs.move rfl) ?_
     refine G.nt ?_
     refine W.block ?_
     refine W.loop (σ := Nat × Int) (fun s => ([(1, .pointer (some ⟨b1, 0, none⟩)), (2, .pointer (some ⟨b2, 0, none⟩)), (5, .pointer (some ⟨b6, 0, none⟩)), (6, I64 (num1)), (7, I64 (den1)), (8, I64 (((sm : Nat) : Int))), (9, I64 (((tm : Nat) : Int))), (10, I64 (s.2)), (48, va), (49, I64 (((ars.length : Nat) : Int))), (50, I64 (((s.1 : Nat) : Int)))] : Env)) (fun s => vc 3 (.slice fa1 bb1.F.length fc1) (bb1.F) :: vc 3 (.slice ta1 bb1.T.length tc1) (bb1.T) :: blk b6 [.slice fa1 bb1.F.length fc1, .slice ta1 bb1.T.length tc1, I64 (bb1.n), I64 (bb1.sq.num), I64 (bb1.sq.den)] 58 :: vc 3 (.slice ad3 us5.length cp4) (us5) :: blk b2 [.slice none 0 0, .slice none 0 0, I64 (0), I64 (0), I64 (0)] 58 :: blk b1 [I64 (nd), va] 54 :: I) (fun s => (s.1 ≤ ars.length) ∧ (s.2 = cntS (natB sm) (natB tm) (ars.take s.1))) (fun s => ars.length - s.1) (0, 0) (show ((0 : Nat) ≤ ars.length) ∧ ((0 : Int) = cntS (natB sm) (natB tm) (ars.take (0 : Nat))) from ⟨(by omega), rfl⟩) (Sub.cons rfl (Sub.cons rfl (Sub.cons rfl (Sub.cons rfl (Sub.cons rfl (Sub.cons rfl (Sub.cons rfl (Sub.cons lookO (Sub.cons rfl (Sub.cons rfl (Sub.cons lookO Sub.nil))))))))))) (show Fit κ _ (vc 3 (.slice fa1 bb1.F.length fc1) (bb1.F) :: vc 3 (.slice ta1 bb1.T.length tc1) (bb1.T) :: blk b6 [.slice fa1 bb1.F.length fc1, .slice ta1 bb1.T.length tc1, I64 (bb1.n), I64 (bb1.sq.num), I64 (bb1.sq.den)] 58 :: vc 3 (.slice ad3 us5.length cp4) (us5) :: blk b2 [.slice none 0 0, .slice none 0 0, I64 (0), I64 (0), I64 (0)] 58 :: blk b1 [I64 (nd), va] 54 :: I) from Fit.sub) ?_
     rintro ⟨k, q⟩ hp
     obtain ⟨hk, hq⟩ : (k ≤ ars.length) ∧ (q = cntS (natB sm) (natB tm) (ars.take k)) := hp
     show W Tryz.prog κ 130 _ _ ([(1, .pointer (some ⟨b1, 0, none⟩)), (2, .pointer (some ⟨b2, 0, none⟩)), (5, .pointer (some ⟨b6, 0, none⟩)), (6, I64 (num1)), (7, I64 (den1)), (8, I64 (((sm : Nat) : Int))), (9, I64 (((tm : Nat) : Int))), (10, I64 (q)), (48, va), (49, I64 (((ars.length : Nat) : Int))), (50, I64 (((k : Nat) : Int)))] : Env) (vc 3 (.slice fa1 bb1.F.length fc1) (bb1.F) :: vc 3 (.slice ta1 bb1.T.length tc1) (bb1.T) :: blk b6 [.slice fa1 bb1.F.length fc1, .slice ta1 bb1.T.length tc1, I64 (bb1.n), I64 (bb1.sq.num), I64 (bb1.sq.den)] 58 :: vc 3 (.slice ad3 us5.length cp4) (us5) :: blk b2 [.slice none 0 0, .slice none 0 0, I64 (0), I64 (0), I64 (0)] 58 :: blk b1 [I64 (nd), va] 54 :: I)
     have hqb := cntS_bd (natB sm) (natB tm) (ars.take k)
     rw [List.length_take] at hqb
     have hak := hat k
     have h01 := bit01 (((natB sm) >>> ((at_ ars ((k : Nat) : Int)).u).toNat) &&& ((natB tm) >>> ((at_ ars ((k : Nat) : Int)).v).toNat))
     refine W.sr ?_
     refine G.r (Runs.lss rfl rfl) ?_
     refine G.nt ?_
     refine W.seq ?_
     refine W.ite rfl (fun c51 => ?_) (fun c51 => ?_)
     ·refine W.skip ?_
      refine V.then ?_
      refine W.seq ?_
      refine W.block ?_
      refine W.sr ?_
      refine G.r (Runs.idx (α := Pt) (xs := ars) Tryz.underlying33 ty32 rfl rfl (Sl.f hl) (by omega) (by omega)) ?_
      refine G.r (Runs.gets (α := Pt) (xs := ars) ty32 rfl (Sl.f hl) (by omega) (by omega)) ?_
      refine G.e (Eff.alloc ty32 rfl) ?_
      rintro _ _ ⟨b7, rfl, rfl⟩
      refine G.e (Eff.st (cs := [_, _]) (vs := [_, _]) (cs' := [_, _]) ty32) ?_
      rintro _ _ ⟨rfl, rfl⟩
      refine G.nt ?_
      refine W.sub (L' := [(12, _), (1, _), (2, _), (5, _), (6, _), (7, _), (8, _), (9, _), (10, _), (48, _), (49, _), (50, _)]) (Sub.cons rfl (Sub.cons rfl (Sub.cons rfl (Sub.cons rfl (Sub.cons rfl (Sub.cons rfl (Sub.cons rfl (Sub.cons rfl (Sub.cons rfl (Sub.cons rfl (Sub.cons rfl (Sub.cons rfl Sub.nil)))))))))))) ?_
      refine W.region ?_
      refine G.r (Runs.move rfl) ?_
      refine G.r (Runs.move rfl) ?_
      refine G.r (Runs.idxArr Tryz.underlying32 ty2 rfl rfl (by omega) (by omega)) ?_
      refine G.r (Runs.ld ty3) ?_
      refine G.r (Runs.convU Tryz.underlying3 Tryz.underlying109 rfl (by omega)) ?_
      refine G.r (Runs.shrBI (a := natB sm) rfl rfl (by rw [natB_nat (by omega)]) (by omega) (by omega)) ?_
      refine G.r (Runs.move rfl) ?_
      refine G.r (Runs.idxArr Tryz.underlying32 ty2 rfl rfl (by omega) (by omega)) ?_
      refine G.r (Runs.ld ty3) ?_
      refine G.r (Runs.convU Tryz.underlying3 Tryz.underlying109 rfl (by omega)) ?_
      refine G.r (Runs.shrBI (a := natB tm) rfl rfl (by rw [natB_nat (by omega)]) (by omega) (by omega)) ?_
      refine G.r (Runs.andBI (a := ((natB sm) >>> ((at_ ars ((k : Nat) : Int)).u).toNat)) (c := ((natB tm) >>> ((at_ ars ((k : Nat) : Int)).v).toNat)) rfl rfl rfl rfl (by have h1 := BitVec.toNat_ushiftRight (natB sm) ((at_ ars ((k : Nat) : Int)).u).toNat; rw [Nat.shiftRight_eq_div_pow, natB_nat (m := sm) (by omega)] at h1; have := Nat.div_le_self sm (2 ^ ((at_ ars ((k : Nat) : Int)).u).toNat); omega)) ?_
      refine G.r (Runs.andBI (a := ((natB sm) >>> ((at_ ars ((k : Nat) : Int)).u).toNat) &&& ((natB tm) >>> ((at_ ars ((k : Nat) : Int)).v).toNat)) (c := 1#64) rfl rfl rfl rfl (by have h9 : (((natB sm) >>> ((at_ ars ((k : Nat) : Int)).u).toNat) &&& ((natB tm) >>> ((at_ ars ((k : Nat) : Int)).v).toNat)).toNat ≤ ((natB sm) >>> ((at_ ars ((k : Nat) : Int)).u).toNat).toNat := (by rw [BitVec.toNat_and]; exact Nat.and_le_left); have h8 : ((natB sm) >>> ((at_ ars ((k : Nat) : Int)).u).toNat).toNat < 9223372036854775808 := (by have h1 := BitVec.toNat_ushiftRight (natB sm) ((at_ ars ((k : Nat) : Int)).u).toNat; rw [Nat.shiftRight_eq_div_pow, natB_nat (m := sm) (by omega)] at h1; have := Nat.div_le_self sm (2 ^ ((at_ ars ((k : Nat) : Int)).u).toNat); omega); omega)) ?_
      refine G.r (Runs.add rfl rfl (by unfold InR; omega)) ?_
      refine G.r (Runs.assign rfl) ?_
      refine G.nil ?_
      refine V.block_normal ?_
      refine V.then ?_
      refine W.sub (L' := [(10, _), (1, _), (2, _), (5, _), (6, _), (7, _), (8, _), (9, _), (48, _), (49, _), (50, _)]) (Sub.cons rfl (Sub.cons rfl (Sub.cons rfl (Sub.cons rfl (Sub.cons rfl (Sub.cons rfl (Sub.cons rfl (Sub.cons rfl (Sub.cons rfl (Sub.cons rfl (Sub.cons rfl Sub.nil))))))))))) ?_
      refine W.region ?_
      refine G.r (Runs.add rfl rfl (by unfold InR; omega)) ?_
      refine G.r (Runs.move rfl) ?_
      refine G.nil ?_
      exact V.next ((k + 1), (q + (((((natB sm) >>> ((at_ ars ((k : Nat) : Int)).u).toNat) &&& ((natB tm) >>> ((at_ ars ((k : Nat) : Int)).v).toNat) &&& 1#64).toNat : Nat) : Int))) (show ((k + 1 : Nat) ≤ ars.length) ∧ ((q + (((((natB sm) >>> ((at_ ars ((k : Nat) : Int)).u).toNat) &&& ((natB tm) >>> ((at_ ars ((k : Nat) : Int)).v).toNat) &&& 1#64).toNat : Nat) : Int) : Int) = cntS (natB sm) (natB tm) (ars.take (k + 1 : Nat))) from ⟨(by omega), (by rw [cntS_take (by omega), ← hq])⟩) (show ars.length - (k + 1 : Nat) < ars.length - k from (by omega)) (Sub.cons rfl (Sub.cons rfl (Sub.cons rfl (Sub.cons rfl (Sub.cons rfl (Sub.cons rfl (Sub.cons rfl (Sub.cons lookO (Sub.cons rfl (Sub.cons rfl (Sub.cons lookO Sub.nil))))))))))) (show Fit κ _ (vc 3 (.slice fa1 bb1.F.length fc1) (bb1.F) :: vc 3 (.slice ta1 bb1.T.length tc1) (bb1.T) :: blk b6 [.slice fa1 bb1.F.length fc1, .slice ta1 bb1.T.length tc1, I64 (bb1.n), I64 (bb1.sq.num), I64 (bb1.sq.den)] 58 :: vc 3 (.slice ad3 us5.length cp4) (us5) :: blk b2 [.slice none 0 0, .slice none 0 0, I64 (0), I64 (0), I64 (0)] 58 :: blk b1 [I64 (nd), va] 54 :: I) from Fit.sub)
     ·refine W.exit ?_
      refine V.then_exit ?_
      refine V.then_exit ?_
      refine V.block_hit ?_
      refine V.then ?_
      refine W.sr ?_
      refine G.r (Runs.move rfl) ?_
      have hqB : q = betB (outB nd ars) (natB sm) (natB tm) := by rw [hq, List.take_of_length_le (by omega)]; exact cntS_bet hd (natB_bits (by omega) hrg.1)
      have hqb1 := betB_bd (outB nd ars) (natB sm) (natB tm)
      rw [← hqB] at hqb1
      have hsq1 := sq_bd hqb1
      have hzz : (natB sm) ≠ 0#64 ∧ (natB tm) ≠ 0#64 := ⟨natB_nz (by omega) (by omega), natB_nz (by omega) (by omega)⟩
      have hbc := ref_bef hRg hzz hqB
      have hom := onm_bd hzz.1 hzz.2
      rw [ones_pop, ones_pop] at hom
      have hmx := mul3 hsq1 (b := den1) (by omega)
      have hl1 := listB_len (natB sm)
      have hl2 := listB_len (natB tm)
      have hmy := mul3 (a := num1) (b := (((listB (natB sm)).length : Nat) : Int)) (by omega) (by omega)
      have hmz := mul4 hmy (b := (((listB (natB tm)).length : Nat) : Int)) (by omega)
      refine G.r (Runs.move rfl) ?_
      refine G.r (Runs.mul rfl rfl (by unfold InR; omega)) ?_
      refine G.r (Runs.move rfl) ?_
      refine G.r (Runs.mul rfl rfl (by unfold InR; omega)) ?_
      refine G.r (Runs.move rfl) ?_
      refine G.r (Runs.move rfl) ?_
      refine G.e (Eff.call call81 rfl rfl (Size03_nat sm (by omega))) ?_
      rintro _ _ ⟨_, _, ⟨rfl, rfl⟩, rfl, rfl⟩
      have hsz76 := listB_len (natB sm)
      refine G.r (Runs.mul rfl rfl (by unfold InR; omega)) ?_
      refine G.r (Runs.move rfl) ?_
      refine G.e (Eff.call call81 rfl rfl (Size03_nat tm (by omega))) ?_
      rintro _ _ ⟨_, _, ⟨rfl, rfl⟩, rfl, rfl⟩
      have hsz79 := listB_len (natB tm)
      refine G.r (Runs.mul rfl rfl (by unfold InR; omega)) ?_
      refine G.r (Runs.assign rfl) ?_
      refine G.r (Runs.assign rfl) ?_
      refine G.nt ?_
      refine W.sub (L' := [(14, _), (13, _), (1, _), (2, _), (5, _), (6, _), (7, _), (8, _), (9, _), (10, _)]) (Sub.cons rfl (Sub.cons rfl (Sub.cons rfl (Sub.cons rfl (Sub.cons rfl (Sub.cons rfl (Sub.cons rfl (Sub.cons rfl (Sub.cons rfl (Sub.cons rfl Sub.nil)))))))))) ?_
      refine W.seq ?_
      refine W.sr ?_
      refine G.r (Runs.move rfl) ?_
      refine G.r (Runs.eql rfl rfl) ?_
      refine G.r (Runs.move rfl) ?_
      refine G.split (d := 83) rfl (fun g83 => ?_) (fun g83 => ?_)
      ·refine G.po ?_
       refine G.po ?_
       refine G.po ?_
       refine G.r (Runs.pickt rfl rfl) ?_
       refine G.nt ?_
       refine W.sub (L' := [(87, _), (14, _), (13, _), (1, _), (2, _), (5, _), (6, _), (7, _), (8, _), (9, _), (10, _)]) (Sub.cons rfl (Sub.cons rfl (Sub.cons rfl (Sub.cons rfl (Sub.cons rfl (Sub.cons rfl (Sub.cons rfl (Sub.cons rfl (Sub.cons rfl (Sub.cons rfl (Sub.cons rfl Sub.nil))))))))))) ?_
       refine W.yes rfl ?_
       refine W.exit ?_
       refine V.then_exit ?_
       refine V.block_hit ?_
       refine V.then ?_
       refine W.region ?_
       refine G.r (Runs.move rfl) ?_
       refine G.r (Runs.add rfl rfl (by unfold InR; omega)) ?_
       refine G.r (Runs.assign rfl) ?_
       refine G.nil ?_
       exact V.next ((tm + 1), (num1), (den1), (fa1), (fc1), (ta1), (tc1), (bb1)) (show (1 ≤ (tm + 1 : Nat) ∧ (tm + 1 : Nat) ≤ 2 ^ nd.toNat) ∧ (RefI (outB nd ars) sm (tm + 1 : Nat) (bb1 : Bst) (num1 : Int) (den1 : Int)) from ⟨(by omega), (RefI.skip hRg (fun hA => by first | exact absurd (hqB.symm.trans (by omega)) hA.2.2.2 | exact hbc.1 (by omega) | exact hbc.2.2.2 (by omega) (by omega)))⟩) (show 2 ^ nd.toNat - (tm + 1 : Nat) < 2 ^ nd.toNat - tm from (by omega)) (Sub.cons rfl (Sub.cons rfl (Sub.cons rfl (Sub.cons lookO (Sub.cons lookO (Sub.cons rfl (Sub.cons lookO Sub.nil))))))) (show Fit κ _ (vc 3 (.slice (fa1) (bb1).F.length (fc1)) ((bb1).F) :: vc 3 (.slice (ta1) (bb1).T.length (tc1)) ((bb1).T) :: blk b6 [.slice (fa1) (bb1).F.length (fc1), .slice (ta1) (bb1).T.length (tc1), I64 ((bb1).n), I64 ((bb1).sq.num), I64 ((bb1).sq.den)] 58 :: vc 3 (.slice ad3 us5.length cp4) (us5) :: blk b2 [.slice none 0 0, .slice none 0 0, I64 (0), I64 (0), I64 (0)] 58 :: blk b1 [I64 (nd), va] 54 :: I) from (by first | exact Fit.s | exact Fit.sub))
      ·refine G.ro (Runs.move rfl) ?_
       refine G.ro (Runs.move rfl) ?_
       refine G.ro (Runs.lss rfl rfl) ?_
       refine G.r (Runs.pickf rfl rfl) ?_
       refine G.nt ?_
       refine W.sub (L' := [(87, _), (14, _), (13, _), (1, _), (2, _), (5, _), (6, _), (7, _), (8, _), (9, _), (10, _)]) (Sub.cons rfl (Sub.cons rfl (Sub.cons rfl (Sub.cons rfl (Sub.cons rfl (Sub.cons rfl (Sub.cons rfl (Sub.cons rfl (Sub.cons rfl (Sub.cons rfl (Sub.cons rfl Sub.nil))))))))))) ?_
       refine W.ite rfl (fun c87 => ?_) (fun c87 => ?_)
       ·refine W.exit ?_
        refine V.then_exit ?_
        refine V.block_hit ?_
        refine V.then ?_
        refine W.region ?_
        refine G.r (Runs.move rfl) ?_
        refine G.r (Runs.add rfl rfl (by unfold InR; omega)) ?_
        refine G.r (Runs.assign rfl) ?_
        refine G.nil ?_
        exact V.next ((tm + 1), (num1), (den1), (fa1), (fc1), (ta1), (tc1), (bb1)) (show (1 ≤ (tm + 1 : Nat) ∧ (tm + 1 : Nat) ≤ 2 ^ nd.toNat) ∧ (RefI (outB nd ars) sm (tm + 1 : Nat) (bb1 : Bst) (num1 : Int) (den1 : Int)) from ⟨(by omega), (RefI.skip hRg (fun hA => by first | exact absurd (hqB.symm.trans (by omega)) hA.2.2.2 | exact hbc.1 (by omega) | exact hbc.2.2.2 (by omega) (by omega)))⟩) (show 2 ^ nd.toNat - (tm + 1 : Nat) < 2 ^ nd.toNat - tm from (by omega)) (Sub.cons rfl (Sub.cons rfl (Sub.cons rfl (Sub.cons lookO (Sub.cons lookO (Sub.cons rfl (Sub.cons lookO Sub.nil))))))) (show Fit κ _ (vc 3 (.slice (fa1) (bb1).F.length (fc1)) ((bb1).F) :: vc 3 (.slice (ta1) (bb1).T.length (tc1)) ((bb1).T) :: blk b6 [.slice (fa1) (bb1).F.length (fc1), .slice (ta1) (bb1).T.length (tc1), I64 ((bb1).n), I64 ((bb1).sq.num), I64 ((bb1).sq.den)] 58 :: vc 3 (.slice ad3 us5.length cp4) (us5) :: blk b2 [.slice none 0 0, .slice none 0 0, I64 (0), I64 (0), I64 (0)] 58 :: blk b1 [I64 (nd), va] 54 :: I) from (by first | exact Fit.s | exact Fit.sub))
       ·refine W.skip ?_
        refine V.then ?_
        refine W.sr ?_
        refine G.r (Runs.move rfl) ?_
        refine G.e (Eff.call call82 rfl rfl (Set03_nat sm (by omega))) ?_
        rintro _ _ ⟨_, _, ⟨ad8, cp9, rfl, rfl⟩, rfl, rfl⟩
        refine G.r (Runs.move rfl) ?_
        refine G.e (Eff.call call82 rfl rfl (Set03_nat tm (by omega))) ?_
        rintro _ _ ⟨_, _, ⟨ad10, cp11, rfl, rfl⟩, rfl, rfl⟩
        refine G.r (Runs.assign rfl) ?_
        refine G.r (Runs.assign rfl) ?_
        refine G.nt ?_
        refine W.sub (L' := [(16, _), (15, _), (14, _), (13, _), (1, _), (2, _), (5, _), (6, _), (7, _), (8, _), (9, _), (10, _)]) (Sub.cons rfl (Sub.cons rfl (Sub.cons rfl (Sub.cons rfl (Sub.cons rfl (Sub.cons rfl (Sub.cons rfl (Sub.cons rfl (Sub.cons rfl (Sub.cons rfl (Sub.cons rfl (Sub.cons rfl Sub.nil)))))))))))) ?_
        refine W.sr ?_
        refine G.r (Runs.move rfl) ?_
        refine G.r (Runs.fieldAddr fld58_0 rfl) ?_
        refine G.r (Runs.ld ty22) ?_
        refine G.e (Eff.call call53 rfl rfl (Cmp_ok Sl.o Sl.o)) ?_
        rintro _ _ ⟨_, _, ⟨rfl, rfl⟩, rfl, rfl⟩
        refine G.r (Runs.assign rfl) ?_
        refine G.nt ?_
        refine W.sub (L' := [(17, _), (16, _), (15, _), (14, _), (13, _), (1, _), (2, _), (5, _), (6, _), (7, _), (8, _), (9, _), (10, _)]) (Sub.cons rfl (Sub.cons rfl (Sub.cons rfl (Sub.cons rfl (Sub.cons rfl (Sub.cons rfl (Sub.cons rfl (Sub.cons rfl (Sub.cons rfl (Sub.cons rfl (Sub.cons rfl (Sub.cons rfl (Sub.cons rfl Sub.nil))))))))))))) ?_
        refine W.sr ?_
        refine G.r (Runs.move rfl) ?_
        refine G.r (Runs.move rfl) ?_
        refine G.r (Runs.gtr rfl rfl) ?_
        refine G.r (Runs.move rfl) ?_
        refine G.split (d := 99) rfl (fun g99 => ?_) (fun g99 => ?_)
        ·refine G.po ?_
         refine G.po ?_
         refine G.r (Runs.pickt rfl rfl) ?_
         refine G.r (Runs.move rfl) ?_
         refine G.po ?_
         refine G.po ?_
         refine G.po ?_
         refine G.pu ?_
         refine G.pu ?_
         refine G.pu ?_
         refine G.pu ?_
         refine G.pu ?_
         refine G.po ?_
         refine G.r (Runs.pickt rfl rfl) ?_
         refine G.nt ?_
         refine W.sub (L' := [(113, _), (16, _), (15, _), (1, _), (2, _), (5, _), (6, _), (7, _), (8, _), (9, _), (10, _)]) (Sub.cons rfl (Sub.cons rfl (Sub.cons rfl (Sub.cons rfl (Sub.cons rfl (Sub.cons rfl (Sub.cons rfl (Sub.cons rfl (Sub.cons rfl (Sub.cons rfl (Sub.cons rfl Sub.nil))))))))))) ?_
         refine W.yes rfl ?_
         refine W.sr ?_
         refine G.r (Runs.move rfl) ?_
         refine G.r (Runs.move rfl) ?_
         refine G.r (Runs.mul rfl rfl (by unfold InR; omega)) ?_
         refine G.r (Runs.move rfl) ?_
         refine G.r (Runs.lens Tryz.underlying22 rfl) ?_
         refine G.r (Runs.move rfl) ?_
         refine G.r (Runs.lens Tryz.underlying22 rfl) ?_
         refine G.r (Runs.mul rfl rfl (by unfold InR; omega)) ?_
         refine G.r (Runs.assign rfl) ?_
         refine G.r (Runs.assign rfl) ?_
         refine G.nt ?_
         refine W.sub (L' := [(7, _), (6, _), (16, _), (15, _), (1, _), (2, _), (5, _), (8, _), (9, _), (10, _)]) (Sub.cons rfl (Sub.cons rfl (Sub.cons rfl (Sub.cons rfl (Sub.cons rfl (Sub.cons rfl (Sub.cons rfl (Sub.cons rfl (Sub.cons rfl (Sub.cons rfl Sub.nil)))))))))) ?_
         refine W.region ?_
         refine G.r (Runs.move rfl) ?_
         refine G.r (Runs.move rfl) ?_
         refine G.r (Runs.move rfl) ?_
         refine G.r (Runs.move rfl) ?_
         refine G.r (Runs.move rfl) ?_
         refine G.e (Eff.call call34 rfl rfl (RatOf_ok (q * q) ((((listB (natB sm)).length : Nat) : Int) * (((listB (natB tm)).length : Nat) : Int)) (by omega) (by omega))) ?_
         rintro _ _ ⟨_, _, ⟨rfl, rfl⟩, rfl, rfl⟩
         refine G.r (Runs.build (cells := [_, _, _, _, _]) ty58 Tryz.underlying58 pl58 rfl rfl) ?_
         refine G.e (Eff.st (cs := [_, _, _, _, _]) (vs := [_, _, _, _, _]) (cs' := [_, _, _, _, _]) ty58) ?_
         rintro _ _ ⟨rfl, rfl⟩
         refine G.nil ?_
         refine V.block_normal ?_
         refine V.then ?_
         refine W.sub (L' := [(7, _), (6, _), (1, _), (2, _), (5, _), (8, _), (9, _)]) (Sub.cons rfl (Sub.cons rfl (Sub.cons rfl (Sub.cons rfl (Sub.cons rfl (Sub.cons rfl (Sub.cons rfl Sub.nil))))))) ?_
         refine W.region ?_
         refine G.r (Runs.move rfl) ?_
         refine G.r (Runs.add rfl rfl (by unfold InR; omega)) ?_
         refine G.r (Runs.assign rfl) ?_
         refine G.nil ?_
         exact V.next ((tm + 1), (q * q), ((((listB (natB sm)).length : Nat) : Int) * (((listB (natB tm)).length : Nat) : Int)), (ad8), (cp9), (ad10), (cp11), ((⟨listB (natB sm), listB (natB tm), q, mkF (q * q) ((((listB (natB sm)).length : Nat) : Int) * (((listB (natB tm)).length : Nat) : Int))⟩ : Bst))) (show (1 ≤ (tm + 1 : Nat) ∧ (tm + 1 : Nat) ≤ 2 ^ nd.toNat) ∧ (RefI (outB nd ars) sm (tm + 1 : Nat) ((⟨listB (natB sm), listB (natB tm), q, mkF (q * q) ((((listB (natB sm)).length : Nat) : Int) * (((listB (natB tm)).length : Nat) : Int))⟩ : Bst) : Bst) (q * q : Int) ((((listB (natB sm)).length : Nat) : Int) * (((listB (natB tm)).length : Nat) : Int) : Int)) from ⟨(by omega), (RefI.take hRg (by omega) (by omega) (allP_nat hd (by omega) ⟨by omega, by omega⟩ ⟨by omega, by omega⟩ hqB (by omega)) (by first | exact hbc.2.1 (by omega) | exact hbc.2.2.1 (by omega) (by omega)) hqB)⟩) (show 2 ^ nd.toNat - (tm + 1 : Nat) < 2 ^ nd.toNat - tm from (by omega)) (Sub.cons rfl (Sub.cons rfl (Sub.cons rfl (Sub.cons lookO (Sub.cons lookO (Sub.cons rfl (Sub.cons lookO Sub.nil))))))) (show Fit κ _ (vc 3 (.slice (ad8) ((⟨listB (natB sm), listB (natB tm), q, mkF (q * q) ((((listB (natB sm)).length : Nat) : Int) * (((listB (natB tm)).length : Nat) : Int))⟩ : Bst)).F.length (cp9)) (((⟨listB (natB sm), listB (natB tm), q, mkF (q * q) ((((listB (natB sm)).length : Nat) : Int) * (((listB (natB tm)).length : Nat) : Int))⟩ : Bst)).F) :: vc 3 (.slice (ad10) ((⟨listB (natB sm), listB (natB tm), q, mkF (q * q) ((((listB (natB sm)).length : Nat) : Int) * (((listB (natB tm)).length : Nat) : Int))⟩ : Bst)).T.length (cp11)) (((⟨listB (natB sm), listB (natB tm), q, mkF (q * q) ((((listB (natB sm)).length : Nat) : Int) * (((listB (natB tm)).length : Nat) : Int))⟩ : Bst)).T) :: blk b6 [.slice (ad8) ((⟨listB (natB sm), listB (natB tm), q, mkF (q * q) ((((listB (natB sm)).length : Nat) : Int) * (((listB (natB tm)).length : Nat) : Int))⟩ : Bst)).F.length (cp9), .slice (ad10) ((⟨listB (natB sm), listB (natB tm), q, mkF (q * q) ((((listB (natB sm)).length : Nat) : Int) * (((listB (natB tm)).length : Nat) : Int))⟩ : Bst)).T.length (cp11), I64 (((⟨listB (natB sm), listB (natB tm), q, mkF (q * q) ((((listB (natB sm)).length : Nat) : Int) * (((listB (natB tm)).length : Nat) : Int))⟩ : Bst)).n), I64 (((⟨listB (natB sm), listB (natB tm), q, mkF (q * q) ((((listB (natB sm)).length : Nat) : Int) * (((listB (natB tm)).length : Nat) : Int))⟩ : Bst)).sq.num), I64 (((⟨listB (natB sm), listB (natB tm), q, mkF (q * q) ((((listB (natB sm)).length : Nat) : Int) * (((listB (natB tm)).length : Nat) : Int))⟩ : Bst)).sq.den)] 58 :: vc 3 (.slice ad3 us5.length cp4) (us5) :: blk b2 [.slice none 0 0, .slice none 0 0, I64 (0), I64 (0), I64 (0)] 58 :: blk b1 [I64 (nd), va] 54 :: I) from (by first | exact Fit.s | exact Fit.sub))
        ·refine G.ro (Runs.move rfl) ?_
         refine G.ro (Runs.lss rfl rfl) ?_
         refine G.r (Runs.pickf rfl rfl) ?_
         refine G.r (Runs.move rfl) ?_
         refine G.split (d := 103) rfl (fun g103 => ?_) (fun g103 => ?_)
         ·refine G.po ?_
          refine G.po ?_
          refine G.po ?_
          refine G.pu ?_
          refine G.pu ?_
          refine G.pu ?_
          refine G.pu ?_
          refine G.pu ?_
          refine G.po ?_
          refine G.r (Runs.pickt rfl rfl) ?_
          refine G.nt ?_
          refine W.sub (L' := [(113, _), (16, _), (15, _), (1, _), (2, _), (5, _), (6, _), (7, _), (8, _), (9, _), (10, _)]) (Sub.cons rfl (Sub.cons rfl (Sub.cons rfl (Sub.cons rfl (Sub.cons rfl (Sub.cons rfl (Sub.cons rfl (Sub.cons rfl (Sub.cons rfl (Sub.cons rfl (Sub.cons rfl Sub.nil))))))))))) ?_
          refine W.yes rfl ?_
          refine W.sr ?_
          refine G.r (Runs.move rfl) ?_
          refine G.r (Runs.move rfl) ?_
          refine G.r (Runs.mul rfl rfl (by unfold InR; omega)) ?_
          refine G.r (Runs.move rfl) ?_
          refine G.r (Runs.lens Tryz.underlying22 rfl) ?_
          refine G.r (Runs.move rfl) ?_
          refine G.r (Runs.lens Tryz.underlying22 rfl) ?_
          refine G.r (Runs.mul rfl rfl (by unfold InR; omega)) ?_
          refine G.r (Runs.assign rfl) ?_
          refine G.r (Runs.assign rfl) ?_
          refine G.nt ?_
          refine W.sub (L' := [(7, _), (6, _), (16, _), (15, _), (1, _), (2, _), (5, _), (8, _), (9, _), (10, _)]) (Sub.cons rfl (Sub.cons rfl (Sub.cons rfl (Sub.cons rfl (Sub.cons rfl (Sub.cons rfl (Sub.cons rfl (Sub.cons rfl (Sub.cons rfl (Sub.cons rfl Sub.nil)))))))))) ?_
          refine W.region ?_
          refine G.r (Runs.move rfl) ?_
          refine G.r (Runs.move rfl) ?_
          refine G.r (Runs.move rfl) ?_
          refine G.r (Runs.move rfl) ?_
          refine G.r (Runs.move rfl) ?_
          refine G.e (Eff.call call34 rfl rfl (RatOf_ok (q * q) ((((listB (natB sm)).length : Nat) : Int) * (((listB (natB tm)).length : Nat) : Int)) (by omega) (by omega))) ?_
          rintro _ _ ⟨_, _, ⟨rfl, rfl⟩, rfl, rfl⟩
          refine G.r (Runs.build (cells := [_, _, _, _, _]) ty58 Tryz.underlying58 pl58 rfl rfl) ?_
          refine G.e (Eff.st (cs := [_, _, _, _, _]) (vs := [_, _, _, _, _]) (cs' := [_, _, _, _, _]) ty58) ?_
          rintro _ _ ⟨rfl, rfl⟩
          refine G.nil ?_
          refine V.block_normal ?_
          refine V.then ?_
          refine W.sub (L' := [(7, _), (6, _), (1, _), (2, _), (5, _), (8, _), (9, _)]) (Sub.cons rfl (Sub.cons rfl (Sub.cons rfl (Sub.cons rfl (Sub.cons rfl (Sub.cons rfl (Sub.cons rfl Sub.nil))))))) ?_
          refine W.region ?_
          refine G.r (Runs.move rfl) ?_
          refine G.r (Runs.add rfl rfl (by unfold InR; omega)) ?_
          refine G.r (Runs.assign rfl) ?_
          refine G.nil ?_
          exact V.next ((tm + 1), (q * q), ((((listB (natB sm)).length : Nat) : Int) * (((listB (natB tm)).length : Nat) : Int)), (ad8), (cp9), (ad10), (cp11), ((⟨listB (natB sm), listB (natB tm), q, mkF (q * q) ((((listB (natB sm)).length : Nat) : Int) * (((listB (natB tm)).length : Nat) : Int))⟩ : Bst))) (show (1 ≤ (tm + 1 : Nat) ∧ (tm + 1 : Nat) ≤ 2 ^ nd.toNat) ∧ (RefI (outB nd ars) sm (tm + 1 : Nat) ((⟨listB (natB sm), listB (natB tm), q, mkF (q * q) ((((listB (natB sm)).length : Nat) : Int) * (((listB (natB tm)).length : Nat) : Int))⟩ : Bst) : Bst) (q * q : Int) ((((listB (natB sm)).length : Nat) : Int) * (((listB (natB tm)).length : Nat) : Int) : Int)) from ⟨(by omega), (RefI.take hRg (by omega) (by omega) (allP_nat hd (by omega) ⟨by omega, by omega⟩ ⟨by omega, by omega⟩ hqB (by omega)) (by first | exact hbc.2.1 (by omega) | exact hbc.2.2.1 (by omega) (by omega)) hqB)⟩) (show 2 ^ nd.toNat - (tm + 1 : Nat) < 2 ^ nd.toNat - tm from (by omega)) (Sub.cons rfl (Sub.cons rfl (Sub.cons rfl (Sub.cons lookO (Sub.cons lookO (Sub.cons rfl (Sub.cons lookO Sub.nil))))))) (show Fit κ _ (vc 3 (.slice (ad8) ((⟨listB (natB sm), listB (natB tm), q, mkF (q * q) ((((listB (natB sm)).length : Nat) : Int) * (((listB (natB tm)).length : Nat) : Int))⟩ : Bst)).F.length (cp9)) (((⟨listB (natB sm), listB (natB tm), q, mkF (q * q) ((((listB (natB sm)).length : Nat) : Int) * (((listB (natB tm)).length : Nat) : Int))⟩ : Bst)).F) :: vc 3 (.slice (ad10) ((⟨listB (natB sm), listB (natB tm), q, mkF (q * q) ((((listB (natB sm)).length : Nat) : Int) * (((listB (natB tm)).length : Nat) : Int))⟩ : Bst)).T.length (cp11)) (((⟨listB (natB sm), listB (natB tm), q, mkF (q * q) ((((listB (natB sm)).length : Nat) : Int) * (((listB (natB tm)).length : Nat) : Int))⟩ : Bst)).T) :: blk b6 [.slice (ad8) ((⟨listB (natB sm), listB (natB tm), q, mkF (q * q) ((((listB (natB sm)).length : Nat) : Int) * (((listB (natB tm)).length : Nat) : Int))⟩ : Bst)).F.length (cp9), .slice (ad10) ((⟨listB (natB sm), listB (natB tm), q, mkF (q * q) ((((listB (natB sm)).length : Nat) : Int) * (((listB (natB tm)).length : Nat) : Int))⟩ : Bst)).T.length (cp11), I64 (((⟨listB (natB sm), listB (natB tm), q, mkF (q * q) ((((listB (natB sm)).length : Nat) : Int) * (((listB (natB tm)).length : Nat) : Int))⟩ : Bst)).n), I64 (((⟨listB (natB sm), listB (natB tm), q, mkF (q * q) ((((listB (natB sm)).length : Nat) : Int) * (((listB (natB tm)).length : Nat) : Int))⟩ : Bst)).sq.num), I64 (((⟨listB (natB sm), listB (natB tm), q, mkF (q * q) ((((listB (natB sm)).length : Nat) : Int) * (((listB (natB tm)).length : Nat) : Int))⟩ : Bst)).sq.den)] 58 :: vc 3 (.slice ad3 us5.length cp4) (us5) :: blk b2 [.slice none 0 0, .slice none 0 0, I64 (0), I64 (0), I64 (0)] 58 :: blk b1 [I64 (nd), va] 54 :: I) from (by first | exact Fit.s | exact Fit.sub))
         ·refine G.ro (Runs.move rfl) ?_
          refine G.ro (Runs.eql rfl rfl) ?_
          refine G.ro (Runs.move rfl) ?_
          refine G.split (d := 106) rfl (fun g106 => ?_) (fun g106 => ?_)
          ·refine G.ro (Runs.move rfl) ?_
           refine G.ro (Runs.fieldAddr fld58_1 rfl) ?_
           refine G.ro (Runs.ld ty22) ?_
           refine G.eff (Wanted.on rfl rfl rfl) (Eff.call call53 rfl rfl (Cmp_ok Sl.o Sl.o)) ?_
           rintro _ _ ⟨_, _, ⟨rfl, rfl⟩, rfl, rfl⟩
           refine G.ro (Runs.lss rfl rfl) ?_
           refine G.ro (Runs.pickt rfl rfl) ?_
           refine G.r (Runs.pickf rfl rfl) ?_
           refine G.nt ?_
           refine W.sub (L' := [(113, _), (16, _), (15, _), (1, _), (2, _), (5, _), (6, _), (7, _), (8, _), (9, _), (10, _)]) (Sub.cons rfl (Sub.cons rfl (Sub.cons rfl (Sub.cons rfl (Sub.cons rfl (Sub.cons rfl (Sub.cons rfl (Sub.cons rfl (Sub.cons rfl (Sub.cons rfl (Sub.cons rfl Sub.nil))))))))))) ?_
           refine W.ite rfl (fun c113 => ?_) (fun c113 => ?_)
           ·refine W.sr ?_
            refine G.r (Runs.move rfl) ?_
            refine G.r (Runs.move rfl) ?_
            refine G.r (Runs.mul rfl rfl (by unfold InR; omega)) ?_
            refine G.r (Runs.move rfl) ?_
            refine G.r (Runs.lens Tryz.underlying22 rfl) ?_
            refine G.r (Runs.move rfl) ?_
            refine G.r (Runs.lens Tryz.underlying22 rfl) ?_
            refine G.r (Runs.mul rfl rfl (by unfold InR; omega)) ?_
            refine G.r (Runs.assign rfl) ?_
            refine G.r (Runs.assign rfl) ?_
            refine G.nt ?_
            refine W.sub (L' := [(7, _), (6, _), (16, _), (15, _), (1, _), (2, _), (5, _), (8, _), (9, _), (10, _)]) (Sub.cons rfl (Sub.cons rfl (Sub.cons rfl (Sub.cons rfl (Sub.cons rfl (Sub.cons rfl (Sub.cons rfl (Sub.cons rfl (Sub.cons rfl (Sub.cons rfl Sub.nil)))))))))) ?_
            refine W.region ?_
            refine G.r (Runs.move rfl) ?_
            refine G.r (Runs.move rfl) ?_
            refine G.r (Runs.move rfl) ?_
            refine G.r (Runs.move rfl) ?_
            refine G.r (Runs.move rfl) ?_
            refine G.e (Eff.call call34 rfl rfl (RatOf_ok (q * q) ((((listB (natB sm)).length : Nat) : Int) * (((listB (natB tm)).length : Nat) : Int)) (by omega) (by omega))) ?_
            rintro _ _ ⟨_, _, ⟨rfl, rfl⟩, rfl, rfl⟩
            refine G.r (Runs.build (cells := [_, _, _, _, _]) ty58 Tryz.underlying58 pl58 rfl rfl) ?_
            refine G.e (Eff.st (cs := [_, _, _, _, _]) (vs := [_, _, _, _, _]) (cs' := [_, _, _, _, _]) ty58) ?_
            rintro _ _ ⟨rfl, rfl⟩
            refine G.nil ?_
            refine V.block_normal ?_
            refine V.then ?_
            refine W.sub (L' := [(7, _), (6, _), (1, _), (2, _), (5, _), (8, _), (9, _)]) (Sub.cons rfl (Sub.cons rfl (Sub.cons rfl (Sub.cons rfl (Sub.cons rfl (Sub.cons rfl (Sub.cons rfl Sub.nil))))))) ?_
            refine W.region ?_
            refine G.r (Runs.move rfl) ?_
            refine G.r (Runs.add rfl rfl (by unfold InR; omega)) ?_
            refine G.r (Runs.assign rfl) ?_
            refine G.nil ?_
            exact V.next ((tm + 1), (q * q), ((((listB (natB sm)).length : Nat) : Int) * (((listB (natB tm)).length : Nat) : Int)), (ad8), (cp9), (ad10), (cp11), ((⟨listB (natB sm), listB (natB tm), q, mkF (q * q) ((((listB (natB sm)).length : Nat) : Int) * (((listB (natB tm)).length : Nat) : Int))⟩ : Bst))) (show (1 ≤ (tm + 1 : Nat) ∧ (tm + 1 : Nat) ≤ 2 ^ nd.toNat) ∧ (RefI (outB nd ars) sm (tm + 1 : Nat) ((⟨listB (natB sm), listB (natB tm), q, mkF (q * q) ((((listB (natB sm)).length : Nat) : Int) * (((listB (natB tm)).length : Nat) : Int))⟩ : Bst) : Bst) (q * q : Int) ((((listB (natB sm)).length : Nat) : Int) * (((listB (natB tm)).length : Nat) : Int) : Int)) from ⟨(by omega), (RefI.take hRg (by omega) (by omega) (allP_nat hd (by omega) ⟨by omega, by omega⟩ ⟨by omega, by omega⟩ hqB (by omega)) (by first | exact hbc.2.1 (by omega) | exact hbc.2.2.1 (by omega) (by omega)) hqB)⟩) (show 2 ^ nd.toNat - (tm + 1 : Nat) < 2 ^ nd.toNat - tm from (by omega)) (Sub.cons rfl (Sub.cons rfl (Sub.cons rfl (Sub.cons lookO (Sub.cons lookO (Sub.cons rfl (Sub.cons lookO Sub.nil))))))) (show Fit κ _ (vc 3 (.slice (ad8) ((⟨listB (natB sm), listB (natB tm), q, mkF (q * q) ((((listB (natB sm)).length : Nat) : Int) * (((listB (natB tm)).length : Nat) : Int))⟩ : Bst)).F.length (cp9)) (((⟨listB (natB sm), listB (natB tm), q, mkF (q * q) ((((listB (natB sm)).length : Nat) : Int) * (((listB (natB tm)).length : Nat) : Int))⟩ : Bst)).F) :: vc 3 (.slice (ad10) ((⟨listB (natB sm), listB (natB tm), q, mkF (q * q) ((((listB (natB sm)).length : Nat) : Int) * (((listB (natB tm)).length : Nat) : Int))⟩ : Bst)).T.length (cp11)) (((⟨listB (natB sm), listB (natB tm), q, mkF (q * q) ((((listB (natB sm)).length : Nat) : Int) * (((listB (natB tm)).length : Nat) : Int))⟩ : Bst)).T) :: blk b6 [.slice (ad8) ((⟨listB (natB sm), listB (natB tm), q, mkF (q * q) ((((listB (natB sm)).length : Nat) : Int) * (((listB (natB tm)).length : Nat) : Int))⟩ : Bst)).F.length (cp9), .slice (ad10) ((⟨listB (natB sm), listB (natB tm), q, mkF (q * q) ((((listB (natB sm)).length : Nat) : Int) * (((listB (natB tm)).length : Nat) : Int))⟩ : Bst)).T.length (cp11), I64 (((⟨listB (natB sm), listB (natB tm), q, mkF (q * q) ((((listB (natB sm)).length : Nat) : Int) * (((listB (natB tm)).length : Nat) : Int))⟩ : Bst)).n), I64 (((⟨listB (natB sm), listB (natB tm), q, mkF (q * q) ((((listB (natB sm)).length : Nat) : Int) * (((listB (natB tm)).length : Nat) : Int))⟩ : Bst)).sq.num), I64 (((⟨listB (natB sm), listB (natB tm), q, mkF (q * q) ((((listB (natB sm)).length : Nat) : Int) * (((listB (natB tm)).length : Nat) : Int))⟩ : Bst)).sq.den)] 58 :: vc 3 (.slice ad3 us5.length cp4) (us5) :: blk b2 [.slice none 0 0, .slice none 0 0, I64 (0), I64 (0), I64 (0)] 58 :: blk b1 [I64 (nd), va] 54 :: I) from (by first | exact Fit.s | exact Fit.sub))
           ·refine W.skip ?_
            refine V.block_normal ?_
            refine V.then ?_
            refine W.region ?_
            refine G.r (Runs.move rfl) ?_
            refine G.r (Runs.add rfl rfl (by unfold InR; omega)) ?_
            refine G.r (Runs.assign rfl) ?_
            refine G.nil ?_
            exact V.next ((tm + 1), (num1), (den1), (fa1), (fc1), (ta1), (tc1), (bb1)) (show (1 ≤ (tm + 1 : Nat) ∧ (tm + 1 : Nat) ≤ 2 ^ nd.toNat) ∧ (RefI (outB nd ars) sm (tm + 1 : Nat) (bb1 : Bst) (num1 : Int) (den1 : Int)) from ⟨(by omega), (RefI.skip hRg (fun hA => by first | exact absurd (hqB.symm.trans (by omega)) hA.2.2.2 | exact hbc.1 (by omega) | exact hbc.2.2.2 (by omega) (by omega)))⟩) (show 2 ^ nd.toNat - (tm + 1 : Nat) < 2 ^ nd.toNat - tm from (by omega)) (Sub.cons rfl (Sub.cons rfl (Sub.cons rfl (Sub.cons lookO (Sub.cons lookO (Sub.cons rfl (Sub.cons lookO Sub.nil))))))) (show Fit κ _ (vc 3 (.slice (fa1) (bb1).F.length (fc1)) ((bb1).F) :: vc 3 (.slice (ta1) (bb1).T.length (tc1)) ((bb1).T) :: blk b6 [.slice (fa1) (bb1).F.length (fc1), .slice (ta1) (bb1).T.length (tc1), I64 ((bb1).n), I64 ((bb1).sq.num), I64 ((bb1).sq.den)] 58 :: vc 3 (.slice ad3 us5.length cp4) (us5) :: blk b2 [.slice none 0 0, .slice none 0 0, I64 (0), I64 (0), I64 (0)] 58 :: blk b1 [I64 (nd), va] 54 :: I) from (by first | exact Fit.s | exact Fit.sub))
          ·refine G.po ?_
           refine G.po ?_
           refine G.po ?_
           refine G.po ?_
           refine G.po ?_
           refine G.ro (Runs.pickf rfl rfl) ?_
           refine G.r (Runs.pickf rfl rfl) ?_
           refine G.nt ?_
           refine W.sub (L' := [(113, _), (16, _), (15, _), (1, _), (2, _), (5, _), (6, _), (7, _), (8, _), (9, _), (10, _)]) (Sub.cons rfl (Sub.cons rfl (Sub.cons rfl (Sub.cons rfl (Sub.cons rfl (Sub.cons rfl (Sub.cons rfl (Sub.cons rfl (Sub.cons rfl (Sub.cons rfl (Sub.cons rfl Sub.nil))))))))))) ?_
           refine W.no rfl ?_
           refine W.skip ?_
           refine V.block_normal ?_
           refine V.then ?_
           refine W.region ?_
           refine G.r (Runs.move rfl) ?_
           refine G.r (Runs.add rfl rfl (by unfold InR; omega)) ?_
           refine G.r (Runs.assign rfl) ?_
           refine G.nil ?_
           exact V.next ((tm + 1), (num1), (den1), (fa1), (fc1), (ta1), (tc1), (bb1)) (show (1 ≤ (tm + 1 : Nat) ∧ (tm + 1 : Nat) ≤ 2 ^ nd.toNat) ∧ (RefI (outB nd ars) sm (tm + 1 : Nat) (bb1 : Bst) (num1 : Int) (den1 : Int)) from ⟨(by omega), (RefI.skip hRg (fun hA => by first | exact absurd (hqB.symm.trans (by omega)) hA.2.2.2 | exact hbc.1 (by omega) | exact hbc.2.2.2 (by omega) (by omega)))⟩) (show 2 ^ nd.toNat - (tm + 1 : Nat) < 2 ^ nd.toNat - tm from (by omega)) (Sub.cons rfl (Sub.cons rfl (Sub.cons rfl (Sub.cons lookO (Sub.cons lookO (Sub.cons rfl (Sub.cons lookO Sub.nil))))))) (show Fit κ _ (vc 3 (.slice (fa1) (bb1).F.length (fc1)) ((bb1).F) :: vc 3 (.slice (ta1) (bb1).T.length (tc1)) ((bb1).T) :: blk b6 [.slice (fa1) (bb1).F.length (fc1), .slice (ta1) (bb1).T.length (tc1), I64 ((bb1).n), I64 ((bb1).sq.num), I64 ((bb1).sq.den)] 58 :: vc 3 (.slice ad3 us5.length cp4) (us5) :: blk b2 [.slice none 0 0, .slice none 0 0, I64 (0), I64 (0), I64 (0)] 58 :: blk b1 [I64 (nd), va] 54 :: I) from (by first | exact Fit.s | exact Fit.sub))
    ·refine W.exit ?_
     refine V.then_exit ?_
     refine V.then_exit ?_
     refine V.block_hit ?_
     refine V.block_normal ?_
     refine V.then ?_
     refine W.region ?_
     refine G.r (Runs.move rfl) ?_
     refine G.r (Runs.add rfl rfl (by unfold InR; omega)) ?_
     refine G.r (Runs.assign rfl) ?_
     refine G.nil ?_
     exact V.next ((sm + 1), (num1), (den1), (fa1), (fc1), (ta1), (tc1), (bb1)) (show (1 ≤ (sm + 1 : Nat) ∧ (sm + 1 : Nat) ≤ 2 ^ nd.toNat) ∧ (RefI (outB nd ars) (sm + 1 : Nat) 1 (bb1 : Bst) (num1 : Int) (den1 : Int)) from ⟨(by omega), (RefI.next (n := nd.toNat) (by rw [show (2 ^ nd.toNat) = tm by omega]; exact hRg) (by omega))⟩) (show 2 ^ nd.toNat - (sm + 1 : Nat) < 2 ^ nd.toNat - sm from (by omega)) (Sub.cons rfl (Sub.cons rfl (Sub.cons rfl (Sub.cons lookO (Sub.cons lookO (Sub.cons lookO Sub.nil)))))) (show Fit κ _ (vc 3 (.slice (fa1) (bb1).F.length (fc1)) ((bb1).F) :: vc 3 (.slice (ta1) (bb1).T.length (tc1)) ((bb1).T) :: blk b6 [.slice (fa1) (bb1).F.length (fc1), .slice (ta1) (bb1).T.length (tc1), I64 ((bb1).n), I64 ((bb1).sq.num), I64 ((bb1).sq.den)] 58 :: vc 3 (.slice ad3 us5.length cp4) (us5) :: blk b2 [.slice none 0 0, .slice none 0 0, I64 (0), I64 (0), I64 (0)] 58 :: blk b1 [I64 (nd), va] 54 :: I) from (by first | exact Fit.s | exact Fit.sub))
   ·refine W.exit ?_
    refine V.then_exit ?_
    refine V.then_exit ?_
    refine V.block_hit ?_
    refine V.then ?_
    refine W.sr ?_
    refine G.r (Runs.lds (vs := [_, _, _, _, _]) ty58) ?_
    refine G.e (Eff.st (cs := [_, _, _, _, _]) (vs := [_, _, _, _, _]) (cs' := [_, _, _, _, _]) ty58) ?_
    rintro _ _ ⟨rfl, rfl⟩
    refine G.r (Runs.assign rfl) ?_
    refine G.nt ?_
    refine W.sub (L' := [(3, _), (2, _)]) (Sub.cons rfl (Sub.cons rfl Sub.nil)) ?_
    refine W.ret ?_
    have hX : (bestG nd ars) = bb := by rw [bestG_eq hd]; exact (first_best hRD (RefI.all (n := nd.toNat) (by rw [show (2 ^ nd.toNat) = sm by omega]; exact hRf) (by omega))).symm
    exact V.retc1 rfl ty58 rfl rfl (by repeat (first | exact List.mem_cons_self | apply List.mem_cons_of_mem)) rfl (vc 3 (.slice fa (bestG nd ars).F.length fc) (bestG nd ars).F :: vc 3 (.slice ta (bestG nd ars).T.length tc) (bestG nd ars).T :: I) (by rw [hX]; exact Fit.s) ⟨fa, fc, ta, tc, by rw [hX, hd1], rfl⟩

end Go.Sl
