/- A part of the proofs of statements of this seat: contracts of functions, and the plain laws that they lean on. No conditions. -/
import Derived.Test.YtbimaodbcjjbfaaGreatDoorDirJ
namespace Go.Sl
open Go.Proofs
set_option linter.unusedVariables false
set_option linter.unusedSimpArgs false
set_option maxRecDepth 4000
/-- The pairs that count. -/
def AllP (rows : List (BitVec 64)) (f t : BitVec 64) : Prop := (f ≠ 0#64 ∧ t ≠ 0#64) ∧ (∀ i : Nat, f.getLsbD i = true → i < rows.length) ∧ (∀ i : Nat, t.getLsbD i = true → i < rows.length) ∧ betB rows f t ≠ 0
theorem bitI_of {x : Int} (hx : 0 ≤ x ∧ x < 64) {i : Nat} : (bitB x).getLsbD i = true ↔ (i : Int) = x := by
  have := bitD_one (k := x.toNat) (i := i) (by omega)
  rw [show ((x.toNat : Nat) : Int) = x by omega] at this
  rw [this]; omega
theorem list_minus (f : BitVec 64) {x : Int} (hx : 0 ≤ x ∧ x < 64) : listB (f &&& ~~~(bitB x)) = (listB f).filter fun y => decide (y ≠ x) := by
  refine intLin.uniq (listB_asc _) ((listB_asc f).sublist List.filter_sublist) fun y => ?_
  rw [List.mem_filter, mem_listB, mem_listB, decide_eq_true_eq, getLsb_minus]
  constructor
  · rintro ⟨h0, h1, h2⟩
    exact ⟨⟨h0, h1⟩, fun e => by rw [(bitI_of hx).2 (by omega)] at h2; cases h2⟩
  · rintro ⟨⟨h0, h1⟩, h2⟩
    exact ⟨h0, h1, by rw [← Bool.not_eq_true]; exact fun h3 => h2 (by have := (bitI_of hx).1 h3; omega)⟩
theorem sq_lt {n a b : Int} (hn : 0 < n) (ha : 0 < a) (hab : a < b) : ¬ leF (mkF (n * n) a) (mkF (n * n) b) := fun h => by
  have h1 := (leF_mk (Int.mul_nonneg (by omega) (by omega)) ha (Int.mul_nonneg (by omega) (by omega)) (by omega)).1 h
  have := Int.le_of_mul_le_mul_left h1 (Int.mul_pos hn hn)
  omega
theorem sq_gt {n m a : Int} (h0 : 0 ≤ n) (h : n < m) (ha : 0 < a) : ¬ leF (mkF (m * m) a) (mkF (n * n) a) := fun hh => by
  have h1 := (leF_mk (Int.mul_nonneg (by omega) (by omega)) ha (Int.mul_nonneg h0 h0) ha).1 hh
  have h2 := Int.le_of_mul_le_mul_right h1 ha
  have h3 := Int.mul_self_lt_mul_self h0 h
  omega
theorem bet_zF {rows : List (BitVec 64)} (t : BitVec 64) : betB rows 0#64 t = 0 := by unfold betB; rw [BitVec.zero_and, listB_zero]; rfl
theorem bet_zT {rows : List (BitVec 64)} (hR : rows.length ≤ 64) {f : BitVec 64} (hf : ∀ i : Nat, f.getLsbD i = true → i < rows.length) : betB rows f 0#64 = 0 := by rw [betB_eq hR hf, listB_zero]; rfl
theorem bet_dropF {rows : List (BitVec 64)} (hR : rows.length ≤ 64) {f t : BitVec 64} (hf : ∀ i : Nat, f.getLsbD i = true → i < rows.length) {v : Int} (hv : v ∈ listB f) (h0 : at_ rows v = 0#64) : betB rows (f &&& ~~~(bitB v)) t = betB rows f t := by
  rw [betB_eq hR hf, betB_eq hR fun i hi => hf i (getLsb_minus.1 hi).1]
  refine sum_congr fun w _ => ?_
  unfold cntN
  rw [list_minus f (listB_rng hv)]
  exact sum_filter _ _ _ fun x _ hp => by
    have e : x = v := by simpa using hp
    unfold arcN; rw [e, h0]; simp
theorem bet_dropT {rows : List (BitVec 64)} (hR : rows.length ≤ 64) {f t : BitVec 64} (hf : ∀ i : Nat, f.getLsbD i = true → i < rows.length) {w : Int} (hw : w ∈ listB t) (h0 : cntN rows (listB f) w = 0) : betB rows f (t &&& ~~~(bitB w)) = betB rows f t := by
  rw [betB_eq hR hf, betB_eq hR hf, list_minus t (listB_rng hw)]
  exact sum_filter _ _ _ fun x _ hp => by
    have e : x = w := by simpa using hp
    rw [e]; exact h0
theorem bet_pos {rows : List (BitVec 64)} {f t : BitVec 64} (h : betB rows f t ≠ 0) : 0 < betB rows f t := by have := betB_bd rows f t; omega
theorem first_F {rows : List (BitVec 64)} (hR : rows.length ≤ 64) {S T : BitVec 64} (hI : BestI rows (AllP rows) (pairB rows S T)) (hA : AllP rows S T) {v : Int} (hv : v ∈ listB S) : at_ rows v ≠ 0#64 := fun h0 => by
  have hb := bet_dropF (t := T) hR hA.2.1 hv h0
  have hz : S &&& ~~~(bitB v) ≠ 0#64 := fun e => hA.2.2.2 (by rw [← hb, e, bet_zF])
  have h2 := bef_le (hI.good _ T ⟨⟨hz, hA.1.2⟩, fun i hi => hA.2.1 i (getLsb_minus.1 hi).1, hA.2.2.1, by rw [hb]; exact hA.2.2.2⟩)
  have hl := drop_bit hv
  have h3 := onm_bd hz hA.1.2
  have h4 := ones_pos hA.1.2
  have hlt : onesB (S &&& ~~~(bitB v)) < onesB S := by rw [ones_pop, ones_pop]; omega
  unfold pairB sqB at h2
  dsimp only at h2
  rw [hb] at h2
  exact sq_lt (bet_pos hA.2.2.2) (by omega) (Int.mul_lt_mul_of_pos_right hlt (by omega)) h2
theorem first_T0 {rows : List (BitVec 64)} (hR : rows.length ≤ 64) {S T : BitVec 64} (hI : BestI rows (AllP rows) (pairB rows S T)) (hA : AllP rows S T) {w : Int} (hw : w ∈ listB T) : cntN rows (listB S) w ≠ 0 := fun h0 => by
  have hb := bet_dropT hR hA.2.1 hw h0
  have hz : T &&& ~~~(bitB w) ≠ 0#64 := fun e => hA.2.2.2 (by rw [← hb, e, bet_zT hR hA.2.1])
  have h2 := bef_le (hI.good S _ ⟨⟨hA.1.1, hz⟩, hA.2.1, fun i hi => hA.2.2.1 i (getLsb_minus.1 hi).1, by rw [hb]; exact hA.2.2.2⟩)
  have hl := drop_bit hw
  have h3 := onm_bd hA.1.1 hz
  have h4 := ones_pos hA.1.1
  have hlt : onesB (T &&& ~~~(bitB w)) < onesB T := by rw [ones_pop, ones_pop]; omega
  unfold pairB sqB at h2
  dsimp only at h2
  rw [hb] at h2
  exact sq_lt (bet_pos hA.2.2.2) (by omega) (Int.mul_lt_mul_of_pos_left hlt (by omega)) h2
theorem perm_out {l : List Int} (hl : l.Nodup) {x : Int} (hx : x ∈ l) : l.Perm (x :: l.filter fun z => decide (z ≠ x)) := by
  refine (List.perm_ext_iff_of_nodup hl (List.nodup_cons.2 ⟨fun h => by simpa using (List.mem_filter.1 h).2, hl.filter _⟩)).2 fun z => ?_
  rw [List.mem_cons, List.mem_filter, decide_eq_true_eq]
  constructor
  · intro h
    by_cases e : z = x
    · exact .inl e
    · exact .inr ⟨h, e⟩
  · rintro (rfl | h)
    · exact hx
    · exact h.1
theorem perm_swap {t : BitVec 64} {x y : Int} (hx : x ∈ listB t) (hy : 0 ≤ y ∧ y < 64) (hn : y ∉ listB t) : (listB ((t &&& ~~~(bitB x)) ||| bitB y)).Perm (y :: (listB t).filter fun z => decide (z ≠ x)) := by
  refine (List.perm_ext_iff_of_nodup (listB_nd _) (List.nodup_cons.2 ⟨fun h => hn (List.mem_filter.1 h).1, (listB_nd t).filter _⟩)).2 fun z => ?_
  have hm : z ∈ listB (t &&& ~~~(bitB x)) ↔ z ∈ (listB t).filter fun z => decide (z ≠ x) := by rw [list_minus t (listB_rng hx)]
  rw [List.mem_cons, ← hm, mem_listB, mem_listB, BitVec.getLsbD_or, Bool.or_eq_true, bitI_of hy]
  constructor
  · rintro ⟨h0, h1 | h1⟩
    · exact .inr ⟨h0, h1⟩
    · exact .inl (by omega)
  · rintro (h1 | ⟨h0, h1⟩)
    · exact ⟨by omega, .inr (by omega)⟩
    · exact ⟨h0, .inl h1⟩
theorem cmpL_pre : ∀ P X Y : List Int, cmpL (P ++ X) (P ++ Y) = cmpL X Y
  | [], X, Y => rfl
  | p :: P, X, Y => by
    show cmpL (p :: (P ++ X)) (p :: (P ++ Y)) = _
    simp only [cmpL]
    rw [if_neg (by omega), if_neg (by omega)]
    exact cmpL_pre P X Y
theorem asc_cut {l : List Int} (h : l.Pairwise fun a b => a < b) (y : Int) : l = (l.filter fun z => decide (z < y)) ++ l.filter fun z => decide (y ≤ z) := by
  refine intLin.uniq h (List.pairwise_append.2 ⟨h.sublist List.filter_sublist, h.sublist List.filter_sublist, fun a ha b hb => ?_⟩) fun z => ?_
  · have h1 := of_decide_eq_true (List.mem_filter.1 ha).2
    have h2 := of_decide_eq_true (List.mem_filter.1 hb).2
    omega
  · rw [List.mem_append, List.mem_filter, List.mem_filter, decide_eq_true_eq, decide_eq_true_eq]
    constructor
    · intro hz
      by_cases e : z < y
      · exact .inl ⟨hz, e⟩
      · exact .inr ⟨hz, by omega⟩
    · rintro (hz | hz) <;> exact hz.1
theorem cmpL_swap {A B : List Int} (hA : A.Pairwise fun a b => a < b) (hB : B.Pairwise fun a b => a < b) {x y : Int} (hy : y ∈ A) (hyB : y ∉ B) (hx : x ∈ B) (hyx : y < x) (h : ∀ z, z < y → (z ∈ A ↔ z ∈ B)) : cmpL A B < 0 := by
  rw [asc_cut hA y, asc_cut hB y]
  have e : (A.filter fun z => decide (z < y)) = B.filter fun z => decide (z < y) := by
    refine intLin.uniq (hA.sublist List.filter_sublist) (hB.sublist List.filter_sublist) fun z => ?_
    rw [List.mem_filter, List.mem_filter, decide_eq_true_eq]
    exact ⟨fun ⟨h1, h2⟩ => ⟨(h z h2).1 h1, h2⟩, fun ⟨h1, h2⟩ => ⟨(h z h2).2 h1, h2⟩⟩
  have eA : (A.filter fun z => decide (y ≤ z)) = y :: A.filter fun z => decide (y < z) := by
    refine intLin.uniq (hA.sublist List.filter_sublist) (List.pairwise_cons.2 ⟨fun z hz => of_decide_eq_true (List.mem_filter.1 hz).2, hA.sublist List.filter_sublist⟩) fun z => ?_
    rw [List.mem_cons, List.mem_filter, List.mem_filter, decide_eq_true_eq, decide_eq_true_eq]
    constructor
    · rintro ⟨h1, h2⟩
      by_cases e : z = y
      · exact .inl e
      · exact .inr ⟨h1, by omega⟩
    · rintro (rfl | ⟨h1, h2⟩)
      · exact ⟨hy, by omega⟩
      · exact ⟨h1, by omega⟩
  rw [e, cmpL_pre, eA]
  have hxm : x ∈ B.filter fun z => decide (y ≤ z) := List.mem_filter.2 ⟨hx, decide_eq_true (by omega)⟩
  cases hc : B.filter fun z => decide (y ≤ z) with
  | nil => rw [hc] at hxm; cases hxm
  | cons b B' =>
    have hb : b ∈ B.filter fun z => decide (y ≤ z) := by rw [hc]; exact List.mem_cons_self
    obtain ⟨h1, h2⟩ := List.mem_filter.1 hb
    have h3 := of_decide_eq_true h2
    have h4 : b ≠ y := fun e => hyB (e ▸ h1)
    simp only [cmpL]
    rw [if_neg (by omega), if_pos (by omega)]; omega
theorem first_sw {rows : List (BitVec 64)} (hR : rows.length ≤ 64) {S T : BitVec 64} (hI : BestI rows (AllP rows) (pairB rows S T)) (hA : AllP rows S T) {x y : Int} (hx : x ∈ listB T) (hyr : 0 ≤ y ∧ y < rows.length) (hy : y ∉ listB T) (ho : cntN rows (listB S) x < cntN rows (listB S) y ∨ (cntN rows (listB S) x = cntN rows (listB S) y ∧ y < x)) : False := by
  have hp := perm_swap hx (y := y) (by omega) hy
  have hq := perm_out (listB_nd T) hx
  generalize hT' : (T &&& ~~~(bitB x)) ||| bitB y = T' at hp
  have b1 : betB rows S T' = cntN rows (listB S) y + (((listB T).filter fun z => decide (z ≠ x)).map fun w => cntN rows (listB S) w).sum := by
    rw [betB_eq hR hA.2.1, sum_perm (hp.map _), List.map_cons, List.sum_cons]
  have b2 : betB rows S T = cntN rows (listB S) x + (((listB T).filter fun z => decide (z ≠ x)).map fun w => cntN rows (listB S) w).sum := by
    rw [betB_eq hR hA.2.1, sum_perm (hq.map _), List.map_cons, List.sum_cons]
  have hl : onesB T' = onesB T := by
    rw [ones_pop, ones_pop, hp.length_eq]
    have := hq.length_eq
    rw [List.length_cons] at this ⊢
    rw [this]
  have hyT : y ∈ listB T' := hp.mem_iff.2 List.mem_cons_self
  have hz : T' ≠ 0#64 := fun e => by rw [e, listB_zero] at hyT; cases hyT
  have hb0 := bet_pos hA.2.2.2
  have hbit : ∀ i : Nat, T'.getLsbD i = true → i < rows.length := fun i hi => by
    rw [← hT', BitVec.getLsbD_or, Bool.or_eq_true, getLsb_minus, bitI_of (by omega)] at hi
    rcases hi with hi | hi
    · exact hA.2.2.1 i hi.1
    · omega
  have hg := hI.good S T' ⟨⟨hA.1.1, hz⟩, hA.2.1, hbit, by omega⟩
  have hom := onm_bd hA.1.1 hA.1.2
  refine absurd (bef_iff.2 ?_) (by rw [hg]; decide)
  rcases ho with ho | ⟨ho, hlt⟩
  · refine .inl (Int.not_le.1 fun hle => ?_)
    have hle2 : leF (sqB rows S T') (sqB rows S T) := hle
    unfold sqB at hle2
    rw [hl] at hle2
    exact sq_gt (n := betB rows S T) (m := betB rows S T') (by omega) (by omega) (by omega) hle2
  · have e : sqB rows S T' = sqB rows S T := by unfold sqB; rw [hl, show betB rows S T' = betB rows S T by omega]
    refine .inr ⟨⟨by show leF (sqB rows S T') (sqB rows S T); rw [e]; exact Int.le_refl _, by show leF (sqB rows S T) (sqB rows S T'); rw [e]; exact Int.le_refl _⟩, .inr ⟨cmpL_self _, ?_⟩⟩
    refine cmpL_swap (listB_asc _) (listB_asc _) hyT hy hx hlt fun z hzy => ?_
    show z ∈ listB T' ↔ z ∈ listB T
    rw [hp.mem_iff, List.mem_cons, List.mem_filter, decide_eq_true_eq]
    exact ⟨fun h => h.elim (fun e => by omega) fun h => h.1, fun h => .inr ⟨h, by omega⟩⟩
theorem filt_pre : ∀ {zs : List Int} {p : Int → Bool}, (zs.Pairwise fun y x => p x = true → p y = true) → zs.filter p = zs.take (zs.filter p).length
  | [], p, _ => rfl
  | z :: zs, p, h => by
    obtain ⟨h1, h2⟩ := List.pairwise_cons.1 h
    rw [List.filter_cons]
    by_cases hz : p z = true
    · rw [if_pos hz, List.length_cons, List.take_succ_cons, ← filt_pre h2]
    · rw [if_neg hz]
      have : zs.filter p = [] := List.filter_eq_nil_iff.2 fun x hx hp => hz (h1 x hx hp)
      rw [this]; rfl
theorem first_cand {rows : List (BitVec 64)} (hD : RowsD rows) {S T : BitVec 64} (hI : BestI rows (AllP rows) (pairB rows S T)) (hA : AllP rows S T) : Cand rows (2 ^ (sendL rows).length - 1) S T := by
  have hR : rows.length ≤ 64 := by have := hD.len; omega
  obtain ⟨m, hm, he⟩ := sub_all (sendL rows) fun v => S.getLsbD v.toNat
  have hS : (sendL rows).filter (fun v => S.getLsbD v.toNat) = listB S := by
    refine intLin.uniq ((listB_asc _).sublist List.filter_sublist) (listB_asc S) fun v => ?_
    rw [List.mem_filter, mem_sendL hR, mem_listB]
    constructor
    · rintro ⟨⟨h1, h2⟩, h3⟩; exact ⟨h1.1, h3⟩
    · rintro ⟨h0, h1⟩
      have h2 := hA.2.1 _ h1
      exact ⟨⟨⟨h0, by omega⟩, first_F hR hI hA (mem_listB.2 ⟨h0, h1⟩)⟩, h1⟩
  rw [hS] at he
  have hm1 : 1 ≤ m := by
    refine Nat.one_le_iff_ne_zero.2 fun e => listB_ne hA.1.1 ?_
    rw [← he, e]
    have : ∀ l : List Int, subF l 0 = [] := fun l => by
      induction l with
      | nil => rfl
      | cons x l ih => show (if 0 % 2 = 1 then [x] else []) ++ subF l (0 / 2) = []; rw [if_neg (by decide)]; exact ih
    exact this _
  have hmk : ∀ b : BitVec 64, maskB (listB b) = b := fun b => by
    refine BitVec.eq_of_getLsbD_eq fun i hi => ?_
    rw [Bool.eq_iff_iff, bitD_maskB hi, mem_listB, Int.toNat_natCast]
    exact ⟨fun h => h.2, fun h => ⟨by omega, h⟩⟩
  refine ⟨m, hm1, by omega, by rw [he, hmk], ?_⟩
  have hzs := sortR_ord rows S
  have hzn : (sortR rows S).Nodup := (isort_perm _ _).nodup_iff.2 (listB_nd _)
  have hTz : ∀ x ∈ listB T, x ∈ sortR rows S := fun x hx => by
    rw [sortR_mem, mem_listB]
    refine ⟨(listB_rng hx).1, (orK_bit _ _).2 (Classical.not_not.1 fun hn => first_T0 hR hI hA hx (sum_zero _ _ fun v hv => ?_))⟩
    unfold arcN
    exact if_neg fun hb => hn ⟨v, hv, hb⟩
  have hpre : (sortR rows S).Pairwise fun y x => T.getLsbD x.toNat = true → T.getLsbD y.toNat = true := hzs.imp_of_mem fun {y x} hy hx hyx hb => by
    have r1 := listB_rng (sortR_mem.1 hy)
    have r2 := listB_rng (sortR_mem.1 hx)
    refine Classical.not_not.1 fun hn => ?_
    have hxT : x ∈ listB T := mem_listB.2 ⟨r2.1, hb⟩
    have hyT : y ∉ listB T := fun h => hn (mem_listB.1 h).2
    unfold ordR at hyx
    dsimp only at hyx
    rw [cntK_at _ r1.1, cntK_at _ r2.1] at hyx
    obtain ⟨v, _, h7⟩ := (orK_bit _ _).1 (mem_listB.1 (sortR_mem.1 hy)).2
    have := hD.bit v _ h7
    exact first_sw hR hI hA hxT ⟨r1.1, by omega⟩ hyT (by omega)
  have hf : (sortR rows S).filter (fun w => T.getLsbD w.toNat) = (sortR rows S).take ((sortR rows S).filter fun w => T.getLsbD w.toNat).length := filt_pre hpre
  have hL : (sortR rows S).filter (fun w => T.getLsbD w.toNat) ≠ [] := fun e => by
    obtain ⟨x, hx⟩ := List.exists_mem_of_ne_nil _ (listB_ne hA.1.2)
    have : x ∈ (sortR rows S).filter fun w => T.getLsbD w.toNat := List.mem_filter.2 ⟨hTz x hx, (mem_listB.1 hx).2⟩
    rw [e] at this; cases this
  generalize hj : ((sortR rows S).filter fun w => T.getLsbD w.toNat).length = j at hf
  have hj0 : 0 < j := by rw [← hj]; exact List.length_pos_iff.2 hL
  have hj1 : j ≤ (sortR rows S).length := by rw [← hj]; exact List.length_filter_le _ _
  have hTm : T = maskB ((sortR rows S).take j) := by
    refine BitVec.eq_of_getLsbD_eq fun i hi => ?_
    rw [Bool.eq_iff_iff, bitD_maskB hi, ← hf, List.mem_filter, Int.toNat_natCast]
    exact ⟨fun h => ⟨hTz _ (mem_listB.2 ⟨by omega, by rw [Int.toNat_natCast]; exact h⟩), h⟩, fun h => h.2⟩
  have h1 : j - 1 < (recvB rows S).length := by rw [recvB_len]; omega
  have h2 := recv_at h1
  rw [show j - 1 + 1 = j by omega, ← hTm] at h2
  rw [← h2]; exact at_mem (by omega) (by omega)
/-! The first of all, and the program's. -/
theorem cmpD_sym : ∀ x y : List Int, cmpL y x = -cmpL x y
  | [], [] => by simp [cmpL]
  | [], _ :: _ => by simp [cmpL]
  | _ :: _, [] => by simp [cmpL]
  | a :: x, b :: y => by
    unfold cmpL
    by_cases h1 : a < b
    · rw [if_pos h1, if_neg (show ¬ b < a by omega), if_pos h1]; rfl
    · by_cases h2 : b < a
      · rw [if_neg h1, if_pos h2, if_pos h2]
      · rw [if_neg h1, if_neg h2, if_neg h2, if_neg h1]; exact cmpD_sym x y
theorem bef_tri {a b : Bst} (ha : FrV a.sq) (hb : FrV b.sq) (h1 : befB a b = false) (h2 : befB b a = false) : a.sq = b.sq ∧ a.F = b.F ∧ a.T = b.T := by
  have e := leF_anti ha hb (bef_le h1) (bef_le h2)
  rw [← Bool.not_eq_true, bef_iff] at h1 h2
  have hl : leF a.sq b.sq ∧ leF b.sq a.sq := by rw [e]; exact ⟨Int.le_refl _, Int.le_refl _⟩
  have c1 := cmpD_sym a.F b.F
  have c2 := cmpD_sym a.T b.T
  have n1 : ¬ cmpL a.F b.F < 0 := fun h => h1 (.inr ⟨hl, .inl h⟩)
  have n2 : ¬ cmpL b.F a.F < 0 := fun h => h2 (.inr ⟨⟨hl.2, hl.1⟩, .inl h⟩)
  have z1 : cmpL a.F b.F = 0 := by omega
  have z2 : cmpL b.F a.F = 0 := by omega
  have n3 : ¬ cmpL a.T b.T < 0 := fun h => h1 (.inr ⟨hl, .inr ⟨z1, h⟩⟩)
  have n4 : ¬ cmpL b.T a.T < 0 := fun h => h2 (.inr ⟨⟨hl.2, hl.1⟩, .inr ⟨z2, h⟩⟩)
  have z3 : cmpL a.T b.T = 0 := by omega
  exact ⟨e, (cmpL_eq _ _).1 z1, (cmpL_eq _ _).1 z3⟩
theorem cand_all {rows : List (BitVec 64)} (hD : RowsD rows) {f t : BitVec 64} (h : Cand rows (2 ^ (sendL rows).length - 1) f t) : AllP rows f t := by
  have hR : rows.length ≤ 64 := by have := hD.len; omega
  have hne := h.ne hR (by have : 0 < 2 ^ (sendL rows).length := Nat.pow_pos (by decide); omega)
  obtain ⟨m, _, _, hf, h4⟩ := h
  have hfb : ∀ i : Nat, f.getLsbD i = true → i < rows.length := fun i hi => by rw [hf] at hi; exact sub_bit hR hi
  obtain ⟨q, hq, he2⟩ := mem_at h4
  have hbit : ∀ i : Nat, t.getLsbD i = true → ∃ v ∈ listB f, (at_ rows v).getLsbD i = true := fun i hi => by
    rw [← he2, recv_at hq] at hi
    have h5 := (bitD_maskB (BitVec.lt_of_getLsbD hi)).1 hi
    have h6 := mem_listB.1 (sortR_mem.1 (List.mem_of_mem_take h5))
    have := (orK_bit _ _).1 h6.2
    rwa [Int.toNat_natCast] at this
  refine ⟨hne, hfb, fun i hi => ?_, fun h0 => ?_⟩
  · obtain ⟨v, _, hv⟩ := hbit i hi
    exact hD.bit v _ hv
  · rw [betB_eq hR hfb] at h0
    obtain ⟨w, hw⟩ := List.exists_mem_of_ne_nil _ (listB_ne hne.2)
    obtain ⟨v, hv, hvw⟩ := hbit _ (mem_listB.1 hw).2
    have p1 := perm_out (listB_nd t) hw
    have p2 := perm_out (listB_nd f) hv
    have e1 : cntN rows (listB f) w = arcN rows v w + (((listB f).filter fun z => decide (z ≠ v)).map fun v => arcN rows v w).sum := by
      unfold cntN; rw [sum_perm (p2.map _), List.map_cons, List.sum_cons]
    have e2 : arcN rows v w = 1 := if_pos hvw
    have e3 := cnt_nonneg rows ((listB f).filter fun z => decide (z ≠ v)) w
    unfold cntN at e3
    rw [sum_perm (p1.map _), List.map_cons, List.sum_cons] at h0
    have e4 : ∀ l : List Int, 0 ≤ (l.map fun w => cntN rows (listB f) w).sum := fun l => by
      induction l with
      | nil => exact Int.le_refl _
      | cons x l ih => rw [List.map_cons, List.sum_cons]; have := cnt_nonneg rows (listB f) x; omega
    have := e4 ((listB t).filter fun z => decide (z ≠ w))
    omega
theorem sq_none {rows : List (BitVec 64)} {f t : BitVec 64} (hz : f ≠ 0#64 ∧ t ≠ 0#64) (hb : betB rows f t ≠ 0) : ltF noneB.sq (pairB rows f t).sq := by
  have h1 := bet_pos hb
  have h2 := onm_bd hz.1 hz.2
  refine Int.not_le.1 fun hle => ?_
  have hle2 : leF (sqB rows f t) noneB.sq := hle
  rw [show noneB.sq = mkF (0 * 0) 1 by decide +kernel] at hle2
  have h3 := (leF_mk (Int.mul_nonneg (by omega) (by omega)) (by omega) (by decide) (by decide)).1 hle2
  have := Int.mul_pos h1 h1
  omega
theorem first_best {rows : List (BitVec 64)} (hD : RowsD rows) {R : Bst} (hI : BestI rows (AllP rows) R) : R = bestF rows := by
  have hR : rows.length ≤ 64 := by have := hD.len; omega
  have hB := bestF_inv hR
  rcases hI.real with e | ⟨S, T, hA, e⟩
  · rcases hB.real with e2 | ⟨f, t, hC, e2⟩
    · rw [e, e2]
    · have hA := cand_all hD hC
      have h1 := hI.good f t hA
      rw [e] at h1
      rw [bef_iff.2 (.inl (sq_none hA.1 hA.2.2.2))] at h1; cases h1
  · have hI2 := hI
    rw [e] at hI2
    have h1 := hB.good S T (first_cand hD hI2 hA)
    rcases hB.real with e2 | ⟨f, t, hC, e2⟩
    · rw [e2, bef_iff.2 (.inl (sq_none hA.1 hA.2.2.2))] at h1; cases h1
    · have hA2 := cand_all hD hC
      have h2 := hI2.good f t hA2
      rw [e2] at h1
      have h3 := bef_tri (sqB_val hA.1.1 hA.1.2) (sqB_val hA2.1.1 hA2.1.2) h1 h2
      have hmk : ∀ b c : BitVec 64, listB b = listB c → b = c := fun b c h => by
        refine BitVec.eq_of_getLsbD_eq fun i hi => ?_
        have : ∀ d : BitVec 64, d.getLsbD i = true ↔ (i : Int) ∈ listB d := fun d => by rw [mem_listB, Int.toNat_natCast]; exact ⟨fun h => ⟨by omega, h⟩, fun h => h.2⟩
        rw [Bool.eq_iff_iff, this, this, h]
      rw [e, e2, hmk S f h3.2.1, hmk T t h3.2.2]

end Go.Sl
