/- A part of the proofs of statements of this seat: contracts of functions, and the plain laws that they lean on. No conditions. -/
import Derived.Test.YtfkcohmipjhfcaaGreatDoorP9
import Derived.Test.YtfkcohmipjhfcaaGreatDoorP12
import Derived.ScopeJumps
set_option linter.unusedVariables false
set_option linter.unusedSimpArgs false
set_option linter.unusedSectionVars false
namespace Go.Sl
open Go.Proofs
set_option maxRecDepth 4000
variable {κ : Ctx} {I : List Item}
theorem tz_small (m : BitVec 64) : 0 ≤ tzTab.getD (tzIx m) 0 ∧ tzTab.getD (tzIx m) 0 ≤ 64 := by
 have h : ∀ k : Fin 64, 0 ≤ tzTab.getD k.val 0 ∧ tzTab.getD k.val 0 ≤ 64 := by decide +kernel
 exact h ⟨tzIx m, tzIx_lt m⟩
theorem Tz_ok (m : BitVec 64) (hT : TabRd κ I 0 tzCells) :
    CallS Tryz.prog κ 234 [U64 (m)] I (fun r J => r = I64 (tzB m) ∧ I = J) := by
 refine Ce1 Tryz.func234 rfl rfl ?_
 refine Ah (Ga rfl (Af (As (Ah (Gm rfl (Gr (Runs.eqB (a := m) (b := 0#64) rfl rfl) (Af (A8 rfl (fun c4 => ?_) (fun c4 => ?_)))))))))
 ·exact Ah (Ga rfl (Af (Ay (Ak (A4 rfl rfl (I) A0 ⟨by unfold tzB; rw [if_pos c4], rfl⟩)))))
 ·exact A2 (Aj (Ah (Gm rfl (Gm rfl (Gr (Runs.negB (a := m) rfl) (Gr (Cr (a := m) (b := -m) rfl rfl) (Gr (Runs.mulB (a := m &&& (-m)) (b := 285870213051353865#64) rfl rfl) (Gr (En (a := (m &&& (-m)) * 285870213051353865#64) rfl rfl om om) (Gr (Runs.idxArrU (i := tzIx m) Tryz.underlying310 ty5 rfl rfl (tzIx_lt m)) (Gr (Runs.loadTab ty5 rfl (B7 hT A0) (tzCells_at m)) (Gr (Runs.convI Ek Bx rfl (by unfold InR; have := tz_small m; omega)) (Ga rfl (Af (Ap (S1 2 rfl) (Ay (A4 rfl rfl (I) A0 ⟨by unfold tzB; rw [if_neg c4], rfl⟩))))))))))))))))
theorem Least_ok (m : BitVec 64) (hT : TabRd κ I 0 tzCells) :
    CallS Tryz.prog κ 238 [U64 (m)] I (fun r J => r = I64 (tzB m) ∧ I = J) := by
 refine Ce1 Tryz.func238 rfl rfl ?_
 refine Ah (Ga rfl (Af (Ah (Gm rfl (G.e (Al call234 rfl rfl (Tz_ok m (B7 hT A0))) ?_)))))
 rintro _ _ ⟨_, _, ⟨rfl, rfl⟩, rfl, rfl⟩
 exact Ga rfl (Af (Ay (A4 rfl rfl (I) A0 ⟨rfl, rfl⟩)))
theorem MList_ok (m : BitVec 64) (hT : TabRd κ I 0 tzCells) :
    CallS Tryz.prog κ 171 [U64 (m)] I (fun r J => ∃ a c, r = .slice a (listB m).length c ∧ J = vc 3 (.slice a (listB m).length c) (listB m) :: I) := by
 refine Ce1 Tryz.func171 rfl rfl ?_
 refine Ah (Ga rfl (Af (Ah (Ga rfl (Af (As (A1 (Bu (σ := (BitVec 64) × (Option Addr) × Nat × (List Int)) (fun s => ([(0, U64 (s.1)), (3, .slice s.2.1 s.2.2.2.length s.2.2.1)] : Env)) (fun s => vc 3 (.slice s.2.1 s.2.2.2.length s.2.2.1) (s.2.2.2) :: I) (fun s => (listB m = s.2.2.2 ++ listB s.1)) (fun s => (listB s.1).length) (m, none, 0, []) (show (listB m = ([] : List Int) ++ listB (m : BitVec 64)) from rfl) (Aa (C1 rfl (by first | rfl | simp)) (Aa (C1 rfl (by first | rfl | simp)) Bi)) (show Fit κ _ (vc 3 (.slice (none) ([]).length (0)) (([])) :: I) from (Bv _ _)) ?_))))))))
 rintro ⟨n, a, c, out⟩ hp
 dsimp only at hp ⊢
 have ho := hp
 have hol := congrArg List.length ho
 rw [List.length_append] at hol
 have hml := listB_len m
 refine As (Ah (Gm rfl (Gr (Ef (a := n) (b := 0#64) rfl rfl) (Af (A8 rfl (fun c5 => ?_) (fun c5 => ?_))))))
 ·refine A2 (Aj (As (A1 (Ax (Gm rfl (Gm rfl (G.e (Al call234 rfl rfl (Tz_ok n (B7 hT A0))) ?_)))))))
  rintro _ _ ⟨_, _, ⟨rfl, rfl⟩, rfl, rfl⟩
  refine Ge1 (Bz (α := Int) (cs := [_]) (xs := [tzB n]) Ac ty3 rfl rfl dc dc rfl rfl rfl rfl) fun ad1 => ?_
  refine Ge2 (Cg (α := Int) (e := 3) (xs := out) (ys := ([tzB n] : List Int)) Ac ty3 rfl rfl rfl mm Be lcn dc rfl (fun _ _ => am)) fun ad2 cp3 => ?_
  exact Ga rfl (Bg (Ai (Aj (Ax (Gm rfl (Gm rfl (Gr (Runs.subB (a := n) (b := 1#64) rfl rfl) (Gr (Cr (a := n) (b := n - (1#64)) rfl rfl) (Ga rfl (Bg (B0 ((n &&& (n - (1#64))), (ad2), (cp3), (out ++ ([tzB n] : List Int))) (by dsimp only; exact (by rw [ho, listB_step c5, List.append_assoc]; rfl)) (hlt := by (try dsimp only); exact (listB_less c5)))))))))))))
 ·refine Bs (Am (Am (A6 (Aj (Ah (Gm rfl (Ga rfl (Af (Ay ?_)))))))))
  have hn0 : n = 0#64 := Classical.not_not.1 c5
  have hE : out = listB m := by rw [ho, hn0, Cx, List.append_nil]
  subst hE
  exact A4 rfl rfl (vc 3 (.slice a (listB m).length c) (listB m) :: I) Az ⟨a, c, rfl, rfl⟩
theorem ones1_val {m : BitVec 64} {bs : List Nat} (hl : bs.length = 8) (hb : ∀ b ∈ bs, b < 256) (hm : m.toNat = valN bs) : (ones1 m).toNat = valN (bs.map p1) := by
 unfold ones1
 have hle : valN (bs.map p1) ≤ repN 255 8 := by
  have := valN_le (c := 255) (bs.map p1) fun b h => by obtain ⟨x, hx, rfl⟩ := List.mem_map.1 h; have := (b1 ⟨x, hb x hx⟩).1; simp only at this; omega
  rwa [List.length_map, hl] at this
 rw [BitVec.toNat_add, BitVec.toNat_and, BitVec.toNat_and, BitVec.toNat_ushiftRight, Nat.shiftRight_eq_div_pow, show 2 ^ (1 : Int).toNat = 2 from rfl, hm, show (6148914691236517205#64).toNat = repN 85 bs.length by rw [hl]; decide +kernel, step1 bs hb]
 exact Nat.mod_eq_of_lt (Nat.lt_of_le_of_lt hle (by decide +kernel))
theorem ones2_val {m : BitVec 64} {bs : List Nat} (hl : bs.length = 8) (hb : ∀ b ∈ bs, b < 256 ∧ p2 b < 256) (hm : m.toNat = valN bs) : (ones2 m).toNat = valN (bs.map p2) := by
 unfold ones2
 have hle : valN (bs.map p2) ≤ repN 255 8 := by
  have := valN_le (c := 255) (bs.map p2) fun b h => by obtain ⟨x, hx, rfl⟩ := List.mem_map.1 h; have := (hb x hx).2; omega
  rwa [List.length_map, hl] at this
 rw [BitVec.toNat_add, BitVec.toNat_and, BitVec.toNat_and, BitVec.toNat_ushiftRight, Nat.shiftRight_eq_div_pow, show 2 ^ (2 : Int).toNat = 4 from rfl, hm, show (3689348814741910323#64).toNat = repN 51 bs.length by rw [hl]; decide +kernel, step2 bs fun b h => (hb b h).1]
 exact Nat.mod_eq_of_lt (Nat.lt_of_le_of_lt hle (by decide +kernel))
theorem ones3_val {m : BitVec 64} {bs : List Nat} (hl : bs.length = 8) (hb : ∀ b ∈ bs, b % 16 ≤ 4 ∧ b / 16 ≤ 4) (hm : m.toNat = valN bs) : (ones3 m).toNat = valN (bs.map p3) := by
 unfold ones3
 have hle : valN bs ≤ repN 68 8 := by
  have := valN_le (c := 68) bs fun b h => by have := hb b h; omega
  rwa [hl] at this
 have hr : repN 68 8 = 4919131752989213764 := by decide +kernel
 rw [BitVec.toNat_and, BitVec.toNat_add, BitVec.toNat_ushiftRight, Nat.shiftRight_eq_div_pow, show 2 ^ (4 : Int).toNat = 16 from rfl, hm, show (1085102592571150095#64).toNat = repN 15 bs.length by rw [hl]; decide +kernel, Nat.mod_eq_of_lt om, step3 bs hb]
theorem ones_pop (m : BitVec 64) : onesB m = ((listB m).length : Int) := by
 unfold onesB
 have hl := bytesN_len m.toNat 8
 have hlt := bytesN_lt m.toNat 8
 have hv := bytesN_val 8 m.toNat (Nat.lt_of_lt_of_le m.isLt dc)
 generalize bytesN m.toNat 8 = bs at hl hlt hv
 have hb := fun b (h : b ∈ bs) => b1 ⟨b, hlt b h⟩
 have e1 := ones1_val hl hlt hv.symm
 have e2 := ones2_val (bs := bs.map p1) (by rw [List.length_map, hl]) (fun b h => by obtain ⟨x, hx, rfl⟩ := List.mem_map.1 h; have := hb x hx; simp only at this; exact ⟨this.1, by omega⟩) e1
 have e3 := ones3_val (bs := (bs.map p1).map p2) (by rw [List.length_map, List.length_map, hl]) (fun b h => by obtain ⟨y, hy, rfl⟩ := List.mem_map.1 h; obtain ⟨x, hx, rfl⟩ := List.mem_map.1 hy; have := hb x hx; simp only at this; exact ⟨this.2.1, this.2.2.1⟩) e2
 generalize ones3 (ones2 (ones1 m)) = a at e3
 have hc : valN bs = m.toNat := hv
 have hcnt := cnt_val bs hlt
 obtain ⟨f1, f2⟩ := fold_all (n := a.toNat) (n4 := a.toNat + a.toNat / 256) (n5 := a.toNat + a.toNat / 256 + (a.toNat + a.toNat / 256) / 65536) (n6 := a.toNat + a.toNat / 256 + (a.toNat + a.toNat / 256) / 65536 + (a.toNat + a.toNat / 256 + (a.toNat + a.toNat / 256) / 65536) / 4294967296)
  (bs := ((bs.map p1).map p2).map p3) (by rw [List.length_map, List.length_map, List.length_map, hl]) (fun b h => by obtain ⟨z, hz, rfl⟩ := List.mem_map.1 h; obtain ⟨y, hy, rfl⟩ := List.mem_map.1 hz; obtain ⟨x, hx, rfl⟩ := List.mem_map.1 hy; have := hb x hx; simp only at this; exact this.2.2.2.1) e3 rfl rfl rfl
 have g4 : (ones4 a).toNat = a.toNat + a.toNat / 256 := by
  unfold ones4; rw [BitVec.toNat_add, BitVec.toNat_ushiftRight, Nat.shiftRight_eq_div_pow, show 2 ^ (8 : Int).toNat = 256 from rfl]; exact Nat.mod_eq_of_lt om
 have g5 : (ones5 (ones4 a)).toNat = a.toNat + a.toNat / 256 + (a.toNat + a.toNat / 256) / 65536 := by
  unfold ones5; rw [BitVec.toNat_add, BitVec.toNat_ushiftRight, Nat.shiftRight_eq_div_pow, show 2 ^ (16 : Int).toNat = 65536 from rfl, g4]; exact Nat.mod_eq_of_lt om
 have g6 : (ones6 (ones5 (ones4 a))).toNat = a.toNat + a.toNat / 256 + (a.toNat + a.toNat / 256) / 65536 + (a.toNat + a.toNat / 256 + (a.toNat + a.toNat / 256) / 65536) / 4294967296 := by
  unfold ones6; rw [BitVec.toNat_add, BitVec.toNat_ushiftRight, Nat.shiftRight_eq_div_pow, show 2 ^ (32 : Int).toNat = 4294967296 from rfl, g5]; exact Nat.mod_eq_of_lt om
 have hL : (listB m).length = sumN' (((bs.map p1).map p2).map p3) := by
  unfold listB listN
  rw [List.length_map, List.map_map, List.map_map, show (fun i => m.getLsbD i) = fun j => (valN bs).testBit j from by funext j; rw [hc]; rfl]
  rw [hl] at hcnt
  exact hcnt
 rw [g6, hL, ← f1]
 omega
def meetL (xs ys : List Int) : List Int := (ofL xs).filter fun x => decide (x ∈ ys)
theorem mem_meetL {xs ys : List Int} {x : Int} : x ∈ meetL xs ys ↔ x ∈ xs ∧ x ∈ ys := by simp [meetL, mem_ofL]
def rangeI (n : Int) : List Int := (List.range (min n 64).toNat).map fun j : Nat => (j : Int)
theorem mem_rangeI {n x : Int} : x ∈ rangeI n ↔ 0 ≤ x ∧ x < n ∧ x < 64 := by
 unfold rangeI
 rw [List.mem_map]
 constructor
 ·rintro ⟨j, hj, rfl⟩; rw [List.mem_range] at hj; omega
 ·rintro ⟨h1, h2, h3⟩; exact ⟨x.toNat, by rw [List.mem_range]; omega, by omega⟩
theorem insideN_ok {nd : Int} {es : List Pt} {set : List Int} (h : GrOk nd es) : insideN nd es set = (es.filter fun e => decide (e.u ∈ set ∧ e.v ∈ set)).length := by
 unfold insideN; rw [if_neg (by rw [checkG_ok.2 h]; decide), insideL_eq set h]
end Go.Sl
namespace Go.Sl
def reachL (rows : List (BitVec 64)) (w : BitVec 64) : Nat → BitVec 64 → BitVec 64 → BitVec 64
 | 0, _, frm => frm
 | n + 1, front, frm => if front = 0#64 then frm else reachL rows w n ((front &&& (front - 1#64)) ||| (at_ rows (tzB front) &&& w &&& ~~~frm)) (frm ||| (at_ rows (tzB front) &&& w &&& ~~~frm))
def reachB (rows : List (BitVec 64)) (f w : BitVec 64) : BitVec 64 := reachL rows w 64 (f &&& w) (f &&& w)
structure ReachI (rows : List (BitVec 64)) (f w front frm : BitVec 64) : Prop where
 start : ∀ i : Nat, (f &&& w).getLsbD i = true → frm.getLsbD i = true
 sub : ∀ i : Nat, frm.getLsbD i = true → w.getLsbD i = true
 fsub : ∀ i : Nat, front.getLsbD i = true → frm.getLsbD i = true
 closed : ∀ i j : Nat, frm.getLsbD i = true → front.getLsbD i = false → (at_ rows (i : Int)).getLsbD j = true → w.getLsbD j = true → frm.getLsbD j = true
 least : ∀ X : Nat → Prop, (∀ i : Nat, (f &&& w).getLsbD i = true → X i) → (∀ i j : Nat, X i → w.getLsbD i = true → (at_ rows (i : Int)).getLsbD j = true → w.getLsbD j = true → X j) → ∀ i : Nat, frm.getLsbD i = true → X i
structure ReachP (rows : List (BitVec 64)) (f w M : BitVec 64) : Prop where
 start : ∀ i : Nat, (f &&& w).getLsbD i = true → M.getLsbD i = true
 sub : ∀ i : Nat, M.getLsbD i = true → w.getLsbD i = true
 closed : ∀ i j : Nat, M.getLsbD i = true → (at_ rows (i : Int)).getLsbD j = true → w.getLsbD j = true → M.getLsbD j = true
 least : ∀ X : Nat → Prop, (∀ i : Nat, (f &&& w).getLsbD i = true → X i) → (∀ i j : Nat, X i → w.getLsbD i = true → (at_ rows (i : Int)).getLsbD j = true → w.getLsbD j = true → X j) → ∀ i : Nat, M.getLsbD i = true → X i
theorem ReachP.uniq {rows : List (BitVec 64)} {f w M N : BitVec 64} (h : ReachP rows f w M) (k : ReachP rows f w N) : M = N := by
 refine BitVec.eq_of_getLsbD_eq fun i _ => ?_
 have e1 := h.least (fun i => N.getLsbD i = true) k.start (fun i j a _ b c => k.closed i j a b c) i
 have e2 := k.least (fun i => M.getLsbD i = true) h.start (fun i j a _ b c => h.closed i j a b c) i
 cases h1 : M.getLsbD i <;> cases h2 : N.getLsbD i <;> simp_all
theorem ReachI.begin {rows : List (BitVec 64)} {f w : BitVec 64} : ReachI rows f w (f &&& w) (f &&& w) :=
 ⟨fun i h => h, fun i h => by rw [BitVec.getLsbD_and, Bool.and_eq_true] at h; exact h.2, fun i h => h, fun i j h h' => absurd h (by rw [h']; decide), fun X h _ i hi => h i hi⟩
theorem ReachI.done {rows : List (BitVec 64)} {f w M : BitVec 64} (h : ReachI rows f w 0#64 M) : ReachP rows f w M :=
 ⟨h.start, h.sub, fun i j a b c => h.closed i j a (by simp) b c, h.least⟩
def reachM (w front frm : BitVec 64) : Nat := (listN (w &&& ~~~(frm &&& ~~~front))).length
theorem listN_lt {a b : BitVec 64} (h : ∀ i : Nat, a.getLsbD i = true → b.getLsbD i = true) {k : Nat} (ha : a.getLsbD k = false) (hb : b.getLsbD k = true) : (listN a).length < (listN b).length := by
 have hn : (k :: listN a).Nodup := List.nodup_cons.2 ⟨fun hm => by { rw [mem_listN, ha] at hm; exact absurd hm (by decide) }, (listN_asc a).imp fun h => by omega⟩
 exact List.Nodup.length_le_of_subset hn fun i hi => by
  rcases List.mem_cons.1 hi with rfl | h1
  ·exact mem_listN.2 hb
  ·exact mem_listN.2 (h i (mem_listN.1 h1))
theorem ReachI.step {rows : List (BitVec 64)} {f w front frm : BitVec 64} (h : ReachI rows f w front frm) (hf : front ≠ 0#64) :
  ReachI rows f w ((front &&& (front - 1#64)) ||| (at_ rows (tzB front) &&& w &&& ~~~frm)) (frm ||| (at_ rows (tzB front) &&& w &&& ~~~frm)) ∧ reachM w ((front &&& (front - 1#64)) ||| (at_ rows (tzB front) &&& w &&& ~~~frm)) (frm ||| (at_ rows (tzB front) &&& w &&& ~~~frm)) < reachM w front frm := by
 obtain ⟨k, hk, hkb, hlt, he, hp⟩ := least_bit hf
 have htz : tzB front = (k : Int) := tzB_eq hf hk he
 rw [htz]
 have hf1 : ∀ i : Nat, (frm ||| (at_ rows (k : Int) &&& w &&& ~~~frm)).getLsbD i = true ↔ (frm.getLsbD i = true ∨ ((at_ rows (k : Int)).getLsbD i = true ∧ w.getLsbD i = true)) := fun i => by
  by_cases hi : i < 64
  ·simp only [BitVec.getLsbD_or, BitVec.getLsbD_and, BitVec.getLsbD_not, hi, decide_true, Bool.true_and]
   cases frm.getLsbD i <;> simp
  ·simp [BitVec.getLsbD_of_ge _ _ (show 64 ≤ i by omega)]
 have hf2 : ∀ i : Nat, ((front &&& (front - 1#64)) ||| (at_ rows (k : Int) &&& w &&& ~~~frm)).getLsbD i = true ↔ ((front.getLsbD i = true ∧ i ≠ k) ∨ ((at_ rows (k : Int)).getLsbD i = true ∧ w.getLsbD i = true ∧ frm.getLsbD i = false)) := fun i => by
  by_cases hi : i < 64
  ·simp only [BitVec.getLsbD_or, BitVec.getLsbD_and, BitVec.getLsbD_not, hi, decide_true, Bool.true_and]
   have := hp i
   rw [BitVec.getLsbD_and] at this
   rw [this]
   cases frm.getLsbD i <;> simp
  ·simp [BitVec.getLsbD_of_ge _ _ (show 64 ≤ i by omega)]
 have hkf := h.fsub k hkb
 have hkw := h.sub k hkf
 refine ⟨⟨fun i hi => (hf1 i).2 (.inl (h.start i hi)), fun i hi => ?_, fun i hi => ?_, fun i j hi hj hr hw => ?_, fun X h1 h2 i hi => ?_⟩, ?_⟩
 ·rcases (hf1 i).1 hi with h1 | h1
  ·exact h.sub i h1
  ·exact h1.2
 ·rcases (hf2 i).1 hi with h1 | h1
  ·exact (hf1 i).2 (.inl (h.fsub i h1.1))
  ·exact (hf1 i).2 (.inr ⟨h1.1, h1.2.1⟩)
 ·have hn : ¬ ((front.getLsbD i = true ∧ i ≠ k) ∨ ((at_ rows (k : Int)).getLsbD i = true ∧ w.getLsbD i = true ∧ frm.getLsbD i = false)) := fun hh => by rw [(hf2 i).2 hh] at hj; cases hj
  by_cases hik : i = k
  ·subst hik; exact (hf1 j).2 (.inr ⟨hr, hw⟩)
  ·rcases (hf1 i).1 hi with h1 | h1
   ·have h3 : front.getLsbD i = false := by
     cases h4 : front.getLsbD i
     ·rfl
     ·exact absurd (.inl ⟨h4, hik⟩) hn
    exact (hf1 j).2 (.inl (h.closed i j h1 h3 hr hw))
   ·have h3 : frm.getLsbD i = true := by
     cases h4 : frm.getLsbD i
     ·exact absurd (.inr ⟨h1.1, h1.2, h4⟩) hn
     ·rfl
    have h3' : front.getLsbD i = false := by
     cases h4 : front.getLsbD i
     ·rfl
     ·exact absurd (.inl ⟨h4, hik⟩) hn
    exact (hf1 j).2 (.inl (h.closed i j h3 h3' hr hw))
 ·rcases (hf1 i).1 hi with h3 | h3
  ·exact h.least X h1 h2 i h3
  ·exact h2 k i (h.least X h1 h2 k hkf) hkw h3.1 h3.2
 ·unfold reachM
  have hx : ∀ (a b : BitVec 64) (i : Nat), (w &&& ~~~(b &&& ~~~a)).getLsbD i = true ↔ (w.getLsbD i = true ∧ ¬ (b.getLsbD i = true ∧ a.getLsbD i = false)) := fun a b i => by
   by_cases hi : i < 64
   ·simp only [BitVec.getLsbD_and, BitVec.getLsbD_not, hi, decide_true, Bool.true_and]
    cases a.getLsbD i <;> cases b.getLsbD i <;> simp
   ·simp [BitVec.getLsbD_of_ge _ _ (show 64 ≤ i by omega)]
  refine listN_lt (k := k) (fun i hi => ?_) ?_ ((hx _ _ _).2 ⟨hkw, fun hh => by rw [hkb] at hh; exact absurd hh.2 (by decide)⟩)
  ·obtain ⟨h1, h2⟩ := (hx _ _ _).1 hi
   refine (hx _ _ _).2 ⟨h1, fun hh => h2 ⟨(hf1 i).2 (.inl hh.1), ?_⟩⟩
   cases h4 : ((front &&& (front - 1#64)) ||| (at_ rows (k : Int) &&& w &&& ~~~frm)).getLsbD i
   ·rfl
   ·rcases (hf2 i).1 h4 with h5 | h5
    ·rw [hh.2] at h5; exact absurd h5.1 (by decide)
    ·rw [hh.1] at h5; exact absurd h5.2.2 (by decide)
  ·rw [← Bool.not_eq_true]
   intro hh
   refine ((hx _ _ _).1 hh).2 ⟨(hf1 k).2 (.inl hkf), ?_⟩
   cases h4 : ((front &&& (front - 1#64)) ||| (at_ rows (k : Int) &&& w &&& ~~~frm)).getLsbD k
   ·rfl
   ·rcases (hf2 k).1 h4 with h5 | h5
    ·exact absurd rfl h5.2
    ·rw [hkf] at h5; exact absurd h5.2.2 (by decide)
theorem ReachI.ends {rows : List (BitVec 64)} {f w : BitVec 64} : ∀ (n : Nat) (front frm : BitVec 64), ReachI rows f w front frm → reachM w front frm ≤ n → ReachP rows f w (reachL rows w n front frm)
 | 0, front, frm, h, hm => by
  have hz : front = 0#64 := Classical.byContradiction fun hf => by have := (h.step hf).2; omega
  subst hz; exact h.done
 | n + 1, front, frm, h, hm => by
  unfold reachL
  by_cases hf : front = 0#64
  ·rw [if_pos hf]; subst hf; exact h.done
  ·rw [if_neg hf]; exact ReachI.ends n _ _ (h.step hf).1 (by have := (h.step hf).2; omega)
theorem reachB_ok (rows : List (BitVec 64)) (f w : BitVec 64) : ReachP rows f w (reachB rows f w) := ReachI.ends 64 _ _ .begin (listN_len _)
theorem ReachI.eq {rows : List (BitVec 64)} {f w M : BitVec 64} (h : ReachI rows f w 0#64 M) : M = reachB rows f w := h.done.uniq (reachB_ok rows f w)
end Go.Sl
namespace Go.Sl
end Go.Sl
namespace Go.Sl
section
variable {α : Type} [Enc α] {κ : Ctx} {I : List Item}
end
end Go.Sl
namespace Go.Sl
open Go.Proofs
set_option maxRecDepth 4000
theorem mkF_zero {b : Int} (h : 0 < b) : mkF 0 b = ⟨0, 1⟩ := by
 have e : gcdI 0 b = b := by unfold gcdI; simp; omega
 unfold mkF; rw [e, Int.zero_ediv, Int.ediv_self om]
variable {κ : Ctx} {I : List Item}
def rowG (nd : Int) (es : List Pt) (v : Int) : BitVec 64 := if v < 0 ∨ ((rowsB nd es).length : Int) ≤ v ∨ checkG nd es ≠ 0 then 0#64 else at_ (rowsB nd es) v
def nbL (es : List Pt) (v : Int) : List Int := es.flatMap fun e => (if e.u = v then [e.v] else []) ++ (if e.v = v then [e.u] else [])
theorem mem_nbL {es : List Pt} {v x : Int} : x ∈ nbL es v ↔ (⟨v, x⟩ : Pt) ∈ es ∨ (⟨x, v⟩ : Pt) ∈ es := by
 unfold nbL
 rw [List.mem_flatMap]
 constructor
 ·rintro ⟨⟨a, b⟩, he, hx⟩
  rcases List.mem_append.1 hx with h | h
  ·split at h
   ·rename_i h1; simp only [List.mem_singleton] at h; simp only at h1; subst h h1; exact .inl he
   ·simp at h
  ·split at h
   ·rename_i h1; simp only [List.mem_singleton] at h; simp only at h1; subst h h1; exact .inr he
   ·simp at h
 ·rintro (h | h)
  ·exact ⟨_, h, by simp⟩
  ·exact ⟨_, h, by simp⟩
def nbG (nd : Int) (es : List Pt) (v : Int) : List Int := if checkG nd es ≠ 0 then [] else ofL (nbL es v)
theorem nb_eq (nd : Int) (es : List Pt) (v : Int) : listB (rowG nd es v) = nbG nd es v := by
 by_cases hc : checkG nd es ≠ 0
 ·unfold rowG nbG; rw [if_pos (.inr (.inr hc)), if_pos hc, Cx]
 ·have hG := checkG_ok.1 (Classical.not_not.1 hc)
  have hr := hG.rng
  have hl := hG.rows.len
  unfold nbG
  rw [if_neg hc]
  refine intLin.uniq (listB_asc _) (ofL_asc _) fun x => ?_
  rw [Ea, mem_ofL, mem_nbL]
  by_cases hv : v < 0 ∨ ((rowsB nd es).length : Int) ≤ v
  ·have hz : rowG nd es v = 0#64 := if_pos om
   rw [hz]
   simp only [BitVec.getLsbD_zero, Bool.false_eq_true, and_false, false_iff]
   rintro (h | h)
   ·have := hG.edge _ h; simp only at this; omega
   ·have := hG.edge _ h; simp only at this; omega
  ·have hz : rowG nd es v = at_ (rowsB nd es) v := if_neg om
   rw [hz]
   by_cases hx : 0 ≤ x ∧ x < 64
   ·rw [hG.rows.bit v x om om hx.1 hx.2, decide_eq_true_eq]
    exact ⟨fun h => h.2, fun h => ⟨hx.1, h⟩⟩
   ·constructor
    ·rintro ⟨h1, h2⟩
     rw [BitVec.getLsbD_of_ge _ _ om] at h2
     exact absurd h2 dc
    ·rintro (h | h)
     ·have := hG.edge _ h; simp only at this; omega
     ·have := hG.edge _ h; simp only at this; omega
theorem listB_and (a b : BitVec 64) : listB (a &&& b) = meetL (listB a) (listB b) := by
 refine intLin.uniq (listB_asc _) ((ofL_asc _).sublist List.filter_sublist) fun x => ?_
 rw [mem_meetL, Ea, Ea, Ea, BitVec.getLsbD_and, Bool.and_eq_true]
 exact ⟨fun h => ⟨⟨h.1, h.2.1⟩, h.1, h.2.2⟩, fun h => ⟨h.1.1, h.1.2, h.2.2⟩⟩
def commonG (nd : Int) (es : List Pt) (u v : Int) : List Int := if u = v then [] else meetL (nbG nd es u) (nbG nd es v)
theorem common_eq {nd : Int} {es : List Pt} {u v : Int} (h : u ≠ v) : listB (rowG nd es u &&& rowG nd es v) = commonG nd es u v := by
 unfold commonG; rw [if_neg h, listB_and, nb_eq, nb_eq]
theorem all_tab : ∀ n : Fin 65, ∀ i : Fin 64, (allB (n.val : Int)).getLsbD i.val = decide (i.val < n.val) := by decide +kernel
theorem getLsb_allB {n : Int} (h0 : 0 ≤ n) (h1 : n ≤ 64) {i : Nat} (hi : i < 64) : (allB n).getLsbD i = decide ((i : Int) < n) := by
 have := all_tab ⟨n.toNat, by omega⟩ ⟨i, hi⟩
 simp only [show ((n.toNat : Nat) : Int) = n by omega] at this
 rw [this, decide_eq_decide]; omega
theorem meet_all {nd : Int} (set : List Int) (h0 : 0 ≤ nd) (h1 : nd ≤ 64) : listB (maskB set &&& allB nd) = meetL set (rangeI nd) := by
 refine intLin.uniq (listB_asc _) ((ofL_asc _).sublist List.filter_sublist) fun x => ?_
 rw [mem_meetL, Ea, mem_rangeI, BitVec.getLsbD_and, Bool.and_eq_true]
 by_cases hx : 0 ≤ x ∧ x < 64
 ·rw [getLsb_allB h0 h1 om, decide_eq_true_eq, show (maskB set).getLsbD x.toNat = decide (x ∈ set) by unfold maskB; rw [getLsb_maskB om, show ((x.toNat : Nat) : Int) = x by omega]; simp, decide_eq_true_eq]
  exact ⟨fun h => ⟨h.2.1, h.1, by omega, by omega⟩, fun h => ⟨h.2.1, h.1, by omega⟩⟩
 ·constructor
  ·rintro ⟨h1, h2, _⟩
   rw [BitVec.getLsbD_of_ge _ _ om] at h2
   exact absurd h2 dc
  ·rintro ⟨_, h⟩; omega
theorem dens_count {nd : Int} {es : List Pt} (set : List Int) (h : ¬ checkG nd es ≠ 0) : onesB (maskB set &&& allB nd) = ((meetL set (rangeI nd)).length : Int) := by
 have hr := (checkG_ok.1 (Classical.not_not.1 h)).rng
 rw [ones_pop, meet_all set hr.1 hr.2]
theorem dens_none {nd : Int} {es : List Pt} {set : List Int} (h : ¬ checkG nd es ≠ 0) (hm : (meetL set (rangeI nd)).length = 0) : insideN nd es set = 0 := by
 have hG := checkG_ok.1 (Classical.not_not.1 h)
 have hr := hG.rng
 rw [insideN_ok hG, List.length_eq_zero_iff, List.filter_eq_nil_iff]
 intro e he hd
 simp only [decide_eq_true_eq] at hd
 have h1 := hG.edge e he
 have : e.u ∈ meetL set (rangeI nd) := mem_meetL.2 ⟨hd.1, mem_rangeI.2 ⟨by omega, by omega, by omega⟩⟩
 rw [List.length_eq_zero_iff.1 hm] at this
 exact absurd this List.not_mem_nil
def densG (nd : Int) (es : List Pt) (set : List Int) : Fr := if checkG nd es ≠ 0 then ⟨0, 0⟩ else if (meetL set (rangeI nd)).length = 0 then ⟨0, 1⟩ else mkF ((insideN nd es set : Nat) : Int) (((meetL set (rangeI nd)).length : Nat) : Int)
theorem densG_prog {nd : Int} {es : List Pt} (set : List Int) (h : ¬ checkG nd es ≠ 0) : mkF ((insideN nd es set : Nat) : Int) (if onesB (maskB set &&& allB nd) < 1 then 1 else onesB (maskB set &&& allB nd)) = densG nd es set := by
 unfold densG
 rw [if_neg h, dens_count set h]
 by_cases hm : (meetL set (rangeI nd)).length = 0
 ·rw [if_pos hm, dens_none h hm, if_pos om]; exact mkF_zero dc
 ·rw [if_neg hm, if_neg om]
theorem GRowG_ok {nd : Int} {va : Value} {es : List Pt} (hl : Sl κ I va es) (v : Int) :
    CallS Tryz.prog κ 333 [.agg #[I64 (nd), va], I64 (v)] I (fun r J => r = U64 (rowG nd es v) ∧ I = J) := by
 refine Ce2 Tryz.func333 rfl rfl ?_
 refine Ah (Ge1 (Bd (cs := [_, _]) rfl rfl rfl) fun b1 => Ga rfl (Af (Ah (Gl2 ty48 ?_))))
 refine G.e (Al call198 rfl rfl (MRows_ok (nd := nd) (Bh hl))) ?_
 rintro _ _ ⟨_, _, ⟨ad2, cp3, rfl, rfl⟩, rfl, rfl⟩
 have hrwad2 := rowsB_len nd es
 refine Ga rfl (Af (As (Ah (Gm rfl (Gr (Bb rfl rfl) (Gm rfl (Bf (d := 10) rfl (fun g10 => ?_) (fun g10 => ?_))))))))
 ·exact Gpo (Gpo (Gpo (Gpo (Gr (Ao rfl rfl) (Gm rfl (Gpo (Gpo (Gpo (Gr (Ao rfl rfl) (Af (Ap (S3 20 5 1 rfl rfl rfl) (Cm rfl (Ah (Ga rfl (Af (Ay (Ak (A4 rfl rfl (I) A0 ⟨by rw [show rowG nd es v = 0#64 from if_pos om]; rfl, rfl⟩))))))))))))))))))
 ·refine Gro (Ad rfl) (Gro (Ad rfl) (Gro (Bk B4 rfl) (Gro (Cb rfl rfl) (Gr (Ar rfl rfl) (Gm rfl (Bf (d := 16) rfl (fun g16 => ?_) (fun g16 => ?_)))))))
  ·exact Gpo (Gpo (Gpo (Gr (Ao rfl rfl) (Af (Ap (S3 20 5 1 rfl rfl rfl) (Cm rfl (Ah (Ga rfl (Af (Ay (Ak (A4 rfl rfl (I) A0 ⟨by rw [show rowG nd es v = 0#64 from if_pos om]; rfl, rfl⟩))))))))))))
  ·refine Gro (Bp (vs := [_, _]) ty48) ?_
   refine Dv (Cf rfl rfl rfl) (Al call83 rfl rfl (CheckGen_ok (Bh hl))) ?_
   rintro _ _ ⟨_, _, ⟨rfl, rfl⟩, rfl, rfl⟩
   refine Gro (Bt rfl rfl) (Gr (Ar rfl rfl) (Af (Ap (S3 20 5 1 rfl rfl rfl) (A8 rfl (fun c20 => ?_) (fun c20 => ?_)))))
   ·exact Ah (Ga rfl (Af (Ay (Ak (A4 rfl rfl (I) A0 ⟨by rw [show rowG nd es v = 0#64 from if_pos om]; rfl, rfl⟩)))))
   ·exact A2 (Aj (Ah (Gm rfl (Gm rfl (Gr (Aw (α := (BitVec 64)) (xs := rowsB nd es) B4 ty175 rfl rfl Be om om) (Gr (C5 (α := (BitVec 64)) (xs := rowsB nd es) (u := U64 ((at_ (rowsB nd es) v))) ty175 rfl Be om om rfl) (Ga rfl (Af (Ay (A4 rfl rfl (I) A0 ⟨by rw [show rowG nd es v = at_ (rowsB nd es) v from if_neg om], rfl⟩))))))))))
theorem CommonG_ok {nd : Int} {va : Value} {es : List Pt} (hl : Sl κ I va es) (u v : Int) (hT : TabRd κ I 0 tzCells) :
    CallS Tryz.prog κ 314 [.agg #[I64 (nd), va], I64 (u), I64 (v)] I (fun r J => ∃ a c, r = .slice a (commonG nd es u v).length c ∧ J = vc 3 (.slice a (commonG nd es u v).length c) (commonG nd es u v) :: I) := by
 refine Ce3 Tryz.func314 rfl rfl ?_
 refine Ah (Ge1 (Bd (cs := [_, _]) rfl rfl rfl) fun b1 => Ga rfl (Af (As (Ah (Gm rfl (Gm rfl (Gr (Bl rfl rfl) (Af (A8 rfl (fun c9 => ?_) (fun c9 => ?_))))))))))
 ·refine Ah (Ga rfl (Af (Ay (Ak ?_))))
  have hX : (commonG nd es u v) = [] := if_pos c9
  exact A4 rfl rfl (vc 3 (.slice none (commonG nd es u v).length 0) (commonG nd es u v) :: I) (by rw [hX]; exact Cl (show Fit κ _ I from A0) (Bv (α := Int) _ _)) ⟨none, 0, by rw [hX]; rfl, rfl⟩
 ·refine A2 (Aj (As (Bj mixed (Bo (blk b1 [I64 (nd), va] 48 :: I) 9 (Dr 0 rfl (Bp (vs := [_, _]) ty48) ?_)))))
  refine Dr 1 rfl (Ad rfl) (Dr 3 rfl (Bp (vs := [_, _]) ty48) ?_)
  refine Dr 4 rfl (Ad rfl) (Ds1 2 (Se rfl (Al call333 rfl rfl (GRowG_ok (nd := nd) (Bh hl) u)) ?_))
  rintro _ _ ⟨_, _, ⟨rfl, rfl⟩, rfl, rfl⟩
  refine ⟨Az, ?_⟩
  refine Ds1 5 (Se rfl (Al call333 rfl rfl (GRowG_ok (nd := nd) (Bh hl) v)) ?_)
  rintro _ _ ⟨_, _, ⟨rfl, rfl⟩, rfl, rfl⟩
  refine ⟨Az, ?_⟩
  refine Dr 6 rfl (Cr (a := rowG nd es u) (b := rowG nd es v) rfl rfl) (Ds1 7 (Sc2 rfl (Al call171 rfl rfl (MList_ok ((rowG nd es u) &&& (rowG nd es v)) (B7 hT A0))) fun ad2 cp3 => ?_))
  refine Dr 8 rfl (A7 rfl) (Dz (Aj (Ap (S1 6 rfl) (Ay ?_))))
  have hX : (commonG nd es u v) = _ := (common_eq c9).symm
  exact A4 rfl rfl (vc 3 (.slice ad2 (commonG nd es u v).length cp3) (commonG nd es u v) :: I) (by rw [hX]; exact Az) ⟨ad2, cp3, by rw [hX], rfl⟩
theorem DensityG_ok {nd : Int} {va vb : Value} {es : List Pt} {set : List Int} (hl : Sl κ I va es) (hs : Sl κ I vb set) (hb : es.length ≤ 1000000) :
    CallS Tryz.prog κ 147 [.agg #[I64 (nd), va], vb] I (fun r J => r = .tuple #[.agg #[I64 (densG nd es set).num, I64 (densG nd es set).den], I64 (checkG nd es)] ∧ I = J) := by
 refine Ce2 Tryz.func147 rfl rfl ?_
 refine Ah (Ge1 (Bd (cs := [_, _]) rfl rfl rfl) fun b1 => Ge1 (Ba ty40 rfl) fun b2 => Ga rfl (Af (As (Ah (Gl2 ty48 ?_)))))
 refine Gc0 (Al call83 rfl rfl (CheckGen_ok (Bh hl))) ?_
 refine Ga rfl (Af (Ah (Gm rfl (Gr (Bt rfl rfl) (Af (A8 rfl (fun c11 => ?_) (fun c11 => ?_)))))))
 ·refine Ah (Gr (A9 (cells := [_, _]) ty40 C0 pl40 rfl rfl) (Gm rfl (Ge0 (Cq ty40) ?_)))
  refine Ga rfl (Af (Ay (Ak ?_)))
  have hX : (densG nd es set) = ⟨0, 0⟩ := if_pos c11
  exact Dn rfl ty40 rfl rfl mm rfl (I) A0 ⟨by first | (rw [hX]; done) | (rw [hX]; rfl), rfl⟩
 ·refine A2 (Aj (As (Bj mixed (Bo (blk b2 [I64 (0), I64 (0)] 40 :: blk b1 [I64 (nd), va] 48 :: I) 8 (Dr 0 rfl (Ad rfl) (Dr 2 rfl (Ab fld48_0 rfl) (Dr 3 rfl (Au ty3) ?_)))))))
  refine Ds1 1 (Sc0 rfl (Al call199 rfl rfl (MaskOf_ok (Bh hs))) ?_)
  refine Ds1 4 (Sc0 rfl (Al call200 rfl rfl (MaskAll_ok nd)) ?_)
  refine Dr 5 rfl (Cr (a := maskB set) (b := allB nd) rfl rfl) (Ds1 6 (Sc0 rfl (Al call219 rfl rfl (MCount_ok ((maskB set) &&& (allB nd)))) ?_))
  refine Dr 7 rfl (A7 rfl) (Dz (Aj (Ap (S4 7 4 2 1 rfl rfl rfl rfl) (Ah (Gl2 ty48 ?_)))))
  refine Gm rfl (Gc0 (Al call221 rfl rfl (InsideG_ok (nd := nd) (Bh hl) (Bh hs) om)) ?_)
  have hin23 := insideN_le nd es set
  refine Gm rfl (Gr (Ds rfl rfl) (Gc0 (Al call220 rfl rfl (MakeF_ok ((insideN nd es set : Nat) : Int) (if (onesB ((maskB set) &&& (allB nd))) < 1 then 1 else (onesB ((maskB set) &&& (allB nd)))) om (by have := onesB_bd (maskB set &&& allB nd); split <;> omega))) ?_))
  refine Gr (A3 rfl rfl) (Gr (A3 rfl rfl) (Ge0 (Cq ty40) ?_))
  refine Ga rfl (Af (Ay ?_))
  have hX := densG_prog (nd := nd) (es := es) set c11
  have hz : checkG nd es = 0 := Classical.not_not.1 c11
  exact Dn rfl ty40 rfl rfl mm rfl (I) A0 ⟨by first | (rw [← hX, hz]; done) | (rw [← hX, hz]; rfl), rfl⟩
variable {κ : Ctx} {I : List Item}
theorem all_rows {nd : Int} {es : List Pt} (h : 0 ≤ nd ∧ nd ≤ 64) (i : Nat) (hi : (allB nd).getLsbD i = true) : i < (rowsB nd es).length := by
 have h64 : i < 64 := Classical.byContradiction fun hn => by rw [BitVec.getLsbD_of_ge _ _ om] at hi; cases hi
 rw [getLsb_allB h.1 h.2 h64, decide_eq_true_eq] at hi
 rw [rowsB_len]; omega
theorem and_all_rows {nd : Int} {es : List Pt} (m : BitVec 64) (h : 0 ≤ nd ∧ nd ≤ 64) (i : Nat) (hi : (m &&& allB nd).getLsbD i = true) : i < (rowsB nd es).length := by
 rw [BitVec.getLsbD_and, Bool.and_eq_true] at hi; exact all_rows h i hi.2
theorem MReach_ok {va : Value} {rows : List (BitVec 64)} (hl : Sl κ I va rows) (f w : BitVec 64) (hw : ∀ i : Nat, w.getLsbD i = true → i < rows.length) (hT : TabRd κ I 0 tzCells) :
    CallS Tryz.prog κ 197 [va, U64 (f), U64 (w)] I (fun r J => r = U64 (reachB rows f w) ∧ I = J) := by
 refine Ce3 Tryz.func197 rfl rfl ?_
 refine Ah (Ga rfl (Af (Ah (Gm rfl (Gm rfl (Gr (Cr (a := f) (b := w) rfl rfl) (Ga rfl (Af (As (Ah (Gm rfl (Ga rfl (Af (A1 (Bu (σ := (BitVec 64) × (BitVec 64)) (fun s => ([(0, va), (1, U64 (s.2)), (2, U64 (w)), (7, U64 (s.1))] : Env)) (fun s => I) (fun s => (ReachI rows f w s.1 s.2)) (fun s => reachM w s.1 s.2) (f &&& w, f &&& w) (show (ReachI rows f w (f &&& w : BitVec 64) (f &&& w : BitVec 64)) from .begin) (Aa rfl (Aa (C1 rfl (by first | rfl | simp)) (Aa rfl (Aa (C1 rfl (by first | rfl | simp)) Bi)))) (show Fit κ _ (I) from Az) ?_)))))))))))))))
 rintro ⟨front, frm⟩ hp
 dsimp only at hp ⊢
 have hR := hp
 refine As (Ah (Gm rfl (Gr (Ef (a := front) (b := 0#64) rfl rfl) (Af (A8 rfl (fun c15 => ?_) (fun c15 => ?_))))))
 ·refine A2 (Aj (A1 (Ah (Gm rfl (Gc0 (Al call238 rfl rfl (Least_ok front (B7 hT A0))) ?_)))))
  refine Ga rfl ?_
  have htz := tzB_range c15
  have hbd := hw _ (hR.sub _ (hR.fsub _ htz.2.2))
  exact Af (Ah (Gm rfl (Gm rfl (Gr (Runs.subB (a := front) (b := 1#64) rfl rfl) (Gr (Cr (a := front) (b := front - (1#64)) rfl rfl) (Ga rfl (Af (Ap (S5 7 8 0 1 2 rfl rfl rfl rfl rfl) (Ah (Gm rfl (Gm rfl (Gr (Aw (α := (BitVec 64)) (xs := rows) B4 ty175 rfl rfl (Bh hl) om om) (Gr (C5 (α := (BitVec 64)) (xs := rows) (u := U64 ((at_ rows (tzB front)))) ty175 rfl (Bh hl) om om rfl) (Gm rfl (Gr (Cr (a := (at_ rows (tzB front))) (b := w) rfl rfl) (Gm rfl (Gr (D8 (a := (at_ rows (tzB front)) &&& w) (b := frm) rfl rfl) (Ga rfl (Af (Ap (S5 9 7 0 1 2 rfl rfl rfl rfl rfl) (Ah (Gm rfl (Gm rfl (Gr (Eo (a := frm) (b := ((at_ rows (tzB front)) &&& w) &&& ~~~frm) rfl rfl) (Ga rfl (Af (Ax (Gm rfl (Gm rfl (Gr (Eo (a := front &&& (front - (1#64))) (b := ((at_ rows (tzB front)) &&& w) &&& ~~~frm) rfl rfl) (Ga rfl (Bg (Ai (B0 (((front &&& (front - (1#64))) ||| (((at_ rows (tzB front)) &&& w) &&& ~~~frm)), (frm ||| (((at_ rows (tzB front)) &&& w) &&& ~~~frm))) (by dsimp only; exact (hR.step c15).1) (hlt := by (try dsimp only); exact (hR.step c15).2)))))))))))))))))))))))))))))))))))
 ·refine Bs (Am (Am (A6 (Aj (Ah (Gm rfl (Ga rfl (Af (Ay ?_)))))))))
  have hz : front = 0#64 := Classical.not_not.1 c15
  subst hz
  exact A4 rfl rfl (I) A0 ⟨by rw [hR.eq], rfl⟩
def rchG (nd : Int) (es : List Pt) (frm set : List Int) : List Int := if checkG nd es ≠ 0 then [] else listB (reachB (rowsB nd es) (maskB frm) (maskB set &&& allB nd))
theorem CReach_ok {nd : Int} {va vb vd : Value} {es : List Pt} {frm set : List Int} (hl : Sl κ I va es) (hf : Sl κ I vb frm) (hs : Sl κ I vd set) (hT : TabRd κ I 0 tzCells) :
    CallS Tryz.prog κ 110 [.agg #[I64 (nd), va], vb, vd] I (fun r J => ∃ a c, r = .tuple #[.slice a (rchG nd es frm set).length c, I64 (checkG nd es)] ∧ J = vc 3 (.slice a (rchG nd es frm set).length c) (rchG nd es frm set) :: I) := by
 refine Ce3 Tryz.func110 rfl rfl ?_
 refine Ah (Ge1 (Bd (cs := [_, _]) rfl rfl rfl) fun b1 => Ga rfl (Ga rfl (Af (As (Ah (Gl2 ty48 ?_))))))
 refine Gc0 (Al call83 rfl rfl (CheckGen_ok (Bh hl))) ?_
 refine Ga rfl (Af (Ah (Gm rfl (Gr (Bt rfl rfl) (Af (A8 rfl (fun c12 => ?_) (fun c12 => ?_)))))))
 ·refine Ah (Gm rfl (Ga rfl (Ga rfl (Af (Ap (S2 7 6 rfl rfl) (Ay (Ak ?_)))))))
  have hX : (rchG nd es frm set) = [] := if_pos c12
  exact Cw rfl rfl rfl (vc 3 (.slice none (rchG nd es frm set).length 0) (rchG nd es frm set) :: I) (by rw [hX]; exact Cl (show Fit κ _ I from A0) (Bv (α := Int) _ _)) ⟨none, 0, by rw [hX]; rfl, rfl⟩
 ·refine A2 (Aj (As (Bj mixed (Bo (blk b1 [I64 (nd), va] 48 :: I) 14 (Dr 0 rfl (Bp (vs := [_, _]) ty48) ?_)))))
  refine Dr 2 rfl (Ad rfl) (Dr 4 rfl (Ad rfl) (Dr 6 rfl (Ab fld48_0 rfl) (Dr 7 rfl (Au ty3) ?_)))
  refine Ds1 1 (Se rfl (Al call198 rfl rfl (MRows_ok (nd := nd) (Bh hl))) ?_)
  rintro _ _ ⟨_, _, ⟨ad2, cp3, rfl, rfl⟩, rfl, rfl⟩
  refine ⟨Az, ?_⟩
  have hrwad2 := rowsB_len nd es
  refine Ds1 3 (Sc0 rfl (Al call199 rfl rfl (MaskOf_ok (Bh hf))) ?_)
  refine Ds1 5 (Sc0 rfl (Al call199 rfl rfl (MaskOf_ok (Bh hs))) ?_)
  refine Ds1 8 (Sc0 rfl (Al call200 rfl rfl (MaskAll_ok nd)) ?_)
  refine Dr 9 rfl (Cr (a := maskB set) (b := allB nd) rfl rfl) (Ds1 10 (Se rfl (Al call197 rfl rfl (MReach_ok Be (maskB frm) ((maskB set) &&& (allB nd)) (and_all_rows _ (checkG_ok.1 (Classical.not_not.1 c12)).rng) (B7 hT A0))) ?_))
  rintro _ _ ⟨_, _, ⟨rfl, rfl⟩, rfl, rfl⟩
  refine ⟨Az, ?_⟩
  refine Ds1 11 (Sc2 rfl (Al call171 rfl rfl (MList_ok (reachB (rowsB nd es) (maskB frm) ((maskB set) &&& (allB nd))) (B7 hT A0))) fun ad4 cp5 => ?_)
  refine Dr 12 rfl (A7 rfl) (Dr 13 rfl (A7 rfl) (Dz (Aj (Ap (S2 7 6 rfl rfl) (Ay ?_)))))
  have hX : (rchG nd es frm set) = _ := if_neg c12
  have hz : checkG nd es = 0 := Classical.not_not.1 c12
  exact Cw rfl rfl rfl (vc 3 (.slice ad4 (rchG nd es frm set).length cp5) (rchG nd es frm set) :: I) (by rw [hX]; exact Az) ⟨ad4, cp5, by rw [hX, hz], rfl⟩
end Go.Sl
namespace Go.Sl
section
variable {P : Program} {κ : Ctx} {N : Frm} {Q : Exit → Act → World → Prop} {L : Env} {I : List Item}
theorem wp_scope_ghost {c rest : Code} {a : Act} {w : World} (l : Nat) {σ : Type} (R : σ → Act → World → Prop) (μ : σ → Nat) (hf : findLabel c l = some rest)
  (first : c.wp P (Exit.jump l (fun a w => ∃ s, R s a w) Q) a w)
  (pass : ∀ s a w, R s a w → rest.wp P (Exit.jump l (fun a' w' => ∃ s', R s' a' w' ∧ μ s' < μ s) Q) a w) : (Code.scope c).wp P Q a w := by
 intro b k cs
 have hg : gotoIn l (.inScope c :: k) = some (.code rest :: .inScope c :: k) := by simp [gotoIn, hf]
 have key : ∀ n s a w, μ s = n → R s a w → ∃ e a' w', Q e a' w' ∧ Arrives P (lone (b.at a (.code rest :: .inScope c :: k)) cs w) b k cs e a' w' := by
  intro n
  induction n using Nat.strongRecOn with
  | _ n ih =>
   intro s a w hn hR
   obtain ⟨e, a₁, w₁, hq, harr⟩ := pass s a w hR b (.inScope c :: k) cs
   cases e with
   | normal => exact ⟨.normal, a₁, w₁, hq, Steps.trans harr (.one step_inScope)⟩
   | exit id => exact ⟨.exit id, a₁, w₁, hq, fun k' hk => harr k' (by simp [exitTo, hk])⟩
   | goto l' =>
    obtain ⟨rfl, s', hR', hlt⟩ := hq
    obtain ⟨e₂, a₂, w₂, hq₂, harr₂⟩ := ih _ (by omega) s' a₁ w₁ rfl hR'
    exact ⟨e₂, a₂, w₂, hq₂, .of_steps (harr _ hg) harr₂⟩
   | ret => exact ⟨_, a₁, w₁, hq, harr⟩
   | panic ch => exact ⟨_, a₁, w₁, hq, harr⟩
   | outgrown => exact ⟨_, a₁, w₁, hq, harr⟩
 obtain ⟨e, a₁, w₁, hq, harr⟩ := first b (.inScope c :: k) cs
 cases e with
 | normal => exact ⟨.normal, a₁, w₁, hq, .head step_scope (Steps.trans harr (.one step_inScope))⟩
 | exit id => exact ⟨.exit id, a₁, w₁, hq, fun k' hk => .head step_scope (harr k' (by simp [exitTo, hk]))⟩
 | goto l' =>
  obtain ⟨rfl, s, hR⟩ := hq
  obtain ⟨e₂, a₂, w₂, hq₂, harr₂⟩ := key _ s a₁ w₁ rfl hR
  exact ⟨e₂, a₂, w₂, hq₂, .of_steps (.head step_scope (harr _ hg)) harr₂⟩
 | ret => exact ⟨_, a₁, w₁, hq, .of_steps (.one step_scope) harr⟩
 | panic ch => exact ⟨_, a₁, w₁, hq, .of_steps (.one step_scope) harr⟩
 | outgrown => exact ⟨_, a₁, w₁, hq, .of_steps (.one step_scope) harr⟩
theorem V.jump_ret {l : Nat} {K : Act → World → Prop} (h : V κ N Q .ret L I) : V κ N (Exit.jump l K Q) .ret L I := h
end
end Go.Sl
namespace Go.Sl
section
variable {P : Program} {κ : Ctx} {N : Frm} {Q : Exit → Act → World → Prop} {L : Env} {I : List Item}
theorem W.scope0 {c rest : Code} {l : Nat} (hf : findLabel c l = some rest) (h : W P κ N c (Exit.jump l (fun _ _ => ∃ s : Unit, False) Q) L I) : W P κ N (.scope c) Q L I := fun a w ha hs =>
 wp_scope_ghost l (fun (_ : Unit) _ _ => False) (fun _ => 0) hf (h a w ha hs) fun _ _ _ hR => hR.elim
theorem W.label {l : Nat} (h : V κ N Q .normal L I) : W P κ N (.label l) Q L I := fun a w ha hs => wp_label (h a w ha hs)
end
end Go.Sl
