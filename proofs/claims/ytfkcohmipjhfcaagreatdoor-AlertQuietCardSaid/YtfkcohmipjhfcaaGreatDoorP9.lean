/- A part of the proofs of statements of this seat: contracts of functions, and the plain laws that they lean on. No conditions. -/
import Derived.Test.YtfkcohmipjhfcaaGreatDoorP8
set_option linter.unusedVariables false
set_option linter.unusedSimpArgs false
set_option linter.unusedSectionVars false
namespace Go.Sl
open Go.Proofs
set_option maxRecDepth 4000
variable {κ : Ctx} {I : List Item}
def bitB (v : Int) : BitVec 64 := if v < 0 ∨ 64 ≤ v then 0#64 else 1#64 <<< v.toNat
def maskB (l : List Int) : BitVec 64 := l.foldl (fun m v => m ||| bitB v) 0#64
def allB (n : Int) : BitVec 64 := if n ≤ 0 then 0#64 else if 64 ≤ n then 18446744073709551615#64 else (1#64 <<< n.toNat) - 1#64
theorem maskB_take {l : List Int} {k : Nat} (h : k < l.length) : maskB (l.take (k + 1)) = maskB (l.take k) ||| bitB (at_ l (k : Int)) := by
 unfold maskB; rw [C3 l k h, List.foldl_append]; rfl
def ones1 (m : BitVec 64) : BitVec 64 := ((m >>> (1 : Int).toNat) &&& 6148914691236517205#64) + (m &&& 6148914691236517205#64)
def ones2 (m : BitVec 64) : BitVec 64 := ((m >>> (2 : Int).toNat) &&& 3689348814741910323#64) + (m &&& 3689348814741910323#64)
def ones3 (m : BitVec 64) : BitVec 64 := ((m >>> (4 : Int).toNat) + m) &&& 1085102592571150095#64
def ones4 (m : BitVec 64) : BitVec 64 := m + (m >>> (8 : Int).toNat)
def ones5 (m : BitVec 64) : BitVec 64 := m + (m >>> (16 : Int).toNat)
def ones6 (m : BitVec 64) : BitVec 64 := m + (m >>> (32 : Int).toNat)
def onesB (m : BitVec 64) : Int := ((ones6 (ones5 (ones4 (ones3 (ones2 (ones1 m)))))).toNat : Int) % 128
theorem ones_small (m : BitVec 64) : (ones6 (ones5 (ones4 (ones3 m)))).toNat < 9223372036854775808 := by
 have h3 : (ones3 m).toNat ≤ 1085102592571150095 := by unfold ones3; rw [BitVec.toNat_and]; exact Nat.and_le_right
 generalize ones3 m = a at h3
 have h4 : (ones4 a).toNat ≤ a.toNat + a.toNat / 256 := by
  unfold ones4; rw [BitVec.toNat_add, BitVec.toNat_ushiftRight, Nat.shiftRight_eq_div_pow, show 2 ^ (8 : Int).toNat = 256 by decide]; exact Nat.mod_le _ _
 generalize ones4 a = b at h4
 have h5 : (ones5 b).toNat ≤ b.toNat + b.toNat / 65536 := by
  unfold ones5; rw [BitVec.toNat_add, BitVec.toNat_ushiftRight, Nat.shiftRight_eq_div_pow, show 2 ^ (16 : Int).toNat = 65536 by decide]; exact Nat.mod_le _ _
 generalize ones5 b = c at h5
 have h6 : (ones6 c).toNat ≤ c.toNat + c.toNat / 4294967296 := by
  unfold ones6; rw [BitVec.toNat_add, BitVec.toNat_ushiftRight, Nat.shiftRight_eq_div_pow, show 2 ^ (32 : Int).toNat = 4294967296 by decide]; exact Nat.mod_le _ _
 omega
theorem Bit_ok (v : Int) :
    CallS Tryz.prog κ 237 [I64 (v)] I (fun r J => r = U64 (bitB v) ∧ I = J) := by
 refine Ce1 Tryz.func237 rfl rfl ?_
 refine Ah (Ga rfl (Af (As (Ah (Gm rfl (Gr (Bb rfl rfl) (Gm rfl (Bf (d := 5) rfl (fun g5 => ?_) (fun g5 => ?_)))))))))
 ·exact Gpo (Gpo (Gr (Ao rfl rfl) (Af (Cm rfl (Ah (Ga rfl (Af (Ay (Ak (A4 rfl rfl (I) A0 ⟨by unfold bitB; rw [if_pos om]; rfl, rfl⟩))))))))))
 ·refine Gro (Ad rfl) (Gro (Cb rfl rfl) (Gr (Ar rfl rfl) (Af (A8 rfl (fun c8 => ?_) (fun c8 => ?_)))))
  ·exact Ah (Ga rfl (Af (Ay (Ak (A4 rfl rfl (I) A0 ⟨by unfold bitB; rw [if_pos om]; rfl, rfl⟩)))))
  ·exact A2 (Aj (Ah (Gm rfl (Gr (Runs.shlB (a := 1#64) rfl rfl om om) (Ga rfl (Af (Ay (A4 rfl rfl (I) A0 ⟨by unfold bitB; rw [if_neg om], rfl⟩))))))))
theorem MaskOf_ok {v : Value} {l : List Int} (hl : Sl κ I v l) :
    CallS Tryz.prog κ 199 [v] I (fun r J => r = U64 (maskB l) ∧ I = J) := by
 refine B5 hl.le fun hmax => ?_
 refine Ce1 Tryz.func199 rfl rfl ?_
 refine Ah (Ga rfl (Af (Ah (Ga rfl (Af (As (Ah (Gm rfl (Gr (Bw (α := Int) (xs := l) Ac rfl (Bh hl)) (Gm rfl (Af (A1 (Bu (σ := Nat × (BitVec 64)) (fun s => ([(3, U64 (s.2)), (6, v), (7, I64 (((l.length : Nat) : Int))), (8, I64 (((s.1 : Nat) : Int)))] : Env)) (fun s => I) (fun s => (s.1 ≤ l.length) ∧ (s.2 = maskB (l.take s.1))) (fun s => l.length - s.1) (0, 0#64) (show ((0 : Nat) ≤ l.length) ∧ ((0#64 : BitVec 64) = maskB (l.take (0 : Nat))) from ⟨om, rfl⟩) (Aa (C1 rfl (by first | rfl | simp)) (Aa rfl (Aa rfl (Aa Ch Bi)))) (show Fit κ _ (I) from Az) ?_)))))))))))))
 rintro ⟨k, m⟩ hp
 dsimp only at hp ⊢
 obtain ⟨hk, hm⟩ := hp
 refine Ah (Gr (Bb rfl rfl) (Af (As (A8 rfl (fun c9 => ?_) (fun c9 => ?_)))))
 ·refine A2 (Aj (As (A1 (Ah (Gr (Aw (α := Int) (xs := l) Ac ty3 rfl rfl (Bh hl) om om) (Gr (Bq (xs := l) ty3 rfl (Bh hl) om om) (Ga rfl (Af (Ax (Gm rfl (Gm rfl (G.e (Al call237 rfl rfl (Bit_ok (at_ l (k : Int)))) ?_))))))))))))
  rintro _ _ ⟨_, _, ⟨rfl, rfl⟩, rfl, rfl⟩
  exact Gr (Eo (a := m) (b := bitB (at_ l (k : Int))) rfl rfl) (Ga rfl (Bg (Ai (Aj (Ax (Gr (Rad rfl rfl) (Gm rfl (Bg (B0 ((k + 1), (m ||| (bitB (at_ l (k : Int))))) (by dsimp only; exact ⟨om, (by rw [maskB_take om, ← hm])⟩))))))))))
 ·refine Bs (Am (Am (A6 (Aj (Ah (Gm rfl (Ga rfl (Af (Ay ?_)))))))))
  rw [List.take_of_length_le om] at hm
  exact A4 rfl rfl (I) A0 ⟨by rw [hm], rfl⟩
theorem MaskAll_ok (n : Int) :
    CallS Tryz.prog κ 200 [I64 (n)] I (fun r J => r = U64 (allB n) ∧ I = J) := by
 refine Ce1 Tryz.func200 rfl rfl ?_
 refine Ah (Ga rfl (Af (As (A1 (Ah (Gm rfl (Gr (Du rfl rfl) (Ga rfl (Af (A8 rfl (fun c3 => ?_) (fun c3 => ?_)))))))))))
 ·exact Ah (Ga rfl (Af (Ay (Aq (Ak (A4 rfl rfl (I) A0 ⟨by unfold allB; rw [if_pos om]; rfl, rfl⟩))))))
 ·refine Ah (Gm rfl (Gr (Cb rfl rfl) (Ga rfl (Af (A8 rfl (fun c6 => ?_) (fun c6 => ?_))))))
  ·exact Ah (Ga rfl (Af (Ay (Aq (Ak (A4 rfl rfl (I) A0 ⟨by unfold allB; rw [if_neg om, if_pos om]; rfl, rfl⟩))))))
  ·exact A2 (Ai (Aj (Ah (Gm rfl (Gr (Runs.shlB (a := 1#64) rfl rfl om om) (Gr (Runs.subB (a := (1#64) <<< (n).toNat) (b := 1#64) rfl rfl) (Ga rfl (Af (Ay (A4 rfl rfl (I) A0 ⟨by unfold allB; rw [if_neg om, if_neg om], rfl⟩))))))))))
theorem OnesCount_ok (m : BitVec 64) :
    CallS Tryz.prog κ 271 [U64 (m)] I (fun r J => r = I64 (onesB m) ∧ I = J) := by
 refine Ce1 Tryz.func271 rfl rfl ?_
 refine Ah (Ga rfl (Af (Ah (Gm rfl (Gr (En (a := m) rfl rfl om om) (Gr (Cr (a := m >>> (1 : Int).toNat) (b := 6148914691236517205#64) rfl rfl) (Gm rfl (Gr (Cr (a := m) (b := 6148914691236517205#64) rfl rfl) (Gr (Runs.addB (a := (m >>> (1 : Int).toNat) &&& (6148914691236517205#64)) (b := m &&& (6148914691236517205#64)) rfl rfl) (Ga rfl ?_))))))))))
 generalize hm1 : ((m >>> (1 : Int).toNat) &&& (6148914691236517205#64)) + (m &&& (6148914691236517205#64)) = m1
 refine Af (Ah (Gm rfl (Gr (En (a := m1) rfl rfl om om) (Gr (Cr (a := m1 >>> (2 : Int).toNat) (b := 3689348814741910323#64) rfl rfl) (Gm rfl (Gr (Cr (a := m1) (b := 3689348814741910323#64) rfl rfl) (Gr (Runs.addB (a := (m1 >>> (2 : Int).toNat) &&& (3689348814741910323#64)) (b := m1 &&& (3689348814741910323#64)) rfl rfl) (Ga rfl ?_))))))))
 generalize hm2 : ((m1 >>> (2 : Int).toNat) &&& (3689348814741910323#64)) + (m1 &&& (3689348814741910323#64)) = m2
 refine Af (Ap (S1 0 rfl) (Ah (Gm rfl (Gr (En (a := m2) rfl rfl om om) (Gm rfl (Gr (Runs.addB (a := m2 >>> (4 : Int).toNat) (b := m2) rfl rfl) (Gr (Cr (a := (m2 >>> (4 : Int).toNat) + m2) (b := 1085102592571150095#64) rfl rfl) (Ga rfl ?_))))))))
 generalize hm3 : ((m2 >>> (4 : Int).toNat) + m2) &&& (1085102592571150095#64) = m3
 refine Af (Ah (Gm rfl (Gm rfl (Gr (En (a := m3) rfl rfl om om) (Gr (Runs.addB (a := m3) (b := m3 >>> (8 : Int).toNat) rfl rfl) (Ga rfl ?_))))))
 generalize hm4 : m3 + (m3 >>> (8 : Int).toNat) = m4
 refine Af (Ah (Gm rfl (Gm rfl (Gr (En (a := m4) rfl rfl om om) (Gr (Runs.addB (a := m4) (b := m4 >>> (16 : Int).toNat) rfl rfl) (Ga rfl ?_))))))
 generalize hm5 : m4 + (m4 >>> (16 : Int).toNat) = m5
 refine Af (Ap (S1 0 rfl) (Ah (Gm rfl (Gm rfl (Gr (En (a := m5) rfl rfl om om) (Gr (Runs.addB (a := m5) (b := m5 >>> (32 : Int).toNat) rfl rfl) (Ga rfl ?_)))))))
 generalize hm6 : m5 + (m5 >>> (32 : Int).toNat) = m6
 exact Af (Ah (Gm rfl (Gr (Runs.toI Db Bx rfl (by subst hm6 hm5 hm4 hm3; exact ones_small _)) (Gr (Runs.and127 rfl rfl om) (Ga rfl (Af (Ay (A4 rfl rfl (I) A0 ⟨by subst hm6 hm5 hm4 hm3 hm2 hm1; rfl, rfl⟩))))))))
theorem MCount_ok (m : BitVec 64) :
    CallS Tryz.prog κ 219 [U64 (m)] I (fun r J => r = I64 (onesB m) ∧ I = J) := by
 refine Ce1 Tryz.func219 rfl rfl ?_
 refine Ah (Ga rfl (Af (Ah (Gm rfl (Gc0 (Al call271 rfl rfl (OnesCount_ok m)) ?_)))))
 exact Ga rfl (Af (Ay (A4 rfl rfl (I) A0 ⟨rfl, rfl⟩)))
variable {κ : Ctx} {I : List Item}
theorem bitB_two {v : Int} (h0 : 0 ≤ v) (h1 : v < 64) : bitB v = BitVec.twoPow 64 v.toNat := by
 unfold bitB; rw [if_neg om]; rfl
theorem getLsb_bitB {v : Int} {i : Nat} (hi : i < 64) : (bitB v).getLsbD i = decide (v = (i : Int)) := by
 by_cases h : 0 ≤ v ∧ v < 64
 ·rw [bitB_two h.1 h.2, BitVec.getLsbD_twoPow]
  have e : (v.toNat = i) ↔ (v = (i : Int)) := by omega
  simp [hi, h, e]
 ·unfold bitB
  rw [if_pos om]
  have : ¬ v = (i : Int) := by omega
  simp [this]
theorem getLsb_maskB {i : Nat} (hi : i < 64) : ∀ (l : List Int) (m : BitVec 64), (l.foldl (fun m v => m ||| bitB v) m).getLsbD i = (m.getLsbD i || decide ((i : Int) ∈ l))
 | [], m => by simp
 | v :: l, m => by
  rw [List.foldl_cons, getLsb_maskB hi l, BitVec.getLsbD_or, getLsb_bitB hi]
  by_cases h1 : v = (i : Int)
  ·simp [h1]
  ·have : ¬ (i : Int) = v := fun e => h1 e.symm
   simp [h1, this]
theorem mem_maskB {l : List Int} {v : Int} (h0 : 0 ≤ v) (h1 : v < 64) : (maskB l &&& bitB v ≠ 0#64) ↔ v ∈ l := by
 have hm : (maskB l).getLsbD v.toNat = decide (v ∈ l) := by
  unfold maskB; rw [getLsb_maskB om, show ((v.toNat : Nat) : Int) = v by omega]; simp
 rw [bitB_two h0 h1, BitVec.and_twoPow, hm]
 by_cases h : v ∈ l
 ·simp only [h, decide_true, if_true, iff_true]
  intro e
  have := congrArg (fun b => BitVec.getLsbD b v.toNat) e
  simp only [BitVec.getLsbD_twoPow] at this
  simp at this
  omega
 ·simp [h]
def inE (set : List Int) (e : Pt) : Bool := decide ((maskB set &&& bitB e.u ≠ 0#64) ∧ (maskB set &&& bitB e.v ≠ 0#64))
def insideL (set : List Int) (es : List Pt) : List Pt := es.filter (inE set)
theorem inE_eq {nd : Int} {es : List Pt} {set : List Int} (h : GrOk nd es) {e : Pt} (he : e ∈ es) : inE set e = decide (e.u ∈ set ∧ e.v ∈ set) := by
 have := h.edge e he; have := h.rng
 unfold inE
 rw [decide_eq_decide, mem_maskB om om, mem_maskB om om]
theorem insideL_eq {nd : Int} {es : List Pt} (set : List Int) (h : GrOk nd es) : insideL set es = es.filter fun e => decide (e.u ∈ set ∧ e.v ∈ set) :=
 List.filter_congr fun e he => inE_eq h he
def insideN (nd : Int) (es : List Pt) (set : List Int) : Nat := if checkG nd es ≠ 0 then 0 else (insideL set es).length
theorem insideN_le (nd : Int) (es : List Pt) (set : List Int) : insideN nd es set ≤ es.length := by
 unfold insideN; split
 ·exact Nat.zero_le _
 ·exact List.length_filter_le _ _
theorem WithinG_ok {nd : Int} {va vb : Value} {es : List Pt} {set : List Int} (hl : Sl κ I va es) (hs : Sl κ I vb set) (hb : es.length ≤ 1000000) :
    CallS Tryz.prog κ 275 [.agg #[I64 (nd), va], vb] I (fun r J => ∃ a c, r = .slice a (insideL set es).length c ∧ J = vc 135 (.slice a (insideL set es).length c) (insideL set es) :: I) := by
 refine B5 hl.le fun hmax => ?_
 refine Ce2 Tryz.func275 rfl rfl ?_
 refine Ah (Ge1 (Bd (cs := [_, _]) rfl rfl rfl) fun b1 => Ga rfl (Af (Ah (Gm rfl (Gc0 (Al call199 rfl rfl (MaskOf_ok (Bh hs))) ?_)))))
 refine Ga rfl (Af (Ah (Ga rfl (Af (As (Ah (Gf fld48_1 rfl (Gl ty46 ?_))))))))
 refine Gr (Bw (α := Pt) (xs := es) Bm rfl (Bh hl)) (Gm rfl (Af (A1 (Bu (σ := Nat × (Option Addr) × Nat × (List Pt)) (fun s => ([(5, U64 (maskB set)), (6, .slice s.2.1 s.2.2.2.length s.2.2.1), (12, va), (13, I64 (((es.length : Nat) : Int))), (14, I64 (((s.1 : Nat) : Int)))] : Env)) (fun s => vc 135 (.slice s.2.1 s.2.2.2.length s.2.2.1) (s.2.2.2) :: blk b1 [I64 (nd), va] 48 :: I) (fun s => (s.1 ≤ es.length) ∧ (s.2.2.2 = (es.take s.1).filter (inE set))) (fun s => es.length - s.1) (0, none, 0, []) (show ((0 : Nat) ≤ es.length) ∧ (([] : List Pt) = (es.take (0 : Nat)).filter (inE set)) from ⟨om, rfl⟩) (Aa rfl (Aa (C1 rfl (by first | rfl | simp)) (Aa rfl (Aa rfl (Aa Ch Bi))))) (show Fit κ _ (vc 135 (.slice (none) ([]).length (0)) (([])) :: blk b1 [I64 (nd), va] 48 :: I) from (Bv _ _)) ?_))))
 rintro ⟨k, a, c, out⟩ hp
 dsimp only at hp ⊢
 obtain ⟨hk, ho⟩ := hp
 have hol : out.length ≤ es.length := by rw [ho]; refine Nat.le_trans (List.length_filter_le _ _) ?_; simp only [List.length_take]; omega
 refine Ah (Gr (Bb rfl rfl) (Af (As (A8 rfl (fun c15 => ?_) (fun c15 => ?_)))))
 ·refine A2 (Aj (As (A1 (Ah (Gr (Aw (α := Pt) (xs := es) Bm ty135 rfl rfl (Bh hl) om om) (Gr (Br (α := Pt) (xs := es) ty135 rfl (Bh hl) om om) (Ge1 (Ba ty135 rfl) fun b2 => Ge0 (Cq ty135) ?_)))))))
  refine Af (Ah (Gm rfl (Gf fld135_0 rfl (Gl ty3 ?_))))
  refine G.e (Al call237 rfl rfl (Bit_ok ((at_ es (k : Int)).u))) ?_
  rintro _ _ ⟨_, _, ⟨rfl, rfl⟩, rfl, rfl⟩
  refine Gr (Cr (a := maskB set) (b := bitB ((at_ es (k : Int)).u)) rfl rfl) (Gr (Ef (a := (maskB set) &&& (bitB ((at_ es (k : Int)).u))) (b := 0#64) rfl rfl) (Gm rfl (Bf (d := 24) rfl (fun g24 => ?_) (fun g24 => ?_))))
  ·refine Gro (Ad rfl) (Gro (Ab fld135_1 rfl) (Gro (Au ty3) ?_))
   refine Dv (Cf rfl rfl rfl) (Al call237 rfl rfl (Bit_ok ((at_ es (k : Int)).v))) ?_
   rintro _ _ ⟨_, _, ⟨rfl, rfl⟩, rfl, rfl⟩
   refine Gro (Cr (a := maskB set) (b := bitB ((at_ es (k : Int)).v)) rfl rfl) (Gro (Ef (a := (maskB set) &&& (bitB ((at_ es (k : Int)).v))) (b := 0#64) rfl rfl) (Gr (Ao rfl rfl) (Af (Ap (S7 31 8 5 6 12 13 14 rfl rfl rfl rfl rfl rfl rfl) (A8 rfl (fun c31 => ?_) (fun c31 => ?_))))))
   ·refine Ax (Gm rfl (Gl2 ty135 ?_))
    refine Ge1 (Bz (α := Pt) (cs := [_, _]) (xs := [⟨(at_ es (k : Int)).u, (at_ es (k : Int)).v⟩]) Bm ty135 rfl rfl dc dc rfl rfl rfl rfl) fun ad3 => ?_
    refine Ge2 (Cg (α := Pt) (e := 135) (xs := out) (ys := ([⟨(at_ es (k : Int)).u, (at_ es (k : Int)).v⟩] : List Pt)) Bm ty135 rfl rfl rfl mm Be lcn dc rfl (fun _ _ => am)) fun ad4 cp5 => ?_
    exact Ga rfl (Bg (Ai (Aj (Ax (Gr (Rad rfl rfl) (Gm rfl (Bg (B0 ((k + 1), (ad4), (cp5), (out ++ ([⟨(at_ es (k : Int)).u, (at_ es (k : Int)).v⟩] : List Pt))) (by dsimp only; exact ⟨om, (by first | rw [flt_yes om (decide_eq_true ⟨by assumption, by assumption⟩), ← ho] | rw [flt_no om (decide_eq_false (fun h => by first | exact absurd h.1 asm | exact absurd h.2 asm)), ← ho])⟩)))))))))
   ·exact A2 (Ai (Aj (Ax (Gr (Rad rfl rfl) (Gm rfl (Bg (B0 ((k + 1), (a), (c), (out)) (by dsimp only; exact ⟨om, (by first | rw [flt_yes om (decide_eq_true ⟨by assumption, by assumption⟩), ← ho] | rw [flt_no om (decide_eq_false (fun h => by first | exact absurd h.1 asm | exact absurd h.2 asm)), ← ho])⟩))))))))
  ·exact Gpo (Gpo (Gpo (Gpo (Gpo (Gpo (Gr (Ar rfl rfl) (Af (Ap (S7 31 8 5 6 12 13 14 rfl rfl rfl rfl rfl rfl rfl) (Dl rfl (A2 (Ai (Aj (Ax (Gr (Rad rfl rfl) (Gm rfl (Bg (B0 ((k + 1), (a), (c), (out)) (by dsimp only; exact ⟨om, (by first | rw [flt_yes om (decide_eq_true ⟨by assumption, by assumption⟩), ← ho] | rw [flt_no om (decide_eq_false (fun h => by first | exact absurd h.1 asm | exact absurd h.2 asm)), ← ho])⟩))))))))))))))))))
 ·refine Bs (Am (Am (A6 (Aj (Ah (Gm rfl (Ga rfl (Af (Ay ?_)))))))))
  have hk2 : es.take k = es := List.take_of_length_le om
  rw [hk2] at ho
  have ho2 : out = insideL set es := ho
  subst ho2
  exact A4 rfl rfl (vc 135 (.slice a (insideL set es).length c) (insideL set es) :: I) Az ⟨a, c, rfl, rfl⟩
theorem InsideG_ok {nd : Int} {va vb : Value} {es : List Pt} {set : List Int} (hl : Sl κ I va es) (hs : Sl κ I vb set) (hb : es.length ≤ 1000000) :
    CallS Tryz.prog κ 221 [.agg #[I64 (nd), va], vb] I (fun r J => r = I64 ((insideN nd es set : Nat) : Int) ∧ I = J) := by
 refine Ce2 Tryz.func221 rfl rfl ?_
 refine Ah (Ge1 (Bd (cs := [_, _]) rfl rfl rfl) fun b1 => Ga rfl (Af (As (Ah (Gl2 ty48 ?_)))))
 refine Gc0 (Al call83 rfl rfl (CheckGen_ok (Bh hl))) ?_
 refine Gr (Bt rfl rfl) (Af (A8 rfl (fun c7 => ?_) (fun c7 => ?_)))
 ·exact Ah (Ga rfl (Af (Ay (Ak (A4 rfl rfl (I) A0 ⟨by unfold insideN; rw [if_pos c7]; rfl, rfl⟩)))))
 ·refine A2 (Aj (Ah (Gl2 ty48 ?_)))
  refine Gm rfl (G.e (Al call275 rfl rfl (WithinG_ok (Bh hl) (Bh hs) om)) ?_)
  rintro _ _ ⟨_, _, ⟨ad2, cp3, rfl, rfl⟩, rfl, rfl⟩
  exact Gr (Bk Bm rfl) (Ga rfl (Af (Ay (A4 rfl rfl (I) A0 ⟨by unfold insideN; rw [if_neg c7], rfl⟩))))
variable {κ : Ctx} {I : List Item}
structure Fr where
 num : Int
 den : Int
deriving DecidableEq
instance : Inhabited Fr := ⟨⟨0, 0⟩⟩
instance : Enc Fr := ⟨fun r => [I64 r.num, I64 r.den], 2, by omega, fun _ => rfl, fun r u hu => by
 simp only [List.mem_cons, List.not_mem_nil, or_false] at hu
 rcases hu with rfl | rfl <;> rfl⟩
theorem eqt40 : EqT Tryz.prog 40 Fr := EqT.flat (fun p : Fr => [p.num, p.den]) (fun _ => rfl) (fun x y h => by cases x; cases y; simpa using h) (n := 2) (fun _ => rfl) kr kr kr kr kr
def gcdI (a b : Int) : Int := ((a.toNat.gcd b.toNat : Nat) : Int)
theorem gcdI_step {a b : Int} (h0 : 0 ≤ a) (h1 : 0 < b) : gcdI b (Int.tmod a b) = gcdI a b := by
 unfold gcdI
 rw [Int.tmod_eq_emod_of_nonneg h0, show (a % b).toNat = a.toNat % b.toNat by rw [Int.toNat_emod h0 om]]
 congr 1
 rw [Nat.gcd_comm a.toNat b.toNat, Nat.gcd_rec b.toNat a.toNat, Nat.gcd_comm]
theorem gcdI_zero {a : Int} (h0 : 0 ≤ a) : gcdI a 0 = a := by unfold gcdI; simp; omega
theorem gcdI_pos {a b : Int} (h1 : 0 < b) : 0 < gcdI a b := by
 unfold gcdI
 have : 0 < a.toNat.gcd b.toNat := Nat.gcd_pos_of_pos_right _ om
 omega
theorem gcdI_le {a b : Int} (h1 : 0 < b) : gcdI a b ≤ b := by
 unfold gcdI
 have : a.toNat.gcd b.toNat ≤ b.toNat := Nat.le_of_dvd om (Nat.gcd_dvd_right _ _)
 omega
def mkF (a b : Int) : Fr := ⟨a / gcdI a b, b / gcdI a b⟩
theorem mkF_num {a b : Int} (h0 : 0 ≤ a) (h1 : 0 < b) : 0 ≤ (mkF a b).num ∧ (mkF a b).num ≤ a := ⟨Int.ediv_nonneg h0 (by have := gcdI_pos (a := a) h1; omega), Int.ediv_le_self _ h0⟩
theorem mkF_den {a b : Int} (h1 : 0 < b) : 1 ≤ (mkF a b).den ∧ (mkF a b).den ≤ b := by
 have hg := gcdI_pos (a := a) h1
 have hl := gcdI_le (a := a) h1
 exact ⟨(Int.le_ediv_iff_mul_le hg).2 om, Int.ediv_le_self _ om⟩
theorem RWithin_ok (n m : Int) (h : 0 ≤ m ∧ m ≤ 9223372036854775807) :
    CallS Tryz.prog κ 157 [I64 (n), I64 (m)] I (fun r J => r = .bool (decide (-m ≤ n ∧ n ≤ m)) ∧ I = J) := by
 refine Ce2 Tryz.func157 rfl rfl ?_
 refine Ah (Ga rfl (Af (Ah (Gm rfl (Gm rfl (Gr (Runs.neg rfl (by unfold InR; omega)) (Gr (Cb rfl rfl) (Gm rfl (Bf (d := 9) rfl (fun g9 => ?_) (fun g9 => ?_))))))))))
 ·exact Gro (Ad rfl) (Gro (Ad rfl) (Gro (Du rfl rfl) (Gr (Ao rfl rfl) (Ga rfl (Af (Ap (S1 4 rfl) (Ay (A4 rfl rfl (I) A0 ⟨(by first | exact congrArg Value.bool (decide_eq_decide.2 (by skip; omega)) | exact congrArg Value.bool (decide_eq_true (by skip; omega)).symm | exact congrArg Value.bool (decide_eq_false (by skip; omega)).symm), rfl⟩))))))))
 ·exact Gpo (Gpo (Gpo (Gr (Ar rfl rfl) (Ga rfl (Af (Ap (S1 4 rfl) (Ay (A4 rfl rfl (I) A0 ⟨(by first | exact congrArg Value.bool (decide_eq_decide.2 (by skip; omega)) | exact congrArg Value.bool (decide_eq_true (by skip; omega)).symm | exact congrArg Value.bool (decide_eq_false (by skip; omega)).symm), rfl⟩))))))))
theorem Common_ok (a b : Int) (h0 : 0 ≤ a) (h1 : 0 ≤ b) :
    CallS Tryz.prog κ 158 [I64 (a), I64 (b)] I (fun r J => r = I64 (gcdI a b) ∧ I = J) := by
 refine Ce2 Tryz.func158 rfl rfl ?_
 refine Ah (Ga rfl (Af (As (A1 (Bu (σ := Int × Int) (fun s => ([(0, I64 (s.1)), (1, I64 (s.2))] : Env)) (fun s => I) (fun s => (0 ≤ s.1) ∧ (0 ≤ s.2) ∧ (gcdI s.1 s.2 = gcdI a b)) (fun s => s.2.toNat) (a, b) (show (0 ≤ (a : Int)) ∧ (0 ≤ (b : Int)) ∧ (gcdI (a : Int) (b : Int) = gcdI a b) from ⟨om, om, rfl⟩) (Aa Ch (Aa Ch Bi)) (show Fit κ _ (I) from Az) ?_)))))
 rintro ⟨x, y⟩ hp
 dsimp only at hp ⊢
 obtain ⟨hx, hy, hg⟩ := hp
 refine As (Ah (Gm rfl (Gr (Bt rfl rfl) (Af (A8 rfl (fun c6 => ?_) (fun c6 => ?_))))))
 ·refine A2 (Aj (A1 (Bj mixed (Bo (I) 6 (Dr 0 rfl (Ad rfl) (Dr 1 rfl (Ad rfl) (Dr 2 rfl (Ad rfl) (Dr 3 rfl (Runs.rem rfl rfl om) (Dr 4 rfl (A7 rfl) (Dr 5 rfl (A7 rfl) (Dz (Ai ?_))))))))))))
  have hm0 := Int.tmod_nonneg y (a := x) hx
  have hm1 := Int.tmod_lt_of_pos x (b := y) om
  exact B0 ((y), (Int.tmod x y)) (by dsimp only; exact ⟨om, om, ((gcdI_step hx om).trans hg)⟩)
 ·refine Bs (Am (Am (A6 (Aj (Ah (Gm rfl (Ga rfl (Af (Ay ?_)))))))))
  have hy0 : y = 0 := by omega
  subst hy0
  exact A4 rfl rfl (I) A0 ⟨by rw [← hg, gcdI_zero hx], rfl⟩
theorem Checked_ok (x : Fr) (h : 0 ≤ x.num ∧ x.num ≤ 1152921504606846976 ∧ x.den ≤ 1152921504606846976) :
    CallS Tryz.prog κ 309 [.agg #[I64 (x.num), I64 (x.den)]] I (fun r J => r = .tuple #[.agg #[I64 x.num, I64 x.den], I64 0] ∧ I = J) := by
 refine Ce1 Tryz.func309 rfl rfl ?_
 refine Ah (Ge1 (Bd (cs := [_, _]) rfl rfl rfl) fun b1 => Ge1 (Ba ty40 rfl) fun b2 => Ga rfl (Af (As (Ah (Gf fld40_0 rfl (Gl ty3 ?_))))))
 refine G.e (Al call157 rfl rfl (RWithin_ok x.num 1152921504606846976 om)) ?_
 rintro _ _ ⟨_, _, ⟨rfl, rfl⟩, rfl, rfl⟩
 refine Gr (D2 rfl) (Gm rfl (Bf (d := 8) rfl (fun g8 => ?_) (fun g8 => ?_)))
 ·exact absurd h om
 ·refine Gro (Ab fld40_1 rfl) (Gro (Au ty3) ?_)
  refine Gro (B6 rfl rfl) (Gr (Ar rfl rfl) (Af (Ap (S3 12 2 1 rfl rfl rfl) (A8 rfl (fun c12 => ?_) (fun c12 => ?_)))))
  ·exact absurd h om
  ·refine A2 (Aj (Ah (Gl2 ty40 ?_)))
   refine Ge0 (Cq ty40) ?_
   exact Ga rfl (Af (Ay (Dn rfl ty40 rfl rfl mm rfl (I) A0 ⟨rfl, rfl⟩)))
theorem Lowest_ok (a b : Int) (h0 : 0 ≤ a ∧ a ≤ 1152921504606846976) (h1 : 0 < b ∧ b ≤ 1152921504606846976) :
    CallS Tryz.prog κ 272 [I64 (a), I64 (b)] I (fun r J => r = .tuple #[.agg #[I64 (mkF a b).num, I64 (mkF a b).den], I64 0] ∧ I = J) := by
 refine Ce2 Tryz.func272 rfl rfl ?_
 refine Ah (Ge1 (Ba ty40 rfl) fun b1 => Ga rfl (Af (As (Ah (Gm rfl (Gr (Bb rfl rfl) (Af (A8 rfl (fun c8 => ?_) (fun c8 => ?_)))))))))
 ·exact absurd c8 om
 ·refine A2 (Aj (Ah (Gm rfl (Gm rfl (Gr (Runs.neg rfl (by unfold InR; omega)) (Gr (Ds rfl rfl) (Gm rfl (Gc0 (Al call158 rfl rfl (Common_ok (if a < (-(a)) then (-(a)) else a) b (by split <;> omega) om)) ?_))))))))
  refine Ga rfl ?_
  have hmx : (if a < -a then -a else a) = a := by rw [if_neg om]
  rw [hmx]
  refine Af (Ap (S4 6 4 0 1 rfl rfl rfl rfl) (As (Bj mixed (Bo (blk b1 [I64 (0), I64 (0)] 40 :: I) 10 (Dr 0 rfl (Ad rfl) ?_)))))
  have hgp := gcdI_pos (a := a) h1.1
  refine Dr 1 rfl (Ad rfl) (Dr 2 rfl (Runs.quo rfl rfl om om (by unfold InR; omega)) (Dr 3 rfl (Ad rfl) (Dr 4 rfl (Ad rfl) (Dr 5 rfl (Runs.quo rfl rfl om om (by unfold InR; omega)) (Dr 6 rfl (A9 (cells := [_, _]) ty40 C0 pl40 rfl rfl) (Ds1 7 (Sc0 rfl (Al call309 rfl rfl (Checked_ok (⟨a / (gcdI a b), b / (gcdI a b)⟩ : Fr) (by have hn := mkF_num h0.1 h1.1; have hd := mkF_den (a := a) h1.1; exact ⟨hn.1, by have := hn.2; show (mkF a b).num ≤ _; omega, by have := hd.2; show (mkF a b).den ≤ _; omega⟩))) ?_)))))))
  refine Dr 8 rfl (A3 rfl rfl) (Dr 9 rfl (A3 rfl rfl) (C7 kr ?_))
  refine Ae 10 rfl (Cq ty40) ?_
  rintro _ _ ⟨rfl, rfl⟩
  refine A.read (i := 11) kr rfl (Cj rfl) rfl rfl (A7 rfl) ?_
  refine C8 kr ?_
  exact Aj (Ap (S2 5 4 rfl rfl) (Ay (Dn rfl ty40 rfl rfl mm rfl (I) A0 ⟨rfl, rfl⟩)))
theorem MakeF_ok (a b : Int) (h0 : 0 ≤ a ∧ a ≤ 1152921504606846976) (h1 : 0 < b ∧ b ≤ 1152921504606846976) :
    CallS Tryz.prog κ 220 [I64 (a), I64 (b)] I (fun r J => r = .tuple #[.agg #[I64 (mkF a b).num, I64 (mkF a b).den], I64 0] ∧ I = J) := by
 refine Ce2 Tryz.func220 rfl rfl ?_
 refine Ah (Ge1 (Ba ty40 rfl) fun b1 => Ga rfl (Af (As (A1 (Ah (Gm rfl (Gr (Bl rfl rfl) (Ga rfl (Af (A8 rfl (fun c6 => ?_) (fun c6 => ?_)))))))))))
 ·exact absurd c6 om
 ·refine Ah (Gm rfl (G.e (Al call157 rfl rfl (RWithin_ok a 4611686018427387904 om)) ?_))
  rintro _ _ ⟨_, _, ⟨rfl, rfl⟩, rfl, rfl⟩
  refine Gm rfl (Bf (d := 13) rfl (fun g13 => ?_) (fun g13 => ?_))
  ·refine Gro (Ad rfl) (Dv (Cf rfl rfl rfl) (Al call157 rfl rfl (RWithin_ok b 4611686018427387904 om)) ?_)
   rintro _ _ ⟨_, _, ⟨rfl, rfl⟩, rfl, rfl⟩
   refine Gr (Ao rfl rfl) (Ga rfl (Af (Ap (S4 10 4 0 1 rfl rfl rfl rfl) (A8 rfl (fun c10 => ?_) (fun c10 => ?_)))))
   ·refine Ah (Gm rfl (Gm rfl (Gc0 (Al call272 rfl rfl (Lowest_ok a b om om)) ?_)))
    refine Gr (A3 rfl rfl) (Gr (A3 rfl rfl) (Ge0 (Cq ty40) ?_))
    exact Ga rfl (Af (Ay (Aq (Ak (Dn rfl ty40 rfl rfl mm rfl (I) A0 ⟨rfl, rfl⟩)))))
   ·exact absurd om c10
  ·exact absurd om g13
theorem onesB_bd (m : BitVec 64) : 0 ≤ onesB m ∧ onesB m < 128 := by unfold onesB; omega
theorem addRow_no {rows : List (BitVec 64)} {e : Pt} (h : ¬ (0 ≤ e.u ∧ e.u < e.v ∧ e.v < rows.length)) : addRow rows e = rows := by unfold addRow; rw [if_neg h]
theorem MRows_ok {κ : Ctx} {I : List Item} {nd : Int} {v : Value} {es : List Pt} (hl : Sl κ I v es) :
    CallS Tryz.prog κ 198 [.agg #[I64 (nd), v]] I (fun r J => ∃ a c, r = .slice a (rowsB nd es).length c ∧ J = vc 175 (.slice a (rowsB nd es).length c) (rowsB nd es) :: I) := by
 refine B5 hl.le fun hmax => ?_
 refine Ce1 Tryz.func198 rfl rfl ?_
 refine Ah (Ge1 (Bd (cs := [_, _]) rfl rfl rfl) fun b1 => Ga rfl (Af (Ah (Gf fld48_0 rfl (Gl ty3 ?_)))))
 refine Gr (Ds rfl rfl) (Gr (Runs.min rfl rfl) (Ge2 (Ci (α := (BitVec 64)) (n := (min (max nd 0) 64).toNat) B4 ty175 rfl rfl rfl om om dc rfl) fun ad2 cp3 => ?_))
 refine Ga rfl ?_
 have hrep : (List.replicate (min (max nd 0) 64).toNat (default : (BitVec 64))).length = (min (max nd 0) 64).toNat := List.length_replicate
 refine Af (As (Ah (Gf fld48_1 rfl (Gl ty46 ?_))))
 refine Gr (Bw (α := Pt) (xs := es) Bm rfl (Bh hl)) (Gm rfl (Af (A1 (Bu (σ := Nat × (List (BitVec 64))) (fun s => ([(3, .slice ad2 (List.replicate ((min (max nd 0) 64).toNat) (default : (BitVec 64))).length cp3), (12, v), (13, I64 (((es.length : Nat) : Int))), (14, I64 (((s.1 : Nat) : Int)))] : Env)) (fun s => vc 175 (.slice ad2 (List.replicate ((min (max nd 0) 64).toNat) (default : (BitVec 64))).length cp3) (s.2) :: blk b1 [I64 (nd), v] 48 :: I) (fun s => (s.1 ≤ es.length) ∧ (s.2 = rowsB nd (es.take s.1)) ∧ (s.2.length = (min (max nd 0) 64).toNat)) (fun s => es.length - s.1) (0, List.replicate (min (max nd 0) 64).toNat (default : (BitVec 64))) (show ((0 : Nat) ≤ es.length) ∧ ((List.replicate (min (max nd 0) 64).toNat (default : (BitVec 64)) : List (BitVec 64)) = rowsB nd (es.take (0 : Nat))) ∧ ((List.replicate (min (max nd 0) 64).toNat (default : (BitVec 64)) : List (BitVec 64)).length = (min (max nd 0) 64).toNat) from ⟨om, rfl, (by simp)⟩) (Aa rfl (Aa rfl (Aa rfl (Aa Ch Bi)))) (show Fit κ _ (vc 175 (.slice ad2 (List.replicate ((min (max nd 0) 64).toNat) (default : (BitVec 64))).length cp3) ((List.replicate (min (max nd 0) 64).toNat (default : (BitVec 64)))) :: blk b1 [I64 (nd), v] 48 :: I) from Az) ?_))))
 rintro ⟨k, rows⟩ hp
 dsimp only at hp ⊢
 obtain ⟨hk, hr, hrl⟩ := hp
 refine Ah (Gr (Bb rfl rfl) (Af (As (A8 rfl (fun c15 => ?_) (fun c15 => ?_)))))
 ·refine A2 (Aj (As (A1 (Ah (Gr (Aw (α := Pt) (xs := es) Bm ty135 rfl rfl (Bh hl) om oo) (Gr (Br (α := Pt) (xs := es) ty135 rfl (Bh hl) om oo) (Ge1 (Ba ty135 rfl) fun b4 => Ge0 (Cq ty135) ?_)))))))
  refine Af (Ah (Gf fld135_0 rfl (Gl ty3 ?_)))
  refine Gr (Cb rfl rfl) (Gm rfl (Bf (d := 21) rfl (fun g21 => ?_) (fun g21 => ?_)))
  ·refine Gro (Ab fld135_0 rfl) (Gro (Au ty3) ?_)
   refine Gro (Ab fld135_1 rfl) (Gro (Au ty3) ?_)
   refine Gro (Bb rfl rfl) (Gr (Ao rfl rfl) (Gm rfl (Bf (d := 28) rfl (fun g28 => ?_) (fun g28 => ?_))))
   ·refine Gro (Ab fld135_1 rfl) (Gro (Au ty3) ?_)
    refine Gro (Ad rfl) (Gro (Bk B4 rfl) (Gro (Bb rfl rfl) (Gr (Ao rfl rfl) (Af (Ap (S6 34 5 3 12 13 14 rfl rfl rfl rfl rfl rfl) (A8 rfl (fun c34 => ?_) (fun c34 => ?_)))))))
    ·refine As (Bj mixed (Bo (blk b4 [I64 ((at_ es (k : Int)).u), I64 ((at_ es (k : Int)).v)] 135 :: vc 175 (.slice ad2 (List.replicate ((min (max nd 0) 64).toNat) (default : (BitVec 64))).length cp3) (rows) :: blk b1 [I64 (nd), v] 48 :: I) 10 (Dr 0 rfl (Ad rfl) (Dr 1 rfl (Ab fld135_0 rfl) (Dr 2 rfl (Au ty3) ?_)))))
     refine Dr 3 rfl (Aw (α := (BitVec 64)) (xs := rows) B4 ty175 rfl rfl Be om oo) (Dr 4 rfl (C5 (α := (BitVec 64)) (xs := rows) (u := U64 ((at_ rows ((at_ es (k : Int)).u)))) ty175 rfl Be om oo rfl) (Dr 5 rfl (Ab fld135_1 rfl) (Dr 6 rfl (Au ty3) ?_)))
     refine Dr 7 rfl (Runs.shlB (a := 1#64) rfl rfl om om) (Dr 8 rfl (Eo (a := (at_ rows ((at_ es (k : Int)).u))) (b := (1#64) <<< ((at_ es (k : Int)).v).toNat) rfl rfl) (Dr 9 rfl (Aw (α := (BitVec 64)) (xs := rows) B4 ty175 rfl rfl Be om oo) (C7 kr ?_)))
     refine Ae 10 rfl (Cs (α := (BitVec 64)) (xs := rows) (e := 175) (new := (at_ rows ((at_ es (k : Int)).u)) ||| ((1#64) <<< ((at_ es (k : Int)).v).toNat)) ty175 rfl rfl rfl om oo am) ?_
     rintro _ _ ⟨rfl, rfl⟩
     refine C8 kr ?_
     refine Aj (Ap (S5 5 3 12 13 14 rfl rfl rfl rfl rfl) (Bj mixed (Bo (blk b4 [I64 ((at_ es (k : Int)).u), I64 ((at_ es (k : Int)).v)] 135 :: vc 175 (.slice ad2 (List.replicate ((min (max nd 0) 64).toNat) (default : (BitVec 64))).length cp3) (List.set rows ((at_ es (k : Int)).u).toNat ((at_ rows ((at_ es (k : Int)).u)) ||| ((1#64) <<< ((at_ es (k : Int)).v).toNat))) :: blk b1 [I64 (nd), v] 48 :: I) 10 (Dr 0 rfl (Ad rfl) (Dr 1 rfl (Ab fld135_1 rfl) (Dr 2 rfl (Au ty3) ?_))))))
     refine Dr 3 rfl (Aw (α := (BitVec 64)) (xs := List.set rows ((at_ es (k : Int)).u).toNat ((at_ rows ((at_ es (k : Int)).u)) ||| ((1#64) <<< ((at_ es (k : Int)).v).toNat))) B4 ty175 rfl rfl Be om oo) (Dr 4 rfl (C5 (α := (BitVec 64)) (xs := List.set rows ((at_ es (k : Int)).u).toNat ((at_ rows ((at_ es (k : Int)).u)) ||| ((1#64) <<< ((at_ es (k : Int)).v).toNat))) (u := U64 ((at_ (List.set rows ((at_ es (k : Int)).u).toNat ((at_ rows ((at_ es (k : Int)).u)) ||| ((1#64) <<< ((at_ es (k : Int)).v).toNat))) ((at_ es (k : Int)).v)))) ty175 rfl Be om oo rfl) (Dr 5 rfl (Ab fld135_0 rfl) (Dr 6 rfl (Au ty3) ?_)))
     refine Dr 7 rfl (Runs.shlB (a := 1#64) rfl rfl om om) (Dr 8 rfl (Eo (a := (at_ (List.set rows ((at_ es (k : Int)).u).toNat ((at_ rows ((at_ es (k : Int)).u)) ||| ((1#64) <<< ((at_ es (k : Int)).v).toNat))) ((at_ es (k : Int)).v))) (b := (1#64) <<< ((at_ es (k : Int)).u).toNat) rfl rfl) (Dr 9 rfl (Aw (α := (BitVec 64)) (xs := List.set rows ((at_ es (k : Int)).u).toNat ((at_ rows ((at_ es (k : Int)).u)) ||| ((1#64) <<< ((at_ es (k : Int)).v).toNat))) B4 ty175 rfl rfl Be om oo) (C7 kr ?_)))
     refine Ae 10 rfl (Cs (α := (BitVec 64)) (xs := List.set rows ((at_ es (k : Int)).u).toNat ((at_ rows ((at_ es (k : Int)).u)) ||| ((1#64) <<< ((at_ es (k : Int)).v).toNat))) (e := 175) (new := (at_ (List.set rows ((at_ es (k : Int)).u).toNat ((at_ rows ((at_ es (k : Int)).u)) ||| ((1#64) <<< ((at_ es (k : Int)).v).toNat))) ((at_ es (k : Int)).v)) ||| ((1#64) <<< ((at_ es (k : Int)).u).toNat)) ty175 rfl rfl rfl om oo am) ?_
     rintro _ _ ⟨rfl, rfl⟩
     refine C8 kr ?_
     refine Ai (Aj (Ap (S4 3 12 13 14 rfl rfl rfl rfl) (Ax (Gr (Rad rfl rfl) (Gm rfl (Bg ?_))))))
     have hset : List.set (List.set rows ((at_ es (k : Int)).u).toNat ((at_ rows ((at_ es (k : Int)).u)) ||| ((1#64) <<< ((at_ es (k : Int)).v).toNat))) ((at_ es (k : Int)).v).toNat ((at_ (List.set rows ((at_ es (k : Int)).u).toNat ((at_ rows ((at_ es (k : Int)).u)) ||| ((1#64) <<< ((at_ es (k : Int)).v).toNat))) ((at_ es (k : Int)).v)) ||| ((1#64) <<< ((at_ es (k : Int)).u).toNat)) = addRow rows (at_ es (k : Int)) := by unfold addRow; rw [if_pos om]
     rw [hset]
     exact B0 ((k + 1), (addRow rows (at_ es (k : Int)))) (by dsimp only; exact ⟨om, (by rw [rowsB_take om, ← hr]; first | done | exact hset), (by first | exact hrl | (rw [addRow_len]; exact hrl))⟩)
    ·refine A2 (Ai (Aj (Ax (Gr (Rad rfl rfl) (Gm rfl (Bg ?_))))))
     have hset : rows = addRow rows (at_ es (k : Int)) := (addRow_no om).symm
     exact B0 ((k + 1), (rows)) (by dsimp only; exact ⟨om, (by rw [rowsB_take om, ← hr]; first | done | exact hset), (by first | exact hrl | (rw [addRow_len]; exact hrl))⟩)
   ·refine Gpo (Gpo (Gpo (Gpo (Gpo (Gr (Ar rfl rfl) (Af (Ap (S6 34 5 3 12 13 14 rfl rfl rfl rfl rfl rfl) (Dl rfl (A2 (Ai (Aj (Ax (Gr (Rad rfl rfl) (Gm rfl (Bg ?_)))))))))))))))
    have hset : rows = addRow rows (at_ es (k : Int)) := (addRow_no om).symm
    exact B0 ((k + 1), (rows)) (by dsimp only; exact ⟨om, (by rw [rowsB_take om, ← hr]; first | done | exact hset), (by first | exact hrl | (rw [addRow_len]; exact hrl))⟩)
  ·refine Gpo (Gpo (Gpo (Gpo (Gpo (Gr (Ar rfl rfl) (Gm rfl (Gpo (Gpo (Gpo (Gpo (Gpo (Gr (Ar rfl rfl) (Af (Ap (S6 34 5 3 12 13 14 rfl rfl rfl rfl rfl rfl) (Dl rfl (A2 (Ai (Aj (Ax (Gr (Rad rfl rfl) (Gm rfl (Bg ?_))))))))))))))))))))))
   have hset : rows = addRow rows (at_ es (k : Int)) := (addRow_no om).symm
   exact B0 ((k + 1), (rows)) (by dsimp only; exact ⟨om, (by rw [rowsB_take om, ← hr]; first | done | exact hset), (by first | exact hrl | (rw [addRow_len]; exact hrl))⟩)
 ·refine Bs (Am (Am (A6 (Aj (Ah (Gm rfl (Ga rfl (Af (Ay ?_)))))))))
  rw [List.take_of_length_le om] at hr
  subst hr
  have hle : (rowsB nd es).length = (List.replicate (min (max nd 0) 64).toNat (default : (BitVec 64))).length := by omega
  exact A4 rfl rfl (vc 175 (.slice ad2 (rowsB nd es).length cp3) (rowsB nd es) :: I) (by rw [hle]; exact Az) ⟨_, _, by rw [hle], rfl⟩
section
variable {P : Program} {κ : Ctx} {N : Frm} {L : Env} {I J : List Item} {d : Option Tmp} {ty : TypeId} {ps : String} {af : Array Edge} {gd : Option (Nat × Bool)}
theorem vc.isSome {α : Type} [Enc α] {xs : List α} {e : TypeId} {ad : Option Addr} {n c : Nat} (h : vc e (.slice ad n c) xs ∈ I) : ∀ w, Sep κ w I → (0 < xs.length → ad ≠ none) := fun w hs hlt => by
 obtain ⟨b, o, cap, h0, _⟩ := ((D5 (κ := κ) h) w hs).some hlt
 cases h0
 exact fun hh => by cases hh
theorem Runs.idxs (α : Type) [Enc α] {x y : Operand} {T E by' n c : Nat} {ag : Bool} {z : List Value} {ad : Option Addr} {i : Int} (ht : P.underlying T = some (.slice E)) (hE : tyF P E = some (Enc.sz α, ag, by', z)) (hx : evalO L x = some (.slice ad n c))
  (hy : evalO L y = some (I64 i)) (ha : ad ≠ none) (h0 : 0 ≤ i) (hn : i < n) : Runs P κ N ⟨d, .indexAddr T x y, ty, ps, af, gd⟩ L J (elemPtr (.slice ad n c) (i.toNat * Enc.sz α)) := by
 cases ad with
 | none => exact absurd rfl ha
 | some ad => exact fun a w ha hs => by simp [execOp, ha.eval hx, ha.eval hy, Instr.indexAt, asIntOf, run_underlying ht, h0, hn, run_sizeOf hE, elemPtr]
end
variable {κ : Ctx} {I : List Item}
theorem ApplyP_ok {nd : Int} {e : Ev} {a0 : Option Addr} {c0 : Nat} {xs : List Lk} (hv : checkS nd xs = 0) (hf : FitOk nd e) (hsz : xs.length ≤ 100000) :
    CallS Tryz.prog κ 141 [.agg #[I64 (nd), .slice a0 xs.length c0], .agg #[I64 (e.kd), I64 (e.tm), I64 (e.u), I64 (e.v), I64 (e.w), I64 (e.lb), I64 (e.sg)]] (vc 146 (.slice a0 xs.length c0) (xs) :: I) (fun r J => ∃ a c w, r = .tuple #[.agg #[I64 nd, .slice a (stepL xs e).length c], w, I64 0] ∧ J = vc 146 (.slice a (stepL xs e).length c) (stepL xs e) :: I) := by
 refine Ce2 Tryz.func141 rfl rfl ?_
 refine Ah (Ge1 (Bd (cs := [_, _]) rfl rfl rfl) fun b1 => Ge1 (Bd (cs := [_, _, _, _, _, _, _]) rfl rfl rfl) fun b2 => Ge1 (Ba ty111 rfl) fun b3 => Ga rfl (Ga rfl (Af (Ah (Gl2 ty111 ?_)))))
 refine G.e (Al call214 rfl rfl (CheckS_ok (nd := nd) Be)) ?_
 rintro _ _ ⟨_, _, ⟨rfl, rfl⟩, rfl, rfl⟩
 refine Ga rfl (Af (As (Ah (Gm rfl (Gr (Bl rfl rfl) (Af (A8 rfl (fun c13 => ?_) (fun c13 => ?_))))))))
 ·refine Ax (Gf fld111_0 rfl (Gl ty3 ?_))
  refine Gl7 ty108 ?_
  refine Gc0 (Al call210 rfl rfl (FitsE_ok nd e)) ?_
  refine Ga rfl (Af (Ap (S4 7 4 3 2 rfl rfl rfl rfl) (As (Ah (Gm rfl (Gr (Bt rfl rfl) (Af (A8 rfl (fun c19 => ?_) (fun c19 => ?_)))))))))
  ·exact absurd (fitE_ok.2 hf) c19
  ·refine A2 (Aj (Ah (Gl2 ty111 ?_)))
   refine Gl7 ty108 ?_
   refine G.e (Al call215 rfl rfl (StepP_at (by repeat (first | exact AtF.head _ _ | apply AtF.tail)) rfl (checkS_ok hv).2.2 om)) ?_
   rintro _ _ ⟨_, _, ⟨⟨ad4, cp5, wv6⟩, rfl, rfl⟩, rfl, rfl⟩
   show G Tryz.prog κ _ _ _ _ ([(25, .tuple #[.agg #[I64 (nd), .slice ad4 (stepL xs e).length cp5], wv6]), (24, .agg #[I64 (e.kd), I64 (e.tm), I64 (e.u), I64 (e.v), I64 (e.w), I64 (e.lb), I64 (e.sg)]), (23, .agg #[I64 (nd), .slice a0 xs.length c0]), (19, .bool (decide ((fitE nd e) ≠ 0))), (18, I64 (fitE nd e)), (7, I64 (fitE nd e)), (4, .pointer (some ⟨b3, 0, none⟩)), (3, .pointer (some ⟨b2, 0, none⟩)), (2, .pointer (some ⟨b1, 0, none⟩))] : Env) (blk b3 [I64 (0), .slice none 0 0] 111 :: blk b2 [I64 (e.kd), I64 (e.tm), I64 (e.u), I64 (e.v), I64 (e.w), I64 (e.lb), I64 (e.sg)] 108 :: blk b1 [I64 (nd), .slice a0 xs.length c0] 111 :: vc 146 (.slice ad4 (stepL xs e).length cp5) (stepL xs e) :: I)
   refine Gm rfl (Gr (A3 rfl rfl) (Gr (A3 rfl rfl) (Ge1 (Ba ty111 rfl) fun b7 => Ge0 (Cq ty111) ?_)))
   refine Ga rfl (Af (Ap (S3 9 8 4 rfl rfl rfl) (Ah (Gf fld111_1 rfl (Gl ty109 ?_)))))
   refine G.e (Al call216 rfl rfl (CloneL (xs := stepL xs e) Be (by have h := stepL_len xs e; omega))) ?_
   rintro _ _ ⟨_, _, ⟨ad8, cp9, rfl, rfl⟩, rfl, rfl⟩
   refine Gf fld111_1 rfl (Ge0 (Es2_1 ty109) ?_)
   refine Af (Ah (Gl2 ty111 ?_))
   refine Gm rfl (Ge0 (Cq ty111) ?_)
   exact Ga rfl (Ga rfl (Af (Ay (V.retc2 rfl ty111 rfl rfl rfl mm rfl (vc 146 (.slice ad8 (stepL xs e).length cp9) (stepL xs e) :: I) B1 ⟨ad8, cp9, wv6, rfl, rfl⟩))))
 ·exact absurd hv c13
theorem edgesK_take {xs : List Lk} {k : Nat} (h : k < xs.length) : edgesK (xs.take (k + 1)) = edgesK (xs.take k) ++ [(⟨(at_ xs (k : Int)).u, (at_ xs (k : Int)).v⟩ : Pt)] := by
 unfold edgesK; rw [C3 xs k h, List.map_append]; rfl
theorem LEdges_ok {nd : Int} {va : Value} {xs : List Lk} (hl : Sl κ I va xs) (hsz : xs.length ≤ 100000) :
    CallS Tryz.prog κ 231 [.agg #[I64 (nd), va]] I (fun r J => ∃ a c, r = .agg #[I64 nd, .slice a (edgesK xs).length c] ∧ J = vc 135 (.slice a (edgesK xs).length c) (edgesK xs) :: I) := by
 refine B5 hl.le fun hmax => ?_
 refine Ce1 Tryz.func231 rfl rfl ?_
 refine Ah (Ge1 (Bd (cs := [_, _]) rfl rfl rfl) fun b1 => Ge1 (Ba ty48 rfl) fun b2 => Af (Ah (Gf fld111_0 rfl (Gl ty3 ?_))))
 refine Gr (A9 (cells := [_, _]) ty48 Tryz.underlying48 pl48 rfl rfl) (Ge1 (Ba ty48 rfl) fun b3 => Ge0 (Cq ty48) ?_)
 refine Af (As (Ah (Gf fld111_1 rfl (Gl ty109 ?_))))
 refine Gr (Bw (α := Lk) (xs := xs) Av rfl (Bh hl)) (Gm rfl (Af (A1 (Bu (σ := Nat × (Option Addr) × Nat × (List Pt)) (fun s => ([(2, .pointer (some ⟨b2, 0, none⟩)), (3, .pointer (some ⟨b3, 0, none⟩)), (10, va), (11, I64 (((xs.length : Nat) : Int))), (12, I64 (((s.1 : Nat) : Int)))] : Env)) (fun s => vc 135 (.slice s.2.1 s.2.2.2.length s.2.2.1) (s.2.2.2) :: blk b3 [I64 (nd), .slice s.2.1 s.2.2.2.length s.2.2.1] 48 :: blk b2 [I64 (0), .slice none 0 0] 48 :: blk b1 [I64 (nd), va] 111 :: I) (fun s => (s.1 ≤ xs.length) ∧ (s.2.2.2 = edgesK (xs.take s.1))) (fun s => xs.length - s.1) (0, none, 0, []) (show ((0 : Nat) ≤ xs.length) ∧ (([] : List Pt) = edgesK (xs.take (0 : Nat))) from ⟨om, rfl⟩) (Aa rfl (Aa rfl (Aa rfl (Aa rfl (Aa Ch Bi))))) (show Fit κ _ (vc 135 (.slice (none) ([]).length (0)) (([])) :: blk b3 [I64 (nd), .slice (none) ([]).length (0)] 48 :: blk b2 [I64 (0), .slice none 0 0] 48 :: blk b1 [I64 (nd), va] 111 :: I) from (Bv _ _)) ?_))))
 rintro ⟨k, a, c, out⟩ hp
 dsimp only at hp ⊢
 obtain ⟨hk, ho⟩ := hp
 have hol : out.length = k := by rw [ho, edgesK_len, List.length_take]; omega
 refine Ah (Gr (Bb rfl rfl) (Af (As (A8 rfl (fun c13 => ?_) (fun c13 => ?_)))))
 ·refine A2 (Aj (As (A1 (Ah (Gr (Aw (α := Lk) (xs := xs) Av ty146 rfl rfl (Bh hl) om om) (Gr (Br (α := Lk) (xs := xs) ty146 rfl (Bh hl) om om) (Ge1 (Ba ty146 rfl) fun b4 => Ge0 (Dx ty146) ?_)))))))
  refine Af (Ax (Gf fld48_1 rfl (Gl ty46 ?_)))
  refine Gf fld146_0 rfl (Gl ty3 ?_)
  refine Gf fld146_1 rfl (Gl ty3 ?_)
  refine Gr (A9 (cells := [_, _]) ty135 Di pl135 rfl rfl) (Ge1 (Bz (α := Pt) (cs := [_, _]) (xs := [⟨(at_ xs (k : Int)).u, (at_ xs (k : Int)).v⟩]) Bm ty135 rfl rfl dc dc rfl rfl rfl rfl) fun ad5 => ?_)
  refine Ge2 (Cg (α := Pt) (e := 135) (xs := out) (ys := ([⟨(at_ xs (k : Int)).u, (at_ xs (k : Int)).v⟩] : List Pt)) Bm ty135 rfl rfl rfl mm Be lcn dc rfl (fun _ _ => am)) fun ad6 cp7 => ?_
  refine Gf fld48_1 rfl (Ge0 (Es2_1 ty46) ?_)
  exact Bg (Ai (Aj (Ap (S5 2 3 10 11 12 rfl rfl rfl rfl rfl) (Ax (Gr (Rad rfl rfl) (Gm rfl (Bg (B0 ((k + 1), (ad6), (cp7), (out ++ ([⟨(at_ xs (k : Int)).u, (at_ xs (k : Int)).v⟩] : List Pt))) (by dsimp only; exact ⟨om, (by rw [edgesK_take om, ← ho])⟩)))))))))
 ·refine Bs (Am (Am (A6 (Aj (Ah (Gl2 ty48 ?_))))))
  refine Ge0 (Cq ty48) ?_
  refine Af (Ay ?_)
  have hE : out = edgesK xs := by rw [ho, List.take_of_length_le om]
  exact D0 rfl ty48 rfl mm rfl (vc 135 (.slice a (edgesK xs).length c) (edgesK xs) :: I) (by rw [← hE]; exact B1) ⟨a, c, by rw [← hE] <;> rfl, rfl⟩
theorem LGraph_ok {nd : Int} {va : Value} {xs : List Lk} (hl : Sl κ I va xs) (hv : checkS nd xs = 0) (hsz : xs.length ≤ 100000) :
    CallS Tryz.prog κ 167 [.agg #[I64 (nd), va]] I (fun r J => ∃ a c, r = .tuple #[.agg #[I64 nd, .slice a (edgesK xs).length c], I64 0] ∧ J = vc 135 (.slice a (edgesK xs).length c) (edgesK xs) :: I) := by
 refine Ce1 Tryz.func167 rfl rfl ?_
 refine Ah (Ge1 (Bd (cs := [_, _]) rfl rfl rfl) fun b1 => Ge1 (Ba ty48 rfl) fun b2 => Ga rfl (Af (As (Ah (Gl2 ty111 ?_)))))
 refine G.e (Al call214 rfl rfl (CheckS_ok (nd := nd) (Bh hl))) ?_
 rintro _ _ ⟨_, _, ⟨rfl, rfl⟩, rfl, rfl⟩
 refine Ga rfl (Af (Ah (Gm rfl (Gr (Bt rfl rfl) (Af (A8 rfl (fun c8 => ?_) (fun c8 => ?_)))))))
 ·exact absurd hv c8
 ·refine A2 (Aj (Ah (Gl2 ty111 ?_)))
  refine G.e (Al call231 rfl rfl (LEdges_ok (nd := nd) (Bh hl) om)) ?_
  rintro _ _ ⟨_, _, ⟨ad3, cp4, rfl, rfl⟩, rfl, rfl⟩
  refine Ge0 (Cq ty48) ?_
  exact Ga rfl (Af (Ay (Dn rfl ty48 rfl rfl mm rfl (vc 135 (.slice ad3 (edgesK xs).length cp4) (edgesK xs) :: I) B1 ⟨ad3, cp4, rfl, rfl⟩)))
theorem LateC_ok (x y : Ev) :
    CallS Tryz.prog κ 230 [.agg #[I64 (x.kd), I64 (x.tm), I64 (x.u), I64 (x.v), I64 (x.w), I64 (x.lb), I64 (x.sg)], .agg #[I64 (y.kd), I64 (y.tm), I64 (y.u), I64 (y.v), I64 (y.w), I64 (y.lb), I64 (y.sg)]] I (fun r J => r = I64 (evC x y) ∧ I = J) := by
 refine Ce2 Tryz.func230 rfl rfl ?_
 refine Ah (Ge1 (Bd (cs := [_, _, _, _, _, _, _]) rfl rfl rfl) fun b1 => Ge1 (Bd (cs := [_, _, _, _, _, _, _]) rfl rfl rfl) fun b2 => Ga rfl (Af (Ah (Gf fld108_1 rfl (Gl ty3 ?_)))))
 refine Gf fld108_1 rfl (Gl ty3 ?_)
 refine Gc0 (Al call225 rfl rfl (Compare_ok x.tm y.tm)) ?_
 exact Ga rfl (Af (Ay (A4 rfl rfl (I) A0 ⟨by first | rfl | (unfold evC; repeat (first | rfl | omega | split)) | (unfold evC; congr 1; repeat (first | rfl | omega | split)), rfl⟩)))
variable {κ : Ctx} {I : List Item}
theorem InsSortE_ok {a : Option Addr} {c : Nat} {xs : List Ev} (hn : xs.length ≤ 1000) :
    CallS Tryz.prog κ 315 [.slice a xs.length c, I64 (0), I64 (((xs.length : Nat) : Int)), .func (.func 230) #[] #[]] (vc 108 (.slice a xs.length c) (xs) :: I) (fun r J => r = .tuple #[] ∧ J = vc 108 (.slice a xs.length c) (isortG evC xs) :: I) := by
 refine B5 (p := 0 < xs.length → a ≠ none) (vc.isSome mm) fun hsm => ?_
 refine Ce4 Tryz.func315 rfl rfl ?_
 refine Ah (Gm rfl (Gr (Rad rfl rfl) (Ga rfl (Af (A1 (Bu (σ := Nat × (List Ev)) (fun s => ([(0, .slice a xs.length c), (1, I64 (0)), (2, I64 (((xs.length : Nat) : Int))), (3, .func (.func 230) #[] #[]), (8, I64 (((s.1 : Nat) : Int)))] : Env)) (fun s => vc 108 (.slice a xs.length c) (s.2) :: I) (fun s => (1 ≤ s.1 ∧ (s.1 ≤ xs.length ∨ s.1 = 1)) ∧ (s.2 = (isortG evC (xs.take s.1)) ++ xs.drop s.1)) (fun s => xs.length - s.1) (1, xs) (show (1 ≤ (1 : Nat) ∧ ((1 : Nat) ≤ xs.length ∨ (1 : Nat) = 1)) ∧ ((xs : List Ev) = (isortG evC (xs.take (1 : Nat))) ++ xs.drop (1 : Nat)) from ⟨om, (by cases xs <;> rfl)⟩) (Aa rfl (Aa rfl (Aa rfl (Aa rfl (Aa Ch Bi))))) (show Fit κ _ (vc 108 (.slice a xs.length c) ((xs)) :: I) from Az) ?_))))))
 rintro ⟨i, ys⟩ hp
 dsimp only at hp ⊢
 obtain ⟨hi, hy⟩ := hp
 have hil := fun h : i ≤ xs.length => isort_tlenG evC h
 have hyl : ys.length = xs.length := by rw [hy, List.length_append, List.length_drop]; rcases hi.2 with h | h; (· have := hil h; omega); (· subst h; cases xs with | nil => rfl | cons x t => (have := hil (by simp); simp at this ⊢; omega))
 refine As (Ah (Gm rfl (Gm rfl (Gr (Bb rfl rfl) (Af (A8 rfl (fun c14 => ?_) (fun c14 => ?_)))))))
 ·refine A2 (Aj (As (A1 (Ah (Gm rfl (Ga rfl (Af (A1 (Bu (σ := Nat × (List Ev)) (fun s => ([(0, .slice a xs.length c), (1, I64 (0)), (2, I64 (((xs.length : Nat) : Int))), (3, .func (.func 230) #[] #[]), (8, I64 ((i : Int))), (9, I64 (((s.1 : Nat) : Int)))] : Env)) (fun s => vc 108 (.slice a xs.length c) (s.2) :: I) (fun s => (s.1 ≤ i) ∧ (s.2 = insG (isortG evC (xs.take i)) s.1 (at_ xs (i : Int)) ++ xs.drop (i + 1)) ∧ (placeG evC (isortG evC (xs.take i)) (at_ xs (i : Int)) s.1 = placeG evC (isortG evC (xs.take i)) (at_ xs (i : Int)) i)) (fun s => s.1) (i, ys) (show ((i : Nat) ≤ i) ∧ ((ys : List Ev) = insG (isortG evC (xs.take i)) (i : Nat) (at_ xs (i : Int)) ++ xs.drop (i + 1)) ∧ (placeG evC (isortG evC (xs.take i)) (at_ xs (i : Int)) (i : Nat) = placeG evC (isortG evC (xs.take i)) (at_ xs (i : Int)) i) from ⟨om, (by rw [hy]; exact ins_startG om), rfl⟩) (Aa rfl (Aa rfl (Aa rfl (Aa rfl (Aa rfl (Aa Ch Bi)))))) (show Fit κ _ (vc 108 (.slice a xs.length c) ((ys)) :: I) from Az) ?_)))))))))
  rintro ⟨j, zs⟩ hp
  dsimp only at hp ⊢
  obtain ⟨hj, hzs, hpl⟩ := hp
  have hil2 := hil om
  have hz0 : at_ zs (j : Int) = (at_ xs (i : Int)) := by rw [hzs]; exact at_midG om
  have hz1 : 0 < j → at_ zs ((j : Int) - 1) = at_ (isortG evC (xs.take i)) ((j : Int) - 1) := fun h => by rw [hzs]; exact at_prevG h om
  have hzl : zs.length = xs.length := by rw [hzs, List.length_append, List.length_drop]; unfold insG; rw [List.length_append, List.length_cons, List.length_take, List.length_drop]; omega
  refine As (As (Bj mixed (Bo (vc 108 (.slice a xs.length c) (zs) :: I) 17 (Dr 0 rfl (Ad rfl) (Dr 1 rfl (Ad rfl) (Dr 2 rfl (B6 rfl rfl) (Dr 3 rfl (Ad rfl) (Do (d := 21) rfl (fun g21 => ?_) (fun g21 => ?_)))))))))
  ·refine Dro 4 rfl (Ad rfl) (Dro 5 rfl (Ad rfl) (Dro 6 rfl (Ad rfl) (Dro 7 rfl (Aw (α := Ev) (xs := zs) A5 ty108 rfl rfl Be om oo) (Dro 8 rfl (Br (α := Ev) (xs := zs) ty108 rfl Be om oo) (Dro 9 rfl (Ad rfl) (Dro 10 rfl (Ad rfl) (Dro 11 rfl (Rsu rfl rfl) (Dro 12 rfl (Aw (α := Ev) (xs := zs) A5 ty108 rfl rfl Be om oo) (Dro 13 rfl (Br (α := Ev) (xs := zs) ty108 rfl Be om oo) (Ds1 14 (Sc0 rfl (Ct call230 rfl rfl rfl (LateC_ok (at_ zs (j : Int)) (at_ zs ((j : Int) - 1)))) ?_)))))))))))
   refine Dro 15 rfl (Bb rfl rfl) (Dr 16 rfl (Ao rfl rfl) (Dz (Aj (Ap (S7 34 0 1 2 3 8 9 rfl rfl rfl rfl rfl rfl rfl) (A8 rfl (fun c34 => ?_) (fun c34 => ?_))))))
   ·refine A2 (Aj (As (A1 (Bj mixed (Bo (I) 18 (Dr 0 rfl (Ad rfl) (Dr 1 rfl (Ad rfl) (Dr 2 rfl (Ad rfl) (Dr 3 rfl (Ad rfl) (Dr 4 rfl (Rsu rfl rfl) (Dr 5 rfl (Ad rfl) (Dr 6 rfl (Ad rfl) (Dr 7 rfl (Rsu rfl rfl) (Dr 8 rfl (Runs.idxs Ev A5 ty108 rfl rfl (hsm om) om om) (Dr 10 rfl (Ad rfl) (Dr 11 rfl (Ad rfl) (Dr 12 rfl (Runs.idxs Ev A5 ty108 rfl rfl (hsm om) om om) (Dp (rs := [9, 13]) kr rfl rfl (Es ?_ (all1 ?_))))))))))))))))))))
    ·refine Sr rfl (Br (α := Ev) (xs := zs) ty108 rfl Be om oo) Az ?_
     refine Ds1 13 (Sr rfl (Br (α := Ev) (xs := zs) ty108 rfl Be om oo) Az ?_)
     refine Dr 14 rfl (Runs.idxs Ev A5 ty108 rfl rfl (hsm om) om om) (Ds1 15 (Se0 rfl (Cs (α := Ev) (xs := zs) (e := 108) (new := ⟨(at_ zs ((j : Int) - 1)).kd, (at_ zs ((j : Int) - 1)).tm, (at_ zs ((j : Int) - 1)).u, (at_ zs ((j : Int) - 1)).v, (at_ zs ((j : Int) - 1)).w, (at_ zs ((j : Int) - 1)).lb, (at_ zs ((j : Int) - 1)).sg⟩) ty108 rfl rfl rfl om oo am) ?_))
     refine Dr 16 rfl (Runs.idxs Ev A5 ty108 rfl rfl (hsm om) om om) (Ds1 17 (Se0 rfl (Cs (α := Ev) (xs := List.set zs ((j : Int)).toNat (⟨(at_ zs ((j : Int) - 1)).kd, (at_ zs ((j : Int) - 1)).tm, (at_ zs ((j : Int) - 1)).u, (at_ zs ((j : Int) - 1)).v, (at_ zs ((j : Int) - 1)).w, (at_ zs ((j : Int) - 1)).lb, (at_ zs ((j : Int) - 1)).sg⟩)) (e := 108) (new := ⟨(at_ zs (j : Int)).kd, (at_ zs (j : Int)).tm, (at_ zs (j : Int)).u, (at_ zs (j : Int)).v, (at_ zs (j : Int)).w, (at_ zs (j : Int)).lb, (at_ zs (j : Int)).sg⟩) ty108 rfl rfl rfl om oo am) ?_))
     exact Dz (Ai (Aj (Ap (S6 0 1 2 3 8 9 rfl rfl rfl rfl rfl rfl) (Ax (Gm rfl (Gr (Rsu rfl rfl) (Ga rfl (Bg (B0 ((j - 1), (List.set (List.set zs ((j : Int)).toNat (⟨(at_ zs ((j : Int) - 1)).kd, (at_ zs ((j : Int) - 1)).tm, (at_ zs ((j : Int) - 1)).u, (at_ zs ((j : Int) - 1)).v, (at_ zs ((j : Int) - 1)).w, (at_ zs ((j : Int) - 1)).lb, (at_ zs ((j : Int) - 1)).sg⟩)) ((j : Int) - 1).toNat (⟨(at_ zs (j : Int)).kd, (at_ zs (j : Int)).tm, (at_ zs (j : Int)).u, (at_ zs (j : Int)).v, (at_ zs (j : Int)).w, (at_ zs (j : Int)).lb, (at_ zs (j : Int)).sg⟩))) (by dsimp only; exact ⟨om, (by have hsw := ins_swapG (l := (isortG evC (xs.take i))) (r := xs.drop (i + 1)) (x := (at_ xs (i : Int))) (show 0 < j by omega) om; rw [← hzs, ← hz0, ← hz1 om] at hsw; rw [hz0] at hsw ⊢; rw [show (((j : Int)).toNat) = j by omega, show (((j : Int) - 1).toNat) = j - 1 by omega]; exact hsw), ((place_stepG om (by rw [← hz1 om, ← hz0]; assumption)).trans hpl)⟩))))))))))
    ·refine Sr rfl (Br (α := Ev) (xs := zs) ty108 rfl Be om oo) Az ?_
     refine Ds1 9 (Sr rfl (Br (α := Ev) (xs := zs) ty108 rfl Be om oo) Az ?_)
     refine Dr 14 rfl (Runs.idxs Ev A5 ty108 rfl rfl (hsm om) om om) (Ds1 15 (Se0 rfl (Cs (α := Ev) (xs := zs) (e := 108) (new := ⟨(at_ zs ((j : Int) - 1)).kd, (at_ zs ((j : Int) - 1)).tm, (at_ zs ((j : Int) - 1)).u, (at_ zs ((j : Int) - 1)).v, (at_ zs ((j : Int) - 1)).w, (at_ zs ((j : Int) - 1)).lb, (at_ zs ((j : Int) - 1)).sg⟩) ty108 rfl rfl rfl om oo am) ?_))
     refine Dr 16 rfl (Runs.idxs Ev A5 ty108 rfl rfl (hsm om) om om) (Ds1 17 (Se0 rfl (Cs (α := Ev) (xs := List.set zs ((j : Int)).toNat (⟨(at_ zs ((j : Int) - 1)).kd, (at_ zs ((j : Int) - 1)).tm, (at_ zs ((j : Int) - 1)).u, (at_ zs ((j : Int) - 1)).v, (at_ zs ((j : Int) - 1)).w, (at_ zs ((j : Int) - 1)).lb, (at_ zs ((j : Int) - 1)).sg⟩)) (e := 108) (new := ⟨(at_ zs (j : Int)).kd, (at_ zs (j : Int)).tm, (at_ zs (j : Int)).u, (at_ zs (j : Int)).v, (at_ zs (j : Int)).w, (at_ zs (j : Int)).lb, (at_ zs (j : Int)).sg⟩) ty108 rfl rfl rfl om oo am) ?_))
     exact Dz (Ai (Aj (Ap (S6 0 1 2 3 8 9 rfl rfl rfl rfl rfl rfl) (Ax (Gm rfl (Gr (Rsu rfl rfl) (Ga rfl (Bg (B0 ((j - 1), (List.set (List.set zs ((j : Int)).toNat (⟨(at_ zs ((j : Int) - 1)).kd, (at_ zs ((j : Int) - 1)).tm, (at_ zs ((j : Int) - 1)).u, (at_ zs ((j : Int) - 1)).v, (at_ zs ((j : Int) - 1)).w, (at_ zs ((j : Int) - 1)).lb, (at_ zs ((j : Int) - 1)).sg⟩)) ((j : Int) - 1).toNat (⟨(at_ zs (j : Int)).kd, (at_ zs (j : Int)).tm, (at_ zs (j : Int)).u, (at_ zs (j : Int)).v, (at_ zs (j : Int)).w, (at_ zs (j : Int)).lb, (at_ zs (j : Int)).sg⟩))) (by dsimp only; exact ⟨om, (by have hsw := ins_swapG (l := (isortG evC (xs.take i))) (r := xs.drop (i + 1)) (x := (at_ xs (i : Int))) (show 0 < j by omega) om; rw [← hzs, ← hz0, ← hz1 om] at hsw; rw [hz0] at hsw ⊢; rw [show (((j : Int)).toNat) = j by omega, show (((j : Int) - 1).toNat) = j - 1 by omega]; exact hsw), ((place_stepG om (by rw [← hz1 om, ← hz0]; assumption)).trans hpl)⟩))))))))))
   ·exact Bs (Am (Am (A6 (Ai (Aj (Ax (Gm rfl (Gr (Rad rfl rfl) (Ga rfl (Bg (B0 ((i + 1), (zs)) (by dsimp only; exact ⟨om, (by rw [hzs]; exact ins_endsG om hpl (by first | exact .inl om | (by_cases h0 : j = 0; (· exact .inl h0); (· exact .inr ⟨by omega, by rw [← hz0, ← hz1 om]; assumption⟩))))⟩))))))))))))
  ·exact Dpo 4 rfl (Dpo 5 rfl (Dpo 6 rfl (Dpo 7 rfl (Dpo 8 rfl (Dpo 9 rfl (Dpo 10 rfl (Dpo 11 rfl (Dpo 12 rfl (Dpo 13 rfl (Dpo 14 rfl (Dpo 15 rfl (Dr 16 rfl (Ar rfl rfl) (Dz (Aj (Ap (S7 34 0 1 2 3 8 9 rfl rfl rfl rfl rfl rfl rfl) (Dl rfl (Bs (Am (Am (A6 (Ai (Aj (Ax (Gm rfl (Gr (Rad rfl rfl) (Ga rfl (Bg (B0 ((i + 1), (zs)) (by dsimp only; exact ⟨om, (by rw [hzs]; exact ins_endsG om hpl (by first | exact .inl om | (by_cases h0 : j = 0; (· exact .inl h0); (· exact .inr ⟨by omega, by rw [← hz0, ← hz1 om]; assumption⟩))))⟩)))))))))))))))))))))))))))))
 ·refine Bs (Am (Am (A6 ?_)))
  have hE : ys = isortG evC xs := by rw [hy]; rcases hi.2 with h | h; (· have e : i = xs.length := om; rw [e, List.take_length, List.drop_length, List.append_nil]); (· rw [List.take_of_length_le om, List.drop_eq_nil_of_le om, List.append_nil])
  exact V.end0 rfl (vc 108 (.slice a xs.length c) (isortG evC xs) :: I) (by rw [hE]; exact Az) ⟨rfl, rfl⟩
theorem StableE_ok {a : Option Addr} {c : Nat} {xs : List Ev} (hn : xs.length ≤ 19) :
    CallS Tryz.prog κ 280 [.slice a xs.length c, I64 (((xs.length : Nat) : Int)), .func (.func 230) #[] #[]] (vc 108 (.slice a xs.length c) (xs) :: I) (fun r J => r = .tuple #[] ∧ J = vc 108 (.slice a xs.length c) (isortG evC xs) :: I) := by
 refine Ce3 Tryz.func280 rfl rfl ?_
 refine Ah (Ga rfl (Af (Ah (Gm rfl (Ga rfl (Ga rfl (Af (As (A1 (Bu (σ := Nat) (fun s => ([(0, .slice a xs.length c), (1, I64 (((xs.length : Nat) : Int))), (2, .func (.func 230) #[] #[]), (6, I64 (20)), (7, I64 (0)), (8, I64 (20))] : Env)) (fun s => vc 108 (.slice a xs.length c) (xs) :: I) (fun s => True) (fun s => 0) (0) (show True from trivial) (Aa rfl (Aa rfl (Aa rfl (Aa rfl (Aa rfl (Aa rfl Bi)))))) (show Fit κ _ (vc 108 (.slice a xs.length c) (xs) :: I) from Az) ?_))))))))))
 rintro z hp
 refine As (Ah (Gm rfl (Gm rfl (Gr (Du rfl rfl) (Af (A8 rfl (fun c13 => ?_) (fun c13 => ?_)))))))
 ·omega
 ·refine Bs (Am (Am (A6 (Aj (Ah (Gm rfl (Gm rfl (Gm rfl (Gm rfl (Gc1 (Al call315 rfl rfl (Ck (J := vc 108 (.slice a xs.length c) (xs) :: I) B1 (InsSortE_ok (xs := xs) om))) ?_))))))))))
  refine Af (Ap (S4 0 1 2 6 rfl rfl rfl rfl) (A1 (Bu (σ := Nat) (fun s => ([(0, .slice a xs.length c), (1, I64 (((xs.length : Nat) : Int))), (2, .func (.func 230) #[] #[]), (6, I64 (20))] : Env)) (fun s => vc 108 (.slice a xs.length c) (isortG evC xs) :: I) (fun s => True) (fun s => 0) (0) (show True from trivial) (Aa rfl (Aa rfl (Aa rfl (Aa rfl Bi)))) (show Fit κ _ (vc 108 (.slice a xs.length c) (isortG evC xs) :: I) from Az) ?_)))
  rintro z hp
  refine As (Ah (Gm rfl (Gm rfl (Gr (Bb rfl rfl) (Af (A8 rfl (fun c30 => ?_) (fun c30 => ?_)))))))
  ·omega
  ·exact Bs (Am (Am (A6 (V.end0 rfl (vc 108 (.slice a xs.length c) (isortG evC xs) :: I) Az ⟨rfl, rfl⟩))))
theorem SortStableE_ok {a : Option Addr} {c : Nat} {xs : List Ev} (hn : xs.length ≤ 19) :
    CallS Tryz.prog κ 229 [.slice a xs.length c, .func (.func 230) #[] #[]] (vc 108 (.slice a xs.length c) (xs) :: I) (fun r J => r = .tuple #[] ∧ J = vc 108 (.slice a xs.length c) (isortG evC xs) :: I) := by
 refine Ce2 Tryz.func229 rfl rfl ?_
 refine Ax (Gm rfl (Gm rfl (Gr (Bk A5 rfl) (Gm rfl (Gc1 (Al call280 rfl rfl (Ck (J := vc 108 (.slice a xs.length c) (xs) :: I) B1 (StableE_ok (xs := xs) om))) ?_)))))
 exact Bg (V.end0 rfl (vc 108 (.slice a xs.length c) (isortG evC xs) :: I) Az ⟨rfl, rfl⟩)
theorem late_yes {kd wd : Int} {xs : List Lk} {k : Nat} (h : k < xs.length) (h1 : kd = 2) (h2 : (at_ xs (k : Int)).tm + wd ≤ 1048576) : lateL kd wd (xs.take (k + 1)) = lateL kd wd (xs.take k) ++ [cutAt wd (at_ xs (k : Int))] := by
 rw [lateL_take h, if_pos (show lateP kd wd (at_ xs (k : Int)) = true from decide_eq_true ⟨h1, h2⟩)]
theorem late_no {kd wd : Int} {xs : List Lk} {k : Nat} (h : k < xs.length) (h1 : ¬ kd = 2 ∨ ¬ (at_ xs (k : Int)).tm + wd ≤ 1048576) : lateL kd wd (xs.take (k + 1)) = lateL kd wd (xs.take k) := by
 rw [lateL_take h, if_neg (fun h => by have h3 := of_decide_eq_true h; rcases h1 with h1 | h1 <;> omega), List.append_nil]
theorem Late_ok {nd kd wd mo : Int} {va : Value} {xs : List Lk} (hl : Sl κ I va xs) (hv : checkS nd xs = 0) (hw : 0 ≤ wd ∧ wd ≤ 1048576) (hsz : xs.length ≤ 19) :
    CallS Tryz.prog κ 166 [.agg #[I64 (nd), va], .agg #[I64 (kd), I64 (wd), I64 (mo)]] I (fun r J => ∃ a c, r = .slice a (isortG evC (lateL kd wd xs)).length c ∧ J = vc 108 (.slice a (isortG evC (lateL kd wd xs)).length c) (isortG evC (lateL kd wd xs)) :: I) := by
 refine B5 hl.le fun hmax => ?_
 refine Ce2 Tryz.func166 rfl rfl ?_
 refine Ah (Ge1 (Bd (cs := [_, _]) rfl rfl rfl) fun b1 => Ge1 (Bd (cs := [_, _, _]) rfl rfl rfl) fun b2 => Ga rfl (Af (Ah (Ga rfl (Af (As (Ah (Gf fld111_1 rfl (Gl ty109 ?_)))))))))
 refine Gr (Bw (α := Lk) (xs := xs) Av rfl (Bh hl)) (Gm rfl (Af (A1 (Bu (σ := Nat × (Option Addr) × Nat × (List Ev)) (fun s => ([(3, .pointer (some ⟨b2, 0, none⟩)), (5, .slice s.2.1 s.2.2.2.length s.2.2.1), (10, va), (11, I64 (((xs.length : Nat) : Int))), (12, I64 (((s.1 : Nat) : Int)))] : Env)) (fun s => vc 108 (.slice s.2.1 s.2.2.2.length s.2.2.1) (s.2.2.2) :: blk b2 [I64 (kd), I64 (wd), I64 (mo)] 31 :: blk b1 [I64 (nd), va] 111 :: I) (fun s => (s.1 ≤ xs.length) ∧ (s.2.2.2 = lateL kd wd (xs.take s.1))) (fun s => xs.length - s.1) (0, none, 0, []) (show ((0 : Nat) ≤ xs.length) ∧ (([] : List Ev) = lateL kd wd (xs.take (0 : Nat))) from ⟨om, rfl⟩) (Aa rfl (Aa (C1 rfl (by first | rfl | simp)) (Aa rfl (Aa rfl (Aa Ch Bi))))) (show Fit κ _ (vc 108 (.slice (none) ([]).length (0)) (([])) :: blk b2 [I64 (kd), I64 (wd), I64 (mo)] 31 :: blk b1 [I64 (nd), va] 111 :: I) from (Bv _ _)) ?_))))
 rintro ⟨k, a, c, out⟩ hp
 dsimp only at hp ⊢
 obtain ⟨hk, ho⟩ := hp
 have hol : out.length ≤ k := by rw [ho]; have h1 := lateL_len kd wd (xs.take k); rw [List.length_take] at h1; omega
 refine Ah (Gr (Bb rfl rfl) (Af (As (A8 rfl (fun c13 => ?_) (fun c13 => ?_)))))
 ·refine A2 (Aj (As (A1 (Ah (Gr (Aw (α := Lk) (xs := xs) Av ty146 rfl rfl (Bh hl) om om) (Gr (Br (α := Lk) (xs := xs) ty146 rfl (Bh hl) om om) (Ge1 (Ba ty146 rfl) fun b3 => Ge0 (Dx ty146) ?_)))))))
  have htk := checkS_tm hv (k : Int) om om
  refine Af (Ah (Gf fld146_5 rfl (Gl ty3 ?_)))
  refine Gf fld31_1 rfl (Gl ty3 ?_)
  refine Gr (Rad rfl rfl) (Ga rfl (Af (Ap (S7 8 7 3 5 10 11 12 rfl rfl rfl rfl rfl rfl rfl) (Ah (Gf fld31_0 rfl (Gl ty3 ?_))))))
  refine Gr (Bl rfl rfl) (Gm rfl (Bf (d := 24) rfl (fun g24 => ?_) (fun g24 => ?_)))
  ·refine Gro (Ad rfl) (Gro (Du rfl rfl) (Gr (Ao rfl rfl) (Af (Ap (S8 27 8 7 3 5 10 11 12 rfl rfl rfl rfl rfl rfl rfl rfl) (A8 rfl (fun c27 => ?_) (fun c27 => ?_))))))
   ·refine Ax (Gm rfl (Gm rfl (Gf fld146_0 rfl (Gl ty3 ?_))))
    refine Gf fld146_1 rfl (Gl ty3 ?_)
    refine Gr (A9 (cells := [_, _, _, _, _, _, _]) ty108 Dj pl108 rfl rfl) (Ge1 (Bz (α := Ev) (cs := [I64 (2), I64 (((at_ xs (k : Int)).tm) + wd), I64 ((at_ xs (k : Int)).u), I64 ((at_ xs (k : Int)).v), I64 (0), I64 (0), I64 (0)]) (xs := [⟨2, ((at_ xs (k : Int)).tm) + wd, (at_ xs (k : Int)).u, (at_ xs (k : Int)).v, 0, 0, 0⟩]) A5 ty108 rfl rfl dc dc rfl kr rfl rfl) fun ad4 => ?_)
    refine Ge2 (Cg (α := Ev) (e := 108) (xs := out) (ys := ([⟨2, ((at_ xs (k : Int)).tm) + wd, (at_ xs (k : Int)).u, (at_ xs (k : Int)).v, 0, 0, 0⟩] : List Ev)) A5 ty108 rfl rfl rfl mm Be lcn dc rfl (fun _ _ => am)) fun ad5 cp6 => ?_
    exact Ga rfl (Bg (Ai (Aj (Ap (S5 5 3 10 11 12 rfl rfl rfl rfl rfl) (Ax (Gr (Rad rfl rfl) (Gm rfl (Bg (B0 ((k + 1), (ad5), (cp6), (out ++ ([⟨2, ((at_ xs (k : Int)).tm) + wd, (at_ xs (k : Int)).u, (at_ xs (k : Int)).v, 0, 0, 0⟩] : List Ev))) (by dsimp only; exact ⟨om, (by first | (rw [late_yes om g24 asm, ← ho]; rfl) | (rw [late_no om (.inl g24), ← ho]) | (rw [late_no om (.inr asm), ← ho]))⟩))))))))))
   ·exact A2 (Ai (Aj (Ax (Gr (Rad rfl rfl) (Gm rfl (Bg (B0 ((k + 1), (a), (c), (out)) (by dsimp only; exact ⟨om, (by first | (rw [late_yes om g24 asm, ← ho]; rfl) | (rw [late_no om (.inl g24), ← ho]) | (rw [late_no om (.inr asm), ← ho]))⟩))))))))
  ·exact Gpo (Gpo (Gr (Ar rfl rfl) (Af (Ap (S8 27 8 7 3 5 10 11 12 rfl rfl rfl rfl rfl rfl rfl rfl) (Dl rfl (A2 (Ai (Aj (Ax (Gr (Rad rfl rfl) (Gm rfl (Bg (B0 ((k + 1), (a), (c), (out)) (by dsimp only; exact ⟨om, (by first | (rw [late_yes om g24 asm, ← ho]; rfl) | (rw [late_no om (.inl g24), ← ho]) | (rw [late_no om (.inr asm), ← ho]))⟩))))))))))))))
 ·refine Bs (Am (Am (A6 (Aj (Ah (Gm rfl (Gc1 (Al call229 rfl rfl (Ck (J := vc 108 (.slice a out.length c) (out) :: blk b2 [I64 (kd), I64 (wd), I64 (mo)] 31 :: blk b1 [I64 (nd), va] 111 :: I) B1 (SortStableE_ok (xs := out) om))) ?_)))))))
  refine Af (Ah (Gm rfl (Ga rfl (Af (Ay ?_)))))
  have hE : out = lateL kd wd xs := by rw [ho, List.take_of_length_le om]
  have hEl : (isortG evC out).length = out.length := (isort_permG evC out).length_eq
  exact A4 rfl rfl (vc 108 (.slice a (isortG evC (lateL kd wd xs)).length c) (isortG evC (lateL kd wd xs)) :: I) (by rw [← hE, hEl]; exact B1) ⟨a, c, by rw [← hE, hEl], rfl⟩
end Go.Sl
namespace Go.Sl
open Go.RowKit (Below)
section
variable {P : Program} {κ : Ctx} {N : Frm} {Q : Exit → Act → World → Prop} {L : Env} {I J : List Item} {ops : Array Oper} {l m : Nat}
theorem WR.cond {c : Operand} {x y : Code} {t : Bool} (hc : evalO L c = some (.bool t)) (h1 : t = true → WR P κ N l m x Q L I) (h2 : t = false → WR P κ N l m y Q L I) : WR P κ N l m (.cond c x y) Q L I :=
 fun a w ha hs => wpIn_cond_split (ha.eval hc) (fun h => h1 h a w ha hs) (fun h => h2 h a w ha hs)
theorem WR.ite {c : Operand} {x y : Code} {p : Prop} [Decidable p] (hc : evalO L c = some (.bool (decide p))) (h1 : p → WR P κ N l m x Q L I) (h2 : ¬ p → WR P κ N l m y Q L I) : WR P κ N l m (.cond c x y) Q L I :=
 WR.cond hc (fun h => h1 (of_decide_eq_true h)) (fun h => h2 (of_decide_eq_false h))
theorem WR.skip (h : V κ N Q .normal L I) : WR P κ N l m .skip Q L I := fun a w ha hs => wpIn_skip (h a w ha hs)
theorem WR.exit {id : Nat} (h : V κ N Q (.exit id) L I) : WR P κ N l m (.exit id) Q L I := fun a w ha hs => wpIn_exit (h a w ha hs)
def YieldB (P : Program) (κ : Ctx) (l : Nat) (args : List Value) (I : List Item) (Post : Bool → List Item → Prop) : Prop := ∀ w, Sep κ w I → YieldAt Fence.wide 0 P l args.toArray w fun e w' => ∃ b, e = .returned (.bool b) ∧ ∃ J, Post b J ∧ Sep κ w' J
theorem V.roundB {r : Loop} {Post : Bool → List Item → Prop} (J : List Item) (hf : Fit κ I (recI l { r with state := .busy } :: J)) (hp : r.state = .ready ∧ r.pending = none) (hP : Post true (recI l r :: J)) : V κ N (roundPost P l fun e w' => ∃ b, e = .returned (.bool b) ∧ ∃ K, Post b K ∧ Sep κ w' K) .normal L I := fun a w ha hs => by
 have hs' := hf w hs
 have hl := (hs'.ok _ List.mem_cons_self).1
 refine ⟨_, _, run_endRound none hl, true, rfl, ?_⟩
 have e : ({ ({ r with state := .busy } : Loop) with state := if (none : Option Code).isNone then .ready else .done, pending := none } : Loop) = r := by
  obtain ⟨h1, h2⟩ := hp
  cases r; simp_all
 rw [e]
 exact ⟨_, hP, hs'.putRec⟩
theorem V.roundX {r : Loop} {Post : Bool → List Item → Prop} {id : Nat} (J : List Item) (hf : Fit κ I (recI l { r with state := .busy } :: J)) (hP : Post false (recI l { r with state := .done, pending := some (.exit id) } :: J)) : V κ N (roundPost P l fun e w' => ∃ b, e = .returned (.bool b) ∧ ∃ K, Post b K ∧ Sep κ w' K) (.exit id) L I := fun a w ha hs => by
 have hs' := hf w hs
 have hl := (hs'.ok _ List.mem_cons_self).1
 exact ⟨_, _, run_endRound (some (.exit id)) hl, false, rfl, _, hP, hs'.putRec⟩
theorem YieldB.mk {r : Loop} {Post : Bool → List Item → Prop} {args : List Value} {L₁ : Env} (hps : args.length = r.params.size) (hrd : r.state = .ready ∧ r.pending = none) {body : Code} (hb : r.body = body)
  (hassign : ∀ (w : World) (K : Act → World → Prop), (∀ a₁, Ag N a₁ L₁ → K a₁ w) → r.assign.wpIn (Fence.wide.inRound l) 0 P (Exit.then K (fun _ _ _ => False)) { tmps := (r.params.zip args.toArray).foldl (fun t (p, v) => t.setIfInBounds p v) r.tmps, defers := [] } w)
  (hbody : WR P κ N l 0 body (roundPost P l fun e w' => ∃ b, e = .returned (.bool b) ∧ ∃ K, Post b K ∧ Sep κ w' K) L₁ (recI l { r with state := .busy } :: I)) :
  YieldB P κ l args (recI l r :: I) Post := fun w hs => by
 have hl := (hs.ok _ List.mem_cons_self).1
 refine ⟨_, _, _, _, run_yield hl (by simpa using hps), roundIn_of_wpIn trivial ?_⟩
 refine hassign w _ fun a₁ ha => ⟨_, run_beginRound hl hrd.1, ?_⟩
 have h := hbody a₁ _ ha hs.putRec
 rw [← hb] at h
 exact h
theorem fold_two (tm : Array Value) (p q : Tmp) (v u : Value) : (#[p, q].zip [v, u].toArray).foldl (fun t (p, v) => t.setIfInBounds p v) tm = (tm.setIfInBounds p v).setIfInBounds q u := by simp
theorem GY.yieldB {rest : List Oper} {Post : Bool → List Item → Prop} {l dd : Nat} {x : Operand} {xs : List Operand} {vs : List Value} {ats : Array TypeId} {ty : TypeId} {ps : String} {af : Array Edge} {gd : Option (Nat × Bool)}
  (hw : Wanted N ops ⟨some dd, .call { callee := .value x, args := xs.toArray, argTypes := ats }, ty, ps, af, gd⟩ L) (hfv : evalO L x = some (.func (.yield l) #[] #[])) (hx : evalL L xs = some vs) (hN : Nat.blt dd N.n = true) (hy : YieldB P κ l vs I Post)
  (h : ∀ b J, Post b J → GY P κ N ops Q rest ((dd, .bool b) :: L) J) : GY P κ N ops Q (⟨some dd, .call { callee := .value x, args := xs.toArray, argTypes := ats }, ty, ps, af, gd⟩ :: rest) L I := fun a w ha hs => by
 obtain ⟨fn, tmps, assign, body, hyr, hR⟩ := hy w hs
 have he : (execOp a.eval ⟨some dd, .call { callee := .value x, args := xs.toArray, argTypes := ats }, ty, ps, af, gd⟩).run P w = .ok (.round l fn tmps assign body) w := by
  simp only [execOp, resolve, ha.eval hfv, Deferred.ofValue, invoke, Sem.run_bind, Sem.run_pure, Result.andThen_ok, List.map_toArray, ha.evalL hx]
  simpa using hyr
 unfold wpListIn
 rw [if_pos (hw a ha)]
 refine ⟨fun _ _ => trivial, ?_⟩
 simp only [Fence.wide_round, Oper.semAt_none, he, Oper.uponIn]
 refine ⟨fun hd => by simp [Fence.wide] at hd, hR.mono fun e w' ⟨b, h1, J, hP, h2⟩ => ?_⟩
 subst h1
 exact h b J hP _ w' (ha.put dd hN _) h2
theorem GY.pass {o : Oper} {rest : List Oper} {d : Nat} (hw : Unwanted N ops o L) (hd : o.dst = some d) (hN : Nat.blt d N.n = true) (h : GY P κ N ops Q rest ((d, undef) :: L) I) : GY P κ N ops Q (o :: rest) L I :=
 fun a w ha hs => by
  unfold wpListIn
  rw [if_neg (by simp [hw a ha])]
  rw [hd]
  exact ⟨fun _ _ => trivial, h _ w (ha.put d hN _) hs⟩
theorem YieldB.fit {l : Nat} {args : List Value} {Post : Bool → List Item → Prop} (hf : Fit κ I J) (h : YieldB P κ l args J Post) : YieldB P κ l args I Post := fun w hs => h w (hf w hs)
theorem perm_fr {A L T : List Item} : (A ++ (L ++ T)).Perm (L ++ (A ++ T)) := by
 rw [← List.append_assoc, ← List.append_assoc]; exact List.perm_append_comm.append_right T
theorem W.rangeFnB {g : Operand} {ps : Array Tmp} {assign body : Code} {gf : FuncId} {lb : List Value} (hg : evalO L g = some (.func (.func gf) #[] lb.toArray)) (hc : callable P gf = true)
  (h : ∀ (D l : Nat) (r : Loop), (r.state = .ready ∧ r.pending = none) → r.params = ps → r.assign = assign → r.body = body → Ag ⟨N.n, []⟩ { tmps := r.tmps, defers := [] } L →
   CallS P κ gf (.func (.yield l) #[] #[] :: lb) (recI l r :: dfrI D :: I) fun v K =>
    (∃ J, K = recI l r :: dfrI D :: J ∧ V κ ⟨N.n, markD D :: N.ds⟩ Q .normal L (dfrI D :: J)) ∨
    ∃ c J, K = recI l { r with state := .done, pending := some c } :: dfrI D :: J ∧ W P κ ⟨N.n, markD D :: N.ds⟩ c Q L (dfrI D :: J)) :
  W P κ N (.rangeFunc g ps assign body) Q L I := fun a w ha hs => by
 refine (wpIn_wide (n := 0)).1 (wpIn_rangeFunc ?_)
 intro fn _
 obtain ⟨r, hr⟩ : ∃ r : Loop, r = { state := .ready, pending := none, fn, tmps := a.tmps, params := ps, assign, body, defers := w.heap.size } := ⟨_, rfl⟩
 obtain ⟨W1, hW1⟩ : ∃ W1, (w.alloc (.deferred (some []))).alloc (.loop r) = W1 := ⟨_, rfl⟩
 have hD1 : (w.alloc (.deferred (some []))).heap[w.heap.size]? = some (.deferred (some [])) := World.alloc_heap_new w _
 have s1 : Sep κ (w.alloc (.deferred (some []))) (dfrI w.heap.size :: I) := hs.new (hs.alloc _) hD1 fun k hk => by obtain rfl : k = _ := hk; exact ⟨Nat.le_refl _, by simp⟩
 have hL1 : W1.heap[w.heap.size + 1]? = some (.loop r) := by
  rw [← hW1]; have := World.alloc_heap_new (w.alloc (.deferred (some []))) (.loop r); rwa [World.size_alloc] at this
 have s2 : Sep κ W1 (recI (w.heap.size + 1) r :: dfrI w.heap.size :: I) := by
  rw [← hW1]
  exact s1.new (s1.alloc _) (by rw [hW1]; exact hL1) fun k hk => by obtain rfl : k = _ := hk; exact ⟨by simp, by simp⟩
 have hcall := h w.heap.size (w.heap.size + 1) r (by rw [hr]; exact ⟨rfl, rfl⟩) (by rw [hr]) (by rw [hr]) (by rw [hr]) ⟨rfl, by rw [hr]; exact ha.size, by rw [hr]; exact ha.get⟩ W1 s2
 refine ⟨w.heap.size + 1, [markD w.heap.size], W1, { target := .fn (.func gf) lb.toArray, args := #[.func (.yield (w.heap.size + 1)) #[] #[]] }, W1, gf, #[.func (.yield (w.heap.size + 1)) #[] #[]] ++ lb.toArray, W1, ?_, ?_, fun _ _ => trivial, ?_, fun hd => by simp [Fence.wide] at hd, ?_⟩
 ·rw [← hW1, hr]; exact run_enterLoop_outer _ _ _ _ _
 ·simp only [resolve, ha.eval hg]
  simp [go_sem]
 ·simp [invoke, go_sem, run_callFunc hc]
 ·refine callsIn_wide.2 ?_
  have e1 : (#[.func (.yield (w.heap.size + 1)) #[] #[]] ++ lb.toArray : Array Value) = (Value.func (.yield (w.heap.size + 1)) #[] #[] :: lb).toArray := by simp
  rw [e1]
  have hag : ∀ (N' : Frm) (t : Array Value), True → True := fun _ _ _ => trivial
  refine hcall.mono fun e w' ⟨v, K, he, hK, hs'⟩ => ?_
  subst he
  rcases hK with ⟨J, hK, hV⟩ | ⟨c, J, hK, hW⟩
  ·subst hK
   have hl := (hs'.ok _ List.mem_cons_self).1
   have hst : r.state ≠ .busy := by rw [hr]; exact fun h => by cases h
   refine ⟨_, _, run_endLoop hl hst, ?_⟩
   have hp : r.pending = none := by rw [hr]
   rw [hp]
   exact hV _ _ ⟨by show [markD w.heap.size] ++ a.defers = _; rw [ha.defers]; rfl, ha.size, ha.get⟩ hs'.putRec.tail
  ·subst hK
   have hl := (hs'.ok _ List.mem_cons_self).1
   refine ⟨_, _, run_endLoop hl (fun h => by cases h), ?_⟩
   exact wpIn_wide.2 (hW _ _ ⟨by show [markD w.heap.size] ++ a.defers = _; rw [ha.defers]; rfl, ha.size, ha.get⟩ hs'.putRec.tail)
end
end Go.Sl
