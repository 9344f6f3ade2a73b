/- A part of the proofs of statements of this seat: contracts of functions, and the plain laws that they lean on. No conditions. -/
import Derived.Test.YtfkcohmipjhfcaaGreatDoorP18
set_option linter.unusedVariables false
set_option linter.unusedSimpArgs false
set_option linter.unusedSectionVars false
namespace Go.Sl
open Go.Proofs
set_option maxRecDepth 4000
variable {κ : Ctx} {I : List Item}
theorem BestR.frv {nd N D : Int} {es : List Pt} {B : BitVec 64} (h : BestR nd es N D B) (hG : GrOk nd es) : FrV ⟨N, D⟩ := by
 by_cases hn : nd = 0
 ·obtain ⟨h1, h2, _⟩ := h.none (checkG_ok.2 hG) hn
  subst h1 h2
  exact ⟨by decide, by decide, by decide, by decide, by decide⟩
 ·obtain ⟨x, y, hx, hy, e⟩ := (h.some (checkG_ok.2 hG) hn).red
  rw [e]
  exact mkF_val hx.1 om om om
theorem cmpF_ge {x y : Fr} : 0 ≤ cmpF x y ↔ y.num * x.den ≤ x.num * y.den := by unfold cmpF; repeat (first | omega | split)
def densQ (nd : Int) (es : List Pt) (num den : Int) : Prop := if nd = 0 then num ≤ 0 else ∃ W, subN nd W ∧ W ≠ 0#64 ∧ num * cntB W ≤ den * insE W es
theorem BestR.holds {nd N D num den : Int} {es : List Pt} {B : BitVec 64} (h : BestR nd es N D B) (hG : GrOk nd es) (hf : FrV ⟨num, den⟩) : 0 ≤ cmpF ⟨N, D⟩ ⟨num, den⟩ ↔ densQ nd es num den := by
 rw [cmpF_ge]
 unfold densQ
 by_cases hn : nd = 0
 ·obtain ⟨h1, h2, _⟩ := h.none (checkG_ok.2 hG) hn
  subst h1 h2
  rw [if_pos hn]
  show num * 1 ≤ 0 * den ↔ _
  omega
 ·rw [if_neg hn]
  have hd := h.some (checkG_ok.2 hG) hn
  exact hd.dens.reach hd.den.1 hf.d0
theorem densG_frv {nd : Int} {es : List Pt} (hG : GrOk nd es) (set : List Int) : FrV (densG nd es set) := by
 unfold densG
 rw [if_neg (fun h => h (checkG_ok.2 hG))]
 split
 ·exact ⟨by decide, by decide, by decide, by decide, by decide⟩
 ·rename_i hm
  have h1 := insideN_le nd es set
  have h2 := edges_le hG
  have h3 : (meetL set (rangeI nd)).length ≤ 1073741824 := by
   have hl := dens_count (nd := nd) (es := es) set (fun h => h (checkG_ok.2 hG))
   have hb := onesB_bd (maskB set &&& allB nd)
   omega
  exact mkF_val om om om om
theorem coreN_leng {nd : Int} {es : List Pt} (hG : GrOk nd es) : (coreN nd es).length = nd.toNat := by
 unfold coreN
 have hr := hG.rng
 rw [if_neg (fun h => h (checkG_ok.2 hG)), coreL_len, rowsB_len]
 omega
def commG (nd : Int) (es : List Pt) (v lv : Int) : List Int := rchG nd es [v] (coreK nd es lv)
theorem rchG_len (nd : Int) (es : List Pt) (f s : List Int) : (rchG nd es f s).length ≤ 64 := by
 unfold rchG
 split
 ·simp
 ·exact listB_len _
theorem Comm_ok {nd v lv : Int} {ea : Option Addr} {ec : Nat} {es : List Pt} (hl : Sl κ I (.slice ea es.length ec) es) (hG : GrOk nd es) (hv : 0 ≤ v ∧ v < nd) (hT : TabRd κ I 0 tzCells) :
    CallS Tryz.prog κ 59 [.agg #[I64 (nd), .slice ea es.length ec], I64 (v), I64 (lv)] I (fun r J => ∃ a c, r = .tuple #[.slice a (commG nd es v lv).length c, I64 0] ∧ J = vc 3 (.slice a (commG nd es v lv).length c) (commG nd es v lv) :: I) := by
 refine Ce3 Tryz.func59 rfl rfl ?_
 refine Ah (Ge1 (Bd (cs := [_, _]) rfl rfl rfl) fun b1 => Ga rfl (Ga rfl (Af (As (Ah (Gl2 ty48 ?_))))))
 refine Gc0 (Al call83 rfl rfl (CheckGen_ok (Bh hl))) ?_
 refine Ga rfl (Af (Ah (Gm rfl (Gr (Bv rfl rfl) (Af (A7 rfl (fun c14 => ?_) (fun c14 => ?_)))))))
 ·exact absurd (checkG_ok.2 hG) c14
 ·refine A2 (Ak (As (Ah (Gm rfl (Gr (Ba rfl rfl) (Gm rfl (Bk (d := 18) rfl (fun g18 => ?_) (fun g18 => ?_))))))))
  ·omega
  ·refine Gro (Ad rfl) (Gro (Ab fld48_0 rfl) (Gro (Au ty3) ?_))
   refine Gro (Cc rfl rfl) (Gr (Ar rfl rfl) (Af (Aq (S4 23 3 1 2 rfl rfl rfl rfl) (A7 rfl (fun c23 => ?_) (fun c23 => ?_)))))
   ·omega
   ·refine A2 (Ak (Ah (Gl2 ty48 ?_)))
    refine Gm rfl (G.e (Al call109 rfl rfl (CCore_ok (nd := nd) (lv := lv) (Bh hl) (Cb hT A1))) ?_)
    rintro _ _ ⟨_, _, ⟨ad2, cp3, rfl, rfl⟩, rfl, rfl⟩
    refine Gm rfl (Gr (A4 rfl rfl) (Gr (A4 rfl rfl) (Ga rfl (Ga rfl (Af (As (Ah (Gm rfl (Gr (Bv rfl rfl) (Af (Aq (S5 31 10 9 3 1 rfl rfl rfl rfl rfl) (A7 rfl (fun c31 => ?_) (fun c31 => ?_)))))))))))))
    ·exact absurd (checkG_ok.2 hG) c31
    ·refine A2 (Ak (Ah (Gl2 ty48 ?_)))
     refine Gm rfl (Ge1 (B3 (α := Int) (cs := [_]) (xs := [v]) Ac ty3 rfl rfl dc dc rfl rfl rfl rfl) fun ad4 => ?_)
     refine Gm rfl (Gc2 (Al call110 rfl rfl (CReach_ok (nd := nd) (Bh hl) Be Be (Cb hT A1))) fun ad5 cp6 => ?_)
     exact Gr (A4 rfl rfl) (Gr (A4 rfl rfl) (Ga rfl (Ga rfl (Af (Aq (S2 7 6 rfl rfl) (Ay (Cy rfl rfl rfl (vc 3 (.slice ad5 (rchG nd es ([v] : List Int) (coreK nd es lv)).length cp6) (commG nd es v lv) :: I) B4 ⟨ad5, cp6, by rw [checkG_ok.2 hG] <;> rfl, rfl⟩)))))))
theorem Truss1_ok {kd no lv num den : Int} {sa : Option Addr} {n sc b : Nat} (hb : BlkRd κ I b [I64 kd, I64 no, I64 lv, .slice sa n sc, I64 num, I64 den] 42) (t : Int) :
    CallS Tryz.prog κ 151 [I64 (t), .pointer (some ⟨b, 0, none⟩)] I (fun r J => r = .bool (decide (lv ≤ t)) ∧ I = J) := by
 refine Ce2 Tryz.func151 rfl rfl ?_
 exact Ah (Ga rfl (Af (Ah (Gm rfl (Gf fld42_2 rfl (Gr (C1 ty3 rfl (Cw hb A1) rfl) (Gr (Cc rfl rfl) (Ga rfl (Af (Ay (A3 rfl rfl (I) A1 ⟨rfl, rfl⟩)))))))))))
theorem IndexFT_ok {v : Value} {ts : List Int} (hl : Sl κ I v ts) {kd no lv num den : Int} {sa : Option Addr} {n sc b : Nat} (hb : BlkRd κ I b [I64 kd, I64 no, I64 lv, .slice sa n sc, I64 num, I64 den] 42) :
    CallS Tryz.prog κ 223 [v, .func (.func 151) #[] #[.pointer (some ⟨b, 0, none⟩)]] I (fun r J => ∃ y : Int, r = I64 y ∧ (0 ≤ y ↔ ∃ t ∈ ts, lv ≤ t) ∧ I = J) := by
 refine B8 hl.le fun hmax => ?_
 refine Ce2 Tryz.func223 rfl rfl ?_
 refine Ah (Ga rfl (Af (As (Ah (Gm rfl (Gr (Bz (α := Int) (xs := ts) Ac rfl (Bh hl)) (Gm rfl (Af (A0 (Bu (σ := Nat) (fun s => ([(0, v), (1, .func (.func 151) #[] #[.pointer (some ⟨b, 0, none⟩)]), (7, I64 (((ts.length : Nat) : Int))), (8, I64 (((s : Nat) : Int)))] : Env)) (fun s => I) (fun s => (s ≤ ts.length) ∧ (∀ j, j < s → ¬ lv ≤ at_ ts (j : Int))) (fun s => ts.length - s) (0) (show ((0 : Nat) ≤ ts.length) ∧ (∀ j, j < (0 : Nat) → ¬ lv ≤ at_ ts (j : Int)) from ⟨om, all_zero⟩) (Aa rfl (Aa rfl (Aa rfl (Aa Cf Bg)))) (show Fit κ _ (I) from Az) ?_))))))))))
 rintro k hp
 obtain ⟨hk, hn⟩ := hp
 refine Ah (Gr (Ba rfl rfl) (Af (As (A7 rfl (fun c9 => ?_) (fun c9 => ?_)))))
 ·refine A2 (Ak (As (A0 (Ah (Gm rfl (Ga rfl (Af (Ah (Gm rfl (Gm rfl (Gm rfl (Gr (Ax (α := Int) (xs := ts) Ac ty3 rfl rfl (Bh hl) om om) (Gr (Bs (xs := ts) ty3 rfl (Bh hl) om om) (Gc0 (Cu call151 rfl rfl rfl (Truss1_ok (Cw hb A1) (at_ ts (k : Int)))) ?_))))))))))))))
  refine Af (A7 rfl (fun c16 => ?_) (fun c16 => ?_))
  ·exact Ah (Gm rfl (Ga rfl (Af (Aq (S1 4 rfl) (Ay (Ap (Aj (Aj (Ap (Aj (A3 rfl rfl (I) A1 ⟨_, rfl, ⟨fun _ => ⟨_, Ch om om, c16⟩, fun _ => by omega⟩, rfl⟩)))))))))))
  ·exact A2 (Ai (Ak (Av (Gr (Rad rfl rfl) (Gm rfl (Bf (B1 ((k + 1)) ⟨om, (all_succ hn c16)⟩)))))))
 ·exact Br (Am (Am (A6 (Ak (Ah (Ga rfl (Af (Ay (A3 rfl rfl (I) A1 ⟨_, rfl, ⟨fun h => absurd h dc, fun ⟨t, ht, h2⟩ => by obtain ⟨q, hq, e⟩ := mem_atN ht; rw [e] at h2; exact absurd h2 (hn q om)⟩, rfl⟩)))))))))
theorem ContainsFT_ok {v : Value} {ts : List Int} (hl : Sl κ I v ts) {kd no lv num den : Int} {sa : Option Addr} {n sc b : Nat} (hb : BlkRd κ I b [I64 kd, I64 no, I64 lv, .slice sa n sc, I64 num, I64 den] 42) :
    CallS Tryz.prog κ 150 [v, .func (.func 151) #[] #[.pointer (some ⟨b, 0, none⟩)]] I (fun r J => r = .bool (decide (∃ t ∈ ts, lv ≤ t)) ∧ I = J) := by
 refine Ce2 Tryz.func150 rfl rfl ?_
 refine Ah (Ga rfl (Af (Ah (Gm rfl (Gm rfl (G.e (Al call223 rfl rfl (IndexFT_ok (Bh hl) (Cw hb A1))) ?_))))))
 rintro _ _ ⟨_, _, ⟨y1, rfl, hy1, rfl⟩, rfl, rfl⟩
 exact Gr (Cc rfl rfl) (Ga rfl (Af (Ay (A3 rfl rfl (I) A1 ⟨by rw [decide_eq_decide.2 asm], rfl⟩))))
set_option maxHeartbeats 1000000 in
theorem Hold1_ok {nd : Int} {ea sa : Option Addr} {ec sc : Nat} {es : List Pt} {xs : List Int} (hl : Sl κ I (.slice ea es.length ec) es) (hs : Sl κ I (.slice sa xs.length sc) xs) (hG : GrOk nd es) {no lv : Int} (hno : 0 ≤ no ∧ no < nd) (hT : TabRd κ I 0 tzCells) :
    CallS Tryz.prog κ 144 [.agg #[I64 (nd), .slice ea es.length ec], .agg #[I64 (1), I64 (no), I64 (lv), .slice sa xs.length sc, I64 (0), I64 (0)]] I (fun r J => ∃ t : Bool, r = .bool t ∧ (t = true ↔ lv ≤ at_ (coreN nd es) no) ∧ I = J) := by
 have hcn := coreN_leng hG
 have hrng := hG.rng
 refine Ce2 Tryz.func144 rfl rfl ?_
 refine Ah (Ge1 (Bd (cs := [_, _]) rfl rfl rfl) fun b1 => Ge1 (Bd (cs := [_, _, _, _, _, _]) rfl rfl rfl) fun b2 => Ga rfl (Af (Ah (Gl2 ty48 ?_))))
 refine Gc2 (Al call104 rfl rfl (CNumbers_ok (nd := nd) (Bh hl) (Cb hT A1))) fun ad3 cp4 => ?_
 refine Gm rfl (Gr (A4 rfl rfl) (Gr (A4 rfl rfl) (Ga rfl (Ga rfl (Af (As (Bj mixed (Bm (vc 3 (.slice ad3 (coreN nd es).length cp4) (coreN nd es) :: blk b2 [I64 (1), I64 (no), I64 (lv), .slice sa xs.length sc, I64 (0), I64 (0)] 42 :: blk b1 [I64 (nd), .slice ea es.length ec] 48 :: I) 13 (Dr 0 rfl (Ad rfl) (Dr 1 rfl (Bi rfl rfl) (Dr 2 rfl (Ad rfl) (C4 (d := 14) rfl (fun g14 => ?_) (fun g14 => ?_)))))))))))))
 ·refine Dro 3 rfl (Ad rfl) (Dro 4 rfl (Ab fld42_1 rfl) (Dro 5 rfl (Au ty3) ?_))
  refine Dro 6 rfl (Ax (α := Int) (xs := coreN nd es) Ac ty3 rfl rfl Be om om) (Dro 7 rfl (Bs (xs := coreN nd es) ty3 rfl Be om om) (Dro 8 rfl (Ab fld42_2 rfl) (Dro 9 rfl (Au ty3) ?_)))
  exact Dro 10 rfl (Cc rfl rfl) (Dr 11 rfl (Ao rfl rfl) (Dr 12 rfl (A9 rfl) (Dz (Ak (Aq (S1 4 rfl) (Ay (A3 rfl rfl (I) A1 ⟨decide (lv ≤ (at_ (coreN nd es) no)), rfl, by rw [decide_eq_true_iff], rfl⟩)))))))
 ·exact absurd (checkG_ok.2 hG) g14
set_option maxHeartbeats 1000000 in
theorem Hold2_ok {nd : Int} {ea sa : Option Addr} {ec sc : Nat} {es : List Pt} {xs : List Int} (hl : Sl κ I (.slice ea es.length ec) es) (hs : Sl κ I (.slice sa xs.length sc) xs) (hG : GrOk nd es) {num den : Int} (hf : FrV ⟨num, den⟩) (hT : TabRd κ I 0 tzCells) :
    CallS Tryz.prog κ 145 [.agg #[I64 (nd), .slice ea es.length ec], .agg #[I64 (2), I64 (0), I64 (0), .slice sa xs.length sc, I64 (num), I64 (den)]] I (fun r J => ∃ t : Bool, r = .bool t ∧ (t = true ↔ densQ nd es num den) ∧ I = J) := by
 refine Ce2 Tryz.func145 rfl rfl ?_
 refine Ah (Ge1 (Bd (cs := [_, _]) rfl rfl rfl) fun b1 => Ge1 (Bd (cs := [_, _, _, _, _, _]) rfl rfl rfl) fun b2 => Ga rfl (Af (Ah (Gl2 ty48 ?_))))
 refine G.e (Al call100 rfl rfl (BestD_ok (nd := nd) (Bh hl) (Cb hT A1))) ?_
 rintro _ _ ⟨_, _, ⟨ad3, cp4, Bqq7, ad5, cp6, ptq7, Nqq7, Dqq7, Eqq7, rfl, hBR, rfl⟩, rfl, rfl⟩
 have hfv := hBR.frv hG
 refine Gm rfl (Gr (A4 rfl rfl) (Gr (A4 rfl rfl) (Ge1 (A8 ty102 rfl) fun b8 => Ge0 (Eh ty102) ?_)))
 refine Ga rfl (Af (Ah (Gm rfl (Gr (Bi rfl rfl) (Gm rfl (Bk (d := 14) rfl (fun g14 => ?_) (fun g14 => ?_)))))))
 ·refine Gro (Ab fld102_1 rfl) (Gro (Bq (vs := [_, _]) ty40) ?_)
  refine Gro (Ab fld42_4 rfl) (Gro (Bq (vs := [_, _]) ty40) ?_)
  refine D6 (Cp rfl rfl rfl) (Al call101 rfl rfl (RatCmp_ok (⟨Nqq7, Dqq7⟩ : Fr) (⟨num, den⟩ : Fr) asm asm)) ?_
  rintro _ _ ⟨_, _, ⟨rfl, rfl⟩, rfl, rfl⟩
  exact Gro (Cc rfl rfl) (Gr (Ao rfl rfl) (Ga rfl (Af (Aq (S1 4 rfl) (Ay (A3 rfl rfl (I) A1 ⟨decide (0 ≤ (cmpF (⟨Nqq7, Dqq7⟩ : Fr) (⟨num, den⟩ : Fr))), rfl, by rw [decide_eq_true_iff]; exact hBR.holds hG hf, rfl⟩))))))
 ·exact absurd (checkG_ok.2 hG) g14
set_option maxHeartbeats 1000000 in
theorem Hold3_ok {nd : Int} {ea sa : Option Addr} {ec sc : Nat} {es : List Pt} {xs : List Int} (hl : Sl κ I (.slice ea es.length ec) es) (hs : Sl κ I (.slice sa xs.length sc) xs) (hG : GrOk nd es) {num den : Int} (hx : 0 < xs.length ∧ xs.length ≤ 64) (hval : ValidP xs nd) (hf : FrV ⟨num, den⟩) (hT : TabRd κ I 0 tzCells) :
    CallS Tryz.prog κ 146 [.agg #[I64 (nd), .slice ea es.length ec], .agg #[I64 (3), I64 (0), I64 (0), .slice sa xs.length sc, I64 (num), I64 (den)]] I (fun r J => ∃ t : Bool, r = .bool t ∧ (t = true ↔ 0 ≤ cmpF (densG nd es xs) ⟨num, den⟩) ∧ I = J) := by
 refine Ce2 Tryz.func146 rfl rfl ?_
 refine Ah (Ge1 (Bd (cs := [_, _]) rfl rfl rfl) fun b1 => Ge1 (Bd (cs := [_, _, _, _, _, _]) rfl rfl rfl) fun b2 => Ga rfl (Af (Ah (Gl2 ty48 ?_))))
 refine Gf fld42_3 rfl (Gl ty22 ?_)
 refine Gc0 (Al call147 rfl rfl (DensityG_ok (nd := nd) (Bh hl) (Bh hs) (by have := edges_le hG; omega))) ?_
 refine Gm rfl (Gr (A4 rfl rfl) (Gr (A4 rfl rfl) (Ge1 (A8 ty40 rfl) fun b3 => Ge0 (Cr ty40) ?_)))
 refine Ga rfl (Af (Aq (S3 6 5 3 rfl rfl rfl) (Ah (Gm rfl (Gr (Bi rfl rfl) (Gm rfl (Bk (d := 16) rfl (fun g16 => ?_) (fun g16 => ?_))))))))
 ·refine Gro (Bq (vs := [_, _]) ty40) ?_
  refine Gro (Ab fld42_4 rfl) (Gro (Bq (vs := [_, _]) ty40) ?_)
  refine D6 (Cp rfl rfl rfl) (Al call101 rfl rfl (RatCmp_ok (densG nd es xs) (⟨num, den⟩ : Fr) (densG_frv hG xs) asm)) ?_
  rintro _ _ ⟨_, _, ⟨rfl, rfl⟩, rfl, rfl⟩
  exact Gro (Cc rfl rfl) (Gr (Ao rfl rfl) (Ga rfl (Af (Aq (S1 4 rfl) (Ay (A3 rfl rfl (I) A1 ⟨decide (0 ≤ (cmpF (densG nd es xs) (⟨num, den⟩ : Fr))), rfl, by rw [decide_eq_true_iff], rfl⟩))))))
 ·exact absurd (checkG_ok.2 hG) g16
set_option maxHeartbeats 1000000 in
theorem Hold4_ok {nd : Int} {ea sa : Option Addr} {ec sc : Nat} {es : List Pt} {xs : List Int} (hl : Sl κ I (.slice ea es.length ec) es) (hs : Sl κ I (.slice sa xs.length sc) xs) (hG : GrOk nd es) {lv : Int}  (hT : TabRd κ I 0 tzCells) :
    CallS Tryz.prog κ 148 [.agg #[I64 (nd), .slice ea es.length ec], .agg #[I64 (4), I64 (0), I64 (lv), .slice sa xs.length sc, I64 (0), I64 (0)]] I (fun r J => ∃ t : Bool, r = .bool t ∧ (t = true ↔ ∃ t ∈ trussG nd es, lv ≤ t) ∧ I = J) := by
 have hbE : es.length ≤ 1000000 := by have := edges_le hG; omega
 refine Ce2 Tryz.func148 rfl rfl ?_
 refine Ah (Ge1 (Bd (cs := [_, _]) rfl rfl rfl) fun b1 => Ge1 (Bd (cs := [_, _, _, _, _, _]) rfl rfl rfl) fun b2 => Ga rfl (Af (Ah (Gl2 ty48 ?_))))
 refine G.e (Al call149 rfl rfl (TNumbers_ok (nd := nd) (Bh hl) om (Cb hT A1))) ?_
 rintro _ _ ⟨_, _, ⟨ad3, cp4, rfl, rfl⟩, rfl, rfl⟩
 refine Gm rfl (Gr (A4 rfl rfl) (Gr (A4 rfl rfl) (Ga rfl (Ga rfl (Af (Ah (Gm rfl (Gr (Bi rfl rfl) (Gm rfl (Bk (d := 14) rfl (fun g14 => ?_) (fun g14 => ?_)))))))))))
 ·refine Gro (Ad rfl) (Gro (Dx rfl rfl) (D6 (Cp rfl rfl rfl) (Al call150 rfl rfl (ContainsFT_ok Be (De mm))) ?_))
  rintro _ _ ⟨_, _, ⟨rfl, rfl⟩, rfl, rfl⟩
  exact Gr (Ao rfl rfl) (Ga rfl (Af (Aq (S1 4 rfl) (Ay (A3 rfl rfl (I) A1 ⟨decide (∃ t ∈ (trussG nd es), lv ≤ t), rfl, by rw [decide_eq_true_iff], rfl⟩)))))
 ·exact absurd (checkG_ok.2 hG) g14
set_option maxHeartbeats 1000000 in
theorem Hold5_ok {nd : Int} {ea sa : Option Addr} {ec sc : Nat} {es : List Pt} {xs : List Int} (hl : Sl κ I (.slice ea es.length ec) es) (hs : Sl κ I (.slice sa xs.length sc) xs) (hG : GrOk nd es) {lv : Int} (hx : 0 < xs.length ∧ xs.length ≤ 64) (hval : ValidP xs nd) (hT : TabRd κ I 0 tzCells) :
    CallS Tryz.prog κ 152 [.agg #[I64 (nd), .slice ea es.length ec], .agg #[I64 (5), I64 (0), I64 (lv), .slice sa xs.length sc, I64 (0), I64 (0)]] I (fun r J => ∃ t : Bool, r = .bool t ∧ (t = true ↔ ∀ x ∈ xs, x ∈ commG nd es (at_ xs 0) lv) ∧ I = J) := by
 refine Ce2 Tryz.func152 rfl rfl ?_
 refine Ah (Ge1 (Bd (cs := [_, _]) rfl rfl rfl) fun b1 => Ge1 (Bd (cs := [_, _, _, _, _, _]) rfl rfl rfl) fun b2 => Ga rfl (Af (As (Bj mixed (Bm (blk b2 [I64 (5), I64 (0), I64 (lv), .slice sa xs.length sc, I64 (0), I64 (0)] 42 :: blk b1 [I64 (nd), .slice ea es.length ec] 48 :: I) 13 (Dr 0 rfl (Bq (vs := [_, _]) ty48) ?_))))))
 refine Dr 1 rfl (Ab fld42_3 rfl) (Dr 2 rfl (Au ty22) ?_)
 refine Dr 3 rfl (Ax (α := Int) (xs := xs) Ac ty3 rfl rfl (Bh hs) om om) (Dr 4 rfl (Bs (xs := xs) ty3 rfl (Bh hs) om om) (Dr 5 rfl (Ab fld42_2 rfl) (Dr 6 rfl (Au ty3) ?_)))
 refine Ds1 7 (Se rfl (Al call59 rfl rfl (Comm_ok (nd := nd) (v := at_ xs 0) (lv := lv) (Bh hl) hG (by have h := (hval 0 om).1; exact h) (Cb hT A1))) ?_)
 rintro _ _ ⟨_, _, ⟨ad3, cp4, rfl, rfl⟩, rfl, rfl⟩
 refine ⟨Az, ?_⟩
 refine Dr 8 rfl (Ad rfl) (Dr 9 rfl (A4 rfl rfl) (Dr 10 rfl (A4 rfl rfl) (Dr 11 rfl (A9 rfl) (Dr 12 rfl (A9 rfl) (Dz (Ak (Aq (S3 6 5 3 rfl rfl rfl) (Ah (Gm rfl (Gr (Bi rfl rfl) (Gm rfl (Bk (d := 20) rfl (fun g20 => ?_) (fun g20 => ?_)))))))))))))
 ·refine Gro (Ab fld42_3 rfl) (Gro (Au ty22) ?_)
  refine Gro (Ad rfl) (D6 (Cp rfl rfl rfl) (Al call102 rfl rfl (WithinI_ok (Bh hs) Be om (by have := rchG_len nd es [at_ xs 0] (coreK nd es lv); show (rchG _ _ _ _).length ≤ _; omega))) ?_)
  rintro _ _ ⟨_, _, ⟨rfl, rfl⟩, rfl, rfl⟩
  exact Gr (Ao rfl rfl) (Ga rfl (Af (Ay (A3 rfl rfl (I) A1 ⟨decide (∀ x ∈ xs, x ∈ (commG nd es (at_ xs 0) lv)), rfl, by rw [decide_eq_true_iff], rfl⟩))))
 ·exact absurd rfl g20
end Go.Sl
namespace Go.Sl
structure Rg where
 tm : Int
 al : Int
 on : Bool
deriving DecidableEq
instance : Inhabited Rg := ⟨⟨0, 0, false⟩⟩
def ring1 (t : Int) (h : Nat → Bool) (st : List Bool × List Rg) (i : Nat) : List Bool × List Rg := if h i = at_ st.1 (i : Int) then st else (st.1.set i (h i), st.2 ++ [⟨t, (i : Int), h i⟩])
def ringK (t : Int) (h : Nat → Bool) (k : Nat) (st : List Bool × List Rg) : List Bool × List Rg := (List.range k).foldl (ring1 t h) st
def ringS (H : Int → Nat → Bool) (n : Nat) (ts : List Int) : List Bool × List Rg := ts.foldl (fun st t => ringK t (H t) n st) (List.replicate n false, [])
theorem ringK_succ (t : Int) (h : Nat → Bool) (k : Nat) (st : List Bool × List Rg) : ringK t h (k + 1) st = ring1 t h (ringK t h k st) k := by
 unfold ringK; rw [List.range_succ, List.foldl_append]; rfl
theorem ringS_take {H : Int → Nat → Bool} {n : Nat} {ts : List Int} {k : Nat} (hk : k < ts.length) : ringS H n (ts.take (k + 1)) = ringK (at_ ts (k : Int)) (H (at_ ts (k : Int))) n (ringS H n (ts.take k)) := by
 unfold ringS; rw [take_at ts k hk, List.foldl_append]; rfl
def relR (p : Nat → Bool) (t : Int) (h : Nat → Bool) (n : Nat) : List Rg := ((List.range n).filter fun (i : Nat) => h i != p i).map fun (i : Nat) => (⟨t, (i : Int), h i⟩ : Rg)
def relA (H : Int → Nat → Bool) (n : Nat) : (Nat → Bool) → List Int → List Rg
 | _, [] => []
 | p, t :: ts => relR p t (H t) n ++ relA H n (H t) ts
theorem ringK_eq (t : Int) (h : Nat → Bool) {n : Nat} {on : List Bool} {out : List Rg} (hl : on.length = n) {p : Nat → Bool} (hp : ∀ i, i < n → at_ on (i : Int) = p i) : ∀ k, k ≤ n →
  (ringK t h k (on, out)).1.length = n ∧ (∀ i, i < n → at_ (ringK t h k (on, out)).1 (i : Int) = if i < k then h i else p i) ∧ (ringK t h k (on, out)).2 = out ++ relR p t h k
 | 0, _ => ⟨hl, fun i hi => by rw [if_neg (by omega)]; exact hp i hi, by simp [ringK, relR]⟩
 | k + 1, hk => by
  obtain ⟨h1, h2, h3⟩ := ringK_eq t h (out := out) hl hp k (by omega)
  have h2k := h2 k (by omega)
  rw [if_neg (by omega)] at h2k
  rw [ringK_succ]
  unfold ring1
  have hr : relR p t h (k + 1) = relR p t h k ++ if h k != p k then [⟨t, (k : Int), h k⟩] else [] := by
   unfold relR
   rw [List.range_succ, List.filter_append, List.map_append]
   congr 1
   cases hc : (h k != p k) <;> simp [List.filter_cons, hc]
  by_cases he : h k = at_ (ringK t h k (on, out)).1 (k : Int)
  ·rw [if_pos he]
   rw [h2k] at he
   refine ⟨h1, fun i hi => ?_, ?_⟩
   ·rw [h2 i hi]
    by_cases hik : i = k
    ·subst hik; rw [if_neg (by omega), if_pos (by omega)]; exact he.symm
    ·by_cases hlt : i < k
     ·rw [if_pos hlt, if_pos (by omega)]
     ·rw [if_neg hlt, if_neg (by omega)]
   ·rw [h3, hr, he]; simp
  ·rw [if_neg he]
   rw [h2k] at he
   refine ⟨by rw [List.length_set]; exact h1, fun i hi => ?_, ?_⟩
   ·show at_ ((ringK t h k (on, out)).1.set k (h k)) (i : Int) = _
    rw [at_setn _ _ _ _ (by rw [h1]; omega)]
    by_cases hik : k = i
    ·subst hik; rw [if_pos rfl, if_pos (by omega)]
    ·rw [if_neg hik, h2 i hi]
     by_cases hlt : i < k
     ·rw [if_pos hlt, if_pos (by omega)]
     ·rw [if_neg hlt, if_neg (by omega)]
   ·show (ringK t h k (on, out)).2 ++ _ = _
    rw [h3, hr, List.append_assoc]
    have hb : (h k != p k) = true := by simpa using he
    rw [if_pos hb]
theorem ringS_from (H : Int → Nat → Bool) (n : Nat) : ∀ (ts : List Int) (on : List Bool) (out : List Rg) (p : Nat → Bool), on.length = n → (∀ i, i < n → at_ on (i : Int) = p i) → (ts.foldl (fun st t => ringK t (H t) n st) (on, out)).2 = out ++ relA H n p ts
 | [], on, out, p, _, _ => by simp [relA]
 | t :: ts, on, out, p, hl, hp => by
  obtain ⟨h1, h2, h3⟩ := ringK_eq t (H t) (out := out) hl hp n (Nat.le_refl _)
  rw [List.foldl_cons]
  have h4 := ringS_from H n ts (ringK t (H t) n (on, out)).1 (ringK t (H t) n (on, out)).2 (H t) h1 fun i hi => by rw [h2 i hi, if_pos hi]
  rw [Prod.eta] at h4
  rw [h4, h3, List.append_assoc]; rfl
theorem ringS_eq (H : Int → Nat → Bool) (n : Nat) (ts : List Int) : (ringS H n ts).2 = relA H n (fun _ => false) ts := by
 unfold ringS
 rw [ringS_from H n ts _ [] (fun _ => false) List.length_replicate fun i hi => at_rep _ _ _ (by omega) (by omega)]; rfl
theorem relR_one (p : Nat → Bool) (t : Int) (h : Nat → Bool) : relR p t h 1 = if h 0 != p 0 then [⟨t, 0, h 0⟩] else [] := by
 unfold relR
 cases hc : (h 0 != p 0) <;> simp [List.filter_cons, hc]
theorem relR_own (p : Nat → Bool) (t : Int) (h : Nat → Bool) {n i : Nat} (hi : i < n) : ((relR p t h n).filter fun r => decide (r.al = (i : Int))).map (fun r => (⟨r.tm, 0, r.on⟩ : Rg)) = relR (fun _ => p i) t (fun _ => h i) 1 := by
 rw [relR_one]
 unfold relR
 rw [List.filter_map, List.filter_filter, List.map_map]
 have e : (List.range n).filter (fun a => ((fun r : Rg => decide (r.al = (i : Int))) ∘ fun (j : Nat) => (⟨t, (j : Int), h j⟩ : Rg)) a && (h a != p a)) = if h i != p i then [i] else [] := by
  have hf : (fun a => ((fun r : Rg => decide (r.al = (i : Int))) ∘ fun (j : Nat) => (⟨t, (j : Int), h j⟩ : Rg)) a && (h a != p a)) = fun a => decide (a = i) && (h i != p i) := by
   funext a
   show (decide ((a : Int) = (i : Int)) && (h a != p a)) = _
   by_cases ha : a = i
   ·subst ha; simp
   ·rw [decide_eq_false (show ¬ (a : Int) = (i : Int) by omega), decide_eq_false ha]; rfl
  rw [hf]
  cases hc : (h i != p i)
  ·simp
  ·have : ∀ m, ((List.range m).filter fun a => decide (a = i)) = if i < m then [i] else [] := fun m => by
    induction m with
    | zero => rfl
    | succ m ih =>
     rw [List.range_succ, List.filter_append, ih]
     by_cases h1 : m = i
     ·subst h1; rw [if_neg (Nat.lt_irrefl _), if_pos (Nat.lt_succ_self _)]; simp [List.filter_cons]
     ·by_cases h2 : i < m
      ·rw [if_pos h2, if_pos (by omega)]; simp [List.filter_cons, h1]
      ·rw [if_neg h2, if_neg (by omega)]; simp [List.filter_cons, h1]
   simp only [Bool.and_true]
   rw [this, if_pos hi]; rfl
 rw [e]
 cases hc : (h i != p i) <;> simp
theorem relA_own (H : Int → Nat → Bool) {n i : Nat} (hi : i < n) : ∀ (ts : List Int) (p : Nat → Bool), ((relA H n p ts).filter fun r => decide (r.al = (i : Int))).map (fun r => (⟨r.tm, 0, r.on⟩ : Rg)) = relA (fun t _ => H t i) 1 (fun _ => p i) ts
 | [], p => rfl
 | t :: ts, p => by
  simp only [relA]
  rw [List.filter_append, List.map_append, relR_own p t (H t) hi, relA_own H hi ts]
def Rg.lt (a b : Rg) : Prop := a.tm < b.tm ∨ (a.tm = b.tm ∧ a.al < b.al)
theorem mem_relR {p : Nat → Bool} {t : Int} {h : Nat → Bool} {n : Nat} {r : Rg} : r ∈ relR p t h n ↔ ∃ i, i < n ∧ (h i != p i) = true ∧ r = ⟨t, (i : Int), h i⟩ := by
 unfold relR
 rw [List.mem_map]
 constructor
 ·rintro ⟨i, hi, rfl⟩
  have := List.mem_filter.1 hi
  exact ⟨i, List.mem_range.1 this.1, this.2, rfl⟩
 ·rintro ⟨i, h1, h2, rfl⟩
  exact ⟨i, List.mem_filter.2 ⟨List.mem_range.2 h1, h2⟩, rfl⟩
theorem relA_time (H : Int → Nat → Bool) (n : Nat) : ∀ (ts : List Int) (p : Nat → Bool), ∀ r ∈ relA H n p ts, r.tm ∈ ts ∧ 0 ≤ r.al ∧ r.al < n
 | [], p, r, hr => by cases hr
 | t :: ts, p, r, hr => by
  rcases List.mem_append.1 hr with hr | hr
  ·obtain ⟨i, hi, _, rfl⟩ := mem_relR.1 hr
   exact ⟨List.mem_cons_self, by show (0 : Int) ≤ (i : Int); omega, by show (i : Int) < n; omega⟩
  ·obtain ⟨h1, h2⟩ := relA_time H n ts _ r hr
   exact ⟨List.mem_cons_of_mem _ h1, h2⟩
theorem relA_lt (H : Int → Nat → Bool) (n : Nat) : ∀ (ts : List Int) (p : Nat → Bool), ts.Pairwise (· < ·) → (relA H n p ts).Pairwise Rg.lt
 | [], p, _ => List.Pairwise.nil
 | t :: ts, p, hts => by
  obtain ⟨ht, hts'⟩ := List.pairwise_cons.1 hts
  refine List.pairwise_append.2 ⟨?_, relA_lt H n ts _ hts', fun a ha b hb => ?_⟩
  ·unfold relR
   refine List.Pairwise.map _ (fun a b h => ?_) ((List.pairwise_lt_range).sublist List.filter_sublist)
   exact .inr ⟨rfl, by show (a : Int) < (b : Int); omega⟩
  ·obtain ⟨i, _, _, rfl⟩ := mem_relR.1 ha
   have := (relA_time H n ts _ b hb).1
   exact .inl (ht _ this)
def turns : Bool → List Rg → Prop
 | _, [] => True
 | b, r :: rs => r.on = b ∧ turns (!b) rs
theorem relA_turns (g : Int → Bool) : ∀ (ts : List Int) (b : Bool), turns (!b) (relA (fun t _ => g t) 1 (fun _ => b) ts)
 | [], b => trivial
 | t :: ts, b => by
  simp only [relA]
  rw [relR_one]
  by_cases h : g t = b
  ·rw [if_neg (by simp [h]), List.nil_append, h]
   exact relA_turns g ts b
  ·have hb : g t = !b := by cases hg : g t <;> cases b <;> simp_all
   rw [if_pos (by simpa using h)]
   refine ⟨hb, ?_⟩
   have := relA_turns g ts (g t)
   rw [hb] at this ⊢
   simpa using this
theorem turns_at : ∀ {rs : List Rg} {b : Bool}, turns b rs → ∀ k : Nat, k < rs.length → (at_ rs (k : Int)).on = if k % 2 = 0 then b else !b
 | [], b, _, k, hk => by simp at hk
 | r :: rs, b, h, 0, _ => h.1
 | r :: rs, b, h, k + 1, hk => by
  have h1 := turns_at h.2 k (by simpa using hk)
  have e : at_ (r :: rs) ((k + 1 : Nat) : Int) = at_ rs (k : Int) := by rw [at_nat, at_nat]; rfl
  rw [e, h1]
  by_cases h2 : k % 2 = 0
  ·rw [if_pos h2, if_neg (by omega)]
  ·rw [if_neg h2, if_pos (by omega)]; simp
end Go.Sl
namespace Go.Sl
open Go.Proofs
set_option maxRecDepth 4000
structure AlV where
 kd : Int
 no : Int
 lv : Int
 a : Option Addr
 c : Nat
 xs : List Int
 num : Int
 den : Int
instance : Inhabited AlV := ⟨⟨0, 0, 0, none, 0, [], 0, 0⟩⟩
instance : Enc AlV := ⟨fun r => [I64 r.kd, I64 r.no, I64 r.lv, .slice r.a r.xs.length r.c, I64 r.num, I64 r.den], 6, by omega, fun _ => rfl, fun r u hu => by
 simp only [List.mem_cons, List.not_mem_nil, or_false] at hu
 rcases hu with rfl | rfl | rfl | rfl | rfl | rfl <;> rfl⟩
def AlV.cells (x : AlV) : Value := .agg #[I64 x.kd, I64 x.no, I64 x.lv, .slice x.a x.xs.length x.c, I64 x.num, I64 x.den]
structure AlOk (n : Int) (x : AlV) : Prop where
 kind : 1 ≤ x.kd ∧ x.kd ≤ 5
 k1 : x.kd = 1 → (0 ≤ x.no ∧ x.no < n) ∧ (0 ≤ x.lv ∧ x.lv ≤ 64) ∧ x.xs = [] ∧ x.num = 0 ∧ x.den = 0
 k2 : x.kd = 2 → x.no = 0 ∧ x.lv = 0 ∧ x.xs = [] ∧ FrV ⟨x.num, x.den⟩
 k3 : x.kd = 3 → x.no = 0 ∧ x.lv = 0 ∧ (0 < x.xs.length ∧ x.xs.length ≤ 64) ∧ ValidP x.xs n ∧ FrV ⟨x.num, x.den⟩
 k4 : x.kd = 4 → x.no = 0 ∧ (0 ≤ x.lv ∧ x.lv ≤ 64) ∧ x.xs = [] ∧ x.num = 0 ∧ x.den = 0
 k5 : x.kd = 5 → x.no = 0 ∧ (0 ≤ x.lv ∧ x.lv ≤ 64) ∧ (0 < x.xs.length ∧ x.xs.length ≤ 64) ∧ ValidP x.xs n ∧ x.num = 0 ∧ x.den = 0
def condP (nd : Int) (es : List Pt) (x : AlV) : Prop :=
 if x.kd = 1 then x.lv ≤ at_ (coreN nd es) x.no else if x.kd = 2 then densQ nd es x.num x.den else if x.kd = 3 then 0 ≤ cmpF (densG nd es x.xs) ⟨x.num, x.den⟩
 else if x.kd = 4 then ∃ t ∈ trussG nd es, x.lv ≤ t else ∀ y ∈ x.xs, y ∈ commG nd es (at_ x.xs 0) x.lv
noncomputable def holdV (nd : Int) (es : List Pt) (x : AlV) : Bool := @decide (condP nd es x) (Classical.propDecidable _)
theorem holdV_iff (nd : Int) (es : List Pt) (x : AlV) : holdV nd es x = true ↔ condP nd es x := by unfold holdV; exact @decide_eq_true_iff _ (Classical.propDecidable _)
def fK (kd : Int) : FuncId := if kd = 1 then 144 else if kd = 2 then 145 else if kd = 3 then 146 else if kd = 4 then 148 else 152
def kindV (kd : Int) : Value := .agg #[.bool (decide (kd = 1)), .bool (decide (kd = 1 ∨ kd = 4 ∨ kd = 5)), .bool (decide (kd = 3 ∨ kd = 5)), .bool (decide (kd = 2 ∨ kd = 3)), .func (.func (fK kd)) #[] #[]]
theorem fieldK (a b c d f : Value) (w : World) : (Instr.field 132 (.agg #[a, b, c, d, f]) 4).run Tryz.prog w = .ok f w := by kernel_rfl
theorem fK_call {kd : Int} (h : 1 ≤ kd ∧ kd ≤ 5) : callable Tryz.prog (fK kd) = true := by
 obtain h | h | h | h | h : kd = 1 ∨ kd = 2 ∨ kd = 3 ∨ kd = 4 ∨ kd = 5 := by omega
 all_goals subst h
 ·exact call144
 ·exact call145
 ·exact call146
 ·exact call148
 ·exact call152
section
variable {P : Program} {κ : Ctx} {N : Frm} {L : Env} {J : List Item} {d : Option Tmp} {ty : TypeId} {ps : String} {af : Array Edge} {gd : Option (Nat × Bool)}
theorem Runs.eqFn {x y : Operand} {T U : TypeId} {f : FuncId} (hT : ∀ w : World, (binOp .eql T (.func (.func f) #[] #[]) .nilFunc).run P w = .ok (.bool false) w) (hx : evalO L x = some (.func (.func f) #[] #[])) (hy : evalO L y = some .nilFunc) :
  Runs P κ N ⟨d, .binOp .eql T x y U, ty, ps, af, gd⟩ L J (.bool false) := fun a w ha _ => by
 have hg : (eqGuard .eql T x y (.func (.func f) #[] #[]) .nilFunc).run P w = .ok () w := by simp [eqGuard]
 simp only [execOp, ha.eval hx, ha.eval hy]
 simp [hg, hT w]
theorem Runs.fieldV {x : Operand} {T : TypeId} {k : Nat} {v u : Value} (hT : ∀ w : World, (Instr.field T v k).run P w = .ok u w) (hx : evalO L x = some v) : Runs P κ N ⟨d, .field T x k, ty, ps, af, gd⟩ L J u := fun a w ha _ => by
 simp only [execOp, ha.eval hx]
 simp [hT w]
end
theorem Of1_ok {κ : Ctx} {I : List Item}  :
    CallS Tryz.prog κ 81 [I64 (1)] I (fun r J => r = .agg #[.bool true, .bool true, .bool false, .bool false, .func (.func 144) #[] #[]] ∧ I = J) := by
 refine Ce1 Tryz.func81 rfl rfl ?_
 refine Ah (Ge1 (A8 ty132 rfl) fun b1 => Af (As (Ah (Gm rfl (Af (A0 (Ah (Gr (Bi rfl rfl) (Ga rfl (Af (A7 rfl (fun c4 => ?_) (fun c4 => ?_))))))))))))
 ·refine Ah (Gr (Bb (cells := [_, _, _, _, _]) ty132 D2 pl132 rfl rfl) (Ge0 (Eh ty132) ?_))
  exact Af (Ay (Ap (Aj (Dg rfl ty132 rfl mm rfl (I) A1 ⟨rfl, rfl⟩))))
 ·exact absurd rfl c4
theorem Of2_ok {κ : Ctx} {I : List Item}  :
    CallS Tryz.prog κ 81 [I64 (2)] I (fun r J => r = .agg #[.bool false, .bool false, .bool false, .bool true, .func (.func 145) #[] #[]] ∧ I = J) := by
 refine Ce1 Tryz.func81 rfl rfl ?_
 refine Ah (Ge1 (A8 ty132 rfl) fun b1 => Af (As (Ah (Gm rfl (Af (A0 (Ah (Gr (Bi rfl rfl) (Ga rfl (Af (A7 rfl (fun c4 => ?_) (fun c4 => ?_))))))))))))
 ·exact absurd c4 dc
 ·refine Ah (Gr (Bi rfl rfl) (Ga rfl (Af (A7 rfl (fun c7 => ?_) (fun c7 => ?_)))))
  ·refine Ah (Gr (Bb (cells := [_, _, _, _, _]) ty132 D2 pl132 rfl rfl) (Ge0 (Eh ty132) ?_))
   exact Af (Ay (Ap (Aj (Dg rfl ty132 rfl mm rfl (I) A1 ⟨rfl, rfl⟩))))
  ·exact absurd rfl c7
theorem Of3_ok {κ : Ctx} {I : List Item}  :
    CallS Tryz.prog κ 81 [I64 (3)] I (fun r J => r = .agg #[.bool false, .bool false, .bool true, .bool true, .func (.func 146) #[] #[]] ∧ I = J) := by
 refine Ce1 Tryz.func81 rfl rfl ?_
 refine Ah (Ge1 (A8 ty132 rfl) fun b1 => Af (As (Ah (Gm rfl (Af (A0 (Ah (Gr (Bi rfl rfl) (Ga rfl (Af (A7 rfl (fun c4 => ?_) (fun c4 => ?_))))))))))))
 ·exact absurd c4 dc
 ·refine Ah (Gr (Bi rfl rfl) (Ga rfl (Af (A7 rfl (fun c7 => ?_) (fun c7 => ?_)))))
  ·exact absurd c7 dc
  ·refine Ah (Gr (Bi rfl rfl) (Ga rfl (Af (A7 rfl (fun c10 => ?_) (fun c10 => ?_)))))
   ·refine Ah (Gr (Bb (cells := [_, _, _, _, _]) ty132 D2 pl132 rfl rfl) (Ge0 (Eh ty132) ?_))
    exact Af (Ay (Ap (Aj (Dg rfl ty132 rfl mm rfl (I) A1 ⟨rfl, rfl⟩))))
   ·exact absurd rfl c10
theorem Of4_ok {κ : Ctx} {I : List Item}  :
    CallS Tryz.prog κ 81 [I64 (4)] I (fun r J => r = .agg #[.bool false, .bool true, .bool false, .bool false, .func (.func 148) #[] #[]] ∧ I = J) := by
 refine Ce1 Tryz.func81 rfl rfl ?_
 refine Ah (Ge1 (A8 ty132 rfl) fun b1 => Af (As (Ah (Gm rfl (Af (A0 (Ah (Gr (Bi rfl rfl) (Ga rfl (Af (A7 rfl (fun c4 => ?_) (fun c4 => ?_))))))))))))
 ·exact absurd c4 dc
 ·refine Ah (Gr (Bi rfl rfl) (Ga rfl (Af (A7 rfl (fun c7 => ?_) (fun c7 => ?_)))))
  ·exact absurd c7 dc
  ·refine Ah (Gr (Bi rfl rfl) (Ga rfl (Af (A7 rfl (fun c10 => ?_) (fun c10 => ?_)))))
   ·exact absurd c10 dc
   ·refine Ah (Gr (Bi rfl rfl) (Ga rfl (Af (A7 rfl (fun c13 => ?_) (fun c13 => ?_)))))
    ·refine Ah (Gr (Bb (cells := [_, _, _, _, _]) ty132 D2 pl132 rfl rfl) (Ge0 (Eh ty132) ?_))
     exact Af (Ay (Ap (Aj (Dg rfl ty132 rfl mm rfl (I) A1 ⟨rfl, rfl⟩))))
    ·exact absurd rfl c13
theorem Of5_ok {κ : Ctx} {I : List Item}  :
    CallS Tryz.prog κ 81 [I64 (5)] I (fun r J => r = .agg #[.bool false, .bool true, .bool true, .bool false, .func (.func 152) #[] #[]] ∧ I = J) := by
 refine Ce1 Tryz.func81 rfl rfl ?_
 refine Ah (Ge1 (A8 ty132 rfl) fun b1 => Af (As (Ah (Gm rfl (Af (A0 (Ah (Gr (Bi rfl rfl) (Ga rfl (Af (A7 rfl (fun c4 => ?_) (fun c4 => ?_))))))))))))
 ·exact absurd c4 dc
 ·refine Ah (Gr (Bi rfl rfl) (Ga rfl (Af (A7 rfl (fun c7 => ?_) (fun c7 => ?_)))))
  ·exact absurd c7 dc
  ·refine Ah (Gr (Bi rfl rfl) (Ga rfl (Af (A7 rfl (fun c10 => ?_) (fun c10 => ?_)))))
   ·exact absurd c10 dc
   ·refine Ah (Gr (Bi rfl rfl) (Ga rfl (Af (A7 rfl (fun c13 => ?_) (fun c13 => ?_)))))
    ·exact absurd c13 dc
    ·refine Ah (Gr (Bi rfl rfl) (Ga rfl (Af (A7 rfl (fun c16 => ?_) (fun c16 => ?_)))))
     ·refine Ah (Gr (Bb (cells := [_, _, _, _, _]) ty132 D2 pl132 rfl rfl) (Ge0 (Eh ty132) ?_))
      exact Af (Aq (S1 2 rfl) (Ay (Ap (Aj (Dg rfl ty132 rfl mm rfl (I) A1 ⟨rfl, rfl⟩)))))
     ·exact absurd rfl c16
theorem OfAny_ok {κ : Ctx} {I : List Item} {kd : Int} (h : 1 ≤ kd ∧ kd ≤ 5) : CallS Tryz.prog κ 81 [I64 kd] I fun r J => r = kindV kd ∧ I = J := by
 obtain h | h | h | h | h : kd = 1 ∨ kd = 2 ∨ kd = 3 ∨ kd = 4 ∨ kd = 5 := by omega
 all_goals subst h
 ·exact Of1_ok
 ·exact Of2_ok
 ·exact Of3_ok
 ·exact Of4_ok
 ·exact Of5_ok
set_option maxHeartbeats 1000000 in
theorem Check1_ok {κ : Ctx} {I : List Item} {n : Int} {sa : Option Addr} {sc : Nat} {xs : List Int} (hs : Sl κ I (.slice sa xs.length sc) xs) {no lv : Int} (hno : 0 ≤ no ∧ no < n) (hlv : 0 ≤ lv ∧ lv ≤ 64) (hx : xs.length = 0) :
    CallS Tryz.prog κ 37 [.agg #[I64 (1), I64 (no), I64 (lv), .slice sa xs.length sc, I64 (0), I64 (0)], I64 (n)] I (fun r J => r = I64 0 ∧ I = J) := by
 refine Ce2 Tryz.func37 rfl rfl ?_
 refine Ah (Ge1 (Bd (cs := [_, _, _, _, _, _]) rfl rfl rfl) fun b1 => Ga rfl (Af (Ah (Gf fld42_0 rfl (Gl ty3 ?_)))))
 refine G.e (Al call81 rfl rfl Of1_ok) ?_
 rintro _ _ ⟨_, _, ⟨rfl, rfl⟩, rfl, rfl⟩
 refine Ge1 (A8 ty132 rfl) fun b2 => Ge0 (Eh ty132) ?_
 refine Af (As (A0 (Ah (Gf fld132_4 rfl (Gl ty130 ?_)))))
 refine Gr (Runs.eqFn (fun w => by kernel_rfl) rfl rfl) (Ga rfl (Af (Di rfl (Ah (Gf fld132_0 rfl (Gl ty4 ?_))))))
 refine Gm rfl (Gro (Ab fld42_1 rfl) (Gro (Au ty3) ?_))
 refine Gro (Ba rfl rfl) (Gro (Ad rfl) (Bk (d := 20) rfl (fun g20 => ?_) (fun g20 => ?_)))
 ·refine Gpo (Gpo (Gpo (Gpo (Gro (Ao rfl rfl) (Gr (Ao rfl rfl) (Gm rfl (Gpo (Gpo (Gpo (Gpu (Gpu (Gpu (Gpu (Gpu (Gpu (Gpu (Gpu (Gpu (Gpu (Gpu (Gpo (Gr (Ao rfl rfl) (Ga rfl (Af (Aq (S3 13 5 2 rfl rfl rfl) (Co rfl (Ah (Ga rfl (Af (Ay (Ap (Aj ?_))))))))))))))))))))))))))))))))
  first | (exfalso; omega) | (exfalso; exact absurd hval asm) | (exfalso; exact absurd rfl asm) | contradiction | (exfalso; simp_all; done)
 ·refine Gro (Ab fld42_1 rfl) (Gro (Au ty3) ?_)
  refine Gro (Ad rfl) (Gro (Cc rfl rfl) (Gro (Ar rfl rfl) (Gr (Ao rfl rfl) (Gm rfl (Bk (d := 27) rfl (fun g27 => ?_) (fun g27 => ?_))))))
  ·refine Gpo (Gpo (Gpo (Gpu (Gpu (Gpu (Gpu (Gpu (Gpu (Gpu (Gpu (Gpu (Gpu (Gpu (Gpo (Gr (Ao rfl rfl) (Ga rfl (Af (Aq (S3 13 5 2 rfl rfl rfl) (Co rfl (Ah (Ga rfl (Af (Ay (Ap (Aj ?_)))))))))))))))))))))))))
   first | (exfalso; omega) | (exfalso; exact absurd hval asm) | (exfalso; exact absurd rfl asm) | contradiction | (exfalso; simp_all; done)
  ·refine Gro (Ab fld132_2 rfl) (Gro (Au ty4) ?_)
   refine Gro (Ad rfl) (Gpo (Gpo (Gpo (Gpo (Gpo (Gpu (Gpu (Gpu (Gpu (Gpu (Gpo (Gro (Ar rfl rfl) (Gr (Ar rfl rfl) (Ga rfl (Af (Aq (S3 13 5 2 rfl rfl rfl) (Di rfl (Ah (Gf fld132_1 rfl (Gl ty4 ?_))))))))))))))))))))
   refine Gm rfl (Gro (Ab fld42_2 rfl) (Gro (Au ty3) ?_))
   refine Gro (Ba rfl rfl) (Gro (Ad rfl) (Bk (d := 51) rfl (fun g51 => ?_) (fun g51 => ?_)))
   ·refine Gpo (Gpo (Gpo (Gro (Ao rfl rfl) (Gr (Ao rfl rfl) (Gm rfl (Gpo (Gpo (Gpo (Gpu (Gpu (Gpu (Gpu (Gpu (Gpu (Gpu (Gpu (Gpu (Gpu (Gpo (Gr (Ao rfl rfl) (Ga rfl (Af (Aq (S3 44 5 2 rfl rfl rfl) (Co rfl (Ah (Ga rfl (Af (Ay (Ap (Aj ?_))))))))))))))))))))))))))))))
    first | (exfalso; omega) | (exfalso; exact absurd hval asm) | (exfalso; exact absurd rfl asm) | contradiction | (exfalso; simp_all; done)
   ·refine Gro (Ab fld42_2 rfl) (Gro (Au ty3) ?_)
    refine Gro (B0 rfl rfl) (Gro (Ar rfl rfl) (Gr (Ao rfl rfl) (Gm rfl (Bk (d := 57) rfl (fun g57 => ?_) (fun g57 => ?_)))))
    ·refine Gpo (Gpo (Gpo (Gpu (Gpu (Gpu (Gpu (Gpu (Gpu (Gpu (Gpu (Gpu (Gpu (Gpo (Gr (Ao rfl rfl) (Ga rfl (Af (Aq (S3 44 5 2 rfl rfl rfl) (Co rfl (Ah (Ga rfl (Af (Ay (Ap (Aj ?_))))))))))))))))))))))))
     first | (exfalso; omega) | (exfalso; exact absurd hval asm) | (exfalso; exact absurd rfl asm) | contradiction | (exfalso; simp_all; done)
    ·refine Gro (Ab fld132_3 rfl) (Gro (Au ty4) ?_)
     refine Gro (Ad rfl) (Gpo (Gpo (Gpo (Gpo (Gpo (Gpu (Gpu (Gpu (Gpu (Gpo (Gro (Ar rfl rfl) (Gr (Ar rfl rfl) (Ga rfl (Af (Aq (S3 44 5 2 rfl rfl rfl) (Di rfl (Ah (Gf fld132_0 rfl (Gl ty4 ?_)))))))))))))))))))
     refine Gr (B9 rfl) (Gm rfl (Gpo (Gpo (Gpo (Gr (Ar rfl rfl) (Gm rfl (Gro (Ab fld132_2 rfl) (Gro (Au ty4) ?_))))))))
     refine Gro (B9 rfl) (Gro (Ad rfl) (Gro (Ab fld42_3 rfl) (Gro (Au ty22) ?_)))
     refine Gro (Bl Ac rfl) (Gro (B0 rfl rfl) (Gro (Ao rfl rfl) (Gr (Ar rfl rfl) (Gm rfl (Bk (d := 93) rfl (fun g93 => ?_) (fun g93 => ?_))))))
     ·refine Gpo (Gpo (Gpo (Gpo (Gpu (Gpu (Gpu (Gpo (Gr (Ao rfl rfl) (Gm rfl (Gpo (Gpo (Gpo (Gpo (Gpu (Gpu (Gpu (Gpu (Gpo (Gr (Ao rfl rfl) (Ga rfl (Af (Aq (S1 73 rfl) (Co rfl (Ah (Ga rfl (Af (Ay (Ap (Aj ?_)))))))))))))))))))))))))))))
      first | (exfalso; omega) | (exfalso; exact absurd hval asm) | (exfalso; exact absurd rfl asm) | contradiction | (exfalso; simp_all; done)
     ·refine Gro (Ab fld132_1 rfl) (Gro (Au ty4) ?_)
      refine Gro (B9 rfl) (Gro (Ad rfl) (Gpo (Gpo (Gpo (Gro (Ar rfl rfl) (Gr (Ar rfl rfl) (Gm rfl (Gro (Ab fld132_3 rfl) (Gro (Au ty4) ?_)))))))))
      refine Gro (B9 rfl) (Gro (Ad rfl) (Gro (Ab fld42_4 rfl) (Gro (Bq (vs := [_, _]) ty40) ?_)))
      refine Gro (Bb (cells := [_, _]) ty40 Ca pl40 rfl rfl) (Gro (Runs.neqT (α := Fr) (a := (⟨0, 0⟩ : Fr)) (b := (⟨0, 0⟩ : Fr)) eqt40 rfl rfl) (Gro (Ao rfl rfl) (Gr (Ar rfl rfl) (Ga rfl (Af (Aq (S1 73 rfl) (A7 rfl (fun c73 => ?_) (fun c73 => ?_))))))))
      ·refine Ah (Ga rfl (Af (Ay (Ap (Aj ?_)))))
       first | (exfalso; omega) | (exfalso; exact absurd hval asm) | (exfalso; exact absurd rfl asm) | contradiction | (exfalso; simp_all; done)
      ·exact A2 (Ai (Ak (Ah (Ga rfl (Af (Ay (A3 rfl rfl (I) A1 ⟨rfl, rfl⟩)))))))
set_option maxHeartbeats 1000000 in
theorem Check2_ok {κ : Ctx} {I : List Item} {n : Int} {sa : Option Addr} {sc : Nat} {xs : List Int} (hs : Sl κ I (.slice sa xs.length sc) xs) {num den : Int} (hx : xs.length = 0) (hf : FrV ⟨num, den⟩) :
    CallS Tryz.prog κ 37 [.agg #[I64 (2), I64 (0), I64 (0), .slice sa xs.length sc, I64 (num), I64 (den)], I64 (n)] I (fun r J => r = I64 0 ∧ I = J) := by
 have hfn : 0 ≤ num := hf.n0
 refine Ce2 Tryz.func37 rfl rfl ?_
 refine Ah (Ge1 (Bd (cs := [_, _, _, _, _, _]) rfl rfl rfl) fun b1 => Ga rfl (Af (Ah (Gf fld42_0 rfl (Gl ty3 ?_)))))
 refine Gc0 (Al call81 rfl rfl Of2_ok) ?_
 refine Ge1 (A8 ty132 rfl) fun b2 => Ge0 (Eh ty132) ?_
 refine Af (As (A0 (Ah (Gf fld132_4 rfl (Gl ty130 ?_)))))
 refine Gr (Runs.eqFn (fun w => by kernel_rfl) rfl rfl) (Ga rfl (Af (Di rfl (Ah (Gf fld132_0 rfl (Gl ty4 ?_))))))
 refine Gm rfl (Gpo (Gpo (Gpo (Gpo (Gpu (Gpu (Gpu (Gpu (Gpo (Gr (Ar rfl rfl) (Gm rfl (Gro (Ab fld132_2 rfl) (Gro (Au ty4) ?_)))))))))))))
 refine Gro (Ad rfl) (Gpo (Gpo (Gpo (Gpo (Gpo (Gpu (Gpu (Gpu (Gpu (Gpu (Gpo (Gro (Ar rfl rfl) (Gr (Ar rfl rfl) (Ga rfl (Af (Aq (S3 13 5 2 rfl rfl rfl) (Di rfl (Ah (Gf fld132_1 rfl (Gl ty4 ?_))))))))))))))))))))
 refine Gm rfl (Gpo (Gpo (Gpo (Gpo (Gpu (Gpu (Gpu (Gpo (Gr (Ar rfl rfl) (Gm rfl (Gro (Ab fld132_3 rfl) (Gro (Au ty4) ?_))))))))))))
 refine Gro (Ad rfl) (Gro (Ab fld42_4 rfl) (Gro (Bq (vs := [_, _]) ty40) ?_))
 refine D6 (Cp rfl rfl rfl) (Al call89 rfl rfl (RatValid_ok (⟨num, den⟩ : Fr) asm)) ?_
 rintro _ _ ⟨_, _, ⟨rfl, rfl⟩, rfl, rfl⟩
 refine Gro (B9 rfl) (Gro (Ad rfl) (Gro (Ab fld42_4 rfl) (Gro (Ab fld40_0 rfl) (Gro (Au ty3) ?_))))
 refine Gro (Ba rfl rfl) (Gro (Ar rfl rfl) (Gro (Ao rfl rfl) (Gr (Ar rfl rfl) (Ga rfl (Af (Aq (S3 44 5 2 rfl rfl rfl) (A7 rfl (fun c44 => ?_) (fun c44 => ?_))))))))
 ·refine Ah (Ga rfl (Af (Ay (Ap (Aj ?_)))))
  first | (exfalso; omega) | (exfalso; exact absurd hval asm) | (exfalso; exact absurd rfl asm) | contradiction | (exfalso; simp_all; done)
 ·refine Ah (Gf fld132_0 rfl (Gl ty4 ?_))
  refine Gr (B9 rfl) (Gm rfl (Gro (Ab fld42_1 rfl) (Gro (Au ty3) ?_)))
  refine Gro (Bv rfl rfl) (Gr (Ao rfl rfl) (Gm rfl (Bk (d := 82) rfl (fun g82 => ?_) (fun g82 => ?_))))
  ·refine Gpo (Gpo (Gpo (Gpo (Gpu (Gpu (Gpu (Gpu (Gpo (Gr (Ao rfl rfl) (Gm rfl (Gpo (Gpo (Gpo (Gpo (Gpu (Gpu (Gpu (Gpo (Gr (Ao rfl rfl) (Gm rfl (Gpo (Gpo (Gpo (Gpo (Gpu (Gpu (Gpu (Gpu (Gpo (Gr (Ao rfl rfl) (Ga rfl (Af (Aq (S1 73 rfl) (Co rfl (Ah (Ga rfl (Af (Ay (Ap (Aj ?_))))))))))))))))))))))))))))))))))))))))
   first | (exfalso; omega) | (exfalso; exact absurd hval asm) | (exfalso; exact absurd rfl asm) | contradiction | (exfalso; simp_all; done)
  ·refine Gro (Ab fld132_2 rfl) (Gro (Au ty4) ?_)
   refine Gro (B9 rfl) (Gro (Ad rfl) (Gro (Ab fld42_3 rfl) (Gro (Au ty22) ?_)))
   refine Gro (Bl Ac rfl) (Gro (B0 rfl rfl) (Gro (Ao rfl rfl) (Gr (Ar rfl rfl) (Gm rfl (Bk (d := 93) rfl (fun g93 => ?_) (fun g93 => ?_))))))
   ·refine Gpo (Gpo (Gpo (Gpo (Gpu (Gpu (Gpu (Gpo (Gr (Ao rfl rfl) (Gm rfl (Gpo (Gpo (Gpo (Gpo (Gpu (Gpu (Gpu (Gpu (Gpo (Gr (Ao rfl rfl) (Ga rfl (Af (Aq (S1 73 rfl) (Co rfl (Ah (Ga rfl (Af (Ay (Ap (Aj ?_)))))))))))))))))))))))))))))
    first | (exfalso; omega) | (exfalso; exact absurd hval asm) | (exfalso; exact absurd rfl asm) | contradiction | (exfalso; simp_all; done)
   ·refine Gro (Ab fld132_1 rfl) (Gro (Au ty4) ?_)
    refine Gro (B9 rfl) (Gro (Ad rfl) (Gro (Ab fld42_2 rfl) (Gro (Au ty3) ?_)))
    refine Gro (Bv rfl rfl) (Gro (Ao rfl rfl) (Gr (Ar rfl rfl) (Gm rfl (Bk (d := 103) rfl (fun g103 => ?_) (fun g103 => ?_)))))
    ·refine Gpo (Gpo (Gpo (Gpo (Gpu (Gpu (Gpu (Gpu (Gpo (Gr (Ao rfl rfl) (Ga rfl (Af (Aq (S1 73 rfl) (Co rfl (Ah (Ga rfl (Af (Ay (Ap (Aj ?_)))))))))))))))))))
     first | (exfalso; omega) | (exfalso; exact absurd hval asm) | (exfalso; exact absurd rfl asm) | contradiction | (exfalso; simp_all; done)
    ·refine Gro (Ab fld132_3 rfl) (Gro (Au ty4) ?_)
     exact Gro (B9 rfl) (Gro (Ad rfl) (Gpo (Gpo (Gpo (Gpo (Gro (Ar rfl rfl) (Gr (Ar rfl rfl) (Ga rfl (Af (Aq (S1 73 rfl) (Di rfl (A2 (Ai (Ak (Ah (Ga rfl (Af (Ay (A3 rfl rfl (I) A1 ⟨rfl, rfl⟩)))))))))))))))))))
set_option maxHeartbeats 1000000 in
theorem Check3_ok {κ : Ctx} {I : List Item} {n : Int} {sa : Option Addr} {sc : Nat} {xs : List Int} (hs : Sl κ I (.slice sa xs.length sc) xs) {num den : Int} (hx : 0 < xs.length) (hval : ValidP xs n) (hf : FrV ⟨num, den⟩) :
    CallS Tryz.prog κ 37 [.agg #[I64 (3), I64 (0), I64 (0), .slice sa xs.length sc, I64 (num), I64 (den)], I64 (n)] I (fun r J => r = I64 0 ∧ I = J) := by
 have hfn : 0 ≤ num := hf.n0
 refine Ce2 Tryz.func37 rfl rfl ?_
 refine Ah (Ge1 (Bd (cs := [_, _, _, _, _, _]) rfl rfl rfl) fun b1 => Ga rfl (Af (Ah (Gf fld42_0 rfl (Gl ty3 ?_)))))
 refine Gc0 (Al call81 rfl rfl Of3_ok) ?_
 refine Ge1 (A8 ty132 rfl) fun b2 => Ge0 (Eh ty132) ?_
 refine Af (As (A0 (Ah (Gf fld132_4 rfl (Gl ty130 ?_)))))
 refine Gr (Runs.eqFn (fun w => by kernel_rfl) rfl rfl) (Ga rfl (Af (Di rfl (Ah (Gf fld132_0 rfl (Gl ty4 ?_))))))
 refine Gm rfl (Gpo (Gpo (Gpo (Gpo (Gpu (Gpu (Gpu (Gpu (Gpo (Gr (Ar rfl rfl) (Gm rfl (Gro (Ab fld132_2 rfl) (Gro (Au ty4) ?_)))))))))))))
 refine Gro (Ad rfl) (Gro (Ab fld42_3 rfl) (Gro (Au ty22) ?_))
 refine Gro (Bl Ac rfl) (Gro (Bi rfl rfl) (Gro (Ad rfl) (Bk (d := 35) rfl (fun g35 => ?_) (fun g35 => ?_))))
 ·refine Gpo (Gpo (Gpo (Gpo (Gpo (Gro (Ao rfl rfl) (Gro (Ao rfl rfl) (Gr (Ar rfl rfl) (Ga rfl (Af (Aq (S3 13 5 2 rfl rfl rfl) (Co rfl (Ah (Ga rfl (Af (Ay (Ap (Aj ?_)))))))))))))))))
  first | (exfalso; omega) | (exfalso; exact absurd hval asm) | (exfalso; exact absurd rfl asm) | contradiction | (exfalso; simp_all; done)
 ·refine Gro (Ab fld42_3 rfl) (Gro (Au ty22) ?_)
  refine Gro (Ad rfl) (D6 (Cp rfl rfl rfl) (Al call88 rfl rfl (NValid_ok (Bh hs) n)) ?_)
  rintro _ _ ⟨_, _, ⟨rfl, rfl⟩, rfl, rfl⟩
  refine Gro (Dw rfl) (Gro (Ar rfl rfl) (Gro (Ao rfl rfl) (Gr (Ar rfl rfl) (Ga rfl (Af (Aq (S3 13 5 2 rfl rfl rfl) (A7 rfl (fun c13 => ?_) (fun c13 => ?_))))))))
  ·refine Ah (Ga rfl (Af (Ay (Ap (Aj ?_)))))
   first | (exfalso; omega) | (exfalso; exact absurd hval asm) | (exfalso; exact absurd rfl asm) | contradiction | (exfalso; simp_all; done)
  ·refine Ah (Gf fld132_1 rfl (Gl ty4 ?_))
   refine Gm rfl (Gpo (Gpo (Gpo (Gpo (Gpu (Gpu (Gpu (Gpo (Gr (Ar rfl rfl) (Gm rfl (Gro (Ab fld132_3 rfl) (Gro (Au ty4) ?_))))))))))))
   refine Gro (Ad rfl) (Gro (Ab fld42_4 rfl) (Gro (Bq (vs := [_, _]) ty40) ?_))
   refine D6 (Cp rfl rfl rfl) (Al call89 rfl rfl (RatValid_ok (⟨num, den⟩ : Fr) asm)) ?_
   rintro _ _ ⟨_, _, ⟨rfl, rfl⟩, rfl, rfl⟩
   refine Gro (B9 rfl) (Gro (Ad rfl) (Gro (Ab fld42_4 rfl) (Gro (Ab fld40_0 rfl) (Gro (Au ty3) ?_))))
   refine Gro (Ba rfl rfl) (Gro (Ar rfl rfl) (Gro (Ao rfl rfl) (Gr (Ar rfl rfl) (Ga rfl (Af (Aq (S3 44 5 2 rfl rfl rfl) (A7 rfl (fun c44 => ?_) (fun c44 => ?_))))))))
   ·refine Ah (Ga rfl (Af (Ay (Ap (Aj ?_)))))
    first | (exfalso; omega) | (exfalso; exact absurd hval asm) | (exfalso; exact absurd rfl asm) | contradiction | (exfalso; simp_all; done)
   ·refine Ah (Gf fld132_0 rfl (Gl ty4 ?_))
    refine Gr (B9 rfl) (Gm rfl (Gro (Ab fld42_1 rfl) (Gro (Au ty3) ?_)))
    refine Gro (Bv rfl rfl) (Gr (Ao rfl rfl) (Gm rfl (Bk (d := 82) rfl (fun g82 => ?_) (fun g82 => ?_))))
    ·refine Gpo (Gpo (Gpo (Gpo (Gpu (Gpu (Gpu (Gpu (Gpo (Gr (Ao rfl rfl) (Gm rfl (Gpo (Gpo (Gpo (Gpo (Gpu (Gpu (Gpu (Gpo (Gr (Ao rfl rfl) (Gm rfl (Gpo (Gpo (Gpo (Gpo (Gpu (Gpu (Gpu (Gpu (Gpo (Gr (Ao rfl rfl) (Ga rfl (Af (Aq (S1 73 rfl) (Co rfl (Ah (Ga rfl (Af (Ay (Ap (Aj ?_))))))))))))))))))))))))))))))))))))))))
     first | (exfalso; omega) | (exfalso; exact absurd hval asm) | (exfalso; exact absurd rfl asm) | contradiction | (exfalso; simp_all; done)
    ·refine Gro (Ab fld132_2 rfl) (Gro (Au ty4) ?_)
     refine Gro (B9 rfl) (Gro (Ad rfl) (Gpo (Gpo (Gpo (Gpo (Gro (Ar rfl rfl) (Gr (Ar rfl rfl) (Gm rfl (Gro (Ab fld132_1 rfl) (Gro (Au ty4) ?_))))))))))
     refine Gro (B9 rfl) (Gro (Ad rfl) (Gro (Ab fld42_2 rfl) (Gro (Au ty3) ?_)))
     refine Gro (Bv rfl rfl) (Gro (Ao rfl rfl) (Gr (Ar rfl rfl) (Gm rfl (Bk (d := 103) rfl (fun g103 => ?_) (fun g103 => ?_)))))
     ·refine Gpo (Gpo (Gpo (Gpo (Gpu (Gpu (Gpu (Gpu (Gpo (Gr (Ao rfl rfl) (Ga rfl (Af (Aq (S1 73 rfl) (Co rfl (Ah (Ga rfl (Af (Ay (Ap (Aj ?_)))))))))))))))))))
      first | (exfalso; omega) | (exfalso; exact absurd hval asm) | (exfalso; exact absurd rfl asm) | contradiction | (exfalso; simp_all; done)
     ·refine Gro (Ab fld132_3 rfl) (Gro (Au ty4) ?_)
      exact Gro (B9 rfl) (Gro (Ad rfl) (Gpo (Gpo (Gpo (Gpo (Gro (Ar rfl rfl) (Gr (Ar rfl rfl) (Ga rfl (Af (Aq (S1 73 rfl) (Di rfl (A2 (Ai (Ak (Ah (Ga rfl (Af (Ay (A3 rfl rfl (I) A1 ⟨rfl, rfl⟩)))))))))))))))))))
set_option maxHeartbeats 1000000 in
theorem Check4_ok {κ : Ctx} {I : List Item} {n : Int} {sa : Option Addr} {sc : Nat} {xs : List Int} (hs : Sl κ I (.slice sa xs.length sc) xs) {lv : Int} (hlv : 0 ≤ lv ∧ lv ≤ 64) (hx : xs.length = 0) :
    CallS Tryz.prog κ 37 [.agg #[I64 (4), I64 (0), I64 (lv), .slice sa xs.length sc, I64 (0), I64 (0)], I64 (n)] I (fun r J => r = I64 0 ∧ I = J) := by
 refine Ce2 Tryz.func37 rfl rfl ?_
 refine Ah (Ge1 (Bd (cs := [_, _, _, _, _, _]) rfl rfl rfl) fun b1 => Ga rfl (Af (Ah (Gf fld42_0 rfl (Gl ty3 ?_)))))
 refine Gc0 (Al call81 rfl rfl Of4_ok) ?_
 refine Ge1 (A8 ty132 rfl) fun b2 => Ge0 (Eh ty132) ?_
 refine Af (As (A0 (Ah (Gf fld132_4 rfl (Gl ty130 ?_)))))
 refine Gr (Runs.eqFn (fun w => by kernel_rfl) rfl rfl) (Ga rfl (Af (Di rfl (Ah (Gf fld132_0 rfl (Gl ty4 ?_))))))
 refine Gm rfl (Gpo (Gpo (Gpo (Gpo (Gpu (Gpu (Gpu (Gpu (Gpo (Gr (Ar rfl rfl) (Gm rfl (Gro (Ab fld132_2 rfl) (Gro (Au ty4) ?_)))))))))))))
 refine Gro (Ad rfl) (Gpo (Gpo (Gpo (Gpo (Gpo (Gpu (Gpu (Gpu (Gpu (Gpu (Gpo (Gro (Ar rfl rfl) (Gr (Ar rfl rfl) (Ga rfl (Af (Aq (S3 13 5 2 rfl rfl rfl) (Di rfl (Ah (Gf fld132_1 rfl (Gl ty4 ?_))))))))))))))))))))
 refine Gm rfl (Gro (Ab fld42_2 rfl) (Gro (Au ty3) ?_))
 refine Gro (Ba rfl rfl) (Gro (Ad rfl) (Bk (d := 51) rfl (fun g51 => ?_) (fun g51 => ?_)))
 ·refine Gpo (Gpo (Gpo (Gro (Ao rfl rfl) (Gr (Ao rfl rfl) (Gm rfl (Gpo (Gpo (Gpo (Gpu (Gpu (Gpu (Gpu (Gpu (Gpu (Gpu (Gpu (Gpu (Gpu (Gpo (Gr (Ao rfl rfl) (Ga rfl (Af (Aq (S3 44 5 2 rfl rfl rfl) (Co rfl (Ah (Ga rfl (Af (Ay (Ap (Aj ?_))))))))))))))))))))))))))))))
  first | (exfalso; omega) | (exfalso; exact absurd hval asm) | (exfalso; exact absurd rfl asm) | contradiction | (exfalso; simp_all; done)
 ·refine Gro (Ab fld42_2 rfl) (Gro (Au ty3) ?_)
  refine Gro (B0 rfl rfl) (Gro (Ar rfl rfl) (Gr (Ao rfl rfl) (Gm rfl (Bk (d := 57) rfl (fun g57 => ?_) (fun g57 => ?_)))))
  ·refine Gpo (Gpo (Gpo (Gpu (Gpu (Gpu (Gpu (Gpu (Gpu (Gpu (Gpu (Gpu (Gpu (Gpo (Gr (Ao rfl rfl) (Ga rfl (Af (Aq (S3 44 5 2 rfl rfl rfl) (Co rfl (Ah (Ga rfl (Af (Ay (Ap (Aj ?_))))))))))))))))))))))))
   first | (exfalso; omega) | (exfalso; exact absurd hval asm) | (exfalso; exact absurd rfl asm) | contradiction | (exfalso; simp_all; done)
  ·refine Gro (Ab fld132_3 rfl) (Gro (Au ty4) ?_)
   refine Gro (Ad rfl) (Gpo (Gpo (Gpo (Gpo (Gpo (Gpu (Gpu (Gpu (Gpu (Gpo (Gro (Ar rfl rfl) (Gr (Ar rfl rfl) (Ga rfl (Af (Aq (S3 44 5 2 rfl rfl rfl) (Di rfl (Ah (Gf fld132_0 rfl (Gl ty4 ?_)))))))))))))))))))
   refine Gr (B9 rfl) (Gm rfl (Gro (Ab fld42_1 rfl) (Gro (Au ty3) ?_)))
   refine Gro (Bv rfl rfl) (Gr (Ao rfl rfl) (Gm rfl (Bk (d := 82) rfl (fun g82 => ?_) (fun g82 => ?_))))
   ·refine Gpo (Gpo (Gpo (Gpo (Gpu (Gpu (Gpu (Gpu (Gpo (Gr (Ao rfl rfl) (Gm rfl (Gpo (Gpo (Gpo (Gpo (Gpu (Gpu (Gpu (Gpo (Gr (Ao rfl rfl) (Gm rfl (Gpo (Gpo (Gpo (Gpo (Gpu (Gpu (Gpu (Gpu (Gpo (Gr (Ao rfl rfl) (Ga rfl (Af (Aq (S1 73 rfl) (Co rfl (Ah (Ga rfl (Af (Ay (Ap (Aj ?_))))))))))))))))))))))))))))))))))))))))
    first | (exfalso; omega) | (exfalso; exact absurd hval asm) | (exfalso; exact absurd rfl asm) | contradiction | (exfalso; simp_all; done)
   ·refine Gro (Ab fld132_2 rfl) (Gro (Au ty4) ?_)
    refine Gro (B9 rfl) (Gro (Ad rfl) (Gro (Ab fld42_3 rfl) (Gro (Au ty22) ?_)))
    refine Gro (Bl Ac rfl) (Gro (B0 rfl rfl) (Gro (Ao rfl rfl) (Gr (Ar rfl rfl) (Gm rfl (Bk (d := 93) rfl (fun g93 => ?_) (fun g93 => ?_))))))
    ·refine Gpo (Gpo (Gpo (Gpo (Gpu (Gpu (Gpu (Gpo (Gr (Ao rfl rfl) (Gm rfl (Gpo (Gpo (Gpo (Gpo (Gpu (Gpu (Gpu (Gpu (Gpo (Gr (Ao rfl rfl) (Ga rfl (Af (Aq (S1 73 rfl) (Co rfl (Ah (Ga rfl (Af (Ay (Ap (Aj ?_)))))))))))))))))))))))))))))
     first | (exfalso; omega) | (exfalso; exact absurd hval asm) | (exfalso; exact absurd rfl asm) | contradiction | (exfalso; simp_all; done)
    ·refine Gro (Ab fld132_1 rfl) (Gro (Au ty4) ?_)
     refine Gro (B9 rfl) (Gro (Ad rfl) (Gpo (Gpo (Gpo (Gro (Ar rfl rfl) (Gr (Ar rfl rfl) (Gm rfl (Gro (Ab fld132_3 rfl) (Gro (Au ty4) ?_)))))))))
     refine Gro (B9 rfl) (Gro (Ad rfl) (Gro (Ab fld42_4 rfl) (Gro (Bq (vs := [_, _]) ty40) ?_)))
     refine Gro (Bb (cells := [_, _]) ty40 Ca pl40 rfl rfl) (Gro (Runs.neqT (α := Fr) (a := (⟨0, 0⟩ : Fr)) (b := (⟨0, 0⟩ : Fr)) eqt40 rfl rfl) (Gro (Ao rfl rfl) (Gr (Ar rfl rfl) (Ga rfl (Af (Aq (S1 73 rfl) (A7 rfl (fun c73 => ?_) (fun c73 => ?_))))))))
     ·refine Ah (Ga rfl (Af (Ay (Ap (Aj ?_)))))
      first | (exfalso; omega) | (exfalso; exact absurd hval asm) | (exfalso; exact absurd rfl asm) | contradiction | (exfalso; simp_all; done)
     ·exact A2 (Ai (Ak (Ah (Ga rfl (Af (Ay (A3 rfl rfl (I) A1 ⟨rfl, rfl⟩)))))))
set_option maxHeartbeats 1000000 in
theorem Check5_ok {κ : Ctx} {I : List Item} {n : Int} {sa : Option Addr} {sc : Nat} {xs : List Int} (hs : Sl κ I (.slice sa xs.length sc) xs) {lv : Int} (hlv : 0 ≤ lv ∧ lv ≤ 64) (hx : 0 < xs.length) (hval : ValidP xs n) :
    CallS Tryz.prog κ 37 [.agg #[I64 (5), I64 (0), I64 (lv), .slice sa xs.length sc, I64 (0), I64 (0)], I64 (n)] I (fun r J => r = I64 0 ∧ I = J) := by
 refine Ce2 Tryz.func37 rfl rfl ?_
 refine Ah (Ge1 (Bd (cs := [_, _, _, _, _, _]) rfl rfl rfl) fun b1 => Ga rfl (Af (Ah (Gf fld42_0 rfl (Gl ty3 ?_)))))
 refine Gc0 (Al call81 rfl rfl Of5_ok) ?_
 refine Ge1 (A8 ty132 rfl) fun b2 => Ge0 (Eh ty132) ?_
 refine Af (As (A0 (Ah (Gf fld132_4 rfl (Gl ty130 ?_)))))
 refine Gr (Runs.eqFn (fun w => by kernel_rfl) rfl rfl) (Ga rfl (Af (Di rfl (Ah (Gf fld132_0 rfl (Gl ty4 ?_))))))
 refine Gm rfl (Gpo (Gpo (Gpo (Gpo (Gpu (Gpu (Gpu (Gpu (Gpo (Gr (Ar rfl rfl) (Gm rfl (Gro (Ab fld132_2 rfl) (Gro (Au ty4) ?_)))))))))))))
 refine Gro (Ad rfl) (Gro (Ab fld42_3 rfl) (Gro (Au ty22) ?_))
 refine Gro (Bl Ac rfl) (Gro (Bi rfl rfl) (Gro (Ad rfl) (Bk (d := 35) rfl (fun g35 => ?_) (fun g35 => ?_))))
 ·refine Gpo (Gpo (Gpo (Gpo (Gpo (Gro (Ao rfl rfl) (Gro (Ao rfl rfl) (Gr (Ar rfl rfl) (Ga rfl (Af (Aq (S3 13 5 2 rfl rfl rfl) (Co rfl (Ah (Ga rfl (Af (Ay (Ap (Aj ?_)))))))))))))))))
  first | (exfalso; omega) | (exfalso; exact absurd hval asm) | (exfalso; exact absurd rfl asm) | contradiction | (exfalso; simp_all; done)
 ·refine Gro (Ab fld42_3 rfl) (Gro (Au ty22) ?_)
  refine Gro (Ad rfl) (D6 (Cp rfl rfl rfl) (Al call88 rfl rfl (NValid_ok (Bh hs) n)) ?_)
  rintro _ _ ⟨_, _, ⟨rfl, rfl⟩, rfl, rfl⟩
  refine Gro (Dw rfl) (Gro (Ar rfl rfl) (Gro (Ao rfl rfl) (Gr (Ar rfl rfl) (Ga rfl (Af (Aq (S3 13 5 2 rfl rfl rfl) (A7 rfl (fun c13 => ?_) (fun c13 => ?_))))))))
  ·refine Ah (Ga rfl (Af (Ay (Ap (Aj ?_)))))
   first | (exfalso; omega) | (exfalso; exact absurd hval asm) | (exfalso; exact absurd rfl asm) | contradiction | (exfalso; simp_all; done)
  ·refine Ah (Gf fld132_1 rfl (Gl ty4 ?_))
   refine Gm rfl (Gro (Ab fld42_2 rfl) (Gro (Au ty3) ?_))
   refine Gro (Ba rfl rfl) (Gro (Ad rfl) (Bk (d := 51) rfl (fun g51 => ?_) (fun g51 => ?_)))
   ·refine Gpo (Gpo (Gpo (Gro (Ao rfl rfl) (Gr (Ao rfl rfl) (Gm rfl (Gpo (Gpo (Gpo (Gpu (Gpu (Gpu (Gpu (Gpu (Gpu (Gpu (Gpu (Gpu (Gpu (Gpo (Gr (Ao rfl rfl) (Ga rfl (Af (Aq (S3 44 5 2 rfl rfl rfl) (Co rfl (Ah (Ga rfl (Af (Ay (Ap (Aj ?_))))))))))))))))))))))))))))))
    first | (exfalso; omega) | (exfalso; exact absurd hval asm) | (exfalso; exact absurd rfl asm) | contradiction | (exfalso; simp_all; done)
   ·refine Gro (Ab fld42_2 rfl) (Gro (Au ty3) ?_)
    refine Gro (B0 rfl rfl) (Gro (Ar rfl rfl) (Gr (Ao rfl rfl) (Gm rfl (Bk (d := 57) rfl (fun g57 => ?_) (fun g57 => ?_)))))
    ·refine Gpo (Gpo (Gpo (Gpu (Gpu (Gpu (Gpu (Gpu (Gpu (Gpu (Gpu (Gpu (Gpu (Gpo (Gr (Ao rfl rfl) (Ga rfl (Af (Aq (S3 44 5 2 rfl rfl rfl) (Co rfl (Ah (Ga rfl (Af (Ay (Ap (Aj ?_))))))))))))))))))))))))
     first | (exfalso; omega) | (exfalso; exact absurd hval asm) | (exfalso; exact absurd rfl asm) | contradiction | (exfalso; simp_all; done)
    ·refine Gro (Ab fld132_3 rfl) (Gro (Au ty4) ?_)
     refine Gro (Ad rfl) (Gpo (Gpo (Gpo (Gpo (Gpo (Gpu (Gpu (Gpu (Gpu (Gpo (Gro (Ar rfl rfl) (Gr (Ar rfl rfl) (Ga rfl (Af (Aq (S3 44 5 2 rfl rfl rfl) (Di rfl (Ah (Gf fld132_0 rfl (Gl ty4 ?_)))))))))))))))))))
     refine Gr (B9 rfl) (Gm rfl (Gro (Ab fld42_1 rfl) (Gro (Au ty3) ?_)))
     refine Gro (Bv rfl rfl) (Gr (Ao rfl rfl) (Gm rfl (Bk (d := 82) rfl (fun g82 => ?_) (fun g82 => ?_))))
     ·refine Gpo (Gpo (Gpo (Gpo (Gpu (Gpu (Gpu (Gpu (Gpo (Gr (Ao rfl rfl) (Gm rfl (Gpo (Gpo (Gpo (Gpo (Gpu (Gpu (Gpu (Gpo (Gr (Ao rfl rfl) (Gm rfl (Gpo (Gpo (Gpo (Gpo (Gpu (Gpu (Gpu (Gpu (Gpo (Gr (Ao rfl rfl) (Ga rfl (Af (Aq (S1 73 rfl) (Co rfl (Ah (Ga rfl (Af (Ay (Ap (Aj ?_))))))))))))))))))))))))))))))))))))))))
      first | (exfalso; omega) | (exfalso; exact absurd hval asm) | (exfalso; exact absurd rfl asm) | contradiction | (exfalso; simp_all; done)
     ·refine Gro (Ab fld132_2 rfl) (Gro (Au ty4) ?_)
      refine Gro (B9 rfl) (Gro (Ad rfl) (Gpo (Gpo (Gpo (Gpo (Gro (Ar rfl rfl) (Gr (Ar rfl rfl) (Gm rfl (Gro (Ab fld132_1 rfl) (Gro (Au ty4) ?_))))))))))
      refine Gro (B9 rfl) (Gro (Ad rfl) (Gpo (Gpo (Gpo (Gro (Ar rfl rfl) (Gr (Ar rfl rfl) (Gm rfl (Gro (Ab fld132_3 rfl) (Gro (Au ty4) ?_)))))))))
      refine Gro (B9 rfl) (Gro (Ad rfl) (Gro (Ab fld42_4 rfl) (Gro (Bq (vs := [_, _]) ty40) ?_)))
      refine Gro (Bb (cells := [_, _]) ty40 Ca pl40 rfl rfl) (Gro (Runs.neqT (α := Fr) (a := (⟨0, 0⟩ : Fr)) (b := (⟨0, 0⟩ : Fr)) eqt40 rfl rfl) (Gro (Ao rfl rfl) (Gr (Ar rfl rfl) (Ga rfl (Af (Aq (S1 73 rfl) (A7 rfl (fun c73 => ?_) (fun c73 => ?_))))))))
      ·refine Ah (Ga rfl (Af (Ay (Ap (Aj ?_)))))
       first | (exfalso; omega) | (exfalso; exact absurd hval asm) | (exfalso; exact absurd rfl asm) | contradiction | (exfalso; simp_all; done)
      ·exact A2 (Ai (Ak (Ah (Ga rfl (Af (Ay (A3 rfl rfl (I) A1 ⟨rfl, rfl⟩)))))))
theorem CheckAny_ok {κ : Ctx} {I : List Item} {n : Int} {x : AlV} (hs : Sl κ I (.slice x.a x.xs.length x.c) x.xs) (h : AlOk n x) : CallS Tryz.prog κ 37 [x.cells, I64 n] I fun r J => r = I64 0 ∧ I = J := by
 obtain ⟨kd, no, lv, a, c, xs, num, den⟩ := x
 unfold AlV.cells
 have hk := h.kind
 simp only at hk hs ⊢
 obtain e | e | e | e | e : kd = 1 ∨ kd = 2 ∨ kd = 3 ∨ kd = 4 ∨ kd = 5 := by omega
 all_goals subst e
 ·obtain ⟨h1, h2, h3, h4, h5⟩ := h.k1 rfl
  simp only at h1 h2 h3 h4 h5
  subst h3 h4 h5
  exact Check1_ok hs h1 h2 rfl
 ·obtain ⟨h1, h2, h3, h4⟩ := h.k2 rfl
  simp only at h1 h2 h3 h4
  subst h1 h2 h3
  exact Check2_ok hs rfl h4
 ·obtain ⟨h1, h2, h3, h4, h5⟩ := h.k3 rfl
  simp only at h1 h2 h3 h4 h5
  subst h1 h2
  exact Check3_ok hs h3.1 h4 h5
 ·obtain ⟨h1, h2, h3, h4, h5⟩ := h.k4 rfl
  simp only at h1 h2 h3 h4 h5
  subst h1 h3 h4 h5
  exact Check4_ok hs h2 rfl
 ·obtain ⟨h1, h2, h3, h4, h5, h6⟩ := h.k5 rfl
  simp only at h1 h2 h3 h4 h5 h6
  subst h1 h5 h6
  exact Check5_ok hs h2 h3.1 h4
theorem hold_of {κ : Ctx} {I : List Item} {f : FuncId} {args : List Value} {nd : Int} {es : List Pt} {x : AlV} (h : CallS Tryz.prog κ f args I fun r J => ∃ t : Bool, r = .bool t ∧ (t = true ↔ condP nd es x) ∧ I = J) : CallS Tryz.prog κ f args I fun r J => r = .bool (holdV nd es x) ∧ I = J :=
 h.mono fun r J ⟨t, h1, h2, h3⟩ => ⟨by rw [h1]; congr 1; rw [Bool.eq_iff_iff, holdV_iff]; exact h2, h3⟩
theorem HoldAny_ok {κ : Ctx} {I : List Item} {nd : Int} {ea : Option Addr} {ec : Nat} {es : List Pt} {x : AlV} (hl : Sl κ I (.slice ea es.length ec) es) (hs : Sl κ I (.slice x.a x.xs.length x.c) x.xs) (hG : GrOk nd es) (h : AlOk nd x) (hT : TabRd κ I 0 tzCells) : CallS Tryz.prog κ (fK x.kd) [.agg #[I64 nd, .slice ea es.length ec], x.cells] I fun r J => r = .bool (holdV nd es x) ∧ I = J := by
 refine hold_of ?_
 obtain ⟨kd, no, lv, a, c, xs, num, den⟩ := x
 unfold AlV.cells condP
 have hk := h.kind
 simp only at hk hs ⊢
 obtain e | e | e | e | e : kd = 1 ∨ kd = 2 ∨ kd = 3 ∨ kd = 4 ∨ kd = 5 := by omega
 all_goals subst e
 ·obtain ⟨h1, h2, h3, h4, h5⟩ := h.k1 rfl
  simp only at h1 h2 h3 h4 h5
  subst h3 h4 h5
  exact Hold1_ok hl hs hG h1 hT
 ·obtain ⟨h1, h2, h3, h4⟩ := h.k2 rfl
  simp only at h1 h2 h3 h4
  subst h1 h2 h3
  exact Hold2_ok hl hs hG h4 hT
 ·obtain ⟨h1, h2, h3, h4, h5⟩ := h.k3 rfl
  simp only at h1 h2 h3 h4 h5
  subst h1 h2
  exact Hold3_ok hl hs hG h3 h4 h5 hT
 ·obtain ⟨h1, h2, h3, h4, h5⟩ := h.k4 rfl
  simp only at h1 h2 h3 h4 h5
  subst h1 h3 h4 h5
  exact Hold4_ok hl hs hG hT
 ·obtain ⟨h1, h2, h3, h4, h5, h6⟩ := h.k5 rfl
  simp only at h1 h2 h3 h4 h5 h6
  subst h1 h5 h6
  exact Hold5_ok hl hs hG h3 h4 hT
end Go.Sl
