/- A part of the proofs of statements of this seat: contracts of functions, and the plain laws that they lean on. No conditions. -/
import Derived.Test.YtfkcohmipjhfcaaGreatDoorL18
set_option linter.unusedVariables false
set_option linter.unusedSimpArgs false
set_option linter.unusedSectionVars false
namespace Go.Sl
open Go.Proofs
set_option maxRecDepth 4000
variable {κ : Ctx} {I : List Item}
theorem BestR.frv {nd N D : Int} {es : List Pt} {B : BitVec 64} (h : BestR nd es N D B) (hG : GrOk nd es) : FrV ⟨N, D⟩ := by
 by_cases hn : nd = 0
 ·obtain ⟨h1, h2, _⟩ := h.none (checkG_ok.2 hG) hn
  subst h1 h2
  exact ⟨by decide, by decide, by decide, by decide, by decide⟩
 ·obtain ⟨x, y, hx, hy, e⟩ := (h.some (checkG_ok.2 hG) hn).red
  rw [e]
  exact mkF_val hx.1 om om om
theorem cmpF_ge {x y : Fr} : 0 ≤ cmpF x y ↔ y.num * x.den ≤ x.num * y.den := by unfold cmpF; repeat (first | omega | split)
def densQ (nd : Int) (es : List Pt) (num den : Int) : Prop := if nd = 0 then num ≤ 0 else ∃ W, subN nd W ∧ W ≠ 0#64 ∧ num * cntB W ≤ den * insE W es
theorem BestR.holds {nd N D num den : Int} {es : List Pt} {B : BitVec 64} (h : BestR nd es N D B) (hG : GrOk nd es) (hf : FrV ⟨num, den⟩) : 0 ≤ cmpF ⟨N, D⟩ ⟨num, den⟩ ↔ densQ nd es num den := by
 rw [cmpF_ge]
 unfold densQ
 by_cases hn : nd = 0
 ·obtain ⟨h1, h2, _⟩ := h.none (checkG_ok.2 hG) hn
  subst h1 h2
  rw [if_pos hn]
  show num * 1 ≤ 0 * den ↔ _
  omega
 ·rw [if_neg hn]
  have hd := h.some (checkG_ok.2 hG) hn
  exact hd.dens.reach hd.den.1 hf.d0
theorem densG_frv {nd : Int} {es : List Pt} (hG : GrOk nd es) (set : List Int) : FrV (densG nd es set) := by
 unfold densG
 rw [if_neg (fun h => h (checkG_ok.2 hG))]
 split
 ·exact ⟨by decide, by decide, by decide, by decide, by decide⟩
 ·rename_i hm
  have h1 := insideN_le nd es set
  have h2 := edges_le hG
  have h3 : (meetL set (rangeI nd)).length ≤ 1073741824 := by
   have hl := dens_count (nd := nd) (es := es) set (fun h => h (checkG_ok.2 hG))
   have hb := onesB_bd (maskB set &&& allB nd)
   omega
  exact mkF_val om om om om
theorem coreN_leng {nd : Int} {es : List Pt} (hG : GrOk nd es) : (coreN nd es).length = nd.toNat := by
 unfold coreN
 have hr := hG.rng
 rw [if_neg (fun h => h (checkG_ok.2 hG)), coreL_len, rowsB_len]
 omega
def commG (nd : Int) (es : List Pt) (v lv : Int) : List Int := rchG nd es [v] (coreK nd es lv)
theorem rchG_len (nd : Int) (es : List Pt) (f s : List Int) : (rchG nd es f s).length ≤ 64 := by
 unfold rchG
 split
 ·simp
 ·exact listB_len _
theorem Comm_ok {nd v lv : Int} {ea : Option Addr} {ec : Nat} {es : List Pt} (hl : Sl κ I (.slice ea es.length ec) es) (hG : GrOk nd es) (hv : 0 ≤ v ∧ v < nd) (hT : TabRd κ I 0 tzCells) :
    CallS Tryz.prog κ 59 [.agg #[I64 (nd), .slice ea es.length ec], I64 (v), I64 (lv)] I (fun r J => ∃ a c, r = .tuple #[.slice a (commG nd es v lv).length c, I64 0] ∧ J = vc 3 (.slice a (commG nd es v lv).length c) (commG nd es v lv) :: I) := by
 refine Ce3 Tryz.func59 rfl rfl ?_
 refine Ah (Ge1 (Be (cs := [_, _]) rfl rfl rfl) fun b1 => Ga rfl (Ga rfl (Af (As (Ah (Gl2 ty48 ?_))))))
 refine Gc0 (Am call83 rfl rfl (CheckGen_ok (Bi hl))) ?_
 refine Ga rfl (Af (Ah (Gm rfl (Gr (Bw rfl rfl) (Af (A7 rfl (fun c14 => ?_) (fun c14 => ?_)))))))
 ·exact absurd (checkG_ok.2 hG) c14
 ·refine A4 (Aj (As (Ah (Gm rfl (Gr (A8 rfl rfl) (Gm rfl (Bd (d := 18) rfl (fun g18 => ?_) (fun g18 => ?_))))))))
  ·omega
  ·refine Gro (Ad rfl) (Gro (Ac fld48_0 rfl) (Gro (Au ty3) ?_))
   refine Gro (Cd rfl rfl) (Gr (Aq rfl rfl) (Af (Ap (S4 23 3 1 2 rfl rfl rfl rfl) (A7 rfl (fun c23 => ?_) (fun c23 => ?_)))))
   ·omega
   ·refine A4 (Aj (Ah (Gl2 ty48 ?_)))
    refine Gm rfl (G.e (Am call109 rfl rfl (CCore_ok (nd := nd) (lv := lv) (Bi hl) (Bq hT Ax))) ?_)
    rintro _ _ ⟨_, _, ⟨ad2, cp3, rfl, rfl⟩, rfl, rfl⟩
    refine Gm rfl (Gr (Az rfl rfl) (Gr (Az rfl rfl) (Ga rfl (Ga rfl (Af (As (Ah (Gm rfl (Gr (Bw rfl rfl) (Af (Ap (S5 31 10 9 3 1 rfl rfl rfl rfl rfl) (A7 rfl (fun c31 => ?_) (fun c31 => ?_)))))))))))))
    ·exact absurd (checkG_ok.2 hG) c31
    ·refine A4 (Aj (Ah (Gl2 ty48 ?_)))
     refine Gm rfl (Ge1 (B5 (α := Int) (cs := [_]) (xs := [v]) Ab ty3 rfl rfl dc dc rfl rfl rfl rfl) fun ad4 => ?_)
     refine Gm rfl (Gc2 (Am call110 rfl rfl (CReach_ok (nd := nd) (Bi hl) Bc Bc (Bq hT Ax))) fun ad5 cp6 => ?_)
     exact Gr (Az rfl rfl) (Gr (Az rfl rfl) (Ga rfl (Ga rfl (Af (Ap (S2 7 6 rfl rfl) (Ay (Cu rfl rfl rfl (vc 3 (.slice ad5 (rchG nd es ([v] : List Int) (coreK nd es lv)).length cp6) (commG nd es v lv) :: I) B6 ⟨ad5, cp6, by rw [checkG_ok.2 hG] <;> rfl, rfl⟩)))))))
theorem Truss1_ok {kd no lv num den : Int} {sa : Option Addr} {n sc b : Nat} (hb : BlkRd κ I b [I64 kd, I64 no, I64 lv, .slice sa n sc, I64 num, I64 den] 42) (t : Int) :
    CallS Tryz.prog κ 151 [I64 (t), .pointer (some ⟨b, 0, none⟩)] I (fun r J => r = .bool (decide (lv ≤ t)) ∧ I = J) := by
 refine Ce2 Tryz.func151 rfl rfl ?_
 exact Ah (Ga rfl (Af (Ah (Gm rfl (Gf fld42_2 rfl (Gr (C1 ty3 rfl (Cv hb Ax) rfl) (Gr (Cd rfl rfl) (Ga rfl (Af (Ay (A1 rfl rfl (I) Ax ⟨rfl, rfl⟩)))))))))))
theorem IndexFT_ok {v : Value} {ts : List Int} (hl : Sl κ I v ts) {kd no lv num den : Int} {sa : Option Addr} {n sc b : Nat} (hb : BlkRd κ I b [I64 kd, I64 no, I64 lv, .slice sa n sc, I64 num, I64 den] 42) :
    CallS Tryz.prog κ 223 [v, .func (.func 151) #[] #[.pointer (some ⟨b, 0, none⟩)]] I (fun r J => ∃ y : Int, r = I64 y ∧ (0 ≤ y ↔ ∃ t ∈ ts, lv ≤ t) ∧ I = J) := by
 refine B2 hl.le fun hmax => ?_
 refine Ce2 Tryz.func223 rfl rfl ?_
 refine Ah (Ga rfl (Af (As (Ah (Gm rfl (Gr (B0 (α := Int) (xs := ts) Ab rfl (Bi hl)) (Gm rfl (Af (A3 (Bx (σ := Nat) (fun s => ([(0, v), (1, .func (.func 151) #[] #[.pointer (some ⟨b, 0, none⟩)]), (7, I64 (((ts.length : Nat) : Int))), (8, I64 (((s : Nat) : Int)))] : Env)) (fun s => I) (fun s => (s ≤ ts.length) ∧ (∀ j, j < s → ¬ lv ≤ at_ ts (j : Int))) (fun s => ts.length - s) (0) (show ((0 : Nat) ≤ ts.length) ∧ (∀ j, j < (0 : Nat) → ¬ lv ≤ at_ ts (j : Int)) from ⟨om, all_zero⟩) (Aa rfl (Aa rfl (Aa rfl (Aa Ci Bj)))) (show Fit κ _ (I) from A2) ?_))))))))))
 rintro k hp
 obtain ⟨hk, hn⟩ := hp
 refine Ah (Gr (A8 rfl rfl) (Af (As (A7 rfl (fun c9 => ?_) (fun c9 => ?_)))))
 ·refine A4 (Aj (As (A3 (Ah (Gm rfl (Ga rfl (Af (Ah (Gm rfl (Gm rfl (Gm rfl (Gr (A0 (α := Int) (xs := ts) Ab ty3 rfl rfl (Bi hl) om om) (Gr (Br (xs := ts) ty3 rfl (Bi hl) om om) (Gc0 (Cp call151 rfl rfl rfl (Truss1_ok (Cv hb Ax) (at_ ts (k : Int)))) ?_))))))))))))))
  refine Af (A7 rfl (fun c16 => ?_) (fun c16 => ?_))
  ·exact Ah (Gm rfl (Ga rfl (Af (Ap (S1 4 rfl) (Ay (Ar (Ak (Ak (Ar (Ak (A1 rfl rfl (I) Ax ⟨_, rfl, ⟨fun _ => ⟨_, Ch om om, c16⟩, fun _ => by omega⟩, rfl⟩)))))))))))
  ·exact A4 (Ai (Aj (Av (Gr (Rad rfl rfl) (Gm rfl (Bh (B3 ((k + 1)) ⟨om, (Em hn c16)⟩)))))))
 ·exact Bt (Ao (Ao (A5 (Aj (Ah (Ga rfl (Af (Ay (A1 rfl rfl (I) Ax ⟨_, rfl, ⟨fun h => absurd h dc, fun ⟨t, ht, h2⟩ => by obtain ⟨q, hq, e⟩ := mem_atN ht; rw [e] at h2; exact absurd h2 (hn q om)⟩, rfl⟩)))))))))
theorem ContainsFT_ok {v : Value} {ts : List Int} (hl : Sl κ I v ts) {kd no lv num den : Int} {sa : Option Addr} {n sc b : Nat} (hb : BlkRd κ I b [I64 kd, I64 no, I64 lv, .slice sa n sc, I64 num, I64 den] 42) :
    CallS Tryz.prog κ 150 [v, .func (.func 151) #[] #[.pointer (some ⟨b, 0, none⟩)]] I (fun r J => r = .bool (decide (∃ t ∈ ts, lv ≤ t)) ∧ I = J) := by
 refine Ce2 Tryz.func150 rfl rfl ?_
 refine Ah (Ga rfl (Af (Ah (Gm rfl (Gm rfl (G.e (Am call223 rfl rfl (IndexFT_ok (Bi hl) (Cv hb Ax))) ?_))))))
 rintro _ _ ⟨_, _, ⟨y1, rfl, hy1, rfl⟩, rfl, rfl⟩
 exact Gr (Cd rfl rfl) (Ga rfl (Af (Ay (A1 rfl rfl (I) Ax ⟨by rw [decide_eq_decide.2 asm], rfl⟩))))
set_option maxHeartbeats 1000000 in
theorem Hold1_ok {nd : Int} {ea sa : Option Addr} {ec sc : Nat} {es : List Pt} {xs : List Int} (hl : Sl κ I (.slice ea es.length ec) es) (hs : Sl κ I (.slice sa xs.length sc) xs) (hG : GrOk nd es) {no lv : Int} (hno : 0 ≤ no ∧ no < nd) (hT : TabRd κ I 0 tzCells) :
    CallS Tryz.prog κ 144 [.agg #[I64 (nd), .slice ea es.length ec], .agg #[I64 (1), I64 (no), I64 (lv), .slice sa xs.length sc, I64 (0), I64 (0)]] I (fun r J => ∃ t : Bool, r = .bool t ∧ (t = true ↔ lv ≤ at_ (coreN nd es) no) ∧ I = J) := by
 have hcn := coreN_leng hG
 have hrng := hG.rng
 refine Ce2 Tryz.func144 rfl rfl ?_
 refine Ah (Ge1 (Be (cs := [_, _]) rfl rfl rfl) fun b1 => Ge1 (Be (cs := [_, _, _, _, _, _]) rfl rfl rfl) fun b2 => Ga rfl (Af (Ah (Gl2 ty48 ?_))))
 refine Gc2 (Am call104 rfl rfl (CNumbers_ok (nd := nd) (Bi hl) (Bq hT Ax))) fun ad3 cp4 => ?_
 refine Gm rfl (Gr (Az rfl rfl) (Gr (Az rfl rfl) (Ga rfl (Ga rfl (Af (As (Bk mixed (Bp (vc 3 (.slice ad3 (coreN nd es).length cp4) (coreN nd es) :: blk b2 [I64 (1), I64 (no), I64 (lv), .slice sa xs.length sc, I64 (0), I64 (0)] 42 :: blk b1 [I64 (nd), .slice ea es.length ec] 48 :: I) 13 (Dr 0 rfl (Ad rfl) (Dr 1 rfl (Bb rfl rfl) (Dr 2 rfl (Ad rfl) (Do (d := 14) rfl (fun g14 => ?_) (fun g14 => ?_)))))))))))))
 ·refine Dro 3 rfl (Ad rfl) (Dro 4 rfl (Ac fld42_1 rfl) (Dro 5 rfl (Au ty3) ?_))
  refine Dro 6 rfl (A0 (α := Int) (xs := coreN nd es) Ab ty3 rfl rfl Bc om om) (Dro 7 rfl (Br (xs := coreN nd es) ty3 rfl Bc om om) (Dro 8 rfl (Ac fld42_2 rfl) (Dro 9 rfl (Au ty3) ?_)))
  exact Dro 10 rfl (Cd rfl rfl) (Dr 11 rfl (Al rfl rfl) (Dr 12 rfl (A9 rfl) (Dz (Aj (Ap (S1 4 rfl) (Ay (A1 rfl rfl (I) Ax ⟨decide (lv ≤ (at_ (coreN nd es) no)), rfl, by rw [decide_eq_true_iff], rfl⟩)))))))
 ·exact absurd (checkG_ok.2 hG) g14
set_option maxHeartbeats 1000000 in
theorem Hold2_ok {nd : Int} {ea sa : Option Addr} {ec sc : Nat} {es : List Pt} {xs : List Int} (hl : Sl κ I (.slice ea es.length ec) es) (hs : Sl κ I (.slice sa xs.length sc) xs) (hG : GrOk nd es) {num den : Int} (hf : FrV ⟨num, den⟩) (hT : TabRd κ I 0 tzCells) :
    CallS Tryz.prog κ 145 [.agg #[I64 (nd), .slice ea es.length ec], .agg #[I64 (2), I64 (0), I64 (0), .slice sa xs.length sc, I64 (num), I64 (den)]] I (fun r J => ∃ t : Bool, r = .bool t ∧ (t = true ↔ densQ nd es num den) ∧ I = J) := by
 refine Ce2 Tryz.func145 rfl rfl ?_
 refine Ah (Ge1 (Be (cs := [_, _]) rfl rfl rfl) fun b1 => Ge1 (Be (cs := [_, _, _, _, _, _]) rfl rfl rfl) fun b2 => Ga rfl (Af (Ah (Gl2 ty48 ?_))))
 refine G.e (Am call100 rfl rfl (BestD_ok (nd := nd) (Bi hl) (Bq hT Ax))) ?_
 rintro _ _ ⟨_, _, ⟨ad3, cp4, Bqq7, ad5, cp6, ptq7, Nqq7, Dqq7, Eqq7, rfl, hBR, rfl⟩, rfl, rfl⟩
 have hfv := hBR.frv hG
 refine Gm rfl (Gr (Az rfl rfl) (Gr (Az rfl rfl) (Ge1 (Ba ty102 rfl) fun b8 => Ge0 (Ej ty102) ?_)))
 refine Ga rfl (Af (Ah (Gm rfl (Gr (Bb rfl rfl) (Gm rfl (Bd (d := 14) rfl (fun g14 => ?_) (fun g14 => ?_)))))))
 ·refine Gro (Ac fld102_1 rfl) (Gro (Bm (vs := [_, _]) ty40) ?_)
  refine Gro (Ac fld42_4 rfl) (Gro (Bm (vs := [_, _]) ty40) ?_)
  refine Cw (Bz rfl rfl rfl) (Am call101 rfl rfl (RatCmp_ok (⟨Nqq7, Dqq7⟩ : Fr) (⟨num, den⟩ : Fr) asm asm)) ?_
  rintro _ _ ⟨_, _, ⟨rfl, rfl⟩, rfl, rfl⟩
  exact Gro (Cd rfl rfl) (Gr (Al rfl rfl) (Ga rfl (Af (Ap (S1 4 rfl) (Ay (A1 rfl rfl (I) Ax ⟨decide (0 ≤ (cmpF (⟨Nqq7, Dqq7⟩ : Fr) (⟨num, den⟩ : Fr))), rfl, by rw [decide_eq_true_iff]; exact hBR.holds hG hf, rfl⟩))))))
 ·exact absurd (checkG_ok.2 hG) g14
set_option maxHeartbeats 1000000 in
theorem Hold3_ok {nd : Int} {ea sa : Option Addr} {ec sc : Nat} {es : List Pt} {xs : List Int} (hl : Sl κ I (.slice ea es.length ec) es) (hs : Sl κ I (.slice sa xs.length sc) xs) (hG : GrOk nd es) {num den : Int} (hx : 0 < xs.length ∧ xs.length ≤ 64) (hval : ValidP xs nd) (hf : FrV ⟨num, den⟩) (hT : TabRd κ I 0 tzCells) :
    CallS Tryz.prog κ 146 [.agg #[I64 (nd), .slice ea es.length ec], .agg #[I64 (3), I64 (0), I64 (0), .slice sa xs.length sc, I64 (num), I64 (den)]] I (fun r J => ∃ t : Bool, r = .bool t ∧ (t = true ↔ 0 ≤ cmpF (densG nd es xs) ⟨num, den⟩) ∧ I = J) := by
 refine Ce2 Tryz.func146 rfl rfl ?_
 refine Ah (Ge1 (Be (cs := [_, _]) rfl rfl rfl) fun b1 => Ge1 (Be (cs := [_, _, _, _, _, _]) rfl rfl rfl) fun b2 => Ga rfl (Af (Ah (Gl2 ty48 ?_))))
 refine Gf fld42_3 rfl (Gl ty22 ?_)
 refine Gc0 (Am call147 rfl rfl (DensityG_ok (nd := nd) (Bi hl) (Bi hs) (by have := edges_le hG; omega))) ?_
 refine Gm rfl (Gr (Az rfl rfl) (Gr (Az rfl rfl) (Ge1 (Ba ty40 rfl) fun b3 => Ge0 (Co ty40) ?_)))
 refine Ga rfl (Af (Ap (S3 6 5 3 rfl rfl rfl) (Ah (Gm rfl (Gr (Bb rfl rfl) (Gm rfl (Bd (d := 16) rfl (fun g16 => ?_) (fun g16 => ?_))))))))
 ·refine Gro (Bm (vs := [_, _]) ty40) ?_
  refine Gro (Ac fld42_4 rfl) (Gro (Bm (vs := [_, _]) ty40) ?_)
  refine Cw (Bz rfl rfl rfl) (Am call101 rfl rfl (RatCmp_ok (densG nd es xs) (⟨num, den⟩ : Fr) (densG_frv hG xs) asm)) ?_
  rintro _ _ ⟨_, _, ⟨rfl, rfl⟩, rfl, rfl⟩
  exact Gro (Cd rfl rfl) (Gr (Al rfl rfl) (Ga rfl (Af (Ap (S1 4 rfl) (Ay (A1 rfl rfl (I) Ax ⟨decide (0 ≤ (cmpF (densG nd es xs) (⟨num, den⟩ : Fr))), rfl, by rw [decide_eq_true_iff], rfl⟩))))))
 ·exact absurd (checkG_ok.2 hG) g16
set_option maxHeartbeats 1000000 in
theorem Hold4_ok {nd : Int} {ea sa : Option Addr} {ec sc : Nat} {es : List Pt} {xs : List Int} (hl : Sl κ I (.slice ea es.length ec) es) (hs : Sl κ I (.slice sa xs.length sc) xs) (hG : GrOk nd es) {lv : Int}  (hT : TabRd κ I 0 tzCells) :
    CallS Tryz.prog κ 148 [.agg #[I64 (nd), .slice ea es.length ec], .agg #[I64 (4), I64 (0), I64 (lv), .slice sa xs.length sc, I64 (0), I64 (0)]] I (fun r J => ∃ t : Bool, r = .bool t ∧ (t = true ↔ ∃ t ∈ trussG nd es, lv ≤ t) ∧ I = J) := by
 have hbE : es.length ≤ 1000000 := by have := edges_le hG; omega
 refine Ce2 Tryz.func148 rfl rfl ?_
 refine Ah (Ge1 (Be (cs := [_, _]) rfl rfl rfl) fun b1 => Ge1 (Be (cs := [_, _, _, _, _, _]) rfl rfl rfl) fun b2 => Ga rfl (Af (Ah (Gl2 ty48 ?_))))
 refine G.e (Am call149 rfl rfl (TNumbers_ok (nd := nd) (Bi hl) om (Bq hT Ax))) ?_
 rintro _ _ ⟨_, _, ⟨ad3, cp4, rfl, rfl⟩, rfl, rfl⟩
 refine Gm rfl (Gr (Az rfl rfl) (Gr (Az rfl rfl) (Ga rfl (Ga rfl (Af (Ah (Gm rfl (Gr (Bb rfl rfl) (Gm rfl (Bd (d := 14) rfl (fun g14 => ?_) (fun g14 => ?_)))))))))))
 ·refine Gro (Ad rfl) (Gro (Dw rfl rfl) (Cw (Bz rfl rfl rfl) (Am call150 rfl rfl (ContainsFT_ok Bc (Dh mm))) ?_))
  rintro _ _ ⟨_, _, ⟨rfl, rfl⟩, rfl, rfl⟩
  exact Gr (Al rfl rfl) (Ga rfl (Af (Ap (S1 4 rfl) (Ay (A1 rfl rfl (I) Ax ⟨decide (∃ t ∈ (trussG nd es), lv ≤ t), rfl, by rw [decide_eq_true_iff], rfl⟩)))))
 ·exact absurd (checkG_ok.2 hG) g14
set_option maxHeartbeats 1000000 in
theorem Hold5_ok {nd : Int} {ea sa : Option Addr} {ec sc : Nat} {es : List Pt} {xs : List Int} (hl : Sl κ I (.slice ea es.length ec) es) (hs : Sl κ I (.slice sa xs.length sc) xs) (hG : GrOk nd es) {lv : Int} (hx : 0 < xs.length ∧ xs.length ≤ 64) (hval : ValidP xs nd) (hT : TabRd κ I 0 tzCells) :
    CallS Tryz.prog κ 152 [.agg #[I64 (nd), .slice ea es.length ec], .agg #[I64 (5), I64 (0), I64 (lv), .slice sa xs.length sc, I64 (0), I64 (0)]] I (fun r J => ∃ t : Bool, r = .bool t ∧ (t = true ↔ ∀ x ∈ xs, x ∈ commG nd es (at_ xs 0) lv) ∧ I = J) := by
 refine Ce2 Tryz.func152 rfl rfl ?_
 refine Ah (Ge1 (Be (cs := [_, _]) rfl rfl rfl) fun b1 => Ge1 (Be (cs := [_, _, _, _, _, _]) rfl rfl rfl) fun b2 => Ga rfl (Af (As (Bk mixed (Bp (blk b2 [I64 (5), I64 (0), I64 (lv), .slice sa xs.length sc, I64 (0), I64 (0)] 42 :: blk b1 [I64 (nd), .slice ea es.length ec] 48 :: I) 13 (Dr 0 rfl (Bm (vs := [_, _]) ty48) ?_))))))
 refine Dr 1 rfl (Ac fld42_3 rfl) (Dr 2 rfl (Au ty22) ?_)
 refine Dr 3 rfl (A0 (α := Int) (xs := xs) Ab ty3 rfl rfl (Bi hs) om om) (Dr 4 rfl (Br (xs := xs) ty3 rfl (Bi hs) om om) (Dr 5 rfl (Ac fld42_2 rfl) (Dr 6 rfl (Au ty3) ?_)))
 refine Ds1 7 (Se rfl (Am call59 rfl rfl (Comm_ok (nd := nd) (v := at_ xs 0) (lv := lv) (Bi hl) hG (by have h := (hval 0 om).1; exact h) (Bq hT Ax))) ?_)
 rintro _ _ ⟨_, _, ⟨ad3, cp4, rfl, rfl⟩, rfl, rfl⟩
 refine ⟨A2, ?_⟩
 refine Dr 8 rfl (Ad rfl) (Dr 9 rfl (Az rfl rfl) (Dr 10 rfl (Az rfl rfl) (Dr 11 rfl (A9 rfl) (Dr 12 rfl (A9 rfl) (Dz (Aj (Ap (S3 6 5 3 rfl rfl rfl) (Ah (Gm rfl (Gr (Bb rfl rfl) (Gm rfl (Bd (d := 20) rfl (fun g20 => ?_) (fun g20 => ?_)))))))))))))
 ·refine Gro (Ac fld42_3 rfl) (Gro (Au ty22) ?_)
  refine Gro (Ad rfl) (Cw (Bz rfl rfl rfl) (Am call102 rfl rfl (WithinI_ok (Bi hs) Bc om (by have := rchG_len nd es [at_ xs 0] (coreK nd es lv); show (rchG _ _ _ _).length ≤ _; omega))) ?_)
  rintro _ _ ⟨_, _, ⟨rfl, rfl⟩, rfl, rfl⟩
  exact Gr (Al rfl rfl) (Ga rfl (Af (Ay (A1 rfl rfl (I) Ax ⟨decide (∀ x ∈ xs, x ∈ (commG nd es (at_ xs 0) lv)), rfl, by rw [decide_eq_true_iff], rfl⟩))))
 ·exact absurd rfl g20
end Go.Sl
namespace Go.Sl
structure Rg where
 tm : Int
 al : Int
 on : Bool
deriving DecidableEq
instance : Inhabited Rg := ⟨⟨0, 0, false⟩⟩
def ring1 (t : Int) (h : Nat → Bool) (st : List Bool × List Rg) (i : Nat) : List Bool × List Rg := if h i = at_ st.1 (i : Int) then st else (st.1.set i (h i), st.2 ++ [⟨t, (i : Int), h i⟩])
def ringK (t : Int) (h : Nat → Bool) (k : Nat) (st : List Bool × List Rg) : List Bool × List Rg := (List.range k).foldl (ring1 t h) st
def ringS (H : Int → Nat → Bool) (n : Nat) (ts : List Int) : List Bool × List Rg := ts.foldl (fun st t => ringK t (H t) n st) (List.replicate n false, [])
theorem ringK_succ (t : Int) (h : Nat → Bool) (k : Nat) (st : List Bool × List Rg) : ringK t h (k + 1) st = ring1 t h (ringK t h k st) k := by
 unfold ringK; rw [List.range_succ, List.foldl_append]; rfl
theorem ringS_take {H : Int → Nat → Bool} {n : Nat} {ts : List Int} {k : Nat} (hk : k < ts.length) : ringS H n (ts.take (k + 1)) = ringK (at_ ts (k : Int)) (H (at_ ts (k : Int))) n (ringS H n (ts.take k)) := by
 unfold ringS; rw [take_at ts k hk, List.foldl_append]; rfl
def relR (p : Nat → Bool) (t : Int) (h : Nat → Bool) (n : Nat) : List Rg := ((List.range n).filter fun (i : Nat) => h i != p i).map fun (i : Nat) => (⟨t, (i : Int), h i⟩ : Rg)
def relA (H : Int → Nat → Bool) (n : Nat) : (Nat → Bool) → List Int → List Rg
 | _, [] => []
 | p, t :: ts => relR p t (H t) n ++ relA H n (H t) ts
theorem ringK_eq (t : Int) (h : Nat → Bool) {n : Nat} {on : List Bool} {out : List Rg} (hl : on.length = n) {p : Nat → Bool} (hp : ∀ i, i < n → at_ on (i : Int) = p i) : ∀ k, k ≤ n →
  (ringK t h k (on, out)).1.length = n ∧ (∀ i, i < n → at_ (ringK t h k (on, out)).1 (i : Int) = if i < k then h i else p i) ∧ (ringK t h k (on, out)).2 = out ++ relR p t h k
 | 0, _ => ⟨hl, fun i hi => by rw [if_neg (by omega)]; exact hp i hi, by simp [ringK, relR]⟩
 | k + 1, hk => by
  obtain ⟨h1, h2, h3⟩ := ringK_eq t h (out := out) hl hp k (by omega)
  have h2k := h2 k (by omega)
  rw [if_neg (by omega)] at h2k
  rw [ringK_succ]
  unfold ring1
  have hr : relR p t h (k + 1) = relR p t h k ++ if h k != p k then [⟨t, (k : Int), h k⟩] else [] := by
   unfold relR
   rw [List.range_succ, List.filter_append, List.map_append]
   congr 1
   cases hc : (h k != p k) <;> simp [List.filter_cons, hc]
  by_cases he : h k = at_ (ringK t h k (on, out)).1 (k : Int)
  ·rw [if_pos he]
   rw [h2k] at he
   refine ⟨h1, fun i hi => ?_, ?_⟩
   ·rw [h2 i hi]
    by_cases hik : i = k
    ·subst hik; rw [if_neg (by omega), if_pos (by omega)]; exact he.symm
    ·by_cases hlt : i < k
     ·rw [if_pos hlt, if_pos (by omega)]
     ·rw [if_neg hlt, if_neg (by omega)]
   ·rw [h3, hr, he]; simp
  ·rw [if_neg he]
   rw [h2k] at he
   refine ⟨by rw [List.length_set]; exact h1, fun i hi => ?_, ?_⟩
   ·show at_ ((ringK t h k (on, out)).1.set k (h k)) (i : Int) = _
    rw [at_setn _ _ _ _ (by rw [h1]; omega)]
    by_cases hik : k = i
    ·subst hik; rw [if_pos rfl, if_pos (by omega)]
    ·rw [if_neg hik, h2 i hi]
     by_cases hlt : i < k
     ·rw [if_pos hlt, if_pos (by omega)]
     ·rw [if_neg hlt, if_neg (by omega)]
   ·show (ringK t h k (on, out)).2 ++ _ = _
    rw [h3, hr, List.append_assoc]
    have hb : (h k != p k) = true := by simpa using he
    rw [if_pos hb]
theorem ringS_from (H : Int → Nat → Bool) (n : Nat) : ∀ (ts : List Int) (on : List Bool) (out : List Rg) (p : Nat → Bool), on.length = n → (∀ i, i < n → at_ on (i : Int) = p i) → (ts.foldl (fun st t => ringK t (H t) n st) (on, out)).2 = out ++ relA H n p ts
 | [], on, out, p, _, _ => by simp [relA]
 | t :: ts, on, out, p, hl, hp => by
  obtain ⟨h1, h2, h3⟩ := ringK_eq t (H t) (out := out) hl hp n (Nat.le_refl _)
  rw [List.foldl_cons]
  have h4 := ringS_from H n ts (ringK t (H t) n (on, out)).1 (ringK t (H t) n (on, out)).2 (H t) h1 fun i hi => by rw [h2 i hi, if_pos hi]
  rw [Prod.eta] at h4
  rw [h4, h3, List.append_assoc]; rfl
theorem ringS_eq (H : Int → Nat → Bool) (n : Nat) (ts : List Int) : (ringS H n ts).2 = relA H n (fun _ => false) ts := by
 unfold ringS
 rw [ringS_from H n ts _ [] (fun _ => false) List.length_replicate fun i hi => at_rep _ _ _ (by omega) (by omega)]; rfl
end Go.Sl
namespace Go.Sl
open Go.Proofs
set_option maxRecDepth 4000
structure AlV where
 kd : Int
 no : Int
 lv : Int
 a : Option Addr
 c : Nat
 xs : List Int
 num : Int
 den : Int
instance : Inhabited AlV := ⟨⟨0, 0, 0, none, 0, [], 0, 0⟩⟩
instance : Enc AlV := ⟨fun r => [I64 r.kd, I64 r.no, I64 r.lv, .slice r.a r.xs.length r.c, I64 r.num, I64 r.den], 6, by omega, fun _ => rfl, fun r u hu => by
 simp only [List.mem_cons, List.not_mem_nil, or_false] at hu
 rcases hu with rfl | rfl | rfl | rfl | rfl | rfl <;> rfl⟩
def AlV.cells (x : AlV) : Value := .agg #[I64 x.kd, I64 x.no, I64 x.lv, .slice x.a x.xs.length x.c, I64 x.num, I64 x.den]
structure AlOk (n : Int) (x : AlV) : Prop where
 kind : 1 ≤ x.kd ∧ x.kd ≤ 5
 k1 : x.kd = 1 → (0 ≤ x.no ∧ x.no < n) ∧ (0 ≤ x.lv ∧ x.lv ≤ 64) ∧ x.xs = [] ∧ x.num = 0 ∧ x.den = 0
 k2 : x.kd = 2 → x.no = 0 ∧ x.lv = 0 ∧ x.xs = [] ∧ FrV ⟨x.num, x.den⟩
 k3 : x.kd = 3 → x.no = 0 ∧ x.lv = 0 ∧ (0 < x.xs.length ∧ x.xs.length ≤ 64) ∧ ValidP x.xs n ∧ FrV ⟨x.num, x.den⟩
 k4 : x.kd = 4 → x.no = 0 ∧ (0 ≤ x.lv ∧ x.lv ≤ 64) ∧ x.xs = [] ∧ x.num = 0 ∧ x.den = 0
 k5 : x.kd = 5 → x.no = 0 ∧ (0 ≤ x.lv ∧ x.lv ≤ 64) ∧ (0 < x.xs.length ∧ x.xs.length ≤ 64) ∧ ValidP x.xs n ∧ x.num = 0 ∧ x.den = 0
def condP (nd : Int) (es : List Pt) (x : AlV) : Prop :=
 if x.kd = 1 then x.lv ≤ at_ (coreN nd es) x.no else if x.kd = 2 then densQ nd es x.num x.den else if x.kd = 3 then 0 ≤ cmpF (densG nd es x.xs) ⟨x.num, x.den⟩
 else if x.kd = 4 then ∃ t ∈ trussG nd es, x.lv ≤ t else ∀ y ∈ x.xs, y ∈ commG nd es (at_ x.xs 0) x.lv
noncomputable def holdV (nd : Int) (es : List Pt) (x : AlV) : Bool := @decide (condP nd es x) (Classical.propDecidable _)
theorem holdV_iff (nd : Int) (es : List Pt) (x : AlV) : holdV nd es x = true ↔ condP nd es x := by unfold holdV; exact @decide_eq_true_iff _ (Classical.propDecidable _)
def fK (kd : Int) : FuncId := if kd = 1 then 144 else if kd = 2 then 145 else if kd = 3 then 146 else if kd = 4 then 148 else 152
def kindV (kd : Int) : Value := .agg #[.bool (decide (kd = 1)), .bool (decide (kd = 1 ∨ kd = 4 ∨ kd = 5)), .bool (decide (kd = 3 ∨ kd = 5)), .bool (decide (kd = 2 ∨ kd = 3)), .func (.func (fK kd)) #[] #[]]
theorem fieldK (a b c d f : Value) (w : World) : (Instr.field 132 (.agg #[a, b, c, d, f]) 4).run Tryz.prog w = .ok f w := by kernel_rfl
theorem fK_call {kd : Int} (h : 1 ≤ kd ∧ kd ≤ 5) : callable Tryz.prog (fK kd) = true := by
 obtain h | h | h | h | h : kd = 1 ∨ kd = 2 ∨ kd = 3 ∨ kd = 4 ∨ kd = 5 := by omega
 all_goals subst h
 ·exact call144
 ·exact call145
 ·exact call146
 ·exact call148
 ·exact call152
section
variable {P : Program} {κ : Ctx} {N : Frm} {L : Env} {J : List Item} {d : Option Tmp} {ty : TypeId} {ps : String} {af : Array Edge} {gd : Option (Nat × Bool)}
theorem Runs.eqFn {x y : Operand} {T U : TypeId} {f : FuncId} (hT : ∀ w : World, (binOp .eql T (.func (.func f) #[] #[]) .nilFunc).run P w = .ok (.bool false) w) (hx : evalO L x = some (.func (.func f) #[] #[])) (hy : evalO L y = some .nilFunc) :
  Runs P κ N ⟨d, .binOp .eql T x y U, ty, ps, af, gd⟩ L J (.bool false) := fun a w ha _ => by
 have hg : (eqGuard .eql T x y (.func (.func f) #[] #[]) .nilFunc).run P w = .ok () w := by simp [eqGuard]
 simp only [execOp, ha.eval hx, ha.eval hy]
 simp [hg, hT w]
theorem Runs.fieldV {x : Operand} {T : TypeId} {k : Nat} {v u : Value} (hT : ∀ w : World, (Instr.field T v k).run P w = .ok u w) (hx : evalO L x = some v) : Runs P κ N ⟨d, .field T x k, ty, ps, af, gd⟩ L J u := fun a w ha _ => by
 simp only [execOp, ha.eval hx]
 simp [hT w]
end
theorem Of1_ok {κ : Ctx} {I : List Item}  :
    CallS Tryz.prog κ 81 [I64 (1)] I (fun r J => r = .agg #[.bool true, .bool true, .bool false, .bool false, .func (.func 144) #[] #[]] ∧ I = J) := by
 refine Ce1 Tryz.func81 rfl rfl ?_
 refine Ah (Ge1 (Ba ty132 rfl) fun b1 => Af (As (Ah (Gm rfl (Af (A3 (Ah (Gr (Bb rfl rfl) (Ga rfl (Af (A7 rfl (fun c4 => ?_) (fun c4 => ?_))))))))))))
 ·refine Ah (Gr (Bf (cells := [_, _, _, _, _]) ty132 D1 pl132 rfl rfl) (Ge0 (Ej ty132) ?_))
  exact Af (Ay (Ar (Ak (Du rfl ty132 rfl mm rfl (I) Ax ⟨rfl, rfl⟩))))
 ·exact absurd rfl c4
theorem Of2_ok {κ : Ctx} {I : List Item}  :
    CallS Tryz.prog κ 81 [I64 (2)] I (fun r J => r = .agg #[.bool false, .bool false, .bool false, .bool true, .func (.func 145) #[] #[]] ∧ I = J) := by
 refine Ce1 Tryz.func81 rfl rfl ?_
 refine Ah (Ge1 (Ba ty132 rfl) fun b1 => Af (As (Ah (Gm rfl (Af (A3 (Ah (Gr (Bb rfl rfl) (Ga rfl (Af (A7 rfl (fun c4 => ?_) (fun c4 => ?_))))))))))))
 ·exact absurd c4 dc
 ·refine Ah (Gr (Bb rfl rfl) (Ga rfl (Af (A7 rfl (fun c7 => ?_) (fun c7 => ?_)))))
  ·refine Ah (Gr (Bf (cells := [_, _, _, _, _]) ty132 D1 pl132 rfl rfl) (Ge0 (Ej ty132) ?_))
   exact Af (Ay (Ar (Ak (Du rfl ty132 rfl mm rfl (I) Ax ⟨rfl, rfl⟩))))
  ·exact absurd rfl c7
theorem Of3_ok {κ : Ctx} {I : List Item}  :
    CallS Tryz.prog κ 81 [I64 (3)] I (fun r J => r = .agg #[.bool false, .bool false, .bool true, .bool true, .func (.func 146) #[] #[]] ∧ I = J) := by
 refine Ce1 Tryz.func81 rfl rfl ?_
 refine Ah (Ge1 (Ba ty132 rfl) fun b1 => Af (As (Ah (Gm rfl (Af (A3 (Ah (Gr (Bb rfl rfl) (Ga rfl (Af (A7 rfl (fun c4 => ?_) (fun c4 => ?_))))))))))))
 ·exact absurd c4 dc
 ·refine Ah (Gr (Bb rfl rfl) (Ga rfl (Af (A7 rfl (fun c7 => ?_) (fun c7 => ?_)))))
  ·exact absurd c7 dc
  ·refine Ah (Gr (Bb rfl rfl) (Ga rfl (Af (A7 rfl (fun c10 => ?_) (fun c10 => ?_)))))
   ·refine Ah (Gr (Bf (cells := [_, _, _, _, _]) ty132 D1 pl132 rfl rfl) (Ge0 (Ej ty132) ?_))
    exact Af (Ay (Ar (Ak (Du rfl ty132 rfl mm rfl (I) Ax ⟨rfl, rfl⟩))))
   ·exact absurd rfl c10
theorem Of4_ok {κ : Ctx} {I : List Item}  :
    CallS Tryz.prog κ 81 [I64 (4)] I (fun r J => r = .agg #[.bool false, .bool true, .bool false, .bool false, .func (.func 148) #[] #[]] ∧ I = J) := by
 refine Ce1 Tryz.func81 rfl rfl ?_
 refine Ah (Ge1 (Ba ty132 rfl) fun b1 => Af (As (Ah (Gm rfl (Af (A3 (Ah (Gr (Bb rfl rfl) (Ga rfl (Af (A7 rfl (fun c4 => ?_) (fun c4 => ?_))))))))))))
 ·exact absurd c4 dc
 ·refine Ah (Gr (Bb rfl rfl) (Ga rfl (Af (A7 rfl (fun c7 => ?_) (fun c7 => ?_)))))
  ·exact absurd c7 dc
  ·refine Ah (Gr (Bb rfl rfl) (Ga rfl (Af (A7 rfl (fun c10 => ?_) (fun c10 => ?_)))))
   ·exact absurd c10 dc
   ·refine Ah (Gr (Bb rfl rfl) (Ga rfl (Af (A7 rfl (fun c13 => ?_) (fun c13 => ?_)))))
    ·refine Ah (Gr (Bf (cells := [_, _, _, _, _]) ty132 D1 pl132 rfl rfl) (Ge0 (Ej ty132) ?_))
     exact Af (Ay (Ar (Ak (Du rfl ty132 rfl mm rfl (I) Ax ⟨rfl, rfl⟩))))
    ·exact absurd rfl c13
theorem Of5_ok {κ : Ctx} {I : List Item}  :
    CallS Tryz.prog κ 81 [I64 (5)] I (fun r J => r = .agg #[.bool false, .bool true, .bool true, .bool false, .func (.func 152) #[] #[]] ∧ I = J) := by
 refine Ce1 Tryz.func81 rfl rfl ?_
 refine Ah (Ge1 (Ba ty132 rfl) fun b1 => Af (As (Ah (Gm rfl (Af (A3 (Ah (Gr (Bb rfl rfl) (Ga rfl (Af (A7 rfl (fun c4 => ?_) (fun c4 => ?_))))))))))))
 ·exact absurd c4 dc
 ·refine Ah (Gr (Bb rfl rfl) (Ga rfl (Af (A7 rfl (fun c7 => ?_) (fun c7 => ?_)))))
  ·exact absurd c7 dc
  ·refine Ah (Gr (Bb rfl rfl) (Ga rfl (Af (A7 rfl (fun c10 => ?_) (fun c10 => ?_)))))
   ·exact absurd c10 dc
   ·refine Ah (Gr (Bb rfl rfl) (Ga rfl (Af (A7 rfl (fun c13 => ?_) (fun c13 => ?_)))))
    ·exact absurd c13 dc
    ·refine Ah (Gr (Bb rfl rfl) (Ga rfl (Af (A7 rfl (fun c16 => ?_) (fun c16 => ?_)))))
     ·refine Ah (Gr (Bf (cells := [_, _, _, _, _]) ty132 D1 pl132 rfl rfl) (Ge0 (Ej ty132) ?_))
      exact Af (Ap (S1 2 rfl) (Ay (Ar (Ak (Du rfl ty132 rfl mm rfl (I) Ax ⟨rfl, rfl⟩)))))
     ·exact absurd rfl c16
theorem OfAny_ok {κ : Ctx} {I : List Item} {kd : Int} (h : 1 ≤ kd ∧ kd ≤ 5) : CallS Tryz.prog κ 81 [I64 kd] I fun r J => r = kindV kd ∧ I = J := by
 obtain h | h | h | h | h : kd = 1 ∨ kd = 2 ∨ kd = 3 ∨ kd = 4 ∨ kd = 5 := by omega
 all_goals subst h
 ·exact Of1_ok
 ·exact Of2_ok
 ·exact Of3_ok
 ·exact Of4_ok
 ·exact Of5_ok
set_option maxHeartbeats 1000000 in
theorem Check1_ok {κ : Ctx} {I : List Item} {n : Int} {sa : Option Addr} {sc : Nat} {xs : List Int} (hs : Sl κ I (.slice sa xs.length sc) xs) {no lv : Int} (hno : 0 ≤ no ∧ no < n) (hlv : 0 ≤ lv ∧ lv ≤ 64) (hx : xs.length = 0) :
    CallS Tryz.prog κ 37 [.agg #[I64 (1), I64 (no), I64 (lv), .slice sa xs.length sc, I64 (0), I64 (0)], I64 (n)] I (fun r J => r = I64 0 ∧ I = J) := by
 refine Ce2 Tryz.func37 rfl rfl ?_
 refine Ah (Ge1 (Be (cs := [_, _, _, _, _, _]) rfl rfl rfl) fun b1 => Ga rfl (Af (Ah (Gf fld42_0 rfl (Gl ty3 ?_)))))
 refine G.e (Am call81 rfl rfl Of1_ok) ?_
 rintro _ _ ⟨_, _, ⟨rfl, rfl⟩, rfl, rfl⟩
 refine Ge1 (Ba ty132 rfl) fun b2 => Ge0 (Ej ty132) ?_
 refine Af (As (A3 (Ah (Gf fld132_4 rfl (Gl ty130 ?_)))))
 refine Gr (Runs.eqFn (fun w => by kernel_rfl) rfl rfl) (Ga rfl (Af (Dj rfl (Ah (Gf fld132_0 rfl (Gl ty4 ?_))))))
 refine Gm rfl (Gro (Ac fld42_1 rfl) (Gro (Au ty3) ?_))
 refine Gro (A8 rfl rfl) (Gro (Ad rfl) (Bd (d := 20) rfl (fun g20 => ?_) (fun g20 => ?_)))
 ·refine Gpo (Gpo (Gpo (Gpo (Gro (Al rfl rfl) (Gr (Al rfl rfl) (Gm rfl (Gpo (Gpo (Gpo (Gpu (Gpu (Gpu (Gpu (Gpu (Gpu (Gpu (Gpu (Gpu (Gpu (Gpu (Gpo (Gr (Al rfl rfl) (Ga rfl (Af (Ap (S3 13 5 2 rfl rfl rfl) (Cn rfl (Ah (Ga rfl (Af (Ay (Ar (Ak ?_))))))))))))))))))))))))))))))))
  first | (exfalso; omega) | (exfalso; exact absurd hval asm) | (exfalso; exact absurd rfl asm) | contradiction | (exfalso; simp_all; done)
 ·refine Gro (Ac fld42_1 rfl) (Gro (Au ty3) ?_)
  refine Gro (Ad rfl) (Gro (Cd rfl rfl) (Gro (Aq rfl rfl) (Gr (Al rfl rfl) (Gm rfl (Bd (d := 27) rfl (fun g27 => ?_) (fun g27 => ?_))))))
  ·refine Gpo (Gpo (Gpo (Gpu (Gpu (Gpu (Gpu (Gpu (Gpu (Gpu (Gpu (Gpu (Gpu (Gpu (Gpo (Gr (Al rfl rfl) (Ga rfl (Af (Ap (S3 13 5 2 rfl rfl rfl) (Cn rfl (Ah (Ga rfl (Af (Ay (Ar (Ak ?_)))))))))))))))))))))))))
   first | (exfalso; omega) | (exfalso; exact absurd hval asm) | (exfalso; exact absurd rfl asm) | contradiction | (exfalso; simp_all; done)
  ·refine Gro (Ac fld132_2 rfl) (Gro (Au ty4) ?_)
   refine Gro (Ad rfl) (Gpo (Gpo (Gpo (Gpo (Gpo (Gpu (Gpu (Gpu (Gpu (Gpu (Gpo (Gro (Aq rfl rfl) (Gr (Aq rfl rfl) (Ga rfl (Af (Ap (S3 13 5 2 rfl rfl rfl) (Dj rfl (Ah (Gf fld132_1 rfl (Gl ty4 ?_))))))))))))))))))))
   refine Gm rfl (Gro (Ac fld42_2 rfl) (Gro (Au ty3) ?_))
   refine Gro (A8 rfl rfl) (Gro (Ad rfl) (Bd (d := 51) rfl (fun g51 => ?_) (fun g51 => ?_)))
   ·refine Gpo (Gpo (Gpo (Gro (Al rfl rfl) (Gr (Al rfl rfl) (Gm rfl (Gpo (Gpo (Gpo (Gpu (Gpu (Gpu (Gpu (Gpu (Gpu (Gpu (Gpu (Gpu (Gpu (Gpo (Gr (Al rfl rfl) (Ga rfl (Af (Ap (S3 44 5 2 rfl rfl rfl) (Cn rfl (Ah (Ga rfl (Af (Ay (Ar (Ak ?_))))))))))))))))))))))))))))))
    first | (exfalso; omega) | (exfalso; exact absurd hval asm) | (exfalso; exact absurd rfl asm) | contradiction | (exfalso; simp_all; done)
   ·refine Gro (Ac fld42_2 rfl) (Gro (Au ty3) ?_)
    refine Gro (B7 rfl rfl) (Gro (Aq rfl rfl) (Gr (Al rfl rfl) (Gm rfl (Bd (d := 57) rfl (fun g57 => ?_) (fun g57 => ?_)))))
    ·refine Gpo (Gpo (Gpo (Gpu (Gpu (Gpu (Gpu (Gpu (Gpu (Gpu (Gpu (Gpu (Gpu (Gpo (Gr (Al rfl rfl) (Ga rfl (Af (Ap (S3 44 5 2 rfl rfl rfl) (Cn rfl (Ah (Ga rfl (Af (Ay (Ar (Ak ?_))))))))))))))))))))))))
     first | (exfalso; omega) | (exfalso; exact absurd hval asm) | (exfalso; exact absurd rfl asm) | contradiction | (exfalso; simp_all; done)
    ·refine Gro (Ac fld132_3 rfl) (Gro (Au ty4) ?_)
     refine Gro (Ad rfl) (Gpo (Gpo (Gpo (Gpo (Gpo (Gpu (Gpu (Gpu (Gpu (Gpo (Gro (Aq rfl rfl) (Gr (Aq rfl rfl) (Ga rfl (Af (Ap (S3 44 5 2 rfl rfl rfl) (Dj rfl (Ah (Gf fld132_0 rfl (Gl ty4 ?_)))))))))))))))))))
     refine Gr (B1 rfl) (Gm rfl (Gpo (Gpo (Gpo (Gr (Aq rfl rfl) (Gm rfl (Gro (Ac fld132_2 rfl) (Gro (Au ty4) ?_))))))))
     refine Gro (B1 rfl) (Gro (Ad rfl) (Gro (Ac fld42_3 rfl) (Gro (Au ty22) ?_)))
     refine Gro (Bl Ab rfl) (Gro (B7 rfl rfl) (Gro (Al rfl rfl) (Gr (Aq rfl rfl) (Gm rfl (Bd (d := 93) rfl (fun g93 => ?_) (fun g93 => ?_))))))
     ·refine Gpo (Gpo (Gpo (Gpo (Gpu (Gpu (Gpu (Gpo (Gr (Al rfl rfl) (Gm rfl (Gpo (Gpo (Gpo (Gpo (Gpu (Gpu (Gpu (Gpu (Gpo (Gr (Al rfl rfl) (Ga rfl (Af (Ap (S1 73 rfl) (Cn rfl (Ah (Ga rfl (Af (Ay (Ar (Ak ?_)))))))))))))))))))))))))))))
      first | (exfalso; omega) | (exfalso; exact absurd hval asm) | (exfalso; exact absurd rfl asm) | contradiction | (exfalso; simp_all; done)
     ·refine Gro (Ac fld132_1 rfl) (Gro (Au ty4) ?_)
      refine Gro (B1 rfl) (Gro (Ad rfl) (Gpo (Gpo (Gpo (Gro (Aq rfl rfl) (Gr (Aq rfl rfl) (Gm rfl (Gro (Ac fld132_3 rfl) (Gro (Au ty4) ?_)))))))))
      refine Gro (B1 rfl) (Gro (Ad rfl) (Gro (Ac fld42_4 rfl) (Gro (Bm (vs := [_, _]) ty40) ?_)))
      refine Gro (Bf (cells := [_, _]) ty40 Cb pl40 rfl rfl) (Gro (Runs.neqT (α := Fr) (a := (⟨0, 0⟩ : Fr)) (b := (⟨0, 0⟩ : Fr)) eqt40 rfl rfl) (Gro (Al rfl rfl) (Gr (Aq rfl rfl) (Ga rfl (Af (Ap (S1 73 rfl) (A7 rfl (fun c73 => ?_) (fun c73 => ?_))))))))
      ·refine Ah (Ga rfl (Af (Ay (Ar (Ak ?_)))))
       first | (exfalso; omega) | (exfalso; exact absurd hval asm) | (exfalso; exact absurd rfl asm) | contradiction | (exfalso; simp_all; done)
      ·exact A4 (Ai (Aj (Ah (Ga rfl (Af (Ay (A1 rfl rfl (I) Ax ⟨rfl, rfl⟩)))))))
set_option maxHeartbeats 1000000 in
theorem Check2_ok {κ : Ctx} {I : List Item} {n : Int} {sa : Option Addr} {sc : Nat} {xs : List Int} (hs : Sl κ I (.slice sa xs.length sc) xs) {num den : Int} (hx : xs.length = 0) (hf : FrV ⟨num, den⟩) :
    CallS Tryz.prog κ 37 [.agg #[I64 (2), I64 (0), I64 (0), .slice sa xs.length sc, I64 (num), I64 (den)], I64 (n)] I (fun r J => r = I64 0 ∧ I = J) := by
 have hfn : 0 ≤ num := hf.n0
 refine Ce2 Tryz.func37 rfl rfl ?_
 refine Ah (Ge1 (Be (cs := [_, _, _, _, _, _]) rfl rfl rfl) fun b1 => Ga rfl (Af (Ah (Gf fld42_0 rfl (Gl ty3 ?_)))))
 refine Gc0 (Am call81 rfl rfl Of2_ok) ?_
 refine Ge1 (Ba ty132 rfl) fun b2 => Ge0 (Ej ty132) ?_
 refine Af (As (A3 (Ah (Gf fld132_4 rfl (Gl ty130 ?_)))))
 refine Gr (Runs.eqFn (fun w => by kernel_rfl) rfl rfl) (Ga rfl (Af (Dj rfl (Ah (Gf fld132_0 rfl (Gl ty4 ?_))))))
 refine Gm rfl (Gpo (Gpo (Gpo (Gpo (Gpu (Gpu (Gpu (Gpu (Gpo (Gr (Aq rfl rfl) (Gm rfl (Gro (Ac fld132_2 rfl) (Gro (Au ty4) ?_)))))))))))))
 refine Gro (Ad rfl) (Gpo (Gpo (Gpo (Gpo (Gpo (Gpu (Gpu (Gpu (Gpu (Gpu (Gpo (Gro (Aq rfl rfl) (Gr (Aq rfl rfl) (Ga rfl (Af (Ap (S3 13 5 2 rfl rfl rfl) (Dj rfl (Ah (Gf fld132_1 rfl (Gl ty4 ?_))))))))))))))))))))
 refine Gm rfl (Gpo (Gpo (Gpo (Gpo (Gpu (Gpu (Gpu (Gpo (Gr (Aq rfl rfl) (Gm rfl (Gro (Ac fld132_3 rfl) (Gro (Au ty4) ?_))))))))))))
 refine Gro (Ad rfl) (Gro (Ac fld42_4 rfl) (Gro (Bm (vs := [_, _]) ty40) ?_))
 refine Cw (Bz rfl rfl rfl) (Am call89 rfl rfl (RatValid_ok (⟨num, den⟩ : Fr) asm)) ?_
 rintro _ _ ⟨_, _, ⟨rfl, rfl⟩, rfl, rfl⟩
 refine Gro (B1 rfl) (Gro (Ad rfl) (Gro (Ac fld42_4 rfl) (Gro (Ac fld40_0 rfl) (Gro (Au ty3) ?_))))
 refine Gro (A8 rfl rfl) (Gro (Aq rfl rfl) (Gro (Al rfl rfl) (Gr (Aq rfl rfl) (Ga rfl (Af (Ap (S3 44 5 2 rfl rfl rfl) (A7 rfl (fun c44 => ?_) (fun c44 => ?_))))))))
 ·refine Ah (Ga rfl (Af (Ay (Ar (Ak ?_)))))
  first | (exfalso; omega) | (exfalso; exact absurd hval asm) | (exfalso; exact absurd rfl asm) | contradiction | (exfalso; simp_all; done)
 ·refine Ah (Gf fld132_0 rfl (Gl ty4 ?_))
  refine Gr (B1 rfl) (Gm rfl (Gro (Ac fld42_1 rfl) (Gro (Au ty3) ?_)))
  refine Gro (Bw rfl rfl) (Gr (Al rfl rfl) (Gm rfl (Bd (d := 82) rfl (fun g82 => ?_) (fun g82 => ?_))))
  ·refine Gpo (Gpo (Gpo (Gpo (Gpu (Gpu (Gpu (Gpu (Gpo (Gr (Al rfl rfl) (Gm rfl (Gpo (Gpo (Gpo (Gpo (Gpu (Gpu (Gpu (Gpo (Gr (Al rfl rfl) (Gm rfl (Gpo (Gpo (Gpo (Gpo (Gpu (Gpu (Gpu (Gpu (Gpo (Gr (Al rfl rfl) (Ga rfl (Af (Ap (S1 73 rfl) (Cn rfl (Ah (Ga rfl (Af (Ay (Ar (Ak ?_))))))))))))))))))))))))))))))))))))))))
   first | (exfalso; omega) | (exfalso; exact absurd hval asm) | (exfalso; exact absurd rfl asm) | contradiction | (exfalso; simp_all; done)
  ·refine Gro (Ac fld132_2 rfl) (Gro (Au ty4) ?_)
   refine Gro (B1 rfl) (Gro (Ad rfl) (Gro (Ac fld42_3 rfl) (Gro (Au ty22) ?_)))
   refine Gro (Bl Ab rfl) (Gro (B7 rfl rfl) (Gro (Al rfl rfl) (Gr (Aq rfl rfl) (Gm rfl (Bd (d := 93) rfl (fun g93 => ?_) (fun g93 => ?_))))))
   ·refine Gpo (Gpo (Gpo (Gpo (Gpu (Gpu (Gpu (Gpo (Gr (Al rfl rfl) (Gm rfl (Gpo (Gpo (Gpo (Gpo (Gpu (Gpu (Gpu (Gpu (Gpo (Gr (Al rfl rfl) (Ga rfl (Af (Ap (S1 73 rfl) (Cn rfl (Ah (Ga rfl (Af (Ay (Ar (Ak ?_)))))))))))))))))))))))))))))
    first | (exfalso; omega) | (exfalso; exact absurd hval asm) | (exfalso; exact absurd rfl asm) | contradiction | (exfalso; simp_all; done)
   ·refine Gro (Ac fld132_1 rfl) (Gro (Au ty4) ?_)
    refine Gro (B1 rfl) (Gro (Ad rfl) (Gro (Ac fld42_2 rfl) (Gro (Au ty3) ?_)))
    refine Gro (Bw rfl rfl) (Gro (Al rfl rfl) (Gr (Aq rfl rfl) (Gm rfl (Bd (d := 103) rfl (fun g103 => ?_) (fun g103 => ?_)))))
    ·refine Gpo (Gpo (Gpo (Gpo (Gpu (Gpu (Gpu (Gpu (Gpo (Gr (Al rfl rfl) (Ga rfl (Af (Ap (S1 73 rfl) (Cn rfl (Ah (Ga rfl (Af (Ay (Ar (Ak ?_)))))))))))))))))))
     first | (exfalso; omega) | (exfalso; exact absurd hval asm) | (exfalso; exact absurd rfl asm) | contradiction | (exfalso; simp_all; done)
    ·refine Gro (Ac fld132_3 rfl) (Gro (Au ty4) ?_)
     exact Gro (B1 rfl) (Gro (Ad rfl) (Gpo (Gpo (Gpo (Gpo (Gro (Aq rfl rfl) (Gr (Aq rfl rfl) (Ga rfl (Af (Ap (S1 73 rfl) (Dj rfl (A4 (Ai (Aj (Ah (Ga rfl (Af (Ay (A1 rfl rfl (I) Ax ⟨rfl, rfl⟩)))))))))))))))))))
set_option maxHeartbeats 1000000 in
theorem Check3_ok {κ : Ctx} {I : List Item} {n : Int} {sa : Option Addr} {sc : Nat} {xs : List Int} (hs : Sl κ I (.slice sa xs.length sc) xs) {num den : Int} (hx : 0 < xs.length) (hval : ValidP xs n) (hf : FrV ⟨num, den⟩) :
    CallS Tryz.prog κ 37 [.agg #[I64 (3), I64 (0), I64 (0), .slice sa xs.length sc, I64 (num), I64 (den)], I64 (n)] I (fun r J => r = I64 0 ∧ I = J) := by
 have hfn : 0 ≤ num := hf.n0
 refine Ce2 Tryz.func37 rfl rfl ?_
 refine Ah (Ge1 (Be (cs := [_, _, _, _, _, _]) rfl rfl rfl) fun b1 => Ga rfl (Af (Ah (Gf fld42_0 rfl (Gl ty3 ?_)))))
 refine Gc0 (Am call81 rfl rfl Of3_ok) ?_
 refine Ge1 (Ba ty132 rfl) fun b2 => Ge0 (Ej ty132) ?_
 refine Af (As (A3 (Ah (Gf fld132_4 rfl (Gl ty130 ?_)))))
 refine Gr (Runs.eqFn (fun w => by kernel_rfl) rfl rfl) (Ga rfl (Af (Dj rfl (Ah (Gf fld132_0 rfl (Gl ty4 ?_))))))
 refine Gm rfl (Gpo (Gpo (Gpo (Gpo (Gpu (Gpu (Gpu (Gpu (Gpo (Gr (Aq rfl rfl) (Gm rfl (Gro (Ac fld132_2 rfl) (Gro (Au ty4) ?_)))))))))))))
 refine Gro (Ad rfl) (Gro (Ac fld42_3 rfl) (Gro (Au ty22) ?_))
 refine Gro (Bl Ab rfl) (Gro (Bb rfl rfl) (Gro (Ad rfl) (Bd (d := 35) rfl (fun g35 => ?_) (fun g35 => ?_))))
 ·refine Gpo (Gpo (Gpo (Gpo (Gpo (Gro (Al rfl rfl) (Gro (Al rfl rfl) (Gr (Aq rfl rfl) (Ga rfl (Af (Ap (S3 13 5 2 rfl rfl rfl) (Cn rfl (Ah (Ga rfl (Af (Ay (Ar (Ak ?_)))))))))))))))))
  first | (exfalso; omega) | (exfalso; exact absurd hval asm) | (exfalso; exact absurd rfl asm) | contradiction | (exfalso; simp_all; done)
 ·refine Gro (Ac fld42_3 rfl) (Gro (Au ty22) ?_)
  refine Gro (Ad rfl) (Cw (Bz rfl rfl rfl) (Am call88 rfl rfl (NValid_ok (Bi hs) n)) ?_)
  rintro _ _ ⟨_, _, ⟨rfl, rfl⟩, rfl, rfl⟩
  refine Gro (Dt rfl) (Gro (Aq rfl rfl) (Gro (Al rfl rfl) (Gr (Aq rfl rfl) (Ga rfl (Af (Ap (S3 13 5 2 rfl rfl rfl) (A7 rfl (fun c13 => ?_) (fun c13 => ?_))))))))
  ·refine Ah (Ga rfl (Af (Ay (Ar (Ak ?_)))))
   first | (exfalso; omega) | (exfalso; exact absurd hval asm) | (exfalso; exact absurd rfl asm) | contradiction | (exfalso; simp_all; done)
  ·refine Ah (Gf fld132_1 rfl (Gl ty4 ?_))
   refine Gm rfl (Gpo (Gpo (Gpo (Gpo (Gpu (Gpu (Gpu (Gpo (Gr (Aq rfl rfl) (Gm rfl (Gro (Ac fld132_3 rfl) (Gro (Au ty4) ?_))))))))))))
   refine Gro (Ad rfl) (Gro (Ac fld42_4 rfl) (Gro (Bm (vs := [_, _]) ty40) ?_))
   refine Cw (Bz rfl rfl rfl) (Am call89 rfl rfl (RatValid_ok (⟨num, den⟩ : Fr) asm)) ?_
   rintro _ _ ⟨_, _, ⟨rfl, rfl⟩, rfl, rfl⟩
   refine Gro (B1 rfl) (Gro (Ad rfl) (Gro (Ac fld42_4 rfl) (Gro (Ac fld40_0 rfl) (Gro (Au ty3) ?_))))
   refine Gro (A8 rfl rfl) (Gro (Aq rfl rfl) (Gro (Al rfl rfl) (Gr (Aq rfl rfl) (Ga rfl (Af (Ap (S3 44 5 2 rfl rfl rfl) (A7 rfl (fun c44 => ?_) (fun c44 => ?_))))))))
   ·refine Ah (Ga rfl (Af (Ay (Ar (Ak ?_)))))
    first | (exfalso; omega) | (exfalso; exact absurd hval asm) | (exfalso; exact absurd rfl asm) | contradiction | (exfalso; simp_all; done)
   ·refine Ah (Gf fld132_0 rfl (Gl ty4 ?_))
    refine Gr (B1 rfl) (Gm rfl (Gro (Ac fld42_1 rfl) (Gro (Au ty3) ?_)))
    refine Gro (Bw rfl rfl) (Gr (Al rfl rfl) (Gm rfl (Bd (d := 82) rfl (fun g82 => ?_) (fun g82 => ?_))))
    ·refine Gpo (Gpo (Gpo (Gpo (Gpu (Gpu (Gpu (Gpu (Gpo (Gr (Al rfl rfl) (Gm rfl (Gpo (Gpo (Gpo (Gpo (Gpu (Gpu (Gpu (Gpo (Gr (Al rfl rfl) (Gm rfl (Gpo (Gpo (Gpo (Gpo (Gpu (Gpu (Gpu (Gpu (Gpo (Gr (Al rfl rfl) (Ga rfl (Af (Ap (S1 73 rfl) (Cn rfl (Ah (Ga rfl (Af (Ay (Ar (Ak ?_))))))))))))))))))))))))))))))))))))))))
     first | (exfalso; omega) | (exfalso; exact absurd hval asm) | (exfalso; exact absurd rfl asm) | contradiction | (exfalso; simp_all; done)
    ·refine Gro (Ac fld132_2 rfl) (Gro (Au ty4) ?_)
     refine Gro (B1 rfl) (Gro (Ad rfl) (Gpo (Gpo (Gpo (Gpo (Gro (Aq rfl rfl) (Gr (Aq rfl rfl) (Gm rfl (Gro (Ac fld132_1 rfl) (Gro (Au ty4) ?_))))))))))
     refine Gro (B1 rfl) (Gro (Ad rfl) (Gro (Ac fld42_2 rfl) (Gro (Au ty3) ?_)))
     refine Gro (Bw rfl rfl) (Gro (Al rfl rfl) (Gr (Aq rfl rfl) (Gm rfl (Bd (d := 103) rfl (fun g103 => ?_) (fun g103 => ?_)))))
     ·refine Gpo (Gpo (Gpo (Gpo (Gpu (Gpu (Gpu (Gpu (Gpo (Gr (Al rfl rfl) (Ga rfl (Af (Ap (S1 73 rfl) (Cn rfl (Ah (Ga rfl (Af (Ay (Ar (Ak ?_)))))))))))))))))))
      first | (exfalso; omega) | (exfalso; exact absurd hval asm) | (exfalso; exact absurd rfl asm) | contradiction | (exfalso; simp_all; done)
     ·refine Gro (Ac fld132_3 rfl) (Gro (Au ty4) ?_)
      exact Gro (B1 rfl) (Gro (Ad rfl) (Gpo (Gpo (Gpo (Gpo (Gro (Aq rfl rfl) (Gr (Aq rfl rfl) (Ga rfl (Af (Ap (S1 73 rfl) (Dj rfl (A4 (Ai (Aj (Ah (Ga rfl (Af (Ay (A1 rfl rfl (I) Ax ⟨rfl, rfl⟩)))))))))))))))))))
set_option maxHeartbeats 1000000 in
theorem Check4_ok {κ : Ctx} {I : List Item} {n : Int} {sa : Option Addr} {sc : Nat} {xs : List Int} (hs : Sl κ I (.slice sa xs.length sc) xs) {lv : Int} (hlv : 0 ≤ lv ∧ lv ≤ 64) (hx : xs.length = 0) :
    CallS Tryz.prog κ 37 [.agg #[I64 (4), I64 (0), I64 (lv), .slice sa xs.length sc, I64 (0), I64 (0)], I64 (n)] I (fun r J => r = I64 0 ∧ I = J) := by
 refine Ce2 Tryz.func37 rfl rfl ?_
 refine Ah (Ge1 (Be (cs := [_, _, _, _, _, _]) rfl rfl rfl) fun b1 => Ga rfl (Af (Ah (Gf fld42_0 rfl (Gl ty3 ?_)))))
 refine Gc0 (Am call81 rfl rfl Of4_ok) ?_
 refine Ge1 (Ba ty132 rfl) fun b2 => Ge0 (Ej ty132) ?_
 refine Af (As (A3 (Ah (Gf fld132_4 rfl (Gl ty130 ?_)))))
 refine Gr (Runs.eqFn (fun w => by kernel_rfl) rfl rfl) (Ga rfl (Af (Dj rfl (Ah (Gf fld132_0 rfl (Gl ty4 ?_))))))
 refine Gm rfl (Gpo (Gpo (Gpo (Gpo (Gpu (Gpu (Gpu (Gpu (Gpo (Gr (Aq rfl rfl) (Gm rfl (Gro (Ac fld132_2 rfl) (Gro (Au ty4) ?_)))))))))))))
 refine Gro (Ad rfl) (Gpo (Gpo (Gpo (Gpo (Gpo (Gpu (Gpu (Gpu (Gpu (Gpu (Gpo (Gro (Aq rfl rfl) (Gr (Aq rfl rfl) (Ga rfl (Af (Ap (S3 13 5 2 rfl rfl rfl) (Dj rfl (Ah (Gf fld132_1 rfl (Gl ty4 ?_))))))))))))))))))))
 refine Gm rfl (Gro (Ac fld42_2 rfl) (Gro (Au ty3) ?_))
 refine Gro (A8 rfl rfl) (Gro (Ad rfl) (Bd (d := 51) rfl (fun g51 => ?_) (fun g51 => ?_)))
 ·refine Gpo (Gpo (Gpo (Gro (Al rfl rfl) (Gr (Al rfl rfl) (Gm rfl (Gpo (Gpo (Gpo (Gpu (Gpu (Gpu (Gpu (Gpu (Gpu (Gpu (Gpu (Gpu (Gpu (Gpo (Gr (Al rfl rfl) (Ga rfl (Af (Ap (S3 44 5 2 rfl rfl rfl) (Cn rfl (Ah (Ga rfl (Af (Ay (Ar (Ak ?_))))))))))))))))))))))))))))))
  first | (exfalso; omega) | (exfalso; exact absurd hval asm) | (exfalso; exact absurd rfl asm) | contradiction | (exfalso; simp_all; done)
 ·refine Gro (Ac fld42_2 rfl) (Gro (Au ty3) ?_)
  refine Gro (B7 rfl rfl) (Gro (Aq rfl rfl) (Gr (Al rfl rfl) (Gm rfl (Bd (d := 57) rfl (fun g57 => ?_) (fun g57 => ?_)))))
  ·refine Gpo (Gpo (Gpo (Gpu (Gpu (Gpu (Gpu (Gpu (Gpu (Gpu (Gpu (Gpu (Gpu (Gpo (Gr (Al rfl rfl) (Ga rfl (Af (Ap (S3 44 5 2 rfl rfl rfl) (Cn rfl (Ah (Ga rfl (Af (Ay (Ar (Ak ?_))))))))))))))))))))))))
   first | (exfalso; omega) | (exfalso; exact absurd hval asm) | (exfalso; exact absurd rfl asm) | contradiction | (exfalso; simp_all; done)
  ·refine Gro (Ac fld132_3 rfl) (Gro (Au ty4) ?_)
   refine Gro (Ad rfl) (Gpo (Gpo (Gpo (Gpo (Gpo (Gpu (Gpu (Gpu (Gpu (Gpo (Gro (Aq rfl rfl) (Gr (Aq rfl rfl) (Ga rfl (Af (Ap (S3 44 5 2 rfl rfl rfl) (Dj rfl (Ah (Gf fld132_0 rfl (Gl ty4 ?_)))))))))))))))))))
   refine Gr (B1 rfl) (Gm rfl (Gro (Ac fld42_1 rfl) (Gro (Au ty3) ?_)))
   refine Gro (Bw rfl rfl) (Gr (Al rfl rfl) (Gm rfl (Bd (d := 82) rfl (fun g82 => ?_) (fun g82 => ?_))))
   ·refine Gpo (Gpo (Gpo (Gpo (Gpu (Gpu (Gpu (Gpu (Gpo (Gr (Al rfl rfl) (Gm rfl (Gpo (Gpo (Gpo (Gpo (Gpu (Gpu (Gpu (Gpo (Gr (Al rfl rfl) (Gm rfl (Gpo (Gpo (Gpo (Gpo (Gpu (Gpu (Gpu (Gpu (Gpo (Gr (Al rfl rfl) (Ga rfl (Af (Ap (S1 73 rfl) (Cn rfl (Ah (Ga rfl (Af (Ay (Ar (Ak ?_))))))))))))))))))))))))))))))))))))))))
    first | (exfalso; omega) | (exfalso; exact absurd hval asm) | (exfalso; exact absurd rfl asm) | contradiction | (exfalso; simp_all; done)
   ·refine Gro (Ac fld132_2 rfl) (Gro (Au ty4) ?_)
    refine Gro (B1 rfl) (Gro (Ad rfl) (Gro (Ac fld42_3 rfl) (Gro (Au ty22) ?_)))
    refine Gro (Bl Ab rfl) (Gro (B7 rfl rfl) (Gro (Al rfl rfl) (Gr (Aq rfl rfl) (Gm rfl (Bd (d := 93) rfl (fun g93 => ?_) (fun g93 => ?_))))))
    ·refine Gpo (Gpo (Gpo (Gpo (Gpu (Gpu (Gpu (Gpo (Gr (Al rfl rfl) (Gm rfl (Gpo (Gpo (Gpo (Gpo (Gpu (Gpu (Gpu (Gpu (Gpo (Gr (Al rfl rfl) (Ga rfl (Af (Ap (S1 73 rfl) (Cn rfl (Ah (Ga rfl (Af (Ay (Ar (Ak ?_)))))))))))))))))))))))))))))
     first | (exfalso; omega) | (exfalso; exact absurd hval asm) | (exfalso; exact absurd rfl asm) | contradiction | (exfalso; simp_all; done)
    ·refine Gro (Ac fld132_1 rfl) (Gro (Au ty4) ?_)
     refine Gro (B1 rfl) (Gro (Ad rfl) (Gpo (Gpo (Gpo (Gro (Aq rfl rfl) (Gr (Aq rfl rfl) (Gm rfl (Gro (Ac fld132_3 rfl) (Gro (Au ty4) ?_)))))))))
     refine Gro (B1 rfl) (Gro (Ad rfl) (Gro (Ac fld42_4 rfl) (Gro (Bm (vs := [_, _]) ty40) ?_)))
     refine Gro (Bf (cells := [_, _]) ty40 Cb pl40 rfl rfl) (Gro (Runs.neqT (α := Fr) (a := (⟨0, 0⟩ : Fr)) (b := (⟨0, 0⟩ : Fr)) eqt40 rfl rfl) (Gro (Al rfl rfl) (Gr (Aq rfl rfl) (Ga rfl (Af (Ap (S1 73 rfl) (A7 rfl (fun c73 => ?_) (fun c73 => ?_))))))))
     ·refine Ah (Ga rfl (Af (Ay (Ar (Ak ?_)))))
      first | (exfalso; omega) | (exfalso; exact absurd hval asm) | (exfalso; exact absurd rfl asm) | contradiction | (exfalso; simp_all; done)
     ·exact A4 (Ai (Aj (Ah (Ga rfl (Af (Ay (A1 rfl rfl (I) Ax ⟨rfl, rfl⟩)))))))
set_option maxHeartbeats 1000000 in
theorem Check5_ok {κ : Ctx} {I : List Item} {n : Int} {sa : Option Addr} {sc : Nat} {xs : List Int} (hs : Sl κ I (.slice sa xs.length sc) xs) {lv : Int} (hlv : 0 ≤ lv ∧ lv ≤ 64) (hx : 0 < xs.length) (hval : ValidP xs n) :
    CallS Tryz.prog κ 37 [.agg #[I64 (5), I64 (0), I64 (lv), .slice sa xs.length sc, I64 (0), I64 (0)], I64 (n)] I (fun r J => r = I64 0 ∧ I = J) := by
 refine Ce2 Tryz.func37 rfl rfl ?_
 refine Ah (Ge1 (Be (cs := [_, _, _, _, _, _]) rfl rfl rfl) fun b1 => Ga rfl (Af (Ah (Gf fld42_0 rfl (Gl ty3 ?_)))))
 refine Gc0 (Am call81 rfl rfl Of5_ok) ?_
 refine Ge1 (Ba ty132 rfl) fun b2 => Ge0 (Ej ty132) ?_
 refine Af (As (A3 (Ah (Gf fld132_4 rfl (Gl ty130 ?_)))))
 refine Gr (Runs.eqFn (fun w => by kernel_rfl) rfl rfl) (Ga rfl (Af (Dj rfl (Ah (Gf fld132_0 rfl (Gl ty4 ?_))))))
 refine Gm rfl (Gpo (Gpo (Gpo (Gpo (Gpu (Gpu (Gpu (Gpu (Gpo (Gr (Aq rfl rfl) (Gm rfl (Gro (Ac fld132_2 rfl) (Gro (Au ty4) ?_)))))))))))))
 refine Gro (Ad rfl) (Gro (Ac fld42_3 rfl) (Gro (Au ty22) ?_))
 refine Gro (Bl Ab rfl) (Gro (Bb rfl rfl) (Gro (Ad rfl) (Bd (d := 35) rfl (fun g35 => ?_) (fun g35 => ?_))))
 ·refine Gpo (Gpo (Gpo (Gpo (Gpo (Gro (Al rfl rfl) (Gro (Al rfl rfl) (Gr (Aq rfl rfl) (Ga rfl (Af (Ap (S3 13 5 2 rfl rfl rfl) (Cn rfl (Ah (Ga rfl (Af (Ay (Ar (Ak ?_)))))))))))))))))
  first | (exfalso; omega) | (exfalso; exact absurd hval asm) | (exfalso; exact absurd rfl asm) | contradiction | (exfalso; simp_all; done)
 ·refine Gro (Ac fld42_3 rfl) (Gro (Au ty22) ?_)
  refine Gro (Ad rfl) (Cw (Bz rfl rfl rfl) (Am call88 rfl rfl (NValid_ok (Bi hs) n)) ?_)
  rintro _ _ ⟨_, _, ⟨rfl, rfl⟩, rfl, rfl⟩
  refine Gro (Dt rfl) (Gro (Aq rfl rfl) (Gro (Al rfl rfl) (Gr (Aq rfl rfl) (Ga rfl (Af (Ap (S3 13 5 2 rfl rfl rfl) (A7 rfl (fun c13 => ?_) (fun c13 => ?_))))))))
  ·refine Ah (Ga rfl (Af (Ay (Ar (Ak ?_)))))
   first | (exfalso; omega) | (exfalso; exact absurd hval asm) | (exfalso; exact absurd rfl asm) | contradiction | (exfalso; simp_all; done)
  ·refine Ah (Gf fld132_1 rfl (Gl ty4 ?_))
   refine Gm rfl (Gro (Ac fld42_2 rfl) (Gro (Au ty3) ?_))
   refine Gro (A8 rfl rfl) (Gro (Ad rfl) (Bd (d := 51) rfl (fun g51 => ?_) (fun g51 => ?_)))
   ·refine Gpo (Gpo (Gpo (Gro (Al rfl rfl) (Gr (Al rfl rfl) (Gm rfl (Gpo (Gpo (Gpo (Gpu (Gpu (Gpu (Gpu (Gpu (Gpu (Gpu (Gpu (Gpu (Gpu (Gpo (Gr (Al rfl rfl) (Ga rfl (Af (Ap (S3 44 5 2 rfl rfl rfl) (Cn rfl (Ah (Ga rfl (Af (Ay (Ar (Ak ?_))))))))))))))))))))))))))))))
    first | (exfalso; omega) | (exfalso; exact absurd hval asm) | (exfalso; exact absurd rfl asm) | contradiction | (exfalso; simp_all; done)
   ·refine Gro (Ac fld42_2 rfl) (Gro (Au ty3) ?_)
    refine Gro (B7 rfl rfl) (Gro (Aq rfl rfl) (Gr (Al rfl rfl) (Gm rfl (Bd (d := 57) rfl (fun g57 => ?_) (fun g57 => ?_)))))
    ·refine Gpo (Gpo (Gpo (Gpu (Gpu (Gpu (Gpu (Gpu (Gpu (Gpu (Gpu (Gpu (Gpu (Gpo (Gr (Al rfl rfl) (Ga rfl (Af (Ap (S3 44 5 2 rfl rfl rfl) (Cn rfl (Ah (Ga rfl (Af (Ay (Ar (Ak ?_))))))))))))))))))))))))
     first | (exfalso; omega) | (exfalso; exact absurd hval asm) | (exfalso; exact absurd rfl asm) | contradiction | (exfalso; simp_all; done)
    ·refine Gro (Ac fld132_3 rfl) (Gro (Au ty4) ?_)
     refine Gro (Ad rfl) (Gpo (Gpo (Gpo (Gpo (Gpo (Gpu (Gpu (Gpu (Gpu (Gpo (Gro (Aq rfl rfl) (Gr (Aq rfl rfl) (Ga rfl (Af (Ap (S3 44 5 2 rfl rfl rfl) (Dj rfl (Ah (Gf fld132_0 rfl (Gl ty4 ?_)))))))))))))))))))
     refine Gr (B1 rfl) (Gm rfl (Gro (Ac fld42_1 rfl) (Gro (Au ty3) ?_)))
     refine Gro (Bw rfl rfl) (Gr (Al rfl rfl) (Gm rfl (Bd (d := 82) rfl (fun g82 => ?_) (fun g82 => ?_))))
     ·refine Gpo (Gpo (Gpo (Gpo (Gpu (Gpu (Gpu (Gpu (Gpo (Gr (Al rfl rfl) (Gm rfl (Gpo (Gpo (Gpo (Gpo (Gpu (Gpu (Gpu (Gpo (Gr (Al rfl rfl) (Gm rfl (Gpo (Gpo (Gpo (Gpo (Gpu (Gpu (Gpu (Gpu (Gpo (Gr (Al rfl rfl) (Ga rfl (Af (Ap (S1 73 rfl) (Cn rfl (Ah (Ga rfl (Af (Ay (Ar (Ak ?_))))))))))))))))))))))))))))))))))))))))
      first | (exfalso; omega) | (exfalso; exact absurd hval asm) | (exfalso; exact absurd rfl asm) | contradiction | (exfalso; simp_all; done)
     ·refine Gro (Ac fld132_2 rfl) (Gro (Au ty4) ?_)
      refine Gro (B1 rfl) (Gro (Ad rfl) (Gpo (Gpo (Gpo (Gpo (Gro (Aq rfl rfl) (Gr (Aq rfl rfl) (Gm rfl (Gro (Ac fld132_1 rfl) (Gro (Au ty4) ?_))))))))))
      refine Gro (B1 rfl) (Gro (Ad rfl) (Gpo (Gpo (Gpo (Gro (Aq rfl rfl) (Gr (Aq rfl rfl) (Gm rfl (Gro (Ac fld132_3 rfl) (Gro (Au ty4) ?_)))))))))
      refine Gro (B1 rfl) (Gro (Ad rfl) (Gro (Ac fld42_4 rfl) (Gro (Bm (vs := [_, _]) ty40) ?_)))
      refine Gro (Bf (cells := [_, _]) ty40 Cb pl40 rfl rfl) (Gro (Runs.neqT (α := Fr) (a := (⟨0, 0⟩ : Fr)) (b := (⟨0, 0⟩ : Fr)) eqt40 rfl rfl) (Gro (Al rfl rfl) (Gr (Aq rfl rfl) (Ga rfl (Af (Ap (S1 73 rfl) (A7 rfl (fun c73 => ?_) (fun c73 => ?_))))))))
      ·refine Ah (Ga rfl (Af (Ay (Ar (Ak ?_)))))
       first | (exfalso; omega) | (exfalso; exact absurd hval asm) | (exfalso; exact absurd rfl asm) | contradiction | (exfalso; simp_all; done)
      ·exact A4 (Ai (Aj (Ah (Ga rfl (Af (Ay (A1 rfl rfl (I) Ax ⟨rfl, rfl⟩)))))))
theorem CheckAny_ok {κ : Ctx} {I : List Item} {n : Int} {x : AlV} (hs : Sl κ I (.slice x.a x.xs.length x.c) x.xs) (h : AlOk n x) : CallS Tryz.prog κ 37 [x.cells, I64 n] I fun r J => r = I64 0 ∧ I = J := by
 obtain ⟨kd, no, lv, a, c, xs, num, den⟩ := x
 unfold AlV.cells
 have hk := h.kind
 simp only at hk hs ⊢
 obtain e | e | e | e | e : kd = 1 ∨ kd = 2 ∨ kd = 3 ∨ kd = 4 ∨ kd = 5 := by omega
 all_goals subst e
 ·obtain ⟨h1, h2, h3, h4, h5⟩ := h.k1 rfl
  simp only at h1 h2 h3 h4 h5
  subst h3 h4 h5
  exact Check1_ok hs h1 h2 rfl
 ·obtain ⟨h1, h2, h3, h4⟩ := h.k2 rfl
  simp only at h1 h2 h3 h4
  subst h1 h2 h3
  exact Check2_ok hs rfl h4
 ·obtain ⟨h1, h2, h3, h4, h5⟩ := h.k3 rfl
  simp only at h1 h2 h3 h4 h5
  subst h1 h2
  exact Check3_ok hs h3.1 h4 h5
 ·obtain ⟨h1, h2, h3, h4, h5⟩ := h.k4 rfl
  simp only at h1 h2 h3 h4 h5
  subst h1 h3 h4 h5
  exact Check4_ok hs h2 rfl
 ·obtain ⟨h1, h2, h3, h4, h5, h6⟩ := h.k5 rfl
  simp only at h1 h2 h3 h4 h5 h6
  subst h1 h5 h6
  exact Check5_ok hs h2 h3.1 h4
theorem hold_of {κ : Ctx} {I : List Item} {f : FuncId} {args : List Value} {nd : Int} {es : List Pt} {x : AlV} (h : CallS Tryz.prog κ f args I fun r J => ∃ t : Bool, r = .bool t ∧ (t = true ↔ condP nd es x) ∧ I = J) : CallS Tryz.prog κ f args I fun r J => r = .bool (holdV nd es x) ∧ I = J :=
 h.mono fun r J ⟨t, h1, h2, h3⟩ => ⟨by rw [h1]; congr 1; rw [Bool.eq_iff_iff, holdV_iff]; exact h2, h3⟩
theorem HoldAny_ok {κ : Ctx} {I : List Item} {nd : Int} {ea : Option Addr} {ec : Nat} {es : List Pt} {x : AlV} (hl : Sl κ I (.slice ea es.length ec) es) (hs : Sl κ I (.slice x.a x.xs.length x.c) x.xs) (hG : GrOk nd es) (h : AlOk nd x) (hT : TabRd κ I 0 tzCells) : CallS Tryz.prog κ (fK x.kd) [.agg #[I64 nd, .slice ea es.length ec], x.cells] I fun r J => r = .bool (holdV nd es x) ∧ I = J := by
 refine hold_of ?_
 obtain ⟨kd, no, lv, a, c, xs, num, den⟩ := x
 unfold AlV.cells condP
 have hk := h.kind
 simp only at hk hs ⊢
 obtain e | e | e | e | e : kd = 1 ∨ kd = 2 ∨ kd = 3 ∨ kd = 4 ∨ kd = 5 := by omega
 all_goals subst e
 ·obtain ⟨h1, h2, h3, h4, h5⟩ := h.k1 rfl
  simp only at h1 h2 h3 h4 h5
  subst h3 h4 h5
  exact Hold1_ok hl hs hG h1 hT
 ·obtain ⟨h1, h2, h3, h4⟩ := h.k2 rfl
  simp only at h1 h2 h3 h4
  subst h1 h2 h3
  exact Hold2_ok hl hs hG h4 hT
 ·obtain ⟨h1, h2, h3, h4, h5⟩ := h.k3 rfl
  simp only at h1 h2 h3 h4 h5
  subst h1 h2
  exact Hold3_ok hl hs hG h3 h4 h5 hT
 ·obtain ⟨h1, h2, h3, h4, h5⟩ := h.k4 rfl
  simp only at h1 h2 h3 h4 h5
  subst h1 h3 h4 h5
  exact Hold4_ok hl hs hG hT
 ·obtain ⟨h1, h2, h3, h4, h5, h6⟩ := h.k5 rfl
  simp only at h1 h2 h3 h4 h5 h6
  subst h1 h5 h6
  exact Hold5_ok hl hs hG h3 h4 hT
def timesZ (kd wd mo : Int) (es : List Ev) : List Int := ascZ (timesL kd wd mo es)
theorem lateTm_yes {kd wd : Int} {xs : List Lk} {k : Nat} (h : k < xs.length) (h1 : kd = 2) (h2 : (at_ xs (k : Int)).tm + wd ≤ 1048576) : (lateL kd wd (xs.take (k + 1))).map Ev.tm = (lateL kd wd (xs.take k)).map Ev.tm ++ [(at_ xs (k : Int)).tm + wd] := by
 rw [late_yes h h1 h2, List.map_append]; rfl
theorem lateTm_no {kd wd : Int} {xs : List Lk} {k : Nat} (h : k < xs.length) (h1 : ¬ kd = 2 ∨ ¬ (at_ xs (k : Int)).tm + wd ≤ 1048576) : (lateL kd wd (xs.take (k + 1))).map Ev.tm = (lateL kd wd (xs.take k)).map Ev.tm := by rw [late_no h h1]
set_option maxHeartbeats 2000000 in
theorem Times_ok {κ : Ctx} {I : List Item} {nd kd wd mo : Int} {ea : Option Addr} {ec : Nat} {es : List Ev} (hl : Sl κ I (.slice ea es.length ec) es) (hH : HistOk nd kd wd mo es) (hlen : es.length ≤ 19) :
    CallS Tryz.prog κ 80 [I64 (nd), .slice ea es.length ec, .agg #[I64 (kd), I64 (wd), I64 (mo)]] I (fun r J => ∃ a c, r = .slice a (timesZ kd wd mo es).length c ∧ J = vc 3 (.slice a (timesZ kd wd mo es).length c) (timesZ kd wd mo es) :: I) := by
 refine Ce3 Tryz.func80 rfl rfl ?_
 refine Ah (Ge1 (Be (cs := [_, _, _]) rfl rfl rfl) fun b1 => Ga rfl (Af (Ah (Ge1 (B5 (α := Int) (cs := [_]) (xs := [0]) Ab ty3 rfl rfl dc dc rfl rfl rfl rfl) fun ad2 => ?_))))
 refine Ga rfl (Af (Ah (Gm rfl (Gm rfl (Gl3 ty31 ?_)))))
 refine G.e (Am call140 rfl rfl (Slide_hist (nd := nd) (kd := kd) (wd := wd) (mo := mo) (es := es) (Bi hl) hH)) ?_
 rintro _ _ ⟨_, _, ⟨ad3, cp4, rfl, rfl⟩, rfl, rfl⟩
 refine Gm rfl (Gr (Az rfl rfl) (Gr (Az rfl rfl) (Ga rfl (Ga rfl ?_))))
 generalize hSE : (slideS kd wd mo es).2 = SE
 have hfS : ∀ e ∈ SE, FitOk nd e := by rw [← hSE]; exact hH.fit
 have hSl : SE.length ≤ 38 := by rw [← hSE]; have := hH.len2; omega
 have hlS : (linksL SE).length ≤ 19 := by rw [← hSE]; have := hH.len; omega
 refine Af (Ap (S4 8 7 5 0 rfl rfl rfl rfl) (Ah (Gm rfl (Gr (Bf (cells := [_, _]) ty111 Ef pl111 rfl rfl) (Ge1 (Ba ty111 rfl) fun b5 => Ge0 (Co ty111) ?_)))))
 refine G.fit (J := vc 146 (.slice none 0 0) (([] : List Lk)) :: blk b5 [I64 (nd), .slice none 0 0] 111 :: vc 108 (.slice ad3 (SE).length cp4) (SE) :: vc 3 (.slice ad2 1 1) (([0] : List Int)) :: blk b1 [I64 (kd), I64 (wd), I64 (mo)] 31 :: I) (Bv (α := Lk) _ _) ?_
 refine Af (As (Ah (Gm rfl (Gr (Bl A6 rfl) (Gm rfl (Af (A3 (Bx (σ := Nat × (Option Addr) × Nat × (Option Addr) × Nat × (List Int)) (fun s => ([(5, .pointer (some ⟨b1, 0, none⟩)), (7, .slice s.2.2.2.1 s.2.2.2.2.2.length s.2.2.2.2.1), (10, .pointer (some ⟨b5, 0, none⟩)), (26, .slice ad3 (SE).length cp4), (27, I64 ((((SE).length : Nat) : Int))), (28, I64 (((s.1 : Nat) : Int)))] : Env)) (fun s => vc 146 (.slice s.2.1 (linksL (SE.take s.1)).length s.2.2.1) (linksL (SE.take s.1)) :: vc 3 (.slice s.2.2.2.1 s.2.2.2.2.2.length s.2.2.2.2.1) (s.2.2.2.2.2) :: blk b5 [I64 (nd), .slice s.2.1 (linksL (SE.take s.1)).length s.2.2.1] 111 :: vc 108 (.slice ad3 (SE).length cp4) (SE) :: blk b1 [I64 (kd), I64 (wd), I64 (mo)] 31 :: I) (fun s => (s.1 ≤ SE.length) ∧ (s.2.2.2.2.2 = 0 :: (SE.take s.1).map Ev.tm)) (fun s => SE.length - s.1) (0, none, 0, ad2, 1, [0]) (show ((0 : Nat) ≤ SE.length) ∧ (([0] : List Int) = 0 :: (SE.take (0 : Nat)).map Ev.tm) from ⟨om, rfl⟩) (Aa rfl (Aa (Cy rfl (by first | rfl | simp)) (Aa rfl (Aa rfl (Aa rfl (Aa Ci Bj)))))) (show Fit κ _ (vc 146 (.slice (none) (linksL (SE.take (0))).length (0)) (linksL (SE.take (0))) :: vc 3 (.slice (ad2) ([0]).length (1)) (([0])) :: blk b5 [I64 (nd), .slice (none) (linksL (SE.take (0))).length (0)] 111 :: vc 108 (.slice ad3 (SE).length cp4) (SE) :: blk b1 [I64 (kd), I64 (wd), I64 (mo)] 31 :: I) from B6) ?_))))))))
 rintro ⟨k, a, c, oa, oc, out⟩ hp
 dsimp only at hp ⊢
 obtain ⟨hk, ho⟩ := hp
 have hol : out.length = k + 1 := by rw [ho, List.length_cons, List.length_map, List.length_take]; omega
 refine Ah (Gr (A8 rfl rfl) (Af (As (A7 rfl (fun c29 => ?_) (fun c29 => ?_)))))
 ·refine A4 (Aj (As (A3 (Ah (Gr (A0 (α := Ev) (xs := SE) A6 ty108 rfl rfl Bc om om) (Gr (Bs (α := Ev) (xs := SE) ty108 rfl Bc om om) (Ge1 (Ba ty108 rfl) fun b6 => Ge0 (Es7_7 ty108) ?_)))))))
  refine Af (Ah (Gl2 ty111 ?_))
  refine Gl7 ty108 ?_
  refine G.e (Am call141 rfl rfl (Cm (J := vc 146 (.slice a (linksL (SE.take k)).length c) (linksL (SE.take k)) :: blk b6 [I64 ((at_ SE (k : Int)).kd), I64 ((at_ SE (k : Int)).tm), I64 ((at_ SE (k : Int)).u), I64 ((at_ SE (k : Int)).v), I64 ((at_ SE (k : Int)).w), I64 ((at_ SE (k : Int)).lb), I64 ((at_ SE (k : Int)).sg)] 108 :: vc 3 (.slice oa out.length oc) (out) :: blk b5 [I64 (nd), .slice a (linksL (SE.take k)).length c] 111 :: vc 108 (.slice ad3 (SE).length cp4) (SE) :: blk b1 [I64 (kd), I64 (wd), I64 (mo)] 31 :: I) B6 (ApplyP_ok (nd := nd) (e := (at_ SE (k : Int))) (xs := linksL (SE.take k)) (links_val hH.st.nodes hfS k) (hfS _ (Ch om om)) (by have := links_len (links_val hH.st.nodes hfS k); omega)))) ?_
  rintro _ _ ⟨_, _, ⟨ad7, cp8, wv9, rfl, rfl⟩, rfl, rfl⟩
  refine Gm rfl (Gr (Az rfl rfl) (Gr (Az rfl rfl) (Gr (Az rfl rfl) (Ge0 (Co ty111) ?_))))
  refine Af (Ap (S7 12 5 7 10 26 27 28 rfl rfl rfl rfl rfl rfl rfl) (Av (Gm rfl (Gf fld108_1 rfl (Gl ty3 ?_)))))
  refine Ge1 (B5 (α := Int) (cs := [_]) (xs := [(at_ SE (k : Int)).tm]) Ab ty3 rfl rfl dc dc rfl rfl rfl rfl) fun ad10 => ?_
  refine Ge2 (Ce (α := Int) (e := 3) (xs := out) (ys := ([(at_ SE (k : Int)).tm] : List Int)) Ab ty3 rfl rfl rfl mm Bc lcn dc rfl (fun _ _ => am)) fun ad11 cp12 => ?_
  exact Ga rfl (Bh (Ai (Aj (Av (Gr (Rad rfl rfl) (Gm rfl (Bh (B3 ((k + 1), (ad7), (cp8), (ad11), (cp12), (out ++ ([(at_ SE (k : Int)).tm] : List Int))) (by dsimp only; exact ⟨om, (by rw [ho, Cx SE k om, List.map_append]; rfl)⟩) (hI := by (try dsimp only); exact (by rw [linksL_take om]; exact B6))))))))))
 ·refine Bt (Ao (Ao (A5 (Aj (As (Ah (Gf fld111_1 rfl ?_)))))))
  have hfull : SE.take k = SE := List.take_of_length_le om
  rw [hfull] at ho ⊢
  have hvL : checkS nd (linksL SE) = 0 := by have := links_val hH.st.nodes hfS k; rwa [hfull] at this
  refine Gl ty109 ?_
  refine Gr (Bl Aw rfl) (Gm rfl (Af (A3 (Bx (σ := Nat × (Option Addr) × Nat × (List Int)) (fun s => ([(5, .pointer (some ⟨b1, 0, none⟩)), (7, .slice s.2.1 s.2.2.2.length s.2.2.1), (46, .slice a (linksL (SE)).length c), (47, I64 ((((linksL (SE)).length : Nat) : Int))), (48, I64 (((s.1 : Nat) : Int)))] : Env)) (fun s => vc 146 (.slice a (linksL (SE)).length c) (linksL (SE)) :: vc 3 (.slice s.2.1 s.2.2.2.length s.2.2.1) (s.2.2.2) :: blk b5 [I64 (nd), .slice a (linksL (SE)).length c] 111 :: vc 108 (.slice ad3 (SE).length cp4) (SE) :: blk b1 [I64 (kd), I64 (wd), I64 (mo)] 31 :: I) (fun s => (s.1 ≤ (linksL SE).length) ∧ (s.2.2.2 = 0 :: (SE.map Ev.tm ++ (lateL kd wd ((linksL SE).take s.1)).map Ev.tm))) (fun s => (linksL SE).length - s.1) (0, oa, oc, out) (show ((0 : Nat) ≤ (linksL SE).length) ∧ ((out : List Int) = 0 :: (SE.map Ev.tm ++ (lateL kd wd ((linksL SE).take (0 : Nat))).map Ev.tm)) from ⟨om, (by rw [ho]; simp [lateL])⟩) (Aa rfl (Aa (Cy rfl (by first | rfl | simp)) (Aa rfl (Aa rfl (Aa Ci Bj))))) (show Fit κ _ (vc 146 (.slice a (linksL (SE)).length c) (linksL (SE)) :: vc 3 (.slice (oa) (out).length (oc)) ((out)) :: blk b5 [I64 (nd), .slice a (linksL (SE)).length c] 111 :: vc 108 (.slice ad3 (SE).length cp4) (SE) :: blk b1 [I64 (kd), I64 (wd), I64 (mo)] 31 :: I) from A2) ?_))))
  rintro ⟨k2, oa2, oc2, out2⟩ hp
  dsimp only at hp ⊢
  obtain ⟨hk2, ho2⟩ := hp
  have hol2 : out2.length ≤ SE.length + k2 + 1 := by rw [ho2, List.length_cons, List.length_append, List.length_map, List.length_map]; have h1 := lateL_len kd wd ((linksL SE).take k2); rw [List.length_take] at h1; omega
  have hww := checkW_wd hH.win
  refine Ah (Gr (A8 rfl rfl) (Af (As (A7 rfl (fun c49 => ?_) (fun c49 => ?_)))))
  ·refine A4 (Aj (As (A3 (Ah (Gr (A0 (α := Lk) (xs := linksL (SE)) Aw ty146 rfl rfl Bc om om) (Gr (Bs (α := Lk) (xs := linksL (SE)) ty146 rfl Bc om om) (Ge1 (Ba ty146 rfl) fun b13 => Ge0 (Dg ty146) ?_)))))))
   have htk := checkS_tm hvL (k2 : Int) om om
   refine Af (Ah (Gf fld146_5 rfl (Gl ty3 ?_)))
   refine Gf fld31_1 rfl (Gl ty3 ?_)
   refine Gr (Rad rfl rfl) (Ga rfl (Af (Ap (S6 15 5 7 46 47 48 rfl rfl rfl rfl rfl rfl) (Ah (Gf fld31_0 rfl (Gl ty3 ?_))))))
   refine Gr (Bb rfl rfl) (Gm rfl (Bd (d := 60) rfl (fun g60 => ?_) (fun g60 => ?_)))
   ·refine Gro (Ad rfl) (Gro (Dx rfl rfl) (Gr (Al rfl rfl) (Af (Ap (S7 63 15 5 7 46 47 48 rfl rfl rfl rfl rfl rfl rfl) (A7 rfl (fun c63 => ?_) (fun c63 => ?_))))))
    ·refine Av (Gm rfl (Gm rfl (Ge1 (B5 (α := Int) (cs := [_]) (xs := [((at_ (linksL (SE)) (k2 : Int)).tm) + wd]) Ab ty3 rfl rfl dc dc rfl rfl rfl rfl) fun ad14 => ?_)))
     refine Ge2 (Ce (α := Int) (e := 3) (xs := out2) (ys := ([((at_ (linksL (SE)) (k2 : Int)).tm) + wd] : List Int)) Ab ty3 rfl rfl rfl mm Bc lcn dc rfl (fun _ _ => am)) fun ad15 cp16 => ?_
     exact Ga rfl (Bh (Ai (Aj (Av (Gr (Rad rfl rfl) (Gm rfl (Bh (B3 ((k2 + 1), (ad15), (cp16), (out2 ++ ([((at_ (linksL (SE)) (k2 : Int)).tm) + wd] : List Int))) (by dsimp only; exact ⟨om, (by first | (rw [ho2, lateTm_yes om g60 asm, List.cons_append, List.append_assoc]) | (rw [ho2, lateTm_no om (.inl g60)]) | (rw [ho2, lateTm_no om (.inr asm)]))⟩)))))))))
    ·exact A4 (Ai (Aj (Av (Gr (Rad rfl rfl) (Gm rfl (Bh (B3 ((k2 + 1), (oa2), (oc2), (out2)) (by dsimp only; exact ⟨om, (by first | (rw [ho2, lateTm_yes om g60 asm, List.cons_append, List.append_assoc]) | (rw [ho2, lateTm_no om (.inl g60)]) | (rw [ho2, lateTm_no om (.inr asm)]))⟩))))))))
   ·exact Gpo (Gpo (Gr (Aq rfl rfl) (Af (Ap (S7 63 15 5 7 46 47 48 rfl rfl rfl rfl rfl rfl rfl) (Dj rfl (A4 (Ai (Aj (Av (Gr (Rad rfl rfl) (Gm rfl (Bh (B3 ((k2 + 1), (oa2), (oc2), (out2)) (by dsimp only; exact ⟨om, (by first | (rw [ho2, lateTm_yes om g60 asm, List.cons_append, List.append_assoc]) | (rw [ho2, lateTm_no om (.inl g60)]) | (rw [ho2, lateTm_no om (.inr asm)]))⟩))))))))))))))
  ·refine Bt (Ao (Ao (A5 (Aj (Ah (Gm rfl (Gc1 (Am call142 rfl rfl (Cm (J := vc 3 (.slice oa2 out2.length oc2) (out2) :: vc 146 (.slice a (linksL (SE)).length c) (linksL (SE)) :: blk b5 [I64 (nd), .slice a (linksL (SE)).length c] 111 :: vc 108 (.slice ad3 (SE).length cp4) (SE) :: blk b1 [I64 (kd), I64 (wd), I64 (mo)] 31 :: I) B6 (sortI_ok om))) ?_)))))))
   refine Af (Ah (Gm rfl (G.e (Am call143 rfl rfl (Cm (J := vc 3 (.slice oa2 out2.length oc2) (sortZ out2) :: vc 146 (.slice a (linksL (SE)).length c) (linksL (SE)) :: blk b5 [I64 (nd), .slice a (linksL (SE)).length c] 111 :: vc 108 (.slice ad3 (SE).length cp4) (SE) :: blk b1 [I64 (kd), I64 (wd), I64 (mo)] 31 :: I) B6 (CompactI_n (xs := sortZ out2) (by exact (Ec _).symm) (by first | omega | (rw [Ec]; omega))))) ?_)))
   rintro _ _ ⟨_, _, ⟨rfl, rfl⟩, rfl, rfl⟩
   show G Tryz.prog κ _ _ _ _ ([(72, .slice oa2 (ascZ out2).length oc2), (71, .slice oa2 out2.length oc2), (70, .tuple #[]), (69, .slice oa2 out2.length oc2), (49, .bool (decide ((k2 : Int) < (((linksL (SE)).length : Nat) : Int)))), (5, .pointer (some ⟨b1, 0, none⟩)), (7, .slice oa2 out2.length oc2), (46, .slice a (linksL (SE)).length c), (47, I64 ((((linksL (SE)).length : Nat) : Int))), (48, I64 ((k2 : Int)))] : Env) (vc 3 (.slice oa2 (ascZ out2).length oc2) (ascZ out2) :: vc 146 (.slice a (linksL (SE)).length c) (linksL (SE)) :: blk b5 [I64 (nd), .slice a (linksL (SE)).length c] 111 :: vc 108 (.slice ad3 (SE).length cp4) (SE) :: blk b1 [I64 (kd), I64 (wd), I64 (mo)] 31 :: I)
   refine Ga rfl (Af (Ay ?_))
   have hE : out2 = timesL kd wd mo es := by rw [ho2, List.take_of_length_le om]; unfold timesL; rw [hSE]
   exact A1 rfl rfl (vc 3 (.slice oa2 (timesZ kd wd mo es).length oc2) (timesZ kd wd mo es) :: I) (by unfold timesZ; rw [← hE]; exact B6) ⟨oa2, oc2, by unfold timesZ; rw [← hE], rfl⟩
end Go.Sl
