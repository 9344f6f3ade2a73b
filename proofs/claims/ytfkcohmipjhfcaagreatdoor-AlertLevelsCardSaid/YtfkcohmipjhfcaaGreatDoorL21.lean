/- A part of the proofs of statements of this seat: contracts of functions, and the plain laws that they lean on. No conditions. -/
import Derived.Test.YtfkcohmipjhfcaaGreatDoorL20
import Derived.ProofKit
import Derived.OpenShut
import Derived.ChangeOld
import Derived.Below
import Derived.SizedLaws
import Derived.JoinedOf
import Derived.Deep.Slices
import Derived.Deep.Fields
set_option linter.unusedVariables false
set_option linter.unusedSimpArgs false
set_option linter.unusedSectionVars false
namespace Go.Sl
open Go.Proofs
set_option maxRecDepth 4000
theorem set_bitA {nd : Int} {S : List Int} (h : 0 ≤ nd ∧ nd ≤ 64) {i : Nat} : (maskB S &&& allB nd).getLsbD i = true ↔ ((i : Int) ∈ S ∧ (i : Int) < nd) := by
 by_cases hi : i < 64
 ·rw [BitVec.getLsbD_and, Bool.and_eq_true, bit_maskB hi, getLsb_allB h.1 h.2 hi, decide_eq_true_eq]
 ·rw [BitVec.getLsbD_of_ge _ _ om]
  exact ⟨fun h => absurd h dc, fun h => by omega⟩
theorem mem_rchA {nd : Int} {es : List Pt} {S : List Int} {v x : Int} (hG : GrOk nd es) (hv : 0 ≤ v ∧ v < nd) : x ∈ rchG nd es [v] S ↔ 0 ≤ x ∧ Conn (rowsB nd es) (maskB S &&& allB nd) v.toNat x.toNat := by
 have hr := hG.rng
 unfold rchG
 rw [if_neg (by rw [checkG_ok.2 hG]; decide), D4, mask_one, bit_one om]
 exact and_congr_right fun _ => ⟨fun h => ⟨by omega, h⟩, fun h => h.2⟩
theorem Conn.more {rows : List (BitVec 64)} {w w' : BitVec 64} (h : ∀ i : Nat, w.getLsbD i = true → w'.getLsbD i = true) {i j : Nat} (hc : Conn rows w i j) : Conn rows w' i j := by
 have hl := hc.left
 exact Conn.ind (X := fun k => Conn rows w' i k) (.refl (h _ hl)) (fun a b ha _ hr hw => ha.step hr (h _ hw)) hc
theorem coreK_less {nd lv d : Int} {es : List Pt} (hd : 0 ≤ d) {y : Int} (h : y ∈ coreK nd es (lv + d)) : y ∈ coreK nd es lv := by
 rw [mem_coreK] at h ⊢
 exact ⟨h.1, by omega⟩
theorem comm_two {nd lv d b x y : Int} {es : List Pt} (hG : GrOk nd es) (hd : 0 ≤ d) (hb : 0 ≤ b ∧ b < nd) (h0 : 0 ≤ x ∧ x < nd) (hx : x ∈ commG nd es b (lv + d)) (hy : y ∈ commG nd es b (lv + d)) : y ∈ commG nd es x lv := by
 have hr := hG.rng
 unfold commG at *
 obtain ⟨h1, hcx⟩ := (mem_rchA hG hb).1 hx
 obtain ⟨h2, hcy⟩ := (mem_rchA hG hb).1 hy
 refine (mem_rchA hG h0).2 ⟨h2, ((hcx.symm (rowsB_sym hG)).trans hcy).more fun i hi => ?_⟩
 rw [set_bitA hr] at hi ⊢
 exact ⟨coreK_less hd hi.1, hi.2⟩
section
variable {n nd d : Int} {es : List Pt} {x : AlV}
theorem AlOk.up (h : AlOk n x) (hb : x.lv ≤ 3) (hd : 0 ≤ d ∧ d ≤ 2) (h2 : ¬ x.kd = 2) (h3 : ¬ x.kd = 3) : AlOk n ⟨x.kd, x.no, x.lv + d, x.a, x.c, x.xs, x.num, x.den⟩ where
 kind := h.kind
 k1 := fun e => ⟨(h.k1 e).1, by have := (h.k1 e).2.1; show 0 ≤ x.lv + d ∧ x.lv + d ≤ 64; omega, (h.k1 e).2.2⟩
 k2 := fun e => absurd e h2
 k3 := fun e => absurd e h3
 k4 := fun e => ⟨(h.k4 e).1, by have := (h.k4 e).2.1; show 0 ≤ x.lv + d ∧ x.lv + d ≤ 64; omega, (h.k4 e).2.2⟩
 k5 := fun e => ⟨(h.k5 e).1, by have := (h.k5 e).2.1; show 0 ≤ x.lv + d ∧ x.lv + d ≤ 64; omega, (h.k5 e).2.2⟩
theorem AlOk.pos (h : AlOk n x) : 0 ≤ x.num ∧ 0 ≤ x.lv := by
 have hk := h.kind
 obtain e | e | e | e | e : x.kd = 1 ∨ x.kd = 2 ∨ x.kd = 3 ∨ x.kd = 4 ∨ x.kd = 5 := by omega
 ·have h1 := h.k1 e; omega
 ·have h1 := h.k2 e
  have h2 := h1.2.2.2.n0
  simp only at h2; omega
 ·have h1 := h.k3 e
  have h2 := h1.2.2.2.2.n0
  simp only at h2; omega
 ·have h1 := h.k4 e; omega
 ·have h1 := h.k5 e; omega
theorem frv_one {m : Int} (h0 : 0 ≤ m) (h1 : m ≤ 1073741824) : FrV ⟨m, 1⟩ := ⟨h0, h1, by show (1 : Int) ≤ 1; omega, by show (1 : Int) ≤ 1073741824; omega, by
 have h2 := gcdI_pos (a := m) (b := 1) dc
 have h3 := gcdI_le (a := m) (b := 1) dc
 show gcdI m 1 = 1
 omega⟩
theorem AlOk.dens (h : AlOk n x) (hb : x.num ≤ 5) (hd : 0 ≤ d ∧ d ≤ 3) (hk : x.kd = 2 ∨ x.kd = 3) : AlOk n ⟨x.kd, x.no, x.lv, x.a, x.c, x.xs, x.num + d, 1⟩ where
 kind := h.kind
 k1 := fun e => absurd (show x.kd = 1 from e) om
 k2 := fun e => ⟨(h.k2 e).1, (h.k2 e).2.1, (h.k2 e).2.2.1, (show FrV ⟨x.num + d, 1⟩ from frv_one (by have := (h.k2 e).2.2.2.n0; simp only at this; omega) om)⟩
 k3 := fun e => ⟨(h.k3 e).1, (h.k3 e).2.1, (h.k3 e).2.2.1, (h.k3 e).2.2.2.1, (show FrV ⟨x.num + d, 1⟩ from frv_one (by have := (h.k3 e).2.2.2.2.n0; simp only at this; omega) om)⟩
 k4 := fun e => absurd (show x.kd = 4 from e) om
 k5 := fun e => absurd (show x.kd = 5 from e) om
theorem valid_union {xs zs : List Int} (h1 : ValidP xs n) (h2 : ValidP zs n) : ValidP (ofL (xs ++ zs)) n := ValidP_iff.2 ⟨fun y hy => by
 rcases List.mem_append.1 ((mem_ofL _ _).1 hy) with h | h
 ·exact ValidP_mem h1 h
 ·exact ValidP_mem h2 h, ofL_asc _⟩
theorem union_len {xs zs : List Int} (hn : n ≤ 64) (h : ValidP (ofL (xs ++ zs)) n) (h0 : 0 < xs.length) : 0 < (ofL (xs ++ zs)).length ∧ (ofL (xs ++ zs)).length ≤ 64 := by
 have h3 : at_ xs 0 ∈ ofL (xs ++ zs) := (mem_ofL _ _).2 (List.mem_append_left _ (Ch om om))
 have h4 := List.length_pos_of_mem h3
 have h6 := ValidP_mem h h3
 have h5 := ValidP.len h om
 omega
theorem AlOk.more (h : AlOk n x) (hn : n ≤ 64) (hb : x.lv ≤ 3) (hd : 0 ≤ d ∧ d ≤ 2) (hk : x.kd = 5) {zs : List Int} (hz : ValidP zs n) (a : Option Addr) (c : Nat) : AlOk n ⟨x.kd, x.no, x.lv + d, a, c, ofL (x.xs ++ zs), x.num, x.den⟩ where
 kind := h.kind
 k1 := fun e => absurd (show x.kd = 1 from e) om
 k2 := fun e => absurd (show x.kd = 2 from e) om
 k3 := fun e => absurd (show x.kd = 3 from e) om
 k4 := fun e => absurd (show x.kd = 4 from e) om
 k5 := fun e => by
  obtain ⟨h1, h2, h3, h4, h5⟩ := h.k5 e
  have hv := valid_union h4 hz
  exact ⟨h1, by show 0 ≤ x.lv + d ∧ x.lv + d ≤ 64; omega, union_len hn hv h3.1, hv, h5⟩
theorem hold_mono {x y : AlV} (h : condP nd es y → condP nd es x) : holdV nd es y = true → holdV nd es x = true := fun hy => (holdV_iff _ _ _).2 (h ((holdV_iff _ _ _).1 hy))
theorem hold_up (hk : 1 ≤ x.kd ∧ x.kd ≤ 5) (h2 : ¬ x.kd = 2) (h3 : ¬ x.kd = 3) (h5 : ¬ x.kd = 5) (hd : 0 ≤ d) : holdV nd es ⟨x.kd, x.no, x.lv + d, x.a, x.c, x.xs, x.num, x.den⟩ = true → holdV nd es x = true := hold_mono fun h => by
 by_cases h1 : x.kd = 1
 ·have := (cond1 (x := (⟨x.kd, x.no, x.lv + d, x.a, x.c, x.xs, x.num, x.den⟩ : AlV)) h1).1 h
  exact (cond1 h1).2 (by simp only at this; omega)
 ·by_cases h4 : x.kd = 4
  ·obtain ⟨t, ht, h⟩ := (cond4 (x := (⟨x.kd, x.no, x.lv + d, x.a, x.c, x.xs, x.num, x.den⟩ : AlV)) h4).1 h
   exact (cond4 h4).2 ⟨t, ht, by simp only at h; omega⟩
  ·exfalso; omega
theorem dens_mono {c e num den : Int} (hc : 0 ≤ c) (he : 0 ≤ e) (hden : 1 ≤ den) (hd : 0 ≤ d) (h : (num + d) * c ≤ 1 * e) : num * c ≤ den * e := by
 have h1 : 0 ≤ d * c := Int.mul_nonneg hd hc
 have h2 : 1 * e ≤ den * e := Int.mul_le_mul_of_nonneg_right hden he
 rw [Int.add_mul] at h
 omega
theorem hold_dens (hG : GrOk nd es) (ha : AlOk n x) (hk : x.kd = 2 ∨ x.kd = 3) (hd : 0 ≤ d) : holdV nd es ⟨x.kd, x.no, x.lv, x.a, x.c, x.xs, x.num + d, 1⟩ = true → holdV nd es x = true := hold_mono fun h => by
 rcases hk with hk | hk
 ·have h := (cond2 (x := (⟨x.kd, x.no, x.lv, x.a, x.c, x.xs, x.num + d, 1⟩ : AlV)) hk).1 h
  refine (cond2 hk).2 ?_
  have hf := (ha.k2 hk).2.2.2
  have hd1 := hf.d0
  unfold densQ at h ⊢
  simp only at h hd1
  split at h
  ·rename_i hz; rw [if_pos hz]; omega
  ·rename_i hz
   rw [if_neg hz]
   obtain ⟨W, h1, h2, h3⟩ := h
   exact ⟨W, h1, h2, dens_mono (by have := cntB_pos h2; omega) (insE_bd W es).1 hd1 hd h3⟩
 ·have h := (cond3 (x := (⟨x.kd, x.no, x.lv, x.a, x.c, x.xs, x.num + d, 1⟩ : AlV)) hk).1 h
  refine (cond3 hk).2 ?_
  have hf := (ha.k3 hk).2.2.2.2
  have hd1 := hf.d0
  have hg := densG_frv hG x.xs
  rw [cmpF_ge] at h ⊢
  simp only at h hd1 ⊢
  have h1 := hg.n0
  have h2 := hg.d0
  have := dens_mono (c := (densG nd es x.xs).den) (e := (densG nd es x.xs).num) (num := x.num) om h1 hd1 hd (by rw [Int.one_mul]; rw [Int.mul_one] at h; exact h)
  rw [Int.mul_comm (densG nd es x.xs).num]
  exact this
theorem hold_more (hG : GrOk nd es) (ha : AlOk nd x) (hk : x.kd = 5) (hd : 0 ≤ d) {zs : List Int} (hz : ValidP zs nd) (a : Option Addr) (c : Nat) : holdV nd es ⟨x.kd, x.no, x.lv + d, a, c, ofL (x.xs ++ zs), x.num, x.den⟩ = true → holdV nd es x = true := hold_mono fun h => by
 obtain ⟨h1, h2, h3, h4, h5⟩ := ha.k5 hk
 have hv := valid_union h4 hz
 have hn := hG.rng
 have hl := union_len hn.2 hv h3.1
 have h := (cond5 (x := (⟨x.kd, x.no, x.lv + d, a, c, ofL (x.xs ++ zs), x.num, x.den⟩ : AlV)) hk).1 h
 refine (cond5 hk).2 fun y hy => ?_
 simp only at h
 have hm : ∀ z ∈ x.xs, z ∈ ofL (x.xs ++ zs) := fun z hz => (mem_ofL _ _).2 (List.mem_append_left _ hz)
 have h0 := Ch (xs := x.xs) (i := 0) om om
 exact comm_two hG hd (ValidP_mem hv (Ch om om)) (ValidP_mem h4 h0) (h _ (hm _ h0)) (h _ (hm _ hy))
end
theorem AHolds_ok {κ : Ctx} {I : List Item} {nd : Int} {ea : Option Addr} {ec : Nat} {es : List Pt} {x : AlV} (hl : Sl κ I (.slice ea es.length ec) es) (hs : Sl κ I (.slice x.a x.xs.length x.c) x.xs) (hG : GrOk nd es) (hok : AlOk nd x) (hT : TabRd κ I 0 tzCells) :
    CallS Tryz.prog κ 29 [.agg #[I64 (nd), .slice ea es.length ec], .agg #[I64 (x.kd), I64 (x.no), I64 (x.lv), .slice x.a x.xs.length x.c, I64 (x.num), I64 (x.den)]] I (fun r J => r = .tuple #[.bool (holdV nd es x), I64 0] ∧ I = J) := by
 refine Ce2 Tryz.func29 rfl rfl ?_
 refine Ah (Ge1 (Be (cs := [_, _]) rfl rfl rfl) fun b1 => Ge1 (Be (cs := [_, _, _, _, _, _]) rfl rfl rfl) fun b2 => Ga rfl (Ga rfl (Af (As (Ah (Gl2 ty48 ?_))))))
 refine Gc0 (Am call83 rfl rfl (CheckGen_ok (Bi hl))) ?_
 refine Ga rfl (Af (Ah (Gm rfl (Gr (Bw rfl rfl) (Af (A7 rfl (fun c11 => ?_) (fun c11 => ?_)))))))
 ·exact absurd (checkG_ok.2 hG) c11
 ·refine A4 (Aj (As (Ah (Gl6 ty42 ?_))))
  refine Gf fld48_0 rfl (Gl ty3 ?_)
  refine G.e (Am call37 rfl rfl (CheckAny_ok (x := x) (Bi hs) hok)) ?_
  rintro _ _ ⟨_, _, ⟨rfl, rfl⟩, rfl, rfl⟩
  refine Ga rfl (Af (Ap (S3 7 3 2 rfl rfl rfl) (Ah (Gm rfl (Gr (Bw rfl rfl) (Af (A7 rfl (fun c18 => ?_) (fun c18 => ?_))))))))
  ·exact absurd rfl c18
  ·refine A4 (Aj (As (Bk mixed (Bp (blk b2 [I64 (x.kd), I64 (x.no), I64 (x.lv), .slice x.a x.xs.length x.c, I64 (x.num), I64 (x.den)] 42 :: blk b1 [I64 (nd), .slice ea es.length ec] 48 :: I) 9 (Dr 0 rfl (Ac fld42_0 rfl) (Dr 1 rfl (Au ty3) ?_))))))
   refine Dr 4 rfl (Bm (vs := [_, _]) ty48) ?_
   refine Dr 5 rfl (Bm (vs := [_, _, _, _, _, _]) ty42) ?_
   refine Ds1 2 (Se rfl (Am call81 rfl rfl (OfAny_ok hok.kind)) ?_)
   rintro _ _ ⟨_, _, ⟨rfl, rfl⟩, rfl, rfl⟩
   refine ⟨A2, ?_⟩
   refine Dr 3 rfl (Runs.fieldV (fun w => fieldK _ _ _ _ _ w) rfl) ?_
   refine Ds1 6 (Se rfl (Cp (fK_call hok.kind) (first := []) (caps := []) rfl rfl rfl (HoldAny_ok (x := x) (Bi hl) (Bi hs) hG hok (Bq hT Ax))) ?_)
   rintro _ _ ⟨_, _, ⟨rfl, rfl⟩, rfl, rfl⟩
   refine ⟨A2, ?_⟩
   exact Dr 7 rfl (A9 rfl) (Dr 8 rfl (A9 rfl) (Dz (Aj (Ap (S2 5 4 rfl rfl) (Ay (Cu rfl rfl rfl (I) Ax ⟨rfl, rfl⟩))))))
set_option maxHeartbeats 4000000 in
theorem AlertLevels_walk {κ : Ctx} {I : List Item} {la : Option Addr} {ln lc : Nat} {ls : List Int} (hl : Sl κ I (.slice la ln lc) ls) (m0 : Int) (hm0 : 0 ≤ m0 ∧ m0 < 256) (hT : TabRd κ I 0 tzCells) :
    CallS Tryz.prog κ 5 [.slice la ln lc, .int .u8 (m0)] I (fun r J => r = .bool true ∧ I = J) := by
 have ht3 : 0 ≤ Int.tmod m0 3 ∧ Int.tmod m0 3 < 3 := by rw [Int.tmod_eq_emod_of_nonneg hm0.1]; omega
 have ht4 : 0 ≤ Int.tmod m0 4 ∧ Int.tmod m0 4 < 4 := by rw [Int.tmod_eq_emod_of_nonneg hm0.1]; omega
 refine Ce2 Tryz.func5 rfl rfl ?_
 refine Ah (Ga rfl (Af (As (Ah (Gm rfl (Gc0 (Am call16 rfl rfl Few_ok) ?_))))))
 refine Gr (Dt rfl) (Af (A7 rfl (fun c15 => ?_) (fun c15 => ?_)))
 ·refine Ah (G.e (Am call17 rfl rfl (Awake44_ok (Bq hT Ax))) ?_)
  rintro _ _ ⟨_, _, ⟨rfl, rfl⟩, rfl, rfl⟩
  exact Ga rfl (Af (Ay (Ak (A1 rfl rfl (I) Ax ⟨rfl, rfl⟩))))
 ·refine A4 (Aj (Ah (Gm rfl (G.e (Am call18 rfl rfl New_ok) ?_))))
  rintro _ _ ⟨_, _, ⟨dk1, rfl, rfl⟩, rfl, rfl⟩
  show G Tryz.prog κ _ _ _ _ ([(18, .pointer (some ⟨dk1, 0, none⟩)), (17, .slice la ln lc), (15, .bool (decide (¬ ((ln : Int) ≤ 500)))), (14, .bool (decide ((ln : Int) ≤ 500))), (13, .slice la ln lc), (4, .bool false), (0, .slice la ln lc), (1, .int .u8 (m0))] : Env) (blk dk1 [.slice la ln lc, I64 (0)] 125 :: I)
  have hi0 : (0 : Int) ≤ 0 := Int.le_refl _
  refine Ga rfl (Af (Ah (Gm rfl (G.e (Am call25 rfl rfl (MkGraph_at (by repeat (first | exact AtF.head _ _ | apply AtF.tail)) (fun _ => B4 hl Ax) om  om)) ?_))))
  rintro _ _ ⟨_, _, ⟨⟨nd2, ad3, cp4, es5, i6⟩, ⟨⟨rfl, hges5⟩, hi6⟩, rfl⟩, rfl, rfl⟩
  show G Tryz.prog κ _ _ _ _ ([(20, .agg #[I64 (nd2), .slice ad3 es5.length cp4]), (19, .pointer (some ⟨dk1, 0, none⟩)), (5, .pointer (some ⟨dk1, 0, none⟩)), (18, .pointer (some ⟨dk1, 0, none⟩)), (17, .slice la ln lc), (15, .bool (decide (¬ ((ln : Int) ≤ 500)))), (14, .bool (decide ((ln : Int) ≤ 500))), (13, .slice la ln lc), (4, .bool false), (0, .slice la ln lc), (1, .int .u8 (m0))] : Env) (vc 135 (.slice ad3 es5.length cp4) (es5) :: blk dk1 [.slice la ln lc, I64 (i6)] 125 :: I)
  have hi6 : 0 ≤ i6 := hi6
  dsimp only at hges5
  refine Ge1 (Ba ty48 rfl) fun b7 => Ge0 (Co ty48) ?_
  have hGG := hges5.2.1
  have hgr := hGG.rng
  have hg7 := hges5.1
  refine Af (As (Ah (Gf fld48_0 rfl (Gl ty3 ?_))))
  refine Gr (Bb rfl rfl) (Af (Ap (S4 23 6 5 1 rfl rfl rfl rfl) (A7 rfl (fun c23 => ?_) (fun c23 => ?_))))
  ·refine Ah (G.e (Am call17 rfl rfl (Awake44_ok (Bq hT Ax))) ?_)
   rintro _ _ ⟨_, _, ⟨rfl, rfl⟩, rfl, rfl⟩
   exact Ga rfl (Af (Ay (Ak (A1 rfl rfl (I) Ax ⟨rfl, rfl⟩))))
  ·refine A4 (Aj (Ah (Gm rfl (Gf fld48_0 rfl (Gl ty3 ?_)))))
   refine G.e (Am call26 rfl rfl (MkAlarm_at (by repeat (first | exact AtF.head _ _ | apply AtF.tail)) (fun _ => B4 hl Ax) om  om)) ?_
   rintro _ _ ⟨_, _, ⟨⟨xa8, i9⟩, ⟨⟨rfl, haxa8, habxa8⟩, hi9⟩, rfl⟩, rfl, rfl⟩
   show G Tryz.prog κ _ _ _ _ ([(28, .agg #[I64 (xa8.kd), I64 (xa8.no), I64 (xa8.lv), .slice xa8.a xa8.xs.length xa8.c, I64 (xa8.num), I64 (xa8.den)]), (27, I64 (nd2)), (26, .pointer (some ⟨b7, 0, none⟩)), (25, .pointer (some ⟨dk1, 0, none⟩)), (23, .bool (decide (nd2 = 0))), (6, .pointer (some ⟨b7, 0, none⟩)), (5, .pointer (some ⟨dk1, 0, none⟩)), (1, .int .u8 (m0))] : Env) (vc 3 (.slice xa8.a xa8.xs.length xa8.c) (xa8.xs) :: blk b7 [I64 (nd2), .slice ad3 es5.length cp4] 48 :: vc 135 (.slice ad3 es5.length cp4) (es5) :: blk dk1 [.slice la ln lc, I64 (i9)] 125 :: I)
   have hi9 : 0 ≤ i9 := hi9
   refine Ge1 (Ba ty42 rfl) fun b10 => Ge0 (Dg ty42) ?_
   have hax : AlOk nd2 xa8 := haxa8
   have hkx : 1 ≤ xa8.kd ∧ xa8.kd ≤ 5 := haxa8.kind
   have hab2 : xa8.lv ≤ 3 ∧ xa8.num ≤ 5 := habxa8
   have hpo : 0 ≤ xa8.num ∧ 0 ≤ xa8.lv := haxa8.pos
   refine Af (Ah (Gl6 ty42 ?_))
   refine Ge1 (Ba ty42 rfl) fun b11 => Ge0 (Dg ty42) ?_
   refine Af (As (Ah (Gf fld42_0 rfl (Gl ty3 ?_))))
   refine Af (A3 (As (Ah (Gr (Bb rfl rfl) (Ga rfl (Af (Ap (S7 39 31 8 7 6 5 1 rfl rfl rfl rfl rfl rfl rfl) (A7 rfl (fun c39 => ?_) (fun c39 => ?_)))))))))
   ·refine A4 (Aj (A7 rfl (fun c39 => ?_) (fun c39 => ?_)))
    ·refine Ah (Gf fld42_4 rfl (Gf fld40_0 rfl (Gl ty3 ?_)))
     refine Gm rfl (Gr (Eh rfl rfl om) (Gr (D6 Cr Bu rfl (by unfold InR; omega)) (Gr (Rad rfl rfl) (Gf fld42_4 rfl (Gf fld40_0 rfl (Ge0 (Ea ty3) ?_))))))
     refine Af (Ap (S3 8 7 6 rfl rfl rfl) (Av (Gf fld42_4 rfl (Gf fld40_1 rfl (Ge0 (Ea ty3) ?_)))))
     refine Bh (Ai (Aj (Ah (Gl2 ty48 ?_))))
     have hokY : AlOk nd2 (⟨xa8.kd, xa8.no, xa8.lv, xa8.a, xa8.c, xa8.xs, xa8.num + (Int.tmod m0 4), 1⟩ : AlV) := hax.dens hab2.2 om om
     have hmo : holdV nd2 es5 (⟨xa8.kd, xa8.no, xa8.lv, xa8.a, xa8.c, xa8.xs, xa8.num + (Int.tmod m0 4), 1⟩ : AlV) = true → holdV nd2 es5 xa8 = true := hold_dens hGG hax om om
     refine Gl6 ty42 ?_
     refine G.e (Am call29 rfl rfl (AHolds_ok (nd := nd2) (x := xa8) Bc Bc hGG hax (Bq hT Ax))) ?_
     rintro _ _ ⟨_, _, ⟨rfl, rfl⟩, rfl, rfl⟩
     refine Gm rfl (Gr (Az rfl rfl) (Gr (Az rfl rfl) (Ga rfl (Ga rfl (Af (Ah (Gl2 ty48 ?_)))))))
     refine Gl6 ty42 ?_
     refine G.e (Am call29 rfl rfl (AHolds_ok (nd := nd2) (x := (⟨xa8.kd, xa8.no, xa8.lv, xa8.a, xa8.c, xa8.xs, xa8.num + (Int.tmod m0 4), 1⟩ : AlV)) Bc Bc hGG hokY (Bq hT Ax))) ?_
     rintro _ _ ⟨_, _, ⟨rfl, rfl⟩, rfl, rfl⟩
     refine Gm rfl (Gr (Az rfl rfl) (Gr (Az rfl rfl) (Ga rfl (Ga rfl (Af (Ap (S5 12 11 10 9 6 rfl rfl rfl rfl rfl) (Ah (Gm rfl (Gr (Bb rfl rfl) (Gm rfl (Bd (d := 84) rfl (fun g84 => ?_) (fun g84 => ?_))))))))))))
     ·refine Gro (Ad rfl) (Gro (Bb rfl rfl) (Gr (Al rfl rfl) (Gm rfl (Bd (d := 88) rfl (fun g88 => ?_) (fun g88 => ?_)))))
      ·refine Gro (Ad rfl) (Gro (Ad rfl) (Ds (d := 90) rfl (fun g90 => ?_) (fun g90 => ?_)))
       ·refine Gpo (Gpo (Gro (Al rfl rfl) (Gr (Al rfl rfl) (Gm rfl (Gro (Bm (vs := [_, _]) ty48) ?_)))))
        refine Cw (Bz rfl rfl rfl) (Am call30 rfl rfl (Check03G_ok (nd := nd2) Bc)) ?_
        rintro _ _ ⟨_, _, ⟨rfl, rfl⟩, rfl, rfl⟩
        refine Gro (Bb rfl rfl) (Gr (Al rfl rfl) (Gm rfl (Bd (d := 100) rfl (fun g100 => ?_) (fun g100 => ?_))))
        ·refine Cw (Bz rfl rfl rfl) (Am call17 rfl rfl (Awake44_ok (Bq hT Ax))) ?_
         rintro _ _ ⟨_, _, ⟨rfl, rfl⟩, rfl, rfl⟩
         exact Gr (Al rfl rfl) (Ga rfl (Af (Ap (S1 4 rfl) (Ay (A1 rfl rfl (I) Ax ⟨rfl, rfl⟩)))))
        ·exact absurd (checkG_ok.2 hGG) g100
       ·refine Gro (Ad rfl) (Gro (B1 rfl) (Gro (Aq rfl rfl) (Gr (Al rfl rfl) (Gm rfl (Ds (d := 95) rfl (fun g95 => ?_) (fun g95 => ?_))))))
        ·refine Gro (Bm (vs := [_, _]) ty48) ?_
         refine Cw (Bz rfl rfl rfl) (Am call30 rfl rfl (Check03G_ok (nd := nd2) Bc)) ?_
         rintro _ _ ⟨_, _, ⟨rfl, rfl⟩, rfl, rfl⟩
         refine Gro (Bb rfl rfl) (Gr (Al rfl rfl) (Gm rfl (Bd (d := 100) rfl (fun g100 => ?_) (fun g100 => ?_))))
         ·refine Cw (Bz rfl rfl rfl) (Am call17 rfl rfl (Awake44_ok (Bq hT Ax))) ?_
          rintro _ _ ⟨_, _, ⟨rfl, rfl⟩, rfl, rfl⟩
          exact Gr (Al rfl rfl) (Ga rfl (Af (Ap (S1 4 rfl) (Ay (A1 rfl rfl (I) Ax ⟨rfl, rfl⟩)))))
         ·exact absurd (checkG_ok.2 hGG) g100
        ·exact absurd (hmo (by simpa using g95)) (by simpa using g90)
      ·exact absurd rfl g88
     ·exact absurd rfl g84
    ·refine Ah (Gr (Bb rfl rfl) (Ga rfl (Af (A7 rfl (fun c53 => ?_) (fun c53 => ?_)))))
     ·refine As (Bk mixed (Bp (blk b10 [I64 (xa8.kd), I64 (xa8.no), I64 (xa8.lv), .slice xa8.a xa8.xs.length xa8.c, I64 (xa8.num), I64 (xa8.den)] 42 :: vc 3 (.slice xa8.a xa8.xs.length xa8.c) (xa8.xs) :: blk b7 [I64 (nd2), .slice ad3 es5.length cp4] 48 :: vc 135 (.slice ad3 es5.length cp4) (es5) :: I) 9 (Dr 0 rfl (Ac fld42_3 rfl) (Dr 1 rfl (Au ty22) ?_))))
      refine Dr 2 rfl (Ad rfl) (Dr 3 rfl (Ac fld48_0 rfl) (Dr 4 rfl (Au ty3) ?_))
      refine Ds1 5 (Se rfl (Am call28 rfl rfl (Set_at (by repeat (first | exact AtF.head _ _ | apply AtF.tail)) (fun _ => B4 hl Ax) om om)) ?_)
      rintro _ _ ⟨_, _, ⟨ad13, cp14, o15, i12, rfl, ho15, hlo15, hi12, rfl⟩, rfl, rfl⟩
      refine ⟨A2, ?_⟩
      show D Tryz.prog κ _ _ _ _ _ _ _ ([(60, .slice ad13 o15.length cp14), (59, I64 (nd2)), (58, .pointer (some ⟨b7, 0, none⟩)), (57, .pointer (some ⟨dk1, 0, none⟩)), (56, .slice xa8.a xa8.xs.length xa8.c), (55, .pointer (some ⟨b10, 3, none⟩)), (53, .bool (decide (xa8.kd = 5))), (54, .bool (decide (xa8.kd = 5))), (39, .bool (decide (xa8.kd = 2))), (31, I64 (xa8.kd)), (8, .pointer (some ⟨b11, 0, none⟩)), (7, .pointer (some ⟨b10, 0, none⟩)), (6, .pointer (some ⟨b7, 0, none⟩)), (5, .pointer (some ⟨dk1, 0, none⟩)), (1, .int .u8 (m0))] : Env) (vc 3 (.slice ad13 o15.length cp14) (o15) :: blk b11 [I64 (xa8.kd), I64 (xa8.no), I64 (xa8.lv), .slice xa8.a xa8.xs.length xa8.c, I64 (xa8.num), I64 (xa8.den)] 42 :: blk b10 [I64 (xa8.kd), I64 (xa8.no), I64 (xa8.lv), .slice xa8.a xa8.xs.length xa8.c, I64 (xa8.num), I64 (xa8.den)] 42 :: vc 3 (.slice xa8.a xa8.xs.length xa8.c) (xa8.xs) :: blk b7 [I64 (nd2), .slice ad3 es5.length cp4] 48 :: vc 135 (.slice ad3 es5.length cp4) (es5) :: blk dk1 [.slice la ln lc, I64 (i12)] 125 :: I)
      refine Ds1 6 (Sc2 rfl (Am call27 rfl rfl (Union_ok Bc Bc (by have hk5 := (hax.k5 (by first | assumption | omega)).2.2.1.2; omega))) fun ad16 cp17 => ?_)
      refine Dr 7 rfl (Ac fld42_3 rfl) (Ds1 8 (Se0 rfl (Ea ty22) ?_))
      refine Dz (Aj (Ap (S4 8 7 6 1 rfl rfl rfl rfl) (Av (Gf fld42_2 rfl (Gl ty3 ?_)))))
      refine Gm rfl (Gr (Eh rfl rfl om) (Gr (D6 Cr Bu rfl (by unfold InR; omega)) (Gr (Rad rfl rfl) (Gf fld42_2 rfl (Ge0 (Ea ty3) ?_)))))
      refine Bh (Ai (Aj (Ah (Gl2 ty48 ?_))))
      have hokY : AlOk nd2 (⟨xa8.kd, xa8.no, xa8.lv + (Int.tmod m0 3), ad16, cp17, ofL (xa8.xs ++ o15), xa8.num, xa8.den⟩ : AlV) := hax.more hgr.2 hab2.1 om asm asm _ _
      have hmo : holdV nd2 es5 (⟨xa8.kd, xa8.no, xa8.lv + (Int.tmod m0 3), ad16, cp17, ofL (xa8.xs ++ o15), xa8.num, xa8.den⟩ : AlV) = true → holdV nd2 es5 xa8 = true := hold_more hGG hax asm om asm _ _
      refine Gl6 ty42 ?_
      refine G.e (Am call29 rfl rfl (AHolds_ok (nd := nd2) (x := xa8) Bc Bc hGG hax (Bq hT Ax))) ?_
      rintro _ _ ⟨_, _, ⟨rfl, rfl⟩, rfl, rfl⟩
      refine Gm rfl (Gr (Az rfl rfl) (Gr (Az rfl rfl) (Ga rfl (Ga rfl (Af (Ap (S4 10 9 8 6 rfl rfl rfl rfl) (Ah (Gl2 ty48 ?_))))))))
      refine Gl6 ty42 ?_
      refine G.e (Am call29 rfl rfl (AHolds_ok (nd := nd2) (x := (⟨xa8.kd, xa8.no, xa8.lv + (Int.tmod m0 3), ad16, cp17, ofL (xa8.xs ++ o15), xa8.num, xa8.den⟩ : AlV)) Bc Bc hGG hokY (Bq hT Ax))) ?_
      rintro _ _ ⟨_, _, ⟨rfl, rfl⟩, rfl, rfl⟩
      refine Gm rfl (Gr (Az rfl rfl) (Gr (Az rfl rfl) (Ga rfl (Ga rfl (Af (Ah (Gm rfl (Gr (Bb rfl rfl) (Gm rfl (Bd (d := 84) rfl (fun g84 => ?_) (fun g84 => ?_)))))))))))
      ·refine Gro (Ad rfl) (Gro (Bb rfl rfl) (Gr (Al rfl rfl) (Gm rfl (Bd (d := 88) rfl (fun g88 => ?_) (fun g88 => ?_)))))
       ·refine Gro (Ad rfl) (Gro (Ad rfl) (Ds (d := 90) rfl (fun g90 => ?_) (fun g90 => ?_)))
        ·refine Gpo (Gpo (Gro (Al rfl rfl) (Gr (Al rfl rfl) (Gm rfl (Gro (Bm (vs := [_, _]) ty48) ?_)))))
         refine Cw (Bz rfl rfl rfl) (Am call30 rfl rfl (Check03G_ok (nd := nd2) Bc)) ?_
         rintro _ _ ⟨_, _, ⟨rfl, rfl⟩, rfl, rfl⟩
         refine Gro (Bb rfl rfl) (Gr (Al rfl rfl) (Gm rfl (Bd (d := 100) rfl (fun g100 => ?_) (fun g100 => ?_))))
         ·refine Cw (Bz rfl rfl rfl) (Am call17 rfl rfl (Awake44_ok (Bq hT Ax))) ?_
          rintro _ _ ⟨_, _, ⟨rfl, rfl⟩, rfl, rfl⟩
          exact Gr (Al rfl rfl) (Ga rfl (Af (Ap (S1 4 rfl) (Ay (A1 rfl rfl (I) Ax ⟨rfl, rfl⟩)))))
         ·exact absurd (checkG_ok.2 hGG) g100
        ·refine Gro (Ad rfl) (Gro (B1 rfl) (Gro (Aq rfl rfl) (Gr (Al rfl rfl) (Gm rfl (Ds (d := 95) rfl (fun g95 => ?_) (fun g95 => ?_))))))
         ·refine Gro (Bm (vs := [_, _]) ty48) ?_
          refine Cw (Bz rfl rfl rfl) (Am call30 rfl rfl (Check03G_ok (nd := nd2) Bc)) ?_
          rintro _ _ ⟨_, _, ⟨rfl, rfl⟩, rfl, rfl⟩
          refine Gro (Bb rfl rfl) (Gr (Al rfl rfl) (Gm rfl (Bd (d := 100) rfl (fun g100 => ?_) (fun g100 => ?_))))
          ·refine Cw (Bz rfl rfl rfl) (Am call17 rfl rfl (Awake44_ok (Bq hT Ax))) ?_
           rintro _ _ ⟨_, _, ⟨rfl, rfl⟩, rfl, rfl⟩
           exact Gr (Al rfl rfl) (Ga rfl (Af (Ap (S1 4 rfl) (Ay (A1 rfl rfl (I) Ax ⟨rfl, rfl⟩)))))
          ·exact absurd (checkG_ok.2 hGG) g100
         ·exact absurd (hmo (by simpa using g95)) (by simpa using g90)
       ·exact absurd rfl g88
      ·exact absurd rfl g84
     ·refine Av (Gf fld42_2 rfl (Gl ty3 ?_))
      refine Gm rfl (Gr (Eh rfl rfl om) (Gr (D6 Cr Bu rfl (by unfold InR; omega)) (Gr (Rad rfl rfl) (Gf fld42_2 rfl (Ge0 (Ea ty3) ?_)))))
      refine Bh (Ai (Aj (Ap (S3 8 7 6 rfl rfl rfl) (Ah (Gl2 ty48 ?_)))))
      have hokY : AlOk nd2 (⟨xa8.kd, xa8.no, xa8.lv + (Int.tmod m0 3), xa8.a, xa8.c, xa8.xs, xa8.num, xa8.den⟩ : AlV) := hax.up hab2.1 om om om
      have hmo : holdV nd2 es5 (⟨xa8.kd, xa8.no, xa8.lv + (Int.tmod m0 3), xa8.a, xa8.c, xa8.xs, xa8.num, xa8.den⟩ : AlV) = true → holdV nd2 es5 xa8 = true := hold_up hkx om om om om
      refine Gl6 ty42 ?_
      refine G.e (Am call29 rfl rfl (AHolds_ok (nd := nd2) (x := xa8) Bc Bc hGG hax (Bq hT Ax))) ?_
      rintro _ _ ⟨_, _, ⟨rfl, rfl⟩, rfl, rfl⟩
      refine Gm rfl (Gr (Az rfl rfl) (Gr (Az rfl rfl) (Ga rfl (Ga rfl (Af (Ah (Gl2 ty48 ?_)))))))
      refine Gl6 ty42 ?_
      refine G.e (Am call29 rfl rfl (AHolds_ok (nd := nd2) (x := (⟨xa8.kd, xa8.no, xa8.lv + (Int.tmod m0 3), xa8.a, xa8.c, xa8.xs, xa8.num, xa8.den⟩ : AlV)) Bc Bc hGG hokY (Bq hT Ax))) ?_
      rintro _ _ ⟨_, _, ⟨rfl, rfl⟩, rfl, rfl⟩
      refine Gm rfl (Gr (Az rfl rfl) (Gr (Az rfl rfl) (Ga rfl (Ga rfl (Af (Ap (S5 12 11 10 9 6 rfl rfl rfl rfl rfl) (Ah (Gm rfl (Gr (Bb rfl rfl) (Gm rfl (Bd (d := 84) rfl (fun g84 => ?_) (fun g84 => ?_))))))))))))
      ·refine Gro (Ad rfl) (Gro (Bb rfl rfl) (Gr (Al rfl rfl) (Gm rfl (Bd (d := 88) rfl (fun g88 => ?_) (fun g88 => ?_)))))
       ·refine Gro (Ad rfl) (Gro (Ad rfl) (Ds (d := 90) rfl (fun g90 => ?_) (fun g90 => ?_)))
        ·refine Gpo (Gpo (Gro (Al rfl rfl) (Gr (Al rfl rfl) (Gm rfl (Gro (Bm (vs := [_, _]) ty48) ?_)))))
         refine Cw (Bz rfl rfl rfl) (Am call30 rfl rfl (Check03G_ok (nd := nd2) Bc)) ?_
         rintro _ _ ⟨_, _, ⟨rfl, rfl⟩, rfl, rfl⟩
         refine Gro (Bb rfl rfl) (Gr (Al rfl rfl) (Gm rfl (Bd (d := 100) rfl (fun g100 => ?_) (fun g100 => ?_))))
         ·refine Cw (Bz rfl rfl rfl) (Am call17 rfl rfl (Awake44_ok (Bq hT Ax))) ?_
          rintro _ _ ⟨_, _, ⟨rfl, rfl⟩, rfl, rfl⟩
          exact Gr (Al rfl rfl) (Ga rfl (Af (Ap (S1 4 rfl) (Ay (A1 rfl rfl (I) Ax ⟨rfl, rfl⟩)))))
         ·exact absurd (checkG_ok.2 hGG) g100
        ·refine Gro (Ad rfl) (Gro (B1 rfl) (Gro (Aq rfl rfl) (Gr (Al rfl rfl) (Gm rfl (Ds (d := 95) rfl (fun g95 => ?_) (fun g95 => ?_))))))
         ·refine Gro (Bm (vs := [_, _]) ty48) ?_
          refine Cw (Bz rfl rfl rfl) (Am call30 rfl rfl (Check03G_ok (nd := nd2) Bc)) ?_
          rintro _ _ ⟨_, _, ⟨rfl, rfl⟩, rfl, rfl⟩
          refine Gro (Bb rfl rfl) (Gr (Al rfl rfl) (Gm rfl (Bd (d := 100) rfl (fun g100 => ?_) (fun g100 => ?_))))
          ·refine Cw (Bz rfl rfl rfl) (Am call17 rfl rfl (Awake44_ok (Bq hT Ax))) ?_
           rintro _ _ ⟨_, _, ⟨rfl, rfl⟩, rfl, rfl⟩
           exact Gr (Al rfl rfl) (Ga rfl (Af (Ap (S1 4 rfl) (Ay (A1 rfl rfl (I) Ax ⟨rfl, rfl⟩)))))
          ·exact absurd (checkG_ok.2 hGG) g100
         ·exact absurd (hmo (by simpa using g95)) (by simpa using g90)
       ·exact absurd rfl g88
      ·exact absurd rfl g84
   ·refine Av (Gr (Bb rfl rfl) (Ga rfl (Af (A7 rfl (fun c39 => ?_) (fun c39 => ?_)))))
    ·refine Ah (Gf fld42_4 rfl (Gf fld40_0 rfl (Gl ty3 ?_)))
     refine Gm rfl (Gr (Eh rfl rfl om) (Gr (D6 Cr Bu rfl (by unfold InR; omega)) (Gr (Rad rfl rfl) (Gf fld42_4 rfl (Gf fld40_0 rfl (Ge0 (Ea ty3) ?_))))))
     refine Af (Ap (S3 8 7 6 rfl rfl rfl) (Av (Gf fld42_4 rfl (Gf fld40_1 rfl (Ge0 (Ea ty3) ?_)))))
     refine Bh (Ai (Aj (Ah (Gl2 ty48 ?_))))
     have hokY : AlOk nd2 (⟨xa8.kd, xa8.no, xa8.lv, xa8.a, xa8.c, xa8.xs, xa8.num + (Int.tmod m0 4), 1⟩ : AlV) := hax.dens hab2.2 om om
     have hmo : holdV nd2 es5 (⟨xa8.kd, xa8.no, xa8.lv, xa8.a, xa8.c, xa8.xs, xa8.num + (Int.tmod m0 4), 1⟩ : AlV) = true → holdV nd2 es5 xa8 = true := hold_dens hGG hax om om
     refine Gl6 ty42 ?_
     refine G.e (Am call29 rfl rfl (AHolds_ok (nd := nd2) (x := xa8) Bc Bc hGG hax (Bq hT Ax))) ?_
     rintro _ _ ⟨_, _, ⟨rfl, rfl⟩, rfl, rfl⟩
     refine Gm rfl (Gr (Az rfl rfl) (Gr (Az rfl rfl) (Ga rfl (Ga rfl (Af (Ah (Gl2 ty48 ?_)))))))
     refine Gl6 ty42 ?_
     refine G.e (Am call29 rfl rfl (AHolds_ok (nd := nd2) (x := (⟨xa8.kd, xa8.no, xa8.lv, xa8.a, xa8.c, xa8.xs, xa8.num + (Int.tmod m0 4), 1⟩ : AlV)) Bc Bc hGG hokY (Bq hT Ax))) ?_
     rintro _ _ ⟨_, _, ⟨rfl, rfl⟩, rfl, rfl⟩
     refine Gm rfl (Gr (Az rfl rfl) (Gr (Az rfl rfl) (Ga rfl (Ga rfl (Af (Ap (S5 12 11 10 9 6 rfl rfl rfl rfl rfl) (Ah (Gm rfl (Gr (Bb rfl rfl) (Gm rfl (Bd (d := 84) rfl (fun g84 => ?_) (fun g84 => ?_))))))))))))
     ·refine Gro (Ad rfl) (Gro (Bb rfl rfl) (Gr (Al rfl rfl) (Gm rfl (Bd (d := 88) rfl (fun g88 => ?_) (fun g88 => ?_)))))
      ·refine Gro (Ad rfl) (Gro (Ad rfl) (Ds (d := 90) rfl (fun g90 => ?_) (fun g90 => ?_)))
       ·refine Gpo (Gpo (Gro (Al rfl rfl) (Gr (Al rfl rfl) (Gm rfl (Gro (Bm (vs := [_, _]) ty48) ?_)))))
        refine Cw (Bz rfl rfl rfl) (Am call30 rfl rfl (Check03G_ok (nd := nd2) Bc)) ?_
        rintro _ _ ⟨_, _, ⟨rfl, rfl⟩, rfl, rfl⟩
        refine Gro (Bb rfl rfl) (Gr (Al rfl rfl) (Gm rfl (Bd (d := 100) rfl (fun g100 => ?_) (fun g100 => ?_))))
        ·refine Cw (Bz rfl rfl rfl) (Am call17 rfl rfl (Awake44_ok (Bq hT Ax))) ?_
         rintro _ _ ⟨_, _, ⟨rfl, rfl⟩, rfl, rfl⟩
         exact Gr (Al rfl rfl) (Ga rfl (Af (Ap (S1 4 rfl) (Ay (A1 rfl rfl (I) Ax ⟨rfl, rfl⟩)))))
        ·exact absurd (checkG_ok.2 hGG) g100
       ·refine Gro (Ad rfl) (Gro (B1 rfl) (Gro (Aq rfl rfl) (Gr (Al rfl rfl) (Gm rfl (Ds (d := 95) rfl (fun g95 => ?_) (fun g95 => ?_))))))
        ·refine Gro (Bm (vs := [_, _]) ty48) ?_
         refine Cw (Bz rfl rfl rfl) (Am call30 rfl rfl (Check03G_ok (nd := nd2) Bc)) ?_
         rintro _ _ ⟨_, _, ⟨rfl, rfl⟩, rfl, rfl⟩
         refine Gro (Bb rfl rfl) (Gr (Al rfl rfl) (Gm rfl (Bd (d := 100) rfl (fun g100 => ?_) (fun g100 => ?_))))
         ·refine Cw (Bz rfl rfl rfl) (Am call17 rfl rfl (Awake44_ok (Bq hT Ax))) ?_
          rintro _ _ ⟨_, _, ⟨rfl, rfl⟩, rfl, rfl⟩
          exact Gr (Al rfl rfl) (Ga rfl (Af (Ap (S1 4 rfl) (Ay (A1 rfl rfl (I) Ax ⟨rfl, rfl⟩)))))
         ·exact absurd (checkG_ok.2 hGG) g100
        ·exact absurd (hmo (by simpa using g95)) (by simpa using g90)
      ·exact absurd rfl g88
     ·exact absurd rfl g84
    ·refine Ah (Gr (Bb rfl rfl) (Ga rfl (Af (A7 rfl (fun c53 => ?_) (fun c53 => ?_)))))
     ·refine As (Bk mixed (Bp (blk b10 [I64 (xa8.kd), I64 (xa8.no), I64 (xa8.lv), .slice xa8.a xa8.xs.length xa8.c, I64 (xa8.num), I64 (xa8.den)] 42 :: vc 3 (.slice xa8.a xa8.xs.length xa8.c) (xa8.xs) :: blk b7 [I64 (nd2), .slice ad3 es5.length cp4] 48 :: vc 135 (.slice ad3 es5.length cp4) (es5) :: I) 9 (Dr 0 rfl (Ac fld42_3 rfl) (Dr 1 rfl (Au ty22) ?_))))
      refine Dr 2 rfl (Ad rfl) (Dr 3 rfl (Ac fld48_0 rfl) (Dr 4 rfl (Au ty3) ?_))
      refine Ds1 5 (Se rfl (Am call28 rfl rfl (Set_at (by repeat (first | exact AtF.head _ _ | apply AtF.tail)) (fun _ => B4 hl Ax) om om)) ?_)
      rintro _ _ ⟨_, _, ⟨ad19, cp20, o21, i18, rfl, ho21, hlo21, hi18, rfl⟩, rfl, rfl⟩
      refine ⟨A2, ?_⟩
      show D Tryz.prog κ _ _ _ _ _ _ _ ([(60, .slice ad19 o21.length cp20), (59, I64 (nd2)), (58, .pointer (some ⟨b7, 0, none⟩)), (57, .pointer (some ⟨dk1, 0, none⟩)), (56, .slice xa8.a xa8.xs.length xa8.c), (55, .pointer (some ⟨b10, 3, none⟩)), (53, .bool (decide (xa8.kd = 5))), (54, .bool (decide (xa8.kd = 5))), (39, .bool (decide (xa8.kd = 3))), (41, .bool (decide (xa8.kd = 3))), (39, .bool (decide (xa8.kd = 2))), (31, I64 (xa8.kd)), (8, .pointer (some ⟨b11, 0, none⟩)), (7, .pointer (some ⟨b10, 0, none⟩)), (6, .pointer (some ⟨b7, 0, none⟩)), (5, .pointer (some ⟨dk1, 0, none⟩)), (1, .int .u8 (m0))] : Env) (vc 3 (.slice ad19 o21.length cp20) (o21) :: blk b11 [I64 (xa8.kd), I64 (xa8.no), I64 (xa8.lv), .slice xa8.a xa8.xs.length xa8.c, I64 (xa8.num), I64 (xa8.den)] 42 :: blk b10 [I64 (xa8.kd), I64 (xa8.no), I64 (xa8.lv), .slice xa8.a xa8.xs.length xa8.c, I64 (xa8.num), I64 (xa8.den)] 42 :: vc 3 (.slice xa8.a xa8.xs.length xa8.c) (xa8.xs) :: blk b7 [I64 (nd2), .slice ad3 es5.length cp4] 48 :: vc 135 (.slice ad3 es5.length cp4) (es5) :: blk dk1 [.slice la ln lc, I64 (i18)] 125 :: I)
      refine Ds1 6 (Sc2 rfl (Am call27 rfl rfl (Union_ok Bc Bc (by have hk5 := (hax.k5 (by first | assumption | omega)).2.2.1.2; omega))) fun ad22 cp23 => ?_)
      refine Dr 7 rfl (Ac fld42_3 rfl) (Ds1 8 (Se0 rfl (Ea ty22) ?_))
      refine Dz (Aj (Ap (S4 8 7 6 1 rfl rfl rfl rfl) (Av (Gf fld42_2 rfl (Gl ty3 ?_)))))
      refine Gm rfl (Gr (Eh rfl rfl om) (Gr (D6 Cr Bu rfl (by unfold InR; omega)) (Gr (Rad rfl rfl) (Gf fld42_2 rfl (Ge0 (Ea ty3) ?_)))))
      refine Bh (Ai (Aj (Ah (Gl2 ty48 ?_))))
      have hokY : AlOk nd2 (⟨xa8.kd, xa8.no, xa8.lv + (Int.tmod m0 3), ad22, cp23, ofL (xa8.xs ++ o21), xa8.num, xa8.den⟩ : AlV) := hax.more hgr.2 hab2.1 om asm asm _ _
      have hmo : holdV nd2 es5 (⟨xa8.kd, xa8.no, xa8.lv + (Int.tmod m0 3), ad22, cp23, ofL (xa8.xs ++ o21), xa8.num, xa8.den⟩ : AlV) = true → holdV nd2 es5 xa8 = true := hold_more hGG hax asm om asm _ _
      refine Gl6 ty42 ?_
      refine G.e (Am call29 rfl rfl (AHolds_ok (nd := nd2) (x := xa8) Bc Bc hGG hax (Bq hT Ax))) ?_
      rintro _ _ ⟨_, _, ⟨rfl, rfl⟩, rfl, rfl⟩
      refine Gm rfl (Gr (Az rfl rfl) (Gr (Az rfl rfl) (Ga rfl (Ga rfl (Af (Ap (S4 10 9 8 6 rfl rfl rfl rfl) (Ah (Gl2 ty48 ?_))))))))
      refine Gl6 ty42 ?_
      refine G.e (Am call29 rfl rfl (AHolds_ok (nd := nd2) (x := (⟨xa8.kd, xa8.no, xa8.lv + (Int.tmod m0 3), ad22, cp23, ofL (xa8.xs ++ o21), xa8.num, xa8.den⟩ : AlV)) Bc Bc hGG hokY (Bq hT Ax))) ?_
      rintro _ _ ⟨_, _, ⟨rfl, rfl⟩, rfl, rfl⟩
      refine Gm rfl (Gr (Az rfl rfl) (Gr (Az rfl rfl) (Ga rfl (Ga rfl (Af (Ah (Gm rfl (Gr (Bb rfl rfl) (Gm rfl (Bd (d := 84) rfl (fun g84 => ?_) (fun g84 => ?_)))))))))))
      ·refine Gro (Ad rfl) (Gro (Bb rfl rfl) (Gr (Al rfl rfl) (Gm rfl (Bd (d := 88) rfl (fun g88 => ?_) (fun g88 => ?_)))))
       ·refine Gro (Ad rfl) (Gro (Ad rfl) (Ds (d := 90) rfl (fun g90 => ?_) (fun g90 => ?_)))
        ·refine Gpo (Gpo (Gro (Al rfl rfl) (Gr (Al rfl rfl) (Gm rfl (Gro (Bm (vs := [_, _]) ty48) ?_)))))
         refine Cw (Bz rfl rfl rfl) (Am call30 rfl rfl (Check03G_ok (nd := nd2) Bc)) ?_
         rintro _ _ ⟨_, _, ⟨rfl, rfl⟩, rfl, rfl⟩
         refine Gro (Bb rfl rfl) (Gr (Al rfl rfl) (Gm rfl (Bd (d := 100) rfl (fun g100 => ?_) (fun g100 => ?_))))
         ·refine Cw (Bz rfl rfl rfl) (Am call17 rfl rfl (Awake44_ok (Bq hT Ax))) ?_
          rintro _ _ ⟨_, _, ⟨rfl, rfl⟩, rfl, rfl⟩
          exact Gr (Al rfl rfl) (Ga rfl (Af (Ap (S1 4 rfl) (Ay (A1 rfl rfl (I) Ax ⟨rfl, rfl⟩)))))
         ·exact absurd (checkG_ok.2 hGG) g100
        ·refine Gro (Ad rfl) (Gro (B1 rfl) (Gro (Aq rfl rfl) (Gr (Al rfl rfl) (Gm rfl (Ds (d := 95) rfl (fun g95 => ?_) (fun g95 => ?_))))))
         ·refine Gro (Bm (vs := [_, _]) ty48) ?_
          refine Cw (Bz rfl rfl rfl) (Am call30 rfl rfl (Check03G_ok (nd := nd2) Bc)) ?_
          rintro _ _ ⟨_, _, ⟨rfl, rfl⟩, rfl, rfl⟩
          refine Gro (Bb rfl rfl) (Gr (Al rfl rfl) (Gm rfl (Bd (d := 100) rfl (fun g100 => ?_) (fun g100 => ?_))))
          ·refine Cw (Bz rfl rfl rfl) (Am call17 rfl rfl (Awake44_ok (Bq hT Ax))) ?_
           rintro _ _ ⟨_, _, ⟨rfl, rfl⟩, rfl, rfl⟩
           exact Gr (Al rfl rfl) (Ga rfl (Af (Ap (S1 4 rfl) (Ay (A1 rfl rfl (I) Ax ⟨rfl, rfl⟩)))))
          ·exact absurd (checkG_ok.2 hGG) g100
         ·exact absurd (hmo (by simpa using g95)) (by simpa using g90)
       ·exact absurd rfl g88
      ·exact absurd rfl g84
     ·refine Av (Gf fld42_2 rfl (Gl ty3 ?_))
      refine Gm rfl (Gr (Eh rfl rfl om) (Gr (D6 Cr Bu rfl (by unfold InR; omega)) (Gr (Rad rfl rfl) (Gf fld42_2 rfl (Ge0 (Ea ty3) ?_)))))
      refine Bh (Ai (Aj (Ap (S3 8 7 6 rfl rfl rfl) (Ah (Gl2 ty48 ?_)))))
      have hokY : AlOk nd2 (⟨xa8.kd, xa8.no, xa8.lv + (Int.tmod m0 3), xa8.a, xa8.c, xa8.xs, xa8.num, xa8.den⟩ : AlV) := hax.up hab2.1 om om om
      have hmo : holdV nd2 es5 (⟨xa8.kd, xa8.no, xa8.lv + (Int.tmod m0 3), xa8.a, xa8.c, xa8.xs, xa8.num, xa8.den⟩ : AlV) = true → holdV nd2 es5 xa8 = true := hold_up hkx om om om om
      refine Gl6 ty42 ?_
      refine G.e (Am call29 rfl rfl (AHolds_ok (nd := nd2) (x := xa8) Bc Bc hGG hax (Bq hT Ax))) ?_
      rintro _ _ ⟨_, _, ⟨rfl, rfl⟩, rfl, rfl⟩
      refine Gm rfl (Gr (Az rfl rfl) (Gr (Az rfl rfl) (Ga rfl (Ga rfl (Af (Ah (Gl2 ty48 ?_)))))))
      refine Gl6 ty42 ?_
      refine G.e (Am call29 rfl rfl (AHolds_ok (nd := nd2) (x := (⟨xa8.kd, xa8.no, xa8.lv + (Int.tmod m0 3), xa8.a, xa8.c, xa8.xs, xa8.num, xa8.den⟩ : AlV)) Bc Bc hGG hokY (Bq hT Ax))) ?_
      rintro _ _ ⟨_, _, ⟨rfl, rfl⟩, rfl, rfl⟩
      refine Gm rfl (Gr (Az rfl rfl) (Gr (Az rfl rfl) (Ga rfl (Ga rfl (Af (Ap (S5 12 11 10 9 6 rfl rfl rfl rfl rfl) (Ah (Gm rfl (Gr (Bb rfl rfl) (Gm rfl (Bd (d := 84) rfl (fun g84 => ?_) (fun g84 => ?_))))))))))))
      ·refine Gro (Ad rfl) (Gro (Bb rfl rfl) (Gr (Al rfl rfl) (Gm rfl (Bd (d := 88) rfl (fun g88 => ?_) (fun g88 => ?_)))))
       ·refine Gro (Ad rfl) (Gro (Ad rfl) (Ds (d := 90) rfl (fun g90 => ?_) (fun g90 => ?_)))
        ·refine Gpo (Gpo (Gro (Al rfl rfl) (Gr (Al rfl rfl) (Gm rfl (Gro (Bm (vs := [_, _]) ty48) ?_)))))
         refine Cw (Bz rfl rfl rfl) (Am call30 rfl rfl (Check03G_ok (nd := nd2) Bc)) ?_
         rintro _ _ ⟨_, _, ⟨rfl, rfl⟩, rfl, rfl⟩
         refine Gro (Bb rfl rfl) (Gr (Al rfl rfl) (Gm rfl (Bd (d := 100) rfl (fun g100 => ?_) (fun g100 => ?_))))
         ·refine Cw (Bz rfl rfl rfl) (Am call17 rfl rfl (Awake44_ok (Bq hT Ax))) ?_
          rintro _ _ ⟨_, _, ⟨rfl, rfl⟩, rfl, rfl⟩
          exact Gr (Al rfl rfl) (Ga rfl (Af (Ap (S1 4 rfl) (Ay (A1 rfl rfl (I) Ax ⟨rfl, rfl⟩)))))
         ·exact absurd (checkG_ok.2 hGG) g100
        ·refine Gro (Ad rfl) (Gro (B1 rfl) (Gro (Aq rfl rfl) (Gr (Al rfl rfl) (Gm rfl (Ds (d := 95) rfl (fun g95 => ?_) (fun g95 => ?_))))))
         ·refine Gro (Bm (vs := [_, _]) ty48) ?_
          refine Cw (Bz rfl rfl rfl) (Am call30 rfl rfl (Check03G_ok (nd := nd2) Bc)) ?_
          rintro _ _ ⟨_, _, ⟨rfl, rfl⟩, rfl, rfl⟩
          refine Gro (Bb rfl rfl) (Gr (Al rfl rfl) (Gm rfl (Bd (d := 100) rfl (fun g100 => ?_) (fun g100 => ?_))))
          ·refine Cw (Bz rfl rfl rfl) (Am call17 rfl rfl (Awake44_ok (Bq hT Ax))) ?_
           rintro _ _ ⟨_, _, ⟨rfl, rfl⟩, rfl, rfl⟩
           exact Gr (Al rfl rfl) (Ga rfl (Af (Ap (S1 4 rfl) (Ay (A1 rfl rfl (I) Ax ⟨rfl, rfl⟩)))))
          ·exact absurd (checkG_ok.2 hGG) g100
         ·exact absurd (hmo (by simpa using g95)) (by simpa using g90)
       ·exact absurd rfl g88
      ·exact absurd rfl g84
end Go.Sl
namespace Go.Sl
open Go.ChangeShapes Go.WideShapes Go.ChangeAt Go.RowKit Go.Deep
section
variable {κ : Ctx} {w w' : World} {I : List Item}
theorem old_cell (hs : Sep κ w' I) (hm : old w.heap.size w ∈ I) {b o : Nat} {u : Value} (hc : w.cell? ⟨b, o, none⟩ = some u) : w'.cell? ⟨b, o, none⟩ = some u := by
 have hok : ∀ k, k < w.heap.size → w'.heap[k]? = w.heap[k]? := (hs.ok _ hm).1
 have hb : b < w.heap.size := by
  refine Nat.not_le.1 fun h => ?_
  simp [World.cell?, Array.getElem?_eq_none h] at hc
 have := hok b hb
 simp only [World.cell?, this] at hc ⊢
 exact hc
def SlW {α : Type} [Enc α] (w : World) (v : Value) (xs : List α) : Prop := slOk w (Enc.sz α) v xs.length (cells xs)
theorem SlW.sl {α : Type} [Enc α] {v : Value} {xs : List α} (h : SlW w v xs) (hm : old w.heap.size w ∈ I) : Sl κ I v xs := fun w' hs => by
 obtain ⟨a, cap, hv, h1, h2, h3, h4⟩ := h
 refine ⟨a, cap, hv, h1, h2, h3, fun hc => ?_⟩
 obtain ⟨b, off, ha, hr⟩ := h4 hc
 exact ⟨b, off, ha, fun j u hj => old_cell hs hm (hr j u hj)⟩
end
section
variable {P : Program} {w : World} {r : Reach} {b0 : Nat} {t : TypeId} {H : Type} {enc : TypeId × Value → H} {base : Nat} {spare : Nat → Bool} {held : Bool}
theorem spot_none {e : TypeId} {a : Addr} {len cap : Nat} (ht : P.underlying t = some (.slice e)) (h : Cell.okWide P w r b0 t (.slice (some a) len cap)) : a.spot = none := by
 simp only [Cell.okWide, Cell.ok, ht] at h
 exact h.2.2.2.1
theorem InR_of {n : Int} (h : (Lit.int .i64 n).wf = true) : InR n := by
 simp only [Lit.wf, Bool.and_eq_true, decide_eq_true_eq] at h
 exact h
def Light (P : Program) (t : TypeId) (d : DataW H) : Prop := ∀ n ∈ d.weights P t, n ≤ reachBytes
theorem light_arg {ts : List TypeId} {ds : List (DataW H)} (h : (DataW.weightsEach P ts ds).all (· ≤ reachBytes) = true) {j : Nat} {d : DataW H} (ht : ts[j]? = some t) (hd : ds[j]? = some d) : Light P t d := fun n hn => by
 have := List.all_eq_true.1 h _ (DataW.weights_mem_each ht hd n hn)
 simpa using this
theorem light_slice {e : TypeId} {es sp : List (DataW H)} (ht : P.underlying t = some (.slice e)) (h : Light P t (.slice es sp)) : es.length * P.bytesOf e ≤ 140737488351232 := by
 have h1 := h ((es.length + sp.length) * P.bytesOf e) (by simp [DataW.weights, ht])
 have h2 : es.length * P.bytesOf e ≤ (es.length + sp.length) * P.bytesOf e := Nat.mul_le_mul_right _ (by omega)
 simp only [reachBytes] at h1
 omega
theorem addr_eta {a : Addr} (h : a.spot = none) : a = ⟨a.block, a.off, none⟩ := by cases a; simp_all
theorem in_ints {e : TypeId} {v : Value} {fuel : Nat} {x : DataW H × List MemPlace} (ht : P.underlying t = some (.slice e)) (he : P.underlying e = some (.int .i64)) (hc : P.cellsOf e = 1)
  (hv : Cell.okWide P w r b0 t v) (h : DataW.trod enc P w base spare held fuel t [v] = some x) (hw : Light P t x.1) : ∃ (a : Option Addr) (c : Nat) (xs : List Int), v = .slice a xs.length c ∧ SlW w (.slice a xs.length c) xs ∧ (∀ n ∈ xs, InR n) ∧ xs.length * P.bytesOf e ≤ 140737488351232 := by
 rcases open_ints ht he hc h with ⟨hcs, _⟩ | ⟨a, l, c, zs, hcs, _, hl, hm, hz, hx, hcell, hwz⟩
 ·obtain rfl : v = .slice none 0 0 := by simpa using hcs
  exact ⟨none, 0, [], rfl, ⟨none, 0, rfl, by simp [cells], Nat.le_refl _, by simp, fun h => by omega⟩, by simp, by simp⟩
 ·obtain rfl : v = .slice (some a) l c := by simpa using hcs
  have hsp := spot_none ht hv
  have hlen : l ≤ zs.length := by rw [hz]; split <;> omega
  have hxl : (zs.take l).length = l := by rw [List.length_take]; omega
  refine ⟨some a, c, zs.take l, by rw [hxl], ⟨some a, c, rfl, cells_length _, by rw [hxl]; exact hl, hm, fun hc0 => ⟨a.block, a.off, by rw [← addr_eta hsp], fun j u hj => ?_⟩⟩, fun n hn => InR_of (hwz n (List.mem_of_mem_take hn)), by
   rw [hx] at hw
   have := light_slice ht hw
   simpa [lits] using this⟩
  have hjl : j < l := by
   have := (List.getElem?_eq_some_iff.1 hj).1
   rw [cells_length, hxl] at this
   have e1 : Enc.sz Int = 1 := rfl
   rw [e1] at this; omega
  have h1 := cells_get (zs.take l) j 0 (by omega) (by decide)
  have e1 : j * Enc.sz Int + 0 = j := by show j * 1 + 0 = j; omega
  rw [e1] at h1
  rw [h1] at hj
  have h2 := hcell j (by omega)
  rw [addr_eta hsp, addr_add] at h2
  have h3 : u = I64 (zs.getD j 0) := by
   have h4 : some (I64 ((zs.take l)[j]'(by omega))) = some u := hj
   simp only [Option.some.injEq] at h4
   rw [← h4]
   simp [List.getD_eq_getElem?_getD, List.getElem?_eq_getElem (show j < zs.length by omega)]
  rw [h3]; exact h2
theorem arg_cell {v : Value} {d : DataW H} {ps : List MemPlace} {e : TypeId} (ht : P.underlying t = some (.slice e)) (hv : Value.okWide P w r b0 t v) (h : DataW.Trod enc P w base spare held t v d ps) : Cell.okWide P w r b0 t v ∧ ∃ fuel, DataW.trod enc P w base spare held fuel t [v] = some (d, ps) := by
 obtain ⟨a, len, cap, rfl⟩ := okWide_slice ht hv
 simp only [Value.okWide, ht] at hv
 obtain ⟨fuel, hf⟩ := h
 exact ⟨hv, fuel, by simpa [Value.cells] using hf⟩
theorem joined_mk {P : Program} {f : FuncId} {fn : Func} {s : ChangeSpec} {c : OpenClaim} (h1 : (c.wf (OpenSpec.ofChange s)) = true) (h2 : (laidOutB P) = true) (h3 : (mapsRowed P) = true) (h4 : (fn.params.all (P.readableRec ·)) = true) (h5 : (namedTie P c.named s.vars) = true) (h6 : ((c.stops == [])) = true) (h7 : ((P.stops == [])) = true) (h8 : ((c.knobs == [])) = true) (h9 : ((P.stopKnobs == [])) = true) (h10 : ((c.inPlace == P.inPlace f)) = true) (h11 : ((c.unfollowed == P.unfollowed f)) = true) (h12 : ((c.recurses == P.recurses f)) = true) (h13 : ((c.named == P.varsNamed f)) = true) (h14 : ((c.maps == (fn.params.toList ++ s.plain.varTypes P).any (P.mapsRec ·))) = true) (h15 : ((c.ifaces == (fn.params.toList ++ s.plain.varTypes P).any (P.ifacesRec ·))) = true) (h16 : ((c.mapsOut == P.mapsAmong fn.resultTypes.toList)) = true) (h17 : ((c.loops == (fn.params.toList ++ s.plain.varTypes P).any (P.loopsFrom ·))) = true) (h18 : ((c.wideKeys == (fn.params.toList ++ s.plain.varTypes P ++ fn.resultTypes.toList).any (P.wideKeysFrom ·))) = true) (h19 : (s.vars.all (P.varReadable ·)) = true) (h20 : (fn.resultTypes.all (fun t => P.readableRec t && decide (t < P.types.size))) = true) (h21 : ((c.ifacesOut == fn.resultTypes.toList.any (P.ifacesRec ·))) = true) (h22 : ((c.loopsOut == fn.resultTypes.toList.any (P.loopsFrom ·))) = true) (h23 : ((c.plainKeys == P.plainKeys)) = true) (h24 : (c.shortTexts.isNone) = true) (h25 : (P.stopsHeard) = true) (h26 : (P.mayEnter) = true) (h27 : ((c.lifted == P.liftsFinal)) = true) (h28 : ((P.make == some c.make)) = true) (h29 : ((c.kinds == (if c.domain.isEmpty then [] else fn.params.toList.map fun t => match P.underlying t with | some (.int k) => some k | _ => none))) = true) (h30 : ((c.pinned == c.pinnedBy)) = true) (h31 : ((c.veiled == (fn.params.toList ++ s.plain.varTypes P ++ fn.resultTypes.toList).any (P.veiledRec ·))) = true) (h32 : (c.veiledFits P fn.params.toList (fn.params.toList ++ s.plain.varTypes P ++ fn.resultTypes.toList)) = true) : joinedFacts P f fn s c = true := by
 unfold joinedFacts
 exact (Bool.and_eq_true_iff.2 ⟨(Bool.and_eq_true_iff.2 ⟨(Bool.and_eq_true_iff.2 ⟨(Bool.and_eq_true_iff.2 ⟨(Bool.and_eq_true_iff.2 ⟨(Bool.and_eq_true_iff.2 ⟨(Bool.and_eq_true_iff.2 ⟨(Bool.and_eq_true_iff.2 ⟨(Bool.and_eq_true_iff.2 ⟨(Bool.and_eq_true_iff.2 ⟨(Bool.and_eq_true_iff.2 ⟨(Bool.and_eq_true_iff.2 ⟨(Bool.and_eq_true_iff.2 ⟨(Bool.and_eq_true_iff.2 ⟨(Bool.and_eq_true_iff.2 ⟨(Bool.and_eq_true_iff.2 ⟨(Bool.and_eq_true_iff.2 ⟨(Bool.and_eq_true_iff.2 ⟨(Bool.and_eq_true_iff.2 ⟨(Bool.and_eq_true_iff.2 ⟨(Bool.and_eq_true_iff.2 ⟨(Bool.and_eq_true_iff.2 ⟨(Bool.and_eq_true_iff.2 ⟨(Bool.and_eq_true_iff.2 ⟨(Bool.and_eq_true_iff.2 ⟨(Bool.and_eq_true_iff.2 ⟨(Bool.and_eq_true_iff.2 ⟨(Bool.and_eq_true_iff.2 ⟨(Bool.and_eq_true_iff.2 ⟨(Bool.and_eq_true_iff.2 ⟨(Bool.and_eq_true_iff.2 ⟨h1, h2⟩), h3⟩), h4⟩), h5⟩), h6⟩), h7⟩), h8⟩), h9⟩), h10⟩), h11⟩), h12⟩), h13⟩), h14⟩), h15⟩), h16⟩), h17⟩), h18⟩), h19⟩), h20⟩), h21⟩), h22⟩), h23⟩), h24⟩), h25⟩), h26⟩), h27⟩), h28⟩), h29⟩), h30⟩), h31⟩), h32⟩)
theorem calls_below {f : FuncId} {args : List Value} (h : CallS P ⟨w.os, w.tape, w.output, w.drawn⟩ f args [old w.heap.size w] fun r J => r = .bool true ∧ [old w.heap.size w] = J) :
  Calls P f args.toArray w fun e w' => e = .returned (.bool true) ∧ Below w.heap.size w w' :=
 (h w (Sep.begin w)).mono fun e w' ⟨v, J, he, ⟨hv, hJ⟩, hs⟩ => by
  subst hv hJ
  exact ⟨he, hs.below List.mem_cons_self⟩
end
end Go.Sl
