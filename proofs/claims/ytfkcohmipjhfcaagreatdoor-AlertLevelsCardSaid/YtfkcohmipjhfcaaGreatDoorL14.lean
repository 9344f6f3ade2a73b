/- A part of the proofs of statements of this seat: contracts of functions, and the plain laws that they lean on. No conditions. -/
import Derived.Test.YtfkcohmipjhfcaaGreatDoorL13
import Derived.ScopeJumps
set_option linter.unusedVariables false
set_option linter.unusedSimpArgs false
set_option linter.unusedSectionVars false
namespace Go.Sl
open Go.Proofs
set_option maxRecDepth 4000
variable {κ : Ctx} {I : List Item}
def rowG (nd : Int) (es : List Pt) (v : Int) : BitVec 64 := if v < 0 ∨ ((rowsB nd es).length : Int) ≤ v ∨ checkG nd es ≠ 0 then 0#64 else at_ (rowsB nd es) v
def nbL (es : List Pt) (v : Int) : List Int := es.flatMap fun e => (if e.u = v then [e.v] else []) ++ (if e.v = v then [e.u] else [])
theorem mem_nbL {es : List Pt} {v x : Int} : x ∈ nbL es v ↔ (⟨v, x⟩ : Pt) ∈ es ∨ (⟨x, v⟩ : Pt) ∈ es := by
 unfold nbL
 rw [List.mem_flatMap]
 constructor
 ·rintro ⟨⟨a, b⟩, he, hx⟩
  rcases List.mem_append.1 hx with h | h
  ·split at h
   ·rename_i h1; simp only [List.mem_singleton] at h; simp only at h1; subst h h1; exact .inl he
   ·simp at h
  ·split at h
   ·rename_i h1; simp only [List.mem_singleton] at h; simp only at h1; subst h h1; exact .inr he
   ·simp at h
 ·rintro (h | h)
  ·exact ⟨_, h, by simp⟩
  ·exact ⟨_, h, by simp⟩
def nbG (nd : Int) (es : List Pt) (v : Int) : List Int := if checkG nd es ≠ 0 then [] else ofL (nbL es v)
theorem nb_eq (nd : Int) (es : List Pt) (v : Int) : listB (rowG nd es v) = nbG nd es v := by
 by_cases hc : checkG nd es ≠ 0
 ·unfold rowG nbG; rw [if_pos (.inr (.inr hc)), if_pos hc, C7]
 ·have hG := checkG_ok.1 (Classical.not_not.1 hc)
  have hr := hG.rng
  have hl := hG.rows.len
  unfold nbG
  rw [if_neg hc]
  refine intLin.uniq (listB_asc _) (ofL_asc _) fun x => ?_
  rw [D4, mem_ofL, mem_nbL]
  by_cases hv : v < 0 ∨ ((rowsB nd es).length : Int) ≤ v
  ·have hz : rowG nd es v = 0#64 := if_pos om
   rw [hz]
   simp only [BitVec.getLsbD_zero, Bool.false_eq_true, and_false, false_iff]
   rintro (h | h)
   ·have := hG.edge _ h; simp only at this; omega
   ·have := hG.edge _ h; simp only at this; omega
  ·have hz : rowG nd es v = at_ (rowsB nd es) v := if_neg om
   rw [hz]
   by_cases hx : 0 ≤ x ∧ x < 64
   ·rw [hG.rows.bit v x om om hx.1 hx.2, decide_eq_true_eq]
    exact ⟨fun h => h.2, fun h => ⟨hx.1, h⟩⟩
   ·constructor
    ·rintro ⟨h1, h2⟩
     rw [BitVec.getLsbD_of_ge _ _ om] at h2
     exact absurd h2 dc
    ·rintro (h | h)
     ·have := hG.edge _ h; simp only at this; omega
     ·have := hG.edge _ h; simp only at this; omega
theorem listB_and (a b : BitVec 64) : listB (a &&& b) = meetL (listB a) (listB b) := by
 refine intLin.uniq (listB_asc _) ((ofL_asc _).sublist List.filter_sublist) fun x => ?_
 rw [mem_meetL, D4, D4, D4, BitVec.getLsbD_and, Bool.and_eq_true]
 exact ⟨fun h => ⟨⟨h.1, h.2.1⟩, h.1, h.2.2⟩, fun h => ⟨h.1.1, h.1.2, h.2.2⟩⟩
def commonG (nd : Int) (es : List Pt) (u v : Int) : List Int := if u = v then [] else meetL (nbG nd es u) (nbG nd es v)
theorem common_eq {nd : Int} {es : List Pt} {u v : Int} (h : u ≠ v) : listB (rowG nd es u &&& rowG nd es v) = commonG nd es u v := by
 unfold commonG; rw [if_neg h, listB_and, nb_eq, nb_eq]
theorem all_tab : ∀ n : Fin 65, ∀ i : Fin 64, (allB (n.val : Int)).getLsbD i.val = decide (i.val < n.val) := by decide +kernel
theorem getLsb_allB {n : Int} (h0 : 0 ≤ n) (h1 : n ≤ 64) {i : Nat} (hi : i < 64) : (allB n).getLsbD i = decide ((i : Int) < n) := by
 have := all_tab ⟨n.toNat, by omega⟩ ⟨i, hi⟩
 simp only [show ((n.toNat : Nat) : Int) = n by omega] at this
 rw [this, decide_eq_decide]; omega
theorem meet_all {nd : Int} (set : List Int) (h0 : 0 ≤ nd) (h1 : nd ≤ 64) : listB (maskB set &&& allB nd) = meetL set (rangeI nd) := by
 refine intLin.uniq (listB_asc _) ((ofL_asc _).sublist List.filter_sublist) fun x => ?_
 rw [mem_meetL, D4, mem_rangeI, BitVec.getLsbD_and, Bool.and_eq_true]
 by_cases hx : 0 ≤ x ∧ x < 64
 ·rw [getLsb_allB h0 h1 om, decide_eq_true_eq, show (maskB set).getLsbD x.toNat = decide (x ∈ set) by unfold maskB; rw [getLsb_maskB om, show ((x.toNat : Nat) : Int) = x by omega]; simp, decide_eq_true_eq]
  exact ⟨fun h => ⟨h.2.1, h.1, by omega, by omega⟩, fun h => ⟨h.2.1, h.1, by omega⟩⟩
 ·constructor
  ·rintro ⟨h1, h2, _⟩
   rw [BitVec.getLsbD_of_ge _ _ om] at h2
   exact absurd h2 dc
  ·rintro ⟨_, h⟩; omega
theorem dens_count {nd : Int} {es : List Pt} (set : List Int) (h : ¬ checkG nd es ≠ 0) : onesB (maskB set &&& allB nd) = ((meetL set (rangeI nd)).length : Int) := by
 have hr := (checkG_ok.1 (Classical.not_not.1 h)).rng
 rw [ones_pop, meet_all set hr.1 hr.2]
theorem dens_none {nd : Int} {es : List Pt} {set : List Int} (h : ¬ checkG nd es ≠ 0) (hm : (meetL set (rangeI nd)).length = 0) : insideN nd es set = 0 := by
 have hG := checkG_ok.1 (Classical.not_not.1 h)
 have hr := hG.rng
 rw [insideN_ok hG, List.length_eq_zero_iff, List.filter_eq_nil_iff]
 intro e he hd
 simp only [decide_eq_true_eq] at hd
 have h1 := hG.edge e he
 have : e.u ∈ meetL set (rangeI nd) := mem_meetL.2 ⟨hd.1, mem_rangeI.2 ⟨by omega, by omega, by omega⟩⟩
 rw [List.length_eq_zero_iff.1 hm] at this
 exact absurd this List.not_mem_nil
def densG (nd : Int) (es : List Pt) (set : List Int) : Fr := if checkG nd es ≠ 0 then ⟨0, 0⟩ else if (meetL set (rangeI nd)).length = 0 then ⟨0, 1⟩ else mkF ((insideN nd es set : Nat) : Int) (((meetL set (rangeI nd)).length : Nat) : Int)
theorem densG_prog {nd : Int} {es : List Pt} (set : List Int) (h : ¬ checkG nd es ≠ 0) : mkF ((insideN nd es set : Nat) : Int) (if onesB (maskB set &&& allB nd) < 1 then 1 else onesB (maskB set &&& allB nd)) = densG nd es set := by
 unfold densG
 rw [if_neg h, dens_count set h]
 by_cases hm : (meetL set (rangeI nd)).length = 0
 ·rw [if_pos hm, dens_none h hm, if_pos om]; exact mkF_zero dc
 ·rw [if_neg hm, if_neg om]
theorem GRowG_ok {nd : Int} {va : Value} {es : List Pt} (hl : Sl κ I va es) (v : Int) :
    CallS Tryz.prog κ 333 [.agg #[I64 (nd), va], I64 (v)] I (fun r J => r = U64 (rowG nd es v) ∧ I = J) := by
 refine Ce2 Tryz.func333 rfl rfl ?_
 refine Ah (Ge1 (Be (cs := [_, _]) rfl rfl rfl) fun b1 => Ga rfl (Af (Ah (Gl2 ty48 ?_))))
 refine G.e (Am call198 rfl rfl (MRows_ok (nd := nd) (Bi hl))) ?_
 rintro _ _ ⟨_, _, ⟨ad2, cp3, rfl, rfl⟩, rfl, rfl⟩
 have hrwad2 := rowsB_len nd es
 refine Ga rfl (Af (As (Ah (Gm rfl (Gr (A8 rfl rfl) (Gm rfl (Bd (d := 10) rfl (fun g10 => ?_) (fun g10 => ?_))))))))
 ·exact Gpo (Gpo (Gpo (Gpo (Gr (Al rfl rfl) (Gm rfl (Gpo (Gpo (Gpo (Gr (Al rfl rfl) (Af (Ap (S3 20 5 1 rfl rfl rfl) (Cn rfl (Ah (Ga rfl (Af (Ay (Ak (A1 rfl rfl (I) Ax ⟨by rw [show rowG nd es v = 0#64 from if_pos om]; rfl, rfl⟩))))))))))))))))))
 ·refine Gro (Ad rfl) (Gro (Ad rfl) (Gro (Bl Ca rfl) (Gro (Cd rfl rfl) (Gr (Aq rfl rfl) (Gm rfl (Bd (d := 16) rfl (fun g16 => ?_) (fun g16 => ?_)))))))
  ·exact Gpo (Gpo (Gpo (Gr (Al rfl rfl) (Af (Ap (S3 20 5 1 rfl rfl rfl) (Cn rfl (Ah (Ga rfl (Af (Ay (Ak (A1 rfl rfl (I) Ax ⟨by rw [show rowG nd es v = 0#64 from if_pos om]; rfl, rfl⟩))))))))))))
  ·refine Gro (Bm (vs := [_, _]) ty48) ?_
   refine Cw (Bz rfl rfl rfl) (Am call83 rfl rfl (CheckGen_ok (Bi hl))) ?_
   rintro _ _ ⟨_, _, ⟨rfl, rfl⟩, rfl, rfl⟩
   refine Gro (Bw rfl rfl) (Gr (Aq rfl rfl) (Af (Ap (S3 20 5 1 rfl rfl rfl) (A7 rfl (fun c20 => ?_) (fun c20 => ?_)))))
   ·exact Ah (Ga rfl (Af (Ay (Ak (A1 rfl rfl (I) Ax ⟨by rw [show rowG nd es v = 0#64 from if_pos om]; rfl, rfl⟩)))))
   ·exact A4 (Aj (Ah (Gm rfl (Gm rfl (Gr (A0 (α := (BitVec 64)) (xs := rowsB nd es) Ca ty175 rfl rfl Bc om om) (Gr (C2 (α := (BitVec 64)) (xs := rowsB nd es) (u := U64 ((at_ (rowsB nd es) v))) ty175 rfl Bc om om rfl) (Ga rfl (Af (Ay (A1 rfl rfl (I) Ax ⟨by rw [show rowG nd es v = at_ (rowsB nd es) v from if_neg om], rfl⟩))))))))))
theorem CommonG_ok {nd : Int} {va : Value} {es : List Pt} (hl : Sl κ I va es) (u v : Int) (hT : TabRd κ I 0 tzCells) :
    CallS Tryz.prog κ 314 [.agg #[I64 (nd), va], I64 (u), I64 (v)] I (fun r J => ∃ a c, r = .slice a (commonG nd es u v).length c ∧ J = vc 3 (.slice a (commonG nd es u v).length c) (commonG nd es u v) :: I) := by
 refine Ce3 Tryz.func314 rfl rfl ?_
 refine Ah (Ge1 (Be (cs := [_, _]) rfl rfl rfl) fun b1 => Ga rfl (Af (As (Ah (Gm rfl (Gm rfl (Gr (Bb rfl rfl) (Af (A7 rfl (fun c9 => ?_) (fun c9 => ?_))))))))))
 ·refine Ah (Ga rfl (Af (Ay (Ak ?_))))
  have hX : (commonG nd es u v) = [] := if_pos c9
  exact A1 rfl rfl (vc 3 (.slice none (commonG nd es u v).length 0) (commonG nd es u v) :: I) (by rw [hX]; exact Cj (show Fit κ _ I from Ax) (Bv (α := Int) _ _)) ⟨none, 0, by rw [hX]; rfl, rfl⟩
 ·refine A4 (Aj (As (Bk mixed (Bp (blk b1 [I64 (nd), va] 48 :: I) 9 (Dr 0 rfl (Bm (vs := [_, _]) ty48) ?_)))))
  refine Dr 1 rfl (Ad rfl) (Dr 3 rfl (Bm (vs := [_, _]) ty48) ?_)
  refine Dr 4 rfl (Ad rfl) (Ds1 2 (Se rfl (Am call333 rfl rfl (GRowG_ok (nd := nd) (Bi hl) u)) ?_))
  rintro _ _ ⟨_, _, ⟨rfl, rfl⟩, rfl, rfl⟩
  refine ⟨A2, ?_⟩
  refine Ds1 5 (Se rfl (Am call333 rfl rfl (GRowG_ok (nd := nd) (Bi hl) v)) ?_)
  rintro _ _ ⟨_, _, ⟨rfl, rfl⟩, rfl, rfl⟩
  refine ⟨A2, ?_⟩
  refine Dr 6 rfl (Cs (a := rowG nd es u) (b := rowG nd es v) rfl rfl) (Ds1 7 (Sc2 rfl (Am call171 rfl rfl (MList_ok ((rowG nd es u) &&& (rowG nd es v)) (Bq hT Ax))) fun ad2 cp3 => ?_))
  refine Dr 8 rfl (A9 rfl) (Dz (Aj (Ap (S1 6 rfl) (Ay ?_))))
  have hX : (commonG nd es u v) = _ := (common_eq c9).symm
  exact A1 rfl rfl (vc 3 (.slice ad2 (commonG nd es u v).length cp3) (commonG nd es u v) :: I) (by rw [hX]; exact A2) ⟨ad2, cp3, by rw [hX], rfl⟩
theorem DensityG_ok {nd : Int} {va vb : Value} {es : List Pt} {set : List Int} (hl : Sl κ I va es) (hs : Sl κ I vb set) (hb : es.length ≤ 1000000) :
    CallS Tryz.prog κ 147 [.agg #[I64 (nd), va], vb] I (fun r J => r = .tuple #[.agg #[I64 (densG nd es set).num, I64 (densG nd es set).den], I64 (checkG nd es)] ∧ I = J) := by
 refine Ce2 Tryz.func147 rfl rfl ?_
 refine Ah (Ge1 (Be (cs := [_, _]) rfl rfl rfl) fun b1 => Ge1 (Ba ty40 rfl) fun b2 => Ga rfl (Af (As (Ah (Gl2 ty48 ?_)))))
 refine Gc0 (Am call83 rfl rfl (CheckGen_ok (Bi hl))) ?_
 refine Ga rfl (Af (Ah (Gm rfl (Gr (Bw rfl rfl) (Af (A7 rfl (fun c11 => ?_) (fun c11 => ?_)))))))
 ·refine Ah (Gr (Bf (cells := [_, _]) ty40 Cb pl40 rfl rfl) (Gm rfl (Ge0 (Co ty40) ?_)))
  refine Ga rfl (Af (Ay (Ak ?_)))
  have hX : (densG nd es set) = ⟨0, 0⟩ := if_pos c11
  exact Dp rfl ty40 rfl rfl mm rfl (I) Ax ⟨by first | (rw [hX]; done) | (rw [hX]; rfl), rfl⟩
 ·refine A4 (Aj (As (Bk mixed (Bp (blk b2 [I64 (0), I64 (0)] 40 :: blk b1 [I64 (nd), va] 48 :: I) 8 (Dr 0 rfl (Ad rfl) (Dr 2 rfl (Ac fld48_0 rfl) (Dr 3 rfl (Au ty3) ?_)))))))
  refine Ds1 1 (Sc0 rfl (Am call199 rfl rfl (MaskOf_ok (Bi hs))) ?_)
  refine Ds1 4 (Sc0 rfl (Am call200 rfl rfl (MaskAll_ok nd)) ?_)
  refine Dr 5 rfl (Cs (a := maskB set) (b := allB nd) rfl rfl) (Ds1 6 (Sc0 rfl (Am call219 rfl rfl (MCount_ok ((maskB set) &&& (allB nd)))) ?_))
  refine Dr 7 rfl (A9 rfl) (Dz (Aj (Ap (S4 7 4 2 1 rfl rfl rfl rfl) (Ah (Gl2 ty48 ?_)))))
  refine Gm rfl (Gc0 (Am call221 rfl rfl (InsideG_ok (nd := nd) (Bi hl) (Bi hs) om)) ?_)
  have hin23 := insideN_le nd es set
  refine Gm rfl (Gr (Dq rfl rfl) (Gc0 (Am call220 rfl rfl (MakeF_ok ((insideN nd es set : Nat) : Int) (if (onesB ((maskB set) &&& (allB nd))) < 1 then 1 else (onesB ((maskB set) &&& (allB nd)))) om (by have := onesB_bd (maskB set &&& allB nd); split <;> omega))) ?_))
  refine Gr (Az rfl rfl) (Gr (Az rfl rfl) (Ge0 (Co ty40) ?_))
  refine Ga rfl (Af (Ay ?_))
  have hX := densG_prog (nd := nd) (es := es) set c11
  have hz : checkG nd es = 0 := Classical.not_not.1 c11
  exact Dp rfl ty40 rfl rfl mm rfl (I) Ax ⟨by first | (rw [← hX, hz]; done) | (rw [← hX, hz]; rfl), rfl⟩
variable {κ : Ctx} {I : List Item}
theorem all_rows {nd : Int} {es : List Pt} (h : 0 ≤ nd ∧ nd ≤ 64) (i : Nat) (hi : (allB nd).getLsbD i = true) : i < (rowsB nd es).length := by
 have h64 : i < 64 := Classical.byContradiction fun hn => by rw [BitVec.getLsbD_of_ge _ _ om] at hi; cases hi
 rw [getLsb_allB h.1 h.2 h64, decide_eq_true_eq] at hi
 rw [rowsB_len]; omega
theorem and_all_rows {nd : Int} {es : List Pt} (m : BitVec 64) (h : 0 ≤ nd ∧ nd ≤ 64) (i : Nat) (hi : (m &&& allB nd).getLsbD i = true) : i < (rowsB nd es).length := by
 rw [BitVec.getLsbD_and, Bool.and_eq_true] at hi; exact all_rows h i hi.2
theorem MReach_ok {va : Value} {rows : List (BitVec 64)} (hl : Sl κ I va rows) (f w : BitVec 64) (hw : ∀ i : Nat, w.getLsbD i = true → i < rows.length) (hT : TabRd κ I 0 tzCells) :
    CallS Tryz.prog κ 197 [va, U64 (f), U64 (w)] I (fun r J => r = U64 (reachB rows f w) ∧ I = J) := by
 refine Ce3 Tryz.func197 rfl rfl ?_
 refine Ah (Ga rfl (Af (Ah (Gm rfl (Gm rfl (Gr (Cs (a := f) (b := w) rfl rfl) (Ga rfl (Af (As (Ah (Gm rfl (Ga rfl (Af (A3 (Bx (σ := (BitVec 64) × (BitVec 64)) (fun s => ([(0, va), (1, U64 (s.2)), (2, U64 (w)), (7, U64 (s.1))] : Env)) (fun s => I) (fun s => (ReachI rows f w s.1 s.2)) (fun s => reachM w s.1 s.2) (f &&& w, f &&& w) (show (ReachI rows f w (f &&& w : BitVec 64) (f &&& w : BitVec 64)) from .begin) (Aa rfl (Aa (Cy rfl (by first | rfl | simp)) (Aa rfl (Aa (Cy rfl (by first | rfl | simp)) Bj)))) (show Fit κ _ (I) from A2) ?_)))))))))))))))
 rintro ⟨front, frm⟩ hp
 dsimp only at hp ⊢
 have hR := hp
 refine As (Ah (Gm rfl (Gr (Ei (a := front) (b := 0#64) rfl rfl) (Af (A7 rfl (fun c15 => ?_) (fun c15 => ?_))))))
 ·refine A4 (Aj (A3 (Ah (Gm rfl (Gc0 (Am call238 rfl rfl (Least_ok front (Bq hT Ax))) ?_)))))
  refine Ga rfl ?_
  have htz := tzB_range c15
  have hbd := hw _ (hR.sub _ (hR.fsub _ htz.2.2))
  exact Af (Ah (Gm rfl (Gm rfl (Gr (Runs.subB (a := front) (b := 1#64) rfl rfl) (Gr (Cs (a := front) (b := front - (1#64)) rfl rfl) (Ga rfl (Af (Ap (S5 7 8 0 1 2 rfl rfl rfl rfl rfl) (Ah (Gm rfl (Gm rfl (Gr (A0 (α := (BitVec 64)) (xs := rows) Ca ty175 rfl rfl (Bi hl) om om) (Gr (C2 (α := (BitVec 64)) (xs := rows) (u := U64 ((at_ rows (tzB front)))) ty175 rfl (Bi hl) om om rfl) (Gm rfl (Gr (Cs (a := (at_ rows (tzB front))) (b := w) rfl rfl) (Gm rfl (Gr (Eb (a := (at_ rows (tzB front)) &&& w) (b := frm) rfl rfl) (Ga rfl (Af (Ap (S5 9 7 0 1 2 rfl rfl rfl rfl rfl) (Ah (Gm rfl (Gm rfl (Gr (Eq (a := frm) (b := ((at_ rows (tzB front)) &&& w) &&& ~~~frm) rfl rfl) (Ga rfl (Af (Av (Gm rfl (Gm rfl (Gr (Eq (a := front &&& (front - (1#64))) (b := ((at_ rows (tzB front)) &&& w) &&& ~~~frm) rfl rfl) (Ga rfl (Bh (Ai (B3 (((front &&& (front - (1#64))) ||| (((at_ rows (tzB front)) &&& w) &&& ~~~frm)), (frm ||| (((at_ rows (tzB front)) &&& w) &&& ~~~frm))) (by dsimp only; exact (hR.step c15).1) (hlt := by (try dsimp only); exact (hR.step c15).2)))))))))))))))))))))))))))))))))))
 ·refine Bt (Ao (Ao (A5 (Aj (Ah (Gm rfl (Ga rfl (Af (Ay ?_)))))))))
  have hz : front = 0#64 := Classical.not_not.1 c15
  subst hz
  exact A1 rfl rfl (I) Ax ⟨by rw [hR.eq], rfl⟩
def rchG (nd : Int) (es : List Pt) (frm set : List Int) : List Int := if checkG nd es ≠ 0 then [] else listB (reachB (rowsB nd es) (maskB frm) (maskB set &&& allB nd))
theorem CReach_ok {nd : Int} {va vb vd : Value} {es : List Pt} {frm set : List Int} (hl : Sl κ I va es) (hf : Sl κ I vb frm) (hs : Sl κ I vd set) (hT : TabRd κ I 0 tzCells) :
    CallS Tryz.prog κ 110 [.agg #[I64 (nd), va], vb, vd] I (fun r J => ∃ a c, r = .tuple #[.slice a (rchG nd es frm set).length c, I64 (checkG nd es)] ∧ J = vc 3 (.slice a (rchG nd es frm set).length c) (rchG nd es frm set) :: I) := by
 refine Ce3 Tryz.func110 rfl rfl ?_
 refine Ah (Ge1 (Be (cs := [_, _]) rfl rfl rfl) fun b1 => Ga rfl (Ga rfl (Af (As (Ah (Gl2 ty48 ?_))))))
 refine Gc0 (Am call83 rfl rfl (CheckGen_ok (Bi hl))) ?_
 refine Ga rfl (Af (Ah (Gm rfl (Gr (Bw rfl rfl) (Af (A7 rfl (fun c12 => ?_) (fun c12 => ?_)))))))
 ·refine Ah (Gm rfl (Ga rfl (Ga rfl (Af (Ap (S2 7 6 rfl rfl) (Ay (Ak ?_)))))))
  have hX : (rchG nd es frm set) = [] := if_pos c12
  exact Cu rfl rfl rfl (vc 3 (.slice none (rchG nd es frm set).length 0) (rchG nd es frm set) :: I) (by rw [hX]; exact Cj (show Fit κ _ I from Ax) (Bv (α := Int) _ _)) ⟨none, 0, by rw [hX]; rfl, rfl⟩
 ·refine A4 (Aj (As (Bk mixed (Bp (blk b1 [I64 (nd), va] 48 :: I) 14 (Dr 0 rfl (Bm (vs := [_, _]) ty48) ?_)))))
  refine Dr 2 rfl (Ad rfl) (Dr 4 rfl (Ad rfl) (Dr 6 rfl (Ac fld48_0 rfl) (Dr 7 rfl (Au ty3) ?_)))
  refine Ds1 1 (Se rfl (Am call198 rfl rfl (MRows_ok (nd := nd) (Bi hl))) ?_)
  rintro _ _ ⟨_, _, ⟨ad2, cp3, rfl, rfl⟩, rfl, rfl⟩
  refine ⟨A2, ?_⟩
  have hrwad2 := rowsB_len nd es
  refine Ds1 3 (Sc0 rfl (Am call199 rfl rfl (MaskOf_ok (Bi hf))) ?_)
  refine Ds1 5 (Sc0 rfl (Am call199 rfl rfl (MaskOf_ok (Bi hs))) ?_)
  refine Ds1 8 (Sc0 rfl (Am call200 rfl rfl (MaskAll_ok nd)) ?_)
  refine Dr 9 rfl (Cs (a := maskB set) (b := allB nd) rfl rfl) (Ds1 10 (Se rfl (Am call197 rfl rfl (MReach_ok Bc (maskB frm) ((maskB set) &&& (allB nd)) (and_all_rows _ (checkG_ok.1 (Classical.not_not.1 c12)).rng) (Bq hT Ax))) ?_))
  rintro _ _ ⟨_, _, ⟨rfl, rfl⟩, rfl, rfl⟩
  refine ⟨A2, ?_⟩
  refine Ds1 11 (Sc2 rfl (Am call171 rfl rfl (MList_ok (reachB (rowsB nd es) (maskB frm) ((maskB set) &&& (allB nd))) (Bq hT Ax))) fun ad4 cp5 => ?_)
  refine Dr 12 rfl (A9 rfl) (Dr 13 rfl (A9 rfl) (Dz (Aj (Ap (S2 7 6 rfl rfl) (Ay ?_)))))
  have hX : (rchG nd es frm set) = _ := if_neg c12
  have hz : checkG nd es = 0 := Classical.not_not.1 c12
  exact Cu rfl rfl rfl (vc 3 (.slice ad4 (rchG nd es frm set).length cp5) (rchG nd es frm set) :: I) (by rw [hX]; exact A2) ⟨ad4, cp5, by rw [hX, hz], rfl⟩
end Go.Sl
namespace Go.Sl
section
variable {P : Program} {κ : Ctx} {N : Frm} {Q : Exit → Act → World → Prop} {L : Env} {I : List Item}
theorem wp_scope_ghost {c rest : Code} {a : Act} {w : World} (l : Nat) {σ : Type} (R : σ → Act → World → Prop) (μ : σ → Nat) (hf : findLabel c l = some rest)
  (first : c.wp P (Exit.jump l (fun a w => ∃ s, R s a w) Q) a w)
  (pass : ∀ s a w, R s a w → rest.wp P (Exit.jump l (fun a' w' => ∃ s', R s' a' w' ∧ μ s' < μ s) Q) a w) : (Code.scope c).wp P Q a w := by
 intro b k cs
 have hg : gotoIn l (.inScope c :: k) = some (.code rest :: .inScope c :: k) := by simp [gotoIn, hf]
 have key : ∀ n s a w, μ s = n → R s a w → ∃ e a' w', Q e a' w' ∧ Arrives P (lone (b.at a (.code rest :: .inScope c :: k)) cs w) b k cs e a' w' := by
  intro n
  induction n using Nat.strongRecOn with
  | _ n ih =>
   intro s a w hn hR
   obtain ⟨e, a₁, w₁, hq, harr⟩ := pass s a w hR b (.inScope c :: k) cs
   cases e with
   | normal => exact ⟨.normal, a₁, w₁, hq, Steps.trans harr (.one step_inScope)⟩
   | exit id => exact ⟨.exit id, a₁, w₁, hq, fun k' hk => harr k' (by simp [exitTo, hk])⟩
   | goto l' =>
    obtain ⟨rfl, s', hR', hlt⟩ := hq
    obtain ⟨e₂, a₂, w₂, hq₂, harr₂⟩ := ih _ (by omega) s' a₁ w₁ rfl hR'
    exact ⟨e₂, a₂, w₂, hq₂, .of_steps (harr _ hg) harr₂⟩
   | ret => exact ⟨_, a₁, w₁, hq, harr⟩
   | panic ch => exact ⟨_, a₁, w₁, hq, harr⟩
   | outgrown => exact ⟨_, a₁, w₁, hq, harr⟩
 obtain ⟨e, a₁, w₁, hq, harr⟩ := first b (.inScope c :: k) cs
 cases e with
 | normal => exact ⟨.normal, a₁, w₁, hq, .head step_scope (Steps.trans harr (.one step_inScope))⟩
 | exit id => exact ⟨.exit id, a₁, w₁, hq, fun k' hk => .head step_scope (harr k' (by simp [exitTo, hk]))⟩
 | goto l' =>
  obtain ⟨rfl, s, hR⟩ := hq
  obtain ⟨e₂, a₂, w₂, hq₂, harr₂⟩ := key _ s a₁ w₁ rfl hR
  exact ⟨e₂, a₂, w₂, hq₂, .of_steps (.head step_scope (harr _ hg)) harr₂⟩
 | ret => exact ⟨_, a₁, w₁, hq, .of_steps (.one step_scope) harr⟩
 | panic ch => exact ⟨_, a₁, w₁, hq, .of_steps (.one step_scope) harr⟩
 | outgrown => exact ⟨_, a₁, w₁, hq, .of_steps (.one step_scope) harr⟩
theorem V.jump_ret {l : Nat} {K : Act → World → Prop} (h : V κ N Q .ret L I) : V κ N (Exit.jump l K Q) .ret L I := h
end
end Go.Sl
namespace Go.Sl
section
variable {P : Program} {κ : Ctx} {N : Frm} {Q : Exit → Act → World → Prop} {L : Env} {I : List Item}
theorem W.scope0 {c rest : Code} {l : Nat} (hf : findLabel c l = some rest) (h : W P κ N c (Exit.jump l (fun _ _ => ∃ s : Unit, False) Q) L I) : W P κ N (.scope c) Q L I := fun a w ha hs =>
 wp_scope_ghost l (fun (_ : Unit) _ _ => False) (fun _ => 0) hf (h a w ha hs) fun _ _ _ hR => hR.elim
theorem W.label {l : Nat} (h : V κ N Q .normal L I) : W P κ N (.label l) Q L I := fun a w ha hs => wp_label (h a w ha hs)
end
end Go.Sl
namespace Go.Sl
open Go.Proofs
set_option maxRecDepth 4000
def coreR0 (nd : Int) (es : List Pt) : List (Int × Nat) := coreR (rowsB nd es) (allB ((rowsB nd es).length : Int)) 0
def coreL (nd : Int) (es : List Pt) : List Int := numL (rowsB nd es).length (coreR0 nd es)
def coreO (nd : Int) (es : List Pt) : List Int := ordL (coreR0 nd es)
def coreN (nd : Int) (es : List Pt) : List Int := if checkG nd es ≠ 0 then [] else coreL nd es
def coreK (nd : Int) (es : List Pt) (k : Int) : List Int := sideL (coreN nd es).length fun v => decide (k ≤ at_ (coreN nd es) v)
theorem mem_allN {n : Nat} (h : n ≤ 64) {u : Int} : u ∈ listB (allB (n : Int)) ↔ 0 ≤ u ∧ u < n := by
 constructor
 ·intro hu
  have hr := listB_lt hu
  rw [D4, getLsb_allB om om om, decide_eq_true_eq] at hu
  omega
 ·intro hu
  rw [D4, getLsb_allB om om om, decide_eq_true_eq]
  omega
theorem coreL_len (nd : Int) (es : List Pt) : (coreL nd es).length = (rowsB nd es).length := numL_len _ _
theorem ordL_len (l : List (Int × Nat)) : (ordL l).length = l.length := List.length_map ..
theorem bit_sh {v : Int} (h0 : 0 ≤ v) (h1 : v < 64) : bitB v = 1#64 <<< v.toNat := by unfold bitB; rw [if_neg om]
theorem deg_full {n : Nat} {rows : List (BitVec 64)} (h : SymB n rows) {k : Int} (h0 : 0 ≤ k) (h1 : k < n) : onesB (at_ rows k) = ((degB rows (allB (n : Int)) k : Nat) : Int) := by
 rw [ones_pop]
 unfold degB
 congr 1
 refine ((List.perm_ext_iff_of_nodup (listB_nodup _) (listB_nodup _)).2 fun u => ?_).length_eq
 rw [mem_andB]
 refine ⟨fun hu => ⟨hu, (mem_allN h.le).2 ⟨(listB_lt hu).1, h.lt k u h0 h1 hu⟩⟩, fun hu => hu.1⟩
theorem rows_sym {nd : Int} {es : List Pt} (hG : GrOk nd es) : SymB (rowsB nd es).length (rowsB nd es) := by
 have h := hG.rows.symB hG
 have e := h.len
 rw [← e] at h; exact h
theorem core_step {rows : List (BitVec 64)} {left : BitVec 64} {kk dd : Nat} {v : Int} {done : List (Int × Nat)} {all : List (Int × Nat)} (hc : done ++ coreR rows left kk = all) (hT : Takes rows left v) (hd : degB rows left v = dd) :
  (done ++ [(v, max kk dd)]) ++ coreR rows (left &&& ~~~(1#64 <<< v.toNat)) (max kk dd) = all := by
 rw [← hc, coreR_step hT, hd, List.append_assoc]; rfl
theorem cnt_allN {n : Nat} (h : n ≤ 64) : (listB (allB (n : Int))).length = n := by
 have hp : (listB (allB (n : Int))).Perm ((List.range n).map fun (i : Nat) => (i : Int)) := (List.perm_ext_iff_of_nodup (listB_nodup _) (by
  exact List.Pairwise.map _ (fun a b h => by omega) (List.nodup_range (n := n)))).2 fun u => by
  rw [mem_allN h, List.mem_map]
  constructor
  ·intro hu; exact ⟨u.toNat, List.mem_range.2 om, by omega⟩
  ·rintro ⟨i, hi, rfl⟩; have := List.mem_range.1 hi; omega
 have := hp.length_eq
 rwa [List.length_map, List.length_range] at this
set_option maxHeartbeats 2000000 in
theorem CPeel_ok {κ : Ctx} {I : List Item} {nd : Int} {va : Value} {es : List Pt} (hl : Sl κ I va es) (hG : GrOk nd es) (hT : TabRd κ I 0 tzCells) :
    CallS Tryz.prog κ 175 [.agg #[I64 (nd), va]] I (fun r J => ∃ a c a' c', r = .tuple #[.slice a (coreO nd es).length c, .slice a' (coreL nd es).length c'] ∧ J = vc 3 (.slice a (coreO nd es).length c) (coreO nd es) :: vc 3 (.slice a' (coreL nd es).length c') (coreL nd es) :: I) := by
 have hS := rows_sym hG
 have hS64 := hS.le
 refine Ce1 Tryz.func175 rfl rfl ?_
 refine Ah (Ge1 (Be (cs := [_, _]) rfl rfl rfl) fun b1 => Ga rfl (Ga rfl (Af (W.scope0 (l := 0) rfl ?_))))
 refine Ah (Gl2 ty48 ?_)
 refine G.e (Am call198 rfl rfl (MRows_ok (nd := nd) (Bi hl))) ?_
 rintro _ _ ⟨_, _, ⟨ad2, cp3, rfl, rfl⟩, rfl, rfl⟩
 have hrwad2 := rowsB_len nd es
 refine Ga rfl (Af (Ah (Ge1 (Ba ty264 rfl) fun b4 => ?_)))
 show G Tryz.prog κ _ _ _ _ ([(5, .pointer (some ⟨b4, 0, none⟩)), (4, .slice ad2 (rowsB nd es).length cp3), (16, .slice ad2 (rowsB nd es).length cp3), (15, .agg #[I64 (nd), va]), (3, .slice none 0 0), (2, .slice none 0 0), (1, .pointer (some ⟨b1, 0, none⟩)), (0, .agg #[I64 (nd), va])] : Env) (blk b4 (cells (List.replicate 64 (0#64) : List (BitVec 64))) 264 :: vc 175 (.slice ad2 (rowsB nd es).length cp3) (rowsB nd es) :: blk b1 [I64 (nd), va] 48 :: I)
 refine Af (Ah (Gm rfl (Gr (Bl Ca rfl) (Ge2 (Ck (α := Int) (n := (rowsB nd es).length) Ab ty3 rfl rfl rfl om om dc rfl) fun ad5 cp6 => ?_))))
 refine Ga rfl (Af (As (Ah (Gm rfl (Gr (Bl Ca rfl) (Gm rfl (Af (Ap (S7 22 21 20 6 5 4 2 rfl rfl rfl rfl rfl rfl rfl) (A3 (Bx (σ := Nat × (List Int) × (List (BitVec 64))) (fun s => ([(2, .slice none 0 0), (4, .slice ad2 (rowsB nd es).length cp3), (5, .pointer (some ⟨b4, 0, none⟩)), (6, .slice ad5 (List.replicate ((rowsB nd es).length) (default : Int)).length cp6), (20, .slice ad2 (rowsB nd es).length cp3), (21, I64 ((((rowsB nd es).length : Nat) : Int))), (22, I64 (((s.1 : Nat) : Int)))] : Env)) (fun s => vc 3 (.slice ad5 (List.replicate ((rowsB nd es).length) (default : Int)).length cp6) (s.2.1) :: blk b4 (cells (s.2.2 : List (BitVec 64))) 264 :: vc 175 (.slice ad2 (rowsB nd es).length cp3) (rowsB nd es) :: blk b1 [I64 (nd), va] 48 :: I) (fun s => (s.1 ≤ (rowsB nd es).length) ∧ (BkOk (rowsB nd es).length (fun u => 0 ≤ u ∧ u < ((s.1 : Nat) : Int)) (degB (rowsB nd es) (allB ((rowsB nd es).length : Int))) s.2.1 s.2.2)) (fun s => (rowsB nd es).length - s.1) (0, List.replicate ((rowsB nd es).length) (default : Int), List.replicate 64 (0#64)) (show ((0 : Nat) ≤ (rowsB nd es).length) ∧ (BkOk (rowsB nd es).length (fun u => 0 ≤ u ∧ u < (((0 : Nat) : Nat) : Int)) (degB (rowsB nd es) (allB ((rowsB nd es).length : Int))) (List.replicate ((rowsB nd es).length) (default : Int) : List Int) (List.replicate 64 (0#64) : List (BitVec 64))) from ⟨om, (BkOk.start _ _)⟩) (Aa rfl (Aa rfl (Aa rfl (Aa rfl (Aa rfl (Aa rfl (Aa Ci Bj))))))) (show Fit κ _ (vc 3 (.slice ad5 (List.replicate ((rowsB nd es).length) (default : Int)).length cp6) ((List.replicate ((rowsB nd es).length) (default : Int))) :: blk b4 (cells ((List.replicate 64 (0#64)) : List (BitVec 64))) 264 :: vc 175 (.slice ad2 (rowsB nd es).length cp3) (rowsB nd es) :: blk b1 [I64 (nd), va] 48 :: I) from A2) ?_))))))))))
 rintro ⟨k, dgs, bks⟩ hp
 dsimp only at hp ⊢
 obtain ⟨hk, hB⟩ := hp
 have hdl := hB.dlen
 have hbl := hB.blen
 have hon : k < (rowsB nd es).length → onesB (at_ (rowsB nd es) (k : Int)) = ((degB (rowsB nd es) (allB ((rowsB nd es).length : Int)) (k : Int) : Nat) : Int) := fun h => deg_full hS om om
 have hd64 : k < (rowsB nd es).length → ((degB (rowsB nd es) (allB ((rowsB nd es).length : Int)) (k : Int) : Nat) : Int) < 64 := fun h => by have := degB_lt hS (allB ((rowsB nd es).length : Int)) (v := (k : Int)) om om; omega
 refine Ah (Gr (A8 rfl rfl) (Af (As (A7 rfl (fun c23 => ?_) (fun c23 => ?_)))))
 ·refine A4 (Aj (As (A3 (Ah (Gm rfl (Gr (A0 (α := (BitVec 64)) (xs := rowsB nd es) Ca ty175 rfl rfl Bc om oo) (Gr (C2 (α := (BitVec 64)) (xs := rowsB nd es) (u := U64 ((at_ (rowsB nd es) (k : Int)))) ty175 rfl Bc om oo rfl) (Ga rfl (Ga rfl (Af (Ah (Gm rfl (Gm rfl (Gm rfl (Gc0 (Am call219 rfl rfl (MCount_ok (at_ (rowsB nd es) (k : Int)))) ?_)))))))))))))))
  refine Gr (A0 (α := Int) (xs := dgs) Ab ty3 rfl rfl Bc om oo) (Ge0 (Ct (α := Int) (xs := dgs) (e := 3) (new := onesB (at_ (rowsB nd es) (k : Int))) ty3 rfl rfl rfl om oo am) ?_)
  have hon1 := hon om
  have hd641 := hd64 om
  have hset : at_ (List.set dgs ((k : Int)).toNat (onesB (at_ (rowsB nd es) (k : Int)))) (k : Int) = ((degB (rowsB nd es) (allB ((rowsB nd es).length : Int)) (k : Int) : Nat) : Int) := by rw [C3 _ _ _ _ om om om, if_pos rfl, hon1]
  refine Af (Ap (S8 7 2 4 5 6 20 21 22 rfl rfl rfl rfl rfl rfl rfl rfl) (Bk mixed (Bp (vc 3 (.slice ad5 (List.replicate ((rowsB nd es).length) (default : Int)).length cp6) (List.set dgs ((k : Int)).toNat (onesB (at_ (rowsB nd es) (k : Int)))) :: blk b4 (cells (bks : List (BitVec 64))) 264 :: vc 175 (.slice ad2 (rowsB nd es).length cp3) (rowsB nd es) :: blk b1 [I64 (nd), va] 48 :: I) 10 (Dr 0 rfl (Ad rfl) (Dr 1 rfl (Ad rfl) (Dr 2 rfl (A0 (α := Int) (xs := List.set dgs ((k : Int)).toNat (onesB (at_ (rowsB nd es) (k : Int)))) Ab ty3 rfl rfl Bc om oo) (Dr 3 rfl (Br (xs := List.set dgs ((k : Int)).toNat (onesB (at_ (rowsB nd es) (k : Int)))) ty3 rfl Bc om oo) (Dr 4 rfl (Cg Cq ty175 rfl rfl om oo) (Dr 5 rfl (Eu (xs := bks) ty175 rfl (Dh mm) om oo) (Dr 6 rfl (Ad rfl) (Ds1 7 (Se rfl (Am call237 rfl rfl (Bit_ok (k : Int))) ?_))))))))))))
  rintro _ _ ⟨_, _, ⟨rfl, rfl⟩, rfl, rfl⟩
  refine ⟨Ax, ?_⟩
  refine Dr 8 rfl (Eq (a := at_ bks (at_ (List.set dgs ((k : Int)).toNat (onesB (at_ (rowsB nd es) (k : Int)))) (k : Int))) (b := bitB (k : Int)) rfl rfl) (Dr 9 rfl (Cg Cq ty175 rfl rfl om oo) (C4 kr ?_))
  refine Ae 10 rfl (Eff.setAU (xs := bks) (i := at_ (List.set dgs ((k : Int)).toNat (onesB (at_ (rowsB nd es) (k : Int)))) (k : Int)) (n := (at_ bks (at_ (List.set dgs ((k : Int)).toNat (onesB (at_ (rowsB nd es) (k : Int)))) (k : Int))) ||| (bitB (k : Int))) ty175 rfl rfl rfl om oo am) ?_
  rintro _ _ ⟨rfl, rfl⟩
  refine C5 kr ?_
  exact Ai (Aj (Ap (S7 2 4 5 6 20 21 22 rfl rfl rfl rfl rfl rfl rfl) (Av (Gr (Rad rfl rfl) (Gm rfl (Bh (B3 ((k + 1), (List.set dgs ((k : Int)).toNat (onesB (at_ (rowsB nd es) (k : Int)))), (List.set bks (at_ (List.set dgs ((k : Int)).toNat (onesB (at_ (rowsB nd es) (k : Int)))) (k : Int)).toNat ((at_ bks (at_ (List.set dgs ((k : Int)).toNat (onesB (at_ (rowsB nd es) (k : Int)))) (k : Int))) ||| (bitB (k : Int))))) (by dsimp only; exact ⟨om, (by have hN := hB.push (S' := fun u => 0 ≤ u ∧ u < ((k + 1 : Nat) : Int)) (v := (k : Int)) (c := ((degB (rowsB nd es) (allB ((rowsB nd es).length : Int)) (k : Int) : Nat) : Int)) om om om (fun u => by constructor <;> intro h <;> omega) (fun h => by omega) rfl (hd64 om); rw [hset, hon om, bit_sh om om]; exact hN)⟩))))))))
 ·refine Bt (Ao (Ao (A5 (Aj (Ah (Gm rfl (Gr (Bl Ca rfl) (Ge2 (Ck (α := Int) (n := (rowsB nd es).length) Ab ty3 rfl rfl rfl om om dc rfl) fun ad7 cp8 => ?_))))))))
  refine Ga rfl (Af (Ah (Gm rfl (Gr (Bl Ca rfl) (Gc0 (Am call200 rfl rfl (MaskAll_ok (((rowsB nd es).length : Nat) : Int))) ?_)))))
  refine Ga rfl (Af (Ap (S6 9 3 2 4 5 6 rfl rfl rfl rfl rfl rfl) (Ah (Ga rfl (Af (As (W.label ?_)))))))
  refine Aj (As (A3 (Bx (σ := (List (Int × Nat)) × (BitVec 64) × Nat × (List Int) × (List (BitVec 64)) × (Option Addr) × Nat) (fun s => ([(2, .slice s.2.2.2.2.2.1 (ordL s.1).length s.2.2.2.2.2.2), (3, .slice ad7 (List.replicate ((rowsB nd es).length) (default : Int)).length cp8), (4, .slice ad2 (rowsB nd es).length cp3), (5, .pointer (some ⟨b4, 0, none⟩)), (6, .slice ad5 (List.replicate ((rowsB nd es).length) (default : Int)).length cp6), (9, U64 (s.2.1)), (10, I64 (((s.2.2.1 : Nat) : Int)))] : Env)) (fun s => vc 3 (.slice s.2.2.2.2.2.1 (ordL s.1).length s.2.2.2.2.2.2) (ordL s.1) :: vc 3 (.slice ad7 (List.replicate ((rowsB nd es).length) (default : Int)).length cp8) (numL (rowsB nd es).length s.1) :: vc 3 (.slice ad5 (List.replicate ((rowsB nd es).length) (default : Int)).length cp6) (s.2.2.2.1) :: blk b4 (cells (s.2.2.2.2.1 : List (BitVec 64))) 264 :: vc 175 (.slice ad2 (rowsB nd es).length cp3) (rowsB nd es) :: blk b1 [I64 (nd), va] 48 :: I) (fun s => (s.1 ++ coreR (rowsB nd es) s.2.1 s.2.2.1 = coreR0 nd es) ∧ (BkOk (rowsB nd es).length (fun u => u ∈ listB s.2.1) (degB (rowsB nd es) s.2.1) s.2.2.2.1 s.2.2.2.2.1) ∧ (s.1.length + (listB s.2.1).length = (rowsB nd es).length) ∧ (s.2.2.1 ≤ 63)) (fun s => (listB s.2.1).length) ([], (allB ((rowsB nd es).length : Int)), 0, dgs, bks, none, 0) (show (([] : List (Int × Nat)) ++ coreR (rowsB nd es) ((allB ((rowsB nd es).length : Int)) : BitVec 64) (0 : Nat) = coreR0 nd es) ∧ (BkOk (rowsB nd es).length (fun u => u ∈ listB ((allB ((rowsB nd es).length : Int)) : BitVec 64)) (degB (rowsB nd es) ((allB ((rowsB nd es).length : Int)) : BitVec 64)) (dgs : List Int) (bks : List (BitVec 64))) ∧ (([] : List (Int × Nat)).length + (listB ((allB ((rowsB nd es).length : Int)) : BitVec 64)).length = (rowsB nd es).length) ∧ ((0 : Nat) ≤ 63) from ⟨rfl, (hB.congr (fun u => (mem_allN hS.le).trans (by constructor <;> intro h <;> omega)) (fun u _ => rfl)), (by have : (listB (allB ((rowsB nd es).length : Int))).length = (rowsB nd es).length := cnt_allN hS.le; simp only [List.length_nil]; omega), om⟩) (Aa (Cy rfl (by first | rfl | (rw [ordL_snoc]) | simp)) (Aa rfl (Aa rfl (Aa rfl (Aa rfl (Aa (Cy rfl (by first | rfl | (rw [ordL_snoc]) | simp)) (Aa Ci Bj))))))) (show Fit κ _ (vc 3 (.slice (none) (ordL ([])).length (0)) (ordL ([])) :: vc 3 (.slice ad7 (List.replicate ((rowsB nd es).length) (default : Int)).length cp8) (numL (rowsB nd es).length ([])) :: vc 3 (.slice ad5 (List.replicate ((rowsB nd es).length) (default : Int)).length cp6) ((dgs)) :: blk b4 (cells ((bks) : List (BitVec 64))) 264 :: vc 175 (.slice ad2 (rowsB nd es).length cp3) (rowsB nd es) :: blk b1 [I64 (nd), va] 48 :: I) from (Cj (Bv (α := Int) _ _) B6)) ?_)))
  rintro ⟨done, left, kk, dgs2, bks2, ao, co⟩ hp
  dsimp only at hp ⊢
  obtain ⟨hc, hB2, hln, hkk⟩ := hp
  have hdl2 := hB2.dlen
  have hbl2 := hB2.blen
  have hold := ordL_len done
  have hnl := numL_len (rowsB nd es).length done
  have hdg64 : ∀ u ∈ listB left, degB (rowsB nd es) left u < 64 := fun u hu => by have hr := hB2.rng u hu; have := degB_lt hS left hr.1 hr.2; omega
  refine As (Ah (Gm rfl (Gr (Ei (a := left) (b := 0#64) rfl rfl) (Af (A7 rfl (fun c50 => ?_) (fun c50 => ?_))))))
  ·refine A4 (Aj (A3 (Ah (Gm rfl (Af (A3 (Bx (σ := Nat) (fun s => ([(2, .slice ao (ordL done).length co), (3, .slice ad7 (List.replicate ((rowsB nd es).length) (default : Int)).length cp8), (4, .slice ad2 (rowsB nd es).length cp3), (5, .pointer (some ⟨b4, 0, none⟩)), (6, .slice ad5 (List.replicate ((rowsB nd es).length) (default : Int)).length cp6), (9, U64 (left)), (10, I64 ((kk : Int))), (51, I64 (((s : Nat) : Int)))] : Env)) (fun s => vc 3 (.slice ao (ordL done).length co) (ordL done) :: vc 3 (.slice ad7 (List.replicate ((rowsB nd es).length) (default : Int)).length cp8) (numL (rowsB nd es).length done) :: vc 3 (.slice ad5 (List.replicate ((rowsB nd es).length) (default : Int)).length cp6) (dgs2) :: blk b4 (cells (bks2 : List (BitVec 64))) 264 :: vc 175 (.slice ad2 (rowsB nd es).length cp3) (rowsB nd es) :: blk b1 [I64 (nd), va] 48 :: I) (fun s => (s ≤ 64) ∧ (∀ c : Int, 0 ≤ c → c < ((s : Nat) : Int) → at_ bks2 c = 0#64)) (fun s => 64 - s) (0) (show ((0 : Nat) ≤ 64) ∧ (∀ c : Int, 0 ≤ c → c < (((0 : Nat) : Nat) : Int) → at_ bks2 c = 0#64) from ⟨om, (fun c h1 h2 => by omega)⟩) (Aa rfl (Aa rfl (Aa rfl (Aa rfl (Aa rfl (Aa rfl (Aa rfl (Aa Ci Bj)))))))) (show Fit κ _ (vc 3 (.slice ao (ordL done).length co) (ordL done) :: vc 3 (.slice ad7 (List.replicate ((rowsB nd es).length) (default : Int)).length cp8) (numL (rowsB nd es).length done) :: vc 3 (.slice ad5 (List.replicate ((rowsB nd es).length) (default : Int)).length cp6) (dgs2) :: blk b4 (cells (bks2 : List (BitVec 64))) 264 :: vc 175 (.slice ad2 (rowsB nd es).length cp3) (rowsB nd es) :: blk b1 [I64 (nd), va] 48 :: I) from A2) ?_)))))))
   rintro dd hp
   obtain ⟨hdd, hz⟩ := hp
   refine Ah (Gr (A8 rfl rfl) (Af (As (A7 rfl (fun c52 => ?_) (fun c52 => ?_)))))
   ·refine A4 (Aj (As (A3 (Ah (Gm rfl (Ga rfl (Af (As (Ah (Gm rfl (Gr (Cg Cq ty175 rfl rfl om oo) (Gr (Eu (xs := bks2) ty175 rfl (Dh mm) om oo) (Gr (Runs.eqB (a := at_ bks2 (dd : Int)) (b := 0#64) rfl rfl) (Af (Ap (S10 57 11 2 3 4 5 6 9 10 51 rfl rfl rfl rfl rfl rfl rfl rfl rfl rfl) (A7 rfl (fun c57 => ?_) (fun c57 => ?_)))))))))))))))))
    ·exact Bt (Ao (A5 (Aj (Av (Gr (Rad rfl rfl) (Gm rfl (Bh (B3 ((dd + 1)) ⟨om, (fun c h1 h2 => by by_cases e : c = (dd : Int); (· rw [e]; assumption); (· exact hz c h1 om))⟩))))))))
    ·refine A4 (Aj (Ah (Gm rfl (Gr (Cg Cq ty175 rfl rfl om oo) (Gr (Eu (xs := bks2) ty175 rfl (Dh mm) om oo) (Gc0 (Am call238 rfl rfl (Least_ok (at_ bks2 (dd : Int)) (Bq hT Ax))) ?_))))))
     have hTT := hB2.takes (d := (dd : Int)) om om c57 hz hdg64
     generalize hvE : tzB (at_ bks2 (dd : Int)) = v at hTT ⊢
     obtain ⟨hTk, hdv⟩ := hTT
     have hvm := hTk.mem
     have hvr := hB2.rng v hvm
     refine Ga rfl (Af (Ap (S9 12 11 2 3 4 5 6 9 10 rfl rfl rfl rfl rfl rfl rfl rfl rfl) (Ah (Gm rfl (Gm rfl (Gr (Dq rfl rfl) ?_))))))
     have hmx : (if (kk : Int) < (dd : Int) then (dd : Int) else (kk : Int)) = (((max kk dd) : Nat) : Int) := by split <;> omega
     rw [hmx]
     refine Ga rfl (Af (Ap (S9 10 12 11 2 3 4 5 6 9 rfl rfl rfl rfl rfl rfl rfl rfl rfl) (Ah (Gm rfl (Gm rfl (Gm rfl (Gr (A0 (α := Int) (xs := numL (rowsB nd es).length done) Ab ty3 rfl rfl Bc om oo) (Ge0 (Ct (α := Int) (xs := numL (rowsB nd es).length done) (e := 3) (new := (((max kk dd) : Nat) : Int)) ty3 rfl rfl rfl om oo am) ?_))))))))
     refine Af (Ah (Gm rfl (Gm rfl (Ge1 (B5 (α := Int) (cs := [_]) (xs := [v]) Ab ty3 rfl rfl dc dc rfl rfl rfl rfl) fun ad9 => ?_))))
     refine Ge2 (Ce (α := Int) (e := 3) (xs := ordL done) (ys := ([v] : List Int)) Ab ty3 rfl rfl rfl mm Bc lcn dc rfl (fun _ _ => am)) fun ad10 cp11 => ?_
     refine Ga rfl (Af (Ap (S9 2 10 12 11 3 4 5 6 9 rfl rfl rfl rfl rfl rfl rfl rfl rfl) (Ah (Gm rfl (Gm rfl (G.e (Am call237 rfl rfl (Bit_ok v)) ?_))))))
     rintro _ _ ⟨_, _, ⟨rfl, rfl⟩, rfl, rfl⟩
     rw [show bitB v = 1#64 <<< (v).toNat from bit_sh om om]
     refine Gr (Eb (a := left) (b := 1#64 <<< (v).toNat) rfl rfl) (Ga rfl (Af (Ap (S9 9 2 10 12 11 3 4 5 6 rfl rfl rfl rfl rfl rfl rfl rfl rfl) (As (Bk mixed (Bp (vc 3 (.slice ad9 1 1) (([v] : List Int)) :: vc 3 (.slice ad10 ((ordL done) ++ ([v] : List Int)).length cp11) ((ordL done) ++ ([v] : List Int)) :: vc 3 (.slice ad7 (List.replicate ((rowsB nd es).length) (default : Int)).length cp8) (List.set (numL (rowsB nd es).length done) (v).toNat ((((max kk dd) : Nat) : Int))) :: vc 3 (.slice ad5 (List.replicate ((rowsB nd es).length) (default : Int)).length cp6) (dgs2) :: blk b4 (cells (bks2 : List (BitVec 64))) 264 :: vc 175 (.slice ad2 (rowsB nd es).length cp3) (rowsB nd es) :: blk b1 [I64 (nd), va] 48 :: I) 7 (Dr 0 rfl (Ad rfl) (Dr 1 rfl (Cg Cq ty175 rfl rfl om oo) (Dr 2 rfl (Eu (xs := bks2) ty175 rfl (Dh mm) om oo) (Dr 3 rfl (Ad rfl) (Ds1 4 (Se rfl (Am call237 rfl rfl (Bit_ok v)) ?_))))))))))))
     rintro _ _ ⟨_, _, ⟨rfl, rfl⟩, rfl, rfl⟩
     refine ⟨Ax, ?_⟩
     rw [show bitB v = 1#64 <<< (v).toNat from bit_sh om om]
     refine Dr 5 rfl (Eb (a := at_ bks2 (dd : Int)) (b := 1#64 <<< (v).toNat) rfl rfl) (Dr 6 rfl (Cg Cq ty175 rfl rfl om oo) (C4 kr ?_))
     refine Ae 7 rfl (Eff.setAU (xs := bks2) (i := (dd : Int)) (n := (at_ bks2 (dd : Int)) &&& ~~~(1#64 <<< (v).toNat)) ty175 rfl rfl rfl om oo am) ?_
     rintro _ _ ⟨rfl, rfl⟩
     refine C5 kr ?_
     refine Aj (Ap (S8 9 2 10 12 3 4 5 6 rfl rfl rfl rfl rfl rfl rfl rfl) (As (Ah (Gm rfl (Gm rfl (Gr (A0 (α := (BitVec 64)) (xs := rowsB nd es) Ca ty175 rfl rfl Bc om oo) (Gr (C2 (α := (BitVec 64)) (xs := rowsB nd es) (u := U64 ((at_ (rowsB nd es) v))) ty175 rfl Bc om oo rfl) (Gm rfl (Gr (Cs (a := (at_ (rowsB nd es) v)) (b := left &&& ~~~(1#64 <<< (v).toNat)) rfl rfl) (Gc2 (Am call171 rfl rfl (MList_ok ((at_ (rowsB nd es) v) &&& (left &&& ~~~(1#64 <<< (v).toNat))) (Bq hT Ax))) fun ad12 cp13 => ?_))))))))))
     refine Gr (Bl Ab rfl) (Gm rfl (Af (Ap (S10 92 91 90 9 2 10 3 4 5 6 rfl rfl rfl rfl rfl rfl rfl rfl rfl rfl) (A3 (Bx (σ := Nat × (List Int) × (List (BitVec 64))) (fun s => ([(2, .slice ad10 ((ordL done) ++ ([v] : List Int)).length cp11), (3, .slice ad7 (List.replicate ((rowsB nd es).length) (default : Int)).length cp8), (4, .slice ad2 (rowsB nd es).length cp3), (5, .pointer (some ⟨b4, 0, none⟩)), (6, .slice ad5 (List.replicate ((rowsB nd es).length) (default : Int)).length cp6), (9, U64 (left &&& ~~~(1#64 <<< (v).toNat))), (10, I64 ((((max kk dd) : Nat) : Int))), (90, .slice ad12 (listB ((at_ (rowsB nd es) v) &&& (left &&& ~~~(1#64 <<< (v).toNat)))).length cp13), (91, I64 ((((listB ((at_ (rowsB nd es) v) &&& (left &&& ~~~(1#64 <<< (v).toNat)))).length : Nat) : Int))), (92, I64 (((s.1 : Nat) : Int)))] : Env)) (fun s => vc 3 (.slice ad12 (listB ((at_ (rowsB nd es) v) &&& (left &&& ~~~(1#64 <<< (v).toNat)))).length cp13) (listB ((at_ (rowsB nd es) v) &&& (left &&& ~~~(1#64 <<< (v).toNat)))) :: vc 3 (.slice ad9 1 1) (([v] : List Int)) :: vc 3 (.slice ad10 ((ordL done) ++ ([v] : List Int)).length cp11) ((ordL done) ++ ([v] : List Int)) :: vc 3 (.slice ad7 (List.replicate ((rowsB nd es).length) (default : Int)).length cp8) (List.set (numL (rowsB nd es).length done) (v).toNat ((((max kk dd) : Nat) : Int))) :: vc 3 (.slice ad5 (List.replicate ((rowsB nd es).length) (default : Int)).length cp6) (s.2.1) :: blk b4 (cells (s.2.2 : List (BitVec 64))) 264 :: vc 175 (.slice ad2 (rowsB nd es).length cp3) (rowsB nd es) :: blk b1 [I64 (nd), va] 48 :: I) (fun s => (s.1 ≤ (listB (at_ (rowsB nd es) v &&& (left &&& ~~~(1#64 <<< (v).toNat)))).length) ∧ (BkOk (rowsB nd es).length (fun u => u ∈ listB (left &&& ~~~(1#64 <<< (v).toNat))) (degM (rowsB nd es) left (listB (at_ (rowsB nd es) v &&& (left &&& ~~~(1#64 <<< (v).toNat)))) s.1) s.2.1 s.2.2)) (fun s => (listB (at_ (rowsB nd es) v &&& (left &&& ~~~(1#64 <<< (v).toNat)))).length - s.1) (0, dgs2, List.set bks2 ((dd : Int)).toNat ((at_ bks2 (dd : Int)) &&& ~~~(1#64 <<< (v).toNat))) (show ((0 : Nat) ≤ (listB (at_ (rowsB nd es) v &&& (left &&& ~~~(1#64 <<< (v).toNat)))).length) ∧ (BkOk (rowsB nd es).length (fun u => u ∈ listB (left &&& ~~~(1#64 <<< (v).toNat))) (degM (rowsB nd es) left (listB (at_ (rowsB nd es) v &&& (left &&& ~~~(1#64 <<< (v).toNat)))) (0 : Nat)) (dgs2 : List Int) (List.set bks2 ((dd : Int)).toNat ((at_ bks2 (dd : Int)) &&& ~~~(1#64 <<< (v).toNat)) : List (BitVec 64))) from ⟨om, ((hB2.drop hvm hdv om (fun u => mem_minus om)).congr (fun u => Iff.rfl) (fun u _ => degM_zero _ _ _ u))⟩) (Aa rfl (Aa rfl (Aa rfl (Aa rfl (Aa rfl (Aa rfl (Aa rfl (Aa rfl (Aa rfl (Aa Ci Bj)))))))))) (show Fit κ _ (vc 3 (.slice ad12 (listB ((at_ (rowsB nd es) v) &&& (left &&& ~~~(1#64 <<< (v).toNat)))).length cp13) (listB ((at_ (rowsB nd es) v) &&& (left &&& ~~~(1#64 <<< (v).toNat)))) :: vc 3 (.slice ad9 1 1) (([v] : List Int)) :: vc 3 (.slice ad10 ((ordL done) ++ ([v] : List Int)).length cp11) ((ordL done) ++ ([v] : List Int)) :: vc 3 (.slice ad7 (List.replicate ((rowsB nd es).length) (default : Int)).length cp8) (List.set (numL (rowsB nd es).length done) (v).toNat ((((max kk dd) : Nat) : Int))) :: vc 3 (.slice ad5 (List.replicate ((rowsB nd es).length) (default : Int)).length cp6) ((dgs2)) :: blk b4 (cells ((List.set bks2 ((dd : Int)).toNat ((at_ bks2 (dd : Int)) &&& ~~~(1#64 <<< (v).toNat))) : List (BitVec 64))) 264 :: vc 175 (.slice ad2 (rowsB nd es).length cp3) (rowsB nd es) :: blk b1 [I64 (nd), va] 48 :: I) from A2) ?_)))))
     rintro ⟨j, dgs1, bks1⟩ hp
     dsimp only at hp ⊢
     obtain ⟨hj, hB1⟩ := hp
     have hdl1 := hB1.dlen
     have hbl1 := hB1.blen
     have hwsl : (listB (at_ (rowsB nd es) v &&& (left &&& ~~~(1#64 <<< (v).toNat)))).length ≤ 64 := listB_len _
     have hwj : j < (listB (at_ (rowsB nd es) v &&& (left &&& ~~~(1#64 <<< (v).toNat)))).length → (at_ (listB (at_ (rowsB nd es) v &&& (left &&& ~~~(1#64 <<< (v).toNat)))) (j : Int)) ∈ listB (left &&& ~~~(1#64 <<< (v).toNat)) ∧ (at_ (listB (at_ (rowsB nd es) v &&& (left &&& ~~~(1#64 <<< (v).toNat)))) (j : Int)) ∈ listB (at_ (rowsB nd es) v) := fun h => by have h1 := Ch (xs := (listB (at_ (rowsB nd es) v &&& (left &&& ~~~(1#64 <<< (v).toNat))))) (i := (j : Int)) om om; exact ⟨(mem_andB.1 h1).2, (mem_andB.1 h1).1⟩
     refine Ah (Gr (A8 rfl rfl) (Af (As (A7 rfl (fun c93 => ?_) (fun c93 => ?_)))))
     ·refine A4 (Aj (As (A3 (Ah (Gr (A0 (α := Int) (xs := listB ((at_ (rowsB nd es) v) &&& (left &&& ~~~(1#64 <<< (v).toNat)))) Ab ty3 rfl rfl Bc om oo) (Gr (Br (xs := listB ((at_ (rowsB nd es) v) &&& (left &&& ~~~(1#64 <<< (v).toNat)))) ty3 rfl Bc om oo) (Ga rfl ?_)))))))
      have hwm := hwj om
      have hwr := hB1.rng (at_ (listB (at_ (rowsB nd es) v &&& (left &&& ~~~(1#64 <<< (v).toNat)))) (j : Int)) hwm.1
      have hdeg0 := hB1.deg (at_ (listB (at_ (rowsB nd es) v &&& (left &&& ~~~(1#64 <<< (v).toNat)))) (j : Int)) hwm.1
      have hdeg := hdeg0
      have hnow := degM_now (rows := rowsB nd es) (left := left) (ws := (listB (at_ (rowsB nd es) v &&& (left &&& ~~~(1#64 <<< (v).toNat))))) (j := j) om (listB_nodup _)
      have hlw : (at_ (listB (at_ (rowsB nd es) v &&& (left &&& ~~~(1#64 <<< (v).toNat)))) (j : Int)) ∈ listB left := ((mem_minus om).1 hwm.1).1
      have hw64 := hdg64 (at_ (listB (at_ (rowsB nd es) v &&& (left &&& ~~~(1#64 <<< (v).toNat)))) (j : Int)) hlw
      have hw1 : 1 ≤ degB (rowsB nd es) left (at_ (listB (at_ (rowsB nd es) v &&& (left &&& ~~~(1#64 <<< (v).toNat)))) (j : Int)) := List.length_pos_of_mem (mem_andB.2 ⟨hS.sym v (at_ (listB (at_ (rowsB nd es) v &&& (left &&& ~~~(1#64 <<< (v).toNat)))) (j : Int)) om om hwm.2, hvm⟩)
      rw [hnow] at hdeg
      refine Af (Ap (S11 14 2 3 4 5 6 9 10 90 91 92 rfl rfl rfl rfl rfl rfl rfl rfl rfl rfl rfl) (As (Bk mixed (Bp (vc 3 (.slice ad12 (listB ((at_ (rowsB nd es) v) &&& (left &&& ~~~(1#64 <<< (v).toNat)))).length cp13) (listB ((at_ (rowsB nd es) v) &&& (left &&& ~~~(1#64 <<< (v).toNat)))) :: vc 3 (.slice ad9 1 1) (([v] : List Int)) :: vc 3 (.slice ad10 ((ordL done) ++ ([v] : List Int)).length cp11) ((ordL done) ++ ([v] : List Int)) :: vc 3 (.slice ad7 (List.replicate ((rowsB nd es).length) (default : Int)).length cp8) (List.set (numL (rowsB nd es).length done) (v).toNat ((((max kk dd) : Nat) : Int))) :: vc 3 (.slice ad5 (List.replicate ((rowsB nd es).length) (default : Int)).length cp6) (dgs1) :: blk b4 (cells (bks1 : List (BitVec 64))) 264 :: vc 175 (.slice ad2 (rowsB nd es).length cp3) (rowsB nd es) :: blk b1 [I64 (nd), va] 48 :: I) 10 (Dr 0 rfl (Ad rfl) (Dr 1 rfl (Ad rfl) (Dr 2 rfl (A0 (α := Int) (xs := dgs1) Ab ty3 rfl rfl Bc om oo) (Dr 3 rfl (Br (xs := dgs1) ty3 rfl Bc om oo) (Dr 4 rfl (Cg Cq ty175 rfl rfl om oo) (Dr 5 rfl (Eu (xs := bks1) ty175 rfl (Dh mm) om oo) (Dr 6 rfl (Ad rfl) (Ds1 7 (Se rfl (Am call237 rfl rfl (Bit_ok (at_ (listB ((at_ (rowsB nd es) v) &&& (left &&& ~~~(1#64 <<< (v).toNat)))) (j : Int)))) ?_)))))))))))))
      rintro _ _ ⟨_, _, ⟨rfl, rfl⟩, rfl, rfl⟩
      refine ⟨Ax, ?_⟩
      refine Dr 8 rfl (Eb (a := at_ bks1 (at_ dgs1 (at_ (listB ((at_ (rowsB nd es) v) &&& (left &&& ~~~(1#64 <<< (v).toNat)))) (j : Int)))) (b := bitB (at_ (listB ((at_ (rowsB nd es) v) &&& (left &&& ~~~(1#64 <<< (v).toNat)))) (j : Int))) rfl rfl) (Dr 9 rfl (Cg Cq ty175 rfl rfl om oo) (C4 kr ?_))
      refine Ae 10 rfl (Eff.setAU (xs := bks1) (i := at_ dgs1 (at_ (listB ((at_ (rowsB nd es) v) &&& (left &&& ~~~(1#64 <<< (v).toNat)))) (j : Int))) (n := (at_ bks1 (at_ dgs1 (at_ (listB ((at_ (rowsB nd es) v) &&& (left &&& ~~~(1#64 <<< (v).toNat)))) (j : Int)))) &&& ~~~(bitB (at_ (listB ((at_ (rowsB nd es) v) &&& (left &&& ~~~(1#64 <<< (v).toNat)))) (j : Int)))) ty175 rfl rfl rfl om oo am) ?_
      rintro _ _ ⟨rfl, rfl⟩
      refine C5 kr ?_
      refine Aj (Ap (S11 14 2 3 4 5 6 9 10 90 91 92 rfl rfl rfl rfl rfl rfl rfl rfl rfl rfl rfl) (Ah (Gm rfl (Gm rfl (Gr (A0 (α := Int) (xs := dgs1) Ab ty3 rfl rfl Bc om oo) (Gr (Br (xs := dgs1) ty3 rfl Bc om oo) (Gr (Rsu rfl rfl) (Gr (A0 (α := Int) (xs := dgs1) Ab ty3 rfl rfl Bc om oo) (Ge0 (Ct (α := Int) (xs := dgs1) (e := 3) (new := (at_ dgs1 (at_ (listB ((at_ (rowsB nd es) v) &&& (left &&& ~~~(1#64 <<< (v).toNat)))) (j : Int))) - 1) ty3 rfl rfl rfl om oo am) ?_)))))))))
      have hset2 : at_ (List.set dgs1 (at_ (listB ((at_ (rowsB nd es) v) &&& (left &&& ~~~(1#64 <<< (v).toNat)))) (j : Int)).toNat ((at_ dgs1 (at_ (listB ((at_ (rowsB nd es) v) &&& (left &&& ~~~(1#64 <<< (v).toNat)))) (j : Int))) - 1)) (at_ (listB (at_ (rowsB nd es) v &&& (left &&& ~~~(1#64 <<< (v).toNat)))) (j : Int)) = at_ dgs1 (at_ (listB (at_ (rowsB nd es) v &&& (left &&& ~~~(1#64 <<< (v).toNat)))) (j : Int)) - 1 := by rw [C3 _ _ _ _ om om om, if_pos rfl]
      refine Af (Ap (S11 14 2 3 4 5 6 9 10 90 91 92 rfl rfl rfl rfl rfl rfl rfl rfl rfl rfl rfl) (Bk mixed (Bp (vc 3 (.slice ad12 (listB ((at_ (rowsB nd es) v) &&& (left &&& ~~~(1#64 <<< (v).toNat)))).length cp13) (listB ((at_ (rowsB nd es) v) &&& (left &&& ~~~(1#64 <<< (v).toNat)))) :: vc 3 (.slice ad9 1 1) (([v] : List Int)) :: vc 3 (.slice ad10 ((ordL done) ++ ([v] : List Int)).length cp11) ((ordL done) ++ ([v] : List Int)) :: vc 3 (.slice ad7 (List.replicate ((rowsB nd es).length) (default : Int)).length cp8) (List.set (numL (rowsB nd es).length done) (v).toNat ((((max kk dd) : Nat) : Int))) :: vc 3 (.slice ad5 (List.replicate ((rowsB nd es).length) (default : Int)).length cp6) (List.set dgs1 (at_ (listB ((at_ (rowsB nd es) v) &&& (left &&& ~~~(1#64 <<< (v).toNat)))) (j : Int)).toNat ((at_ dgs1 (at_ (listB ((at_ (rowsB nd es) v) &&& (left &&& ~~~(1#64 <<< (v).toNat)))) (j : Int))) - 1)) :: blk b4 (cells (List.set bks1 (at_ dgs1 (at_ (listB ((at_ (rowsB nd es) v) &&& (left &&& ~~~(1#64 <<< (v).toNat)))) (j : Int))).toNat ((at_ bks1 (at_ dgs1 (at_ (listB ((at_ (rowsB nd es) v) &&& (left &&& ~~~(1#64 <<< (v).toNat)))) (j : Int)))) &&& ~~~(bitB (at_ (listB ((at_ (rowsB nd es) v) &&& (left &&& ~~~(1#64 <<< (v).toNat)))) (j : Int)))) : List (BitVec 64))) 264 :: vc 175 (.slice ad2 (rowsB nd es).length cp3) (rowsB nd es) :: blk b1 [I64 (nd), va] 48 :: I) 10 (Dr 0 rfl (Ad rfl) (Dr 1 rfl (Ad rfl) (Dr 2 rfl (A0 (α := Int) (xs := List.set dgs1 (at_ (listB ((at_ (rowsB nd es) v) &&& (left &&& ~~~(1#64 <<< (v).toNat)))) (j : Int)).toNat ((at_ dgs1 (at_ (listB ((at_ (rowsB nd es) v) &&& (left &&& ~~~(1#64 <<< (v).toNat)))) (j : Int))) - 1)) Ab ty3 rfl rfl Bc om oo) (Dr 3 rfl (Br (xs := List.set dgs1 (at_ (listB ((at_ (rowsB nd es) v) &&& (left &&& ~~~(1#64 <<< (v).toNat)))) (j : Int)).toNat ((at_ dgs1 (at_ (listB ((at_ (rowsB nd es) v) &&& (left &&& ~~~(1#64 <<< (v).toNat)))) (j : Int))) - 1)) ty3 rfl Bc om oo) (Dr 4 rfl (Cg Cq ty175 rfl rfl om oo) (Dr 5 rfl (Eu (xs := List.set bks1 (at_ dgs1 (at_ (listB ((at_ (rowsB nd es) v) &&& (left &&& ~~~(1#64 <<< (v).toNat)))) (j : Int))).toNat ((at_ bks1 (at_ dgs1 (at_ (listB ((at_ (rowsB nd es) v) &&& (left &&& ~~~(1#64 <<< (v).toNat)))) (j : Int)))) &&& ~~~(bitB (at_ (listB ((at_ (rowsB nd es) v) &&& (left &&& ~~~(1#64 <<< (v).toNat)))) (j : Int))))) ty175 rfl (Dh mm) om oo) (Dr 6 rfl (Ad rfl) (Ds1 7 (Se rfl (Am call237 rfl rfl (Bit_ok (at_ (listB ((at_ (rowsB nd es) v) &&& (left &&& ~~~(1#64 <<< (v).toNat)))) (j : Int)))) ?_))))))))))))
      rintro _ _ ⟨_, _, ⟨rfl, rfl⟩, rfl, rfl⟩
      refine ⟨Ax, ?_⟩
      refine Dr 8 rfl (Eq (a := at_ (List.set bks1 (at_ dgs1 (at_ (listB ((at_ (rowsB nd es) v) &&& (left &&& ~~~(1#64 <<< (v).toNat)))) (j : Int))).toNat ((at_ bks1 (at_ dgs1 (at_ (listB ((at_ (rowsB nd es) v) &&& (left &&& ~~~(1#64 <<< (v).toNat)))) (j : Int)))) &&& ~~~(bitB (at_ (listB ((at_ (rowsB nd es) v) &&& (left &&& ~~~(1#64 <<< (v).toNat)))) (j : Int))))) (at_ (List.set dgs1 (at_ (listB ((at_ (rowsB nd es) v) &&& (left &&& ~~~(1#64 <<< (v).toNat)))) (j : Int)).toNat ((at_ dgs1 (at_ (listB ((at_ (rowsB nd es) v) &&& (left &&& ~~~(1#64 <<< (v).toNat)))) (j : Int))) - 1)) (at_ (listB ((at_ (rowsB nd es) v) &&& (left &&& ~~~(1#64 <<< (v).toNat)))) (j : Int)))) (b := bitB (at_ (listB ((at_ (rowsB nd es) v) &&& (left &&& ~~~(1#64 <<< (v).toNat)))) (j : Int))) rfl rfl) (Dr 9 rfl (Cg Cq ty175 rfl rfl om oo) (C4 kr ?_))
      refine Ae 10 rfl (Eff.setAU (xs := List.set bks1 (at_ dgs1 (at_ (listB ((at_ (rowsB nd es) v) &&& (left &&& ~~~(1#64 <<< (v).toNat)))) (j : Int))).toNat ((at_ bks1 (at_ dgs1 (at_ (listB ((at_ (rowsB nd es) v) &&& (left &&& ~~~(1#64 <<< (v).toNat)))) (j : Int)))) &&& ~~~(bitB (at_ (listB ((at_ (rowsB nd es) v) &&& (left &&& ~~~(1#64 <<< (v).toNat)))) (j : Int))))) (i := at_ (List.set dgs1 (at_ (listB ((at_ (rowsB nd es) v) &&& (left &&& ~~~(1#64 <<< (v).toNat)))) (j : Int)).toNat ((at_ dgs1 (at_ (listB ((at_ (rowsB nd es) v) &&& (left &&& ~~~(1#64 <<< (v).toNat)))) (j : Int))) - 1)) (at_ (listB ((at_ (rowsB nd es) v) &&& (left &&& ~~~(1#64 <<< (v).toNat)))) (j : Int))) (n := (at_ (List.set bks1 (at_ dgs1 (at_ (listB ((at_ (rowsB nd es) v) &&& (left &&& ~~~(1#64 <<< (v).toNat)))) (j : Int))).toNat ((at_ bks1 (at_ dgs1 (at_ (listB ((at_ (rowsB nd es) v) &&& (left &&& ~~~(1#64 <<< (v).toNat)))) (j : Int)))) &&& ~~~(bitB (at_ (listB ((at_ (rowsB nd es) v) &&& (left &&& ~~~(1#64 <<< (v).toNat)))) (j : Int))))) (at_ (List.set dgs1 (at_ (listB ((at_ (rowsB nd es) v) &&& (left &&& ~~~(1#64 <<< (v).toNat)))) (j : Int)).toNat ((at_ dgs1 (at_ (listB ((at_ (rowsB nd es) v) &&& (left &&& ~~~(1#64 <<< (v).toNat)))) (j : Int))) - 1)) (at_ (listB ((at_ (rowsB nd es) v) &&& (left &&& ~~~(1#64 <<< (v).toNat)))) (j : Int)))) ||| (bitB (at_ (listB ((at_ (rowsB nd es) v) &&& (left &&& ~~~(1#64 <<< (v).toNat)))) (j : Int)))) ty175 rfl rfl rfl om oo am) ?_
      rintro _ _ ⟨rfl, rfl⟩
      refine C5 kr ?_
      exact Ai (Aj (Ap (S10 2 3 4 5 6 9 10 90 91 92 rfl rfl rfl rfl rfl rfl rfl rfl rfl rfl) (Av (Gr (Rad rfl rfl) (Gm rfl (Bh (B3 ((j + 1), (List.set dgs1 (at_ (listB ((at_ (rowsB nd es) v) &&& (left &&& ~~~(1#64 <<< (v).toNat)))) (j : Int)).toNat ((at_ dgs1 (at_ (listB ((at_ (rowsB nd es) v) &&& (left &&& ~~~(1#64 <<< (v).toNat)))) (j : Int))) - 1)), (List.set (List.set bks1 (at_ dgs1 (at_ (listB ((at_ (rowsB nd es) v) &&& (left &&& ~~~(1#64 <<< (v).toNat)))) (j : Int))).toNat ((at_ bks1 (at_ dgs1 (at_ (listB ((at_ (rowsB nd es) v) &&& (left &&& ~~~(1#64 <<< (v).toNat)))) (j : Int)))) &&& ~~~(bitB (at_ (listB ((at_ (rowsB nd es) v) &&& (left &&& ~~~(1#64 <<< (v).toNat)))) (j : Int))))) (at_ (List.set dgs1 (at_ (listB ((at_ (rowsB nd es) v) &&& (left &&& ~~~(1#64 <<< (v).toNat)))) (j : Int)).toNat ((at_ dgs1 (at_ (listB ((at_ (rowsB nd es) v) &&& (left &&& ~~~(1#64 <<< (v).toNat)))) (j : Int))) - 1)) (at_ (listB ((at_ (rowsB nd es) v) &&& (left &&& ~~~(1#64 <<< (v).toNat)))) (j : Int))).toNat ((at_ (List.set bks1 (at_ dgs1 (at_ (listB ((at_ (rowsB nd es) v) &&& (left &&& ~~~(1#64 <<< (v).toNat)))) (j : Int))).toNat ((at_ bks1 (at_ dgs1 (at_ (listB ((at_ (rowsB nd es) v) &&& (left &&& ~~~(1#64 <<< (v).toNat)))) (j : Int)))) &&& ~~~(bitB (at_ (listB ((at_ (rowsB nd es) v) &&& (left &&& ~~~(1#64 <<< (v).toNat)))) (j : Int))))) (at_ (List.set dgs1 (at_ (listB ((at_ (rowsB nd es) v) &&& (left &&& ~~~(1#64 <<< (v).toNat)))) (j : Int)).toNat ((at_ dgs1 (at_ (listB ((at_ (rowsB nd es) v) &&& (left &&& ~~~(1#64 <<< (v).toNat)))) (j : Int))) - 1)) (at_ (listB ((at_ (rowsB nd es) v) &&& (left &&& ~~~(1#64 <<< (v).toNat)))) (j : Int)))) ||| (bitB (at_ (listB ((at_ (rowsB nd es) v) &&& (left &&& ~~~(1#64 <<< (v).toNat)))) (j : Int)))))) (by dsimp only; exact ⟨om, (by have hN := hB1.lower om (w := (at_ (listB (at_ (rowsB nd es) v &&& (left &&& ~~~(1#64 <<< (v).toNat)))) (j : Int))) (e := at_ dgs1 (at_ (listB (at_ (rowsB nd es) v &&& (left &&& ~~~(1#64 <<< (v).toNat)))) (j : Int))) hwm.1 hdeg0.symm om om (dg' := degM (rowsB nd es) left (listB (at_ (rowsB nd es) v &&& (left &&& ~~~(1#64 <<< (v).toNat)))) (j + 1)) (fun u _ => degM_succ om (listB_nodup _) u); rw [hset2, bit_sh om om]; exact hN)⟩))))))))
     ·exact Bt (Ao (Ao (A5 (Aj (Bt (V.block_miss rfl (Ao (Ao (V.block_miss rfl (A5 (B3 ((done ++ [(v, max kk dd)]), ((left &&& ~~~(1#64 <<< (v).toNat))), (max kk dd), (dgs1), (bks1), (ad10), (cp11)) (by dsimp only; exact ⟨(core_step hc hTk om), (hB1.congr (fun u => Iff.rfl) (fun u hu => by have hr := hB1.rng u hu; exact (degM_all hS om om hvm hr.1 hr.2 hu om).symm)), (by have := listB_minus hvm; simp only [List.length_append, List.length_cons, List.length_nil]; omega), om⟩) (hlt := by (try dsimp only); exact (by have := listB_minus hvm; omega)) (hL := (Aa (Cy rfl (by first | rfl | (rw [ordL_snoc]) | simp)) (Aa rfl (Aa rfl (Aa rfl (Aa rfl (Aa (Cy rfl (by first | rfl | (rw [ordL_snoc]) | simp)) (Aa rfl Bj)))))))) (hI := by (try dsimp only); exact (by rw [ordL_snoc, numL_snoc]; exact B6)))))))))))))
   ·exact (hB2.some (Classical.not_not.1 (fun h => h asm)) hdg64 (fun c h1 h2 => hz c h1 om)).elim
  ·refine Bt (Ao (Ao (A5 (Aj (Ah (Gm rfl (Gm rfl (Ga rfl (Ga rfl (Af (Ay (V.jump_ret ?_))))))))))))
   have hl0 : left = 0#64 := Classical.not_not.1 c50
   have hdn : done = coreR0 nd es := by rw [← hc, hl0, coreR_zero, List.append_nil]
   subst hdn
   have hcl := coreL_len nd es
   exact Cu rfl rfl rfl (vc 3 (.slice ao (coreO nd es).length co) (coreO nd es) :: vc 3 (.slice ad7 (coreL nd es).length cp8) (coreL nd es) :: I) (by rw [hcl]; simp only [List.length_replicate]; exact B6) ⟨ao, co, ad7, cp8, by rw [hcl]; simp only [List.length_replicate]; rfl, rfl⟩
variable {κ : Ctx} {I : List Item}
theorem CNumbers_ok {nd : Int} {va : Value} {es : List Pt} (hl : Sl κ I va es) (hT : TabRd κ I 0 tzCells) :
    CallS Tryz.prog κ 104 [.agg #[I64 (nd), va]] I (fun r J => ∃ a c, r = .tuple #[.slice a (coreN nd es).length c, I64 (checkG nd es)] ∧ J = vc 3 (.slice a (coreN nd es).length c) (coreN nd es) :: I) := by
 refine Ce1 Tryz.func104 rfl rfl ?_
 refine Ah (Ge1 (Be (cs := [_, _]) rfl rfl rfl) fun b1 => Ga rfl (Ga rfl (Af (As (Ah (Gl2 ty48 ?_))))))
 refine Gc0 (Am call83 rfl rfl (CheckGen_ok (Bi hl))) ?_
 refine Ga rfl (Af (Ah (Gm rfl (Gr (Bw rfl rfl) (Af (A7 rfl (fun c10 => ?_) (fun c10 => ?_)))))))
 ·refine Ah (Gm rfl (Ga rfl (Ga rfl (Af (Ay (Ak ?_))))))
  have hX : (coreN nd es) = [] := if_pos c10
  exact Cu rfl rfl rfl (vc 3 (.slice none (coreN nd es).length 0) (coreN nd es) :: I) (by rw [hX]; exact Cj (show Fit κ _ I from Ax) (Bv (α := Int) _ _)) ⟨none, 0, by rw [hX]; rfl, rfl⟩
 ·refine A4 (Aj (Ah (Gl2 ty48 ?_)))
  refine G.e (Am call175 rfl rfl (CPeel_ok (nd := nd) (Bi hl) (checkG_ok.1 (Classical.not_not.1 c10)) (Bq hT Ax))) ?_
  rintro _ _ ⟨_, _, ⟨ad2, cp3, ad4, cp5, rfl, rfl⟩, rfl, rfl⟩
  refine Gm rfl (Gr (Az rfl rfl) (Gr (Az rfl rfl) (Ga rfl (Ga rfl (Af (Ap (S1 6 rfl) (Ah (Gm rfl (Ga rfl (Ga rfl (Af (Ay ?_))))))))))))
  have hX : (coreN nd es) = _ := if_neg c10
  have hz : checkG nd es = 0 := Classical.not_not.1 c10
  exact Cu rfl rfl rfl (vc 3 (.slice ad4 (coreN nd es).length cp5) (coreN nd es) :: I) (by rw [hX]; exact A2) ⟨ad4, cp5, by rw [hX, hz] <;> rfl, rfl⟩
theorem coreN_len (nd : Int) (es : List Pt) : (coreN nd es).length ≤ 64 := by
 unfold coreN
 split
 ·simp
 ·rw [coreL_len, rowsB_len]; omega
theorem CCore_ok {nd lv : Int} {va : Value} {es : List Pt} (hl : Sl κ I va es) (hT : TabRd κ I 0 tzCells) :
    CallS Tryz.prog κ 109 [.agg #[I64 (nd), va], I64 (lv)] I (fun r J => ∃ a c, r = .tuple #[.slice a (coreK nd es lv).length c, I64 (checkG nd es)] ∧ J = vc 3 (.slice a (coreK nd es lv).length c) (coreK nd es lv) :: I) := by
 have hnl0 := coreN_len nd es
 refine Ce2 Tryz.func109 rfl rfl ?_
 refine Ah (Ge1 (Be (cs := [_, _]) rfl rfl rfl) fun b1 => Ga rfl (Ga rfl (Af (Ah (Gl2 ty48 ?_)))))
 refine Gc2 (Am call104 rfl rfl (CNumbers_ok (nd := nd) (Bi hl) (Bq hT Ax))) fun ad2 cp3 => ?_
 refine Gm rfl (Gr (Az rfl rfl) (Gr (Az rfl rfl) (Ga rfl (Ga rfl (Af (Ah (Ga rfl (Af (As (Ah (Gm rfl (Gr (Bl Ab rfl) (Gm rfl (Af (Ap (S6 18 17 16 8 7 1 rfl rfl rfl rfl rfl rfl) (A3 (Bx (σ := Nat × (Option Addr) × Nat × (List Int)) (fun s => ([(1, I64 (lv)), (7, I64 (checkG nd es)), (8, .slice s.2.1 s.2.2.2.length s.2.2.1), (16, .slice ad2 (coreN nd es).length cp3), (17, I64 ((((coreN nd es).length : Nat) : Int))), (18, I64 (((s.1 : Nat) : Int)))] : Env)) (fun s => vc 3 (.slice s.2.1 s.2.2.2.length s.2.2.1) (s.2.2.2) :: vc 3 (.slice ad2 (coreN nd es).length cp3) (coreN nd es) :: blk b1 [I64 (nd), va] 48 :: I) (fun s => (s.1 ≤ (coreN nd es).length) ∧ (s.2.2.2 = sideL s.1 (fun v => decide (lv ≤ at_ (coreN nd es) v)))) (fun s => (coreN nd es).length - s.1) (0, none, 0, []) (show ((0 : Nat) ≤ (coreN nd es).length) ∧ (([] : List Int) = sideL (0 : Nat) (fun v => decide (lv ≤ at_ (coreN nd es) v))) from ⟨om, rfl⟩) (Aa rfl (Aa rfl (Aa (Cy rfl (by first | rfl | simp)) (Aa rfl (Aa rfl (Aa Ci Bj)))))) (show Fit κ _ (vc 3 (.slice (none) ([]).length (0)) (([])) :: vc 3 (.slice ad2 (coreN nd es).length cp3) (coreN nd es) :: blk b1 [I64 (nd), va] 48 :: I) from (Bv _ _)) ?_)))))))))))))))))
 rintro ⟨k, a, c, out⟩ hp
 dsimp only at hp ⊢
 obtain ⟨hk, ho⟩ := hp
 have hol : out.length ≤ k := by rw [ho]; exact sideL_len _ _
 have hnl := coreN_len nd es
 refine Ah (Gr (A8 rfl rfl) (Af (As (A7 rfl (fun c19 => ?_) (fun c19 => ?_)))))
 ·refine A4 (Aj (As (A3 (Ah (Gm rfl (Gr (A0 (α := Int) (xs := coreN nd es) Ab ty3 rfl rfl Bc om om) (Gr (Br (xs := coreN nd es) ty3 rfl Bc om om) (Ga rfl (Ga rfl (Af (Ah (Gm rfl (Gm rfl (Gr (Cd rfl rfl) (Af (Ap (S8 25 9 1 7 8 16 17 18 rfl rfl rfl rfl rfl rfl rfl rfl) (A7 rfl (fun c25 => ?_) (fun c25 => ?_))))))))))))))))))
  ·refine Av (Gm rfl (Gm rfl (Ge1 (B5 (α := Int) (cs := [_]) (xs := [(k : Int)]) Ab ty3 rfl rfl dc dc rfl rfl rfl rfl) fun ad4 => ?_)))
   refine Ge2 (Ce (α := Int) (e := 3) (xs := out) (ys := ([(k : Int)] : List Int)) Ab ty3 rfl rfl rfl mm Bc lcn dc rfl (fun _ _ => am)) fun ad5 cp6 => ?_
   exact Ga rfl (Bh (Ai (Aj (Av (Gr (Rad rfl rfl) (Gm rfl (Bh (B3 ((k + 1), (ad5), (cp6), (out ++ ([(k : Int)] : List Int))) (by dsimp only; exact ⟨om, (by first | (rw [sideL_yes (decide_eq_true asm), ← ho]) | (rw [sideL_no (decide_eq_false asm), ← ho]))⟩)))))))))
  ·exact A4 (Ai (Aj (Av (Gr (Rad rfl rfl) (Gm rfl (Bh (B3 ((k + 1), (a), (c), (out)) (by dsimp only; exact ⟨om, (by first | (rw [sideL_yes (decide_eq_true asm), ← ho]) | (rw [sideL_no (decide_eq_false asm), ← ho]))⟩))))))))
 ·refine Bt (Ao (Ao (A5 (Aj (Ah (Gm rfl (Gm rfl (Ga rfl (Ga rfl (Af (Ay ?_)))))))))))
  have hE : out = (coreK nd es lv) := by rw [ho, show k = (coreN nd es).length by omega]; rfl
  exact Cu rfl rfl rfl (vc 3 (.slice a (coreK nd es lv).length c) (coreK nd es lv) :: I) (by rw [← hE]; exact A2) ⟨a, c, by rw [← hE], rfl⟩
structure BothP (n : Net) (f : List Int) (side : List Bool) : Prop where
 flow : IsFlow n f
 len : (side.length : Int) = n.nodes
 great : ∃ T, Great n f T ∧ ∀ z : Int, 0 ≤ z → z < n.nodes → at_ side z = T z
set_option maxHeartbeats 1000000 in
theorem Both_ok {κ : Ctx} {I : List Item} {n : Net} {v : Value} (hl : Sl κ I v n.arcs) (hok : n.Ok) :
    CallS Tryz.prog κ 282 [.agg #[I64 (n.nodes), I64 (n.source), I64 (n.sink), v]] I (fun r J => ∃ a c f a' c' side val, r = .tuple #[.slice a f.length c, I64 val, .slice a' side.length c'] ∧ BothP n f side ∧ J = vc 4 (.slice a' side.length c') side :: vc 3 (.slice a f.length c) f :: I) := by
 have hlim := hok.lim
 have hsnk := hok.snk
 have hsrc := hok.src
 refine Ce1 Tryz.func282 rfl rfl ?_
 refine Ah (Ge1 (Be (cs := [_, _, _, _]) rfl rfl rfl) fun b1 => Ga rfl (Ga rfl (Ga rfl (Af (Ah (Gl4 ty303 ?_))))))
 refine G.e (Am call317 rfl rfl (Solved_ok (n := n) (Bi hl) hok)) ?_
 rintro _ _ ⟨_, _, ⟨b, hw, ow, lw, nw, f, hs, rs, L, nx, val, rfl, ⟨hfull, hh, hr⟩, rfl⟩, rfl, rfl⟩
 refine G.fit (J := blk b [hw, ow, lw, nw, I64 (n.sink)] 339 :: vc 336 (hw) (hs) :: vc 3 (lw) (L) :: vc 3 (nw) (nx) :: vc 22 (ow) (rs) :: blk b1 [I64 (n.nodes), I64 (n.source), I64 (n.sink), v] 303 :: (rowsI rs ++ I)) B6 ?_
 refine Gm rfl (Gr (Az rfl rfl) (Gr (Az rfl rfl) (Ga rfl (Ga rfl (Af (As (Ah (Gf fld303_3 rfl ?_))))))))
 have hff := hfull.flow.len
 have hhl := hh.len
 refine Gl ty301 ?_
 refine Gr (B0 (α := Arc) (xs := n.arcs) C8 rfl (Bi hl)) (Gm rfl (Af (Ap (S7 17 16 15 3 5 2 1 rfl rfl rfl rfl rfl rfl rfl) (A3 (Bx (σ := Nat × (Option Addr) × Nat × (List Int)) (fun s => ([(1, .pointer (some ⟨b1, 0, none⟩)), (2, .slice s.2.1 s.2.2.2.length s.2.2.1), (3, I64 (val)), (5, .pointer (some ⟨b, 0, none⟩)), (15, v), (16, I64 (((n.arcs.length : Nat) : Int))), (17, I64 (((s.1 : Nat) : Int)))] : Env)) (fun s => vc 3 (.slice s.2.1 s.2.2.2.length s.2.2.1) (s.2.2.2) :: blk b [hw, ow, lw, nw, I64 (n.sink)] 339 :: vc 336 (hw) (hs) :: vc 3 (lw) (L) :: vc 3 (nw) (nx) :: vc 22 (ow) (rs) :: blk b1 [I64 (n.nodes), I64 (n.source), I64 (n.sink), v] 303 :: (rowsI rs ++ I)) (fun s => (s.1 ≤ n.arcs.length) ∧ (s.2.2.2 = f.take s.1)) (fun s => n.arcs.length - s.1) (0, none, 0, []) (show ((0 : Nat) ≤ n.arcs.length) ∧ (([] : List Int) = f.take (0 : Nat)) from ⟨om, rfl⟩) (Aa rfl (Aa (Cy rfl (by first | rfl | simp)) (Aa rfl (Aa rfl (Aa rfl (Aa rfl (Aa Ci Bj))))))) (show Fit κ _ (vc 3 (.slice (none) ([]).length (0)) (([])) :: blk b [hw, ow, lw, nw, I64 (n.sink)] 339 :: vc 336 (hw) (hs) :: vc 3 (lw) (L) :: vc 3 (nw) (nx) :: vc 22 (ow) (rs) :: blk b1 [I64 (n.nodes), I64 (n.source), I64 (n.sink), v] 303 :: (rowsI rs ++ I)) from (Bv _ _)) ?_)))))
 rintro ⟨k, a, c, fl⟩ hp
 dsimp only at hp ⊢
 obtain ⟨hk, hfl⟩ := hp
 have hfll : fl.length = k := by rw [hfl, List.length_take]; omega
 refine Ah (Gr (A8 rfl rfl) (Af (As (A7 rfl (fun c18 => ?_) (fun c18 => ?_)))))
 ·refine A4 (Aj (As (A3 (Ah (Gm rfl (Gr (A0 (α := Arc) (xs := n.arcs) C8 ty305 rfl rfl (Bi hl) om oo) (Gr (Bs (α := Arc) (xs := n.arcs) ty305 rfl (Bi hl) om oo) (Ge1 (Ba ty305 rfl) fun b2 => Ga rfl (Ge0 (Es3_3 ty305) ?_)))))))))
  have hgt := hh.get (2 * (k : Int)) ⟨by omega, by omega⟩
  have hcap := hfull.flow.cap k om
  have hac := arc_at hok (k := k) om
  have hlv : leftH n f (2 * (k : Int)) = (at_ n.arcs (k : Int)).cap - at_ f (k : Int) := by unfold leftH; rw [if_pos om, show (2 * (k : Int)) / 2 = (k : Int) from by omega]
  have hleft : (at_ n.arcs (k : Int)).cap - (at_ hs (2 * (k : Int))).left = at_ f (k : Int) := by omega
  refine Af (Bk mixed (Bp (blk b2 [I64 ((at_ n.arcs (k : Int)).frm), I64 ((at_ n.arcs (k : Int)).dst), I64 ((at_ n.arcs (k : Int)).cap)] 305 :: blk b [hw, ow, lw, nw, I64 (n.sink)] 339 :: vc 336 (hw) (hs) :: vc 3 (lw) (L) :: vc 3 (nw) (nx) :: vc 22 (ow) (rs) :: blk b1 [I64 (n.nodes), I64 (n.source), I64 (n.sink), v] 303 :: (rowsI rs ++ I)) 16 (Dr 0 rfl (Ad rfl) (Dr 1 rfl (Ac fld305_2 rfl) (Dr 2 rfl (Au ty3) ?_)))))
  refine Dr 3 rfl (Ad rfl) (Dr 4 rfl (Bg rfl) (Dr 5 rfl (Ac fld339_0 rfl) (Dr 6 rfl (Au ty337) ?_)))
  refine Dr 7 rfl (Ad rfl) (Dr 8 rfl (Runs.mul rfl rfl (by unfold InR; omega)) (Dr 9 rfl (A0 (α := Half) (xs := hs) Cc ty336 rfl rfl Bc om oo) (Dr 10 rfl (D2 (α := Half) (xs := hs) fld336_1 rfl Bc oo) (Dr 11 rfl (Ed (α := Half) (xs := hs) (u := I64 ((at_ hs (2 * (k : Int))).left)) ty3 rfl Bc om oo rfl) (Dr 12 rfl (Rsu rfl rfl) (Ds1 13 (Se1 rfl (B5 (α := Int) (cs := [_]) (xs := [((at_ n.arcs (k : Int)).cap) - ((at_ hs (2 * (k : Int))).left)]) Ab ty3 rfl rfl dc dc rfl rfl rfl rfl) fun ad3 => ?_)))))))
  refine Ds1 14 (Se2 rfl (Ce (α := Int) (e := 3) (xs := fl) (ys := ([((at_ n.arcs (k : Int)).cap) - ((at_ hs (2 * (k : Int))).left)] : List Int)) Ab ty3 rfl rfl rfl mm Bc lcn dc rfl (fun _ _ => am)) fun ad4 cp5 => ?_)
  exact Dr 15 rfl (A9 rfl) (Dz (Ai (Aj (Ap (S7 2 1 3 5 15 16 17 rfl rfl rfl rfl rfl rfl rfl) (Av (Gr (Rad rfl rfl) (Gm rfl (Bh (B3 ((k + 1), (ad4), (cp5), (fl ++ ([((at_ n.arcs (k : Int)).cap) - ((at_ hs (2 * (k : Int))).left)] : List Int))) (by dsimp only; exact ⟨om, (by rw [hfl, Cx f k om]; congr 1; rw [hleft])⟩))))))))))
 ·refine Bt (Ao (Ao (A5 (Aj (Ah (Gm rfl ?_))))))
  have hkm : k = n.arcs.length := by omega
  have hfe : fl = f := by rw [hfl, hkm, ← hff, List.take_length]
  refine Gf fld303_2 rfl (Gl ty3 ?_)
  refine G.e (Am call318 rfl rfl (Cm (J := blk b [hw, ow, lw, nw, I64 (n.sink)] 339 :: vc 3 (.slice a fl.length c) (fl) :: vc 336 (hw) (hs) :: vc 3 (lw) (L) :: vc 3 (nw) (nx) :: vc 22 (ow) (rs) :: blk b1 [I64 (n.nodes), I64 (n.source), I64 (n.sink), v] 303 :: (rowsI rs ++ I)) B6 (Reached_ok (n := n) (rs := rs) (hs := hs) hok hh Bc hr Bc (fun i h0 h => B4 (rowsI_sl i h0 h) Ax) om))) ?_
  rintro _ _ ⟨_, _, ⟨ad6, cp7, seen8, rfl, hseen8, rfl⟩, rfl, rfl⟩
  show G Tryz.prog κ _ _ _ _ ([(41, .slice ad6 seen8.length cp7), (40, I64 (n.sink)), (39, .pointer (some ⟨b1, 2, none⟩)), (38, .pointer (some ⟨b, 0, none⟩)), (18, .bool (decide ((k : Int) < ((n.arcs.length : Nat) : Int)))), (1, .pointer (some ⟨b1, 0, none⟩)), (2, .slice a fl.length c), (3, I64 (val)), (5, .pointer (some ⟨b, 0, none⟩)), (15, v), (16, I64 (((n.arcs.length : Nat) : Int))), (17, I64 ((k : Int)))] : Env) (vc 4 (.slice ad6 seen8.length cp7) (seen8) :: blk b [hw, ow, lw, nw, I64 (n.sink)] 339 :: vc 3 (.slice a fl.length c) (fl) :: vc 336 (hw) (hs) :: vc 3 (lw) (L) :: vc 3 (nw) (nx) :: vc 22 (ow) (rs) :: blk b1 [I64 (n.nodes), I64 (n.source), I64 (n.sink), v] 303 :: (rowsI rs ++ I))
  have hlenseen8 := hseen8.len
  refine Ga rfl (Af (As (Ah (Gm rfl (Gr (Bl B9 rfl) (Gm rfl (Af (Ap (S5 44 43 4 2 3 rfl rfl rfl rfl rfl) (A3 (Bx (σ := Nat × (List Bool)) (fun s => ([(2, .slice a fl.length c), (3, I64 (val)), (4, .slice ad6 seen8.length cp7), (43, I64 (((seen8.length : Nat) : Int))), (44, I64 (((s.1 : Nat) : Int)))] : Env)) (fun s => vc 4 (.slice ad6 seen8.length cp7) (s.2) :: blk b [hw, ow, lw, nw, I64 (n.sink)] 339 :: vc 3 (.slice a fl.length c) (fl) :: vc 336 (hw) (hs) :: vc 3 (lw) (L) :: vc 3 (nw) (nx) :: vc 22 (ow) (rs) :: blk b1 [I64 (n.nodes), I64 (n.source), I64 (n.sink), v] 303 :: (rowsI rs ++ I)) (fun s => (s.1 ≤ seen8.length) ∧ (s.2.length = seen8.length) ∧ (∀ i : Nat, i < seen8.length → at_ s.2 (i : Int) = if i < s.1 then !at_ seen8 (i : Int) else at_ seen8 (i : Int))) (fun s => seen8.length - s.1) (0, seen8) (show ((0 : Nat) ≤ seen8.length) ∧ ((seen8 : List Bool).length = seen8.length) ∧ (∀ i : Nat, i < seen8.length → at_ (seen8 : List Bool) (i : Int) = if i < (0 : Nat) then !at_ seen8 (i : Int) else at_ seen8 (i : Int)) from ⟨om, rfl, (fun i h => by rw [if_neg om])⟩) (Aa rfl (Aa rfl (Aa rfl (Aa rfl (Aa Ci Bj))))) (show Fit κ _ (vc 4 (.slice ad6 seen8.length cp7) ((seen8)) :: blk b [hw, ow, lw, nw, I64 (n.sink)] 339 :: vc 3 (.slice a fl.length c) (fl) :: vc 336 (hw) (hs) :: vc 3 (lw) (L) :: vc 3 (nw) (nx) :: vc 22 (ow) (rs) :: blk b1 [I64 (n.nodes), I64 (n.source), I64 (n.sink), v] 303 :: (rowsI rs ++ I)) from A2) ?_))))))))))
  rintro ⟨k, sd⟩ hp
  dsimp only at hp ⊢
  obtain ⟨hk, hsl, hsd⟩ := hp
  refine Ah (Gr (A8 rfl rfl) (Af (As (A7 rfl (fun c45 => ?_) (fun c45 => ?_)))))
  ·refine A4 (Aj (As (A3 (Ah (Gm rfl (Ga rfl (Af (Av (Gm rfl (Gm rfl (Gm rfl (Gm rfl (Gr (A0 (α := Bool) (xs := sd) B9 ty4 rfl rfl Bc om oo) (Gr (Es (xs := sd) ty4 rfl Bc om oo) (Gr (B1 rfl) (Gr (A0 (α := Bool) (xs := sd) B9 ty4 rfl rfl Bc om oo) (Ge0 (Ct (α := Bool) (xs := sd) (e := 4) (new := !at_ sd (k : Int)) ty4 rfl rfl rfl om oo am) ?_)))))))))))))))))
   exact Bh (Ai (Aj (Ap (S5 2 3 4 43 44 rfl rfl rfl rfl rfl) (Av (Gr (Rad rfl rfl) (Gm rfl (Bh (B3 ((k + 1), (List.set sd ((k : Int)).toNat (!at_ sd (k : Int)))) (by dsimp only; exact ⟨om, (by rw [List.length_set]; exact hsl), (fun i h => by rw [C3 _ _ _ _ om om om]; by_cases e : i = k; (· subst e; rw [if_pos rfl, if_pos om, hsd i h, if_neg om]); (· rw [if_neg om, hsd i h]; by_cases h2 : i < k; (· rw [if_pos h2, if_pos om]); (· rw [if_neg h2, if_neg om])))⟩)))))))))
  ·refine Bt (Ao (Ao (A5 (Aj (Ah (Gm rfl (Gm rfl (Gm rfl (Ga rfl (Ga rfl (Ga rfl (Af (Ay ?_)))))))))))))
   subst hfe
   exact V.ret3 rfl rfl rfl rfl (vc 4 (.slice ad6 sd.length cp7) sd :: vc 3 (.slice a fl.length c) fl :: I) (by rw [hsl]; exact B6) ⟨a, c, fl, ad6, cp7, sd, val, by rw [hsl], ⟨hfull.flow, by omega, _, hseen8.great hok hfull, fun z h0 h1 => by obtain ⟨i, rfl⟩ : ∃ i : Nat, z = (i : Int) := ⟨z.toNat, om⟩; rw [hsd i om, if_pos om]⟩, rfl⟩
end Go.Sl
