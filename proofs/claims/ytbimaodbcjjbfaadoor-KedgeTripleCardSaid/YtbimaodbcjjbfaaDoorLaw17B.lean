/- A part of the proofs of statements of this seat: contracts of functions, and the plain laws that they lean on. No conditions. -/
import Derived.Test.YtbimaodbcjjbfaaDoorKed7
import Derived.Test.YtbimaodbcjjbfaaDoorLaw17A
namespace Go.Sl
open Go.Proofs
set_option linter.unusedVariables false
set_option linter.unusedSimpArgs false
set_option maxRecDepth 4000
theorem kt_valid {l : List Int} {N : Int} (h : ∀ x ∈ l, 0 ≤ x ∧ x < N) : ValidP (ofL l) N := ValidP_iff.2 ⟨fun x hx => h x ((mem_ofL l x).1 hx), ofL_asc l⟩
theorem kt_set {N src snk : Int} {l : List Int} (hv : ValidP l N) (h1 : 0 ≤ src ∧ src < N) (hne : src ≠ snk) : ValidP (ofL (minusL l [snk] ++ [src])) N ∧ src ∈ ofL (minusL l [snk] ++ [src]) ∧ snk ∉ ofL (minusL l [snk] ++ [src]) := by
  have hm : ∀ y, y ∈ ofL (minusL l [snk] ++ [src]) ↔ (y ∈ l ∧ y ≠ snk) ∨ y = src := fun y => by
    rw [mem_ofL, List.mem_append, mem_minusL]; simp
  refine ⟨kt_valid fun y hy => ?_, (hm _).2 (.inr rfl), fun h => ?_⟩
  · rcases (hm y).1 ((mem_ofL _ _).2 hy) with ⟨h, _⟩ | rfl
    · exact ValidP_mem hv h
    · exact h1
  · rcases (hm snk).1 h with ⟨_, h⟩ | h
    · exact h rfl
    · exact hne h.symm
theorem kt_minus (xs ys : List Int) : (minusL xs ys).length ≤ xs.length := by
  unfold minusL
  have h1 := List.length_filter_le (fun x => decide (x ∉ ys)) (ofL xs)
  have h2 := ofL_len xs
  omega
theorem kt_lv {nd : Int} {es : List Pt} {side : List Int} (hG : GrOk nd es) (hv : ValidP side nd) : lvEr nd es side = 0 ∧ lvR nd es side = lvE es (inL side) := by
  have hE : lvEr nd es side = 0 := by unfold lvEr; rw [if_neg (by rw [checkG_ok.2 hG]; decide), if_pos hv]
  exact ⟨hE, by unfold lvR; rw [if_neg (by rw [hE]; decide)]⟩
theorem kt_ne {l : List Int} (h : l.Nodup) {i j : Nat} (hi : i < l.length) (hj : j < l.length) (hne : i ≠ j) : at_ l (i : Int) ≠ at_ l (j : Int) := by
  rw [at_nat, at_nat, List.getD_eq_getElem?_getD, List.getD_eq_getElem?_getD, List.getElem?_eq_getElem hi, List.getElem?_eq_getElem hj]
  show l[i] ≠ l[j]
  rcases Nat.lt_or_gt_of_ne hne with h1 | h1
  · exact List.pairwise_iff_getElem.1 h i j hi hj h1
  · exact fun e => List.pairwise_iff_getElem.1 h j i hj hi h1 e.symm
theorem kt_tri1 {E : List Pt} {nd u v w a b x : Int} {s1 s2 s3 : List Int} (h1 : MinSide E nd u v s1 a) (h2 : MinSide E nd v w s2 b) (h3 : MinSide E nd w u s3 x) : (if x < b then x else b) ≤ a :=
  h1.ke.2 ((h3.ke.1 (by split <;> omega)).symm.trans (h2.ke.1 (by split <;> omega)).symm)
theorem kt_tri {E : List Pt} {nd u v w a b x : Int} {s1 s2 s3 : List Int} (h1 : MinSide E nd u v s1 a) (h2 : MinSide E nd v w s2 b) (h3 : MinSide E nd w u s3 x) : (if x < b then x else b) ≤ a ∧ (if x < a then x else a) ≤ b ∧ (if b < a then b else a) ≤ x := by
  have e1 := kt_tri1 h1 h2 h3
  have e2 := kt_tri1 h2 h3 h1
  have e3 := kt_tri1 h3 h1 h2
  refine ⟨e1, ?_, ?_⟩
  · split at e2 <;> split <;> omega
  · split at e3 <;> split <;> omega
theorem kt_deg {nd u : Int} {es : List Pt} (hG : GrOk nd es) (hu : 0 ≤ u ∧ u < nd) : lvE es (inL [u]) ≤ ((nbG nd es u).length : Int) := by
  have hr := hG.rng
  have hv : ValidP [u] nd := ValidP_iff.2 ⟨fun x hx => by rw [List.mem_singleton] at hx; rw [hx]; exact hu, by simp⟩
  have hl : listB (maskB [u]) = [u] := by
    refine intLin.uniq (listB_asc _) (by simp) fun x => ?_
    rw [mem_listB, List.mem_singleton]
    constructor
    · rintro ⟨h0, h1⟩
      have h64 : x.toNat < 64 := Classical.byContradiction fun hn => by rw [BitVec.getLsbD_of_ge _ _ (by omega)] at h1; cases h1
      rw [bit_maskB h64, List.mem_singleton] at h1; omega
    · rintro rfl
      exact ⟨hu.1, by rw [bit_maskB (by omega), List.mem_singleton]; omega⟩
  rw [← outP_eq hG hv, hl]
  have e1 : outP (rowsB nd es) (allB nd) (maskB [u]) [u] = (listB (at_ (rowsB nd es) u &&& allB nd &&& ~~~(maskB [u]))).map fun y => (⟨u, y⟩ : Pt) := by unfold outP; simp
  rw [e1, List.length_map, ← nb_eq]
  have hrl := hG.rows.len
  have e2 : rowG nd es u = at_ (rowsB nd es) u := if_neg (by rintro (h | h | h) <;> first | omega | exact h (checkG_ok.2 hG))
  rw [e2]
  unfold listB
  rw [List.length_map, List.length_map]
  have := listN_sub (a := at_ (rowsB nd es) u &&& allB nd &&& ~~~(maskB [u])) (b := at_ (rowsB nd es) u) fun i hi => by
    have h1 := (getLsb_minus.1 hi).1
    rw [BitVec.getLsbD_and, Bool.and_eq_true] at h1; exact h1.1
  omega
theorem kt_degs {nd u v a : Int} {es : List Pt} {s : List Int} (hG : GrOk nd es) (hu : 0 ≤ u ∧ u < nd) (hv : 0 ≤ v ∧ v < nd) (hne : u ≠ v) (h : MinSide es nd u v s a) : a ≤ (if ((nbG nd es v).length : Int) < ((nbG nd es u).length : Int) then ((nbG nd es v).length : Int) else ((nbG nd es u).length : Int)) := by
  have h1 := h.le (inL [u]) (decide_eq_true List.mem_cons_self) (decide_eq_false (by rw [List.mem_singleton]; exact fun e => hne e.symm))
  have h2 := h.le (fun z => !inL [v] z) (by have : inL [v] u = false := decide_eq_false (by rw [List.mem_singleton]; exact hne); simp [this]) (by have : inL [v] v = true := decide_eq_true List.mem_cons_self; simp [this])
  rw [lvE_not] at h2
  have h3 := kt_deg hG hu
  have h4 := kt_deg hG hv
  split <;> omega

set_option maxHeartbeats 4000000 in
theorem KedgeTriple_walk {κ : Ctx} {I : List Item} {la : Option Addr} {ln lc : Nat} {ls : List Int} (hl : Sl κ I (.slice la ln lc) ls) (hT : TabRd κ I 0 tzCells) :
    CallS Tryd.prog κ 7 [.slice la ln lc] I (fun r J => r = .bool true ∧ I = J) := by
 refine CallS.enter (L := [(0, .slice la ln lc)]) Tryd.func7 rfl rfl rfl rfl ?_
 refine W.sr ?_
 refine G.r (Runs.assign rfl) ?_
 refine G.nt ?_
 refine W.sr ?_
 refine G.r (Runs.move rfl) ?_
 refine G.e (Eff.call call13 rfl rfl New_ok) ?_
 rintro _ _ ⟨_, _, ⟨dk1, rfl, rfl⟩, rfl, rfl⟩
 show G Tryd.prog κ _ _ _ _ ([(27, .pointer (some ⟨dk1, 0, none⟩)), (26, .slice la ln lc), (2, .bool false), (0, .slice la ln lc)] : Env) (blk dk1 [.slice la ln lc, I64 (0)] 96 :: I)
 have hi0 : (0 : Int) ≤ 0 := Int.le_refl _
 refine G.r (Runs.assign rfl) ?_
 refine G.nt ?_
 refine W.sr ?_
 refine G.r (Runs.move rfl) ?_
 refine G.e (Eff.call call12 rfl rfl (MkGraph_at (by repeat (first | exact AtF.head _ _ | apply AtF.tail)) (fun _ => Sl.fit hl Fit.m) (by omega)  (by omega))) ?_
 rintro _ _ ⟨_, _, ⟨⟨nd2, ad3, cp4, es5, i6⟩, ⟨⟨rfl, hges5⟩, hi6⟩, rfl⟩, rfl, rfl⟩
 show G Tryd.prog κ _ _ _ _ ([(29, .agg #[I64 (nd2), .slice ad3 es5.length cp4]), (28, .pointer (some ⟨dk1, 0, none⟩)), (3, .pointer (some ⟨dk1, 0, none⟩)), (27, .pointer (some ⟨dk1, 0, none⟩)), (26, .slice la ln lc), (2, .bool false), (0, .slice la ln lc)] : Env) (vc 38 (.slice ad3 es5.length cp4) (es5) :: blk dk1 [.slice la ln lc, I64 (i6)] 96 :: I)
 have hi6 : 0 ≤ i6 := hi6
 dsimp only at hges5
 have hG := hges5.2.1
 have hel := hges5.2.2
 have hnd := hges5.1
 have hrng := hG.rng
 refine G.e (Eff.alloc ty25 rfl) ?_
 rintro _ _ ⟨b7, rfl, rfl⟩
 refine G.e (Eff.st (cs := [_, _]) (vs := [_, _]) (cs' := [_, _]) ty25) ?_
 rintro _ _ ⟨rfl, rfl⟩
 refine G.nt ?_
 refine W.seq ?_
 refine W.sr ?_
 refine G.r (Runs.fieldAddr fld25_0 rfl) ?_
 refine G.r (Runs.ld ty3) ?_
 refine G.r (Runs.lss rfl rfl) ?_
 refine G.nt ?_
 refine W.ite rfl (fun c32 => ?_) (fun c32 => ?_)
 ·refine W.sr ?_
  refine G.e (Eff.call call42 rfl rfl (Awake17_ok (TabRd.fit hT Fit.m))) ?_
  rintro _ _ ⟨_, _, ⟨rfl, rfl⟩, rfl, rfl⟩
  refine G.r (Runs.assign rfl) ?_
  refine G.nt ?_
  refine W.ret ?_
  refine V.then_ret ?_
  exact V.ret1 rfl rfl (I) Fit.m ⟨rfl, rfl⟩
 ·refine W.skip ?_
  refine V.then ?_
  refine W.sr ?_
  refine G.r (Runs.move rfl) ?_
  refine G.r (Runs.fieldAddr fld25_0 rfl) ?_
  refine G.r (Runs.ld ty3) ?_
  refine G.e (Eff.call call43 rfl rfl (Order_at (by repeat (first | exact AtF.head _ _ | apply AtF.tail)) (fun _ => Sl.fit hl Fit.m) (by omega)  (by omega))) ?_
  rintro _ _ ⟨_, _, ⟨⟨ad8, cp9, od10, i11⟩, ⟨⟨rfl, hood10⟩, hi11⟩, rfl⟩, rfl, rfl⟩
  show G Tryd.prog κ _ _ _ _ ([(37, .slice ad8 od10.length cp9), (36, I64 (nd2)), (35, .pointer (some ⟨b7, 0, none⟩)), (34, .pointer (some ⟨dk1, 0, none⟩)), (32, .bool (decide (nd2 < 3))), (31, I64 (nd2)), (30, .pointer (some ⟨b7, 0, none⟩)), (4, .pointer (some ⟨b7, 0, none⟩)), (29, .agg #[I64 (nd2), .slice ad3 es5.length cp4]), (28, .pointer (some ⟨dk1, 0, none⟩)), (3, .pointer (some ⟨dk1, 0, none⟩)), (27, .pointer (some ⟨dk1, 0, none⟩)), (26, .slice la ln lc), (2, .bool false), (0, .slice la ln lc)] : Env) (vc 3 (.slice ad8 od10.length cp9) (od10) :: blk b7 [I64 (nd2), .slice ad3 es5.length cp4] 25 :: vc 38 (.slice ad3 es5.length cp4) (es5) :: blk dk1 [.slice la ln lc, I64 (i11)] 96 :: I)
  have hi11 : 0 ≤ i11 := hi11
  dsimp only at hood10
  have holod10 := hood10.2.2
  have hu0 := hood10.2.1 (at_ od10 0) (at_mem (by omega) (by omega))
  have hu1 := hood10.2.1 (at_ od10 1) (at_mem (by omega) (by omega))
  have hu2 := hood10.2.1 (at_ od10 2) (at_mem (by omega) (by omega))
  have hne01 : at_ od10 0 ≠ at_ od10 1 := kt_ne hood10.1 (i := 0) (j := 1) (by omega) (by omega) (by decide)
  have hne12 : at_ od10 1 ≠ at_ od10 2 := kt_ne hood10.1 (i := 1) (j := 2) (by omega) (by omega) (by decide)
  have hne20 : at_ od10 2 ≠ at_ od10 0 := kt_ne hood10.1 (i := 2) (j := 0) (by omega) (by omega) (by decide)
  have hne10 : at_ od10 1 ≠ at_ od10 0 := kt_ne hood10.1 (i := 1) (j := 0) (by omega) (by omega) (by decide)
  have hE01 : lamE nd2 es5 (at_ od10 0) (at_ od10 1) = 0 := lamE_zero.2 ⟨hG, by unfold endsP; omega⟩
  have hE12 : lamE nd2 es5 (at_ od10 1) (at_ od10 2) = 0 := lamE_zero.2 ⟨hG, by unfold endsP; omega⟩
  have hE20 : lamE nd2 es5 (at_ od10 2) (at_ od10 0) = 0 := lamE_zero.2 ⟨hG, by unfold endsP; omega⟩
  have hE10 : lamE nd2 es5 (at_ od10 1) (at_ od10 0) = 0 := lamE_zero.2 ⟨hG, by unfold endsP; omega⟩
  refine G.r (Runs.assign rfl) ?_
  refine G.nt ?_
  refine W.sub (L' := [(5, _), (4, _), (3, _)]) (Sub.cons rfl (Sub.cons rfl (Sub.cons rfl Sub.nil))) ?_
  refine W.seq ?_
  refine W.drawn mixed ?_
  refine A.hold (vc 3 (.slice ad8 od10.length cp9) (od10) :: blk b7 [I64 (nd2), .slice ad3 es5.length cp4] 25 :: vc 38 (.slice ad3 es5.length cp4) (es5) :: blk dk1 [.slice la ln lc, I64 (i11)] 96 :: I) 12 ?_
  refine D.r 0 rfl (Runs.move rfl) ?_
  refine D.r 1 rfl (Runs.idx (α := Int) (xs := od10) Tryd.underlying22 ty3 rfl rfl Sl.o (by omega) (by omega)) ?_
  refine D.r 2 rfl (Runs.get (xs := od10) ty3 rfl Sl.o (by omega) (by omega)) ?_
  refine D.r 3 rfl (Runs.move rfl) ?_
  refine D.r 4 rfl (Runs.idx (α := Int) (xs := od10) Tryd.underlying22 ty3 rfl rfl Sl.o (by omega) (by omega)) ?_
  refine D.r 5 rfl (Runs.get (xs := od10) ty3 rfl Sl.o (by omega) (by omega)) ?_
  refine D.r 6 rfl (Runs.move rfl) ?_
  refine D.r 7 rfl (Runs.idx (α := Int) (xs := od10) Tryd.underlying22 ty3 rfl rfl Sl.o (by omega) (by omega)) ?_
  refine D.r 8 rfl (Runs.get (xs := od10) ty3 rfl Sl.o (by omega) (by omega)) ?_
  refine D.r 9 rfl (Runs.assign rfl) ?_
  refine D.r 10 rfl (Runs.assign rfl) ?_
  refine D.r 11 rfl (Runs.assign rfl) ?_
  refine D.done (by kernel_rfl) ?_
  refine V.then ?_
  refine W.sub (L' := [(8, _), (7, _), (6, _), (4, _), (3, _)]) (Sub.cons rfl (Sub.cons rfl (Sub.cons rfl (Sub.cons rfl (Sub.cons rfl Sub.nil))))) ?_
  refine W.sr ?_
  refine G.r (Runs.lds (vs := [_, _]) ty25) ?_
  refine G.r (Runs.move rfl) ?_
  refine G.r (Runs.move rfl) ?_
  refine G.e (Eff.call call44 rfl rfl (KLambda_ok (nd := nd2) Sl.o (at_ od10 0) (at_ od10 1) (TabRd.fit hT Fit.m))) ?_
  rintro _ _ ⟨_, _, ⟨ad12, cp13, sd14, vl15, rfl, hsd14, rfl⟩, rfl, rfl⟩
  have hms01 := hsd14.2 hE01
  refine G.r (Runs.move rfl) ?_
  refine G.r (Runs.extract rfl rfl) ?_
  refine G.r (Runs.extract rfl rfl) ?_
  refine G.r (Runs.extract rfl rfl) ?_
  refine G.e (Eff.alloc ty69 rfl) ?_
  rintro _ _ ⟨b16, rfl, rfl⟩
  refine G.r (Runs.assign rfl) ?_
  refine G.e (Eff.st (cs := [_, _]) (vs := [_, _]) (cs' := [_, _]) ty69) ?_
  rintro _ _ ⟨rfl, rfl⟩
  refine G.r (Runs.assign rfl) ?_
  refine G.nt ?_
  refine W.sub (L' := [(11, _), (9, _), (10, _), (8, _), (7, _), (6, _), (4, _), (3, _)]) (Sub.cons rfl (Sub.cons rfl (Sub.cons rfl (Sub.cons rfl (Sub.cons rfl (Sub.cons rfl (Sub.cons rfl (Sub.cons rfl Sub.nil)))))))) ?_
  refine W.sr ?_
  refine G.r (Runs.lds (vs := [_, _]) ty25) ?_
  refine G.r (Runs.move rfl) ?_
  refine G.r (Runs.move rfl) ?_
  refine G.e (Eff.call call44 rfl rfl (KLambda_ok (nd := nd2) Sl.o (at_ od10 1) (at_ od10 2) (TabRd.fit hT Fit.m))) ?_
  rintro _ _ ⟨_, _, ⟨ad17, cp18, sd19, vl20, rfl, hsd19, rfl⟩, rfl, rfl⟩
  have hms12 := hsd19.2 hE12
  refine G.r (Runs.move rfl) ?_
  refine G.r (Runs.extract rfl rfl) ?_
  refine G.r (Runs.extract rfl rfl) ?_
  refine G.r (Runs.extract rfl rfl) ?_
  refine G.e (Eff.alloc ty69 rfl) ?_
  rintro _ _ ⟨b21, rfl, rfl⟩
  refine G.r (Runs.assign rfl) ?_
  refine G.e (Eff.st (cs := [_, _]) (vs := [_, _]) (cs' := [_, _]) ty69) ?_
  rintro _ _ ⟨rfl, rfl⟩
  refine G.r (Runs.assign rfl) ?_
  refine G.nt ?_
  refine W.sub (L' := [(14, _), (12, _), (11, _), (9, _), (10, _), (8, _), (7, _), (6, _), (4, _), (3, _)]) (Sub.cons rfl (Sub.cons rfl (Sub.cons rfl (Sub.cons rfl (Sub.cons rfl (Sub.cons rfl (Sub.cons rfl (Sub.cons rfl (Sub.cons rfl (Sub.cons rfl Sub.nil)))))))))) ?_
  refine W.sr ?_
  refine G.r (Runs.lds (vs := [_, _]) ty25) ?_
  refine G.r (Runs.move rfl) ?_
  refine G.r (Runs.move rfl) ?_
  refine G.e (Eff.call call44 rfl rfl (KLambda_ok (nd := nd2) Sl.o (at_ od10 2) (at_ od10 0) (TabRd.fit hT Fit.m))) ?_
  rintro _ _ ⟨_, _, ⟨ad22, cp23, sd24, vl25, rfl, hsd24, rfl⟩, rfl, rfl⟩
  have hms20 := hsd24.2 hE20
  refine G.r (Runs.move rfl) ?_
  refine G.r (Runs.extract rfl rfl) ?_
  refine G.r (Runs.extract rfl rfl) ?_
  refine G.r (Runs.extract rfl rfl) ?_
  refine G.e (Eff.alloc ty69 rfl) ?_
  rintro _ _ ⟨b26, rfl, rfl⟩
  refine G.r (Runs.assign rfl) ?_
  refine G.e (Eff.st (cs := [_, _]) (vs := [_, _]) (cs' := [_, _]) ty69) ?_
  rintro _ _ ⟨rfl, rfl⟩
  refine G.r (Runs.assign rfl) ?_
  refine G.nt ?_
  refine W.sub (L' := [(17, _), (15, _), (14, _), (12, _), (11, _), (9, _), (10, _), (7, _), (6, _), (4, _), (3, _)]) (Sub.cons rfl (Sub.cons rfl (Sub.cons rfl (Sub.cons rfl (Sub.cons rfl (Sub.cons rfl (Sub.cons rfl (Sub.cons rfl (Sub.cons rfl (Sub.cons rfl (Sub.cons rfl Sub.nil))))))))))) ?_
  refine W.sr ?_
  refine G.r (Runs.lds (vs := [_, _]) ty25) ?_
  refine G.r (Runs.move rfl) ?_
  refine G.r (Runs.move rfl) ?_
  refine G.e (Eff.call call44 rfl rfl (KLambda_ok (nd := nd2) Sl.o (at_ od10 1) (at_ od10 0) (TabRd.fit hT Fit.m))) ?_
  rintro _ _ ⟨_, _, ⟨ad27, cp28, sd29, vl30, rfl, hsd29, rfl⟩, rfl, rfl⟩
  have hms10 := hsd29.2 hE10
  refine G.r (Runs.move rfl) ?_
  refine G.r (Runs.extract rfl rfl) ?_
  refine G.r (Runs.extract rfl rfl) ?_
  refine G.r (Runs.extract rfl rfl) ?_
  refine G.e (Eff.alloc ty69 rfl) ?_
  rintro _ _ ⟨b31, rfl, rfl⟩
  refine G.r (Runs.assign rfl) ?_
  refine G.e (Eff.st (cs := [_, _]) (vs := [_, _]) (cs' := [_, _]) ty69) ?_
  rintro _ _ ⟨rfl, rfl⟩
  refine G.r (Runs.assign rfl) ?_
  refine G.nt ?_
  refine W.sub (L' := [(20, _), (18, _), (17, _), (15, _), (14, _), (12, _), (11, _), (9, _), (10, _), (7, _), (6, _), (4, _), (3, _)]) (Sub.cons rfl (Sub.cons rfl (Sub.cons rfl (Sub.cons rfl (Sub.cons rfl (Sub.cons rfl (Sub.cons rfl (Sub.cons rfl (Sub.cons rfl (Sub.cons rfl (Sub.cons rfl (Sub.cons rfl (Sub.cons rfl Sub.nil))))))))))))) ?_
  refine W.sr ?_
  refine G.r (Runs.move rfl) ?_
  refine G.r (Runs.fieldAddr fld25_0 rfl) ?_
  refine G.r (Runs.ld ty3) ?_
  refine G.e (Eff.call call21 rfl rfl (Set_at (by repeat (first | exact AtF.head _ _ | apply AtF.tail)) (fun _ => Sl.fit hl Fit.m) (by omega) (by omega))) ?_
  rintro _ _ ⟨_, _, ⟨ad33, cp34, o35, i32, rfl, ho35, hlo35, hi32, rfl⟩, rfl, rfl⟩
  show G Tryd.prog κ _ _ _ _ ([(82, .slice ad33 o35.length cp34), (81, I64 (nd2)), (80, .pointer (some ⟨b7, 0, none⟩)), (79, .pointer (some ⟨dk1, 0, none⟩)), (20, I64 (lamE nd2 es5 (at_ od10 1) (at_ od10 0))), (18, I64 (vl30)), (17, I64 (lamE nd2 es5 (at_ od10 2) (at_ od10 0))), (15, I64 (vl25)), (14, I64 (lamE nd2 es5 (at_ od10 1) (at_ od10 2))), (12, I64 (vl20)), (11, I64 (lamE nd2 es5 (at_ od10 0) (at_ od10 1))), (9, I64 (vl15)), (10, .pointer (some ⟨b16, 0, none⟩)), (7, I64 (at_ od10 1)), (6, I64 (at_ od10 0)), (4, .pointer (some ⟨b7, 0, none⟩)), (3, .pointer (some ⟨dk1, 0, none⟩))] : Env) (vc 3 (.slice ad33 o35.length cp34) (o35) :: blk b31 [.slice ad27 sd29.length cp28, I64 (vl30)] 69 :: vc 3 (.slice ad27 sd29.length cp28) (sd29) :: blk b26 [.slice ad22 sd24.length cp23, I64 (vl25)] 69 :: vc 3 (.slice ad22 sd24.length cp23) (sd24) :: blk b21 [.slice ad17 sd19.length cp18, I64 (vl20)] 69 :: vc 3 (.slice ad17 sd19.length cp18) (sd19) :: blk b16 [.slice ad12 sd14.length cp13, I64 (vl15)] 69 :: vc 3 (.slice ad12 sd14.length cp13) (sd14) :: vc 3 (.slice ad8 od10.length cp9) (od10) :: blk b7 [I64 (nd2), .slice ad3 es5.length cp4] 25 :: vc 38 (.slice ad3 es5.length cp4) (es5) :: blk dk1 [.slice la ln lc, I64 (i32)] 96 :: I)
  refine G.r (Runs.move rfl) ?_
  refine G.e (Eff.bs (α := Int) (cs := [_]) (xs := [at_ od10 1]) Tryd.underlying22 ty3 rfl rfl (by decide) (by decide) rfl rfl rfl rfl) ?_
  rintro _ _ ⟨ad36, rfl, rfl⟩
  refine G.e (Eff.call call46 rfl rfl (Minus_ok Sl.o Sl.o (by omega))) ?_
  rintro _ _ ⟨_, _, ⟨ad37, cp38, rfl, rfl⟩, rfl, rfl⟩
  have hml := kt_minus o35 [at_ od10 1]
  refine G.r (Runs.move rfl) ?_
  refine G.e (Eff.bs (α := Int) (cs := [_]) (xs := [at_ od10 0]) Tryd.underlying22 ty3 rfl rfl (by decide) (by decide) rfl rfl rfl rfl) ?_
  rintro _ _ ⟨ad39, rfl, rfl⟩
  refine G.e (Eff.call call45 rfl rfl (Union_ok Sl.o Sl.o (by simp only [List.length_cons, List.length_nil]; omega))) ?_
  rintro _ _ ⟨_, _, ⟨ad40, cp41, rfl, rfl⟩, rfl, rfl⟩
  have hst := kt_set ho35 hu0 hne01
  have hlv := kt_lv hG hst.1
  have hSle := hms01.le (inL (ofL (minusL o35 ([at_ od10 1] : List Int) ++ ([at_ od10 0] : List Int)))) (decide_eq_true hst.2.1) (decide_eq_false hst.2.2)
  refine G.r (Runs.assign rfl) ?_
  refine G.nt ?_
  refine W.sub (L' := [(21, _), (20, _), (18, _), (17, _), (15, _), (14, _), (12, _), (11, _), (9, _), (10, _), (7, _), (6, _), (4, _)]) (Sub.cons rfl (Sub.cons rfl (Sub.cons rfl (Sub.cons rfl (Sub.cons rfl (Sub.cons rfl (Sub.cons rfl (Sub.cons rfl (Sub.cons rfl (Sub.cons rfl (Sub.cons rfl (Sub.cons rfl (Sub.cons rfl Sub.nil))))))))))))) ?_
  refine W.sr ?_
  refine G.r (Runs.lds (vs := [_, _]) ty25) ?_
  refine G.r (Runs.move rfl) ?_
  refine G.e (Eff.call call47 rfl rfl (KLeaves_ok (nd := nd2) Sl.o Sl.o (TabRd.fit hT Fit.m))) ?_
  rintro _ _ ⟨_, _, ⟨rfl, rfl⟩, rfl, rfl⟩
  refine G.r (Runs.move rfl) ?_
  refine G.r (Runs.extract rfl rfl) ?_
  refine G.r (Runs.extract rfl rfl) ?_
  refine G.r (Runs.assign rfl) ?_
  refine G.r (Runs.assign rfl) ?_
  refine G.nt ?_
  refine W.sub (L' := [(23, _), (22, _), (20, _), (18, _), (17, _), (15, _), (14, _), (12, _), (11, _), (9, _), (10, _), (7, _), (6, _), (4, _)]) (Sub.cons rfl (Sub.cons rfl (Sub.cons rfl (Sub.cons rfl (Sub.cons rfl (Sub.cons rfl (Sub.cons rfl (Sub.cons rfl (Sub.cons rfl (Sub.cons rfl (Sub.cons rfl (Sub.cons rfl (Sub.cons rfl (Sub.cons rfl Sub.nil)))))))))))))) ?_
  refine W.sr ?_
  refine G.r (Runs.lds (vs := [_, _]) ty25) ?_
  refine G.r (Runs.fieldAddr fld69_0 rfl) ?_
  refine G.r (Runs.ld ty22) ?_
  have hlc := kt_lv hG hms01.valid
  have hmq := hms01.eq
  refine G.e (Eff.call call47 rfl rfl (KLeaves_ok (nd := nd2) Sl.o Sl.o (TabRd.fit hT Fit.m))) ?_
  rintro _ _ ⟨_, _, ⟨rfl, rfl⟩, rfl, rfl⟩
  refine G.r (Runs.move rfl) ?_
  refine G.r (Runs.extract rfl rfl) ?_
  refine G.r (Runs.extract rfl rfl) ?_
  refine G.r (Runs.assign rfl) ?_
  refine G.r (Runs.assign rfl) ?_
  refine G.nt ?_
  refine W.sub (L' := [(25, _), (24, _), (23, _), (22, _), (20, _), (18, _), (17, _), (15, _), (14, _), (12, _), (11, _), (9, _), (7, _), (6, _), (4, _)]) (Sub.cons rfl (Sub.cons rfl (Sub.cons rfl (Sub.cons rfl (Sub.cons rfl (Sub.cons rfl (Sub.cons rfl (Sub.cons rfl (Sub.cons rfl (Sub.cons rfl (Sub.cons rfl (Sub.cons rfl (Sub.cons rfl (Sub.cons rfl (Sub.cons rfl Sub.nil))))))))))))))) ?_
  refine W.seq ?_
  refine W.drawn mixed ?_
  refine A.hold (vc 3 (.slice ad40 (ofL (minusL o35 ([at_ od10 1] : List Int) ++ ([at_ od10 0] : List Int))).length cp41) (ofL (minusL o35 ([at_ od10 1] : List Int) ++ ([at_ od10 0] : List Int))) :: vc 3 (.slice ad39 1 1) (([at_ od10 0] : List Int)) :: vc 3 (.slice ad37 (minusL o35 ([at_ od10 1] : List Int)).length cp38) (minusL o35 ([at_ od10 1] : List Int)) :: vc 3 (.slice ad36 1 1) (([at_ od10 1] : List Int)) :: vc 3 (.slice ad33 o35.length cp34) (o35) :: blk b31 [.slice ad27 sd29.length cp28, I64 (vl30)] 69 :: vc 3 (.slice ad27 sd29.length cp28) (sd29) :: blk b26 [.slice ad22 sd24.length cp23, I64 (vl25)] 69 :: vc 3 (.slice ad22 sd24.length cp23) (sd24) :: blk b21 [.slice ad17 sd19.length cp18, I64 (vl20)] 69 :: vc 3 (.slice ad17 sd19.length cp18) (sd19) :: blk b16 [.slice ad12 sd14.length cp13, I64 (vl15)] 69 :: vc 3 (.slice ad12 sd14.length cp13) (sd14) :: vc 3 (.slice ad8 od10.length cp9) (od10) :: blk b7 [I64 (nd2), .slice ad3 es5.length cp4] 25 :: vc 38 (.slice ad3 es5.length cp4) (es5) :: blk dk1 [.slice la ln lc, I64 (i32)] 96 :: I) 63 ?_
  refine D.r 0 rfl (Runs.move rfl) ?_
  refine D.r 1 rfl (Runs.move rfl) ?_
  refine D.r 2 rfl (Runs.add rfl rfl (by unfold InR; omega)) ?_
  refine D.r 3 rfl (Runs.move rfl) ?_
  refine D.r 4 rfl (Runs.add rfl rfl (by unfold InR; omega)) ?_
  refine D.r 5 rfl (Runs.move rfl) ?_
  refine D.r 6 rfl (Runs.add rfl rfl (by unfold InR; omega)) ?_
  refine D.r 7 rfl (Runs.move rfl) ?_
  refine D.r 8 rfl (Runs.add rfl rfl (by unfold InR; omega)) ?_
  refine D.r 9 rfl (Runs.move rfl) ?_
  refine D.r 10 rfl (Runs.add rfl rfl (by unfold InR; omega)) ?_
  refine D.r 11 rfl (Runs.eql rfl rfl) ?_
  refine D.r 12 rfl (Runs.move rfl) ?_
  refine D.split (d := 114) rfl (fun g114 => ?_) (fun g114 => ?_)
  ·refine D.ro 13 rfl (Runs.move rfl) ?_
   refine D.ro 14 rfl (Runs.move rfl) ?_
   refine D.ro 15 rfl (Runs.eql rfl rfl) ?_
   refine D.r 16 rfl (Runs.pickt rfl rfl) ?_
   refine D.r 17 rfl (Runs.move rfl) ?_
   refine D.split (d := 119) rfl (fun g119 => ?_) (fun g119 => ?_)
   ·refine D.ro 18 rfl (Runs.move rfl) ?_
    refine D.ro 19 rfl (Runs.move rfl) ?_
    refine D.ro 20 rfl (Runs.move rfl) ?_
    refine D.ro 21 rfl (Runs.min rfl rfl) ?_
    refine D.ro 22 rfl (Runs.geq rfl rfl) ?_
    refine D.r 23 rfl (Runs.pickt rfl rfl) ?_
    refine D.r 24 rfl (Runs.move rfl) ?_
    refine D.split (d := 126) rfl (fun g126 => ?_) (fun g126 => ?_)
    ·refine D.ro 25 rfl (Runs.move rfl) ?_
     refine D.ro 26 rfl (Runs.move rfl) ?_
     refine D.ro 27 rfl (Runs.move rfl) ?_
     refine D.ro 28 rfl (Runs.min rfl rfl) ?_
     refine D.ro 29 rfl (Runs.geq rfl rfl) ?_
     refine D.r 30 rfl (Runs.pickt rfl rfl) ?_
     refine D.r 31 rfl (Runs.move rfl) ?_
     refine D.split (d := 133) rfl (fun g133 => ?_) (fun g133 => ?_)
     ·refine D.ro 32 rfl (Runs.move rfl) ?_
      refine D.ro 33 rfl (Runs.move rfl) ?_
      refine D.ro 34 rfl (Runs.move rfl) ?_
      refine D.ro 35 rfl (Runs.min rfl rfl) ?_
      refine D.ro 36 rfl (Runs.geq rfl rfl) ?_
      refine D.r 37 rfl (Runs.pickt rfl rfl) ?_
      refine D.r 38 rfl (Runs.move rfl) ?_
      refine D.split (d := 140) rfl (fun g140 => ?_) (fun g140 => ?_)
      ·refine D.ro 39 rfl (Runs.move rfl) ?_
       refine D.ro 40 rfl (Runs.lds (vs := [_, _]) ty25) ?_
       refine D.ro 41 rfl (Runs.move rfl) ?_
       refine D.ro 43 rfl (Runs.lds (vs := [_, _]) ty25) ?_
       refine D.ro 44 rfl (Runs.move rfl) ?_
       refine D.step (rs := [42]) (by kernel_rfl) rfl rfl (all1 ?_)
       refine Step.eff rfl (Wanted.on rfl rfl rfl) (Eff.call call48 rfl rfl (Degree03_ok (nd := nd2) Sl.o (at_ od10 0) (by omega))) ?_
       rintro _ _ ⟨_, _, ⟨rfl, rfl⟩, rfl, rfl⟩
       refine ⟨Fit.m, ?_⟩
       refine D.step (rs := [45]) (by kernel_rfl) rfl rfl (all1 ?_)
       refine Step.eff rfl (Wanted.on rfl rfl rfl) (Eff.call call48 rfl rfl (Degree03_ok (nd := nd2) Sl.o (at_ od10 1) (by omega))) ?_
       rintro _ _ ⟨_, _, ⟨rfl, rfl⟩, rfl, rfl⟩
       refine ⟨Fit.m, ?_⟩
       refine D.ro 46 rfl (Runs.min rfl rfl) ?_
       refine D.ro 47 rfl (Runs.leq rfl rfl) ?_
       refine D.r 48 rfl (Runs.pickt rfl rfl) ?_
       refine D.r 49 rfl (Runs.move rfl) ?_
       refine D.split (d := 151) rfl (fun g151 => ?_) (fun g151 => ?_)
       ·refine D.ro 50 rfl (Runs.move rfl) ?_
        refine D.ro 51 rfl (Runs.move rfl) ?_
        refine D.ro 52 rfl (Runs.geq rfl rfl) ?_
        refine D.r 53 rfl (Runs.pickt rfl rfl) ?_
        refine D.r 54 rfl (Runs.move rfl) ?_
        refine D.split (d := 156) rfl (fun g156 => ?_) (fun g156 => ?_)
        ·refine D.ro 55 rfl (Runs.move rfl) ?_
         refine D.ro 56 rfl (Runs.move rfl) ?_
         refine D.ro 57 rfl (Runs.eql rfl rfl) ?_
         refine D.r 58 rfl (Runs.pickt rfl rfl) ?_
         refine D.r 59 rfl (Runs.move rfl) ?_
         refine D.split (d := 161) rfl (fun g161 => ?_) (fun g161 => ?_)
         ·refine D.step (rs := [60]) (by kernel_rfl) rfl rfl (all1 ?_)
          refine Step.eff rfl (Wanted.on rfl rfl rfl) (Eff.call call42 rfl rfl (Awake17_ok (TabRd.fit hT Fit.m))) ?_
          rintro _ _ ⟨_, _, ⟨rfl, rfl⟩, rfl, rfl⟩
          refine ⟨Fit.m, ?_⟩
          refine D.r 61 rfl (Runs.pickt rfl rfl) ?_
          refine D.r 62 rfl (Runs.assign rfl) ?_
          refine D.done (by kernel_rfl) ?_
          refine V.then ?_
          refine W.sub (L' := [(2, _)]) (Sub.cons rfl Sub.nil) ?_
          refine W.ret ?_
          exact V.ret1 rfl rfl (I) Fit.m ⟨rfl, rfl⟩
         ·exact absurd (by rw [hlc.2]; exact hmq) g161
        ·exact absurd (by rw [hlv.2]; exact hSle) g156
       ·exact absurd (kt_degs hG hu0 hu1 hne01 hms01) g151
      ·exact absurd (kt_tri hms01 hms12 hms20).2.2 g140
     ·exact absurd (kt_tri hms01 hms12 hms20).2.1 g133
    ·exact absurd (kt_tri hms01 hms12 hms20).1 g126
   ·exact absurd (hms01.sym hms10) g119
  ·exact absurd (by omega) g114

end Go.Sl
