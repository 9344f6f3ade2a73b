/- A part of the proofs of statements of this seat: contracts of functions, and the plain laws that they lean on. No conditions. -/
import Derived.Test.YtfkcohmipjhfcaaGreatDoorL17
set_option linter.unusedVariables false
set_option linter.unusedSimpArgs false
set_option linter.unusedSectionVars false
namespace Go.Sl
open Go.Proofs
set_option maxRecDepth 4000
theorem best_yes {sup : List Int} {gone : List Bool} {i : Nat} (h : at_ gone (i : Int) = false) (h2 : bestT sup gone i < 0 ∨ at_ sup (i : Int) < at_ sup (bestT sup gone i)) : bestT sup gone (i + 1) = (i : Int) := by
 conv => lhs; unfold bestT
 rw [if_pos ⟨h, h2⟩]
theorem best_no {sup : List Int} {gone : List Bool} {i : Nat} (h : at_ gone (i : Int) = true ∨ (¬ bestT sup gone i < 0 ∧ ¬ at_ sup (i : Int) < at_ sup (bestT sup gone i))) : bestT sup gone (i + 1) = bestT sup gone i := by
 conv => lhs; unfold bestT
 rw [if_neg]
 rintro ⟨h1, h2⟩
 rcases h with h | h
 ·rw [h] at h1; cases h1
 ·exact h2.elim h.1 h.2
theorem rows_atG {rs : List (RowG Pt)} {tri : List (List Pt)} (h : rs.map RowG.xs = tri) {i : Int} (h0 : 0 ≤ i) (h1 : i < rs.length) : (at_ rs i).xs = at_ tri i := by
 subst h
 rw [at_eq h0 h1, at_eq h0 (by rw [List.length_map]; exact h1), List.getElem_map]
theorem low_yes {gone : List Bool} {sup : List Int} {p : Pt} (h1 : at_ gone p.u = false) (h2 : at_ gone p.v = false) : lowT gone sup p = (sup.set p.u.toNat (at_ sup p.u - 1)).set p.v.toNat (at_ (sup.set p.u.toNat (at_ sup p.u - 1)) p.v - 1) := by
 unfold lowT; rw [if_pos ⟨h1, h2⟩]
theorem low_no {gone : List Bool} {sup : List Int} {p : Pt} (h : at_ gone p.u = true ∨ at_ gone p.v = true) : lowT gone sup p = sup := by
 unfold lowT; rw [if_neg]
 rintro ⟨h1, h2⟩
 rcases h with h | h
 ·rw [h] at h1; cases h1
 ·rw [h] at h2; cases h2
set_option maxHeartbeats 2000000 in
theorem TPeel_ok {κ : Ctx} {I : List Item} {nd : Int} {va : Value} {es : List Pt} (hl : Sl κ I va es) (hG : GrOk nd es) (hb : es.length ≤ 1000000) (hT : TabRd κ I 0 tzCells) :
    CallS Tryz.prog κ 222 [.agg #[I64 (nd), va]] I (fun r J => ∃ a c a' c', r = .tuple #[.slice a (trussO (trisE nd es)).length c, .slice a' (trussN (trisE nd es)).length c'] ∧ J = vc 3 (.slice a (trussO (trisE nd es)).length c) (trussO (trisE nd es)) :: vc 3 (.slice a' (trussN (trisE nd es)).length c') (trussN (trisE nd es)) :: I) := by
 have hrng := hG.rng
 have hTok := tris_ok hG
 have htes : (trisE nd es).length = es.length := List.length_map ..
 refine Ce1 Tryz.func222 rfl rfl ?_
 refine Ah (Ge1 (Be (cs := [_, _]) rfl rfl rfl) fun b1 => Ga rfl (Ga rfl (Af (Ah (Gl2 ty48 ?_)))))
 refine G.e (Am call276 rfl rfl (Triangles_ok (nd := nd) (Bi hl) hG om (Bq hT Ax))) ?_
 rintro _ _ ⟨_, _, ⟨ad2, cp3, rs4, rfl, hrs4, rfl⟩, rfl, rfl⟩
 have htl : rs4.length = (trisE nd es).length := by rw [← hrs4, List.length_map]
 refine G.fit (J := vc 65 (.slice ad2 rs4.length cp3) (rs4) :: blk b1 [I64 (nd), va] 48 :: (rgI rs4 ++ I)) (Fit.perm (List.Perm.cons _ (perm_fr (A := rgI rs4) (L := [blk b1 [I64 (nd), va] 48]) (T := I)))) ?_
 show G Tryz.prog κ _ _ _ _ ([(16, .slice ad2 rs4.length cp3), (15, .agg #[I64 (nd), va]), (3, .slice none 0 0), (2, .slice none 0 0), (1, .pointer (some ⟨b1, 0, none⟩)), (0, .agg #[I64 (nd), va])] : Env) (vc 65 (.slice ad2 rs4.length cp3) (rs4) :: blk b1 [I64 (nd), va] 48 :: (rgI rs4 ++ I))
 refine Ga rfl (Af (Ah (Gm rfl (Gr (Bl C9 rfl) (Ga rfl (Af (Ah (Gm rfl (Ge2 (Ck (α := Int) (n := rs4.length) Ab ty3 rfl rfl rfl om om dc rfl) fun ad5 cp6 => ?_)))))))))
 refine Ga rfl (Af (As (Ah (Gm rfl (Gr (Bl C9 rfl) (Gm rfl (Af (Ap (S7 23 22 21 6 5 4 2 rfl rfl rfl rfl rfl rfl rfl) (A3 (Bx (σ := Nat × (List Int)) (fun s => ([(2, .slice none 0 0), (4, .slice ad2 rs4.length cp3), (5, I64 (((rs4.length : Nat) : Int))), (6, .slice ad5 (List.replicate rs4.length (default : Int)).length cp6), (21, .slice ad2 rs4.length cp3), (22, I64 (((rs4.length : Nat) : Int))), (23, I64 (((s.1 : Nat) : Int)))] : Env)) (fun s => vc 3 (.slice ad5 (List.replicate rs4.length (default : Int)).length cp6) (s.2) :: vc 65 (.slice ad2 rs4.length cp3) (rs4) :: blk b1 [I64 (nd), va] 48 :: (rgI rs4 ++ I)) (fun s => (s.1 ≤ rs4.length) ∧ (s.2.length = rs4.length) ∧ (∀ i : Nat, i < s.1 → at_ s.2 (i : Int) = (((at_ rs4 (i : Int)).xs.length : Nat) : Int))) (fun s => rs4.length - s.1) (0, List.replicate rs4.length (default : Int)) (show ((0 : Nat) ≤ rs4.length) ∧ ((List.replicate rs4.length (default : Int) : List Int).length = rs4.length) ∧ (∀ i : Nat, i < (0 : Nat) → at_ (List.replicate rs4.length (default : Int) : List Int) (i : Int) = (((at_ rs4 (i : Int)).xs.length : Nat) : Int)) from ⟨om, List.length_replicate, (fun i h => by omega)⟩) (Aa rfl (Aa rfl (Aa rfl (Aa rfl (Aa rfl (Aa rfl (Aa (C0 rfl (by first | omega | rfl | ((try dsimp only); first | exact best_yes (by simpa using g50) (by first | exact .inl g53 | exact .inr c64) | exact (best_yes (by simpa using g50) (by first | exact .inl g53 | exact .inr c64)).symm | exact best_no (by first | (left; simpa using g50) | exact .inr ⟨g53, c64⟩) | exact (best_no (by first | (left; simpa using g50) | exact .inr ⟨g53, c64⟩)).symm))) Bj))))))) (show Fit κ _ (vc 3 (.slice ad5 (List.replicate rs4.length (default : Int)).length cp6) ((List.replicate rs4.length (default : Int))) :: vc 65 (.slice ad2 rs4.length cp3) (rs4) :: blk b1 [I64 (nd), va] 48 :: (rgI rs4 ++ I)) from A2) ?_))))))))))
 rintro ⟨k, sup⟩ hp
 dsimp only at hp ⊢
 obtain ⟨hk, hsl, hsv⟩ := hp
 refine Ah (Gr (A8 rfl rfl) (Af (As (A7 rfl (fun c24 => ?_) (fun c24 => ?_)))))
 ·refine A4 (Aj (As (A3 (Ah (Gm rfl (Gr (A0 (α := (RowG Pt)) (xs := rs4) C9 ty65 rfl rfl Bc om oo) (Gr (C2 (α := (RowG Pt)) (xs := rs4) (u := .slice (at_ rs4 (k : Int)).a (at_ rs4 (k : Int)).xs.length (at_ rs4 (k : Int)).c) ty65 rfl Bc om oo rfl) (Ga rfl (Ga rfl (Af (Av (Gm rfl (Gm rfl (Gm rfl (Gr (Bl Cz rfl) (Gr (A0 (α := Int) (xs := sup) Ab ty3 rfl rfl Bc om oo) (Ge0 (Ct (α := Int) (xs := sup) (e := 3) (new := (((at_ rs4 (k : Int)).xs.length : Nat) : Int)) ty3 rfl rfl rfl om oo am) ?_)))))))))))))))))
  exact Bh (Ai (Aj (Ap (S7 2 4 5 6 21 22 23 rfl rfl rfl rfl rfl rfl rfl) (Av (Gr (Rad rfl rfl) (Gm rfl (Bh (B3 ((k + 1), (List.set sup ((k : Int)).toNat ((((at_ rs4 (k : Int)).xs.length : Nat) : Int)))) (by dsimp only; exact ⟨om, (by rw [List.length_set]; exact hsl), (fun i h => by rw [C3 _ _ _ _ om om om]; by_cases e : i = k; (· subst e; rw [if_pos rfl]); (· rw [if_neg om]; exact hsv i om))⟩) (hL := (Aa rfl (Aa rfl (Aa rfl (Aa rfl (Aa rfl (Aa rfl (Aa (C0 rfl (by first | omega | rfl | ((try dsimp only); first | exact best_yes (by simpa using g50) (by first | exact .inl g53 | exact .inr c64) | exact (best_yes (by simpa using g50) (by first | exact .inl g53 | exact .inr c64)).symm | exact best_no (by first | (left; simpa using g50) | exact .inr ⟨g53, c64⟩) | exact (best_no (by first | (left; simpa using g50) | exact .inr ⟨g53, c64⟩)).symm))) Bj))))))))))))))))
 ·refine Bt (Ao (Ao (A5 (Aj (Ah (Gm rfl ?_))))))
  have hsup : sup = (startT (trisE nd es)).sup := by refine ext_at (by rw [hsl, htl]; exact (List.length_map ..).symm) (fun i hi => ?_); rw [hsv i om, rows_atG hrs4 om om]; show _ = at_ ((trisE nd es).map fun l => (l.length : Int)) (i : Int); rw [Dy _ _ (show i < (trisE nd es).length by omega), Dy _ _ (by rw [List.length_map]; omega), List.getElem_map]
  refine Ge2 (Ck (α := Bool) (n := rs4.length) B9 ty4 rfl rfl rfl om om dc rfl) fun ad7 cp8 => ?_
  refine Ga rfl (Af (Ah (Gm rfl (Ge2 (Ck (α := Int) (n := rs4.length) Ab ty3 rfl rfl rfl om om dc rfl) fun ad9 cp10 => ?_))))
  refine Ga rfl (Af (Ap (S6 3 9 2 4 5 6 rfl rfl rfl rfl rfl rfl) (Ah (Ga rfl (Af (As (Ah (Gm rfl (Gm rfl (Af (A3 (Bx (σ := Nat × TrS × (Option Addr) × Nat) (fun s => ([(2, .slice s.2.2.1 s.2.1.ord.length s.2.2.2), (3, .slice ad9 (List.replicate rs4.length (default : Int)).length cp10), (4, .slice ad2 rs4.length cp3), (5, I64 (((rs4.length : Nat) : Int))), (6, .slice ad5 (List.replicate rs4.length (default : Int)).length cp6), (9, .slice ad7 (List.replicate rs4.length (default : Bool)).length cp8), (10, I64 (s.2.1.k)), (38, I64 (((rs4.length : Nat) : Int))), (39, I64 (((s.1 : Nat) : Int)))] : Env)) (fun s => vc 3 (.slice s.2.2.1 s.2.1.ord.length s.2.2.2) (s.2.1.ord) :: vc 3 (.slice ad9 (List.replicate rs4.length (default : Int)).length cp10) (s.2.1.num) :: vc 4 (.slice ad7 (List.replicate rs4.length (default : Bool)).length cp8) (s.2.1.gone) :: vc 3 (.slice ad5 (List.replicate rs4.length (default : Int)).length cp6) (s.2.1.sup) :: vc 65 (.slice ad2 rs4.length cp3) (rs4) :: blk b1 [I64 (nd), va] 48 :: (rgI rs4 ++ I)) (fun s => (s.1 ≤ rs4.length) ∧ (s.2.1 = runTr (trisE nd es) s.1) ∧ (TrOk (nd.toNat - 1) (trisE nd es).length s.1 s.2.1)) (fun s => rs4.length - s.1) (0, (startT (trisE nd es)), none, 0) (show ((0 : Nat) ≤ rs4.length) ∧ (((startT (trisE nd es)) : TrS) = runTr (trisE nd es) (0 : Nat)) ∧ (TrOk (nd.toNat - 1) (trisE nd es).length (0 : Nat) ((startT (trisE nd es)) : TrS)) from ⟨om, rfl, (TrOk.start hTok)⟩) (Aa (Cy rfl (by first | rfl | simp)) (Aa rfl (Aa rfl (Aa rfl (Aa rfl (Aa rfl (Aa (C0 rfl (by first | omega | rfl | ((try dsimp only); first | exact best_yes (by simpa using g50) (by first | exact .inl g53 | exact .inr c64) | exact (best_yes (by simpa using g50) (by first | exact .inl g53 | exact .inr c64)).symm | exact best_no (by first | (left; simpa using g50) | exact .inr ⟨g53, c64⟩) | exact (best_no (by first | (left; simpa using g50) | exact .inr ⟨g53, c64⟩)).symm))) (Aa rfl (Aa (C0 rfl (by first | omega | rfl | ((try dsimp only); first | exact best_yes (by simpa using g50) (by first | exact .inl g53 | exact .inr c64) | exact (best_yes (by simpa using g50) (by first | exact .inl g53 | exact .inr c64)).symm | exact best_no (by first | (left; simpa using g50) | exact .inr ⟨g53, c64⟩) | exact (best_no (by first | (left; simpa using g50) | exact .inr ⟨g53, c64⟩)).symm))) Bj))))))))) (show Fit κ _ (vc 3 (.slice (none) ((startT (trisE nd es))).ord.length (0)) (((startT (trisE nd es))).ord) :: vc 3 (.slice ad9 (List.replicate rs4.length (default : Int)).length cp10) (((startT (trisE nd es))).num) :: vc 4 (.slice ad7 (List.replicate rs4.length (default : Bool)).length cp8) (((startT (trisE nd es))).gone) :: vc 3 (.slice ad5 (List.replicate rs4.length (default : Int)).length cp6) (((startT (trisE nd es))).sup) :: vc 65 (.slice ad2 rs4.length cp3) (rs4) :: blk b1 [I64 (nd), va] 48 :: (rgI rs4 ++ I)) from (by rw [← hsup]; exact Cj (Bv (α := Int) _ _) (by rw [htl]; exact B6))) ?_))))))))))))
  rintro ⟨j, tr, ao, co⟩ hp
  dsimp only at hp ⊢
  obtain ⟨hj, htr, hok⟩ := hp
  have hsn := hok.slen
  have hgn := hok.glen
  have hnn := hok.nlen
  have hon := hok.olen
  have hkb := hok.k
  have hmj : 2 * (((nd.toNat - 1 : Nat)) : Int) * (j : Int) ≤ 126 * (j : Int) := Int.mul_le_mul_of_nonneg_right om om
  refine Ah (Gr (A8 rfl rfl) (Af (As (A7 rfl (fun c40 => ?_) (fun c40 => ?_)))))
  ·refine A4 (Aj (As (A3 (Ah (Ga rfl (Af (As (Ah (Gm rfl (Gm rfl (Af (A3 (Bx (σ := Nat) (fun s => ([(2, .slice ao tr.ord.length co), (3, .slice ad9 (List.replicate rs4.length (default : Int)).length cp10), (4, .slice ad2 rs4.length cp3), (5, I64 (((rs4.length : Nat) : Int))), (6, .slice ad5 (List.replicate rs4.length (default : Int)).length cp6), (9, .slice ad7 (List.replicate rs4.length (default : Bool)).length cp8), (10, I64 (tr.k)), (11, I64 (bestT tr.sup tr.gone s)), (38, I64 (((rs4.length : Nat) : Int))), (39, I64 ((j : Int))), (41, I64 (((rs4.length : Nat) : Int))), (42, I64 (((s : Nat) : Int)))] : Env)) (fun s => vc 3 (.slice ao tr.ord.length co) (tr.ord) :: vc 3 (.slice ad9 (List.replicate rs4.length (default : Int)).length cp10) (tr.num) :: vc 4 (.slice ad7 (List.replicate rs4.length (default : Bool)).length cp8) (tr.gone) :: vc 3 (.slice ad5 (List.replicate rs4.length (default : Int)).length cp6) (tr.sup) :: vc 65 (.slice ad2 rs4.length cp3) (rs4) :: blk b1 [I64 (nd), va] 48 :: (rgI rs4 ++ I)) (fun s => (s ≤ rs4.length)) (fun s => rs4.length - s) (0) (show ((0 : Nat) ≤ rs4.length) from om) (Aa rfl (Aa rfl (Aa rfl (Aa rfl (Aa rfl (Aa rfl (Aa rfl (Aa (C0 rfl (by first | omega | rfl | ((try dsimp only); first | exact best_yes (by simpa using g50) (by first | exact .inl g53 | exact .inr c64) | exact (best_yes (by simpa using g50) (by first | exact .inl g53 | exact .inr c64)).symm | exact best_no (by first | (left; simpa using g50) | exact .inr ⟨g53, c64⟩) | exact (best_no (by first | (left; simpa using g50) | exact .inr ⟨g53, c64⟩)).symm))) (Aa rfl (Aa rfl (Aa rfl (Aa (C0 rfl (by first | omega | rfl | ((try dsimp only); first | exact best_yes (by simpa using g50) (by first | exact .inl g53 | exact .inr c64) | exact (best_yes (by simpa using g50) (by first | exact .inl g53 | exact .inr c64)).symm | exact best_no (by first | (left; simpa using g50) | exact .inr ⟨g53, c64⟩) | exact (best_no (by first | (left; simpa using g50) | exact .inr ⟨g53, c64⟩)).symm))) Bj)))))))))))) (show Fit κ _ (vc 3 (.slice ao tr.ord.length co) (tr.ord) :: vc 3 (.slice ad9 (List.replicate rs4.length (default : Int)).length cp10) (tr.num) :: vc 4 (.slice ad7 (List.replicate rs4.length (default : Bool)).length cp8) (tr.gone) :: vc 3 (.slice ad5 (List.replicate rs4.length (default : Int)).length cp6) (tr.sup) :: vc 65 (.slice ad2 rs4.length cp3) (rs4) :: blk b1 [I64 (nd), va] 48 :: (rgI rs4 ++ I)) from A2) ?_)))))))))))))
   rintro i2 hp
   have hi2 := hp
   have hbl := bestT_lt tr.sup tr.gone i2
   refine Ah (Gr (A8 rfl rfl) (Af (As (A7 rfl (fun c43 => ?_) (fun c43 => ?_)))))
   ·refine A4 (Aj (As (A3 (Ah (Gm rfl (Ga rfl (Af (Ap (S13 12 2 3 4 5 6 9 10 11 38 39 41 42 rfl rfl rfl rfl rfl rfl rfl rfl rfl rfl rfl rfl rfl) (As (Bk mixed (Bp (vc 3 (.slice ao tr.ord.length co) (tr.ord) :: vc 3 (.slice ad9 (List.replicate rs4.length (default : Int)).length cp10) (tr.num) :: vc 4 (.slice ad7 (List.replicate rs4.length (default : Bool)).length cp8) (tr.gone) :: vc 3 (.slice ad5 (List.replicate rs4.length (default : Int)).length cp6) (tr.sup) :: vc 65 (.slice ad2 rs4.length cp3) (rs4) :: blk b1 [I64 (nd), va] 48 :: (rgI rs4 ++ I)) 20 (Dr 0 rfl (Ad rfl) (Dr 1 rfl (Ad rfl) (Dr 2 rfl (A0 (α := Bool) (xs := tr.gone) B9 ty4 rfl rfl Bc om oo) (Dr 3 rfl (Es (xs := tr.gone) ty4 rfl Bc om oo) (Dr 4 rfl (B1 rfl) (Dr 5 rfl (Ad rfl) (D.splitb (d := 50) rfl (fun g50 => ?_) (fun g50 => ?_)))))))))))))))))))
    ·refine Dro 6 rfl (Ad rfl) (Dro 7 rfl (A8 rfl rfl) (Dro 8 rfl (Ad rfl) (Do (d := 53) rfl (fun g53 => ?_) (fun g53 => ?_))))
     ·exact Dpo 9 rfl (Dpo 10 rfl (Dpo 11 rfl (Dpo 12 rfl (Dpo 13 rfl (Dpo 14 rfl (Dpo 15 rfl (Dpo 16 rfl (Dpo 17 rfl (Dro 18 rfl (Al rfl rfl) (Dr 19 rfl (Al rfl rfl) (Dz (Aj (Ap (S14 64 12 2 3 4 5 6 9 10 11 38 39 41 42 rfl rfl rfl rfl rfl rfl rfl rfl rfl rfl rfl rfl rfl rfl) (Cn rfl (Av (Gm rfl (Ga rfl (Bh (Ai (Aj (Ap (S12 11 2 3 4 5 6 9 10 38 39 41 42 rfl rfl rfl rfl rfl rfl rfl rfl rfl rfl rfl rfl) (Av (Gr (Rad rfl rfl) (Gm rfl (Bh (B3 ((i2 + 1)) om (hL := (Aa rfl (Aa rfl (Aa rfl (Aa rfl (Aa rfl (Aa rfl (Aa rfl (Aa (C0 rfl (by first | omega | rfl | ((try dsimp only); first | exact best_yes (by simpa using g50) (by first | exact .inl g53 | exact .inr c64) | exact (best_yes (by simpa using g50) (by first | exact .inl g53 | exact .inr c64)).symm | exact best_no (by first | (left; simpa using g50) | exact .inr ⟨g53, c64⟩) | exact (best_no (by first | (left; simpa using g50) | exact .inr ⟨g53, c64⟩)).symm))) (Aa rfl (Aa rfl (Aa rfl (Aa (C0 rfl (by first | omega | rfl | ((try dsimp only); first | exact best_yes (by simpa using g50) (by first | exact .inl g53 | exact .inr c64) | exact (best_yes (by simpa using g50) (by first | exact .inl g53 | exact .inr c64)).symm | exact best_no (by first | (left; simpa using g50) | exact .inr ⟨g53, c64⟩) | exact (best_no (by first | (left; simpa using g50) | exact .inr ⟨g53, c64⟩)).symm))) Bj)))))))))))))))))))))))))))))))))))))))
     ·refine Dro 9 rfl (Ad rfl) (Dro 10 rfl (Ad rfl) (Dro 11 rfl (A0 (α := Int) (xs := tr.sup) Ab ty3 rfl rfl Bc om oo) (Dro 12 rfl (Br (xs := tr.sup) ty3 rfl Bc om oo) (Dro 13 rfl (Ad rfl) (Dro 14 rfl (Ad rfl) (Dro 15 rfl (A0 (α := Int) (xs := tr.sup) Ab ty3 rfl rfl Bc om oo) (Dro 16 rfl (Br (xs := tr.sup) ty3 rfl Bc om oo) (Dro 17 rfl (A8 rfl rfl) (Dro 18 rfl (Aq rfl rfl) (Dr 19 rfl (Al rfl rfl) (Dz (Aj (Ap (S14 64 12 2 3 4 5 6 9 10 11 38 39 41 42 rfl rfl rfl rfl rfl rfl rfl rfl rfl rfl rfl rfl rfl rfl) (A7 rfl (fun c64 => ?_) (fun c64 => ?_)))))))))))))))
      ·exact Av (Gm rfl (Ga rfl (Bh (Ai (Aj (Ap (S12 11 2 3 4 5 6 9 10 38 39 41 42 rfl rfl rfl rfl rfl rfl rfl rfl rfl rfl rfl rfl) (Av (Gr (Rad rfl rfl) (Gm rfl (Bh (B3 ((i2 + 1)) om (hL := (Aa rfl (Aa rfl (Aa rfl (Aa rfl (Aa rfl (Aa rfl (Aa rfl (Aa (C0 rfl (by first | omega | rfl | ((try dsimp only); first | exact best_yes (by simpa using g50) (by first | exact .inl g53 | exact .inr c64) | exact (best_yes (by simpa using g50) (by first | exact .inl g53 | exact .inr c64)).symm | exact best_no (by first | (left; simpa using g50) | exact .inr ⟨g53, c64⟩) | exact (best_no (by first | (left; simpa using g50) | exact .inr ⟨g53, c64⟩)).symm))) (Aa rfl (Aa rfl (Aa rfl (Aa (C0 rfl (by first | omega | rfl | ((try dsimp only); first | exact best_yes (by simpa using g50) (by first | exact .inl g53 | exact .inr c64) | exact (best_yes (by simpa using g50) (by first | exact .inl g53 | exact .inr c64)).symm | exact best_no (by first | (left; simpa using g50) | exact .inr ⟨g53, c64⟩) | exact (best_no (by first | (left; simpa using g50) | exact .inr ⟨g53, c64⟩)).symm))) Bj))))))))))))))))))))))))
      ·exact A4 (Ai (Aj (Ap (S12 2 3 4 5 6 9 10 11 38 39 41 42 rfl rfl rfl rfl rfl rfl rfl rfl rfl rfl rfl rfl) (Av (Gr (Rad rfl rfl) (Gm rfl (Bh (B3 ((i2 + 1)) om (hL := (Aa rfl (Aa rfl (Aa rfl (Aa rfl (Aa rfl (Aa rfl (Aa rfl (Aa (C0 rfl (by first | omega | rfl | ((try dsimp only); first | exact best_yes (by simpa using g50) (by first | exact .inl g53 | exact .inr c64) | exact (best_yes (by simpa using g50) (by first | exact .inl g53 | exact .inr c64)).symm | exact best_no (by first | (left; simpa using g50) | exact .inr ⟨g53, c64⟩) | exact (best_no (by first | (left; simpa using g50) | exact .inr ⟨g53, c64⟩)).symm))) (Aa rfl (Aa rfl (Aa rfl (Aa (C0 rfl (by first | omega | rfl | ((try dsimp only); first | exact best_yes (by simpa using g50) (by first | exact .inl g53 | exact .inr c64) | exact (best_yes (by simpa using g50) (by first | exact .inl g53 | exact .inr c64)).symm | exact best_no (by first | (left; simpa using g50) | exact .inr ⟨g53, c64⟩) | exact (best_no (by first | (left; simpa using g50) | exact .inr ⟨g53, c64⟩)).symm))) Bj)))))))))))))))))))))
    ·exact Dpo 6 rfl (Dpo 7 rfl (Dpo 8 rfl (Dpu 9 rfl (Dpu 10 rfl (Dpu 11 rfl (Dpu 12 rfl (Dpu 13 rfl (Dpu 14 rfl (Dpu 15 rfl (Dpu 16 rfl (Dpu 17 rfl (Dpo 18 rfl (Dr 19 rfl (Aq rfl rfl) (Dz (Aj (Ap (S14 64 12 2 3 4 5 6 9 10 11 38 39 41 42 rfl rfl rfl rfl rfl rfl rfl rfl rfl rfl rfl rfl rfl rfl) (Dj rfl (A4 (Ai (Aj (Ap (S12 2 3 4 5 6 9 10 11 38 39 41 42 rfl rfl rfl rfl rfl rfl rfl rfl rfl rfl rfl rfl) (Av (Gr (Rad rfl rfl) (Gm rfl (Bh (B3 ((i2 + 1)) om (hL := (Aa rfl (Aa rfl (Aa rfl (Aa rfl (Aa rfl (Aa rfl (Aa rfl (Aa (C0 rfl (by first | omega | rfl | ((try dsimp only); first | exact best_yes (by simpa using g50) (by first | exact .inl g53 | exact .inr c64) | exact (best_yes (by simpa using g50) (by first | exact .inl g53 | exact .inr c64)).symm | exact best_no (by first | (left; simpa using g50) | exact .inr ⟨g53, c64⟩) | exact (best_no (by first | (left; simpa using g50) | exact .inr ⟨g53, c64⟩)).symm))) (Aa rfl (Aa rfl (Aa rfl (Aa (C0 rfl (by first | omega | rfl | ((try dsimp only); first | exact best_yes (by simpa using g50) (by first | exact .inl g53 | exact .inr c64) | exact (best_yes (by simpa using g50) (by first | exact .inl g53 | exact .inr c64)).symm | exact best_no (by first | (left; simpa using g50) | exact .inr ⟨g53, c64⟩) | exact (best_no (by first | (left; simpa using g50) | exact .inr ⟨g53, c64⟩)).symm))) Bj)))))))))))))))))))))))))))))))))))))))
   ·refine Bt (Ao (Ao (A5 (Aj (Ah (Gm rfl ?_))))))
    obtain ⟨b, hbI⟩ : ∃ b, bestT tr.sup tr.gone i2 = b := ⟨_, rfl⟩
    have hbE : bestT tr.sup tr.gone (trisE nd es).length = b := by rw [← hbI, show i2 = (trisE nd es).length by omega]
    have hb0 := hok.best om
    rw [hbE] at hb0
    rw [hbI]
    have hsb := hok.sup _ (Ch (xs := tr.sup) (i := b) hb0.1 om)
    refine Gm rfl (Gm rfl (Gr (A0 (α := Int) (xs := tr.sup) Ab ty3 rfl rfl Bc om oo) (Gr (Br (xs := tr.sup) ty3 rfl Bc om oo) (Gr (Dq rfl rfl) ?_))))
    have hmx : (if tr.k < (at_ tr.sup b) then (at_ tr.sup b) else tr.k) = (max tr.k (at_ tr.sup b)) := by split <;> omega
    rw [hmx]
    refine Ga rfl (Af (Ap (S10 10 2 3 4 5 6 9 11 38 39 rfl rfl rfl rfl rfl rfl rfl rfl rfl rfl) (Ah (Gm rfl (Gm rfl (Gm rfl (Gm rfl (Gm rfl (Gr (A0 (α := Int) (xs := tr.num) Ab ty3 rfl rfl Bc om oo) (Ge0 (Ct (α := Int) (xs := tr.num) (e := 3) (new := (max tr.k (at_ tr.sup b))) ty3 rfl rfl rfl om oo am) ?_))))))))))
    refine Gr (A0 (α := Bool) (xs := tr.gone) B9 ty4 rfl rfl Bc om oo) (Ge0 (Ct (α := Bool) (xs := tr.gone) (e := 4) (new := true) ty4 rfl rfl rfl om oo am) ?_)
    refine Af (Ap (S10 10 2 3 4 5 6 9 11 38 39 rfl rfl rfl rfl rfl rfl rfl rfl rfl rfl) (Ah (Gm rfl (Gm rfl (Ge1 (B5 (α := Int) (cs := [_]) (xs := [b]) Ab ty3 rfl rfl dc dc rfl rfl rfl rfl) fun ad11 => ?_)))))
    refine Ge2 (Ce (α := Int) (e := 3) (xs := tr.ord) (ys := ([b] : List Int)) Ab ty3 rfl rfl rfl mm Bc lcn dc rfl (fun _ _ => am)) fun ad12 cp13 => ?_
    refine Ga rfl (Af (Ap (S10 2 10 3 4 5 6 9 11 38 39 rfl rfl rfl rfl rfl rfl rfl rfl rfl rfl) (Ah (Gm rfl (Gm rfl (Gr (A0 (α := (RowG Pt)) (xs := rs4) C9 ty65 rfl rfl Bc om oo) (Gr (C2 (α := (RowG Pt)) (xs := rs4) (u := .slice (at_ rs4 b).a (at_ rs4 b).xs.length (at_ rs4 b).c) ty65 rfl Bc om oo rfl) (Gr (Bl Cz rfl) (Gm rfl (Af (Ap (S12 89 88 87 2 10 3 4 5 6 9 38 39 rfl rfl rfl rfl rfl rfl rfl rfl rfl rfl rfl rfl) (A3 (Bx (σ := Nat × (List Int)) (fun s => ([(2, .slice ad12 (tr.ord ++ ([b] : List Int)).length cp13), (3, .slice ad9 (List.replicate rs4.length (default : Int)).length cp10), (4, .slice ad2 rs4.length cp3), (5, I64 (((rs4.length : Nat) : Int))), (6, .slice ad5 (List.replicate rs4.length (default : Int)).length cp6), (9, .slice ad7 (List.replicate rs4.length (default : Bool)).length cp8), (10, I64 ((max tr.k (at_ tr.sup b)))), (38, I64 (((rs4.length : Nat) : Int))), (39, I64 (((j : Nat) : Int))), (87, .slice (at_ rs4 b).a (at_ rs4 b).xs.length (at_ rs4 b).c), (88, I64 ((((at_ rs4 b).xs.length : Nat) : Int))), (89, I64 (((s.1 : Nat) : Int)))] : Env)) (fun s => vc 3 (.slice ad11 1 1) (([b] : List Int)) :: vc 3 (.slice ad12 (tr.ord ++ ([b] : List Int)).length cp13) (tr.ord ++ ([b] : List Int)) :: vc 3 (.slice ad9 (List.replicate rs4.length (default : Int)).length cp10) (List.set tr.num (b).toNat ((max tr.k (at_ tr.sup b)))) :: vc 4 (.slice ad7 (List.replicate rs4.length (default : Bool)).length cp8) (List.set tr.gone (b).toNat (true)) :: vc 3 (.slice ad5 (List.replicate rs4.length (default : Int)).length cp6) (s.2) :: vc 65 (.slice ad2 rs4.length cp3) (rs4) :: blk b1 [I64 (nd), va] 48 :: (rgI rs4 ++ I)) (fun s => (s.1 ≤ (at_ rs4 b).xs.length) ∧ (s.2 = ((at_ rs4 b).xs.take s.1).foldl (lowT (List.set tr.gone (b).toNat (true))) tr.sup) ∧ (s.2.length = (trisE nd es).length) ∧ (∀ x ∈ s.2, -(126 * ((j : Nat) : Int)) - 2 * ((s.1 : Nat) : Int) ≤ x ∧ x ≤ 64)) (fun s => (at_ rs4 b).xs.length - s.1) (0, tr.sup) (show ((0 : Nat) ≤ (at_ rs4 b).xs.length) ∧ ((tr.sup : List Int) = ((at_ rs4 b).xs.take (0 : Nat)).foldl (lowT (List.set tr.gone (b).toNat (true))) tr.sup) ∧ ((tr.sup : List Int).length = (trisE nd es).length) ∧ (∀ x ∈ (tr.sup : List Int), -(126 * ((j : Nat) : Int)) - 2 * (((0 : Nat) : Nat) : Int) ≤ x ∧ x ≤ 64) from ⟨om, rfl, hsn, (fun x hx => by have := hok.sup x hx; omega)⟩) (Aa rfl (Aa rfl (Aa rfl (Aa rfl (Aa rfl (Aa rfl (Aa rfl (Aa rfl (Aa rfl (Aa rfl (Aa rfl (Aa (C0 rfl (by first | omega | rfl | ((try dsimp only); first | exact best_yes (by simpa using g50) (by first | exact .inl g53 | exact .inr c64) | exact (best_yes (by simpa using g50) (by first | exact .inl g53 | exact .inr c64)).symm | exact best_no (by first | (left; simpa using g50) | exact .inr ⟨g53, c64⟩) | exact (best_no (by first | (left; simpa using g50) | exact .inr ⟨g53, c64⟩)).symm))) Bj)))))))))))) (show Fit κ _ (vc 3 (.slice ad11 1 1) (([b] : List Int)) :: vc 3 (.slice ad12 (tr.ord ++ ([b] : List Int)).length cp13) (tr.ord ++ ([b] : List Int)) :: vc 3 (.slice ad9 (List.replicate rs4.length (default : Int)).length cp10) (List.set tr.num (b).toNat ((max tr.k (at_ tr.sup b)))) :: vc 4 (.slice ad7 (List.replicate rs4.length (default : Bool)).length cp8) (List.set tr.gone (b).toNat (true)) :: vc 3 (.slice ad5 (List.replicate rs4.length (default : Int)).length cp6) ((tr.sup)) :: vc 65 (.slice ad2 rs4.length cp3) (rs4) :: blk b1 [I64 (nd), va] 48 :: (rgI rs4 ++ I)) from A2) ?_)))))))))))))
    rintro ⟨q, sup1⟩ hp
    dsimp only at hp ⊢
    obtain ⟨hq, hs1, hs1l, hsr⟩ := hp
    have hrb : (at_ rs4 b).xs ∈ (trisE nd es) := by rw [rows_atG hrs4 hb0.1 om]; exact Ch hb0.1 hb0.2.1
    have hrl := hTok.len _ hrb
    have hgl2 : (List.set tr.gone (b).toNat (true)).length = (trisE nd es).length := by rw [List.length_set]; exact hgn
    have hpr : q < (at_ rs4 b).xs.length → 0 ≤ (at_ (at_ rs4 b).xs (q : Int)).u ∧ (at_ (at_ rs4 b).xs (q : Int)).u < (trisE nd es).length ∧ 0 ≤ (at_ (at_ rs4 b).xs (q : Int)).v ∧ (at_ (at_ rs4 b).xs (q : Int)).v < (trisE nd es).length := fun h => hTok.rng _ hrb _ (Ch om om)
    refine Ah (Gr (A8 rfl rfl) (Af (As (A7 rfl (fun c90 => ?_) (fun c90 => ?_)))))
    ·refine A4 (Aj (As (A3 (Ah (Gr (A0 (α := Pt) (xs := (at_ rs4 b).xs) Cz ty64 rfl rfl (El (by repeat (first | exact rgI_mem (rs := rs4) (i := b) om om | apply List.mem_cons_of_mem))) om oo) (Gr (Bs (α := Pt) (xs := (at_ rs4 b).xs) ty64 rfl (El (by repeat (first | exact rgI_mem (rs := rs4) (i := b) om om | apply List.mem_cons_of_mem))) om oo) ?_))))))
     have hpq := hpr om
     have hqu := hsr _ (Ch (xs := sup1) (i := (at_ (at_ rs4 b).xs (q : Int)).u) om om)
     refine Ge1 (Ba ty64 rfl) fun b14 => Ge0 (Co ty64) ?_
     refine Af (Ap (S13 14 2 3 4 5 6 9 10 38 39 87 88 89 rfl rfl rfl rfl rfl rfl rfl rfl rfl rfl rfl rfl rfl) (Ah (Gm rfl (Gr (Cg B8 ty2 rfl rfl om om) (Gl ty3 ?_)))))
     refine Gr (A0 (α := Bool) (xs := List.set tr.gone (b).toNat (true)) B9 ty4 rfl rfl Bc om oo) (Gr (Es (xs := List.set tr.gone (b).toNat (true)) ty4 rfl Bc om oo) (Gr (B1 rfl) (Gm rfl (Ds (d := 99) rfl (fun g99 => ?_) (fun g99 => ?_)))))
     ·refine Gro (Ad rfl) (Gro (Cg B8 ty2 rfl rfl om om) (Gro (Au ty3) ?_))
      refine Gro (A0 (α := Bool) (xs := List.set tr.gone (b).toNat (true)) B9 ty4 rfl rfl Bc om oo) (Gro (Es (xs := List.set tr.gone (b).toNat (true)) ty4 rfl Bc om oo) (Gro (B1 rfl) (Gr (Al rfl rfl) (Af (Ap (S14 106 14 2 3 4 5 6 9 10 38 39 87 88 89 rfl rfl rfl rfl rfl rfl rfl rfl rfl rfl rfl rfl rfl rfl) (W.cond rfl (fun c106 => ?_) (fun c106 => ?_)))))))
      ·refine Ah (Gm rfl (Gr (Cg B8 ty2 rfl rfl om om) (Gl ty3 ?_)))
       refine Gr (A0 (α := Int) (xs := sup1) Ab ty3 rfl rfl Bc om oo) (Gr (Br (xs := sup1) ty3 rfl Bc om oo) (Gr (Rsu rfl rfl) (Gr (A0 (α := Int) (xs := sup1) Ab ty3 rfl rfl Bc om oo) (Ge0 (Ct (α := Int) (xs := sup1) (e := 3) (new := (at_ sup1 ((at_ ((at_ rs4 b).xs) (q : Int)).u)) - 1) ty3 rfl rfl rfl om oo am) ?_))))
       have hqv : -(126 * (j : Int)) - 2 * (q : Int) - 1 ≤ at_ (List.set sup1 ((at_ ((at_ rs4 b).xs) (q : Int)).u).toNat ((at_ sup1 ((at_ ((at_ rs4 b).xs) (q : Int)).u)) - 1)) (at_ (at_ rs4 b).xs (q : Int)).v ∧ at_ (List.set sup1 ((at_ ((at_ rs4 b).xs) (q : Int)).u).toNat ((at_ sup1 ((at_ ((at_ rs4 b).xs) (q : Int)).u)) - 1)) (at_ (at_ rs4 b).xs (q : Int)).v ≤ 64 := by rw [C3 _ _ _ _ om om om]; have := hsr _ (Ch (xs := sup1) (i := (at_ (at_ rs4 b).xs (q : Int)).v) om om); split <;> omega
       refine Af (Ap (S13 14 2 3 4 5 6 9 10 38 39 87 88 89 rfl rfl rfl rfl rfl rfl rfl rfl rfl rfl rfl rfl rfl) (Av (Gm rfl (Gr (Cg B8 ty2 rfl rfl om om) (Gl ty3 ?_)))))
       refine Gr (A0 (α := Int) (xs := List.set sup1 ((at_ ((at_ rs4 b).xs) (q : Int)).u).toNat ((at_ sup1 ((at_ ((at_ rs4 b).xs) (q : Int)).u)) - 1)) Ab ty3 rfl rfl Bc om oo) (Gr (Br (xs := List.set sup1 ((at_ ((at_ rs4 b).xs) (q : Int)).u).toNat ((at_ sup1 ((at_ ((at_ rs4 b).xs) (q : Int)).u)) - 1)) ty3 rfl Bc om oo) (Gr (Rsu rfl rfl) (Gr (A0 (α := Int) (xs := List.set sup1 ((at_ ((at_ rs4 b).xs) (q : Int)).u).toNat ((at_ sup1 ((at_ ((at_ rs4 b).xs) (q : Int)).u)) - 1)) Ab ty3 rfl rfl Bc om oo) (Ge0 (Ct (α := Int) (xs := List.set sup1 ((at_ ((at_ rs4 b).xs) (q : Int)).u).toNat ((at_ sup1 ((at_ ((at_ rs4 b).xs) (q : Int)).u)) - 1)) (e := 3) (new := (at_ (List.set sup1 ((at_ ((at_ rs4 b).xs) (q : Int)).u).toNat ((at_ sup1 ((at_ ((at_ rs4 b).xs) (q : Int)).u)) - 1)) ((at_ ((at_ rs4 b).xs) (q : Int)).v)) - 1) ty3 rfl rfl rfl om oo am) ?_))))
       refine Bh (Ai (Aj (Ap (S12 2 3 4 5 6 9 10 38 39 87 88 89 rfl rfl rfl rfl rfl rfl rfl rfl rfl rfl rfl rfl) (Av (Gr (Rad rfl rfl) (Gm rfl (Bh ?_)))))))
       have hlow : ((at_ rs4 b).xs.take (q + 1)).foldl (lowT (List.set tr.gone (b).toNat (true))) tr.sup = lowT (List.set tr.gone (b).toNat (true)) sup1 (at_ (at_ rs4 b).xs (q : Int)) := by rw [Cx _ q om, List.foldl_append, ← hs1]; rfl
       have hlr := lowT_rng (gone := (List.set tr.gone (b).toNat (true))) (p := (at_ (at_ rs4 b).xs (q : Int))) (by have := hpr om; omega) hsr
       have hll := lowT_len (List.set tr.gone (b).toNat (true)) sup1 (at_ (at_ rs4 b).xs (q : Int))
       exact B3 ((q + 1), (List.set (List.set sup1 ((at_ ((at_ rs4 b).xs) (q : Int)).u).toNat ((at_ sup1 ((at_ ((at_ rs4 b).xs) (q : Int)).u)) - 1)) ((at_ ((at_ rs4 b).xs) (q : Int)).v).toNat ((at_ (List.set sup1 ((at_ ((at_ rs4 b).xs) (q : Int)).u).toNat ((at_ sup1 ((at_ ((at_ rs4 b).xs) (q : Int)).u)) - 1)) ((at_ ((at_ rs4 b).xs) (q : Int)).v)) - 1))) (by dsimp only; exact ⟨om, (by rw [hlow]; first | exact (low_yes (by simpa using g99) (by simpa using c106)).symm | exact (low_no (by first | (left; simpa using g99) | (right; simpa using c106))).symm), (by first | exact hs1l | (simp only [List.length_set]; exact hs1l)), (by first | (rw [low_yes (by simpa using g99) (by simpa using c106)] at hlr; exact fun x hx => by have := hlr x hx; push_cast; omega) | (rw [low_no (by first | (left; simpa using g99) | (right; simpa using c106))] at hlr; exact fun x hx => by have := hlr x hx; push_cast; omega))⟩) (hL := (Aa rfl (Aa rfl (Aa rfl (Aa rfl (Aa rfl (Aa rfl (Aa rfl (Aa rfl (Aa rfl (Aa rfl (Aa rfl (Aa (C0 rfl (by first | omega | rfl | ((try dsimp only); first | exact best_yes (by simpa using g50) (by first | exact .inl g53 | exact .inr c64) | exact (best_yes (by simpa using g50) (by first | exact .inl g53 | exact .inr c64)).symm | exact best_no (by first | (left; simpa using g50) | exact .inr ⟨g53, c64⟩) | exact (best_no (by first | (left; simpa using g50) | exact .inr ⟨g53, c64⟩)).symm))) Bj)))))))))))))
      ·refine A4 (Ai (Aj (Ap (S12 2 3 4 5 6 9 10 38 39 87 88 89 rfl rfl rfl rfl rfl rfl rfl rfl rfl rfl rfl rfl) (Av (Gr (Rad rfl rfl) (Gm rfl (Bh ?_)))))))
       have hlow : ((at_ rs4 b).xs.take (q + 1)).foldl (lowT (List.set tr.gone (b).toNat (true))) tr.sup = lowT (List.set tr.gone (b).toNat (true)) sup1 (at_ (at_ rs4 b).xs (q : Int)) := by rw [Cx _ q om, List.foldl_append, ← hs1]; rfl
       have hlr := lowT_rng (gone := (List.set tr.gone (b).toNat (true))) (p := (at_ (at_ rs4 b).xs (q : Int))) (by have := hpr om; omega) hsr
       have hll := lowT_len (List.set tr.gone (b).toNat (true)) sup1 (at_ (at_ rs4 b).xs (q : Int))
       exact B3 ((q + 1), (sup1)) (by dsimp only; exact ⟨om, (by rw [hlow]; first | exact (low_yes (by simpa using g99) (by simpa using c106)).symm | exact (low_no (by first | (left; simpa using g99) | (right; simpa using c106))).symm), (by first | exact hs1l | (simp only [List.length_set]; exact hs1l)), (by first | (rw [low_yes (by simpa using g99) (by simpa using c106)] at hlr; exact fun x hx => by have := hlr x hx; push_cast; omega) | (rw [low_no (by first | (left; simpa using g99) | (right; simpa using c106))] at hlr; exact fun x hx => by have := hlr x hx; push_cast; omega))⟩) (hL := (Aa rfl (Aa rfl (Aa rfl (Aa rfl (Aa rfl (Aa rfl (Aa rfl (Aa rfl (Aa rfl (Aa rfl (Aa rfl (Aa (C0 rfl (by first | omega | rfl | ((try dsimp only); first | exact best_yes (by simpa using g50) (by first | exact .inl g53 | exact .inr c64) | exact (best_yes (by simpa using g50) (by first | exact .inl g53 | exact .inr c64)).symm | exact best_no (by first | (left; simpa using g50) | exact .inr ⟨g53, c64⟩) | exact (best_no (by first | (left; simpa using g50) | exact .inr ⟨g53, c64⟩)).symm))) Bj)))))))))))))
     ·refine Gpo (Gpo (Gpo (Gpo (Gpo (Gpo (Gr (Aq rfl rfl) (Af (Ap (S14 106 14 2 3 4 5 6 9 10 38 39 87 88 89 rfl rfl rfl rfl rfl rfl rfl rfl rfl rfl rfl rfl rfl rfl) (Dj rfl (A4 (Ai (Aj (Ap (S12 2 3 4 5 6 9 10 38 39 87 88 89 rfl rfl rfl rfl rfl rfl rfl rfl rfl rfl rfl rfl) (Av (Gr (Rad rfl rfl) (Gm rfl (Bh ?_)))))))))))))))))
      have hlow : ((at_ rs4 b).xs.take (q + 1)).foldl (lowT (List.set tr.gone (b).toNat (true))) tr.sup = lowT (List.set tr.gone (b).toNat (true)) sup1 (at_ (at_ rs4 b).xs (q : Int)) := by rw [Cx _ q om, List.foldl_append, ← hs1]; rfl
      have hlr := lowT_rng (gone := (List.set tr.gone (b).toNat (true))) (p := (at_ (at_ rs4 b).xs (q : Int))) (by have := hpr om; omega) hsr
      have hll := lowT_len (List.set tr.gone (b).toNat (true)) sup1 (at_ (at_ rs4 b).xs (q : Int))
      exact B3 ((q + 1), (sup1)) (by dsimp only; exact ⟨om, (by rw [hlow]; first | exact (low_yes (by simpa using g99) (by simpa using c106)).symm | exact (low_no (by first | (left; simpa using g99) | (right; simpa using c106))).symm), (by first | exact hs1l | (simp only [List.length_set]; exact hs1l)), (by first | (rw [low_yes (by simpa using g99) (by simpa using c106)] at hlr; exact fun x hx => by have := hlr x hx; push_cast; omega) | (rw [low_no (by first | (left; simpa using g99) | (right; simpa using c106))] at hlr; exact fun x hx => by have := hlr x hx; push_cast; omega))⟩) (hL := (Aa rfl (Aa rfl (Aa rfl (Aa rfl (Aa rfl (Aa rfl (Aa rfl (Aa rfl (Aa rfl (Aa rfl (Aa rfl (Aa (C0 rfl (by first | omega | rfl | ((try dsimp only); first | exact best_yes (by simpa using g50) (by first | exact .inl g53 | exact .inr c64) | exact (best_yes (by simpa using g50) (by first | exact .inl g53 | exact .inr c64)).symm | exact best_no (by first | (left; simpa using g50) | exact .inr ⟨g53, c64⟩) | exact (best_no (by first | (left; simpa using g50) | exact .inr ⟨g53, c64⟩)).symm))) Bj)))))))))))))
    ·refine Bt (Ao (Ao (A5 (Ai (Aj (Av (Gr (Rad rfl rfl) (Gm rfl (Bh ?_)))))))))
     have hstp : (TrS.mk sup1 (List.set tr.gone (b).toNat (true)) (List.set tr.num (b).toNat (max tr.k (at_ tr.sup b))) (tr.ord ++ [b]) (max tr.k (at_ tr.sup b))) = stepTr (trisE nd es) tr := by unfold stepTr; rw [hbE, hs1, List.take_of_length_le om, rows_atG hrs4 hb0.1 om]
     exact B3 ((j + 1), ((TrS.mk sup1 (List.set tr.gone (b).toNat (true)) (List.set tr.num (b).toNat (max tr.k (at_ tr.sup b))) (tr.ord ++ [b]) (max tr.k (at_ tr.sup b)))), (ad12), (cp13)) (by dsimp only; exact ⟨om, (by rw [hstp, htr]; rfl), (by rw [hstp]; exact hok.step hTok om)⟩) (hL := (Aa (Cy rfl (by first | rfl | simp)) (Aa rfl (Aa rfl (Aa rfl (Aa rfl (Aa rfl (Aa (C0 rfl (by first | omega | rfl | ((try dsimp only); first | exact best_yes (by simpa using g50) (by first | exact .inl g53 | exact .inr c64) | exact (best_yes (by simpa using g50) (by first | exact .inl g53 | exact .inr c64)).symm | exact best_no (by first | (left; simpa using g50) | exact .inr ⟨g53, c64⟩) | exact (best_no (by first | (left; simpa using g50) | exact .inr ⟨g53, c64⟩)).symm))) (Aa rfl (Aa (C0 rfl (by first | omega | rfl | ((try dsimp only); first | exact best_yes (by simpa using g50) (by first | exact .inl g53 | exact .inr c64) | exact (best_yes (by simpa using g50) (by first | exact .inl g53 | exact .inr c64)).symm | exact best_no (by first | (left; simpa using g50) | exact .inr ⟨g53, c64⟩) | exact (best_no (by first | (left; simpa using g50) | exact .inr ⟨g53, c64⟩)).symm))) Bj))))))))))
  ·refine Bt (Ao (Ao (A5 (Aj (Ah (Gm rfl (Gm rfl (Ga rfl (Ga rfl (Af (Ap (S2 3 2 rfl rfl) (Ay ?_))))))))))))
   have hje : j = (trisE nd es).length := by omega
   subst hje
   subst htr
   have hnl := hok.nlen
   exact Cu rfl rfl rfl (vc 3 (.slice ao (trussO (trisE nd es)).length co) (trussO (trisE nd es)) :: vc 3 (.slice ad9 (trussN (trisE nd es)).length cp10) (trussN (trisE nd es)) :: I) (by show Fit κ _ (vc 3 _ _ :: vc 3 (.slice _ (runTr (trisE nd es) (trisE nd es).length).num.length _) (runTr (trisE nd es) (trisE nd es).length).num :: I); rw [hnl]; simp only [List.length_replicate, htl]; exact B6) ⟨ao, co, ad9, cp10, by show _ = Value.tuple #[_, .slice _ (runTr (trisE nd es) (trisE nd es).length).num.length _]; rw [hnl]; simp only [List.length_replicate, htl]; rfl, rfl⟩
def trussG (nd : Int) (es : List Pt) : List Int := if checkG nd es ≠ 0 then [] else trussN (trisE nd es)
theorem TNumbers_ok {κ : Ctx} {I : List Item} {nd : Int} {va : Value} {es : List Pt} (hl : Sl κ I va es) (hb : es.length ≤ 1000000) (hT : TabRd κ I 0 tzCells) :
    CallS Tryz.prog κ 149 [.agg #[I64 (nd), va]] I (fun r J => ∃ a c, r = .tuple #[.slice a (trussG nd es).length c, I64 (checkG nd es)] ∧ J = vc 3 (.slice a (trussG nd es).length c) (trussG nd es) :: I) := by
 refine Ce1 Tryz.func149 rfl rfl ?_
 refine Ah (Ge1 (Be (cs := [_, _]) rfl rfl rfl) fun b1 => Ga rfl (Ga rfl (Af (As (Ah (Gl2 ty48 ?_))))))
 refine Gc0 (Am call83 rfl rfl (CheckGen_ok (Bi hl))) ?_
 refine Ga rfl (Af (Ah (Gm rfl (Gr (Bw rfl rfl) (Af (A7 rfl (fun c10 => ?_) (fun c10 => ?_)))))))
 ·refine Ah (Gm rfl (Ga rfl (Ga rfl (Af (Ay (Ak ?_))))))
  have hX : (trussG nd es) = [] := if_pos c10
  exact Cu rfl rfl rfl (vc 3 (.slice none (trussG nd es).length 0) (trussG nd es) :: I) (by rw [hX]; exact Cj (show Fit κ _ I from Ax) (Bv (α := Int) _ _)) ⟨none, 0, by rw [hX]; rfl, rfl⟩
 ·refine A4 (Aj (Ah (Gl2 ty48 ?_)))
  refine G.e (Am call222 rfl rfl (TPeel_ok (nd := nd) (Bi hl) (checkG_ok.1 (Classical.not_not.1 c10)) om (Bq hT Ax))) ?_
  rintro _ _ ⟨_, _, ⟨ad2, cp3, ad4, cp5, rfl, rfl⟩, rfl, rfl⟩
  refine Gm rfl (Gr (Az rfl rfl) (Gr (Az rfl rfl) (Ga rfl (Ga rfl (Af (Ap (S1 6 rfl) (Ah (Gm rfl (Ga rfl (Ga rfl (Af (Ay ?_))))))))))))
  have hX : (trussG nd es) = _ := if_neg c10
  have hz : checkG nd es = 0 := Classical.not_not.1 c10
  exact Cu rfl rfl rfl (vc 3 (.slice ad4 (trussG nd es).length cp5) (trussG nd es) :: I) (by rw [hX]; exact A2) ⟨ad4, cp5, by rw [hX, hz] <;> rfl, rfl⟩
variable {κ : Ctx} {I : List Item}
structure FrV (x : Fr) : Prop where
 n0 : 0 ≤ x.num
 n1 : x.num ≤ 1073741824
 d0 : 1 ≤ x.den
 d1 : x.den ≤ 1073741824
 cop : gcdI x.num x.den = 1
theorem mkF_val {a b : Int} (h0 : 0 ≤ a) (h1 : a ≤ 1073741824) (h2 : 0 < b) (h3 : b ≤ 1073741824) : FrV (mkF a b) := by
 have hn := mkF_num h0 h2
 have hd := mkF_den (a := a) h2
 refine ⟨hn.1, by omega, hd.1, by omega, ?_⟩
 obtain ⟨m, rfl⟩ := Int.eq_ofNat_of_zero_le h0
 obtain ⟨n, rfl⟩ := Int.eq_ofNat_of_zero_le (show 0 ≤ b by omega)
 have hg : 0 < m.gcd n := Nat.gcd_pos_of_pos_right _ om
 have hc := Nat.coprime_div_gcd_div_gcd hg
 unfold mkF gcdI
 simp only [Int.toNat_natCast, Int.ofNat_eq_natCast, ← Int.natCast_ediv]
 rw [hc.gcd_eq_one]; rfl
def cmpF (x y : Fr) : Int := if x.num * y.den < y.num * x.den then -1 else if y.num * x.den < x.num * y.den then 1 else 0
def sgnI (n : Int) : Int := if n < 0 then -1 else if 0 < n then 1 else 0
theorem sgn_bd (n : Int) : -1 ≤ sgnI n ∧ sgnI n ≤ 1 := by unfold sgnI; split <;> (try split) <;> omega
theorem mul_small {x y : Int} (hx : 0 ≤ x ∧ x ≤ 1073741824) (hy : 0 ≤ y ∧ y ≤ 1073741824) : 0 ≤ x * y ∧ x * y ≤ 1152921504606846976 := by
 refine ⟨Int.mul_nonneg hx.1 hy.1, ?_⟩
 have h1 := Int.mul_le_mul hx.2 hy.2 hy.1 dc
 omega
theorem FrV.mul {x y : Fr} (hx : FrV x) (hy : FrV y) : (0 ≤ x.num * y.den ∧ x.num * y.den ≤ 1152921504606846976) ∧ (0 < x.num → 0 < x.num * y.den) := by
 have h1 := hx.n0; have h2 := hx.n1; have h3 := hy.d0; have h4 := hy.d1
 exact ⟨mul_small ⟨h1, h2⟩ ⟨by omega, h4⟩, fun h => Int.mul_pos h om⟩
theorem Mul64_ok (x y : Int) (hx : 0 ≤ x ∧ x ≤ 1073741824) (hy : 0 ≤ y ∧ y ≤ 1073741824) :
    CallS Tryz.prog κ 173 [.int .u64 (x), .int .u64 (y)] I (fun r J => r = .tuple #[.int .u64 0, .int .u64 (x * y)] ∧ I = J) := by
 have hxy := mul_small hx hy
 refine Ce2 Tryz.func173 rfl rfl ?_
 exact Ah (Ga rfl (Ga rfl (Af (Ah (Gm rfl (Gr (Runs.lowU (m := x) (r := x) rfl rfl om om om) (Ga rfl (Af (Ah (Gm rfl (Gr (Runs.shr32 (m := x) (r := 0) rfl rfl om) (Ga rfl (Af (Ah (Gm rfl (Gr (Runs.lowU (m := y) (r := y) rfl rfl om om om) (Ga rfl (Af (Ah (Gm rfl (Gr (Runs.shr32 (m := y) (r := 0) rfl rfl om) (Ga rfl (Af (Ap (S6 9 8 7 6 0 1 rfl rfl rfl rfl rfl rfl) (Ah (Gm rfl (Gm rfl (Gr (Runs.mulU (m := x) (n := y) (r := x * y) rfl rfl rfl om om) (Ga rfl (Af (Ah (Gm rfl (Gm rfl (Gr (Runs.mulU (m := 0) (n := y) (r := 0) rfl rfl (Int.zero_mul _) om om) (Gm rfl (Gr (Runs.shr32 (m := x * y) (r := x * y / 4294967296) rfl rfl om) (Gr (Runs.addU (m := 0) (n := x * y / 4294967296) (r := x * y / 4294967296) rfl rfl om om om) (Ga rfl (Af (Ap (S6 11 9 7 6 0 1 rfl rfl rfl rfl rfl rfl) (Ah (Gm rfl (Gr (Runs.lowU (m := x * y / 4294967296) (r := x * y / 4294967296) rfl rfl om om om) (Ga rfl (Af (Ah (Gm rfl (Gr (Runs.shr32 (m := x * y / 4294967296) (r := 0) rfl rfl om) (Ga rfl (Af (Ah (Gm rfl (Gm rfl (Gm rfl (Gr (Runs.mulU (m := x) (n := 0) (r := 0) rfl rfl (Int.mul_zero _) om om) (Gr (Runs.addU (m := x * y / 4294967296) (n := 0) (r := x * y / 4294967296) rfl rfl om om om) (Ga rfl (Af (Ap (S6 12 13 9 7 0 1 rfl rfl rfl rfl rfl rfl) (Ah (Gm rfl (Gm rfl (Gr (Runs.mulU (m := 0) (n := 0) (r := 0) rfl rfl (Int.zero_mul _) om om) (Gm rfl (Gr (Runs.addU (m := 0) (n := 0) (r := 0) rfl rfl om om om) (Gm rfl (Gr (Runs.shr32 (m := x * y / 4294967296) (r := 0) rfl rfl om) (Gr (Runs.addU (m := 0) (n := 0) (r := 0) rfl rfl om om om) (Ga rfl (Af (Ap (S3 4 0 1 rfl rfl rfl) (Ah (Gm rfl (Gm rfl (Gr (Runs.mulU (m := x) (n := y) (r := x * y) rfl rfl rfl om om) (Ga rfl (Af (Ay (Cu rfl rfl rfl (I) Ax ⟨rfl, rfl⟩)))))))))))))))))))))))))))))))))))))))))))))))))))))))))))))))))))))))))))))))
theorem Sign_ok (n : Int) :
    CallS Tryz.prog κ 172 [I64 (n)] I (fun r J => r = I64 (sgnI n) ∧ I = J) := by
 refine Ce1 Tryz.func172 rfl rfl ?_
 refine Ah (Ga rfl (Af (As (A3 (Ah (Gm rfl (Gr (A8 rfl rfl) (Ga rfl (Af (A7 rfl (fun c3 => ?_) (fun c3 => ?_)))))))))))
 ·exact Ah (Ga rfl (Af (Ay (Ar (Ak (A1 rfl rfl (I) Ax ⟨by unfold sgnI; first | rw [if_pos c3] | rw [if_neg c3, if_pos c6] | rw [if_neg c3, if_neg c6], rfl⟩))))))
 ·refine Ah (Gm rfl (Gr (B7 rfl rfl) (Ga rfl (Af (A7 rfl (fun c6 => ?_) (fun c6 => ?_))))))
  ·exact Ah (Ga rfl (Af (Ay (Ar (Ak (A1 rfl rfl (I) Ax ⟨by unfold sgnI; first | rw [if_pos c3] | rw [if_neg c3, if_pos c6] | rw [if_neg c3, if_neg c6], rfl⟩))))))
  ·exact A4 (Ai (Aj (Ah (Ga rfl (Af (Ay (A1 rfl rfl (I) Ax ⟨by unfold sgnI; first | rw [if_pos c3] | rw [if_neg c3, if_pos c6] | rw [if_neg c3, if_neg c6], rfl⟩)))))))
theorem RatValid_ok (x : Fr) (hx : FrV x) :
    CallS Tryz.prog κ 89 [.agg #[I64 (x.num), I64 (x.den)]] I (fun r J => r = .bool true ∧ I = J) := by
 have hn0x := hx.n0
 have hn1x := hx.n1
 have hd0x := hx.d0
 have hd1x := hx.d1
 refine Ce1 Tryz.func89 rfl rfl ?_
 refine Ah (Ge1 (Be (cs := [_, _]) rfl rfl rfl) fun b1 => Ga rfl (Af (Ah (Gf fld40_0 rfl (Gl ty3 ?_)))))
 refine G.e (Am call157 rfl rfl (RWithin_ok x.num 1152921504606846976 om)) ?_
 rintro _ _ ⟨_, _, ⟨rfl, rfl⟩, rfl, rfl⟩
 refine Gm rfl (Bd (d := 6) rfl (fun g6 => ?_) (fun g6 => ?_))
 ·refine Gro (Ac fld40_1 rfl) (Gro (Au ty3) ?_)
  refine Gro (Cd rfl rfl) (Gr (Al rfl rfl) (Gm rfl (Bd (d := 11) rfl (fun g11 => ?_) (fun g11 => ?_))))
  ·refine Gro (Ac fld40_1 rfl) (Gro (Au ty3) ?_)
   refine Gro (Dx rfl rfl) (Gr (Al rfl rfl) (Gm rfl (Bd (d := 16) rfl (fun g16 => ?_) (fun g16 => ?_))))
   ·refine Gro (Ac fld40_0 rfl) (Gro (Au ty3) ?_)
    refine Gro (Ac fld40_0 rfl) (Gro (Au ty3) ?_)
    refine Gro (Runs.neg rfl (by unfold InR; omega)) (Gro (Dq rfl rfl) ?_)
    have hmx22 : (if x.num < -(x.num) then -(x.num) else x.num) = x.num := by rw [if_neg om]
    rw [hmx22]
    refine Gro (Ac fld40_1 rfl) (Gro (Au ty3) ?_)
    refine Cw (Bz rfl rfl rfl) (Am call158 rfl rfl (Common_ok x.num x.den om om)) ?_
    rintro _ _ ⟨_, _, ⟨rfl, rfl⟩, rfl, rfl⟩
    exact Gro (Bb rfl rfl) (Gr (Al rfl rfl) (Ga rfl (Af (Ap (S1 2 rfl) (Ay (A1 rfl rfl (I) Ax ⟨by rw [decide_eq_true hx.cop], rfl⟩))))))
   ·exact absurd om g16
  ·exact absurd om g11
 ·exact absurd om g6
set_option maxHeartbeats 1000000 in
theorem RatCmp_ok (x y : Fr) (hx : FrV x) (hy : FrV y) :
    CallS Tryz.prog κ 101 [.agg #[I64 (x.num), I64 (x.den)], .agg #[I64 (y.num), I64 (y.den)]] I (fun r J => r = I64 (cmpF x y) ∧ I = J) := by
 have hn0x := hx.n0
 have hn1x := hx.n1
 have hd0x := hx.d0
 have hd1x := hx.d1
 have hn0y := hy.n0
 have hn1y := hy.n1
 have hd0y := hy.d0
 have hd1y := hy.d1
 have hb1 := sgn_bd x.num
 have hb2 := sgn_bd y.num
 have hm1 := hx.mul hy
 have hm2 := hy.mul hx
 have hz1 : x.num = 0 → x.num * y.den = 0 := fun h => by rw [h, Int.zero_mul]
 have hz2 : y.num = 0 → y.num * x.den = 0 := fun h => by rw [h, Int.zero_mul]
 refine Ce2 Tryz.func101 rfl rfl ?_
 refine Ah (Ge1 (Be (cs := [_, _]) rfl rfl rfl) fun b1 => Ge1 (Be (cs := [_, _]) rfl rfl rfl) fun b2 => Ga rfl (Af (As (Ah (Gl2 ty40 ?_)))))
 refine Gc0 (Am call89 rfl rfl (RatValid_ok x asm)) ?_
 refine Gr (B1 rfl) (Gm rfl (Gro (Bm (vs := [_, _]) ty40) ?_))
 refine Cw (Bz rfl rfl rfl) (Am call89 rfl rfl (RatValid_ok y asm)) ?_
 rintro _ _ ⟨_, _, ⟨rfl, rfl⟩, rfl, rfl⟩
 refine Gro (B1 rfl) (Gr (Aq rfl rfl) (Af (Dj rfl (A4 (Aj (Ah (Gf fld40_0 rfl (Gl ty3 ?_))))))))
 refine Gc0 (Am call172 rfl rfl (Sign_ok x.num)) ?_
 refine Ga rfl (Af (Ap (S3 5 3 2 rfl rfl rfl) (As (Ah (Gf fld40_0 rfl (Gl ty3 ?_))))))
 refine Gc0 (Am call172 rfl rfl (Sign_ok y.num)) ?_
 refine Ga rfl (Af (Ah (Gm rfl (Gm rfl (Gr (Bw rfl rfl) (Gm rfl (Bd (d := 28) rfl (fun g28 => ?_) (fun g28 => ?_))))))))
 ·refine Gpo (Gpo (Gr (Al rfl rfl) (Af (Ap (S5 31 6 5 3 2 rfl rfl rfl rfl rfl) (Cn rfl (Ah (Gm rfl (Gm rfl (Gr (Rsu rfl rfl) (Gc0 (Am call172 rfl rfl (Sign_ok ((sgnI x.num) - (sgnI y.num)))) ?_))))))))))
  refine Ga rfl (Af (Ay (Ak ?_)))
  have hsx : sgnI x.num = if x.num < 0 then -1 else if 0 < x.num then 1 else 0 := rfl
  have hsy : sgnI y.num = if y.num < 0 then -1 else if 0 < y.num then 1 else 0 := rfl
  exact A1 rfl rfl (I) Ax ⟨congrArg I64 (by first | (have hss : sgnI (sgnI x.num - sgnI y.num) = if sgnI x.num - sgnI y.num < 0 then -1 else if 0 < sgnI x.num - sgnI y.num then 1 else 0 := rfl; unfold cmpF; rw [hss]; repeat (first | omega | split)) | (unfold cmpF; repeat (first | omega | split))), rfl⟩
 ·refine Gro (Ad rfl) (Gro (Bb rfl rfl) (Gr (Aq rfl rfl) (Af (Ap (S5 31 6 5 3 2 rfl rfl rfl rfl rfl) (A7 rfl (fun c31 => ?_) (fun c31 => ?_))))))
  ·refine Ah (Gm rfl (Gm rfl (Gr (Rsu rfl rfl) (Gc0 (Am call172 rfl rfl (Sign_ok ((sgnI x.num) - (sgnI y.num)))) ?_))))
   refine Ga rfl (Af (Ay (Ak ?_)))
   have hsx : sgnI x.num = if x.num < 0 then -1 else if 0 < x.num then 1 else 0 := rfl
   have hsy : sgnI y.num = if y.num < 0 then -1 else if 0 < y.num then 1 else 0 := rfl
   exact A1 rfl rfl (I) Ax ⟨congrArg I64 (by first | (have hss : sgnI (sgnI x.num - sgnI y.num) = if sgnI x.num - sgnI y.num < 0 then -1 else if 0 < sgnI x.num - sgnI y.num then 1 else 0 := rfl; unfold cmpF; rw [hss]; repeat (first | omega | split)) | (unfold cmpF; repeat (first | omega | split))), rfl⟩
  ·refine A4 (Aj (Ah (Gf fld40_0 rfl (Gl ty3 ?_))))
   refine Gf fld40_0 rfl (Gl ty3 ?_)
   refine Gr (Runs.neg rfl (by unfold InR; omega)) (Gr (Dq rfl rfl) ?_)
   have hmx42 : (if x.num < -(x.num) then -(x.num) else x.num) = x.num := by rw [if_neg om]
   rw [hmx42]
   refine Gr (Runs.convU Bu Da rfl om) (Gf fld40_1 rfl (Gl ty3 ?_))
   refine Gr (Runs.convU Bu Da rfl om) (G.e (Am call173 rfl rfl (Mul64_ok x.num y.den om om)) ?_)
   rintro _ _ ⟨_, _, ⟨rfl, rfl⟩, rfl, rfl⟩
   refine Gm rfl (Gr (Az rfl rfl) (Gr (Az rfl rfl) (Ga rfl (Ga rfl (Af (Ap (S5 8 7 5 3 2 rfl rfl rfl rfl rfl) (Ah (Gf fld40_0 rfl (Gl ty3 ?_)))))))))
   refine Gf fld40_0 rfl (Gl ty3 ?_)
   refine Gr (Runs.neg rfl (by unfold InR; omega)) (Gr (Dq rfl rfl) ?_)
   have hmx56 : (if y.num < -(y.num) then -(y.num) else y.num) = y.num := by rw [if_neg om]
   rw [hmx56]
   refine Gr (Runs.convU Bu Da rfl om) (Gf fld40_1 rfl (Gl ty3 ?_))
   refine Gr (Runs.convU Bu Da rfl om) (G.e (Am call173 rfl rfl (Mul64_ok y.num x.den om om)) ?_)
   rintro _ _ ⟨_, _, ⟨rfl, rfl⟩, rfl, rfl⟩
   refine Gm rfl (Gr (Az rfl rfl) (Gr (Az rfl rfl) (Ga rfl (Ga rfl (Af (Ap (S5 10 9 8 7 5 rfl rfl rfl rfl rfl) (As (A3 (Ah (Gm rfl (Gm rfl (Gr (Bb rfl rfl) (Gm rfl (Bd (d := 68) rfl (fun g68 => ?_) (fun g68 => ?_)))))))))))))))
   ·refine Gro (Ad rfl) (Gro (Ad rfl) (Gro (Bb rfl rfl) (Gr (Al rfl rfl) (Ga rfl (Af (Ap (S6 64 10 9 8 7 5 rfl rfl rfl rfl rfl rfl) (A7 rfl (fun c64 => ?_) (fun c64 => ?_))))))))
    ·refine Ah (Ga rfl (Af (Ay (Ar (Ak ?_)))))
     have hsx : sgnI x.num = if x.num < 0 then -1 else if 0 < x.num then 1 else 0 := rfl
     have hsy : sgnI y.num = if y.num < 0 then -1 else if 0 < y.num then 1 else 0 := rfl
     exact A1 rfl rfl (I) Ax ⟨congrArg I64 (by first | (have hss : sgnI (sgnI x.num - sgnI y.num) = if sgnI x.num - sgnI y.num < 0 then -1 else if 0 < sgnI x.num - sgnI y.num then 1 else 0 := rfl; unfold cmpF; rw [hss]; repeat (first | omega | split)) | (unfold cmpF; repeat (first | omega | split))), rfl⟩
    ·refine Ah (Gm rfl (Gm rfl (Gr (A8 rfl rfl) (Gm rfl (Bd (d := 77) rfl (fun g77 => ?_) (fun g77 => ?_))))))
     ·exact absurd g77 dc
     ·refine Gro (Ad rfl) (Gro (Ad rfl) (Gro (Bb rfl rfl) (Gro (Ad rfl) (Bd (d := 81) rfl (fun g81 => ?_) (fun g81 => ?_)))))
      ·refine Gro (Ad rfl) (Gro (Ad rfl) (Gro (A8 rfl rfl) (Gro (Al rfl rfl) (Gr (Aq rfl rfl) (Ga rfl (Af (Ap (S2 73 5 rfl rfl) (A7 rfl (fun c73 => ?_) (fun c73 => ?_)))))))))
       ·refine Ah (Gm rfl (Gr (Runs.neg rfl (by unfold InR; omega)) (Ga rfl (Af (Ay (Ar (Ak ?_)))))))
        have hsx : sgnI x.num = if x.num < 0 then -1 else if 0 < x.num then 1 else 0 := rfl
        have hsy : sgnI y.num = if y.num < 0 then -1 else if 0 < y.num then 1 else 0 := rfl
        exact A1 rfl rfl (I) Ax ⟨congrArg I64 (by first | (have hss : sgnI (sgnI x.num - sgnI y.num) = if sgnI x.num - sgnI y.num < 0 then -1 else if 0 < sgnI x.num - sgnI y.num then 1 else 0 := rfl; unfold cmpF; rw [hss]; repeat (first | omega | split)) | (unfold cmpF; repeat (first | omega | split))), rfl⟩
       ·refine A4 (Ai (Aj (Ah (Gm rfl (Ga rfl (Af (Ay ?_)))))))
        have hsx : sgnI x.num = if x.num < 0 then -1 else if 0 < x.num then 1 else 0 := rfl
        have hsy : sgnI y.num = if y.num < 0 then -1 else if 0 < y.num then 1 else 0 := rfl
        exact A1 rfl rfl (I) Ax ⟨congrArg I64 (by first | (have hss : sgnI (sgnI x.num - sgnI y.num) = if sgnI x.num - sgnI y.num < 0 then -1 else if 0 < sgnI x.num - sgnI y.num then 1 else 0 := rfl; unfold cmpF; rw [hss]; repeat (first | omega | split)) | (unfold cmpF; repeat (first | omega | split))), rfl⟩
      ·exact absurd rfl g81
   ·exact absurd rfl g68
end Go.Sl
namespace Go.Sl
open Go.RowKit (Below)
section
variable {P : Program} {κ : Ctx} {N : Frm} {L : Env} {I J : List Item} {l : Nat} {body : Code} {R : Ending → World → Prop}
def RB (P : Program) (l : Nat) (body : Code) (R : Ending → World → Prop) : Exit → Act → World → Prop :=
 Exit.then (fun a₁ w₁ => ∃ w₂, (Instr.beginRound l).run P w₁ = .ok () w₂ ∧ body.wpIn (Fence.wide.inRound l) 0 P (roundPost P l R) a₁ w₂) (fun _ _ _ => False)
theorem V.begin {r : Loop} (J : List Item) (hf : Fit κ I (recI l r :: J)) (hrd : r.state = .ready ∧ r.pending = none) (h : WR P κ N l 0 body (roundPost P l R) L (recI l { r with state := .busy } :: J)) : V κ N (RB P l body R) .normal L I := fun a w ha hs => by
 have hs' := hf w hs
 have hl := (hs'.ok _ List.mem_cons_self).1
 exact ⟨_, run_beginRound hl hrd.1, h a _ ha hs'.putRec⟩
theorem YieldB.mkA {r : Loop} {Post : Bool → List Item → Prop} {args : List Value} {L₀ : Env} {assign : Code} (hps : args.length = r.params.size) (ha : r.assign = assign) (hb : r.body = body)
  (hag : Ag N { tmps := (r.params.zip args.toArray).foldl (fun t (p, v) => t.setIfInBounds p v) r.tmps, defers := [] } L₀)
  (h : WR P κ N l 0 assign (RB P l body fun e w' => ∃ b, e = .returned (.bool b) ∧ ∃ K, Post b K ∧ Sep κ w' K) L₀ (recI l r :: I)) : YieldB P κ l args (recI l r :: I) Post := fun w hs => by
 have hl := (hs.ok _ List.mem_cons_self).1
 subst ha hb
 exact ⟨_, _, _, _, run_yield hl (by simpa using hps), roundIn_of_wpIn trivial (h _ w hag hs)⟩
theorem ag_two {tm : Array Value} {v u : Value} {p q : Nat} (hta : Ag ⟨N.n, []⟩ { tmps := tm, defers := [] } L) (hp : Nat.blt p N.n = true) (hq : Nat.blt q N.n = true) : Ag ⟨N.n, []⟩ { tmps := (tm.setIfInBounds p v).setIfInBounds q u, defers := [] } ((q, u) :: (p, v) :: L) := (hta.put p hp v).put q hq u
end
end Go.Sl
namespace Go.Sl
open Go.Proofs
set_option maxRecDepth 4000
variable {κ : Ctx} {I : List Item}
theorem HCheck_ok {nd : Int} {va : Value} {es : List Ev} (hl : Sl κ I va es) :
    CallS Tryz.prog κ 79 [I64 (nd), va] I (fun r J => r = I64 (streamE nd es) ∧ I = J) := by
 refine Ce2 Tryz.func79 rfl rfl ?_
 refine Ah (Ga rfl (Af (Ah (Gm rfl (Gm rfl (G.e (Am call139 rfl rfl (Stream_ok (nd := nd) (Bi hl))) ?_))))))
 rintro _ _ ⟨_, _, ⟨rfl, rfl⟩, rfl, rfl⟩
 exact Ga rfl (Af (Ay (A1 rfl rfl (I) Ax ⟨rfl, rfl⟩)))
theorem ACheck_ok {nd kd wd mo : Int} {va : Value} {es : List Ev} (hl : Sl κ I va es) :
    CallS Tryz.prog κ 97 [I64 (nd), va, .agg #[I64 (kd), I64 (wd), I64 (mo)]] I (fun r J => r = I64 (slideE nd kd wd mo es) ∧ I = J) := by
 refine Ce3 Tryz.func97 rfl rfl ?_
 refine Ah (Ge1 (Be (cs := [_, _, _]) rfl rfl rfl) fun b1 => Ga rfl (Af (As (Ah (Gl3 ty31 ?_)))))
 refine G.e (Am call78 rfl rfl (CheckW_ok kd wd mo)) ?_
 rintro _ _ ⟨_, _, ⟨rfl, rfl⟩, rfl, rfl⟩
 refine Ga rfl (Af (Ah (Gm rfl (Gr (Bw rfl rfl) (Af (A7 rfl (fun c11 => ?_) (fun c11 => ?_)))))))
 ·exact Ah (Gm rfl (Ga rfl (Af (Ay (Ak (A1 rfl rfl (I) Ax ⟨by unfold slideE; rw [if_pos c11], rfl⟩))))))
 ·refine A4 (Aj (Ah (Gm rfl (Gm rfl (Gc0 (Am call79 rfl rfl (HCheck_ok (nd := nd) (Bi hl))) ?_)))))
  exact Ga rfl (Af (Ap (S1 6 rfl) (Ay (A1 rfl rfl (I) Ax ⟨by unfold slideE; rw [if_neg c11], rfl⟩))))
theorem Frames_ok {nd kd wd mo : Int} {ea : Option Addr} {en ec : Nat} :
    CallS Tryz.prog κ 98 [I64 (nd), .slice ea en ec, .agg #[I64 (kd), I64 (wd), I64 (mo)]] I (fun r J => ∃ q1 q2 q3, r = .func (.func 165) #[] #[.pointer (some ⟨q1, 0, none⟩), .pointer (some ⟨q2, 0, none⟩), .pointer (some ⟨q3, 0, none⟩)] ∧ J = blk q3 [I64 kd, I64 wd, I64 mo] 31 :: blk q2 [.slice ea en ec] 28 :: blk q1 [I64 nd] 3 :: I) := by
 refine Ce3 Tryz.func98 rfl rfl ?_
 exact Ah (Ge1 (Be (cs := [_]) rfl rfl rfl) fun b1 => Ge1 (Be (cs := [_]) rfl rfl rfl) fun b2 => Ge1 (Be (cs := [_, _, _]) rfl rfl rfl) fun b3 => Ga rfl (Af (Ah (Gr (Dw rfl rfl) (Ga rfl (Af (Ay (A1 rfl rfl (blk b3 [I64 (kd), I64 (wd), I64 (mo)] 31 :: blk b2 [.slice ea en ec] 28 :: blk b1 [I64 (nd)] 3 :: I) (Fit.refl _) ⟨b1, b2, b3, rfl, rfl⟩))))))))
theorem at_end {kd wd mo tq : Int} {es : List Ev} (h : ∀ i : Nat, i < (allE kd wd mo es).length → (at_ (allE kd wd mo es) (i : Int)).tm ≤ tq) : edgesK (linksL ((allE kd wd mo es).take (allE kd wd mo es).length)) = atG kd wd mo es tq := by
 unfold atG
 rw [atK_stop (Nat.le_refl _) h fun hlt => absurd hlt (Nat.lt_irrefl _)]
theorem at_stop {kd wd mo tq : Int} {es : List Ev} {j : Nat} (hj : j < (allE kd wd mo es).length) (h : ∀ i : Nat, i < j → (at_ (allE kd wd mo es) (i : Int)).tm ≤ tq) (h2 : tq < (at_ (allE kd wd mo es) (j : Int)).tm) : edgesK (linksL ((allE kd wd mo es).take j)) = atG kd wd mo es tq := by
 unfold atG
 rw [atK_stop (Nat.le_of_lt hj) h fun _ => h2]
theorem atm_all {E : List Ev} {fst own : Bool} {j j1 : Nat} {tm tq : Int} (hM : MomentX E fst j tm own j1) (hle : tm ≤ tq) (hq : fst = false → ∀ i : Nat, i < j → (at_ E (i : Int)).tm ≤ tq) : ∀ i : Nat, i < j1 → (at_ E (i : Int)).tm ≤ tq := fun i hi => by
 by_cases h : i < j
 ·cases hf : fst with
  | true => have := (hM.first hf).2; omega
  | false => exact hq hf i h
 ·rw [hM.same i om hi]; exact hle
theorem at_left {kd wd mo nd gn tm tq : Int} {es : List Ev} {X : List Pt} {fst own : Bool} {j j1 : Nat} (hM : MomentX (allE kd wd mo es) fst j tm own j1) (hjl : j ≤ (allE kd wd mo es).length) (hlt : tq < tm) (h0 : 0 ≤ tq)
  (hq : fst = false → gn = nd ∧ X = edgesK (linksL ((allE kd wd mo es).take j)) ∧ ∀ i : Nat, i < j → (at_ (allE kd wd mo es) (i : Int)).tm ≤ tq) : gn = nd ∧ X = atG kd wd mo es tq := by
 cases hf : fst with
 | true => have := (hM.first hf).1; omega
 | false =>
  obtain ⟨h1, h2⟩ := hM.next hf
  obtain ⟨q1, q2, q3⟩ := hq hf
  exact ⟨q1, q2.trans (at_stop h1 q3 om)⟩
set_option maxHeartbeats 2000000 in
theorem At_ok {nd kd wd mo tq : Int} {ea : Option Addr} {ec : Nat} {es : List Ev} (hl : Sl κ I (.slice ea es.length ec) es) (hH : HistOk nd kd wd mo es) (hlen : es.length ≤ 19) (ht : 0 ≤ tq ∧ tq ≤ 1048576) :
    CallS Tryz.prog κ 44 [I64 (nd), .slice ea es.length ec, .agg #[I64 (kd), I64 (wd), I64 (mo)], I64 (tq)] I (fun r J => ∃ a c, r = .tuple #[.agg #[I64 nd, .slice a (atG kd wd mo es tq).length c], I64 0] ∧ J = vc 135 (.slice a (atG kd wd mo es tq).length c) (atG kd wd mo es tq) :: I) := by
 refine CallS.enterM (L := [(0, I64 (nd)), (1, .slice ea es.length ec), (2, .agg #[I64 (kd), I64 (wd), I64 (mo)]), (3, I64 (tq))]) Tryz.func44 rfl rfl rfl rfl ?_
 refine Ah (Ge1 (Be (cs := [_, _, _]) rfl rfl rfl) fun b1 => Ge1 (Be (cs := [_]) rfl rfl rfl) fun b2 => Ge1 (Ba ty48 rfl) fun b3 => Ga rfl (Af (As (Ah (Gm rfl (Gm rfl (Gl3 ty31 ?_)))))))
 refine Gc0 (Am call97 rfl rfl (ACheck_ok (nd := nd) (kd := kd) (wd := wd) (mo := mo) (Bi hl))) ?_
 refine Ga rfl (Af (Ah (Gm rfl (Gr (Bw rfl rfl) (Af (Ap (S7 19 10 8 7 6 0 1 rfl rfl rfl rfl rfl rfl rfl) (A7 rfl (fun c19 => ?_) (fun c19 => ?_))))))))
 ·exact absurd (slideE_zeroH hH) c19
 ·refine A4 (Aj (As (Ah (Gl ty3 ?_))))
  refine Gr (A8 rfl rfl) (Gm rfl (Bd (d := 24) rfl (fun g24 => ?_) (fun g24 => ?_)))
  ·omega
  ·refine Gro (Au ty3) ?_
   refine Gro (B7 rfl rfl) (Gr (Aq rfl rfl) (Af (Ap (S6 27 8 7 6 0 1 rfl rfl rfl rfl rfl rfl) (A7 rfl (fun c27 => ?_) (fun c27 => ?_)))))
   ·omega
   ·refine A4 (Aj (Ah (Ge1 (Ba ty48 rfl) fun b4 => Af (As (Ah (Gm rfl (Gm rfl (Gl3 ty31 ?_))))))))
    refine G.e (Am call98 rfl rfl Frames_ok) ?_
    rintro _ _ ⟨_, _, ⟨qb5, qb6, qb7, rfl, rfl⟩, rfl, rfl⟩
    refine Af (A3 (W.fit (J := blk b4 [I64 (0), .slice none 0 0] 48 :: vc 135 (.slice none 0 0) (([] : List Pt)) :: blk qb7 [I64 (kd), I64 (wd), I64 (mo)] 31 :: blk qb6 [.slice ea es.length ec] 28 :: blk qb5 [I64 (nd)] 3 :: blk b3 [I64 (0), .slice none 0 0] 48 :: blk b2 [I64 (tq)] 3 :: blk b1 [I64 (kd), I64 (wd), I64 (mo)] 31 :: I) (Cj (Bv (α := Pt) 135 _) B6) ?_))
    refine W.rangeFnB (gf := 165) (lb := [.pointer (some ⟨qb5, 0, none⟩), .pointer (some ⟨qb6, 0, none⟩), .pointer (some ⟨qb7, 0, none⟩)]) rfl call165 fun Dm l rc hr1 hr2 hr3 hr4 hta => ?_
    refine (Frames1_ok (I := blk qb7 [I64 (kd), I64 (wd), I64 (mo)] 31 :: blk qb6 [.slice ea es.length ec] 28 :: blk qb5 [I64 (nd)] 3 :: blk b3 [I64 (0), .slice none 0 0] 48 :: blk b2 [I64 (tq)] 3 :: blk b1 [I64 (kd), I64 (wd), I64 (mo)] 31 :: I) (σ := Int × (Option Addr) × Nat × (List Pt)) (τ := Int × (Option Addr) × Nat × (List Pt)) (l := l) (Lf := fun s => [recI l rc, dfrI Dm, blk b4 [I64 (s.1), .slice s.2.1 s.2.2.2.length s.2.2.1] 48, vc 135 (.slice s.2.1 s.2.2.2.length s.2.2.1) (s.2.2.2)]) (Pf := fun fst j s => (fst = false → s.1 = nd ∧ s.2.2.2 = edgesK (linksL ((allE kd wd mo es).take j)) ∧ ∀ i : Nat, i < j → (at_ (allE kd wd mo es) (i : Int)).tm ≤ tq) ∧ (j ≤ (allE kd wd mo es).length)) (Xf := fun s => [recI l { rc with state := .done, pending := some (.exit 0) }, dfrI Dm, blk b4 [I64 (s.1), .slice s.2.1 s.2.2.2.length s.2.2.1] 48, vc 135 (.slice s.2.1 s.2.2.2.length s.2.2.1) (s.2.2.2)]) (Qf := fun s => (s.1 = nd ∧ s.2.2.2 = atG kd wd mo es tq)) (s0 := (0, none, 0, ([] : List Pt))) hH hlen (Dh mm) (Dh mm) (Dh mm) (Bi hl) ⟨fun h => (by cases h), Nat.zero_le _⟩ ?_).mono ?_
    ·rintro T hTI fst j tm own j1 ga gc hM ⟨gn, a, c, X⟩ hp
     obtain ⟨hq, hjl⟩ : (fst = false → gn = nd ∧ X = edgesK (linksL ((allE kd wd mo es).take j)) ∧ ∀ i : Nat, i < j → (at_ (allE kd wd mo es) (i : Int)).tm ≤ tq) ∧ (j ≤ (allE kd wd mo es).length) := hp
     have hbq : BlkRd κ T b2 [I64 (tq)] 3 := (Dh (I := blk qb7 [I64 (kd), I64 (wd), I64 (mo)] 31 :: blk qb6 [.slice ea es.length ec] 28 :: blk qb5 [I64 (nd)] 3 :: blk b3 [I64 (0), .slice none 0 0] 48 :: blk b2 [I64 (tq)] 3 :: blk b1 [I64 (kd), I64 (wd), I64 (mo)] 31 :: I) mm).fit hTI
     refine YieldB.fit (J := recI l rc :: vc 135 (.slice ga (edgesK (linksL ((allE kd wd mo es).take j1))).length gc) (edgesK (linksL ((allE kd wd mo es).take j1))) :: dfrI Dm :: blk b4 [I64 (gn), .slice a X.length c] 48 :: vc 135 (.slice a X.length c) (X) :: T) B6 ?_
     refine YieldB.mkA (L₀ := [(34, .agg #[I64 (nd), .slice ga (edgesK (linksL ((allE kd wd mo es).take j1))).length gc]), (33, .agg #[I64 (tm), .bool (own)]), (32, .func (.func 165) #[] #[.pointer (some ⟨qb5, 0, none⟩), .pointer (some ⟨qb6, 0, none⟩), .pointer (some ⟨qb7, 0, none⟩)]), (31, .agg #[I64 (kd), I64 (wd), I64 (mo)]), (30, .slice ea es.length ec), (29, I64 (nd)), (11, .pointer (some ⟨b4, 0, none⟩)), (27, .bool (decide (1048576 < tq))), (8, .pointer (some ⟨b3, 0, none⟩)), (7, .pointer (some ⟨b2, 0, none⟩)), (6, .pointer (some ⟨b1, 0, none⟩)), (0, I64 (nd)), (1, .slice ea es.length ec)]) (by rw [hr2]; rfl) hr3 hr4 (by rw [hr2, fold_two]; exact ag_two hta rfl rfl) ?_
     refine WR.seq ?_
     refine WR.region (fun _ _ h => False.elim h) rfl ?_
     refine Ge1 (Ba ty153 rfl) fun b8 => Ge0 (Co ty153) ?_
     refine Bh (V.thenR ?_)
     refine WR.sub (L' := [(12, _), (34, _), (11, _), (7, _)]) (Aa rfl (Aa rfl (Aa rfl (Aa rfl Bj)))) ?_
     refine WR.region (fun _ _ h => False.elim h) rfl ?_
     refine Ge1 (Ba ty48 rfl) fun b9 => Ge0 (Co ty48) ?_
     refine Bh (V.begin (blk b9 [I64 (nd), .slice ga (edgesK (linksL ((allE kd wd mo es).take j1))).length gc] 48 :: blk b8 [I64 (tm), .bool (own)] 153 :: vc 135 (.slice ga (edgesK (linksL ((allE kd wd mo es).take j1))).length gc) (edgesK (linksL ((allE kd wd mo es).take j1))) :: dfrI Dm :: blk b4 [I64 (gn), .slice a X.length c] 48 :: vc 135 (.slice a X.length c) (X) :: T) B6 hr1 ?_)
     refine WR.block ?_
     refine WR.seq ?_
     refine WR.seq ?_
     refine WR.region (fun _ _ h => False.elim h) rfl ?_
     refine Gf fld153_0 rfl (Gl ty3 ?_)
     refine Gr (C1 ty3 rfl (Cv hbq Ax) rfl) (Gr (B7 rfl rfl) (Bh (V.thenR ?_)))
     refine WR.ite rfl (fun c38 => ?_) (fun c38 => ?_)
     ·refine WR.exit ?_
      exact Ao (V.block_miss rfl (V.roundX (dfrI Dm :: blk b4 [I64 (gn), .slice a X.length c] 48 :: vc 135 (.slice a X.length c) (X) :: T) B6 (.inr ⟨rfl, (gn, a, c, X), (show (gn = nd ∧ X = atG kd wd mo es tq) from (at_left hM hjl om om hq)), rfl⟩)))
     ·refine WR.skip ?_
      refine V.thenR ?_
      refine WR.region (fun _ _ h => False.elim h) rfl ?_
      refine Gl2 ty48 ?_
      refine Ge0 (Co ty48) ?_
      refine Bh (Ai ?_)
      have hall : ∀ i : Nat, i < j1 → (at_ (allE kd wd mo es) (i : Int)).tm ≤ tq := atm_all hM om (fun h => (hq h).2.2)
      exact V.roundB (dfrI Dm :: blk b4 [I64 (nd), .slice ga (edgesK (linksL ((allE kd wd mo es).take j1))).length gc] 48 :: vc 135 (.slice ga (edgesK (linksL ((allE kd wd mo es).take j1))).length gc) ((edgesK (linksL ((allE kd wd mo es).take j1)))) :: T) B6 hr1 (.inl ⟨rfl, (nd, ga, gc, edgesK (linksL ((allE kd wd mo es).take j1))), (show (false = false → nd = nd ∧ (edgesK (linksL ((allE kd wd mo es).take j1))) = edgesK (linksL ((allE kd wd mo es).take j1)) ∧ ∀ i : Nat, i < j1 → (at_ (allE kd wd mo es) (i : Int)).tm ≤ tq) ∧ (j1 ≤ (allE kd wd mo es).length) from ⟨(fun _ => ⟨rfl, rfl, hall⟩), hM.le.2⟩), rfl⟩)
    rintro v K ⟨rfl, (⟨⟨gn, a, c, X⟩, hp, rfl⟩ | ⟨⟨gn, a, c, X⟩, hp, rfl⟩)⟩
    ·obtain ⟨hq, hjl⟩ : (false = false → gn = nd ∧ X = edgesK (linksL ((allE kd wd mo es).take (allE kd wd mo es).length)) ∧ ∀ i : Nat, i < (allE kd wd mo es).length → (at_ (allE kd wd mo es) (i : Int)).tm ≤ tq) ∧ ((allE kd wd mo es).length ≤ (allE kd wd mo es).length) := hp
     refine .inl ⟨_, rfl, ?_⟩
     show V κ _ _ .normal ([(32, .func (.func 165) #[] #[.pointer (some ⟨qb5, 0, none⟩), .pointer (some ⟨qb6, 0, none⟩), .pointer (some ⟨qb7, 0, none⟩)]), (31, .agg #[I64 (kd), I64 (wd), I64 (mo)]), (30, .slice ea es.length ec), (29, I64 (nd)), (11, .pointer (some ⟨b4, 0, none⟩)), (27, .bool (decide (1048576 < tq))), (8, .pointer (some ⟨b3, 0, none⟩)), (7, .pointer (some ⟨b2, 0, none⟩)), (6, .pointer (some ⟨b1, 0, none⟩)), (0, I64 (nd)), (1, .slice ea es.length ec)] : Env) (dfrI Dm :: blk b4 [I64 (gn), .slice a X.length c] 48 :: vc 135 (.slice a X.length c) (X) :: blk qb7 [I64 (kd), I64 (wd), I64 (mo)] 31 :: blk qb6 [.slice ea es.length ec] 28 :: blk qb5 [I64 (nd)] 3 :: blk b3 [I64 (0), .slice none 0 0] 48 :: blk b2 [I64 (tq)] 3 :: blk b1 [I64 (kd), I64 (wd), I64 (mo)] 31 :: I)
     have hX : X = atG kd wd mo es tq := (hq rfl).2.1.trans (at_end (hq rfl).2.2)
     have hgn := (hq rfl).1
     refine Ai (Aj (Ah (Gl2 ty48 ?_)))
     refine Ge0 (Co ty48) ?_
     refine Ga rfl (Af (Ay ?_))
     rw [hX, hgn]
     refine V.fit (J := dfrI Dm :: blk b4 [I64 (nd), .slice a (atG kd wd mo es tq).length c] 48 :: vc 135 (.slice a (atG kd wd mo es tq).length c) ((atG kd wd mo es tq)) :: blk qb7 [I64 (kd), I64 (wd), I64 (mo)] 31 :: blk qb6 [.slice ea es.length ec] 28 :: blk qb5 [I64 (nd)] 3 :: blk b3 [I64 (nd), .slice a (atG kd wd mo es tq).length c] 48 :: blk b2 [I64 (tq)] 3 :: blk b1 [I64 (kd), I64 (wd), I64 (mo)] 31 :: I) B6 (V.leave ?_)
     exact Dp rfl ty48 rfl rfl mm rfl (vc 135 (.slice a (atG kd wd mo es tq).length c) (atG kd wd mo es tq) :: I) B6 ⟨a, c, rfl, rfl⟩
    ·have hQ : (gn = nd ∧ X = atG kd wd mo es tq) := hp
     refine .inr ⟨_, _, rfl, ?_⟩
     show W Tryz.prog κ _ _ _ ([(32, .func (.func 165) #[] #[.pointer (some ⟨qb5, 0, none⟩), .pointer (some ⟨qb6, 0, none⟩), .pointer (some ⟨qb7, 0, none⟩)]), (31, .agg #[I64 (kd), I64 (wd), I64 (mo)]), (30, .slice ea es.length ec), (29, I64 (nd)), (11, .pointer (some ⟨b4, 0, none⟩)), (27, .bool (decide (1048576 < tq))), (8, .pointer (some ⟨b3, 0, none⟩)), (7, .pointer (some ⟨b2, 0, none⟩)), (6, .pointer (some ⟨b1, 0, none⟩)), (0, I64 (nd)), (1, .slice ea es.length ec)] : Env) (dfrI Dm :: blk b4 [I64 (gn), .slice a X.length c] 48 :: vc 135 (.slice a X.length c) (X) :: blk qb7 [I64 (kd), I64 (wd), I64 (mo)] 31 :: blk qb6 [.slice ea es.length ec] 28 :: blk qb5 [I64 (nd)] 3 :: blk b3 [I64 (0), .slice none 0 0] 48 :: blk b2 [I64 (tq)] 3 :: blk b1 [I64 (kd), I64 (wd), I64 (mo)] 31 :: I)
     have hX := hQ.2
     have hgn := hQ.1
     refine Bt (A5 (Aj (Ah (Gl2 ty48 ?_))))
     refine Ge0 (Co ty48) ?_
     refine Ga rfl (Af (Ay ?_))
     rw [hX, hgn]
     refine V.fit (J := dfrI Dm :: blk b4 [I64 (nd), .slice a (atG kd wd mo es tq).length c] 48 :: vc 135 (.slice a (atG kd wd mo es tq).length c) ((atG kd wd mo es tq)) :: blk qb7 [I64 (kd), I64 (wd), I64 (mo)] 31 :: blk qb6 [.slice ea es.length ec] 28 :: blk qb5 [I64 (nd)] 3 :: blk b3 [I64 (nd), .slice a (atG kd wd mo es tq).length c] 48 :: blk b2 [I64 (tq)] 3 :: blk b1 [I64 (kd), I64 (wd), I64 (mo)] 31 :: I) B6 (V.leave ?_)
     exact Dp rfl ty48 rfl rfl mm rfl (vc 135 (.slice a (atG kd wd mo es tq).length c) (atG kd wd mo es tq) :: I) B6 ⟨a, c, rfl, rfl⟩
end Go.Sl
