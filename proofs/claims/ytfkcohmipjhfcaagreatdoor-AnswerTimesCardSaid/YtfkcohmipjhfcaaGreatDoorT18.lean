/- A part of the proofs of statements of this seat: contracts of functions, and the plain laws that they lean on. No conditions. -/
import Derived.Test.YtfkcohmipjhfcaaGreatDoorT17
import Derived.ProofKit
import Derived.OpenShut
import Derived.ChangeOld
import Derived.Below
import Derived.SizedLaws
import Derived.JoinedOf
import Derived.Deep.Slices
import Derived.Deep.Fields
set_option linter.unusedVariables false
set_option linter.unusedSimpArgs false
set_option linter.unusedSectionVars false
namespace Go.Sl
open Go.Proofs
set_option maxRecDepth 4000
set_option maxHeartbeats 8000000 in
theorem AnswerTimes_walk {κ : Ctx} {I : List Item} {la : Option Addr} {ln lc : Nat} {ls : List Int} (hl : Sl κ I (.slice la ln lc) ls) (m0 : Int) (hm0 : 0 ≤ m0 ∧ m0 < 256) (hT : TabRd κ I 0 tzCells) :
    CallS Tryz.prog κ 11 [.slice la ln lc, .int .u8 (m0)] I (fun r J => r = .bool true ∧ I = J) := by
 have ht40 : 0 ≤ Int.tmod m0 40 ∧ Int.tmod m0 40 < 40 := by rw [Int.tmod_eq_emod_of_nonneg hm0.1]; omega
 refine Ce2 Tryz.func11 rfl rfl ?_
 refine Ah (Ga rfl (Af (Ax (Ah (Gm rfl (Gc0 (Ap call16 rfl rfl Few_ok) ?_))))))
 refine Gr (Cm rfl) (Af (A7 rfl (fun c23 => ?_) (fun c23 => ?_)))
 ·refine Ah (Gc0 (Ap call41 rfl rfl (Awake43_ok (Cd hT Az))) ?_)
  exact Ga rfl (Af (Ay (Ad (Av rfl rfl (I) Az ⟨rfl, rfl⟩))))
 ·refine A0 (Ai (Ah (Gm rfl (G.e (Ap call18 rfl rfl New_ok) ?_))))
  rintro _ _ ⟨_, _, ⟨dk1, rfl, rfl⟩, rfl, rfl⟩
  show G Tryz.prog κ _ _ _ _ ([(26, .pointer (some ⟨dk1, 0, none⟩)), (25, .slice la ln lc), (23, .bool (decide (¬ ((ln : Int) ≤ 500)))), (22, .bool (decide ((ln : Int) ≤ 500))), (21, .slice la ln lc), (4, .bool false), (0, .slice la ln lc), (1, .int .u8 (m0))] : Env) (blk dk1 [.slice la ln lc, I64 (0)] 125 :: I)
  have hi0 : (0 : Int) ≤ 0 := Int.le_refl _
  refine Ga rfl (Af (Ah (Gm rfl (G.e (Ap call42 rfl rfl (Some43_at (by repeat (first | exact AtF.head _ _ | apply AtF.tail)) (fun _ => Cf hl Az) om  )) ?_))))
  rintro _ _ ⟨_, _, ⟨⟨nn2, ad3, cp4, es5, kd6, wd7, mo8, i9⟩, ⟨⟨rfl, hHes5, hles5, hnes5⟩, hi9⟩, rfl⟩, rfl, rfl⟩
  show G Tryz.prog κ _ _ _ _ ([(29, .tuple #[I64 (nn2), .slice ad3 es5.length cp4, .agg #[I64 (kd6), I64 (wd7), I64 (mo8)]]), (28, .pointer (some ⟨dk1, 0, none⟩)), (5, .pointer (some ⟨dk1, 0, none⟩)), (26, .pointer (some ⟨dk1, 0, none⟩)), (25, .slice la ln lc), (23, .bool (decide (¬ ((ln : Int) ≤ 500)))), (22, .bool (decide ((ln : Int) ≤ 500))), (21, .slice la ln lc), (4, .bool false), (0, .slice la ln lc), (1, .int .u8 (m0))] : Env) (vc 108 (.slice ad3 es5.length cp4) (es5) :: blk dk1 [.slice la ln lc, I64 (i9)] 125 :: I)
  have hi9 : 0 ≤ i9 := hi9
  dsimp only at hHes5
  dsimp only at hles5
  dsimp only at hnes5
  refine Gm rfl (Gr (A1 rfl rfl) (Gr (A1 rfl rfl) (Gr (A1 rfl rfl) (Ge1 (A4 ty31 rfl) fun b10 => Ga rfl (Ga rfl (Ge0 (Es3_3 ty31) ?_))))))
  have hH : HistOk nn2 kd6 wd7 mo8 es5 := hHes5
  have hel : es5.length ≤ 19 := by have h9 : es5.length ≤ 12 := hles5; omega
  have hn2 : 2 ≤ nn2 ∧ nn2 ≤ 6 := hnes5
  refine Af (Ar (S4 7 6 8 1 rfl rfl rfl rfl) (Ah (Gm rfl (Gr (Runs.rem rfl rfl om) (Gr (Runs.convI Dy Bl rfl (by unfold InR; omega)) (Ga rfl ?_))))))
  generalize Int.tmod m0 40 = T at ht40 ⊢
  have hT9 : 0 ≤ T ∧ T ≤ 1048576 := by omega
  refine Af (Ah (Gm rfl (Gm rfl (Gl3 ty31 ?_))))
  refine Gm rfl (G.e (Ap call44 rfl rfl (At_ok (nd := nn2) (kd := kd6) (wd := wd7) (mo := mo8) (tq := T) Bo (by first | exact hH | exact hHe) (by first | exact hel | exact hee) hT9)) ?_)
  rintro _ _ ⟨_, _, ⟨ad11, cp12, rfl, rfl⟩, rfl, rfl⟩
  refine Gm rfl (Gr (A1 rfl rfl) (Gr (A1 rfl rfl) (Ge1 (A4 ty48 rfl) fun b13 => Ge0 (B4 ty48) ?_)))
  refine Ga rfl (Af (Ar (S6 11 10 9 7 6 8 rfl rfl rfl rfl rfl rfl) (Ah (Ga rfl (Af (Ax (Ah (Gm rfl (Gr (B2 Aw rfl) (Gm rfl (Af (A5 (Bx (σ := Nat × (Option Addr) × Nat × (List Ev)) (fun s => ([(6, I64 (nn2)), (7, .slice ad3 es5.length cp4), (8, .pointer (some ⟨b10, 0, none⟩)), (9, I64 (T)), (10, .pointer (some ⟨b13, 0, none⟩)), (11, I64 (0)), (12, .slice s.2.1 s.2.2.2.length s.2.2.1), (44, .slice ad3 es5.length cp4), (45, I64 (((es5.length : Nat) : Int))), (46, I64 (((s.1 : Nat) : Int)))] : Env)) (fun s => vc 108 (.slice s.2.1 s.2.2.2.length s.2.2.1) (s.2.2.2) :: blk b13 [I64 (nn2), .slice ad11 (atG kd6 wd7 mo8 es5 T).length cp12] 48 :: vc 135 (.slice ad11 (atG kd6 wd7 mo8 es5 T).length cp12) (atG kd6 wd7 mo8 es5 T) :: blk b10 [I64 (kd6), I64 (wd7), I64 (mo8)] 31 :: vc 108 (.slice ad3 es5.length cp4) (es5) :: blk dk1 [.slice la ln lc, I64 (i9)] 125 :: I) (fun s => (s.1 ≤ es5.length) ∧ (s.2.2.2 = List.filter (upT T) (List.take s.1 es5))) (fun s => es5.length - s.1) (0, none, 0, []) (show ((0 : Nat) ≤ es5.length) ∧ (([] : List Ev) = List.filter (upT T) (List.take (0 : Nat) es5)) from ⟨om, rfl⟩) (Ab rfl (Ab rfl (Ab rfl (Ab rfl (Ab rfl (Ab rfl (Ab (Dg rfl (by first | rfl | simp)) (Ab rfl (Ab rfl (Ab Cg Bp)))))))))) (show Fit κ _ (vc 108 (.slice (none) ([]).length (0)) (([])) :: blk b13 [I64 (nn2), .slice ad11 (atG kd6 wd7 mo8 es5 T).length cp12] 48 :: vc 135 (.slice ad11 (atG kd6 wd7 mo8 es5 T).length cp12) (atG kd6 wd7 mo8 es5 T) :: blk b10 [I64 (kd6), I64 (wd7), I64 (mo8)] 31 :: vc 108 (.slice ad3 es5.length cp4) (es5) :: blk dk1 [.slice la ln lc, I64 (i9)] 125 :: I) from (Cj (Bv (α := Ev) 108 _) Bw)) ?_)))))))))))))
  rintro ⟨k, xa, xc, early⟩ hp
  dsimp only at hp ⊢
  obtain ⟨hk, hea⟩ := hp
  have hexl : early.length ≤ k := by rw [hea]; refine Nat.le_trans (List.length_filter_le _ _) ?_; rw [List.length_take]; omega
  refine Ah (Gr (Bb rfl rfl) (Af (Ax (A7 rfl (fun c47 => ?_) (fun c47 => ?_)))))
  ·refine A0 (Ai (Ax (A5 (Ah (Gr (A8 (α := Ev) (xs := es5) Aw ty108 rfl rfl Bo om om) (Gr (Bq (α := Ev) (xs := es5) ty108 rfl Bo om om) (Ge1 (A4 ty108 rfl) fun b14 => Ge0 (Es7_7 ty108) ?_)))))))
   refine Af (Ar (S11 14 6 7 8 9 10 11 12 44 45 46 rfl rfl rfl rfl rfl rfl rfl rfl rfl rfl rfl) (Ah (Gf fld108_1 rfl (Gl ty3 ?_))))
   refine Gm rfl (Gr (Dn rfl rfl) (Af (Ar (S12 53 14 6 7 8 9 10 11 12 44 45 46 rfl rfl rfl rfl rfl rfl rfl rfl rfl rfl rfl rfl) (A7 rfl (fun c53 => ?_) (fun c53 => ?_)))))
   ·refine A2 (Gm rfl (Gl7 ty108 ?_))
    refine Ge1 (B0 (α := Ev) (cs := [I64 ((at_ es5 (k : Int)).kd), I64 ((at_ es5 (k : Int)).tm), I64 ((at_ es5 (k : Int)).u), I64 ((at_ es5 (k : Int)).v), I64 ((at_ es5 (k : Int)).w), I64 ((at_ es5 (k : Int)).lb), I64 ((at_ es5 (k : Int)).sg)]) (xs := [⟨(at_ es5 (k : Int)).kd, (at_ es5 (k : Int)).tm, (at_ es5 (k : Int)).u, (at_ es5 (k : Int)).v, (at_ es5 (k : Int)).w, (at_ es5 (k : Int)).lb, (at_ es5 (k : Int)).sg⟩]) Aw ty108 rfl rfl dc dc rfl kr rfl rfl) fun ad15 => ?_
    refine Ge2 (B5 (α := Ev) (e := 108) (xs := early) (ys := ([⟨(at_ es5 (k : Int)).kd, (at_ es5 (k : Int)).tm, (at_ es5 (k : Int)).u, (at_ es5 (k : Int)).v, (at_ es5 (k : Int)).w, (at_ es5 (k : Int)).lb, (at_ es5 (k : Int)).sg⟩] : List Ev)) Aw ty108 rfl rfl rfl mm Bo lcn dc rfl (fun _ _ => am)) fun ad16 cp17 => ?_
    exact Ga rfl (Bi (Am (Ai (Ar (S10 12 6 7 8 9 10 11 44 45 46 rfl rfl rfl rfl rfl rfl rfl rfl rfl rfl) (A2 (Gr (Rad rfl rfl) (Gm rfl (Bi (B8 ((k + 1), (ad16), (cp17), (early ++ ([⟨(at_ es5 (k : Int)).kd, (at_ es5 (k : Int)).tm, (at_ es5 (k : Int)).u, (at_ es5 (k : Int)).v, (at_ es5 (k : Int)).w, (at_ es5 (k : Int)).lb, (at_ es5 (k : Int)).sg⟩] : List Ev))) (by dsimp only; exact ⟨om, (by first | (rw [upf_yes om c53, ← hea]) | (rw [upf_no om c53, ← hea]))⟩))))))))))
   ·exact A0 (Am (Ai (A2 (Gr (Rad rfl rfl) (Gm rfl (Bi (B8 ((k + 1), (xa), (xc), (early)) (by dsimp only; exact ⟨om, (by first | (rw [upf_yes om c53, ← hea]) | (rw [upf_no om c53, ← hea]))⟩))))))))
  ·refine Bu (As (As (Ba (Ai (Ah (Gm rfl ?_))))))
   have hear : early = List.filter (upT T) es5 := by rw [hea, List.take_of_length_le om]
   have hHe : HistOk nn2 kd6 wd7 mo8 early := by rw [hear]; exact hist_up hH T
   have hee : early.length ≤ 19 := by rw [hear]; exact Nat.le_trans (List.length_filter_le _ _) om
   refine Gm rfl (Gl3 ty31 ?_)
   refine Gm rfl (G.e (Ap call44 rfl rfl (At_ok (nd := nn2) (kd := kd6) (wd := wd7) (mo := mo8) (tq := T) Bo (by first | exact hH | exact hHe) (by first | exact hel | exact hee) hT9)) ?_)
   rintro _ _ ⟨_, _, ⟨ad18, cp19, rfl, rfl⟩, rfl, rfl⟩
   refine Gm rfl (Gr (A1 rfl rfl) (Gr (A1 rfl rfl) (Ge1 (A4 ty48 rfl) fun b20 => Ge0 (B4 ty48) ?_)))
   have hsm : atG kd6 wd7 mo8 early T = atG kd6 wd7 mo8 es5 T := by rw [hear]; exact atG_early hH hT9
   rw [hsm]
   refine Ga rfl (Af (Ar (S8 16 15 6 7 8 9 10 11 rfl rfl rfl rfl rfl rfl rfl rfl) (Ah (Gm rfl (Gm rfl (Gm rfl (Gc2 (Ap call68 rfl rfl (At08_ok (nd := nn2) (tq := T) Bo hH.st)) fun ad21 cp22 => ?_)))))))
   refine Gm rfl (Gr (A1 rfl rfl) (Gr (A1 rfl rfl) (Ge1 (A4 ty111 rfl) fun b23 => Ge0 (B4 ty111) ?_)))
   refine Ga rfl (Af (Ar (S7 17 16 15 8 9 10 11 rfl rfl rfl rfl rfl rfl rfl) (Ah (Gl2 ty111 ?_))))
   refine Gc2 (Ap call69 rfl rfl (Graph5_ok (nd := nn2) Bo (by first | exact up_val0 hH.st.nodes hH.st.mem | exact filter_val (up_val0 hH.st.nodes hH.st.mem)) (by have h8 := links_len (up_val0 (T := T) hH.st.nodes hH.st.mem); first | omega | (refine Nat.le_trans (List.length_filter_le _ _) ?_; omega)))) fun ad24 cp25 => ?_
   refine Gm rfl (Gr (A1 rfl rfl) (Gr (A1 rfl rfl) (Ge1 (A4 ty48 rfl) fun b26 => Ge0 (B4 ty48) ?_)))
   refine Ga rfl (Af (Ar (S8 19 17 16 15 8 9 10 11 rfl rfl rfl rfl rfl rfl rfl rfl) (Ax (Ah (Gm rfl (Gr (Be rfl rfl) (Gm rfl (A6 (d := 81) rfl (fun g81 => ?_) (fun g81 => ?_)))))))))
   ·exact absurd rfl g81
   ·refine Gro (Ac rfl) (Gro (Be rfl rfl) (Gr (Aj rfl rfl) (Gm rfl (A6 (d := 85) rfl (fun g85 => ?_) (fun g85 => ?_)))))
    ·exact absurd rfl g85
    ·refine Gro (Bk (vs := [_, _]) ty48) ?_
     refine Gro (Bk (vs := [_, _]) ty48) ?_
     refine Dv (Cc rfl rfl rfl) (Ap call45 rfl rfl (Same03_ok Bo Bo)) ?_
     rintro _ _ ⟨_, _, ⟨rfl, rfl⟩, rfl, rfl⟩
     refine Gro (Cm rfl) (Gr (Aj rfl rfl) (Gm rfl (A6 (d := 91) rfl (fun g91 => ?_) (fun g91 => ?_))))
     ·exact absurd ⟨rfl, rfl⟩ g91
     ·refine Gro (Aa fld31_0 rfl) (Gro (Aq ty3) ?_)
      refine Gro (Bf rfl rfl) (Gro (Ac rfl) (A6 (d := 95) rfl (fun g95 => ?_) (fun g95 => ?_)))
      ·refine Gro (Bk (vs := [_, _]) ty48) ?_
       refine Gro (Bk (vs := [_, _]) ty48) ?_
       refine Dv (Cc rfl rfl rfl) (Ap call45 rfl rfl (Same03_ok Bo Bo)) ?_
       rintro _ _ ⟨_, _, ⟨rfl, rfl⟩, rfl, rfl⟩
       refine Gro (Cm rfl) (Gro (Al rfl rfl) (Gr (Aj rfl rfl) (Gm rfl (A6 (d := 102) rfl (fun g102 => ?_) (fun g102 => ?_)))))
       ·exact absurd ⟨rfl, atG_all hH hT9 g95⟩ g102
       ·refine Gro (Aa fld31_0 rfl) (Gro (Aq ty3) ?_)
        refine Gro (Bf rfl rfl) (Gro (Ac rfl) (A6 (d := 106) rfl (fun g106 => ?_) (fun g106 => ?_)))
        ·refine Gro (Aa fld48_1 rfl) (Gro (Aq ty46) ?_)
         refine Gro (B2 Bm rfl) (Gro (Aa fld31_2 rfl) (Gro (Aq ty3) ?_))
         refine Gro (Bt rfl rfl) (Gro (Al rfl rfl) (Gr (Aj rfl rfl) (Af (Ar (S6 114 19 17 8 9 10 rfl rfl rfl rfl rfl rfl) (A7 rfl (fun c114 => ?_) (fun c114 => ?_))))))
         ·exact absurd (atG_cnt hH hT9 g106) om
         ·refine A0 (Ai (Ax (Ah (Gf fld31_0 rfl (Gl ty3 ?_)))))
          refine Gr (Bf rfl rfl) (Af (A7 rfl (fun c117 => ?_) (fun c117 => ?_)))
          ·refine Ah (Gl2 ty111 ?_)
           refine Gl3 ty31 ?_
           refine Gm rfl (G.e (Ap call70 rfl rfl (Present7_ok (nd := nn2) (kd := kd6) (wd := wd7) (mo := mo8) (nw := T) (xs := linksL (List.filter (upT T) es5)) Bo (by have h8 := links_len (up_val0 (T := T) hH.st.nodes hH.st.mem); omega))) ?_)
           rintro _ _ ⟨_, _, (⟨hnead27, rfl, rfl⟩ | ⟨ad27, cp28, hzad27, rfl, rfl⟩), rfl, rfl⟩
           ·exact absurd (up_ask hH.win hH.st.nodes hH.st.mem hT9) hnead27
           ·show G Tryz.prog κ _ _ _ _ ([(122, .tuple #[.agg #[I64 (nn2), .slice ad27 (List.filter (inW kd6 wd7 mo8 T (linksL (List.filter (upT T) es5))) (linksL (List.filter (upT T) es5))).length cp28], I64 (0)]), (121, I64 (T)), (120, .agg #[I64 (kd6), I64 (wd7), I64 (mo8)]), (119, .agg #[I64 (nn2), .slice ad21 (linksL (List.filter (upT T) es5)).length cp22]), (117, .bool (decide (kd6 = 2))), (116, I64 (kd6)), (115, .pointer (some ⟨b10, 0, none⟩)), (114, .bool (decide (mo8 < (((atG kd6 wd7 mo8 es5 T).length : Nat) : Int)))), (19, .pointer (some ⟨b26, 0, none⟩)), (17, .pointer (some ⟨b23, 0, none⟩)), (8, .pointer (some ⟨b10, 0, none⟩)), (9, I64 (T)), (10, .pointer (some ⟨b13, 0, none⟩))] : Env) (vc 146 (.slice ad27 (List.filter (inW kd6 wd7 mo8 T (linksL (List.filter (upT T) es5))) (linksL (List.filter (upT T) es5))).length cp28) (List.filter (inW kd6 wd7 mo8 T (linksL (List.filter (upT T) es5))) (linksL (List.filter (upT T) es5))) :: blk b26 [I64 (nn2), .slice ad24 (edgesK (linksL (List.filter (upT T) es5))).length cp25] 48 :: vc 135 (.slice ad24 (edgesK (linksL (List.filter (upT T) es5))).length cp25) (edgesK (linksL (List.filter (upT T) es5))) :: blk b23 [I64 (nn2), .slice ad21 (linksL (List.filter (upT T) es5)).length cp22] 111 :: vc 146 (.slice ad21 (linksL (List.filter (upT T) es5)).length cp22) (linksL (List.filter (upT T) es5)) :: blk b20 [I64 (nn2), .slice ad18 (atG kd6 wd7 mo8 es5 T).length cp19] 48 :: vc 135 (.slice ad18 (atG kd6 wd7 mo8 es5 T).length cp19) (atG kd6 wd7 mo8 es5 T) :: vc 108 (.slice xa early.length xc) (early) :: blk b13 [I64 (nn2), .slice ad11 (atG kd6 wd7 mo8 es5 T).length cp12] 48 :: vc 135 (.slice ad11 (atG kd6 wd7 mo8 es5 T).length cp12) (atG kd6 wd7 mo8 es5 T) :: blk b10 [I64 (kd6), I64 (wd7), I64 (mo8)] 31 :: vc 108 (.slice ad3 es5.length cp4) (es5) :: blk dk1 [.slice la ln lc, I64 (i9)] 125 :: I)
            refine Gm rfl (Gr (A1 rfl rfl) (Gr (A1 rfl rfl) (Ge0 (B4 ty111) ?_)))
            refine Af (Ar (S3 19 17 10 rfl rfl rfl) (Ah (Gl2 ty111 ?_)))
            refine Gc2 (Ap call69 rfl rfl (Graph5_ok (nd := nn2) Bo (by first | exact up_val0 hH.st.nodes hH.st.mem | exact filter_val (up_val0 hH.st.nodes hH.st.mem)) (by have h8 := links_len (up_val0 (T := T) hH.st.nodes hH.st.mem); first | omega | (refine Nat.le_trans (List.length_filter_le _ _) ?_; omega)))) fun ad29 cp30 => ?_
            refine Gm rfl (Gr (A1 rfl rfl) (Gr (A1 rfl rfl) (Ge0 (B4 ty48) ?_)))
            refine Af (Ah (Gl2 ty48 ?_))
            refine Gl2 ty48 ?_
            refine Gc0 (Ap call45 rfl rfl (Same03_ok Bo Bo)) ?_
            refine Gm rfl (A6 (d := 133) rfl (fun g133 => ?_) (fun g133 => ?_))
            ·refine Dv (Cc rfl rfl rfl) (Ap call41 rfl rfl (Awake43_ok (Cd hT Az))) ?_
             rintro _ _ ⟨_, _, ⟨rfl, rfl⟩, rfl, rfl⟩
             exact Gr (Al rfl rfl) (Ga rfl (Af (Ar (S1 4 rfl) (Ay (Ad (Av rfl rfl (I) Az ⟨rfl, rfl⟩))))))
            ·exact absurd ⟨rfl, atG_age hH hT9 c117⟩ g133
          ·refine A0 (Ai (Ah (Gc0 (Ap call41 rfl rfl (Awake43_ok (Cd hT Az))) ?_)))
           exact Ga rfl (Af (Ay (Av rfl rfl (I) Az ⟨rfl, rfl⟩)))
        ·refine Gpo (Gpo (Gpo (Gpo (Gpo (Gpo (Gro (Aj rfl rfl) (Gr (Aj rfl rfl) (Af (Ar (S6 114 19 17 8 9 10 rfl rfl rfl rfl rfl rfl) (C2 rfl (A0 (Ai (Ax (Ah (Gf fld31_0 rfl (Gl ty3 ?_))))))))))))))))
         refine Gr (Bf rfl rfl) (Af (A7 rfl (fun c117 => ?_) (fun c117 => ?_)))
         ·refine Ah (Gl2 ty111 ?_)
          refine Gl3 ty31 ?_
          refine Gm rfl (G.e (Ap call70 rfl rfl (Present7_ok (nd := nn2) (kd := kd6) (wd := wd7) (mo := mo8) (nw := T) (xs := linksL (List.filter (upT T) es5)) Bo (by have h8 := links_len (up_val0 (T := T) hH.st.nodes hH.st.mem); omega))) ?_)
          rintro _ _ ⟨_, _, (⟨hnead31, rfl, rfl⟩ | ⟨ad31, cp32, hzad31, rfl, rfl⟩), rfl, rfl⟩
          ·exact absurd (up_ask hH.win hH.st.nodes hH.st.mem hT9) hnead31
          ·show G Tryz.prog κ _ _ _ _ ([(122, .tuple #[.agg #[I64 (nn2), .slice ad31 (List.filter (inW kd6 wd7 mo8 T (linksL (List.filter (upT T) es5))) (linksL (List.filter (upT T) es5))).length cp32], I64 (0)]), (121, I64 (T)), (120, .agg #[I64 (kd6), I64 (wd7), I64 (mo8)]), (119, .agg #[I64 (nn2), .slice ad21 (linksL (List.filter (upT T) es5)).length cp22]), (117, .bool (decide (kd6 = 2))), (116, I64 (kd6)), (115, .pointer (some ⟨b10, 0, none⟩)), (114, .bool false), (19, .pointer (some ⟨b26, 0, none⟩)), (17, .pointer (some ⟨b23, 0, none⟩)), (8, .pointer (some ⟨b10, 0, none⟩)), (9, I64 (T)), (10, .pointer (some ⟨b13, 0, none⟩))] : Env) (vc 146 (.slice ad31 (List.filter (inW kd6 wd7 mo8 T (linksL (List.filter (upT T) es5))) (linksL (List.filter (upT T) es5))).length cp32) (List.filter (inW kd6 wd7 mo8 T (linksL (List.filter (upT T) es5))) (linksL (List.filter (upT T) es5))) :: blk b26 [I64 (nn2), .slice ad24 (edgesK (linksL (List.filter (upT T) es5))).length cp25] 48 :: vc 135 (.slice ad24 (edgesK (linksL (List.filter (upT T) es5))).length cp25) (edgesK (linksL (List.filter (upT T) es5))) :: blk b23 [I64 (nn2), .slice ad21 (linksL (List.filter (upT T) es5)).length cp22] 111 :: vc 146 (.slice ad21 (linksL (List.filter (upT T) es5)).length cp22) (linksL (List.filter (upT T) es5)) :: blk b20 [I64 (nn2), .slice ad18 (atG kd6 wd7 mo8 es5 T).length cp19] 48 :: vc 135 (.slice ad18 (atG kd6 wd7 mo8 es5 T).length cp19) (atG kd6 wd7 mo8 es5 T) :: vc 108 (.slice xa early.length xc) (early) :: blk b13 [I64 (nn2), .slice ad11 (atG kd6 wd7 mo8 es5 T).length cp12] 48 :: vc 135 (.slice ad11 (atG kd6 wd7 mo8 es5 T).length cp12) (atG kd6 wd7 mo8 es5 T) :: blk b10 [I64 (kd6), I64 (wd7), I64 (mo8)] 31 :: vc 108 (.slice ad3 es5.length cp4) (es5) :: blk dk1 [.slice la ln lc, I64 (i9)] 125 :: I)
           refine Gm rfl (Gr (A1 rfl rfl) (Gr (A1 rfl rfl) (Ge0 (B4 ty111) ?_)))
           refine Af (Ar (S3 19 17 10 rfl rfl rfl) (Ah (Gl2 ty111 ?_)))
           refine Gc2 (Ap call69 rfl rfl (Graph5_ok (nd := nn2) Bo (by first | exact up_val0 hH.st.nodes hH.st.mem | exact filter_val (up_val0 hH.st.nodes hH.st.mem)) (by have h8 := links_len (up_val0 (T := T) hH.st.nodes hH.st.mem); first | omega | (refine Nat.le_trans (List.length_filter_le _ _) ?_; omega)))) fun ad33 cp34 => ?_
           refine Gm rfl (Gr (A1 rfl rfl) (Gr (A1 rfl rfl) (Ge0 (B4 ty48) ?_)))
           refine Af (Ah (Gl2 ty48 ?_))
           refine Gl2 ty48 ?_
           refine Gc0 (Ap call45 rfl rfl (Same03_ok Bo Bo)) ?_
           refine Gm rfl (A6 (d := 133) rfl (fun g133 => ?_) (fun g133 => ?_))
           ·refine Dv (Cc rfl rfl rfl) (Ap call41 rfl rfl (Awake43_ok (Cd hT Az))) ?_
            rintro _ _ ⟨_, _, ⟨rfl, rfl⟩, rfl, rfl⟩
            exact Gr (Al rfl rfl) (Ga rfl (Af (Ar (S1 4 rfl) (Ay (Ad (Av rfl rfl (I) Az ⟨rfl, rfl⟩))))))
           ·exact absurd ⟨rfl, atG_age hH hT9 c117⟩ g133
         ·refine A0 (Ai (Ah (Gc0 (Ap call41 rfl rfl (Awake43_ok (Cd hT Az))) ?_)))
          exact Ga rfl (Af (Ay (Av rfl rfl (I) Az ⟨rfl, rfl⟩)))
      ·refine Gpo (Gpo (Gpo (Gpo (Gro (Aj rfl rfl) (Gr (Aj rfl rfl) (Gm rfl (Gro (Aa fld31_0 rfl) (Gro (Aq ty3) ?_))))))))
       refine Gro (Bf rfl rfl) (Gro (Ac rfl) (A6 (d := 106) rfl (fun g106 => ?_) (fun g106 => ?_)))
       ·refine Gro (Aa fld48_1 rfl) (Gro (Aq ty46) ?_)
        refine Gro (B2 Bm rfl) (Gro (Aa fld31_2 rfl) (Gro (Aq ty3) ?_))
        refine Gro (Bt rfl rfl) (Gro (Al rfl rfl) (Gr (Aj rfl rfl) (Af (Ar (S6 114 19 17 8 9 10 rfl rfl rfl rfl rfl rfl) (A7 rfl (fun c114 => ?_) (fun c114 => ?_))))))
        ·exact absurd (atG_cnt hH hT9 g106) om
        ·refine A0 (Ai (Ax (Ah (Gf fld31_0 rfl (Gl ty3 ?_)))))
         refine Gr (Bf rfl rfl) (Af (A7 rfl (fun c117 => ?_) (fun c117 => ?_)))
         ·refine Ah (Gl2 ty111 ?_)
          refine Gl3 ty31 ?_
          refine Gm rfl (G.e (Ap call70 rfl rfl (Present7_ok (nd := nn2) (kd := kd6) (wd := wd7) (mo := mo8) (nw := T) (xs := linksL (List.filter (upT T) es5)) Bo (by have h8 := links_len (up_val0 (T := T) hH.st.nodes hH.st.mem); omega))) ?_)
          rintro _ _ ⟨_, _, (⟨hnead35, rfl, rfl⟩ | ⟨ad35, cp36, hzad35, rfl, rfl⟩), rfl, rfl⟩
          ·exact absurd (up_ask hH.win hH.st.nodes hH.st.mem hT9) hnead35
          ·show G Tryz.prog κ _ _ _ _ ([(122, .tuple #[.agg #[I64 (nn2), .slice ad35 (List.filter (inW kd6 wd7 mo8 T (linksL (List.filter (upT T) es5))) (linksL (List.filter (upT T) es5))).length cp36], I64 (0)]), (121, I64 (T)), (120, .agg #[I64 (kd6), I64 (wd7), I64 (mo8)]), (119, .agg #[I64 (nn2), .slice ad21 (linksL (List.filter (upT T) es5)).length cp22]), (117, .bool (decide (kd6 = 2))), (116, I64 (kd6)), (115, .pointer (some ⟨b10, 0, none⟩)), (114, .bool (decide (mo8 < (((atG kd6 wd7 mo8 es5 T).length : Nat) : Int)))), (19, .pointer (some ⟨b26, 0, none⟩)), (17, .pointer (some ⟨b23, 0, none⟩)), (8, .pointer (some ⟨b10, 0, none⟩)), (9, I64 (T)), (10, .pointer (some ⟨b13, 0, none⟩))] : Env) (vc 146 (.slice ad35 (List.filter (inW kd6 wd7 mo8 T (linksL (List.filter (upT T) es5))) (linksL (List.filter (upT T) es5))).length cp36) (List.filter (inW kd6 wd7 mo8 T (linksL (List.filter (upT T) es5))) (linksL (List.filter (upT T) es5))) :: blk b26 [I64 (nn2), .slice ad24 (edgesK (linksL (List.filter (upT T) es5))).length cp25] 48 :: vc 135 (.slice ad24 (edgesK (linksL (List.filter (upT T) es5))).length cp25) (edgesK (linksL (List.filter (upT T) es5))) :: blk b23 [I64 (nn2), .slice ad21 (linksL (List.filter (upT T) es5)).length cp22] 111 :: vc 146 (.slice ad21 (linksL (List.filter (upT T) es5)).length cp22) (linksL (List.filter (upT T) es5)) :: blk b20 [I64 (nn2), .slice ad18 (atG kd6 wd7 mo8 es5 T).length cp19] 48 :: vc 135 (.slice ad18 (atG kd6 wd7 mo8 es5 T).length cp19) (atG kd6 wd7 mo8 es5 T) :: vc 108 (.slice xa early.length xc) (early) :: blk b13 [I64 (nn2), .slice ad11 (atG kd6 wd7 mo8 es5 T).length cp12] 48 :: vc 135 (.slice ad11 (atG kd6 wd7 mo8 es5 T).length cp12) (atG kd6 wd7 mo8 es5 T) :: blk b10 [I64 (kd6), I64 (wd7), I64 (mo8)] 31 :: vc 108 (.slice ad3 es5.length cp4) (es5) :: blk dk1 [.slice la ln lc, I64 (i9)] 125 :: I)
           refine Gm rfl (Gr (A1 rfl rfl) (Gr (A1 rfl rfl) (Ge0 (B4 ty111) ?_)))
           refine Af (Ar (S3 19 17 10 rfl rfl rfl) (Ah (Gl2 ty111 ?_)))
           refine Gc2 (Ap call69 rfl rfl (Graph5_ok (nd := nn2) Bo (by first | exact up_val0 hH.st.nodes hH.st.mem | exact filter_val (up_val0 hH.st.nodes hH.st.mem)) (by have h8 := links_len (up_val0 (T := T) hH.st.nodes hH.st.mem); first | omega | (refine Nat.le_trans (List.length_filter_le _ _) ?_; omega)))) fun ad37 cp38 => ?_
           refine Gm rfl (Gr (A1 rfl rfl) (Gr (A1 rfl rfl) (Ge0 (B4 ty48) ?_)))
           refine Af (Ah (Gl2 ty48 ?_))
           refine Gl2 ty48 ?_
           refine Gc0 (Ap call45 rfl rfl (Same03_ok Bo Bo)) ?_
           refine Gm rfl (A6 (d := 133) rfl (fun g133 => ?_) (fun g133 => ?_))
           ·refine Dv (Cc rfl rfl rfl) (Ap call41 rfl rfl (Awake43_ok (Cd hT Az))) ?_
            rintro _ _ ⟨_, _, ⟨rfl, rfl⟩, rfl, rfl⟩
            exact Gr (Al rfl rfl) (Ga rfl (Af (Ar (S1 4 rfl) (Ay (Ad (Av rfl rfl (I) Az ⟨rfl, rfl⟩))))))
           ·exact absurd ⟨rfl, atG_age hH hT9 c117⟩ g133
         ·refine A0 (Ai (Ah (Gc0 (Ap call41 rfl rfl (Awake43_ok (Cd hT Az))) ?_)))
          exact Ga rfl (Af (Ay (Av rfl rfl (I) Az ⟨rfl, rfl⟩)))
       ·refine Gpo (Gpo (Gpo (Gpo (Gpo (Gpo (Gro (Aj rfl rfl) (Gr (Aj rfl rfl) (Af (Ar (S6 114 19 17 8 9 10 rfl rfl rfl rfl rfl rfl) (C2 rfl (A0 (Ai (Ax (Ah (Gf fld31_0 rfl (Gl ty3 ?_))))))))))))))))
        refine Gr (Bf rfl rfl) (Af (A7 rfl (fun c117 => ?_) (fun c117 => ?_)))
        ·refine Ah (Gl2 ty111 ?_)
         refine Gl3 ty31 ?_
         refine Gm rfl (G.e (Ap call70 rfl rfl (Present7_ok (nd := nn2) (kd := kd6) (wd := wd7) (mo := mo8) (nw := T) (xs := linksL (List.filter (upT T) es5)) Bo (by have h8 := links_len (up_val0 (T := T) hH.st.nodes hH.st.mem); omega))) ?_)
         rintro _ _ ⟨_, _, (⟨hnead39, rfl, rfl⟩ | ⟨ad39, cp40, hzad39, rfl, rfl⟩), rfl, rfl⟩
         ·exact absurd (up_ask hH.win hH.st.nodes hH.st.mem hT9) hnead39
         ·show G Tryz.prog κ _ _ _ _ ([(122, .tuple #[.agg #[I64 (nn2), .slice ad39 (List.filter (inW kd6 wd7 mo8 T (linksL (List.filter (upT T) es5))) (linksL (List.filter (upT T) es5))).length cp40], I64 (0)]), (121, I64 (T)), (120, .agg #[I64 (kd6), I64 (wd7), I64 (mo8)]), (119, .agg #[I64 (nn2), .slice ad21 (linksL (List.filter (upT T) es5)).length cp22]), (117, .bool (decide (kd6 = 2))), (116, I64 (kd6)), (115, .pointer (some ⟨b10, 0, none⟩)), (114, .bool false), (19, .pointer (some ⟨b26, 0, none⟩)), (17, .pointer (some ⟨b23, 0, none⟩)), (8, .pointer (some ⟨b10, 0, none⟩)), (9, I64 (T)), (10, .pointer (some ⟨b13, 0, none⟩))] : Env) (vc 146 (.slice ad39 (List.filter (inW kd6 wd7 mo8 T (linksL (List.filter (upT T) es5))) (linksL (List.filter (upT T) es5))).length cp40) (List.filter (inW kd6 wd7 mo8 T (linksL (List.filter (upT T) es5))) (linksL (List.filter (upT T) es5))) :: blk b26 [I64 (nn2), .slice ad24 (edgesK (linksL (List.filter (upT T) es5))).length cp25] 48 :: vc 135 (.slice ad24 (edgesK (linksL (List.filter (upT T) es5))).length cp25) (edgesK (linksL (List.filter (upT T) es5))) :: blk b23 [I64 (nn2), .slice ad21 (linksL (List.filter (upT T) es5)).length cp22] 111 :: vc 146 (.slice ad21 (linksL (List.filter (upT T) es5)).length cp22) (linksL (List.filter (upT T) es5)) :: blk b20 [I64 (nn2), .slice ad18 (atG kd6 wd7 mo8 es5 T).length cp19] 48 :: vc 135 (.slice ad18 (atG kd6 wd7 mo8 es5 T).length cp19) (atG kd6 wd7 mo8 es5 T) :: vc 108 (.slice xa early.length xc) (early) :: blk b13 [I64 (nn2), .slice ad11 (atG kd6 wd7 mo8 es5 T).length cp12] 48 :: vc 135 (.slice ad11 (atG kd6 wd7 mo8 es5 T).length cp12) (atG kd6 wd7 mo8 es5 T) :: blk b10 [I64 (kd6), I64 (wd7), I64 (mo8)] 31 :: vc 108 (.slice ad3 es5.length cp4) (es5) :: blk dk1 [.slice la ln lc, I64 (i9)] 125 :: I)
          refine Gm rfl (Gr (A1 rfl rfl) (Gr (A1 rfl rfl) (Ge0 (B4 ty111) ?_)))
          refine Af (Ar (S3 19 17 10 rfl rfl rfl) (Ah (Gl2 ty111 ?_)))
          refine Gc2 (Ap call69 rfl rfl (Graph5_ok (nd := nn2) Bo (by first | exact up_val0 hH.st.nodes hH.st.mem | exact filter_val (up_val0 hH.st.nodes hH.st.mem)) (by have h8 := links_len (up_val0 (T := T) hH.st.nodes hH.st.mem); first | omega | (refine Nat.le_trans (List.length_filter_le _ _) ?_; omega)))) fun ad41 cp42 => ?_
          refine Gm rfl (Gr (A1 rfl rfl) (Gr (A1 rfl rfl) (Ge0 (B4 ty48) ?_)))
          refine Af (Ah (Gl2 ty48 ?_))
          refine Gl2 ty48 ?_
          refine Gc0 (Ap call45 rfl rfl (Same03_ok Bo Bo)) ?_
          refine Gm rfl (A6 (d := 133) rfl (fun g133 => ?_) (fun g133 => ?_))
          ·refine Dv (Cc rfl rfl rfl) (Ap call41 rfl rfl (Awake43_ok (Cd hT Az))) ?_
           rintro _ _ ⟨_, _, ⟨rfl, rfl⟩, rfl, rfl⟩
           exact Gr (Al rfl rfl) (Ga rfl (Af (Ar (S1 4 rfl) (Ay (Ad (Av rfl rfl (I) Az ⟨rfl, rfl⟩))))))
          ·exact absurd ⟨rfl, atG_age hH hT9 c117⟩ g133
        ·refine A0 (Ai (Ah (Gc0 (Ap call41 rfl rfl (Awake43_ok (Cd hT Az))) ?_)))
         exact Ga rfl (Af (Ay (Av rfl rfl (I) Az ⟨rfl, rfl⟩)))
end Go.Sl
namespace Go.Sl
open Go.ChangeShapes Go.WideShapes Go.ChangeAt Go.RowKit Go.Deep
section
variable {κ : Ctx} {w w' : World} {I : List Item}
theorem old_cell (hs : Sep κ w' I) (hm : old w.heap.size w ∈ I) {b o : Nat} {u : Value} (hc : w.cell? ⟨b, o, none⟩ = some u) : w'.cell? ⟨b, o, none⟩ = some u := by
 have hok : ∀ k, k < w.heap.size → w'.heap[k]? = w.heap[k]? := (hs.ok _ hm).1
 have hb : b < w.heap.size := by
  refine Nat.not_le.1 fun h => ?_
  simp [World.cell?, Array.getElem?_eq_none h] at hc
 have := hok b hb
 simp only [World.cell?, this] at hc ⊢
 exact hc
def SlW {α : Type} [Enc α] (w : World) (v : Value) (xs : List α) : Prop := slOk w (Enc.sz α) v xs.length (cells xs)
theorem SlW.sl {α : Type} [Enc α] {v : Value} {xs : List α} (h : SlW w v xs) (hm : old w.heap.size w ∈ I) : Sl κ I v xs := fun w' hs => by
 obtain ⟨a, cap, hv, h1, h2, h3, h4⟩ := h
 refine ⟨a, cap, hv, h1, h2, h3, fun hc => ?_⟩
 obtain ⟨b, off, ha, hr⟩ := h4 hc
 exact ⟨b, off, ha, fun j u hj => old_cell hs hm (hr j u hj)⟩
end
section
variable {P : Program} {w : World} {r : Reach} {b0 : Nat} {t : TypeId} {H : Type} {enc : TypeId × Value → H} {base : Nat} {spare : Nat → Bool} {held : Bool}
theorem spot_none {e : TypeId} {a : Addr} {len cap : Nat} (ht : P.underlying t = some (.slice e)) (h : Cell.okWide P w r b0 t (.slice (some a) len cap)) : a.spot = none := by
 simp only [Cell.okWide, Cell.ok, ht] at h
 exact h.2.2.2.1
theorem InR_of {n : Int} (h : (Lit.int .i64 n).wf = true) : InR n := by
 simp only [Lit.wf, Bool.and_eq_true, decide_eq_true_eq] at h
 exact h
def Light (P : Program) (t : TypeId) (d : DataW H) : Prop := ∀ n ∈ d.weights P t, n ≤ reachBytes
theorem light_arg {ts : List TypeId} {ds : List (DataW H)} (h : (DataW.weightsEach P ts ds).all (· ≤ reachBytes) = true) {j : Nat} {d : DataW H} (ht : ts[j]? = some t) (hd : ds[j]? = some d) : Light P t d := fun n hn => by
 have := List.all_eq_true.1 h _ (DataW.weights_mem_each ht hd n hn)
 simpa using this
theorem light_slice {e : TypeId} {es sp : List (DataW H)} (ht : P.underlying t = some (.slice e)) (h : Light P t (.slice es sp)) : es.length * P.bytesOf e ≤ 140737488351232 := by
 have h1 := h ((es.length + sp.length) * P.bytesOf e) (by simp [DataW.weights, ht])
 have h2 : es.length * P.bytesOf e ≤ (es.length + sp.length) * P.bytesOf e := Nat.mul_le_mul_right _ (by omega)
 simp only [reachBytes] at h1
 omega
theorem addr_eta {a : Addr} (h : a.spot = none) : a = ⟨a.block, a.off, none⟩ := by cases a; simp_all
theorem in_ints {e : TypeId} {v : Value} {fuel : Nat} {x : DataW H × List MemPlace} (ht : P.underlying t = some (.slice e)) (he : P.underlying e = some (.int .i64)) (hc : P.cellsOf e = 1)
  (hv : Cell.okWide P w r b0 t v) (h : DataW.trod enc P w base spare held fuel t [v] = some x) (hw : Light P t x.1) : ∃ (a : Option Addr) (c : Nat) (xs : List Int), v = .slice a xs.length c ∧ SlW w (.slice a xs.length c) xs ∧ (∀ n ∈ xs, InR n) ∧ xs.length * P.bytesOf e ≤ 140737488351232 := by
 rcases open_ints ht he hc h with ⟨hcs, _⟩ | ⟨a, l, c, zs, hcs, _, hl, hm, hz, hx, hcell, hwz⟩
 ·obtain rfl : v = .slice none 0 0 := by simpa using hcs
  exact ⟨none, 0, [], rfl, ⟨none, 0, rfl, by simp [cells], Nat.le_refl _, by simp, fun h => by omega⟩, by simp, by simp⟩
 ·obtain rfl : v = .slice (some a) l c := by simpa using hcs
  have hsp := spot_none ht hv
  have hlen : l ≤ zs.length := by rw [hz]; split <;> omega
  have hxl : (zs.take l).length = l := by rw [List.length_take]; omega
  refine ⟨some a, c, zs.take l, by rw [hxl], ⟨some a, c, rfl, cells_length _, by rw [hxl]; exact hl, hm, fun hc0 => ⟨a.block, a.off, by rw [← addr_eta hsp], fun j u hj => ?_⟩⟩, fun n hn => InR_of (hwz n (List.mem_of_mem_take hn)), by
   rw [hx] at hw
   have := light_slice ht hw
   simpa [lits] using this⟩
  have hjl : j < l := by
   have := (List.getElem?_eq_some_iff.1 hj).1
   rw [cells_length, hxl] at this
   have e1 : Enc.sz Int = 1 := rfl
   rw [e1] at this; omega
  have h1 := cells_get (zs.take l) j 0 (by omega) (by decide)
  have e1 : j * Enc.sz Int + 0 = j := by show j * 1 + 0 = j; omega
  rw [e1] at h1
  rw [h1] at hj
  have h2 := hcell j (by omega)
  rw [addr_eta hsp, addr_add] at h2
  have h3 : u = I64 (zs.getD j 0) := by
   have h4 : some (I64 ((zs.take l)[j]'(by omega))) = some u := hj
   simp only [Option.some.injEq] at h4
   rw [← h4]
   simp [List.getD_eq_getElem?_getD, List.getElem?_eq_getElem (show j < zs.length by omega)]
  rw [h3]; exact h2
theorem arg_cell {v : Value} {d : DataW H} {ps : List MemPlace} {e : TypeId} (ht : P.underlying t = some (.slice e)) (hv : Value.okWide P w r b0 t v) (h : DataW.Trod enc P w base spare held t v d ps) : Cell.okWide P w r b0 t v ∧ ∃ fuel, DataW.trod enc P w base spare held fuel t [v] = some (d, ps) := by
 obtain ⟨a, len, cap, rfl⟩ := okWide_slice ht hv
 simp only [Value.okWide, ht] at hv
 obtain ⟨fuel, hf⟩ := h
 exact ⟨hv, fuel, by simpa [Value.cells] using hf⟩
theorem joined_mk {P : Program} {f : FuncId} {fn : Func} {s : ChangeSpec} {c : OpenClaim} (h1 : (c.wf (OpenSpec.ofChange s)) = true) (h2 : (laidOutB P) = true) (h3 : (mapsRowed P) = true) (h4 : (fn.params.all (P.readableRec ·)) = true) (h5 : (namedTie P c.named s.vars) = true) (h6 : ((c.stops == [])) = true) (h7 : ((P.stops == [])) = true) (h8 : ((c.knobs == [])) = true) (h9 : ((P.stopKnobs == [])) = true) (h10 : ((c.inPlace == P.inPlace f)) = true) (h11 : ((c.unfollowed == P.unfollowed f)) = true) (h12 : ((c.recurses == P.recurses f)) = true) (h13 : ((c.named == P.varsNamed f)) = true) (h14 : ((c.maps == (fn.params.toList ++ s.plain.varTypes P).any (P.mapsRec ·))) = true) (h15 : ((c.ifaces == (fn.params.toList ++ s.plain.varTypes P).any (P.ifacesRec ·))) = true) (h16 : ((c.mapsOut == P.mapsAmong fn.resultTypes.toList)) = true) (h17 : ((c.loops == (fn.params.toList ++ s.plain.varTypes P).any (P.loopsFrom ·))) = true) (h18 : ((c.wideKeys == (fn.params.toList ++ s.plain.varTypes P ++ fn.resultTypes.toList).any (P.wideKeysFrom ·))) = true) (h19 : (s.vars.all (P.varReadable ·)) = true) (h20 : (fn.resultTypes.all (fun t => P.readableRec t && decide (t < P.types.size))) = true) (h21 : ((c.ifacesOut == fn.resultTypes.toList.any (P.ifacesRec ·))) = true) (h22 : ((c.loopsOut == fn.resultTypes.toList.any (P.loopsFrom ·))) = true) (h23 : ((c.plainKeys == P.plainKeys)) = true) (h24 : (c.shortTexts.isNone) = true) (h25 : (P.stopsHeard) = true) (h26 : (P.mayEnter) = true) (h27 : ((c.lifted == P.liftsFinal)) = true) (h28 : ((P.make == some c.make)) = true) (h29 : ((c.kinds == (if c.domain.isEmpty then [] else fn.params.toList.map fun t => match P.underlying t with | some (.int k) => some k | _ => none))) = true) (h30 : ((c.pinned == c.pinnedBy)) = true) (h31 : ((c.veiled == (fn.params.toList ++ s.plain.varTypes P ++ fn.resultTypes.toList).any (P.veiledRec ·))) = true) (h32 : (c.veiledFits P fn.params.toList (fn.params.toList ++ s.plain.varTypes P ++ fn.resultTypes.toList)) = true) : joinedFacts P f fn s c = true := by
 unfold joinedFacts
 exact (Bool.and_eq_true_iff.2 ⟨(Bool.and_eq_true_iff.2 ⟨(Bool.and_eq_true_iff.2 ⟨(Bool.and_eq_true_iff.2 ⟨(Bool.and_eq_true_iff.2 ⟨(Bool.and_eq_true_iff.2 ⟨(Bool.and_eq_true_iff.2 ⟨(Bool.and_eq_true_iff.2 ⟨(Bool.and_eq_true_iff.2 ⟨(Bool.and_eq_true_iff.2 ⟨(Bool.and_eq_true_iff.2 ⟨(Bool.and_eq_true_iff.2 ⟨(Bool.and_eq_true_iff.2 ⟨(Bool.and_eq_true_iff.2 ⟨(Bool.and_eq_true_iff.2 ⟨(Bool.and_eq_true_iff.2 ⟨(Bool.and_eq_true_iff.2 ⟨(Bool.and_eq_true_iff.2 ⟨(Bool.and_eq_true_iff.2 ⟨(Bool.and_eq_true_iff.2 ⟨(Bool.and_eq_true_iff.2 ⟨(Bool.and_eq_true_iff.2 ⟨(Bool.and_eq_true_iff.2 ⟨(Bool.and_eq_true_iff.2 ⟨(Bool.and_eq_true_iff.2 ⟨(Bool.and_eq_true_iff.2 ⟨(Bool.and_eq_true_iff.2 ⟨(Bool.and_eq_true_iff.2 ⟨(Bool.and_eq_true_iff.2 ⟨(Bool.and_eq_true_iff.2 ⟨(Bool.and_eq_true_iff.2 ⟨h1, h2⟩), h3⟩), h4⟩), h5⟩), h6⟩), h7⟩), h8⟩), h9⟩), h10⟩), h11⟩), h12⟩), h13⟩), h14⟩), h15⟩), h16⟩), h17⟩), h18⟩), h19⟩), h20⟩), h21⟩), h22⟩), h23⟩), h24⟩), h25⟩), h26⟩), h27⟩), h28⟩), h29⟩), h30⟩), h31⟩), h32⟩)
theorem calls_below {f : FuncId} {args : List Value} (h : CallS P ⟨w.os, w.tape, w.output, w.drawn⟩ f args [old w.heap.size w] fun r J => r = .bool true ∧ [old w.heap.size w] = J) :
  Calls P f args.toArray w fun e w' => e = .returned (.bool true) ∧ Below w.heap.size w w' :=
 (h w (Sep.begin w)).mono fun e w' ⟨v, J, he, ⟨hv, hJ⟩, hs⟩ => by
  subst hv hJ
  exact ⟨he, hs.below List.mem_cons_self⟩
end
end Go.Sl
