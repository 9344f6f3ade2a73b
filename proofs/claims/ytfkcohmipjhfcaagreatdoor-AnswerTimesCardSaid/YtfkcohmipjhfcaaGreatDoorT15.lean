/- A part of the proofs of statements of this seat: contracts of functions, and the plain laws that they lean on. No conditions. -/
import Derived.Test.YtfkcohmipjhfcaaGreatDoorT14
set_option linter.unusedVariables false
set_option linter.unusedSimpArgs false
set_option linter.unusedSectionVars false
namespace Go.Sl
open Go.Proofs
set_option maxRecDepth 4000
variable {κ : Ctx} {I : List Item}
theorem HCheck_ok {nd : Int} {va : Value} {es : List Ev} (hl : Sl κ I va es) :
    CallS Tryz.prog κ 79 [I64 (nd), va] I (fun r J => r = I64 (streamE nd es) ∧ I = J) := by
 refine Ce2 Tryz.func79 rfl rfl ?_
 refine Ah (Ga rfl (Af (Ah (Gm rfl (Gm rfl (G.e (Ap call139 rfl rfl (Stream_ok (nd := nd) (Bh hl))) ?_))))))
 rintro _ _ ⟨_, _, ⟨rfl, rfl⟩, rfl, rfl⟩
 exact Ga rfl (Af (Ay (Av rfl rfl (I) Az ⟨rfl, rfl⟩)))
theorem ACheck_ok {nd kd wd mo : Int} {va : Value} {es : List Ev} (hl : Sl κ I va es) :
    CallS Tryz.prog κ 97 [I64 (nd), va, .agg #[I64 (kd), I64 (wd), I64 (mo)]] I (fun r J => r = I64 (slideE nd kd wd mo es) ∧ I = J) := by
 refine Ce3 Tryz.func97 rfl rfl ?_
 refine Ah (Ge1 (Bd (cs := [_, _, _]) rfl rfl rfl) fun b1 => Ga rfl (Af (Ax (Ah (Gl3 ty31 ?_)))))
 refine G.e (Ap call78 rfl rfl (CheckW_ok kd wd mo)) ?_
 rintro _ _ ⟨_, _, ⟨rfl, rfl⟩, rfl, rfl⟩
 refine Ga rfl (Af (Ah (Gm rfl (Gr (Be rfl rfl) (Af (A7 rfl (fun c11 => ?_) (fun c11 => ?_)))))))
 ·exact Ah (Gm rfl (Ga rfl (Af (Ay (Ad (Av rfl rfl (I) Az ⟨by unfold slideE; rw [if_pos c11], rfl⟩))))))
 ·refine A0 (Ai (Ah (Gm rfl (Gm rfl (Gc0 (Ap call79 rfl rfl (HCheck_ok (nd := nd) (Bh hl))) ?_)))))
  exact Ga rfl (Af (Ar (S1 6 rfl) (Ay (Av rfl rfl (I) Az ⟨by unfold slideE; rw [if_neg c11], rfl⟩))))
theorem Frames_ok {nd kd wd mo : Int} {ea : Option Addr} {en ec : Nat} :
    CallS Tryz.prog κ 98 [I64 (nd), .slice ea en ec, .agg #[I64 (kd), I64 (wd), I64 (mo)]] I (fun r J => ∃ q1 q2 q3, r = .func (.func 165) #[] #[.pointer (some ⟨q1, 0, none⟩), .pointer (some ⟨q2, 0, none⟩), .pointer (some ⟨q3, 0, none⟩)] ∧ J = blk q3 [I64 kd, I64 wd, I64 mo] 31 :: blk q2 [.slice ea en ec] 28 :: blk q1 [I64 nd] 3 :: I) := by
 refine Ce3 Tryz.func98 rfl rfl ?_
 exact Ah (Ge1 (Bd (cs := [_]) rfl rfl rfl) fun b1 => Ge1 (Bd (cs := [_]) rfl rfl rfl) fun b2 => Ge1 (Bd (cs := [_, _, _]) rfl rfl rfl) fun b3 => Ga rfl (Af (Ah (Gr (D1 rfl rfl) (Ga rfl (Af (Ay (Av rfl rfl (blk b3 [I64 (kd), I64 (wd), I64 (mo)] 31 :: blk b2 [.slice ea en ec] 28 :: blk b1 [I64 (nd)] 3 :: I) (C4 _) ⟨b1, b2, b3, rfl, rfl⟩))))))))
theorem at_end {kd wd mo tq : Int} {es : List Ev} (h : ∀ i : Nat, i < (allE kd wd mo es).length → (at_ (allE kd wd mo es) (i : Int)).tm ≤ tq) : edgesK (linksL ((allE kd wd mo es).take (allE kd wd mo es).length)) = atG kd wd mo es tq := by
 unfold atG
 rw [atK_stop (Nat.le_refl _) h fun hlt => absurd hlt (Nat.lt_irrefl _)]
theorem at_stop {kd wd mo tq : Int} {es : List Ev} {j : Nat} (hj : j < (allE kd wd mo es).length) (h : ∀ i : Nat, i < j → (at_ (allE kd wd mo es) (i : Int)).tm ≤ tq) (h2 : tq < (at_ (allE kd wd mo es) (j : Int)).tm) : edgesK (linksL ((allE kd wd mo es).take j)) = atG kd wd mo es tq := by
 unfold atG
 rw [atK_stop (Nat.le_of_lt hj) h fun _ => h2]
theorem atm_all {E : List Ev} {fst own : Bool} {j j1 : Nat} {tm tq : Int} (hM : MomentX E fst j tm own j1) (hle : tm ≤ tq) (hq : fst = false → ∀ i : Nat, i < j → (at_ E (i : Int)).tm ≤ tq) : ∀ i : Nat, i < j1 → (at_ E (i : Int)).tm ≤ tq := fun i hi => by
 by_cases h : i < j
 ·cases hf : fst with
  | true => have := (hM.first hf).2; omega
  | false => exact hq hf i h
 ·rw [hM.same i om hi]; exact hle
theorem at_left {kd wd mo nd gn tm tq : Int} {es : List Ev} {X : List Pt} {fst own : Bool} {j j1 : Nat} (hM : MomentX (allE kd wd mo es) fst j tm own j1) (hjl : j ≤ (allE kd wd mo es).length) (hlt : tq < tm) (h0 : 0 ≤ tq)
  (hq : fst = false → gn = nd ∧ X = edgesK (linksL ((allE kd wd mo es).take j)) ∧ ∀ i : Nat, i < j → (at_ (allE kd wd mo es) (i : Int)).tm ≤ tq) : gn = nd ∧ X = atG kd wd mo es tq := by
 cases hf : fst with
 | true => have := (hM.first hf).1; omega
 | false =>
  obtain ⟨h1, h2⟩ := hM.next hf
  obtain ⟨q1, q2, q3⟩ := hq hf
  exact ⟨q1, q2.trans (at_stop h1 q3 om)⟩
set_option maxHeartbeats 2000000 in
theorem At_ok {nd kd wd mo tq : Int} {ea : Option Addr} {ec : Nat} {es : List Ev} (hl : Sl κ I (.slice ea es.length ec) es) (hH : HistOk nd kd wd mo es) (hlen : es.length ≤ 19) (ht : 0 ≤ tq ∧ tq ≤ 1048576) :
    CallS Tryz.prog κ 44 [I64 (nd), .slice ea es.length ec, .agg #[I64 (kd), I64 (wd), I64 (mo)], I64 (tq)] I (fun r J => ∃ a c, r = .tuple #[.agg #[I64 nd, .slice a (atG kd wd mo es tq).length c], I64 0] ∧ J = vc 135 (.slice a (atG kd wd mo es tq).length c) (atG kd wd mo es tq) :: I) := by
 refine CallS.enterM (L := [(0, I64 (nd)), (1, .slice ea es.length ec), (2, .agg #[I64 (kd), I64 (wd), I64 (mo)]), (3, I64 (tq))]) Tryz.func44 rfl rfl rfl rfl ?_
 refine Ah (Ge1 (Bd (cs := [_, _, _]) rfl rfl rfl) fun b1 => Ge1 (Bd (cs := [_]) rfl rfl rfl) fun b2 => Ge1 (A4 ty48 rfl) fun b3 => Ga rfl (Af (Ax (Ah (Gm rfl (Gm rfl (Gl3 ty31 ?_)))))))
 refine Gc0 (Ap call97 rfl rfl (ACheck_ok (nd := nd) (kd := kd) (wd := wd) (mo := mo) (Bh hl))) ?_
 refine Ga rfl (Af (Ah (Gm rfl (Gr (Be rfl rfl) (Af (Ar (S7 19 10 8 7 6 0 1 rfl rfl rfl rfl rfl rfl rfl) (A7 rfl (fun c19 => ?_) (fun c19 => ?_))))))))
 ·exact absurd (slideE_zeroH hH) c19
 ·refine A0 (Ai (Ax (Ah (Gl ty3 ?_))))
  refine Gr (Bb rfl rfl) (Gm rfl (A6 (d := 24) rfl (fun g24 => ?_) (fun g24 => ?_)))
  ·omega
  ·refine Gro (Aq ty3) ?_
   refine Gro (Bt rfl rfl) (Gr (Aj rfl rfl) (Af (Ar (S6 27 8 7 6 0 1 rfl rfl rfl rfl rfl rfl) (A7 rfl (fun c27 => ?_) (fun c27 => ?_)))))
   ·omega
   ·refine A0 (Ai (Ah (Ge1 (A4 ty48 rfl) fun b4 => Af (Ax (Ah (Gm rfl (Gm rfl (Gl3 ty31 ?_))))))))
    refine G.e (Ap call98 rfl rfl Frames_ok) ?_
    rintro _ _ ⟨_, _, ⟨qb5, qb6, qb7, rfl, rfl⟩, rfl, rfl⟩
    refine Af (A5 (W.fit (J := blk b4 [I64 (0), .slice none 0 0] 48 :: vc 135 (.slice none 0 0) (([] : List Pt)) :: blk qb7 [I64 (kd), I64 (wd), I64 (mo)] 31 :: blk qb6 [.slice ea es.length ec] 28 :: blk qb5 [I64 (nd)] 3 :: blk b3 [I64 (0), .slice none 0 0] 48 :: blk b2 [I64 (tq)] 3 :: blk b1 [I64 (kd), I64 (wd), I64 (mo)] 31 :: I) (Cj (Bv (α := Pt) 135 _) Bw) ?_))
    refine W.rangeFnB (gf := 165) (lb := [.pointer (some ⟨qb5, 0, none⟩), .pointer (some ⟨qb6, 0, none⟩), .pointer (some ⟨qb7, 0, none⟩)]) rfl call165 fun Dm l rc hr1 hr2 hr3 hr4 hta => ?_
    refine (Frames1_ok (I := blk qb7 [I64 (kd), I64 (wd), I64 (mo)] 31 :: blk qb6 [.slice ea es.length ec] 28 :: blk qb5 [I64 (nd)] 3 :: blk b3 [I64 (0), .slice none 0 0] 48 :: blk b2 [I64 (tq)] 3 :: blk b1 [I64 (kd), I64 (wd), I64 (mo)] 31 :: I) (σ := Int × (Option Addr) × Nat × (List Pt)) (τ := Int × (Option Addr) × Nat × (List Pt)) (l := l) (Lf := fun s => [recI l rc, dfrI Dm, blk b4 [I64 (s.1), .slice s.2.1 s.2.2.2.length s.2.2.1] 48, vc 135 (.slice s.2.1 s.2.2.2.length s.2.2.1) (s.2.2.2)]) (Pf := fun fst j s => (fst = false → s.1 = nd ∧ s.2.2.2 = edgesK (linksL ((allE kd wd mo es).take j)) ∧ ∀ i : Nat, i < j → (at_ (allE kd wd mo es) (i : Int)).tm ≤ tq) ∧ (j ≤ (allE kd wd mo es).length)) (Xf := fun s => [recI l { rc with state := .done, pending := some (.exit 0) }, dfrI Dm, blk b4 [I64 (s.1), .slice s.2.1 s.2.2.2.length s.2.2.1] 48, vc 135 (.slice s.2.1 s.2.2.2.length s.2.2.1) (s.2.2.2)]) (Qf := fun s => (s.1 = nd ∧ s.2.2.2 = atG kd wd mo es tq)) (s0 := (0, none, 0, ([] : List Pt))) hH hlen (Dj mm) (Dj mm) (Dj mm) (Bh hl) ⟨fun h => (by cases h), Nat.zero_le _⟩ ?_).mono ?_
    ·rintro T hTI fst j tm own j1 ga gc hM ⟨gn, a, c, X⟩ hp
     obtain ⟨hq, hjl⟩ : (fst = false → gn = nd ∧ X = edgesK (linksL ((allE kd wd mo es).take j)) ∧ ∀ i : Nat, i < j → (at_ (allE kd wd mo es) (i : Int)).tm ≤ tq) ∧ (j ≤ (allE kd wd mo es).length) := hp
     have hbq : BlkRd κ T b2 [I64 (tq)] 3 := (Dj (I := blk qb7 [I64 (kd), I64 (wd), I64 (mo)] 31 :: blk qb6 [.slice ea es.length ec] 28 :: blk qb5 [I64 (nd)] 3 :: blk b3 [I64 (0), .slice none 0 0] 48 :: blk b2 [I64 (tq)] 3 :: blk b1 [I64 (kd), I64 (wd), I64 (mo)] 31 :: I) mm).fit hTI
     refine YieldB.fit (J := recI l rc :: vc 135 (.slice ga (edgesK (linksL ((allE kd wd mo es).take j1))).length gc) (edgesK (linksL ((allE kd wd mo es).take j1))) :: dfrI Dm :: blk b4 [I64 (gn), .slice a X.length c] 48 :: vc 135 (.slice a X.length c) (X) :: T) Bw ?_
     refine YieldB.mkA (L₀ := [(34, .agg #[I64 (nd), .slice ga (edgesK (linksL ((allE kd wd mo es).take j1))).length gc]), (33, .agg #[I64 (tm), .bool (own)]), (32, .func (.func 165) #[] #[.pointer (some ⟨qb5, 0, none⟩), .pointer (some ⟨qb6, 0, none⟩), .pointer (some ⟨qb7, 0, none⟩)]), (31, .agg #[I64 (kd), I64 (wd), I64 (mo)]), (30, .slice ea es.length ec), (29, I64 (nd)), (11, .pointer (some ⟨b4, 0, none⟩)), (27, .bool (decide (1048576 < tq))), (8, .pointer (some ⟨b3, 0, none⟩)), (7, .pointer (some ⟨b2, 0, none⟩)), (6, .pointer (some ⟨b1, 0, none⟩)), (0, I64 (nd)), (1, .slice ea es.length ec)]) (by rw [hr2]; rfl) hr3 hr4 (by rw [hr2, fold_two]; exact ag_two hta rfl rfl) ?_
     refine WR.seq ?_
     refine Dx (fun _ _ h => False.elim h) rfl ?_
     refine Ge1 (A4 ty153 rfl) fun b8 => Ge0 (B4 ty153) ?_
     refine Bi (V.thenR ?_)
     refine WR.sub (L' := [(12, _), (34, _), (11, _), (7, _)]) (Ab rfl (Ab rfl (Ab rfl (Ab rfl Bp)))) ?_
     refine Dx (fun _ _ h => False.elim h) rfl ?_
     refine Ge1 (A4 ty48 rfl) fun b9 => Ge0 (B4 ty48) ?_
     refine Bi (V.begin (blk b9 [I64 (nd), .slice ga (edgesK (linksL ((allE kd wd mo es).take j1))).length gc] 48 :: blk b8 [I64 (tm), .bool (own)] 153 :: vc 135 (.slice ga (edgesK (linksL ((allE kd wd mo es).take j1))).length gc) (edgesK (linksL ((allE kd wd mo es).take j1))) :: dfrI Dm :: blk b4 [I64 (gn), .slice a X.length c] 48 :: vc 135 (.slice a X.length c) (X) :: T) Bw hr1 ?_)
     refine WR.block ?_
     refine WR.seq ?_
     refine WR.seq ?_
     refine Dx (fun _ _ h => False.elim h) rfl ?_
     refine Gf fld153_0 rfl (Gl ty3 ?_)
     refine Gr (Cu ty3 rfl (Cp hbq Az) rfl) (Gr (Bt rfl rfl) (Bi (V.thenR ?_)))
     refine WR.ite rfl (fun c38 => ?_) (fun c38 => ?_)
     ·refine WR.exit ?_
      exact As (Dt rfl (V.roundX (dfrI Dm :: blk b4 [I64 (gn), .slice a X.length c] 48 :: vc 135 (.slice a X.length c) (X) :: T) Bw (.inr ⟨rfl, (gn, a, c, X), (show (gn = nd ∧ X = atG kd wd mo es tq) from (at_left hM hjl om om hq)), rfl⟩)))
     ·refine WR.skip ?_
      refine V.thenR ?_
      refine Dx (fun _ _ h => False.elim h) rfl ?_
      refine Gl2 ty48 ?_
      refine Ge0 (B4 ty48) ?_
      refine Bi (Am ?_)
      have hall : ∀ i : Nat, i < j1 → (at_ (allE kd wd mo es) (i : Int)).tm ≤ tq := atm_all hM om (fun h => (hq h).2.2)
      exact V.roundB (dfrI Dm :: blk b4 [I64 (nd), .slice ga (edgesK (linksL ((allE kd wd mo es).take j1))).length gc] 48 :: vc 135 (.slice ga (edgesK (linksL ((allE kd wd mo es).take j1))).length gc) ((edgesK (linksL ((allE kd wd mo es).take j1)))) :: T) Bw hr1 (.inl ⟨rfl, (nd, ga, gc, edgesK (linksL ((allE kd wd mo es).take j1))), (show (false = false → nd = nd ∧ (edgesK (linksL ((allE kd wd mo es).take j1))) = edgesK (linksL ((allE kd wd mo es).take j1)) ∧ ∀ i : Nat, i < j1 → (at_ (allE kd wd mo es) (i : Int)).tm ≤ tq) ∧ (j1 ≤ (allE kd wd mo es).length) from ⟨(fun _ => ⟨rfl, rfl, hall⟩), hM.le.2⟩), rfl⟩)
    rintro v K ⟨rfl, (⟨⟨gn, a, c, X⟩, hp, rfl⟩ | ⟨⟨gn, a, c, X⟩, hp, rfl⟩)⟩
    ·obtain ⟨hq, hjl⟩ : (false = false → gn = nd ∧ X = edgesK (linksL ((allE kd wd mo es).take (allE kd wd mo es).length)) ∧ ∀ i : Nat, i < (allE kd wd mo es).length → (at_ (allE kd wd mo es) (i : Int)).tm ≤ tq) ∧ ((allE kd wd mo es).length ≤ (allE kd wd mo es).length) := hp
     refine .inl ⟨_, rfl, ?_⟩
     show V κ _ _ .normal ([(32, .func (.func 165) #[] #[.pointer (some ⟨qb5, 0, none⟩), .pointer (some ⟨qb6, 0, none⟩), .pointer (some ⟨qb7, 0, none⟩)]), (31, .agg #[I64 (kd), I64 (wd), I64 (mo)]), (30, .slice ea es.length ec), (29, I64 (nd)), (11, .pointer (some ⟨b4, 0, none⟩)), (27, .bool (decide (1048576 < tq))), (8, .pointer (some ⟨b3, 0, none⟩)), (7, .pointer (some ⟨b2, 0, none⟩)), (6, .pointer (some ⟨b1, 0, none⟩)), (0, I64 (nd)), (1, .slice ea es.length ec)] : Env) (dfrI Dm :: blk b4 [I64 (gn), .slice a X.length c] 48 :: vc 135 (.slice a X.length c) (X) :: blk qb7 [I64 (kd), I64 (wd), I64 (mo)] 31 :: blk qb6 [.slice ea es.length ec] 28 :: blk qb5 [I64 (nd)] 3 :: blk b3 [I64 (0), .slice none 0 0] 48 :: blk b2 [I64 (tq)] 3 :: blk b1 [I64 (kd), I64 (wd), I64 (mo)] 31 :: I)
     have hX : X = atG kd wd mo es tq := (hq rfl).2.1.trans (at_end (hq rfl).2.2)
     have hgn := (hq rfl).1
     refine Am (Ai (Ah (Gl2 ty48 ?_)))
     refine Ge0 (B4 ty48) ?_
     refine Ga rfl (Af (Ay ?_))
     rw [hX, hgn]
     refine V.fit (J := dfrI Dm :: blk b4 [I64 (nd), .slice a (atG kd wd mo es tq).length c] 48 :: vc 135 (.slice a (atG kd wd mo es tq).length c) ((atG kd wd mo es tq)) :: blk qb7 [I64 (kd), I64 (wd), I64 (mo)] 31 :: blk qb6 [.slice ea es.length ec] 28 :: blk qb5 [I64 (nd)] 3 :: blk b3 [I64 (nd), .slice a (atG kd wd mo es tq).length c] 48 :: blk b2 [I64 (tq)] 3 :: blk b1 [I64 (kd), I64 (wd), I64 (mo)] 31 :: I) Bw (V.leave ?_)
     exact Cz rfl ty48 rfl rfl mm rfl (vc 135 (.slice a (atG kd wd mo es tq).length c) (atG kd wd mo es tq) :: I) Bw ⟨a, c, rfl, rfl⟩
    ·have hQ : (gn = nd ∧ X = atG kd wd mo es tq) := hp
     refine .inr ⟨_, _, rfl, ?_⟩
     show W Tryz.prog κ _ _ _ ([(32, .func (.func 165) #[] #[.pointer (some ⟨qb5, 0, none⟩), .pointer (some ⟨qb6, 0, none⟩), .pointer (some ⟨qb7, 0, none⟩)]), (31, .agg #[I64 (kd), I64 (wd), I64 (mo)]), (30, .slice ea es.length ec), (29, I64 (nd)), (11, .pointer (some ⟨b4, 0, none⟩)), (27, .bool (decide (1048576 < tq))), (8, .pointer (some ⟨b3, 0, none⟩)), (7, .pointer (some ⟨b2, 0, none⟩)), (6, .pointer (some ⟨b1, 0, none⟩)), (0, I64 (nd)), (1, .slice ea es.length ec)] : Env) (dfrI Dm :: blk b4 [I64 (gn), .slice a X.length c] 48 :: vc 135 (.slice a X.length c) (X) :: blk qb7 [I64 (kd), I64 (wd), I64 (mo)] 31 :: blk qb6 [.slice ea es.length ec] 28 :: blk qb5 [I64 (nd)] 3 :: blk b3 [I64 (0), .slice none 0 0] 48 :: blk b2 [I64 (tq)] 3 :: blk b1 [I64 (kd), I64 (wd), I64 (mo)] 31 :: I)
     have hX := hQ.2
     have hgn := hQ.1
     refine Bu (Ba (Ai (Ah (Gl2 ty48 ?_))))
     refine Ge0 (B4 ty48) ?_
     refine Ga rfl (Af (Ay ?_))
     rw [hX, hgn]
     refine V.fit (J := dfrI Dm :: blk b4 [I64 (nd), .slice a (atG kd wd mo es tq).length c] 48 :: vc 135 (.slice a (atG kd wd mo es tq).length c) ((atG kd wd mo es tq)) :: blk qb7 [I64 (kd), I64 (wd), I64 (mo)] 31 :: blk qb6 [.slice ea es.length ec] 28 :: blk qb5 [I64 (nd)] 3 :: blk b3 [I64 (nd), .slice a (atG kd wd mo es tq).length c] 48 :: blk b2 [I64 (tq)] 3 :: blk b1 [I64 (kd), I64 (wd), I64 (mo)] 31 :: I) Bw (V.leave ?_)
     exact Cz rfl ty48 rfl rfl mm rfl (vc 135 (.slice a (atG kd wd mo es tq).length c) (atG kd wd mo es tq) :: I) Bw ⟨a, c, rfl, rfl⟩
end Go.Sl
/- The links at a time, asked from the events of the window up to it and from what has expired by then. No conditions. -/
namespace Go.Sl
def Due (wd : Int) (out : List Ev) : Prop := ∀ p e q, out = p ++ e :: q → ∀ x ∈ linksL p, e.tm ≤ x.tm + wd
theorem Due.nil {wd : Int} : Due wd [] := fun p e q h => by simp at h
theorem Due.app {wd : Int} {out new : List Ev} (h : Due wd out) (hn : ∀ p e q, new = p ++ e :: q → ∀ x ∈ linksL (out ++ p), e.tm ≤ x.tm + wd) : Due wd (out ++ new) := fun p e q he x hx => by
 rcases List.append_eq_append_iff.1 he with ⟨a, h1, h2⟩ | ⟨c, h1, h2⟩
 ·exact hn a e q h2 x (by rw [← h1]; exact hx)
 ·cases c with
  | nil =>
   rw [List.append_nil] at h1
   exact hn [] e q (by simpa using h2.symm) x (by rw [List.append_nil, h1]; exact hx)
  | cons y c =>
   rw [List.cons_append] at h2
   injection h2 with h3 h4
   subst h3
   exact h p e c h1 x hx
theorem steps_sub : ∀ (p : List Ev) (xs : List Lk), (∀ e ∈ p, e.kd ≠ 1) → ∀ x ∈ p.foldl stepL xs, x ∈ xs
 | [], xs, _, x, h => h
 | e :: p, xs, he, x, h => by
  have h1 := steps_sub p (stepL xs e) (fun y hy => he y (List.mem_cons_of_mem _ hy)) x h
  unfold stepL at h1; rw [if_neg (he e List.mem_cons_self)] at h1
  exact (List.mem_filter.1 h1).1
theorem linksL_app (a b : List Ev) : linksL (a ++ b) = b.foldl stepL (linksL a) := by unfold linksL; rw [List.foldl_append]
theorem gone_mem {kd wd mo nw : Int} {xs : List Lk} {e : Ev} (he : e ∈ goneL kd wd mo nw xs) : e.kd = 2 ∧ e.tm = nw := by
 unfold goneL at he
 obtain ⟨z, hz, rfl⟩ := List.mem_map.1 he
 exact ⟨rfl, rfl⟩
structure DueS (nd wd : Int) (xs : List Lk) (out : List Ev) : Prop where
 st : xs = linksL out
 val : checkS nd xs = 0
 due : Due wd out
theorem DueS.step {nd wd mo : Int} {xs : List Lk} {out : List Ev} (h : DueS nd wd xs out) (h0 : 0 < xs.length) : DueS nd wd (xs.filter (inW 2 wd mo (minT xs + wd) xs)) (out ++ goneL 2 wd mo (minT xs + wd) xs) := by
 refine ⟨by rw [linksL_app, ← h.st, gone_steps h.val], filter_val h.val, h.due.app fun p e q he x hx => ?_⟩
 have hall : ∀ y ∈ goneL 2 wd mo (minT xs + wd) xs, y.kd = 2 ∧ y.tm = minT xs + wd := fun y hy => gone_mem hy
 rw [he] at hall
 have h1 := (hall e (by simp)).2
 rw [linksL_app, ← h.st] at hx
 have h2 := steps_sub p xs (fun y hy => by rw [(hall y (by simp [hy])).1]; decide) x hx
 have h3 := (minT_spec h0).2 x h2
 omega
theorem DueS.all {nd wd mo : Int} {es : List Ev} (h : StOk nd es) (hw : 1 ≤ wd) : ∀ k, k ≤ es.length → DueS nd wd (slideS 2 wd mo (es.take k)).1 (slideS 2 wd mo (es.take k)).2
 | 0, _ => ⟨rfl, valNil h.nodes, .nil⟩
 | k + 1, hk => by
  have ih := DueS.all (mo := mo) h hw k om
  have hfe := h.fit k om
  rw [slideS_succ om]
  generalize slideS 2 wd mo (es.take k) = s at ih ⊢
  generalize at_ es (k : Int) = e at hfe ⊢
  obtain ⟨xs, out⟩ := s
  have hev : evStep 2 wd mo (xs, out) e = (stepL (ageL wd mo e.tm xs out).1 e, (ageL wd mo e.tm xs out).2 ++ [e]) := rfl
  rw [hev]
  obtain ⟨h1, h2⟩ := ageL_ind (mo := mo) (P := fun xs out => DueS nd wd xs out) (fun xs out hs hP => hP.step hs.1) xs.length xs out (Nat.le_refl _) ih
  generalize ageL wd mo e.tm xs out = a at h1 h2 ⊢
  refine ⟨by simp only; rw [linksL_app, ← h1.st]; rfl, stepL_val h1.val hfe, h1.due.app fun p y q he x hx => ?_⟩
  cases p with
  | nil =>
   rw [List.nil_append] at he
   injection he with h3 h4
   subst h3
   rw [List.append_nil, ← h1.st] at hx
   have h5 := (minT_spec (List.length_pos_of_mem hx)).2 x hx
   have h6 := List.length_pos_of_mem hx
   omega
  | cons z p => simp at he
theorem slide3_asc {nd mo : Int} {es : List Ev} (h : StOk nd es) : ∀ k, k ≤ es.length → (slideS 3 0 mo (es.take k)).2.Pairwise (fun a b => a.tm ≤ b.tm) ∧ ∀ e ∈ (slideS 3 0 mo (es.take k)).2, e.tm ≤ lastT es k
 | 0, _ => ⟨List.Pairwise.nil, fun e he => (by cases he)⟩
 | k + 1, hk => by
  have ih := slide3_asc (mo := mo) h k om
  have hto := h.asc k om
  rw [slideS_succ om, evStep3]
  generalize slideS 3 0 mo (es.take k) = s at ih ⊢
  generalize hee : at_ es (k : Int) = e at hto ⊢
  have hlt : lastT es (k + 1) = e.tm := by rw [lastT_succ, hee]
  rw [hlt]
  have hg : ∀ y ∈ goneL 3 0 mo e.tm (stepL s.1 e), y.tm = e.tm := fun y hy => (gone_mem hy).2
  have hb : ∀ y ∈ s.2 ++ [e], y.tm ≤ e.tm := fun y hy => by
   rcases List.mem_append.1 hy with hy | hy
   ·have := ih.2 y hy; omega
   ·rw [List.mem_singleton.1 hy]; exact Int.le_refl _
  refine ⟨List.pairwise_append.2 ⟨List.pairwise_append.2 ⟨ih.1, List.pairwise_singleton _ _, fun x hx y hy => ?_⟩, ?_, fun x hx y hy => ?_⟩, fun y hy => ?_⟩
  ·rw [List.mem_singleton.1 hy]; exact hb x (List.mem_append_left _ hx)
  ·refine List.Pairwise.imp_of_mem (R := fun _ _ => True) (fun hx hy _ => ?_) (List.pairwise_of_forall (fun _ _ => trivial))
   rw [hg _ hx, hg _ hy]; exact Int.le_refl _
  ·rw [hg y hy]; exact hb x hx
  ·rcases List.mem_append.1 hy with hy | hy
   ·exact hb y hy
   ·rw [hg y hy]; exact Int.le_refl _
section
variable {nd kd wd mo : Int} {es : List Ev}
theorem StOk.pw (h : StOk nd es) : es.Pairwise fun a b => a.tm ≤ b.tm := by
 rw [List.pairwise_iff_getElem]
 intro i j hi hj hij
 have h1 := h.up j om i hij
 have h2 := h.asc j hj
 rw [Dp es i hi] at h1
 rw [Dp es j hj] at h2
 omega
theorem HistOk.asc (h : HistOk nd kd wd mo es) : (slideS kd wd mo es).2.Pairwise fun a b => a.tm ≤ b.tm := by
 have he : es.take es.length = es := List.take_length
 rcases checkW_cases h.win with ⟨rfl, rfl, rfl⟩ | ⟨rfl, hw, rfl⟩ | ⟨rfl, rfl, hm⟩
 ·rw [all_same]; exact h.st.pw
 ·have := (BehB.all (mo := 0) h.st hw.1 es.length (Nat.le_refl _)).asc
  rwa [he] at this
 ·have := (slide3_asc (mo := mo) h.st es.length (Nat.le_refl _)).1
  rwa [he] at this
theorem HistOk.due (h : HistOk nd 2 wd mo es) : Due wd (slideS 2 wd mo es).2 := by
 have he : es.take es.length = es := List.take_length
 rcases checkW_cases h.win with ⟨h1, _⟩ | ⟨_, hw, _⟩ | ⟨h1, _⟩
 ·exact absurd h1 dc
 ·have := (DueS.all (mo := mo) h.st hw.1 es.length (Nat.le_refl _)).due
  rwa [he] at this
 ·exact absurd h1 dc
end
theorem takeWhile_filter {p : Ev → Bool} : ∀ {E : List Ev}, E.Pairwise (fun a b => p b = true → p a = true) → E.takeWhile p = E.filter p
 | [], _ => rfl
 | x :: E, h => by
  obtain ⟨h1, h2⟩ := List.pairwise_cons.1 h
  cases hp : p x with
  | true => rw [List.takeWhile_cons_of_pos hp, List.filter_cons_of_pos hp, takeWhile_filter h2]
  | false =>
   rw [List.takeWhile_cons_of_neg (by simp [hp]), List.filter_cons_of_neg (by simp [hp])]
   refine (List.filter_eq_nil_iff.2 fun y hy hy2 => ?_).symm
   rw [h1 y hy hy2] at hp; cases hp
def upT (T : Int) (e : Ev) : Bool := decide (e.tm ≤ T)
theorem up_asc {E : List Ev} (h : E.Pairwise fun a b => a.tm ≤ b.tm) (T : Int) : E.takeWhile (upT T) = E.filter (upT T) :=
 takeWhile_filter (h.imp fun hab hb => by unfold upT at hb ⊢; have := of_decide_eq_true hb; exact decide_eq_true om)
theorem split_up {E : List Ev} (h : E.Pairwise fun a b => a.tm ≤ b.tm) (T : Int) : (∀ e ∈ E, e.tm ≤ T) ∨ ∃ e q, E = E.filter (upT T) ++ e :: q ∧ T < e.tm := by
 rw [← up_asc h]
 have h1 := List.takeWhile_append_dropWhile (p := upT T) (l := E)
 cases hd : E.dropWhile (upT T) with
 | nil =>
  left
  rw [hd, List.append_nil, up_asc h] at h1
  intro e he
  rw [← h1] at he
  exact of_decide_eq_true (List.mem_filter.1 he).2
 | cons e q =>
  right
  refine ⟨e, q, by rw [← hd, h1], ?_⟩
  have hne : E.dropWhile (upT T) ≠ [] := by rw [hd]; simp
  have h2 := List.head_dropWhile_not (upT T) hne
  have h3 : (E.dropWhile (upT T)).head hne = e := by simp only [hd, List.head_cons]
  rw [h3] at h2
  unfold upT at h2
  have := of_decide_eq_false h2
  omega
def refK (kd wd mo : Int) (es : List Ev) (T : Int) : List Lk :=
 if kd = 2 then (linksL ((slideS kd wd mo es).2.filter (upT T))).filter (aliveB wd T) else linksL ((slideS kd wd mo es).2.filter (upT T))
theorem place_spec (l : List Ev) (x : Ev) : ∀ n, n ≤ l.length → placeG evC l x n ≤ n ∧ (∀ i : Nat, placeG evC l x n ≤ i → i < n → x.tm < (at_ l (i : Int)).tm) ∧ (0 < placeG evC l x n → (at_ l ((placeG evC l x n - 1 : Nat) : Int)).tm ≤ x.tm)
 | 0, _ => ⟨Nat.le_refl _, fun i h1 h2 => by omega, fun h => absurd h (Nat.lt_irrefl 0)⟩
 | n + 1, hn => by
  unfold placeG
  split
  ·rename_i h
   obtain ⟨h1, h2, h3⟩ := place_spec l x n om
   refine ⟨by omega, fun i hi hlt => ?_, h3⟩
   by_cases e : i = n
   ·subst e; exact evC_neg.1 h
   ·exact h2 i hi om
  ·rename_i h
   refine ⟨Nat.le_refl _, fun i h1 h2 => by omega, fun _ => ?_⟩
   have : ¬ x.tm < (at_ l (n : Int)).tm := fun hh => h (evC_neg.2 hh)
   show (at_ l (n : Int)).tm ≤ x.tm
   omega
theorem insert_asc {l : List Ev} (h : l.Pairwise fun a b => a.tm ≤ b.tm) (x : Ev) : (insertG evC l x).Pairwise fun a b => a.tm ≤ b.tm := by
 obtain ⟨h1, h2, h3⟩ := place_spec l x l.length (Nat.le_refl _)
 unfold insertG insG
 generalize placeG evC l x l.length = p at h1 h2 h3
 have hg := List.pairwise_iff_getElem.1 h
 have ha : ∀ a ∈ l.take p, a.tm ≤ x.tm := fun a ha => by
  obtain ⟨i, hi, rfl⟩ := List.getElem_of_mem ha
  rw [List.length_take] at hi
  rw [List.getElem_take]
  have h4 := h3 om
  rw [Dp l (p - 1) om] at h4
  by_cases e : i = p - 1
  ·subst e; exact h4
  ·have := hg i (p - 1) om om om; omega
 have hb : ∀ b ∈ l.drop p, x.tm ≤ b.tm := fun b hb => by
  obtain ⟨i, hi, rfl⟩ := List.getElem_of_mem hb
  rw [List.length_drop] at hi
  rw [List.getElem_drop]
  have h4 := h2 (p + i) om om
  rw [Dp l (p + i) om] at h4
  omega
 refine List.pairwise_append.2 ⟨h.sublist (List.take_sublist _ _), List.pairwise_cons.2 ⟨hb, h.sublist (List.drop_sublist _ _)⟩, fun a ha' b hb' => ?_⟩
 rcases List.mem_cons.1 hb' with rfl | hb'
 ·exact ha a ha'
 ·have h5 := ha a ha'; have h6 := hb b hb'; omega
theorem isortC_acc : ∀ (xs acc : List Ev), acc.Pairwise (fun a b => a.tm ≤ b.tm) → (xs.foldl (insertG evC) acc).Pairwise fun a b => a.tm ≤ b.tm
 | [], acc, h => h
 | x :: xs, acc, h => isortC_acc xs _ (insert_asc h x)
theorem isortC_asc (xs : List Ev) : (isortG evC xs).Pairwise fun a b => a.tm ≤ b.tm := isortC_acc xs [] List.Pairwise.nil
theorem cutsE_filter : ∀ (E : List Ev) (xs : List Lk), (∀ e ∈ E, e.kd ≠ 1) → E.foldl stepL xs = xs.filter fun x => E.all fun e => !hitE e x
 | [], xs, _ => (List.filter_eq_self.2 fun _ _ => rfl).symm
 | e :: E, xs, h => by
  have h1 : stepL xs e = xs.filter fun x => !hitE e x := by unfold stepL; rw [if_neg (h e List.mem_cons_self)]
  rw [List.foldl_cons, h1, cutsE_filter E _ (fun y hy => h y (List.mem_cons_of_mem _ hy)), List.filter_filter]
  refine List.filter_congr fun x _ => ?_
  rw [List.all_cons, Bool.and_comm]
theorem hit_cutAt {wd : Int} {z x : Lk} (hz : z.u < z.v) : hitE (cutAt wd z) x = decide (x.p = z.p) := by
 rw [hit_two (show (cutAt wd z).kd = 2 from rfl)]
 have : (lkOf (cutAt wd z)).p = z.p := by
  rw [lk_p]; unfold lkOf cutAt; simp only
  rw [if_neg om, if_pos hz]; exact ⟨rfl, rfl⟩
 rw [this]
section
variable {nd kd wd mo T : Int} {es : List Ev}
theorem HistOk.all_asc (h : HistOk nd kd wd mo es) : (allE kd wd mo es).Pairwise fun a b => a.tm ≤ b.tm := by
 unfold allE
 refine List.pairwise_append.2 ⟨h.asc, isortC_asc _, fun x hx y hy => ?_⟩
 have hy := (isort_permG _ _).mem_iff.1 hy
 unfold lateL at hy
 obtain ⟨z, hz, rfl⟩ := List.mem_map.1 hy
 obtain ⟨h1, h2⟩ := List.mem_filter.1 hz
 unfold lateP at h2
 have h2 := of_decide_eq_true h2
 show x.tm ≤ z.tm + wd
 rcases checkW_cases h.win with ⟨e1, _⟩ | ⟨e1, hw, e3⟩ | ⟨e1, _⟩
 ·omega
 ·subst e1
  have he : es.take es.length = es := List.take_length
  have hB := BehB.all (mo := mo) h.st hw.1 es.length (Nat.le_refl _)
  rw [he] at hB
  rw [← h.links] at h1
  have h3 := hB.le x hx
  have h4 := hB.inv.al rfl z h1
  omega
 ·omega
theorem linksL_val (h : HistOk nd kd wd mo es) {E : List Ev} (hE : ∀ e ∈ E, FitOk nd e) : checkS nd (linksL E) = 0 := steps_val h.st.nodes _ _ (valNil h.st.nodes) hE
theorem atK_ref (h : HistOk nd kd wd mo es) (hT : 0 ≤ T ∧ T ≤ 1048576) : atK kd wd mo es T = refK kd wd mo es T := by
 have e0 : atK kd wd mo es T = linksL ((allE kd wd mo es).filter (upT T)) := by
  unfold atK; rw [← up_asc h.all_asc]; rfl
 rw [e0]
 unfold allE refK
 rw [List.filter_append]
 by_cases hk : kd = 2
 ·rw [if_pos hk]
  subst hk
  have hfit := h.fit
  have hvS : checkS nd (linksL ((slideS 2 wd mo es).2.filter (upT T))) = 0 := linksL_val h fun e he => hfit e (List.mem_filter.1 he).1
  rcases split_up h.asc T with hall | ⟨e, q, he, hTe⟩
  ·have hS : (slideS 2 wd mo es).2.filter (upT T) = (slideS 2 wd mo es).2 := List.filter_eq_self.2 fun e he => decide_eq_true (hall e he)
   rw [hS] at hvS ⊢
   rw [linksL_app]
   generalize linksL (slideS 2 wd mo es).2 = X at hvS
   have hm : ∀ y, y ∈ (isortG evC (lateL 2 wd X)).filter (upT T) ↔ ∃ z ∈ X, z.tm + wd ≤ T ∧ y = cutAt wd z := fun y => by
    rw [List.mem_filter, (isort_permG evC (lateL 2 wd X)).mem_iff]
    unfold lateL
    rw [List.mem_map]
    constructor
    ·rintro ⟨⟨z, hz, rfl⟩, h2⟩
     exact ⟨z, (List.mem_filter.1 hz).1, of_decide_eq_true h2, rfl⟩
    ·rintro ⟨z, hz, h2, rfl⟩
     exact ⟨⟨z, List.mem_filter.2 ⟨hz, decide_eq_true ⟨rfl, by omega⟩⟩, rfl⟩, decide_eq_true h2⟩
   rw [cutsE_filter _ X (fun y hy => by obtain ⟨z, _, _, rfl⟩ := (hm y).1 hy; show (2 : Int) ≠ 1; decide)]
   refine List.filter_congr fun x hx => ?_
   unfold aliveB
   rw [Bool.eq_iff_iff, List.all_eq_true, decide_eq_true_eq]
   constructor
   ·intro hh
    refine Classical.byContradiction fun hn => ?_
    have h1 := hh _ ((hm _).2 ⟨x, hx, by omega, rfl⟩)
    rw [hit_cutAt (val_uv hvS x hx).2.1] at h1
    simp at h1
   ·intro hh y hy
    obtain ⟨z, h1, h2, rfl⟩ := (hm y).1 hy
    have hne : x.p ≠ z.p := fun hp => by
     have := asc_p (checkS_ok hvS).2.2 hx h1 hp
     subst this; omega
    rw [hit_cutAt (val_uv hvS z h1).2.1]
    simp [hne]
  ·have hnil : (isortG evC (lateL 2 wd (linksL (slideS 2 wd mo es).2))).filter (upT T) = [] := by
    refine List.filter_eq_nil_iff.2 fun y hy hy2 => ?_
    have hy3 := of_decide_eq_true hy2
    have h1 := (List.pairwise_append.1 h.all_asc).2.2 e (by rw [he]; simp) y hy
    omega
   rw [hnil, List.append_nil]
   refine (List.filter_eq_self.2 fun x hx => ?_).symm
   have := h.due _ e q he x hx
   unfold aliveB
   exact decide_eq_true om
 ·rw [if_neg hk]
  have hl : lateL kd wd (linksL (slideS kd wd mo es).2) = [] := by
   unfold lateL
   rw [List.filter_eq_nil_iff.2 fun x _ hx => by unfold lateP at hx; exact hk (of_decide_eq_true hx).1]
   rfl
  rw [hl]
  have : (isortG evC ([] : List Ev)).filter (upT T) = [] := rfl
  rw [this, List.append_nil]
end
end Go.Sl
namespace Go.Sl
variable {P : Program} {κ : Ctx} {N : Frm} {L : Env} {I : List Item}
end Go.Sl
namespace Go.Sl
variable {P : Program} {κ : Ctx} {N : Frm} {L : Env} {I : List Item}
theorem V.retv3 {fn : Func} {t u s : Tmp} {T U S b b' b2 E E' E2 by' by2 by3 : Nat} {z z' z2 : List Value} {v v' v2 : Value} {Post : Value → List Item → Prop} (hr : fn.results = #[.cell t T, .cell u U, .cell s S]) (hT : tyF P T = some (1, false, by', z)) (hU : tyF P U = some (1, false, by2, z')) (hS : tyF P S = some (1, false, by3, z2))
  (hv : look L t = some (.pointer (some ⟨b, 0, none⟩))) (hv' : look L u = some (.pointer (some ⟨b', 0, none⟩))) (hv2 : look L s = some (.pointer (some ⟨b2, 0, none⟩))) (hb : blk b [v] E ∈ I) (hb' : blk b' [v'] E' ∈ I) (hb2 : blk b2 [v2] E2 ∈ I)
  (J : List Item) (hf : Fit κ I J) (hp : Post (.tuple #[v, v', v2]) J) (h0 : N.ds = [] := by rfl) : V κ N (bodyPost P fn (RetR κ Post)) .ret L I :=
 fun a w ha hs => by
  have hcell : w.cell? ⟨b, 0, none⟩ = some v := by rw [cell_blk (w := w) (hs.ok _ hb).1 0]; rfl
  have hcell2 : w.cell? ⟨b', 0, none⟩ = some v' := by rw [cell_blk (w := w) (hs.ok _ hb').1 0]; rfl
  have hcell3 : w.cell? ⟨b2, 0, none⟩ = some v2 := by rw [cell_blk (w := w) (hs.ok _ hb2).1 0]; rfl
  have hload : (loadVar T ⟨b, 0, none⟩).run P w = .ok v w := run_loadVar_one hT hcell
  have hload2 : (loadVar U ⟨b', 0, none⟩).run P w = .ok v' w := run_loadVar_one hU hcell2
  have hload3 : (loadVar S ⟨b2, 0, none⟩).run P w = .ok v2 w := run_loadVar_one hS hcell3
  refine bodyPost_ret (v := .tuple #[v, v', v2]) ?_ (ha.defers.trans h0) ⟨_, J, rfl, hp, hf w hs⟩
  simp [results, hr, ha.get t _ hv, ha.get u _ hv', ha.get s _ hv2, asAddr, hload, hload2, hload3]
theorem V.retttc {fn : Func} {t u s : Tmp} {T b E sz by' : Nat} {z cs : List Value} {v v' : Value} {Post : Value → List Item → Prop} (hr : fn.results = #[.tmp t, .tmp u, .cell s T]) (hT : tyF P T = some (sz, true, by', z)) (hv : look L t = some v) (hv' : look L u = some v') (hs' : look L s = some (.pointer (some ⟨b, 0, none⟩))) (hb : blk b cs E ∈ I) (hl : cs.length = sz)
  (J : List Item) (hf : Fit κ I J) (hp : Post (.tuple #[v, v', .agg cs.toArray]) J) (h0 : N.ds = [] := by rfl) : V κ N (bodyPost P fn (RetR κ Post)) .ret L I :=
 fun a w ha hs => by
  have hcell := fun j => cell_blk (w := w) (hs.ok _ hb).1 j
  have hload : (loadVar T ⟨b, 0, none⟩).run P w = .ok (.agg cs.toArray) w := run_loadVar_agg hT hl fun j u hj => by rw [addr_add, hcell, ← hj]; simp
  refine bodyPost_ret (v := .tuple #[v, v', .agg cs.toArray]) ?_ (ha.defers.trans h0) ⟨_, J, rfl, hp, hf w hs⟩
  simp [results, hr, ha.get t _ hv, ha.get u _ hv', ha.get s _ hs', asAddr, hload]
end Go.Sl
namespace Go.Sl
open Go.Proofs
set_option maxRecDepth 4000
section
variable {za zb : List Int} {i j : Nat} {out : List Int}
end
variable {κ : Ctx} {I : List Item}
theorem Nothing_ok  :
    CallS Tryz.prog κ 168 [] I (fun r J => r = .agg #[.slice none 0 0, I64 0, I64 1, I64 1, .slice none 0 0] ∧ I = J) := by
 refine Ce0 Tryz.func168 rfl rfl ?_
 refine Ah (Ge1 (A4 ty102 rfl) fun b1 => Af (Ah (Gr (Bg (cells := [_, _]) ty40 D7 pl40 rfl rfl) (Gr (Bg (cells := [_, _]) ty88 Tryz.underlying88 pl88 rfl rfl) (Gr (Bg (cells := [_, _, _, _, _]) ty102 D4 pl102 rfl rfl) (Ge0 (Es5_5 ty102) ?_))))))
 exact Af (Ay (Dh rfl ty102 rfl mm rfl (I) Az ⟨rfl, rfl⟩))
structure BestR (nd : Int) (es : List Pt) (N D : Int) (B : BitVec 64) : Prop where
 err : checkG nd es ≠ 0 → N = 0 ∧ D = 0 ∧ B = 0#64
 none : checkG nd es = 0 → nd = 0 → N = 0 ∧ D = 1 ∧ B = 0#64
 some : checkG nd es = 0 → nd ≠ 0 → DensR nd es N D B
set_option maxHeartbeats 1000000 in
theorem BestD_ok {nd : Int} {ea : Option Addr} {ec : Nat} {es : List Pt} (hl : Sl κ I (.slice ea es.length ec) es) (hT : TabRd κ I 0 tzCells) :
    CallS Tryz.prog κ 100 [.agg #[I64 (nd), .slice ea es.length ec]] I (fun r J => ∃ a c B a2 c2 parts N D E, r = .tuple #[.agg #[.slice a (listB B).length c, I64 N, I64 D, I64 E, .slice a2 (parts : List Int).length c2], I64 (checkG nd es)] ∧ BestR nd es N D B ∧ J = vc 3 (.slice a (listB B).length c) (listB B) :: vc 3 (.slice a2 parts.length c2) parts :: I) := by
 refine Ce1 Tryz.func100 rfl rfl ?_
 refine Ah (Ge1 (Bd (cs := [_, _]) rfl rfl rfl) fun b1 => Ge1 (A4 ty102 rfl) fun b2 => Ga rfl (Af (Ax (Ah (Gl2 ty48 ?_)))))
 refine Gc0 (Ap call83 rfl rfl (CheckGen_ok (Bh hl))) ?_
 refine Ga rfl (Af (Ah (Gm rfl (Gr (Be rfl rfl) (Gm rfl (A6 (d := 11) rfl (fun g11 => ?_) (fun g11 => ?_)))))))
 ·refine Gpo (Gpo (Gpo (Gr (Al rfl rfl) (Af (Ar (S4 15 4 2 1 rfl rfl rfl rfl) (B6 rfl (Ax (Ah (Gm rfl (Gr (Be rfl rfl) (Af (A7 rfl (fun c17 => ?_) (fun c17 => ?_)))))))))))))
  ·refine Ah (Gr (Bg (cells := [_, _, _, _, _]) ty102 D4 pl102 rfl rfl) (Gm rfl (Ge0 (Es5_5 ty102) ?_)))
   exact Ga rfl (Af (Ay (Ad (Ad (Cz rfl ty102 rfl rfl mm rfl (vc 3 (.slice none (listB 0#64).length 0) (listB 0#64) :: vc 3 (.slice none ([] : List Int).length 0) ([] : List Int) :: I) (by rw [Cw]; exact Cj (show Fit κ _ I from Az) (Cj (Bv (α := Int) _ _) (Bv (α := Int) _ _))) ⟨none, 0, 0#64, none, 0, [], 0, 0, 0, by rw [Cw]; rfl, ⟨fun _ => ⟨rfl, rfl, rfl⟩, fun h => absurd h c17, fun h => absurd h c17⟩, rfl⟩)))))
  ·refine A0 (Ai (Ah (Gc0 (Ap call168 rfl rfl Nothing_ok) ?_)))
   refine Ge0 (Es5_5 ty102) ?_
   refine Ga rfl (Af (Ay (Ad ?_)))
   have hz : checkG nd es = 0 := Classical.not_not.1 c17
   have hn0 : nd = 0 := by first | exact c15 | exact absurd g11 c17
   exact Cz rfl ty102 rfl rfl mm rfl (vc 3 (.slice none (listB 0#64).length 0) (listB 0#64) :: vc 3 (.slice none ([] : List Int).length 0) ([] : List Int) :: I) (by rw [Cw]; exact Cj (show Fit κ _ I from Az) (Cj (Bv (α := Int) _ _) (Bv (α := Int) _ _))) ⟨none, 0, 0#64, none, 0, [], 0, 1, 1, by rw [Cw, hz]; rfl, ⟨fun h => absurd hz h, fun _ _ => ⟨rfl, rfl, rfl⟩, fun _ h => absurd hn0 h⟩, rfl⟩
 ·refine Gro (Aa fld48_0 rfl) (Gro (Aq ty3) ?_)
  refine Gro (Bf rfl rfl) (Gr (Aj rfl rfl) (Af (Ar (S4 15 4 2 1 rfl rfl rfl rfl) (A7 rfl (fun c15 => ?_) (fun c15 => ?_)))))
  ·refine Ax (Ah (Gm rfl (Gr (Be rfl rfl) (Af (A7 rfl (fun c17 => ?_) (fun c17 => ?_))))))
   ·refine Ah (Gr (Bg (cells := [_, _, _, _, _]) ty102 D4 pl102 rfl rfl) (Gm rfl (Ge0 (Es5_5 ty102) ?_)))
    exact Ga rfl (Af (Ay (Ad (Ad (Cz rfl ty102 rfl rfl mm rfl (vc 3 (.slice none (listB 0#64).length 0) (listB 0#64) :: vc 3 (.slice none ([] : List Int).length 0) ([] : List Int) :: I) (by rw [Cw]; exact Cj (show Fit κ _ I from Az) (Cj (Bv (α := Int) _ _) (Bv (α := Int) _ _))) ⟨none, 0, 0#64, none, 0, [], 0, 0, 0, by rw [Cw]; rfl, ⟨fun _ => ⟨rfl, rfl, rfl⟩, fun h => absurd h c17, fun h => absurd h c17⟩, rfl⟩)))))
   ·refine A0 (Ai (Ah (Gc0 (Ap call168 rfl rfl Nothing_ok) ?_)))
    refine Ge0 (Es5_5 ty102) ?_
    refine Ga rfl (Af (Ay (Ad ?_)))
    have hz : checkG nd es = 0 := Classical.not_not.1 c17
    have hn0 : nd = 0 := by first | exact c15 | exact absurd g11 c17
    exact Cz rfl ty102 rfl rfl mm rfl (vc 3 (.slice none (listB 0#64).length 0) (listB 0#64) :: vc 3 (.slice none ([] : List Int).length 0) ([] : List Int) :: I) (by rw [Cw]; exact Cj (show Fit κ _ I from Az) (Cj (Bv (α := Int) _ _) (Bv (α := Int) _ _))) ⟨none, 0, 0#64, none, 0, [], 0, 1, 1, by rw [Cw, hz]; rfl, ⟨fun h => absurd hz h, fun _ _ => ⟨rfl, rfl, rfl⟩, fun _ h => absurd hn0 h⟩, rfl⟩
  ·refine A0 (Ai (Ah (Gl2 ty48 ?_)))
   have hz : checkG nd es = 0 := by first | exact Classical.not_not.1 g11 | omega
   have hG := checkG_ok.1 hz
   have hm := edges_le hG
   have hrng := hG.rng
   have hnd : 1 ≤ nd := by omega
   refine G.e (Ap call169 rfl rfl (Plain_ok (Bh hl) hm hG.rng)) ?_
   rintro _ _ ⟨_, _, ⟨aw, cw, ab, cb, ak, ck, ws, bs, cs, rfl, hPl, rfl⟩, rfl, rfl⟩
   refine G.e (Ap call170 rfl rfl (Densest_ok (Bh hl) Bo Bo Bo hG hm hPl om (Cd hT Az))) ?_
   rintro _ _ ⟨_, _, ⟨Bn, pa, pc, parts, Nn, Dd, rfl, hS, hpl, rfl⟩, rfl, rfl⟩
   refine Gm rfl (Gr (A1 rfl rfl) (Gr (A1 rfl rfl) (Ge1 (A4 ty208 rfl) fun b3 => Ge1 (A4 ty40 rfl) fun b4 => Ge0 (B4 ty208) ?_)))
   refine Ge0 (B4 ty40) ?_
   refine Af (Ax (Bj mixed (Br (blk b4 [I64 (Nn), I64 (Dd)] 40 :: blk b3 [U64 (Bn), .slice pa parts.length pc] 208 :: vc 3 (.slice pa parts.length pc) (parts) :: vc 3 (.slice ak cs.length ck) (cs) :: vc 3 (.slice aw ws.length cw) (ws) :: vc 3 (.slice ab bs.length cb) (bs) :: blk b2 [.slice none 0 0, I64 (0), I64 (0), I64 (0), .slice none 0 0] 102 :: blk b1 [I64 (nd), .slice ea es.length ec] 48 :: I) 10 (Dr 0 rfl (Aa fld208_0 rfl) (Dr 1 rfl (Aq ty175) ?_)))))
   refine Dr 3 rfl (Bk (vs := [_, _]) ty40) ?_
   refine Dr 4 rfl (Aa fld40_1 rfl) (Dr 5 rfl (Aq ty3) ?_)
   refine Dr 6 rfl (Aa fld208_1 rfl) (Dr 7 rfl (Aq ty22) ?_)
   refine Dr 8 rfl (Bg (cells := [_, _]) ty88 Tryz.underlying88 pl88 rfl rfl) (Ds1 2 (Sc2 rfl (Ap call171 rfl rfl (MList_ok Bn (Cd hT Az))) fun ad5 cp6 => ?_))
   refine Dr 9 rfl (Bg (cells := [_, _, _, _, _]) ty102 D4 pl102 rfl rfl) (Db kr ?_)
   refine Ae 10 rfl (Es5_5 ty102) ?_
   rintro _ _ ⟨rfl, rfl⟩
   refine A.read (i := 11) kr rfl (B9 rfl) rfl rfl (A9 rfl) ?_
   refine Dc kr ?_
   exact Ai (Ar (S2 3 2 rfl rfl) (Ay (Cz rfl ty102 rfl rfl mm rfl (vc 3 (.slice ad5 (listB Bn).length cp6) (listB Bn) :: vc 3 (.slice pa parts.length pc) parts :: I) Bw ⟨ad5, cp6, Bn, pa, pc, parts, Nn, Dd, Dd, by rw [hz] <;> rfl, ⟨fun h => absurd hz h, fun _ h => absurd h om, fun _ _ => hS⟩, rfl⟩)))
end Go.Sl
namespace Go.Sl
end Go.Sl
namespace Go.Sl
open Go.RowKit (Below)
section
variable {α : Type} [Enc α] [DecidableEq α]
section
variable {P : Program} {κ : Ctx} {N : Frm} {Q : Exit → Act → World → Prop} {L : Env} {I J : List Item} {ops : Array Oper} {rest : List Oper}
variable {d : Option Tmp} {ty : TypeId} {ps : String} {af : Array Edge} {gd : Option (Nat × Bool)}
end
end
end Go.Sl
namespace Go.Sl
open Go.Proofs
set_option maxRecDepth 4000
variable {κ : Ctx} {I : List Item}
structure FrV (x : Fr) : Prop where
 n0 : 0 ≤ x.num
 n1 : x.num ≤ 1073741824
 d0 : 1 ≤ x.den
 d1 : x.den ≤ 1073741824
 cop : gcdI x.num x.den = 1
theorem mkF_val {a b : Int} (h0 : 0 ≤ a) (h1 : a ≤ 1073741824) (h2 : 0 < b) (h3 : b ≤ 1073741824) : FrV (mkF a b) := by
 have hn := mkF_num h0 h2
 have hd := mkF_den (a := a) h2
 refine ⟨hn.1, by omega, hd.1, by omega, ?_⟩
 obtain ⟨m, rfl⟩ := Int.eq_ofNat_of_zero_le h0
 obtain ⟨n, rfl⟩ := Int.eq_ofNat_of_zero_le (show 0 ≤ b by omega)
 have hg : 0 < m.gcd n := Nat.gcd_pos_of_pos_right _ om
 have hc := Nat.coprime_div_gcd_div_gcd hg
 unfold mkF gcdI
 simp only [Int.toNat_natCast, Int.ofNat_eq_natCast, ← Int.natCast_ediv]
 rw [hc.gcd_eq_one]; rfl
def cmpF (x y : Fr) : Int := if x.num * y.den < y.num * x.den then -1 else if y.num * x.den < x.num * y.den then 1 else 0
def sgnI (n : Int) : Int := if n < 0 then -1 else if 0 < n then 1 else 0
theorem sgn_bd (n : Int) : -1 ≤ sgnI n ∧ sgnI n ≤ 1 := by unfold sgnI; split <;> (try split) <;> omega
theorem mul_small {x y : Int} (hx : 0 ≤ x ∧ x ≤ 1073741824) (hy : 0 ≤ y ∧ y ≤ 1073741824) : 0 ≤ x * y ∧ x * y ≤ 1152921504606846976 := by
 refine ⟨Int.mul_nonneg hx.1 hy.1, ?_⟩
 have h1 := Int.mul_le_mul hx.2 hy.2 hy.1 dc
 omega
theorem FrV.mul {x y : Fr} (hx : FrV x) (hy : FrV y) : (0 ≤ x.num * y.den ∧ x.num * y.den ≤ 1152921504606846976) ∧ (0 < x.num → 0 < x.num * y.den) := by
 have h1 := hx.n0; have h2 := hx.n1; have h3 := hy.d0; have h4 := hy.d1
 exact ⟨mul_small ⟨h1, h2⟩ ⟨by omega, h4⟩, fun h => Int.mul_pos h om⟩
theorem Mul64_ok (x y : Int) (hx : 0 ≤ x ∧ x ≤ 1073741824) (hy : 0 ≤ y ∧ y ≤ 1073741824) :
    CallS Tryz.prog κ 173 [.int .u64 (x), .int .u64 (y)] I (fun r J => r = .tuple #[.int .u64 0, .int .u64 (x * y)] ∧ I = J) := by
 have hxy := mul_small hx hy
 refine Ce2 Tryz.func173 rfl rfl ?_
 exact Ah (Ga rfl (Ga rfl (Af (Ah (Gm rfl (Gr (Runs.lowU (m := x) (r := x) rfl rfl om om om) (Ga rfl (Af (Ah (Gm rfl (Gr (Runs.shr32 (m := x) (r := 0) rfl rfl om) (Ga rfl (Af (Ah (Gm rfl (Gr (Runs.lowU (m := y) (r := y) rfl rfl om om om) (Ga rfl (Af (Ah (Gm rfl (Gr (Runs.shr32 (m := y) (r := 0) rfl rfl om) (Ga rfl (Af (Ar (S6 9 8 7 6 0 1 rfl rfl rfl rfl rfl rfl) (Ah (Gm rfl (Gm rfl (Gr (Runs.mulU (m := x) (n := y) (r := x * y) rfl rfl rfl om om) (Ga rfl (Af (Ah (Gm rfl (Gm rfl (Gr (Runs.mulU (m := 0) (n := y) (r := 0) rfl rfl (Int.zero_mul _) om om) (Gm rfl (Gr (Runs.shr32 (m := x * y) (r := x * y / 4294967296) rfl rfl om) (Gr (Runs.addU (m := 0) (n := x * y / 4294967296) (r := x * y / 4294967296) rfl rfl om om om) (Ga rfl (Af (Ar (S6 11 9 7 6 0 1 rfl rfl rfl rfl rfl rfl) (Ah (Gm rfl (Gr (Runs.lowU (m := x * y / 4294967296) (r := x * y / 4294967296) rfl rfl om om om) (Ga rfl (Af (Ah (Gm rfl (Gr (Runs.shr32 (m := x * y / 4294967296) (r := 0) rfl rfl om) (Ga rfl (Af (Ah (Gm rfl (Gm rfl (Gm rfl (Gr (Runs.mulU (m := x) (n := 0) (r := 0) rfl rfl (Int.mul_zero _) om om) (Gr (Runs.addU (m := x * y / 4294967296) (n := 0) (r := x * y / 4294967296) rfl rfl om om om) (Ga rfl (Af (Ar (S6 12 13 9 7 0 1 rfl rfl rfl rfl rfl rfl) (Ah (Gm rfl (Gm rfl (Gr (Runs.mulU (m := 0) (n := 0) (r := 0) rfl rfl (Int.zero_mul _) om om) (Gm rfl (Gr (Runs.addU (m := 0) (n := 0) (r := 0) rfl rfl om om om) (Gm rfl (Gr (Runs.shr32 (m := x * y / 4294967296) (r := 0) rfl rfl om) (Gr (Runs.addU (m := 0) (n := 0) (r := 0) rfl rfl om om om) (Ga rfl (Af (Ar (S3 4 0 1 rfl rfl rfl) (Ah (Gm rfl (Gm rfl (Gr (Runs.mulU (m := x) (n := y) (r := x * y) rfl rfl rfl om om) (Ga rfl (Af (Ay (C6 rfl rfl rfl (I) Az ⟨rfl, rfl⟩)))))))))))))))))))))))))))))))))))))))))))))))))))))))))))))))))))))))))))))))
theorem Sign_ok (n : Int) :
    CallS Tryz.prog κ 172 [I64 (n)] I (fun r J => r = I64 (sgnI n) ∧ I = J) := by
 refine Ce1 Tryz.func172 rfl rfl ?_
 refine Ah (Ga rfl (Af (Ax (A5 (Ah (Gm rfl (Gr (Bb rfl rfl) (Ga rfl (Af (A7 rfl (fun c3 => ?_) (fun c3 => ?_)))))))))))
 ·exact Ah (Ga rfl (Af (Ay (Au (Ad (Av rfl rfl (I) Az ⟨by unfold sgnI; first | rw [if_pos c3] | rw [if_neg c3, if_pos c6] | rw [if_neg c3, if_neg c6], rfl⟩))))))
 ·refine Ah (Gm rfl (Gr (Bt rfl rfl) (Ga rfl (Af (A7 rfl (fun c6 => ?_) (fun c6 => ?_))))))
  ·exact Ah (Ga rfl (Af (Ay (Au (Ad (Av rfl rfl (I) Az ⟨by unfold sgnI; first | rw [if_pos c3] | rw [if_neg c3, if_pos c6] | rw [if_neg c3, if_neg c6], rfl⟩))))))
  ·exact A0 (Am (Ai (Ah (Ga rfl (Af (Ay (Av rfl rfl (I) Az ⟨by unfold sgnI; first | rw [if_pos c3] | rw [if_neg c3, if_pos c6] | rw [if_neg c3, if_neg c6], rfl⟩)))))))
theorem RatValid_ok (x : Fr) (hx : FrV x) :
    CallS Tryz.prog κ 89 [.agg #[I64 (x.num), I64 (x.den)]] I (fun r J => r = .bool true ∧ I = J) := by
 have hn0x := hx.n0
 have hn1x := hx.n1
 have hd0x := hx.d0
 have hd1x := hx.d1
 refine Ce1 Tryz.func89 rfl rfl ?_
 refine Ah (Ge1 (Bd (cs := [_, _]) rfl rfl rfl) fun b1 => Ga rfl (Af (Ah (Gf fld40_0 rfl (Gl ty3 ?_)))))
 refine G.e (Ap call157 rfl rfl (RWithin_ok x.num 1152921504606846976 om)) ?_
 rintro _ _ ⟨_, _, ⟨rfl, rfl⟩, rfl, rfl⟩
 refine Gm rfl (A6 (d := 6) rfl (fun g6 => ?_) (fun g6 => ?_))
 ·refine Gro (Aa fld40_1 rfl) (Gro (Aq ty3) ?_)
  refine Gro (B7 rfl rfl) (Gr (Al rfl rfl) (Gm rfl (A6 (d := 11) rfl (fun g11 => ?_) (fun g11 => ?_))))
  ·refine Gro (Aa fld40_1 rfl) (Gro (Aq ty3) ?_)
   refine Gro (Dn rfl rfl) (Gr (Al rfl rfl) (Gm rfl (A6 (d := 16) rfl (fun g16 => ?_) (fun g16 => ?_))))
   ·refine Gro (Aa fld40_0 rfl) (Gro (Aq ty3) ?_)
    refine Gro (Aa fld40_0 rfl) (Gro (Aq ty3) ?_)
    refine Gro (Runs.neg rfl (by unfold InR; omega)) (Gro (Runs.max rfl rfl) ?_)
    have hmx22 : (if x.num < -(x.num) then -(x.num) else x.num) = x.num := by rw [if_neg om]
    rw [hmx22]
    refine Gro (Aa fld40_1 rfl) (Gro (Aq ty3) ?_)
    refine Dv (Cc rfl rfl rfl) (Ap call158 rfl rfl (Common_ok x.num x.den om om)) ?_
    rintro _ _ ⟨_, _, ⟨rfl, rfl⟩, rfl, rfl⟩
    exact Gro (Bf rfl rfl) (Gr (Al rfl rfl) (Ga rfl (Af (Ar (S1 2 rfl) (Ay (Av rfl rfl (I) Az ⟨by rw [decide_eq_true hx.cop], rfl⟩))))))
   ·exact absurd om g16
  ·exact absurd om g11
 ·exact absurd om g6
set_option maxHeartbeats 1000000 in
theorem RatCmp_ok (x y : Fr) (hx : FrV x) (hy : FrV y) :
    CallS Tryz.prog κ 101 [.agg #[I64 (x.num), I64 (x.den)], .agg #[I64 (y.num), I64 (y.den)]] I (fun r J => r = I64 (cmpF x y) ∧ I = J) := by
 have hn0x := hx.n0
 have hn1x := hx.n1
 have hd0x := hx.d0
 have hd1x := hx.d1
 have hn0y := hy.n0
 have hn1y := hy.n1
 have hd0y := hy.d0
 have hd1y := hy.d1
 have hb1 := sgn_bd x.num
 have hb2 := sgn_bd y.num
 have hm1 := hx.mul hy
 have hm2 := hy.mul hx
 have hz1 : x.num = 0 → x.num * y.den = 0 := fun h => by rw [h, Int.zero_mul]
 have hz2 : y.num = 0 → y.num * x.den = 0 := fun h => by rw [h, Int.zero_mul]
 refine Ce2 Tryz.func101 rfl rfl ?_
 refine Ah (Ge1 (Bd (cs := [_, _]) rfl rfl rfl) fun b1 => Ge1 (Bd (cs := [_, _]) rfl rfl rfl) fun b2 => Ga rfl (Af (Ax (Ah (Gl2 ty40 ?_)))))
 refine Gc0 (Ap call89 rfl rfl (RatValid_ok x asm)) ?_
 refine Gr (Cl rfl) (Gm rfl (Gro (Bk (vs := [_, _]) ty40) ?_))
 refine Dv (Cc rfl rfl rfl) (Ap call89 rfl rfl (RatValid_ok y asm)) ?_
 rintro _ _ ⟨_, _, ⟨rfl, rfl⟩, rfl, rfl⟩
 refine Gro (Cl rfl) (Gr (Aj rfl rfl) (Af (C2 rfl (A0 (Ai (Ah (Gf fld40_0 rfl (Gl ty3 ?_))))))))
 refine Gc0 (Ap call172 rfl rfl (Sign_ok x.num)) ?_
 refine Ga rfl (Af (Ar (S3 5 3 2 rfl rfl rfl) (Ax (Ah (Gf fld40_0 rfl (Gl ty3 ?_))))))
 refine Gc0 (Ap call172 rfl rfl (Sign_ok y.num)) ?_
 refine Ga rfl (Af (Ah (Gm rfl (Gm rfl (Gr (Be rfl rfl) (Gm rfl (A6 (d := 28) rfl (fun g28 => ?_) (fun g28 => ?_))))))))
 ·refine Gpo (Gpo (Gr (Al rfl rfl) (Af (Ar (S5 31 6 5 3 2 rfl rfl rfl rfl rfl) (B6 rfl (Ah (Gm rfl (Gm rfl (Gr (Rsu rfl rfl) (Gc0 (Ap call172 rfl rfl (Sign_ok ((sgnI x.num) - (sgnI y.num)))) ?_))))))))))
  refine Ga rfl (Af (Ay (Ad ?_)))
  have hsx : sgnI x.num = if x.num < 0 then -1 else if 0 < x.num then 1 else 0 := rfl
  have hsy : sgnI y.num = if y.num < 0 then -1 else if 0 < y.num then 1 else 0 := rfl
  exact Av rfl rfl (I) Az ⟨congrArg I64 (by first | (have hss : sgnI (sgnI x.num - sgnI y.num) = if sgnI x.num - sgnI y.num < 0 then -1 else if 0 < sgnI x.num - sgnI y.num then 1 else 0 := rfl; unfold cmpF; rw [hss]; repeat (first | omega | split)) | (unfold cmpF; repeat (first | omega | split))), rfl⟩
 ·refine Gro (Ac rfl) (Gro (Bf rfl rfl) (Gr (Aj rfl rfl) (Af (Ar (S5 31 6 5 3 2 rfl rfl rfl rfl rfl) (A7 rfl (fun c31 => ?_) (fun c31 => ?_))))))
  ·refine Ah (Gm rfl (Gm rfl (Gr (Rsu rfl rfl) (Gc0 (Ap call172 rfl rfl (Sign_ok ((sgnI x.num) - (sgnI y.num)))) ?_))))
   refine Ga rfl (Af (Ay (Ad ?_)))
   have hsx : sgnI x.num = if x.num < 0 then -1 else if 0 < x.num then 1 else 0 := rfl
   have hsy : sgnI y.num = if y.num < 0 then -1 else if 0 < y.num then 1 else 0 := rfl
   exact Av rfl rfl (I) Az ⟨congrArg I64 (by first | (have hss : sgnI (sgnI x.num - sgnI y.num) = if sgnI x.num - sgnI y.num < 0 then -1 else if 0 < sgnI x.num - sgnI y.num then 1 else 0 := rfl; unfold cmpF; rw [hss]; repeat (first | omega | split)) | (unfold cmpF; repeat (first | omega | split))), rfl⟩
  ·refine A0 (Ai (Ah (Gf fld40_0 rfl (Gl ty3 ?_))))
   refine Gf fld40_0 rfl (Gl ty3 ?_)
   refine Gr (Runs.neg rfl (by unfold InR; omega)) (Gr (Runs.max rfl rfl) ?_)
   have hmx42 : (if x.num < -(x.num) then -(x.num) else x.num) = x.num := by rw [if_neg om]
   rw [hmx42]
   refine Gr (Runs.convU Bl Dq rfl om) (Gf fld40_1 rfl (Gl ty3 ?_))
   refine Gr (Runs.convU Bl Dq rfl om) (G.e (Ap call173 rfl rfl (Mul64_ok x.num y.den om om)) ?_)
   rintro _ _ ⟨_, _, ⟨rfl, rfl⟩, rfl, rfl⟩
   refine Gm rfl (Gr (A1 rfl rfl) (Gr (A1 rfl rfl) (Ga rfl (Ga rfl (Af (Ar (S5 8 7 5 3 2 rfl rfl rfl rfl rfl) (Ah (Gf fld40_0 rfl (Gl ty3 ?_)))))))))
   refine Gf fld40_0 rfl (Gl ty3 ?_)
   refine Gr (Runs.neg rfl (by unfold InR; omega)) (Gr (Runs.max rfl rfl) ?_)
   have hmx56 : (if y.num < -(y.num) then -(y.num) else y.num) = y.num := by rw [if_neg om]
   rw [hmx56]
   refine Gr (Runs.convU Bl Dq rfl om) (Gf fld40_1 rfl (Gl ty3 ?_))
   refine Gr (Runs.convU Bl Dq rfl om) (G.e (Ap call173 rfl rfl (Mul64_ok y.num x.den om om)) ?_)
   rintro _ _ ⟨_, _, ⟨rfl, rfl⟩, rfl, rfl⟩
   refine Gm rfl (Gr (A1 rfl rfl) (Gr (A1 rfl rfl) (Ga rfl (Ga rfl (Af (Ar (S5 10 9 8 7 5 rfl rfl rfl rfl rfl) (Ax (A5 (Ah (Gm rfl (Gm rfl (Gr (Bf rfl rfl) (Gm rfl (A6 (d := 68) rfl (fun g68 => ?_) (fun g68 => ?_)))))))))))))))
   ·refine Gro (Ac rfl) (Gro (Ac rfl) (Gro (Bf rfl rfl) (Gr (Al rfl rfl) (Ga rfl (Af (Ar (S6 64 10 9 8 7 5 rfl rfl rfl rfl rfl rfl) (A7 rfl (fun c64 => ?_) (fun c64 => ?_))))))))
    ·refine Ah (Ga rfl (Af (Ay (Au (Ad ?_)))))
     have hsx : sgnI x.num = if x.num < 0 then -1 else if 0 < x.num then 1 else 0 := rfl
     have hsy : sgnI y.num = if y.num < 0 then -1 else if 0 < y.num then 1 else 0 := rfl
     exact Av rfl rfl (I) Az ⟨congrArg I64 (by first | (have hss : sgnI (sgnI x.num - sgnI y.num) = if sgnI x.num - sgnI y.num < 0 then -1 else if 0 < sgnI x.num - sgnI y.num then 1 else 0 := rfl; unfold cmpF; rw [hss]; repeat (first | omega | split)) | (unfold cmpF; repeat (first | omega | split))), rfl⟩
    ·refine Ah (Gm rfl (Gm rfl (Gr (Bb rfl rfl) (Gm rfl (A6 (d := 77) rfl (fun g77 => ?_) (fun g77 => ?_))))))
     ·exact absurd g77 dc
     ·refine Gro (Ac rfl) (Gro (Ac rfl) (Gro (Bf rfl rfl) (Gro (Ac rfl) (A6 (d := 81) rfl (fun g81 => ?_) (fun g81 => ?_)))))
      ·refine Gro (Ac rfl) (Gro (Ac rfl) (Gro (Bb rfl rfl) (Gro (Al rfl rfl) (Gr (Aj rfl rfl) (Ga rfl (Af (Ar (S2 73 5 rfl rfl) (A7 rfl (fun c73 => ?_) (fun c73 => ?_)))))))))
       ·refine Ah (Gm rfl (Gr (Runs.neg rfl (by unfold InR; omega)) (Ga rfl (Af (Ay (Au (Ad ?_)))))))
        have hsx : sgnI x.num = if x.num < 0 then -1 else if 0 < x.num then 1 else 0 := rfl
        have hsy : sgnI y.num = if y.num < 0 then -1 else if 0 < y.num then 1 else 0 := rfl
        exact Av rfl rfl (I) Az ⟨congrArg I64 (by first | (have hss : sgnI (sgnI x.num - sgnI y.num) = if sgnI x.num - sgnI y.num < 0 then -1 else if 0 < sgnI x.num - sgnI y.num then 1 else 0 := rfl; unfold cmpF; rw [hss]; repeat (first | omega | split)) | (unfold cmpF; repeat (first | omega | split))), rfl⟩
       ·refine A0 (Am (Ai (Ah (Gm rfl (Ga rfl (Af (Ay ?_)))))))
        have hsx : sgnI x.num = if x.num < 0 then -1 else if 0 < x.num then 1 else 0 := rfl
        have hsy : sgnI y.num = if y.num < 0 then -1 else if 0 < y.num then 1 else 0 := rfl
        exact Av rfl rfl (I) Az ⟨congrArg I64 (by first | (have hss : sgnI (sgnI x.num - sgnI y.num) = if sgnI x.num - sgnI y.num < 0 then -1 else if 0 < sgnI x.num - sgnI y.num then 1 else 0 := rfl; unfold cmpF; rw [hss]; repeat (first | omega | split)) | (unfold cmpF; repeat (first | omega | split))), rfl⟩
      ·exact absurd rfl g81
   ·exact absurd rfl g68
theorem BestR.frv {nd N D : Int} {es : List Pt} {B : BitVec 64} (h : BestR nd es N D B) (hG : GrOk nd es) : FrV ⟨N, D⟩ := by
 by_cases hn : nd = 0
 ·obtain ⟨h1, h2, _⟩ := h.none (checkG_ok.2 hG) hn
  subst h1 h2
  exact ⟨by decide, by decide, by decide, by decide, by decide⟩
 ·obtain ⟨x, y, hx, hy, e⟩ := (h.some (checkG_ok.2 hG) hn).red
  rw [e]
  exact mkF_val hx.1 om om om
theorem cmpF_ge {x y : Fr} : 0 ≤ cmpF x y ↔ y.num * x.den ≤ x.num * y.den := by unfold cmpF; repeat (first | omega | split)
def densQ (nd : Int) (es : List Pt) (num den : Int) : Prop := if nd = 0 then num ≤ 0 else ∃ W, subN nd W ∧ W ≠ 0#64 ∧ num * cntB W ≤ den * insE W es
theorem BestR.holds {nd N D num den : Int} {es : List Pt} {B : BitVec 64} (h : BestR nd es N D B) (hG : GrOk nd es) (hf : FrV ⟨num, den⟩) : 0 ≤ cmpF ⟨N, D⟩ ⟨num, den⟩ ↔ densQ nd es num den := by
 rw [cmpF_ge]
 unfold densQ
 by_cases hn : nd = 0
 ·obtain ⟨h1, h2, _⟩ := h.none (checkG_ok.2 hG) hn
  subst h1 h2
  rw [if_pos hn]
  show num * 1 ≤ 0 * den ↔ _
  omega
 ·rw [if_neg hn]
  have hd := h.some (checkG_ok.2 hG) hn
  exact hd.dens.reach hd.den.1 hf.d0
section
variable {nd kd wd mo tm : Int} {es : List Ev} {fst own : Bool} {j j1 : Nat}
theorem all_le (hH : HistOk nd kd wd mo es) {i k : Nat} (h : i ≤ k) (hk : k < (allE kd wd mo es).length) : (at_ (allE kd wd mo es) (i : Int)).tm ≤ (at_ (allE kd wd mo es) (k : Int)).tm := by
 by_cases e : i = k
 ·subst e; exact Int.le_refl _
 ·rw [Dp _ i om, Dp _ k hk]
  exact (List.pairwise_iff_getElem.1 hH.all_asc) i k om hk om
theorem mom_bef (hH : HistOk nd kd wd mo es) (hM : MomentX (allE kd wd mo es) fst j tm own j1) : ∀ i : Nat, i < j1 → (at_ (allE kd wd mo es) (i : Int)).tm ≤ tm := fun i hi => by
 by_cases h : i < j
 ·cases hf : fst with
  | true => have := (hM.first hf).2; omega
  | false =>
   obtain ⟨h1, h2⟩ := hM.next hf
   rw [h2]; exact all_le hH om h1
 ·exact Int.le_of_eq (hM.same i om hi)
theorem mom_next (hH : HistOk nd kd wd mo es) (hM : MomentX (allE kd wd mo es) fst j tm own j1) (h : j1 < (allE kd wd mo es).length) : tm < (at_ (allE kd wd mo es) (j1 : Int)).tm := by
 have hne := hM.stop h
 have hle : tm ≤ (at_ (allE kd wd mo es) (j1 : Int)).tm := by
  cases hf : fst with
  | true =>
   rw [(hM.first hf).1]
   exact (hH.allFit _ (Ch (xs := allE kd wd mo es) (i := (j1 : Int)) om om)).tm.1
  | false =>
   obtain ⟨h1, h2⟩ := hM.next hf
   rw [h2]; exact all_le hH (by have := hM.le.1; omega) h
 omega
theorem mom_graph (hH : HistOk nd kd wd mo es) (hM : MomentX (allE kd wd mo es) fst j tm own j1) : edgesK (linksL ((allE kd wd mo es).take j1)) = atG kd wd mo es tm := by
 unfold atG
 rw [atK_stop hM.le.2 (mom_bef hH hM) (mom_next hH hM)]
def FirstYes (kd wd mo : Int) (es : List Ev) (p : Int → Prop) (t : Int) : Prop := (∃ e ∈ allE kd wd mo es, e.tm = t) ∧ p t ∧ ∀ e ∈ allE kd wd mo es, e.tm < t → ¬ p e.tm
def FirstP (kd wd mo : Int) (es : List Ev) (p : Int → Prop) (t : Int) (ok : Bool) : Prop := (ok = true ∧ FirstYes kd wd mo es p t) ∨ (ok = false ∧ t = 0 ∧ ∀ e ∈ allE kd wd mo es, ¬ p e.tm)
theorem fi_next {p : Int → Prop} (hM : MomentX (allE kd wd mo es) fst j tm own j1) (hq : ∀ i : Nat, i < j → ¬ p (at_ (allE kd wd mo es) (i : Int)).tm) (hn : own = true → ¬ p tm) : ∀ i : Nat, i < j1 → ¬ p (at_ (allE kd wd mo es) (i : Int)).tm := fun i hi => by
 by_cases h : i < j
 ·exact hq i h
 ·rw [hM.same i om hi]
  exact hn (by rw [hM.own, decide_eq_true om])
theorem fi_yes {p : Int → Prop} (hH : HistOk nd kd wd mo es) (hM : MomentX (allE kd wd mo es) fst j tm own j1) (hq : ∀ i : Nat, i < j → ¬ p (at_ (allE kd wd mo es) (i : Int)).tm) (ho : own = true) (hp : p tm) : FirstYes kd wd mo es p tm := by
 have hj : j < j1 := by have := hM.own; rw [ho] at this; exact of_decide_eq_true this.symm
 have hl := hM.le.2
 refine ⟨⟨_, Ch (xs := allE kd wd mo es) (i := (j : Int)) om om, hM.same j (Nat.le_refl _) hj⟩, hp, fun e he hlt => ?_⟩
 obtain ⟨i, hi, rfl⟩ := mem_at he
 by_cases h : i < j
 ·exact hq i h
 ·have h1 := all_le hH (i := j) (k := i) om hi
  rw [hM.same j (Nat.le_refl _) hj] at h1
  omega
theorem fi_no {p : Int → Prop} (hq : ∀ i : Nat, i < (allE kd wd mo es).length → ¬ p (at_ (allE kd wd mo es) (i : Int)).tm) : ∀ e ∈ allE kd wd mo es, ¬ p e.tm := fun e he => by
 obtain ⟨i, hi, rfl⟩ := mem_at he
 exact hq i hi
end
def reachQ (nd kd wd mo : Int) (es : List Ev) (num den t : Int) : Prop := densQ nd (atG kd wd mo es t) num den
set_option maxHeartbeats 2000000 in
theorem AFirst_ok {κ : Ctx} {I : List Item} {nd kd wd mo num den : Int} {ea : Option Addr} {ec : Nat} {es : List Ev} (hl : Sl κ I (.slice ea es.length ec) es) (hH : HistOk nd kd wd mo es) (hlen : es.length ≤ 19) (hf : FrV ⟨num, den⟩) (hT : TabRd κ I 0 tzCells) :
    CallS Tryz.prog κ 47 [I64 (nd), .slice ea es.length ec, .agg #[I64 (kd), I64 (wd), I64 (mo)], .agg #[I64 (num), I64 (den)]] I (fun r J => ∃ tv ok, r = .tuple #[I64 tv, .bool ok, I64 0] ∧ FirstP kd wd mo es (reachQ nd kd wd mo es num den) tv ok ∧ I = J) := by
 refine CallS.enterM (L := [(0, I64 (nd)), (1, .slice ea es.length ec), (2, .agg #[I64 (kd), I64 (wd), I64 (mo)]), (3, .agg #[I64 (num), I64 (den)])]) Tryz.func47 rfl rfl rfl rfl ?_
 refine Ah (Ge1 (Bd (cs := [_, _, _]) rfl rfl rfl) fun b1 => Ge1 (Bd (cs := [_, _]) rfl rfl rfl) fun b2 => Ge1 (A4 ty3 rfl) fun b3 => Ge1 (A4 ty4 rfl) fun b4 => Ge1 (A4 ty36 rfl) fun b5 => Af (Ax (Ah (Gm rfl (Gm rfl (Gl3 ty31 ?_))))))
 refine Gc0 (Ap call97 rfl rfl (ACheck_ok (nd := nd) (kd := kd) (wd := wd) (mo := mo) (Bh hl))) ?_
 refine Ga rfl (Af (Ar (S8 11 10 9 8 7 6 0 1 rfl rfl rfl rfl rfl rfl rfl rfl) (Ah (Gm rfl (Gr (Be rfl rfl) (Af (A7 rfl (fun c21 => ?_) (fun c21 => ?_))))))))
 ·exact absurd (slideE_zeroH hH) c21
 ·refine A0 (Ai (Ax (Ah (Gl2 ty40 ?_))))
  refine Gc0 (Ap call89 rfl rfl (RatValid_ok (⟨num, den⟩ : Fr) (by first | exact hf | exact hBR.frv hGr))) ?_
  refine Gr (Cl rfl) (Af (C2 rfl (A0 (Ai (Ax (Ah (Gm rfl (Gm rfl (Gl3 ty31 ?_)))))))))
  refine G.e (Ap call98 rfl rfl Frames_ok) ?_
  rintro _ _ ⟨_, _, ⟨qb6, qb7, qb8, rfl, rfl⟩, rfl, rfl⟩
  refine Af (Ar (S5 29 10 9 8 7 rfl rfl rfl rfl rfl) (A5 (W.fit (J := blk b3 [I64 (0)] 3 :: blk b4 [.bool false] 4 :: blk b5 [I64 (0)] 36 :: blk qb8 [I64 (kd), I64 (wd), I64 (mo)] 31 :: blk qb7 [.slice ea es.length ec] 28 :: blk qb6 [I64 (nd)] 3 :: blk b2 [I64 (num), I64 (den)] 40 :: blk b1 [I64 (kd), I64 (wd), I64 (mo)] 31 :: I) Bw ?_)))
  refine W.rangeFnB (gf := 165) (lb := [.pointer (some ⟨qb6, 0, none⟩), .pointer (some ⟨qb7, 0, none⟩), .pointer (some ⟨qb8, 0, none⟩)]) rfl call165 fun Dm l rc hr1 hr2 hr3 hr4 hta => ?_
  refine (Frames1_ok (I := blk qb8 [I64 (kd), I64 (wd), I64 (mo)] 31 :: blk qb7 [.slice ea es.length ec] 28 :: blk qb6 [I64 (nd)] 3 :: blk b2 [I64 (num), I64 (den)] 40 :: blk b1 [I64 (kd), I64 (wd), I64 (mo)] 31 :: I) (σ := Unit) (τ := Int) (l := l) (Lf := fun s => [recI l rc, dfrI Dm, blk b3 [I64 (0)] 3, blk b4 [.bool false] 4, blk b5 [I64 (0)] 36]) (Pf := fun fst j s => (∀ i : Nat, i < j → ¬ (reachQ nd kd wd mo es num den) (at_ (allE kd wd mo es) (i : Int)).tm)) (Xf := fun s => [recI l { rc with state := .done, pending := some .ret }, dfrI Dm, blk b3 [I64 (s)] 3, blk b4 [.bool true] 4, blk b5 [I64 (0)] 36]) (Qf := fun s => (FirstYes kd wd mo es (reachQ nd kd wd mo es num den) s)) (s0 := ()) hH hlen (Dj mm) (Dj mm) (Dj mm) (Bh hl) (fun i h => absurd h (Nat.not_lt_zero i)) ?_).mono ?_
  ·rintro T hTI fst j tm own j1 ga gc hM _ hp
   have hq : (∀ i : Nat, i < j → ¬ (reachQ nd kd wd mo es num den) (at_ (allE kd wd mo es) (i : Int)).tm) := hp
   have hbq0 : BlkRd κ T b2 [I64 (num), I64 (den)] 40 := (Dj (I := blk qb8 [I64 (kd), I64 (wd), I64 (mo)] 31 :: blk qb7 [.slice ea es.length ec] 28 :: blk qb6 [I64 (nd)] 3 :: blk b2 [I64 (num), I64 (den)] 40 :: blk b1 [I64 (kd), I64 (wd), I64 (mo)] 31 :: I) mm).fit hTI
   have hTT : TabRd κ T 0 tzCells := (Cd (J := blk qb8 [I64 (kd), I64 (wd), I64 (mo)] 31 :: blk qb7 [.slice ea es.length ec] 28 :: blk qb6 [I64 (nd)] 3 :: blk b2 [I64 (num), I64 (den)] 40 :: blk b1 [I64 (kd), I64 (wd), I64 (mo)] 31 :: I) hT Az).fit hTI
   have hmg := mom_graph hH hM
   have hGr : GrOk nd (edgesK (linksL ((allE kd wd mo es).take j1))) := by rw [hmg]; exact hH.graph tm
   refine YieldB.fit (J := recI l rc :: vc 135 (.slice ga (edgesK (linksL ((allE kd wd mo es).take j1))).length gc) (edgesK (linksL ((allE kd wd mo es).take j1))) :: dfrI Dm :: blk b3 [I64 (0)] 3 :: blk b4 [.bool false] 4 :: blk b5 [I64 (0)] 36 :: T) Bw ?_
   refine YieldB.mkA (L₀ := [(31, .agg #[I64 (nd), .slice ga (edgesK (linksL ((allE kd wd mo es).take j1))).length gc]), (30, .agg #[I64 (tm), .bool (own)]), (29, .func (.func 165) #[] #[.pointer (some ⟨qb6, 0, none⟩), .pointer (some ⟨qb7, 0, none⟩), .pointer (some ⟨qb8, 0, none⟩)]), (10, .pointer (some ⟨b5, 0, none⟩)), (9, .pointer (some ⟨b4, 0, none⟩)), (8, .pointer (some ⟨b3, 0, none⟩)), (7, .pointer (some ⟨b2, 0, none⟩))]) (by rw [hr2]; rfl) hr3 hr4 (by rw [hr2, fold_two]; exact ag_two hta rfl rfl) ?_
   refine WR.seq ?_
   refine Dx (fun _ _ h => False.elim h) rfl ?_
   refine Ge1 (A4 ty153 rfl) fun b9 => Ge0 (B4 ty153) ?_
   refine Bi (V.thenR ?_)
   refine Dx (fun _ _ h => False.elim h) rfl ?_
   refine Ge1 (A4 ty48 rfl) fun b10 => Ge0 (B4 ty48) ?_
   refine Bi (V.begin (blk b10 [I64 (nd), .slice ga (edgesK (linksL ((allE kd wd mo es).take j1))).length gc] 48 :: blk b9 [I64 (tm), .bool (own)] 153 :: vc 135 (.slice ga (edgesK (linksL ((allE kd wd mo es).take j1))).length gc) (edgesK (linksL ((allE kd wd mo es).take j1))) :: dfrI Dm :: blk b3 [I64 (0)] 3 :: blk b4 [.bool false] 4 :: blk b5 [I64 (0)] 36 :: T) Bw hr1 ?_)
   refine WR.block ?_
   refine WR.seq ?_
   refine Dx (fun _ _ h => False.elim h) rfl ?_
   refine Gl2 ty48 ?_
   refine G.e (Ap call100 rfl rfl (BestD_ok (nd := nd) Bo (Cd hTT Az))) ?_
   rintro _ _ ⟨_, _, ⟨ad11, cp12, Bqq15, ad13, cp14, ptq15, Nqq15, Dqq15, Eqq15, rfl, hBR, rfl⟩, rfl, rfl⟩
   refine Gm rfl (Gr (A1 rfl rfl) (Gr (A1 rfl rfl) (Ge1 (A4 ty102 rfl) fun b16 => Ge0 (Es5_5 ty102) ?_)))
   refine Ga rfl (Bi (V.thenR ?_))
   refine WR.sub (L' := [(15, _), (14, _), (12, _), (10, _), (9, _), (8, _), (7, _)]) (Ab rfl (Ab rfl (Ab rfl (Ab rfl (Ab rfl (Ab rfl (Ab rfl Bp))))))) ?_
   refine WR.seq ?_
   refine Dx (fun _ _ h => False.elim h) rfl ?_
   refine Gf fld153_1 rfl (Gl ty4 ?_)
   refine Gm rfl (G.splitb (d := 39) rfl (fun g39 => ?_) (fun g39 => ?_))
   ·refine Gro (Ac rfl) (Gro (Bf rfl rfl) (Gr (Al rfl rfl) (Gm rfl (A6 (d := 43) rfl (fun g43 => ?_) (fun g43 => ?_)))))
    ·refine Gro (Aa fld102_1 rfl) (Gro (Bk (vs := [_, _]) ty40) ?_)
     refine Gro (Runs.loadBs (vs := [_, _]) ty40 rfl (Cp hbq0 Az) rfl rfl) ?_
     refine Dv (Cc rfl rfl rfl) (Ap call101 rfl rfl (RatCmp_ok (⟨Nqq15, Dqq15⟩ : Fr) (⟨num, den⟩ : Fr) (by first | exact hf | exact hBR.frv hGr) (by first | exact hf | exact hBR.frv hGr))) ?_
     rintro _ _ ⟨_, _, ⟨rfl, rfl⟩, rfl, rfl⟩
     refine Gro (B7 rfl rfl) (Gr (Al rfl rfl) (Bi (V.thenR ?_)))
     refine WR.sub (L' := [(49, _), (12, _), (10, _), (9, _), (8, _)]) (Ab rfl (Ab rfl (Ab rfl (Ab rfl (Ab rfl Bp))))) ?_
     refine WR.ite rfl (fun c49 => ?_) (fun c49 => ?_)
     ·refine WR.seq ?_
      refine Dx (fun _ _ h => False.elim h) rfl ?_
      refine Gf fld153_0 rfl (Gl ty3 ?_)
      refine Ge0 (Da (cs := [_]) (vs := [_]) (cs' := [_]) ty3) ?_
      refine Ge0 (Da (cs := [_]) (vs := [_]) (cs' := [_]) ty4) ?_
      refine Ge0 (Da (cs := [_]) (vs := [_]) (cs' := [_]) ty36) ?_
      refine Bi (V.thenR ?_)
      refine WR.ret ?_
      exact Au (V.roundRet (dfrI Dm :: blk b3 [I64 (tm)] 3 :: blk b4 [.bool true] 4 :: blk b5 [I64 (0)] 36 :: T) Bw (.inr ⟨rfl, (tm), (show (FirstYes kd wd mo es (reachQ nd kd wd mo es num den) tm) from (fi_yes hH hM hq g39 (by have h := (hBR.holds hGr hf).1 c49; rw [hmg] at h; exact h))), rfl⟩))
     ·refine WR.skip ?_
      exact Am (V.roundB (dfrI Dm :: blk b3 [I64 (0)] 3 :: blk b4 [.bool false] 4 :: blk b5 [I64 (0)] 36 :: T) Bw hr1 (.inl ⟨rfl, (), (show (∀ i : Nat, i < j1 → ¬ (reachQ nd kd wd mo es num den) (at_ (allE kd wd mo es) (i : Int)).tm) from (fi_next hM hq (by first | exact fun h => absurd (g39.symm.trans h) dc | exact fun _ h => c49 ((hBR.holds hGr hf).2 (by rw [hmg]; exact h))))), rfl⟩))
    ·exact absurd (checkG_ok.2 hGr) g43
   ·refine Gpo (Gpo (Gr (Aj rfl rfl) (Gm rfl (Gpo (Gpo (Gpo (Gpo (Gpo (Gr (Aj rfl rfl) (Bi (V.thenR ?_)))))))))))
    refine WR.sub (L' := [(49, _), (12, _), (10, _), (9, _), (8, _)]) (Ab rfl (Ab rfl (Ab rfl (Ab rfl (Ab rfl Bp))))) ?_
    refine WR.no rfl ?_
    refine WR.skip ?_
    exact Am (V.roundB (dfrI Dm :: blk b3 [I64 (0)] 3 :: blk b4 [.bool false] 4 :: blk b5 [I64 (0)] 36 :: T) Bw hr1 (.inl ⟨rfl, (), (show (∀ i : Nat, i < j1 → ¬ (reachQ nd kd wd mo es num den) (at_ (allE kd wd mo es) (i : Int)).tm) from (fi_next hM hq (by first | exact fun h => absurd (g39.symm.trans h) dc | exact fun _ h => c49 ((hBR.holds hGr hf).2 (by rw [hmg]; exact h))))), rfl⟩))
  rintro v K ⟨rfl, (⟨_, hp, rfl⟩ | ⟨tv, hp, rfl⟩)⟩
  ·have hq : (∀ i : Nat, i < (allE kd wd mo es).length → ¬ (reachQ nd kd wd mo es num den) (at_ (allE kd wd mo es) (i : Int)).tm) := hp
   refine .inl ⟨_, rfl, ?_⟩
   show V κ _ _ .normal ([(29, .func (.func 165) #[] #[.pointer (some ⟨qb6, 0, none⟩), .pointer (some ⟨qb7, 0, none⟩), .pointer (some ⟨qb8, 0, none⟩)]), (10, .pointer (some ⟨b5, 0, none⟩)), (9, .pointer (some ⟨b4, 0, none⟩)), (8, .pointer (some ⟨b3, 0, none⟩)), (7, .pointer (some ⟨b2, 0, none⟩))] : Env) (dfrI Dm :: blk b3 [I64 (0)] 3 :: blk b4 [.bool false] 4 :: blk b5 [I64 (0)] 36 :: blk qb8 [I64 (kd), I64 (wd), I64 (mo)] 31 :: blk qb7 [.slice ea es.length ec] 28 :: blk qb6 [I64 (nd)] 3 :: blk b2 [I64 (num), I64 (den)] 40 :: blk b1 [I64 (kd), I64 (wd), I64 (mo)] 31 :: I)
   refine Am (Ai (Ah (Ge0 (Da (cs := [_]) (vs := [_]) (cs' := [_]) ty3) ?_)))
   refine Ge0 (Da (cs := [_]) (vs := [_]) (cs' := [_]) ty4) ?_
   refine Ge0 (Da (cs := [_]) (vs := [_]) (cs' := [_]) ty36) ?_
   refine Af (Ay (V.fit (J := dfrI Dm :: blk b3 [I64 (0)] 3 :: blk b4 [.bool false] 4 :: blk b5 [I64 (0)] 36 :: blk qb8 [I64 (kd), I64 (wd), I64 (mo)] 31 :: blk qb7 [.slice ea es.length ec] 28 :: blk qb6 [I64 (nd)] 3 :: blk b2 [I64 (num), I64 (den)] 40 :: blk b1 [I64 (kd), I64 (wd), I64 (mo)] 31 :: I) Bw (V.leave ?_)))
   exact V.retv3 rfl ty3 ty4 ty36 rfl rfl rfl mm mm mm (I) Az ⟨0, false, rfl, .inr ⟨rfl, rfl, fi_no hq⟩, rfl⟩
  ·have hQ : (FirstYes kd wd mo es (reachQ nd kd wd mo es num den) tv) := hp
   refine .inr ⟨_, _, rfl, ?_⟩
   show W Tryz.prog κ _ _ _ ([(29, .func (.func 165) #[] #[.pointer (some ⟨qb6, 0, none⟩), .pointer (some ⟨qb7, 0, none⟩), .pointer (some ⟨qb8, 0, none⟩)]), (10, .pointer (some ⟨b5, 0, none⟩)), (9, .pointer (some ⟨b4, 0, none⟩)), (8, .pointer (some ⟨b3, 0, none⟩)), (7, .pointer (some ⟨b2, 0, none⟩))] : Env) (dfrI Dm :: blk b3 [I64 (tv)] 3 :: blk b4 [.bool true] 4 :: blk b5 [I64 (0)] 36 :: blk qb8 [I64 (kd), I64 (wd), I64 (mo)] 31 :: blk qb7 [.slice ea es.length ec] 28 :: blk qb6 [I64 (nd)] 3 :: blk b2 [I64 (num), I64 (den)] 40 :: blk b1 [I64 (kd), I64 (wd), I64 (mo)] 31 :: I)
   refine Ay (Au (Ad (V.fit (J := dfrI Dm :: blk b3 [I64 (tv)] 3 :: blk b4 [.bool true] 4 :: blk b5 [I64 (0)] 36 :: blk qb8 [I64 (kd), I64 (wd), I64 (mo)] 31 :: blk qb7 [.slice ea es.length ec] 28 :: blk qb6 [I64 (nd)] 3 :: blk b2 [I64 (num), I64 (den)] 40 :: blk b1 [I64 (kd), I64 (wd), I64 (mo)] 31 :: I) Bw (V.leave ?_))))
   exact V.retv3 rfl ty3 ty4 ty36 rfl rfl rfl mm mm mm (I) Az ⟨tv, true, rfl, .inl ⟨rfl, hQ⟩, rfl⟩
end Go.Sl
