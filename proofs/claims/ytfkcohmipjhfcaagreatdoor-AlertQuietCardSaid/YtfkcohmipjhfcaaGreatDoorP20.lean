/- A part of the proofs of statements of this seat: contracts of functions, and the plain laws that they lean on. No conditions. -/
import Derived.Test.YtfkcohmipjhfcaaGreatDoorP19
import Derived.ProofKit
import Derived.OpenShut
import Derived.ChangeOld
import Derived.Below
import Derived.SizedLaws
import Derived.JoinedOf
import Derived.Deep.Slices
import Derived.Deep.Fields
set_option linter.unusedVariables false
set_option linter.unusedSimpArgs false
set_option linter.unusedSectionVars false
namespace Go.Sl
open Go.Proofs
set_option maxRecDepth 4000
instance : Enc Rg := ⟨fun r => [I64 r.tm, I64 r.al, .bool r.on], 3, by omega, fun _ => rfl, fun r u hu => by
 simp only [List.mem_cons, List.not_mem_nil, or_false] at hu
 rcases hu with rfl | rfl | rfl <;> rfl⟩
noncomputable def alH (nd kd wd mo : Int) (es : List Ev) (als : List AlV) (t : Int) (i : Nat) : Bool := holdV nd (atG kd wd mo es t) (at_ als (i : Int))
noncomputable def ringsV (nd kd wd mo : Int) (es : List Ev) (als : List AlV) : List Rg := (ringS (alH nd kd wd mo es als) als.length (timesZ kd wd mo es)).2
theorem ringK_len (t : Int) (h : Nat → Bool) : ∀ (k : Nat) (st : List Bool × List Rg), (ringK t h k st).1.length = st.1.length ∧ (ringK t h k st).2.length ≤ st.2.length + k
 | 0, st => ⟨rfl, Nat.le_refl _⟩
 | k + 1, st => by
  obtain ⟨h1, h2⟩ := ringK_len t h k st
  rw [ringK_succ]
  unfold ring1
  split
  ·exact ⟨h1, by omega⟩
  ·exact ⟨by simp only [List.length_set]; exact h1, by simp only [List.length_append, List.length_cons, List.length_nil]; omega⟩
theorem timesZ_rng {nd kd wd mo : Int} {es : List Ev} (hH : HistOk nd kd wd mo es) : ∀ t ∈ timesZ kd wd mo es, 0 ≤ t ∧ t ≤ 1048576 := fun t ht => by
 have h := mem_ascZ.1 ht
 unfold timesL at h
 rcases List.mem_cons.1 h with h | h
 ·omega
 ·rcases List.mem_append.1 h with h | h
  ·obtain ⟨e, he, rfl⟩ := List.mem_map.1 h
   exact (hH.fit e he).tm
  ·obtain ⟨e, he, rfl⟩ := List.mem_map.1 h
   have := hH.allFit e (List.mem_append_right _ ((isort_permG _ _).mem_iff.2 he))
   exact this.tm
theorem timesL_len {nd kd wd mo : Int} {es : List Ev} (hH : HistOk nd kd wd mo es) (hlen : es.length ≤ 19) : (timesZ kd wd mo es).length ≤ 58 := by
 have h1 := ascZ_len (timesL kd wd mo es)
 have h2 := hH.len2
 have h3 := hH.len
 have h4 := lateL_len kd wd (linksL (slideS kd wd mo es).2)
 unfold timesZ
 unfold timesL at h1 ⊢
 rw [List.length_cons, List.length_append, List.length_map, List.length_map] at h1
 omega
theorem ringS_len (H : Int → Nat → Bool) (n : Nat) (ts : List Int) : ∀ k, k ≤ ts.length → (ringS H n (ts.take k)).1.length = n ∧ (ringS H n (ts.take k)).2.length ≤ n * k
 | 0, _ => ⟨List.length_replicate, Nat.zero_le _⟩
 | k + 1, hk => by
  obtain ⟨h1, h2⟩ := ringS_len H n ts k om
  rw [ringS_take om]
  obtain ⟨h3, h4⟩ := ringK_len (at_ ts (k : Int)) (H (at_ ts (k : Int))) n (ringS H n (ts.take k))
  exact ⟨by rw [h3, h1], by rw [Nat.mul_succ]; omega⟩
theorem ring_yes {t : Int} {h : Nat → Bool} {k : Nat} {p : List Bool × List Rg} {on : List Bool} {out : List Rg} (he : (on, out) = ringK t h k p) (hc : h k ≠ at_ on (k : Int)) : (List.set on ((k : Int)).toNat (h k), out ++ [(⟨t, (k : Int), h k⟩ : Rg)]) = ringK t h (k + 1) p := by
 rw [ringK_succ, ← he]
 unfold ring1
 rw [if_neg hc, Int.toNat_natCast]
theorem ring_no {t : Int} {h : Nat → Bool} {k : Nat} {p : List Bool × List Rg} {on : List Bool} {out : List Rg} (he : (on, out) = ringK t h k p) (hc : ¬ h k ≠ at_ on (k : Int)) : (on, out) = ringK t h (k + 1) p := by
 rw [ringK_succ, ← he]
 unfold ring1
 rw [if_pos (Classical.not_not.1 hc)]
theorem streamE_zeroH {nd kd wd mo : Int} {es : List Ev} (h : HistOk nd kd wd mo es) : streamE nd es = 0 := by
 have := slideE_zeroH h
 unfold slideE at this
 rwa [if_neg (by simp [h.win])] at this
set_option maxHeartbeats 2000000 in
theorem Watch_ok {κ : Ctx} {I : List Item} {nd kd wd mo : Int} {ea aa : Option Addr} {ec ac : Nat} {es : List Ev} {als : List AlV} (hl : Sl κ I (.slice ea es.length ec) es) (ha : Sl κ I (.slice aa als.length ac) als) (hsl : ∀ x ∈ als, Sl κ I (.slice x.a x.xs.length x.c) x.xs) (hH : HistOk nd kd wd mo es) (hlen : es.length ≤ 19) (hok : ∀ x ∈ als, AlOk nd x) (hal : als.length ≤ 16) (hT : TabRd κ I 0 tzCells) :
    CallS Tryz.prog κ 23 [I64 (nd), .slice ea es.length ec, .agg #[I64 (kd), I64 (wd), I64 (mo)], .slice aa als.length ac] I (fun r J => ∃ a c, r = .tuple #[.slice a (ringsV nd kd wd mo es als).length c, I64 0] ∧ J = vc 44 (.slice a (ringsV nd kd wd mo es als).length c) (ringsV nd kd wd mo es als) :: I) := by
 refine B5 hl.le fun hmax => ?_
 refine Ce4 Tryz.func23 rfl rfl ?_
 refine Ah (Ge1 (Bd (cs := [_, _, _]) rfl rfl rfl) fun b1 => Ga rfl (Ga rfl (Af (As (Ah (Gl3 ty31 ?_))))))
 refine G.e (Al call78 rfl rfl (CheckW_ok kd wd mo)) ?_
 rintro _ _ ⟨_, _, ⟨rfl, rfl⟩, rfl, rfl⟩
 refine Ga rfl (Af (Ah (Gm rfl (Gr (Bt rfl rfl) (Af (A8 rfl (fun c27 => ?_) (fun c27 => ?_)))))))
 ·exact absurd hH.win c27
 ·refine A2 (Aj (As (Ah (Gm rfl (Gm rfl (Gc0 (Al call79 rfl rfl (HCheck_ok (nd := nd) (Bh hl))) ?_))))))
  refine Ga rfl (Af (Ap (S5 11 6 0 1 3 rfl rfl rfl rfl rfl) (Ah (Gm rfl (Gr (Bt rfl rfl) (Af (A8 rfl (fun c33 => ?_) (fun c33 => ?_))))))))
  ·exact absurd (streamE_zeroH hH) c33
  ·refine A2 (Aj (As (Ah (Gm rfl (Gr (Bk Co rfl) (Gr (B6 rfl rfl) (Af (A8 rfl (fun c37 => ?_) (fun c37 => ?_)))))))))
   ·omega
   ·refine A2 (Aj (As (Ah (Gm rfl (Gr (Bk Co rfl) (Gm rfl (Af (A1 (Bu (σ := Nat) (fun s => ([(0, I64 (nd)), (1, .slice ea es.length ec), (3, .slice aa als.length ac), (6, .pointer (some ⟨b1, 0, none⟩)), (38, .slice aa als.length ac), (39, I64 (((als.length : Nat) : Int))), (40, I64 (((s : Nat) : Int)))] : Env)) (fun s => blk b1 [I64 (kd), I64 (wd), I64 (mo)] 31 :: I) (fun s => (s ≤ als.length)) (fun s => als.length - s) (0) (show ((0 : Nat) ≤ als.length) from om) (Aa rfl (Aa rfl (Aa rfl (Aa rfl (Aa rfl (Aa rfl (Aa Ch Bi))))))) (show Fit κ _ (blk b1 [I64 (kd), I64 (wd), I64 (mo)] 31 :: I) from Az) ?_)))))))))
    rintro k hp
    have hk := hp
    refine Ah (Gr (Bb rfl rfl) (Af (As (A8 rfl (fun c41 => ?_) (fun c41 => ?_)))))
    ·refine A2 (Aj (As (A1 (Ah (Gr (Aw (α := AlV) (xs := als) Co ty42 rfl rfl (Bh ha) om olr) (Gr (Br (α := AlV) (xs := als) ty42 rfl (Bh ha) om olr) (Ge1 (Ba ty42 rfl) fun b2 => Ge0 (Dx ty42) ?_)))))))
     refine Af (Ah (Gl6 ty42 ?_))
     refine Gm rfl (G.e (Al call37 rfl rfl (CheckAny_ok (x := (at_ als (k : Int))) (B8 (hsl _ (Ce om om)) A0) (hok _ (Ce om om)))) ?_)
     rintro _ _ ⟨_, _, ⟨rfl, rfl⟩, rfl, rfl⟩
     refine Ga rfl (Af (Ap (S8 14 0 1 3 6 38 39 40 rfl rfl rfl rfl rfl rfl rfl rfl) (Ah (Gm rfl (Gr (Bt rfl rfl) (Af (A8 rfl (fun c48 => ?_) (fun c48 => ?_))))))))
     ·exact absurd rfl c48
     ·exact A2 (Ai (Aj (Ax (Gr (Rad rfl rfl) (Gm rfl (Bg (B0 ((k + 1)) om)))))))
    ·refine Bs (Am (Am (A6 (Aj (Ah (Ga rfl (Af (Ah (Gm rfl (Gr (Bk Co rfl) (Ge2 (Ci (α := Bool) (n := als.length) B3 ty4 rfl rfl rfl om om dc rfl) fun ad3 cp4 => ?_)))))))))))
     refine Ga rfl (Af (As (Ah (Gm rfl (Gm rfl (Gl3 ty31 ?_))))))
     refine G.e (Al call80 rfl rfl (Times_ok (nd := nd) (kd := kd) (wd := wd) (mo := mo) (Bh hl) hH hlen)) ?_
     rintro _ _ ⟨_, _, ⟨ad5, cp6, rfl, rfl⟩, rfl, rfl⟩
     refine Gr (Bk Ac rfl) (Gm rfl (Af (Ap (S9 59 58 57 16 15 0 1 3 6 rfl rfl rfl rfl rfl rfl rfl rfl rfl) (A1 (Bu (σ := Nat × (Option Addr) × Nat × (List Bool) × (List Rg)) (fun s => ([(0, I64 (nd)), (1, .slice ea es.length ec), (3, .slice aa als.length ac), (6, .pointer (some ⟨b1, 0, none⟩)), (15, .slice s.2.1 s.2.2.2.2.length s.2.2.1), (16, .slice ad3 (List.replicate als.length (default : Bool)).length cp4), (57, .slice ad5 (timesZ kd wd mo es).length cp6), (58, I64 ((((timesZ kd wd mo es).length : Nat) : Int))), (59, I64 (((s.1 : Nat) : Int)))] : Env)) (fun s => vc 44 (.slice s.2.1 s.2.2.2.2.length s.2.2.1) (s.2.2.2.2) :: vc 3 (.slice ad5 (timesZ kd wd mo es).length cp6) (timesZ kd wd mo es) :: vc 4 (.slice ad3 (List.replicate als.length (default : Bool)).length cp4) (s.2.2.2.1) :: blk b1 [I64 (kd), I64 (wd), I64 (mo)] 31 :: I) (fun s => (s.1 ≤ (timesZ kd wd mo es).length) ∧ ((s.2.2.2.1, s.2.2.2.2) = ringS (alH nd kd wd mo es als) als.length (List.take s.1 (timesZ kd wd mo es)))) (fun s => (timesZ kd wd mo es).length - s.1) (0, none, 0, List.replicate als.length false, []) (show ((0 : Nat) ≤ (timesZ kd wd mo es).length) ∧ (((List.replicate als.length false : List Bool), ([] : List Rg)) = ringS (alH nd kd wd mo es als) als.length (List.take (0 : Nat) (timesZ kd wd mo es))) from ⟨om, rfl⟩) (Aa rfl (Aa rfl (Aa rfl (Aa rfl (Aa (C1 rfl (by first | rfl | simp)) (Aa rfl (Aa rfl (Aa rfl (Aa Ch Bi))))))))) (show Fit κ _ (vc 44 (.slice (none) ([]).length (0)) (([])) :: vc 3 (.slice ad5 (timesZ kd wd mo es).length cp6) (timesZ kd wd mo es) :: vc 4 (.slice ad3 (List.replicate als.length (default : Bool)).length cp4) ((List.replicate als.length false)) :: blk b1 [I64 (kd), I64 (wd), I64 (mo)] 31 :: I) from (Cl (Bv (α := Rg) _ _) B1)) ?_)))))
     rintro ⟨k, a, c, on, out⟩ hp
     dsimp only at hp ⊢
     obtain ⟨hk, hst⟩ := hp
     have hTl := timesL_len hH hlen
     have hrl := ringS_len (alH nd kd wd mo es als) als.length (timesZ kd wd mo es) k om
     rw [← hst] at hrl
     have honl : on.length = als.length := hrl.1
     have houl : out.length ≤ als.length * k := hrl.2
     have hml : als.length * k ≤ 16 * 58 := Nat.mul_le_mul hal om
     refine Ah (Gr (Bb rfl rfl) (Af (As (A8 rfl (fun c60 => ?_) (fun c60 => ?_)))))
     ·refine A2 (Aj (As (A1 (Ah (Gr (Aw (α := Int) (xs := timesZ kd wd mo es) Ac ty3 rfl rfl Be om olr) (Gr (Bq (xs := timesZ kd wd mo es) ty3 rfl Be om olr) (Ga rfl (Af (Ah (Gm rfl (Gm rfl (Gl3 ty31 ?_))))))))))))
      refine Gm rfl (G.e (Al call44 rfl rfl (At_ok (nd := nd) (kd := kd) (wd := wd) (mo := mo) (tq := at_ (timesZ kd wd mo es) (k : Int)) (Bh hl) hH hlen (timesZ_rng hH _ (Ce om om)))) ?_)
      rintro _ _ ⟨_, _, ⟨ad7, cp8, rfl, rfl⟩, rfl, rfl⟩
      refine Gm rfl (Gr (A3 rfl rfl) (Gr (A3 rfl rfl) (Ge1 (Ba ty48 rfl) fun b9 => Ge0 (Cq ty48) ?_)))
      refine Ga rfl (Af (Ap (S12 20 19 18 0 1 3 6 15 16 57 58 59 rfl rfl rfl rfl rfl rfl rfl rfl rfl rfl rfl rfl) (As (Ah (Gm rfl (Gr (Bt rfl rfl) (Af (Ap (S13 72 20 19 18 0 1 3 6 15 16 57 58 59 rfl rfl rfl rfl rfl rfl rfl rfl rfl rfl rfl rfl rfl) (A8 rfl (fun c72 => ?_) (fun c72 => ?_))))))))))
      ·exact absurd rfl c72
      ·refine A2 (Aj (Ah (Gm rfl (Gr (Bk Co rfl) (Gm rfl (Af (Ap (S14 76 75 74 19 18 0 1 3 6 15 16 57 58 59 rfl rfl rfl rfl rfl rfl rfl rfl rfl rfl rfl rfl rfl rfl) (A1 (Bu (σ := Nat × (Option Addr) × Nat × (List Bool) × (List Rg)) (fun s => ([(0, I64 (nd)), (1, .slice ea es.length ec), (3, .slice aa als.length ac), (6, .pointer (some ⟨b1, 0, none⟩)), (15, .slice s.2.1 s.2.2.2.2.length s.2.2.1), (16, .slice ad3 (List.replicate als.length (default : Bool)).length cp4), (18, I64 (at_ (timesZ kd wd mo es) (k : Int))), (19, .pointer (some ⟨b9, 0, none⟩)), (57, .slice ad5 (timesZ kd wd mo es).length cp6), (58, I64 ((((timesZ kd wd mo es).length : Nat) : Int))), (59, I64 ((k : Int))), (74, .slice aa als.length ac), (75, I64 (((als.length : Nat) : Int))), (76, I64 (((s.1 : Nat) : Int)))] : Env)) (fun s => vc 44 (.slice s.2.1 s.2.2.2.2.length s.2.2.1) (s.2.2.2.2) :: blk b9 [I64 (nd), .slice ad7 (atG kd wd mo es (at_ (timesZ kd wd mo es) (k : Int))).length cp8] 48 :: vc 135 (.slice ad7 (atG kd wd mo es (at_ (timesZ kd wd mo es) (k : Int))).length cp8) (atG kd wd mo es (at_ (timesZ kd wd mo es) (k : Int))) :: vc 3 (.slice ad5 (timesZ kd wd mo es).length cp6) (timesZ kd wd mo es) :: vc 4 (.slice ad3 (List.replicate als.length (default : Bool)).length cp4) (s.2.2.2.1) :: blk b1 [I64 (kd), I64 (wd), I64 (mo)] 31 :: I) (fun s => (s.1 ≤ als.length) ∧ ((s.2.2.2.1, s.2.2.2.2) = ringK (at_ (timesZ kd wd mo es) (k : Int)) ((alH nd kd wd mo es als) (at_ (timesZ kd wd mo es) (k : Int))) s.1 (on, out))) (fun s => als.length - s.1) (0, a, c, on, out) (show ((0 : Nat) ≤ als.length) ∧ (((on : List Bool), (out : List Rg)) = ringK (at_ (timesZ kd wd mo es) (k : Int)) ((alH nd kd wd mo es als) (at_ (timesZ kd wd mo es) (k : Int))) (0 : Nat) (on, out)) from ⟨om, rfl⟩) (Aa rfl (Aa rfl (Aa rfl (Aa rfl (Aa (C1 rfl (by first | rfl | simp)) (Aa rfl (Aa rfl (Aa rfl (Aa rfl (Aa rfl (Aa rfl (Aa rfl (Aa rfl (Aa Ch Bi)))))))))))))) (show Fit κ _ (vc 44 (.slice (a) (out).length (c)) ((out)) :: blk b9 [I64 (nd), .slice ad7 (atG kd wd mo es (at_ (timesZ kd wd mo es) (k : Int))).length cp8] 48 :: vc 135 (.slice ad7 (atG kd wd mo es (at_ (timesZ kd wd mo es) (k : Int))).length cp8) (atG kd wd mo es (at_ (timesZ kd wd mo es) (k : Int))) :: vc 3 (.slice ad5 (timesZ kd wd mo es).length cp6) (timesZ kd wd mo es) :: vc 4 (.slice ad3 (List.replicate als.length (default : Bool)).length cp4) ((on)) :: blk b1 [I64 (kd), I64 (wd), I64 (mo)] 31 :: I) from B1) ?_)))))))))
       rintro ⟨k2, a2, c2, on2, out2⟩ hp
       dsimp only at hp ⊢
       obtain ⟨hk2, hst2⟩ := hp
       have hrk := ringK_len (at_ (timesZ kd wd mo es) (k : Int)) ((alH nd kd wd mo es als) (at_ (timesZ kd wd mo es) (k : Int))) k2 (on, out)
       rw [← hst2] at hrk
       have hon2 : on2.length = als.length := hrk.1.trans honl
       have hou2 : out2.length ≤ out.length + k2 := hrk.2
       refine Ah (Gr (Bb rfl rfl) (Af (Ap (S15 77 0 1 3 6 15 16 18 19 57 58 59 74 75 76 rfl rfl rfl rfl rfl rfl rfl rfl rfl rfl rfl rfl rfl rfl rfl) (As (A8 rfl (fun c77 => ?_) (fun c77 => ?_))))))
       ·refine A2 (Aj (Ap (S14 0 1 3 6 15 16 18 19 57 58 59 74 75 76 rfl rfl rfl rfl rfl rfl rfl rfl rfl rfl rfl rfl rfl rfl) (As (A1 (Ah (Gm rfl (Gr (Aw (α := AlV) (xs := als) Co ty42 rfl rfl (Bh ha) om olr) (Gr (Br (α := AlV) (xs := als) ty42 rfl (Bh ha) om olr) ?_))))))))
        have hak := hok (at_ als (k2 : Int)) (Ce om om)
        refine Ge1 (Ba ty42 rfl) fun b10 => Ga rfl (Ge0 (Dx ty42) ?_)
        refine Af (Ap (S16 21 22 0 1 3 6 15 16 18 19 57 58 59 74 75 76 rfl rfl rfl rfl rfl rfl rfl rfl rfl rfl rfl rfl rfl rfl rfl rfl) (As (Bj mixed (Bo (blk b10 [I64 ((at_ als (k2 : Int)).kd), I64 ((at_ als (k2 : Int)).no), I64 ((at_ als (k2 : Int)).lv), .slice (at_ als (k2 : Int)).a (at_ als (k2 : Int)).xs.length (at_ als (k2 : Int)).c, I64 ((at_ als (k2 : Int)).num), I64 ((at_ als (k2 : Int)).den)] 42 :: vc 44 (.slice a2 out2.length c2) (out2) :: blk b9 [I64 (nd), .slice ad7 (atG kd wd mo es (at_ (timesZ kd wd mo es) (k : Int))).length cp8] 48 :: vc 135 (.slice ad7 (atG kd wd mo es (at_ (timesZ kd wd mo es) (k : Int))).length cp8) (atG kd wd mo es (at_ (timesZ kd wd mo es) (k : Int))) :: vc 3 (.slice ad5 (timesZ kd wd mo es).length cp6) (timesZ kd wd mo es) :: vc 4 (.slice ad3 (List.replicate als.length (default : Bool)).length cp4) (on2) :: blk b1 [I64 (kd), I64 (wd), I64 (mo)] 31 :: I) 8 (Dr 0 rfl (Ab fld42_0 rfl) (Dr 1 rfl (Au ty3) ?_))))))
        refine Dr 4 rfl (Bp (vs := [_, _]) ty48) ?_
        refine Dr 5 rfl (Bp (vs := [_, _, _, _, _, _]) ty42) ?_
        refine Ds1 2 (Se rfl (Al call81 rfl rfl (OfAny_ok hak.kind)) ?_)
        rintro _ _ ⟨_, _, ⟨rfl, rfl⟩, rfl, rfl⟩
        refine ⟨Az, ?_⟩
        refine Dr 3 rfl (Runs.fieldV (fun w => fieldK _ _ _ _ _ w) rfl) ?_
        refine Ds1 6 (Se rfl (Ct (fK_call hak.kind) (first := []) (caps := []) rfl rfl rfl (HoldAny_ok (x := (at_ als (k2 : Int))) Be (B8 (hsl _ (Ce om om)) A0) (hH.graph (at_ (timesZ kd wd mo es) (k : Int))) hak (B7 hT A0))) ?_)
        rintro _ _ ⟨_, _, ⟨rfl, rfl⟩, rfl, rfl⟩
        refine ⟨Az, ?_⟩
        refine Dr 7 rfl (A7 rfl) (Dz (Aj (Ap (S16 23 21 0 1 3 6 15 16 18 19 57 58 59 74 75 76 rfl rfl rfl rfl rfl rfl rfl rfl rfl rfl rfl rfl rfl rfl rfl rfl) (Ah (Gm rfl (Gm rfl (Gm rfl (Gr (Aw (α := Bool) (xs := on2) B3 ty4 rfl rfl Be om olr) (Gr (Eq (xs := on2) ty4 rfl Be om olr) (Gr (Runs.neqb El rfl rfl) (Af (Ap (S17 93 23 21 0 1 3 6 15 16 18 19 57 58 59 74 75 76 rfl rfl rfl rfl rfl rfl rfl rfl rfl rfl rfl rfl rfl rfl rfl rfl rfl) (A8 rfl (fun c93 => ?_) (fun c93 => ?_))))))))))))))
        ·refine Ah (Gm rfl (Gm rfl (Gm rfl (Gr (Aw (α := Bool) (xs := on2) B3 ty4 rfl rfl Be om olr) (Ge0 (Cs (α := Bool) (xs := on2) (e := 4) (new := (holdV nd (atG kd wd mo es (at_ (timesZ kd wd mo es) (k : Int))) (at_ als (k2 : Int)))) ty4 rfl rfl rfl om olr am) ?_)))))
         refine Af (Ap (S16 23 21 0 1 3 6 15 16 18 19 57 58 59 74 75 76 rfl rfl rfl rfl rfl rfl rfl rfl rfl rfl rfl rfl rfl rfl rfl rfl) (Ax (Gm rfl (Gm rfl (Gm rfl (Gm rfl (Gr (A9 (cells := [_, _, _]) ty44 Cu pl44 rfl rfl) (Ge1 (Bz (α := Rg) (cs := [_, _, _]) (xs := [⟨at_ (timesZ kd wd mo es) (k : Int), (k2 : Int), (holdV nd (atG kd wd mo es (at_ (timesZ kd wd mo es) (k : Int))) (at_ als (k2 : Int)))⟩]) Cn ty44 rfl rfl dc dc rfl rfl rfl rfl) fun ad11 => ?_))))))))
         refine Ge2 (Cg (α := Rg) (e := 44) (xs := out2) (ys := ([⟨at_ (timesZ kd wd mo es) (k : Int), (k2 : Int), (holdV nd (atG kd wd mo es (at_ (timesZ kd wd mo es) (k : Int))) (at_ als (k2 : Int)))⟩] : List Rg)) Cn ty44 rfl rfl rfl mm Be lcn dc rfl (fun _ _ => am)) fun ad12 cp13 => ?_
         exact Ga rfl (Bg (Ai (Aj (Ap (S14 15 0 1 3 6 16 18 19 57 58 59 74 75 76 rfl rfl rfl rfl rfl rfl rfl rfl rfl rfl rfl rfl rfl rfl) (Ax (Gr (Rad rfl rfl) (Gm rfl (Bg (B0 ((k2 + 1), (ad12), (cp13), (List.set on2 ((k2 : Int)).toNat ((holdV nd (atG kd wd mo es (at_ (timesZ kd wd mo es) (k : Int))) (at_ als (k2 : Int))))), (out2 ++ ([⟨at_ (timesZ kd wd mo es) (k : Int), (k2 : Int), (holdV nd (atG kd wd mo es (at_ (timesZ kd wd mo es) (k : Int))) (at_ als (k2 : Int)))⟩] : List Rg))) (by dsimp only; exact ⟨om, (by first | exact ring_yes hst2 c93 | exact ring_no hst2 c93)⟩))))))))))
        ·exact A2 (Ai (Aj (Ap (S14 0 1 3 6 15 16 18 19 57 58 59 74 75 76 rfl rfl rfl rfl rfl rfl rfl rfl rfl rfl rfl rfl rfl rfl) (Ax (Gr (Rad rfl rfl) (Gm rfl (Bg (B0 ((k2 + 1), (a2), (c2), (on2), (out2)) (by dsimp only; exact ⟨om, (by first | exact ring_yes hst2 c93 | exact ring_no hst2 c93)⟩)))))))))
       ·exact Bs (Am (Am (A6 (Ai (Aj (Ap (S9 0 1 3 6 15 16 57 58 59 rfl rfl rfl rfl rfl rfl rfl rfl rfl) (Ax (Gr (Rad rfl rfl) (Gm rfl (Bg (B0 ((k + 1), (a2), (c2), (on2), (out2)) (by dsimp only; exact ⟨om, (by rw [hst2, ringS_take om, ← hst, show k2 = als.length by omega])⟩))))))))))))
     ·refine Bs (Am (Am (A6 (Aj (Ah (Gm rfl (Ga rfl (Ga rfl (Af (Ay ?_))))))))))
      have hE : out = (ringsV nd kd wd mo es als) := by have h := congrArg Prod.snd hst; rw [List.take_of_length_le om] at h; exact h
      exact Cw rfl rfl rfl (vc 44 (.slice a (ringsV nd kd wd mo es als).length c) (ringsV nd kd wd mo es als) :: I) (by rw [← hE]; exact B1) ⟨a, c, by rw [← hE], rfl⟩
end Go.Sl
namespace Go.Sl
def valM : Int ⊕ Bool → Value
 | .inl n => I64 n
 | .inr b => .bool b
def kndM : Int ⊕ Bool → Bool
 | .inl _ => true
 | .inr _ => false
section
variable {P : Program}
def flatM (P : Program) : List Field → List Bool → Nat → Bool
 | [], _, _ => true
 | f :: fs, [], _ => false
 | f :: fs, k :: ks, o => (f.name != "_") && (match P.underlying f.type with | some (.int .i64) => k | some .bool => !k | _ => false) && (f.offset == o) && flatM P fs ks (o + 1)
theorem run_eqMix (d : Nat) (w : World) (ns ms : List (Int ⊕ Bool)) : ∀ (fs : List Field) (ks : List Bool) (o : Nat), flatM P fs ks o = true → ns.length = o + fs.length → ms.length = o + fs.length → (ns.drop o).map kndM = ks → (ms.drop o).map kndM = ks →
  (Op.eqFields (d + 1) (ns.map valM).toArray (ms.map valM).toArray fs).run P w = .ok (decide (ns.drop o = ms.drop o)) w
 | [], ks, o, _, hn, hm, _, _ => by
  have h1 : ns.drop o = [] := List.drop_eq_nil_of_le (by simp at hn; omega)
  have h2 : ms.drop o = [] := List.drop_eq_nil_of_le (by simp at hm; omega)
  simp [Op.eqFields, h1, h2]
 | f :: fs, [], o, h, _, _, _, _ => by simp [flatM] at h
 | f :: fs, k :: ks, o, h, hn, hm, kn, km => by
  simp only [flatM, Bool.and_eq_true, bne_iff_ne, beq_iff_eq] at h
  obtain ⟨⟨⟨h1, h2⟩, h3⟩, h4⟩ := h
  simp only [List.length_cons] at hn hm
  have hno : o < ns.length := by omega
  have hmo : o < ms.length := by omega
  rw [List.drop_eq_getElem_cons hno, List.map_cons, List.cons.injEq] at kn
  rw [List.drop_eq_getElem_cons hmo, List.map_cons, List.cons.injEq] at km
  have ih := run_eqMix d w ns ms fs ks (o + 1) h4 (by omega) (by omega) kn.2 km.2
  have key : (ns.drop o = ms.drop o) ↔ (ns[o] = ms[o] ∧ ns.drop (o + 1) = ms.drop (o + 1)) := by rw [List.drop_eq_getElem_cons hno, List.drop_eq_getElem_cons hmo, List.cons.injEq]
  have key2 : decide (ns.drop o = ms.drop o) = decide (ns[o] = ms[o] ∧ ns.drop (o + 1) = ms.drop (o + 1)) := decide_eq_decide.2 key
  rw [key2]
  have ha : (isAgg f.type).run P w = .ok false w := by
   revert h2; split <;> intro h2
   ·rename_i hu; simp [isAgg, run_underlying hu]
   ·rename_i hu; simp [isAgg, run_underlying hu]
   ·cases h2
  have hp : ∀ (xs : List (Int ⊕ Bool)) (hk : o < xs.length), (part f.type (xs.map valM).toArray f.offset).run P w = .ok (valM xs[o]) w := fun xs hk => by
   have hcell : (valM xs[o]).cells = #[valM xs[o]] ∨ True := .inr trivial
   simp [part, ha, h3, hk]
  have he : (Op.equalIn (d + 1) f.type (valM ns[o]) (valM ms[o])).run P w = .ok (decide (ns[o] = ms[o])) w := by
   have kn1 := kn.1
   have km1 := km.1
   generalize ns[o] = n at kn1
   generalize ms[o] = m at km1
   revert h2; split <;> intro h2
   ·rename_i hu
    subst h2
    cases n with
    | inl a => cases m with
     | inl b => show (Op.equalIn (d + 1) f.type (I64 a) (I64 b)).run P w = _; rw [run_equalIn_int _ _ _ _ _ _ _ hu]; congr 1; by_cases e : a = b <;> simp [e]
     | inr b => cases km1
    | inr a => cases kn1
   ·rename_i hu
    have hk : k = false := by simpa using h2
    subst hk
    cases n with
    | inr a => cases m with
     | inr b => show (Op.equalIn (d + 1) f.type (.bool a) (.bool b)).run P w = _; rw [run_equalIn_bool' w d f.type a b hu]; cases a <;> cases b <;> rfl
     | inl b => cases km1
    | inl a => cases kn1
   ·cases h2
  simp only [Op.eqFields, if_pos h1, Sem.run_bind, hp ns hno, hp ms hmo, Result.andThen_ok, he]
  by_cases hd : ns[o] = ms[o]
  ·simp [hd, ih]
  ·simp [hd]
theorem EqT.mix {α : Type} [Enc α] [DecidableEq α] {T n : Nat} (vs : α → List (Int ⊕ Bool)) (ks : List Bool) (henc : ∀ x, Enc.enc x = (vs x).map valM) (hinj : ∀ x y, vs x = vs y → x = y) (hlen : ∀ x, (vs x).length = n) (hk : ∀ x, (vs x).map kndM = ks)
  (ht : P.underlying T = some (.struct (P.fieldsOf T))) (hp : P.stoodInHeld T = false) (hf : flatM P (P.fieldsOf T).toList ks 0 = true) (hn : (P.fieldsOf T).size = n) (hg : P.eqGuardType P.depth T = false) : EqT P T α := by
 refine ⟨fun x y w => ?_, hg⟩
 rw [show (10000 : Nat) = 9999 + 1 from rfl, run_equalIn_struct w 9999 T _ _ ht hp, henc, henc, show (9999 : Nat) = 9998 + 1 from rfl,
  run_eqMix 9998 w (vs x) (vs y) _ ks 0 hf (by rw [hlen, Array.length_toList, hn]; omega) (by rw [hlen, Array.length_toList, hn]; omega) (by rw [List.drop_zero]; exact hk x) (by rw [List.drop_zero]; exact hk y)]
 congr 1
 rw [List.drop_zero, List.drop_zero, decide_eq_decide]
 exact ⟨hinj x y, fun e => by rw [e]⟩
end
end Go.Sl
namespace Go.Sl
open Go.Proofs
set_option maxRecDepth 4000
variable {κ : Ctx} {I : List Item}
theorem eqt44 : EqT Tryz.prog 44 Rg := EqT.mix (fun p : Rg => [.inl p.tm, .inl p.al, .inr p.on]) [true, true, false] (fun _ => rfl) (fun x y h => by cases x; cases y; simpa using h) (n := 3) (fun _ => rfl) (fun _ => rfl) kr kr kr kr kr
theorem list_eqR {xs ys : List Rg} (hl : xs.length = ys.length) (h : ∀ j : Nat, j < xs.length → at_ xs (j : Int) = at_ ys (j : Int)) : xs = ys := by
 refine List.ext_getElem hl fun i h1 h2 => ?_
 have := h i h1
 rwa [Dy xs i h1, Dy ys i h2] at this
theorem Same44_ok {va vb : Value} {xs ys : List Rg} (hl : Sl κ I va xs) (hm : Sl κ I vb ys) :
    CallS Tryz.prog κ 24 [va, vb] I (fun r J => r = .bool (decide (xs = ys)) ∧ I = J) := by
 refine B5 hl.le fun hmax => ?_
 refine B5 hm.le fun hmax2 => ?_
 refine Ce2 Tryz.func24 rfl rfl ?_
 refine Ah (Ga rfl (Af (As (Ah (Gm rfl (Gr (Bw (α := Rg) (xs := xs) Cn rfl (Bh hl)) (Gm rfl (Gr (Bw (α := Rg) (xs := ys) Cn rfl (Bh hm)) (Gr (Bt rfl rfl) (Af (A8 rfl (fun c10 => ?_) (fun c10 => ?_))))))))))))
 ·refine Ah (Ga rfl (Af (Ay (Ak ?_))))
  have hne : xs ≠ ys := fun e => by subst e; omega
  exact A4 rfl rfl (I) A0 ⟨by rw [decide_eq_false hne], rfl⟩
 ·refine A2 (Aj (As (Ah (Ga rfl (Af (A1 (Bu (σ := Nat) (fun s => ([(0, va), (1, vb), (5, I64 (((s : Nat) : Int)))] : Env)) (fun s => I) (fun s => (s ≤ xs.length) ∧ (∀ j : Nat, j < s → at_ xs (j : Int) = at_ ys (j : Int))) (fun s => xs.length - s) (0) (show ((0 : Nat) ≤ xs.length) ∧ (∀ j : Nat, j < (0 : Nat) → at_ xs (j : Int) = at_ ys (j : Int)) from ⟨om, (fun j h => by omega)⟩) (Aa rfl (Aa rfl (Aa Ch Bi))) (show Fit κ _ (I) from Az) ?_)))))))
  rintro k hp
  obtain ⟨hk, hn⟩ := hp
  refine As (Ah (Gm rfl (Gm rfl (Gr (Bw (α := Rg) (xs := xs) Cn rfl (Bh hl)) (Gr (Bb rfl rfl) (Af (A8 rfl (fun c14 => ?_) (fun c14 => ?_))))))))
  ·refine A2 (Aj (As (A1 (As (Bj mixed (Bo (I) 9 (Dr 0 rfl (Ad rfl) (Dr 1 rfl (Ad rfl) (Dr 2 rfl (Aw (α := Rg) (xs := xs) Cn ty44 rfl rfl (Bh hl) om om) (Dr 3 rfl (Br (α := Rg) (xs := xs) ty44 rfl (Bh hl) om om) (Dr 4 rfl (Ad rfl) (Dr 5 rfl (Ad rfl) (Dr 6 rfl (Aw (α := Rg) (xs := ys) Cn ty44 rfl rfl (Bh hm) om om) (Dr 7 rfl (Br (α := Rg) (xs := ys) ty44 rfl (Bh hm) om om) (Dr 8 rfl (Runs.neqT (α := Rg) (a := (⟨(at_ xs (k : Int)).tm, (at_ xs (k : Int)).al, (at_ xs (k : Int)).on⟩ : Rg)) (b := (⟨(at_ ys (k : Int)).tm, (at_ ys (k : Int)).al, (at_ ys (k : Int)).on⟩ : Rg)) eqt44 rfl rfl) (Dz (Aj (Ap (S4 25 0 1 5 rfl rfl rfl rfl) (A8 rfl (fun c25 => ?_) (fun c25 => ?_))))))))))))))))))))
   ·refine Ah (Ga rfl (Af (Ay (Aq (Ak (Ak (Aq (Ak ?_))))))))
    have hne : xs ≠ ys := fun e => by subst e; exact c25 rfl
    exact A4 rfl rfl (I) A0 ⟨by rw [decide_eq_false hne], rfl⟩
   ·exact A2 (Ai (Aj (Ax (Gm rfl (Gr (Rad rfl rfl) (Ga rfl (Bg (B0 ((k + 1)) ⟨om, (fun j h => by by_cases e : j = k; (· subst e; exact Classical.not_not.1 c25); (· exact hn j om))⟩))))))))
  ·refine Bs (Am (Am (A6 (Aj (Ah (Ga rfl (Af (Ay ?_))))))))
   have he : xs = ys := list_eqR om (fun j hj => hn j om)
   exact A4 rfl rfl (I) A0 ⟨by rw [decide_eq_true he], rfl⟩
theorem MkWindowV_base {b : Nat} {lv : Value} {ls : List Int} {i : Int}  (hl : ∀ q, Sl κ (deck b lv q :: I) lv ls) (h0 : 0 ≤ i)   :
    CallS Tryz.prog κ 21 [.pointer (some ⟨b, 0, none⟩)] (blk b [lv, I64 (i)] 125 :: I) (fun r J => ∃ y : Int × Int × Int × Int, ((r = .agg #[I64 y.1, I64 y.2.1, I64 y.2.2.1] ∧ checkW y.1 y.2.1 y.2.2.1 = 0) ∧ 0 ≤ y.2.2.2) ∧ J = [] ++ deck b lv y.2.2.2 :: I) := by
 refine Ce1 Tryz.func21 rfl rfl ?_
 refine Ah (Ge1 (Ba ty31 rfl) fun b1 => Af (As (Ah (Gm rfl (G.e (Al call19 rfl rfl (Next_ok (by repeat (first | exact AtF.head _ _ | apply AtF.tail)) (B8 (hl _) A0) om om)) ?_)))))
 rintro _ _ ⟨_, _, ⟨x2, i3, rfl, hx2, hi3, rfl⟩, rfl, rfl⟩
 show G Tryz.prog κ _ _ _ _ ([(4, I64 (x2)), (3, .pointer (some ⟨b, 0, none⟩)), (2, .pointer (some ⟨b1, 0, none⟩)), (0, .pointer (some ⟨b, 0, none⟩))] : Env) (blk b1 [I64 (0), I64 (0), I64 (0)] 31 :: blk b [lv, I64 (i3)] 125 :: I)
 refine Af (A1 (Ah (Gr (Bl rfl rfl) (Ga rfl (Af (A8 rfl (fun c5 => ?_) (fun c5 => ?_)))))))
 ·refine Ah (Gm rfl (G.e (Al call19 rfl rfl (Next_ok (by repeat (first | exact AtF.head _ _ | apply AtF.tail)) (B8 (hl _) A0) om om)) ?_))
  rintro _ _ ⟨_, _, ⟨x4, i5, rfl, hx4, hi5, rfl⟩, rfl, rfl⟩
  show G Tryz.prog κ _ _ _ _ ([(8, I64 (x4)), (7, .pointer (some ⟨b, 0, none⟩)), (5, .bool (decide (x2 = 1))), (6, .bool (decide (x2 = 1))), (4, I64 (x2)), (3, .pointer (some ⟨b, 0, none⟩)), (2, .pointer (some ⟨b1, 0, none⟩)), (0, .pointer (some ⟨b, 0, none⟩))] : Env) (blk b1 [I64 (0), I64 (0), I64 (0)] 31 :: blk b [lv, I64 (i5)] 125 :: I)
  refine Gr (Rad rfl rfl) (Gr (A9 (cells := [_, _, _]) ty31 Eh pl31 rfl rfl) (Ge0 (Es3_3 ty31) ?_))
  exact Af (Ay (Aq (Ak (D0 rfl ty31 rfl mm rfl (blk b [lv, I64 (i5)] 125 :: I) Az ⟨(2, 1 + x4, 0, i5), ⟨⟨rfl, by show checkW (2) (1 + x4) (0) = 0; unfold checkW; rw [if_neg om, if_neg om]⟩, by show 0 ≤ i5; omega⟩, rfl⟩))))
 ·refine Ah (Gr (Bl rfl rfl) (Ga rfl (Af (A8 rfl (fun c11 => ?_) (fun c11 => ?_)))))
  ·refine Ah (Gm rfl (G.e (Al call19 rfl rfl (Next_ok (by repeat (first | exact AtF.head _ _ | apply AtF.tail)) (B8 (hl _) A0) om om)) ?_))
   rintro _ _ ⟨_, _, ⟨x6, i7, rfl, hx6, hi7, rfl⟩, rfl, rfl⟩
   show G Tryz.prog κ _ _ _ _ ([(14, I64 (x6)), (13, .pointer (some ⟨b, 0, none⟩)), (11, .bool (decide (x2 = 2))), (12, .bool (decide (x2 = 2))), (5, .bool (decide (x2 = 1))), (6, .bool (decide (x2 = 1))), (4, I64 (x2)), (3, .pointer (some ⟨b, 0, none⟩)), (2, .pointer (some ⟨b1, 0, none⟩)), (0, .pointer (some ⟨b, 0, none⟩))] : Env) (blk b1 [I64 (0), I64 (0), I64 (0)] 31 :: blk b [lv, I64 (i7)] 125 :: I)
   refine Gr (A9 (cells := [_, _, _]) ty31 Eh pl31 rfl rfl) (Ge0 (Es3_3 ty31) ?_)
   exact Af (Ay (Aq (Ak (D0 rfl ty31 rfl mm rfl (blk b [lv, I64 (i7)] 125 :: I) Az ⟨(3, 0, x6, i7), ⟨⟨rfl, by show checkW (3) (0) (x6) = 0; unfold checkW; rw [if_neg om, if_neg om]⟩, by show 0 ≤ i7; omega⟩, rfl⟩))))
  ·refine A2 (Ai (Aj (Ah (Gr (A9 (cells := [_, _, _]) ty31 Eh pl31 rfl rfl) (Ge0 (Es3_3 ty31) ?_)))))
   exact Af (Ay (D0 rfl ty31 rfl mm rfl (blk b [lv, I64 (i3)] 125 :: I) Az ⟨(1, 0, 0, i3), ⟨⟨rfl, by show checkW (1) (0) (0) = 0; unfold checkW; rw [if_neg om, if_neg om]⟩, by show 0 ≤ i3; omega⟩, rfl⟩))
theorem MkWindowV_at {F : Item → List Item} {b : Nat} {lv : Value} {ls : List Int} {i : Int}  (hat : AtF I (deck b lv i) F) (hl : ∀ q, Sl κ (F (deck b lv q)) lv ls) (h0 : 0 ≤ i)   :
  CallS Tryz.prog κ 21 [.pointer (some ⟨b, 0, none⟩)] I fun r J => ∃ y : Int × Int × Int × Int, ((r = .agg #[I64 y.1, I64 y.2.1, I64 y.2.2.1] ∧ checkW y.1 y.2.1 y.2.2.1 = 0) ∧ 0 ≤ y.2.2.2) ∧ J = [] ++ F (deck b lv y.2.2.2) :=
 Er (Post := fun r (y : Int × Int × Int × Int) => (r = .agg #[I64 y.1, I64 y.2.1, I64 y.2.2.1] ∧ checkW y.1 y.2.1 y.2.2.1 = 0) ∧ 0 ≤ y.2.2.2) (Z := fun y : Int × Int × Int × Int => []) (X := fun y : Int × Int × Int × Int => deck b lv y.2.2.2) hat fun J _ hF => MkWindowV_base (fun q => (hl q).fit (hF _)) h0  
theorem timesZ_zero {nd kd wd mo : Int} {es : List Ev} (hH : HistOk nd kd wd mo es) : ∃ ts, timesZ kd wd mo es = 0 :: ts := by
 have h0 : (0 : Int) ∈ timesZ kd wd mo es := mem_ascZ.2 (by unfold timesL; exact List.mem_cons_self)
 have ha := ascZ_asc (timesL kd wd mo es)
 have hr := timesZ_rng hH
 unfold timesZ at h0 hr ⊢
 generalize ascZ (timesL kd wd mo es) = T at h0 ha hr
 cases T with
 | nil => cases h0
 | cons t ts =>
  refine ⟨ts, ?_⟩
  rcases List.mem_cons.1 h0 with h | h
  ·rw [← h]
  ·have h1 := (List.pairwise_cons.1 ha).1 0 h
   have h2 := (hr t List.mem_cons_self).1
   omega
theorem rings_const {nd kd wd mo : Int} {es : List Ev} {als : List AlV} {gb : Nat → Bool} (hH : HistOk nd kd wd mo es) (h : ∀ t, ∀ i : Nat, i < als.length → alH nd kd wd mo es als t i = gb i) : ringsV nd kd wd mo es als = relR (fun _ => false) 0 gb als.length := by
 obtain ⟨ts, hts⟩ := timesZ_zero hH
 unfold ringsV
 rw [ringS_eq, hts]
 simp only [relA]
 rw [relA_same _ _ ts _ fun t _ i hi => by rw [h t i hi, h 0 i hi], List.append_nil]
 unfold relR
 have hf : (List.range als.length).filter (fun (i : Nat) => alH nd kd wd mo es als 0 i != false) = (List.range als.length).filter (fun (i : Nat) => gb i != false) := List.filter_congr fun i hi => by rw [h 0 i (List.mem_range.1 hi)]
 rw [hf]
 refine List.map_congr_left fun i hi => ?_
 rw [h 0 i (List.mem_range.1 (List.mem_filter.1 hi).1)]
def evA : Ev := ⟨1, 4, 0, 1, 1, 0, 1⟩
theorem ascZ_of {xs : List Int} (h : xs.Pairwise (· < ·)) : ascZ xs = xs := intLin.uniq (ascZ_asc xs) h fun _ => mem_ascZ
theorem slide_one : slideS 2 3 0 [evA] = ([lkOf evA], [evA]) := by
 show evStep 2 3 0 ([], []) evA = _
 unfold evStep agedL windL
 rw [if_pos rfl, ageL_stop (by simp)]
 decide
theorem all_one : allE 2 3 0 [evA] = [evA, cutAt 3 (lkOf evA)] := by
 unfold allE; rw [slide_one]; decide
theorem times_one : timesZ 2 3 0 [evA] = [0, 4, 7] := by
 unfold timesZ timesL
 rw [slide_one]
 exact ascZ_of dc
theorem ev_at0 : atG 2 3 0 [evA] 0 = [] := by unfold atG atK; rw [all_one]; decide
theorem ev_at4 : atG 2 3 0 [evA] 4 = [⟨0, 1⟩] := by unfold atG atK; rw [all_one]; decide
theorem ev_at7 : atG 2 3 0 [evA] 7 = [] := by unfold atG atK; rw [all_one]; decide
theorem core_e0 : coreN 2 [] = [0, 0] := by decide +kernel
theorem core_e1 : coreN 2 [⟨0, 1⟩] = [1, 1] := by decide +kernel
theorem hist_one : HistOk 2 2 3 0 [evA] := ⟨⟨by decide, by decide, fun j hj => by
 obtain rfl : j = 0 := by simp at hj; exact hj
 exact fitE_ok.1 dc, fun j hj => by
 obtain rfl : j = 0 := by simp at hj; exact hj
 decide⟩, by decide⟩
theorem cond1 {nd : Int} {es : List Pt} {x : AlV} (h : x.kd = 1) : condP nd es x ↔ x.lv ≤ at_ (coreN nd es) x.no := by unfold condP; rw [if_pos h]
theorem cond2 {nd : Int} {es : List Pt} {x : AlV} (h : x.kd = 2) : condP nd es x ↔ densQ nd es x.num x.den := by unfold condP; rw [if_neg om, if_pos h]
theorem cond3 {nd : Int} {es : List Pt} {x : AlV} (h : x.kd = 3) : condP nd es x ↔ 0 ≤ cmpF (densG nd es x.xs) ⟨x.num, x.den⟩ := by unfold condP; rw [if_neg om, if_neg om, if_pos h]
theorem cond4 {nd : Int} {es : List Pt} {x : AlV} (h : x.kd = 4) : condP nd es x ↔ ∃ t ∈ trussG nd es, x.lv ≤ t := by unfold condP; rw [if_neg om, if_neg om, if_neg om, if_pos h]
theorem cond5 {nd : Int} {es : List Pt} {x : AlV} (h : x.kd = 5) : condP nd es x ↔ ∀ y ∈ x.xs, y ∈ commG nd es (at_ x.xs 0) x.lv := by unfold condP; rw [if_neg om, if_neg om, if_neg om, if_neg om]
theorem holdV_no {nd : Int} {es : List Pt} {x : AlV} (h : ¬ condP nd es x) : holdV nd es x = false := by
 rw [Bool.eq_false_iff]; exact fun h2 => h ((holdV_iff _ _ _).1 h2)
theorem dens0 {nd : Int} {es : List Pt} {x : AlV} (hG : GrOk nd es) (hk : x.kd = 3) (hn : x.num = 0) (hd : 0 ≤ x.den) : holdV nd es x = true := (holdV_iff _ _ _).2 ((cond3 hk).2 (by
 rw [cmpF_ge, hn]
 have h := densG_frv hG x.xs
 have := Int.mul_nonneg h.n0 hd
 show (0 : Int) * _ ≤ _
 rw [Int.zero_mul]; exact this))
theorem awake_rings (a0 : Option Addr) (c0 : Nat) : ringsV 2 2 3 0 [evA] [⟨3, 0, 0, a0, c0, [0, 1], 0, 1⟩, ⟨1, 0, 1, none, 0, [], 0, 0⟩] = [⟨0, 0, true⟩, ⟨4, 1, true⟩, ⟨7, 1, false⟩] := by
 have h0 : ∀ t, alH 2 2 3 0 [evA] [⟨3, 0, 0, a0, c0, [0, 1], 0, 1⟩, ⟨1, 0, 1, none, 0, [], 0, 0⟩] t 0 = true := fun t => dens0 (hist_one.graph t) rfl rfl (show (0 : Int) ≤ 1 by decide)
 have h1 : ∀ t, alH 2 2 3 0 [evA] [⟨3, 0, 0, a0, c0, [0, 1], 0, 1⟩, ⟨1, 0, 1, none, 0, [], 0, 0⟩] t 1 = holdV 2 (atG 2 3 0 [evA] t) ⟨1, 0, 1, none, 0, [], 0, 0⟩ := fun t => rfl
 have ha : holdV 2 (atG 2 3 0 [evA] 0) ⟨1, 0, 1, none, 0, [], 0, 0⟩ = false := holdV_no (by rw [cond1 rfl, ev_at0, core_e0]; decide)
 have hb : holdV 2 (atG 2 3 0 [evA] 4) ⟨1, 0, 1, none, 0, [], 0, 0⟩ = true := (holdV_iff _ _ _).2 (by rw [cond1 rfl, ev_at4, core_e1]; decide)
 have hc : holdV 2 (atG 2 3 0 [evA] 7) ⟨1, 0, 1, none, 0, [], 0, 0⟩ = false := holdV_no (by rw [cond1 rfl, ev_at7, core_e0]; decide)
 unfold ringsV
 rw [ringS_eq, times_one]
 simp only [relA, relR, List.length_cons, List.length_nil, Nat.zero_add, Nat.reduceAdd]
 have hr : List.range 2 = [0, 1] := rfl
 simp [hr, List.filter_cons, h0, h1, ha, hb, hc]
theorem al1 {n no lv : Int} (h1 : 0 ≤ no ∧ no < n) (h2 : 0 ≤ lv ∧ lv ≤ 64) (a : Option Addr) (c : Nat) : AlOk n ⟨1, no, lv, a, c, [], 0, 0⟩ where
 kind := by show 1 ≤ (1 : Int) ∧ (1 : Int) ≤ 5; decide
 k1 := fun _ => ⟨h1, h2, rfl, rfl, rfl⟩
 k2 := fun h => absurd h (by show ¬ (1 : Int) = 2; decide)
 k3 := fun h => absurd h (by show ¬ (1 : Int) = 3; decide)
 k4 := fun h => absurd h (by show ¬ (1 : Int) = 4; decide)
 k5 := fun h => absurd h (by show ¬ (1 : Int) = 5; decide)
theorem al2 {n num den : Int} (h : FrV ⟨num, den⟩) (a : Option Addr) (c : Nat) : AlOk n ⟨2, 0, 0, a, c, [], num, den⟩ where
 kind := by show 1 ≤ (2 : Int) ∧ (2 : Int) ≤ 5; decide
 k1 := fun h => absurd h (by show ¬ (2 : Int) = 1; decide)
 k2 := fun _ => ⟨rfl, rfl, rfl, h⟩
 k3 := fun h => absurd h (by show ¬ (2 : Int) = 3; decide)
 k4 := fun h => absurd h (by show ¬ (2 : Int) = 4; decide)
 k5 := fun h => absurd h (by show ¬ (2 : Int) = 5; decide)
theorem al3' {n num den : Int} {xs : List Int} (h1 : 0 < xs.length ∧ xs.length ≤ 64) (h2 : ValidP xs n) (h : FrV ⟨num, den⟩) (a : Option Addr) (c : Nat) : AlOk n ⟨3, 0, 0, a, c, xs, num, den⟩ where
 kind := by show 1 ≤ (3 : Int) ∧ (3 : Int) ≤ 5; decide
 k1 := fun h => absurd h (by show ¬ (3 : Int) = 1; decide)
 k2 := fun h => absurd h (by show ¬ (3 : Int) = 2; decide)
 k3 := fun _ => ⟨rfl, rfl, h1, h2, h⟩
 k4 := fun h => absurd h (by show ¬ (3 : Int) = 4; decide)
 k5 := fun h => absurd h (by show ¬ (3 : Int) = 5; decide)
theorem al3 (a0 : Option Addr) (c0 : Nat) : AlOk 2 ⟨3, 0, 0, a0, c0, [0, 1], 0, 1⟩ := al3' (n := 2) (num := 0) (den := 1) (xs := [0, 1]) dc dc ⟨by decide, by decide, by decide, by decide, by decide⟩ a0 c0
theorem al4 {n lv : Int} (h2 : 0 ≤ lv ∧ lv ≤ 64) (a : Option Addr) (c : Nat) : AlOk n ⟨4, 0, lv, a, c, [], 0, 0⟩ where
 kind := by show 1 ≤ (4 : Int) ∧ (4 : Int) ≤ 5; decide
 k1 := fun h => absurd h (by show ¬ (4 : Int) = 1; decide)
 k2 := fun h => absurd h (by show ¬ (4 : Int) = 2; decide)
 k3 := fun h => absurd h (by show ¬ (4 : Int) = 3; decide)
 k4 := fun _ => ⟨rfl, h2, rfl, rfl, rfl⟩
 k5 := fun h => absurd h (by show ¬ (4 : Int) = 5; decide)
theorem al5 {n lv : Int} {xs : List Int} (h1 : 0 < xs.length ∧ xs.length ≤ 64) (hv : ValidP xs n) (h2 : 0 ≤ lv ∧ lv ≤ 64) (a : Option Addr) (c : Nat) : AlOk n ⟨5, 0, lv, a, c, xs, 0, 0⟩ where
 kind := by show 1 ≤ (5 : Int) ∧ (5 : Int) ≤ 5; decide
 k1 := fun h => absurd h (by show ¬ (5 : Int) = 1; decide)
 k2 := fun h => absurd h (by show ¬ (5 : Int) = 2; decide)
 k3 := fun h => absurd h (by show ¬ (5 : Int) = 3; decide)
 k4 := fun h => absurd h (by show ¬ (5 : Int) = 4; decide)
 k5 := fun _ => ⟨rfl, h2, h1, hv, rfl, rfl⟩
set_option maxHeartbeats 1000000 in
theorem Awake44_ok {κ : Ctx} {I : List Item} (hT : TabRd κ I 0 tzCells) :
    CallS Tryz.prog κ 17 [] I (fun r J => r = .bool true ∧ I = J) := by
 refine Ce0 Tryz.func17 rfl rfl ?_
 refine Ah (Ga rfl (Af (Ah (Ge1 (Bz (α := Int) (cs := [_, _]) (xs := [0, 1]) Ac ty3 rfl rfl dc dc rfl rfl rfl rfl) fun ad1 => ?_))))
 refine Gr (A9 (cells := [_, _]) ty40 C0 pl40 rfl rfl) (Gr (A9 (cells := [_, _, _, _, _, _]) ty42 Cz pl42 rfl rfl) (Ge1 (Ba ty42 rfl) fun b2 => Ge0 (Dx ty42) ?_))
 refine Af (Ah (Gr (A9 (cells := [_, _, _, _, _, _]) ty42 Cz pl42 rfl rfl) (Ge1 (Ba ty42 rfl) fun b3 => Ge0 (Dx ty42) ?_)))
 refine Af (Ah (Gr (A9 (cells := [_, _, _, _, _, _, _]) ty108 Dj pl108 rfl rfl) (Ge1 (Bz (α := Ev) (cs := [I64 (1), I64 (4), I64 (0), I64 (1), I64 (1), I64 (0), I64 (1)]) (xs := [⟨1, 4, 0, 1, 1, 0, 1⟩]) A5 ty108 rfl rfl dc dc rfl kr rfl rfl) fun ad4 => ?_)))
 refine Gr (A9 (cells := [_, _, _]) ty31 Eh pl31 rfl rfl) (Gl6 ty42 ?_)
 refine Gl6 ty42 ?_
 refine Ge1 (Bz (α := AlV) (cs := [I64 (3), I64 (0), I64 (0), .slice ad1 2 2, I64 (0), I64 (1), I64 (1), I64 (0), I64 (1), .slice none 0 0, I64 (0), I64 (0)]) (xs := [⟨3, 0, 0, ad1, 2, ([0, 1] : List Int), 0, 1⟩, ⟨1, 0, 1, none, 0, [], 0, 0⟩]) Co ty42 rfl rfl dc dc rfl kr rfl rfl) fun ad5 => ?_
 refine G.e (Al call23 rfl rfl (Watch_ok (nd := 2) (kd := 2) (wd := 3) (mo := 0) (es := ([⟨1, 4, 0, 1, 1, 0, 1⟩] : List Ev)) (als := ([⟨3, 0, 0, ad1, 2, ([0, 1] : List Int), 0, 1⟩, ⟨1, 0, 1, none, 0, [], 0, 0⟩] : List AlV)) (ea := ad4) (ec := 1) (aa := ad5) (ac := 2) Be Be (by intro x hx; simp only [List.mem_cons, List.not_mem_nil, or_false] at hx; rcases hx with rfl | rfl; (· exact D5 (xs := [0, 1]) mm); (· exact Ej _)) hist_one dc (by intro x hx; simp only [List.mem_cons, List.not_mem_nil, or_false] at hx; rcases hx with rfl | rfl; (· exact al3 _ _); (· exact al1 dc dc _ _)) (Nat.le_of_ble_eq_true rfl) (B7 hT A0))) ?_
 rintro _ _ ⟨_, _, ⟨ad6, cp7, rfl, rfl⟩, rfl, rfl⟩
 refine Gm rfl (Gr (A3 rfl rfl) (Gr (A3 rfl rfl) (Ga rfl (Ga rfl (Af (Ap (S2 4 3 rfl rfl) (Ah (Gm rfl (Gr (Bl rfl rfl) (Gm rfl (Bf (d := 21) rfl (fun g21 => ?_) (fun g21 => ?_))))))))))))
 ·refine Gro (Ad rfl) (Gro (A9 (cells := [_, _, _]) ty44 Cu pl44 rfl rfl) (Gro (A9 (cells := [_, _, _]) ty44 Cu pl44 rfl rfl) (Gro (A9 (cells := [_, _, _]) ty44 Cu pl44 rfl rfl) (Dv (Cf rfl rfl rfl) (Bz (α := Rg) (cs := [I64 (0), I64 (0), .bool true, I64 (4), I64 (1), .bool true, I64 (7), I64 (1), .bool false]) (xs := [⟨0, 0, true⟩, ⟨4, 1, true⟩, ⟨7, 1, false⟩]) Cn ty44 rfl rfl dc dc rfl kr rfl rfl) ?_))))
  rintro _ _ ⟨ad8, rfl, rfl⟩
  refine Dv (Cf rfl rfl rfl) (Al call24 rfl rfl (Same44_ok Be Be)) ?_
  rintro _ _ ⟨_, _, ⟨rfl, rfl⟩, rfl, rfl⟩
  exact Gr (Ao rfl rfl) (Ga rfl (Af (Ap (S1 0 rfl) (Ay (A4 rfl rfl (I) A0 ⟨by rw [decide_eq_true (by exact awake_rings _ _)], rfl⟩)))))
 ·exact absurd rfl g21
abbrev neverL (n : Int) (a : Option Addr) (c : Nat) : List AlV := [⟨1, 0, n, none, 0, [], 0, 0⟩, ⟨2, 0, 0, none, 0, [], n, 1⟩, ⟨4, 0, n, none, 0, [], 0, 0⟩, ⟨5, 0, n, a, c, [0, 1], 0, 0⟩]
abbrev alwaysL (a : Option Addr) (c : Nat) : List AlV := [⟨1, 1, 0, none, 0, [], 0, 0⟩, ⟨2, 0, 0, none, 0, [], 0, 1⟩, ⟨5, 0, 0, a, c, [1], 0, 0⟩]
theorem coreN_bd {nd : Int} {es : List Pt} (hG : GrOk nd es) (h1 : 1 ≤ nd) : ∀ x ∈ coreN nd es, 0 ≤ x ∧ x ≤ nd - 1 := fun x hx => by
 unfold coreN at hx
 rw [if_neg (fun h => h (checkG_ok.2 hG))] at hx
 exact coreL_bd hG h1 x hx
theorem rchG_eq {nd : Int} {es : List Pt} (hG : GrOk nd es) (f s : List Int) : rchG nd es f s = listB (reachB (rowsB nd es) (maskB f) (maskB s &&& allB nd)) := if_neg (fun h => h (checkG_ok.2 hG))
theorem maskB_bit {l : List Int} {y : Int} (h0 : 0 ≤ y) (h1 : y < 64) : (maskB l).getLsbD y.toNat = decide (y ∈ l) := by
 have h := getLsb_maskB (i := y.toNat) om l 0#64
 rw [show ((y.toNat : Nat) : Int) = y by omega] at h
 unfold maskB
 rw [h]; simp
theorem at_append_rightG {α : Type} [Inhabited α] (xs ys : List α) (k : Nat) (h : xs.length ≤ k) : at_ (xs ++ ys) (k : Int) = at_ ys ((k - xs.length : Nat) : Int) := by
 rw [at_nat, at_nat, List.getD_eq_getElem?_getD, List.getD_eq_getElem?_getD, List.getElem?_append_right h]
theorem rchG_sub {nd : Int} {es : List Pt} (hG : GrOk nd es) {f s : List Int} {y : Int} (h : y ∈ rchG nd es f s) : y ∈ s := by
 rw [rchG_eq hG] at h
 have h1 := mem_listB.1 h
 have h2 := (reachB_ok (rowsB nd es) (maskB f) (maskB s &&& allB nd)).sub _ h1.2
 rw [BitVec.getLsbD_and, Bool.and_eq_true] at h2
 have h3 := listB_lt h
 rw [maskB_bit h3.1 h3.2, decide_eq_true_eq] at h2
 exact h2.1
theorem rchG_start {nd : Int} {es : List Pt} (hG : GrOk nd es) {f s : List Int} {y : Int} (h0 : 0 ≤ y ∧ y < nd) (hf : y ∈ f) (hs : y ∈ s) : y ∈ rchG nd es f s := by
 have hr := hG.rng
 rw [rchG_eq hG]
 refine mem_listB.2 ⟨h0.1, (reachB_ok (rowsB nd es) (maskB f) (maskB s &&& allB nd)).start _ ?_⟩
 rw [BitVec.getLsbD_and, BitVec.getLsbD_and, maskB_bit h0.1 om, maskB_bit h0.1 om, decide_eq_true hf, decide_eq_true hs, getLsb_allB hr.1 hr.2 om, decide_eq_true om]
 rfl
theorem mem_coreK {nd lv : Int} {es : List Pt} {y : Int} : y ∈ coreK nd es lv ↔ (0 ≤ y ∧ y < (coreN nd es).length) ∧ lv ≤ at_ (coreN nd es) y := by
 unfold coreK; rw [mem_sideL, decide_eq_true_eq]
theorem never_no {n : Int} {es : List Pt} (hG : GrOk n es) (hn : 2 ≤ n) (a : Option Addr) (c : Nat) (i : Nat) (hi : i < 4) : holdV n es (at_ (neverL n a c) (i : Int)) = false := by
 have hl := coreN_leng hG
 have hb := coreN_bd hG om
 obtain rfl | rfl | rfl | rfl : i = 0 ∨ i = 1 ∨ i = 2 ∨ i = 3 := by omega
 ·refine holdV_no fun h => ?_
  have h := (cond1 rfl).1 h
  have h2 := hb _ (Ce (xs := coreN n es) (i := 0) om om)
  have h3 : n ≤ at_ (coreN n es) 0 := h
  omega
 ·refine holdV_no fun h => ?_
  have h := (cond2 rfl).1 h
  have h3 : densQ n es n 1 := h
  unfold densQ at h3
  rw [if_neg om] at h3
  exact dens_small hG om h3
 ·refine holdV_no fun h => ?_
  obtain ⟨t, ht, h⟩ := (cond4 rfl).1 h
  have h2 := trussG_bd hG om t ht
  have h3 : n ≤ t := h
  omega
 ·refine holdV_no fun h => ?_
  have h := (cond5 rfl).1 h
  have h2 : (0 : Int) ∈ commG n es (at_ [0, 1] 0) n := h 0 (by show (0 : Int) ∈ [0, 1]; simp)
  have h3 := rchG_sub hG h2
  obtain ⟨h4, h5⟩ := mem_coreK.1 h3
  have h6 := hb _ (Ce (xs := coreN n es) (i := 0) h4.1 h4.2)
  omega
theorem always_yes {n : Int} {es : List Pt} (hG : GrOk n es) (hn : 2 ≤ n) (a : Option Addr) (c : Nat) (i : Nat) (hi : i < 3) : holdV n es (at_ (alwaysL a c) (i : Int)) = true := by
 have hl := coreN_leng hG
 have hb := coreN_bd hG om
 obtain rfl | rfl | rfl : i = 0 ∨ i = 1 ∨ i = 2 := by omega
 ·refine (holdV_iff _ _ _).2 ((cond1 rfl).2 ?_)
  show 0 ≤ at_ (coreN n es) 1
  exact (hb _ (Ce om om)).1
 ·refine (holdV_iff _ _ _).2 ((cond2 rfl).2 ?_)
  show densQ n es 0 1
  unfold densQ
  rw [if_neg om]
  exact dens_zero om
 ·refine (holdV_iff _ _ _).2 ((cond5 rfl).2 ?_)
  show ∀ y ∈ [(1 : Int)], y ∈ commG n es 1 0
  intro y hy
  rw [List.mem_singleton.1 hy]
  exact rchG_start hG om (by simp) (mem_coreK.2 ⟨by omega, (hb _ (Ce om om)).1⟩)
section
variable {n kd wd mo : Int} {es : List Ev} (hH : HistOk n kd wd mo es) (hn : 2 ≤ n) (a a2 : Option Addr) (c c2 : Nat)
include hH hn
theorem rings_never : ringsV n kd wd mo es (neverL n a c) = [] := by
 rw [rings_const hH (gb := fun _ => false) fun t i hi => never_no (hH.graph t) hn a c i hi]; rfl
theorem rings_always : ringsV n kd wd mo es (alwaysL a c) = [⟨0, 0, true⟩, ⟨0, 1, true⟩, ⟨0, 2, true⟩] := by
 rw [rings_const hH (gb := fun _ => true) fun t i hi => always_yes (hH.graph t) hn a c i hi]; rfl
theorem rings_both : ringsV n kd wd mo es (neverL n a c ++ alwaysL a2 c2) = [⟨0, 4, true⟩, ⟨0, 5, true⟩, ⟨0, 6, true⟩] := by
 rw [rings_const hH (gb := fun i => decide (4 ≤ i)) fun t i hi => ?_]
 ·rfl
 ·have hi7 : i < 7 := hi
  unfold alH
  by_cases h : i < 4
  ·rw [at_append_left _ _ i (show i < (neverL n a c).length from h), never_no (hH.graph t) hn a c i h, decide_eq_false om]
  ·rw [at_append_rightG _ _ i (show (neverL n a c).length ≤ i by show 4 ≤ i; omega), show (neverL n a c).length = 4 from rfl, always_yes (hH.graph t) hn a2 c2 (i - 4) om, decide_eq_true om]
end
theorem hist_nil {n kd wd mo : Int} {es : List Ev} (h : HistOk n kd wd mo es) : HistOk n kd wd mo [] := ⟨⟨h.st.nodes, by simp, fun j hj => absurd hj (Nat.not_lt_zero _), fun j hj => absurd hj (Nat.not_lt_zero _)⟩, h.win⟩
theorem frv_n {n : Int} (hn : 2 ≤ n ∧ n ≤ 64) : FrV ⟨n, 1⟩ := ⟨by show 0 ≤ n; omega, by show n ≤ 1073741824; omega, by show (1 : Int) ≤ 1; decide, by show (1 : Int) ≤ 1073741824; decide, by show gcdI n 1 = 1; unfold gcdI; simp⟩
theorem never_ok {n : Int} (hn : 2 ≤ n ∧ n ≤ 64) (a : Option Addr) (c : Nat) : ∀ x ∈ neverL n a c, AlOk n x := by
 intro x hx
 simp only [List.mem_cons, List.not_mem_nil, or_false] at hx
 rcases hx with rfl | rfl | rfl | rfl
 ·exact al1 om om _ _
 ·exact al2 (frv_n hn) _ _
 ·exact al4 om _ _
 ·refine al5 dc (fun j hj => ?_) om _ _
  have hj2 : j < 2 := hj
  obtain rfl | rfl : j = 0 ∨ j = 1 := by omega
  ·exact ⟨⟨by decide, by show (0 : Int) < n; omega⟩, fun h => absurd h dc⟩
  ·exact ⟨⟨by decide, by show (1 : Int) < n; omega⟩, fun h => by decide⟩
theorem always_ok {n : Int} (hn : 2 ≤ n ∧ n ≤ 64) (a : Option Addr) (c : Nat) : ∀ x ∈ alwaysL a c, AlOk n x := by
 intro x hx
 simp only [List.mem_cons, List.not_mem_nil, or_false] at hx
 rcases hx with rfl | rfl | rfl
 ·exact al1 om dc _ _
 ·exact al2 ⟨by decide, by decide, by decide, by decide, by decide⟩ _ _
 ·refine al5 dc (fun j hj => ?_) dc _ _
  have hj2 : j < 1 := hj
  obtain rfl : j = 0 := by omega
  exact ⟨⟨by decide, by show (1 : Int) < n; omega⟩, fun h => absurd h dc⟩
set_option maxHeartbeats 4000000 in
theorem AlertQuiet_walk {κ : Ctx} {I : List Item} {la : Option Addr} {ln lc : Nat} {ls : List Int} (hl : Sl κ I (.slice la ln lc) ls) (hT : TabRd κ I 0 tzCells) :
    CallS Tryz.prog κ 4 [.slice la ln lc] I (fun r J => r = .bool true ∧ I = J) := by
 refine Ce1 Tryz.func4 rfl rfl ?_
 refine Ah (Ga rfl (Af (As (Ah (Gm rfl (Gc0 (Al call16 rfl rfl Few_ok) ?_))))))
 refine Gr (D2 rfl) (Af (A8 rfl (fun c17 => ?_) (fun c17 => ?_)))
 ·refine Ah (G.e (Al call17 rfl rfl (Awake44_ok (B7 hT A0))) ?_)
  rintro _ _ ⟨_, _, ⟨rfl, rfl⟩, rfl, rfl⟩
  exact Ga rfl (Af (Ay (Ak (A4 rfl rfl (I) A0 ⟨rfl, rfl⟩))))
 ·refine A2 (Aj (Ah (Gm rfl (G.e (Al call18 rfl rfl New_ok) ?_))))
  rintro _ _ ⟨_, _, ⟨dk1, rfl, rfl⟩, rfl, rfl⟩
  show G Tryz.prog κ _ _ _ _ ([(20, .pointer (some ⟨dk1, 0, none⟩)), (19, .slice la ln lc), (17, .bool (decide (¬ ((ln : Int) ≤ 500)))), (16, .bool (decide ((ln : Int) ≤ 500))), (15, .slice la ln lc), (2, .bool false), (0, .slice la ln lc)] : Env) (blk dk1 [.slice la ln lc, I64 (0)] 125 :: I)
  have hi0 : (0 : Int) ≤ 0 := Int.le_refl _
  refine Ga rfl (Af (Ah (Gm rfl (G.e (Al call19 rfl rfl (Next_ok (by repeat (first | exact AtF.head _ _ | apply AtF.tail)) (Bh hl) om om)) ?_))))
  rintro _ _ ⟨_, _, ⟨x2, i3, rfl, hx2, hi3, rfl⟩, rfl, rfl⟩
  show G Tryz.prog κ _ _ _ _ ([(22, I64 (x2)), (21, .pointer (some ⟨dk1, 0, none⟩)), (3, .pointer (some ⟨dk1, 0, none⟩)), (20, .pointer (some ⟨dk1, 0, none⟩)), (19, .slice la ln lc), (17, .bool (decide (¬ ((ln : Int) ≤ 500)))), (16, .bool (decide ((ln : Int) ≤ 500))), (15, .slice la ln lc), (2, .bool false), (0, .slice la ln lc)] : Env) (blk dk1 [.slice la ln lc, I64 (i3)] 125 :: I)
  refine Gr (Rad rfl rfl) (Ga rfl ?_)
  generalize hnn : 2 + x2 = nn
  have hn2 : 2 ≤ nn ∧ nn ≤ 6 := by omega
  refine Af (Ah (Gm rfl (Gm rfl (G.e (Al call20 rfl rfl (MkEvents_at (by repeat (first | exact AtF.head _ _ | apply AtF.tail)) (fun _ => B8 hl A0) om  om om)) ?_))))
  rintro _ _ ⟨_, _, ⟨⟨ad4, cp5, es6, i7⟩, ⟨⟨rfl, hses6⟩, hi7⟩, rfl⟩, rfl, rfl⟩
  show G Tryz.prog κ _ _ _ _ ([(26, .slice ad4 es6.length cp5), (25, I64 (nn)), (24, .pointer (some ⟨dk1, 0, none⟩)), (4, I64 (nn)), (23, I64 (nn)), (22, I64 (x2)), (21, .pointer (some ⟨dk1, 0, none⟩)), (3, .pointer (some ⟨dk1, 0, none⟩)), (20, .pointer (some ⟨dk1, 0, none⟩)), (19, .slice la ln lc), (17, .bool (decide (¬ ((ln : Int) ≤ 500)))), (16, .bool (decide ((ln : Int) ≤ 500))), (15, .slice la ln lc), (2, .bool false), (0, .slice la ln lc)] : Env) (vc 108 (.slice ad4 es6.length cp5) (es6) :: blk dk1 [.slice la ln lc, I64 (i7)] 125 :: I)
  have hi7 : 0 ≤ i7 := hi7
  dsimp only at hses6
  refine Gm rfl (G.e (Al call21 rfl rfl (MkWindowV_at (by repeat (first | exact AtF.head _ _ | apply AtF.tail)) (fun _ => B8 hl A0) om  )) ?_)
  rintro _ _ ⟨_, _, ⟨⟨kd8, wd9, mo10, i11⟩, ⟨⟨rfl, hwkd8⟩, hi11⟩, rfl⟩, rfl, rfl⟩
  show G Tryz.prog κ _ _ _ _ ([(28, .agg #[I64 (kd8), I64 (wd9), I64 (mo10)]), (27, .pointer (some ⟨dk1, 0, none⟩)), (26, .slice ad4 es6.length cp5), (25, I64 (nn)), (24, .pointer (some ⟨dk1, 0, none⟩)), (4, I64 (nn)), (23, I64 (nn)), (22, I64 (x2)), (21, .pointer (some ⟨dk1, 0, none⟩)), (3, .pointer (some ⟨dk1, 0, none⟩)), (20, .pointer (some ⟨dk1, 0, none⟩)), (19, .slice la ln lc), (17, .bool (decide (¬ ((ln : Int) ≤ 500)))), (16, .bool (decide ((ln : Int) ≤ 500))), (15, .slice la ln lc), (2, .bool false), (0, .slice la ln lc)] : Env) (vc 108 (.slice ad4 es6.length cp5) (es6) :: blk dk1 [.slice la ln lc, I64 (i11)] 125 :: I)
  have hi11 : 0 ≤ i11 := hi11
  refine Ge1 (Ba ty31 rfl) fun b12 => Ga rfl (Ge0 (Es3_3 ty31) ?_)
  have hH : HistOk nn kd8 wd9 mo10 es6 := ⟨hses6.1.st om om, hwkd8⟩
  have hel : es6.length ≤ 19 := by omega
  have hH0 := hist_nil hH
  refine Af (Ap (S3 5 6 4 rfl rfl rfl) (Ah (Gm rfl (Gr (A9 (cells := [_, _, _, _, _, _]) ty42 Cz pl42 rfl rfl) (Gm rfl (Gr (A9 (cells := [_, _]) ty40 C0 pl40 rfl rfl) (Gr (A9 (cells := [_, _, _, _, _, _]) ty42 Cz pl42 rfl rfl) (Gm rfl (Gr (A9 (cells := [_, _, _, _, _, _]) ty42 Cz pl42 rfl rfl) (Ge1 (Bz (α := Int) (cs := [_, _]) (xs := [0, 1]) Ac ty3 rfl rfl dc dc rfl rfl rfl rfl) fun ad13 => ?_))))))))))
  refine Gm rfl (Gr (A9 (cells := [_, _, _, _, _, _]) ty42 Cz pl42 rfl rfl) (Ge1 (Bz (α := AlV) (cs := [I64 (1), I64 (0), I64 (nn), .slice none 0 0, I64 (0), I64 (0), I64 (2), I64 (0), I64 (0), .slice none 0 0, I64 (nn), I64 (1), I64 (4), I64 (0), I64 (nn), .slice none 0 0, I64 (0), I64 (0), I64 (5), I64 (0), I64 (nn), .slice ad13 2 2, I64 (0), I64 (0)]) (xs := [⟨1, 0, nn, none, 0, [], 0, 0⟩, ⟨2, 0, 0, none, 0, [], nn, 1⟩, ⟨4, 0, nn, none, 0, [], 0, 0⟩, ⟨5, 0, nn, ad13, 2, ([0, 1] : List Int), 0, 0⟩]) Co ty42 rfl rfl dc dc rfl kr rfl rfl) fun ad14 => ?_))
  refine Ga rfl (Af (Ap (S4 7 5 6 4 rfl rfl rfl rfl) (Ah (Gr (A9 (cells := [_, _, _, _, _, _]) ty42 Cz pl42 rfl rfl) (Gr (A9 (cells := [_, _]) ty40 C0 pl40 rfl rfl) (Gr (A9 (cells := [_, _, _, _, _, _]) ty42 Cz pl42 rfl rfl) (Ge1 (Bz (α := Int) (cs := [_]) (xs := [1]) Ac ty3 rfl rfl dc dc rfl rfl rfl rfl) fun ad15 => ?_)))))))
  refine Gr (A9 (cells := [_, _, _, _, _, _]) ty42 Cz pl42 rfl rfl) (Ge1 (Bz (α := AlV) (cs := [I64 (1), I64 (1), I64 (0), .slice none 0 0, I64 (0), I64 (0), I64 (2), I64 (0), I64 (0), .slice none 0 0, I64 (0), I64 (1), I64 (5), I64 (0), I64 (0), .slice ad15 1 1, I64 (0), I64 (0)]) (xs := [⟨1, 1, 0, none, 0, [], 0, 0⟩, ⟨2, 0, 0, none, 0, [], 0, 1⟩, ⟨5, 0, 0, ad15, 1, ([1] : List Int), 0, 0⟩]) Co ty42 rfl rfl dc dc rfl kr rfl rfl) fun ad16 => ?_)
  refine Ga rfl (Af (Ah (Gm rfl (Gm rfl (Gl3 ty31 ?_)))))
  refine Gm rfl (G.e (Al call23 rfl rfl (Watch_ok (nd := nn) (kd := kd8) (wd := wd9) (mo := mo10) (es := es6) (als := ([⟨1, 0, nn, none, 0, [], 0, 0⟩, ⟨2, 0, 0, none, 0, [], nn, 1⟩, ⟨4, 0, nn, none, 0, [], 0, 0⟩, ⟨5, 0, nn, ad13, 2, ([0, 1] : List Int), 0, 0⟩] : List AlV)) (ea := ad4) (ec := cp5) (aa := ad14) (ac := 4) Be Be (by intro x hx; simp only [List.mem_append, List.mem_cons, List.not_mem_nil, or_false] at hx; rcases hx with rfl | rfl | rfl | rfl; (· exact Ej _); (· exact Ej _); (· exact Ej _); (· exact D5 (xs := [0, 1]) mm)) (by first | exact hH | exact hH0) (by first | exact hel | exact Nat.zero_le _) (never_ok om _ _) (Nat.le_of_ble_eq_true rfl) (B7 hT A0))) ?_)
  rintro _ _ ⟨_, _, ⟨ad17, cp18, rfl, rfl⟩, rfl, rfl⟩
  refine Gm rfl (Gr (A3 rfl rfl) (Gr (A3 rfl rfl) (Ga rfl ?_)))
  have hR1 : ringsV nn kd8 wd9 mo10 es6 ([⟨1, 0, nn, none, 0, [], 0, 0⟩, ⟨2, 0, 0, none, 0, [], nn, 1⟩, ⟨4, 0, nn, none, 0, [], 0, 0⟩, ⟨5, 0, nn, ad13, 2, ([0, 1] : List Int), 0, 0⟩] : List AlV) = [] := by exact rings_never hH om _ _
  refine Ga rfl (Af (Ap (S7 10 9 8 7 5 6 4 rfl rfl rfl rfl rfl rfl rfl) (Ah (Gm rfl (Gm rfl (Gl3 ty31 ?_))))))
  refine Gm rfl (G.e (Al call23 rfl rfl (Watch_ok (nd := nn) (kd := kd8) (wd := wd9) (mo := mo10) (es := es6) (als := ([⟨1, 1, 0, none, 0, [], 0, 0⟩, ⟨2, 0, 0, none, 0, [], 0, 1⟩, ⟨5, 0, 0, ad15, 1, ([1] : List Int), 0, 0⟩] : List AlV)) (ea := ad4) (ec := cp5) (aa := ad16) (ac := 3) Be Be (by intro x hx; simp only [List.mem_append, List.mem_cons, List.not_mem_nil, or_false] at hx; rcases hx with rfl | rfl | rfl; (· exact Ej _); (· exact Ej _); (· exact D5 (xs := [1]) mm)) (by first | exact hH | exact hH0) (by first | exact hel | exact Nat.zero_le _) (always_ok om _ _) (Nat.le_of_ble_eq_true rfl) (B7 hT A0))) ?_)
  rintro _ _ ⟨_, _, ⟨ad19, cp20, rfl, rfl⟩, rfl, rfl⟩
  refine Gm rfl (Gr (A3 rfl rfl) (Gr (A3 rfl rfl) (Ga rfl ?_)))
  have hR2 : ringsV nn kd8 wd9 mo10 es6 ([⟨1, 1, 0, none, 0, [], 0, 0⟩, ⟨2, 0, 0, none, 0, [], 0, 1⟩, ⟨5, 0, 0, ad15, 1, ([1] : List Int), 0, 0⟩] : List AlV) = [⟨0, 0, true⟩, ⟨0, 1, true⟩, ⟨0, 2, true⟩] := by exact rings_always hH om _ _
  refine Ga rfl (Af (Ap (S8 12 11 10 9 8 7 6 4 rfl rfl rfl rfl rfl rfl rfl rfl) (As (Bj mixed (Bo (vc 44 (.slice ad19 (ringsV nn kd8 wd9 mo10 es6 ([⟨1, 1, 0, none, 0, [], 0, 0⟩, ⟨2, 0, 0, none, 0, [], 0, 1⟩, ⟨5, 0, 0, ad15, 1, ([1] : List Int), 0, 0⟩] : List AlV)).length cp20) (ringsV nn kd8 wd9 mo10 es6 ([⟨1, 1, 0, none, 0, [], 0, 0⟩, ⟨2, 0, 0, none, 0, [], 0, 1⟩, ⟨5, 0, 0, ad15, 1, ([1] : List Int), 0, 0⟩] : List AlV)) :: vc 44 (.slice ad17 (ringsV nn kd8 wd9 mo10 es6 ([⟨1, 0, nn, none, 0, [], 0, 0⟩, ⟨2, 0, 0, none, 0, [], nn, 1⟩, ⟨4, 0, nn, none, 0, [], 0, 0⟩, ⟨5, 0, nn, ad13, 2, ([0, 1] : List Int), 0, 0⟩] : List AlV)).length cp18) (ringsV nn kd8 wd9 mo10 es6 ([⟨1, 0, nn, none, 0, [], 0, 0⟩, ⟨2, 0, 0, none, 0, [], nn, 1⟩, ⟨4, 0, nn, none, 0, [], 0, 0⟩, ⟨5, 0, nn, ad13, 2, ([0, 1] : List Int), 0, 0⟩] : List AlV)) :: vc 42 (.slice ad16 3 3) (([⟨1, 1, 0, none, 0, [], 0, 0⟩, ⟨2, 0, 0, none, 0, [], 0, 1⟩, ⟨5, 0, 0, ad15, 1, ([1] : List Int), 0, 0⟩] : List AlV)) :: vc 3 (.slice ad15 1 1) (([1] : List Int)) :: vc 42 (.slice ad14 4 4) (([⟨1, 0, nn, none, 0, [], 0, 0⟩, ⟨2, 0, 0, none, 0, [], nn, 1⟩, ⟨4, 0, nn, none, 0, [], 0, 0⟩, ⟨5, 0, nn, ad13, 2, ([0, 1] : List Int), 0, 0⟩] : List AlV)) :: vc 3 (.slice ad13 2 2) (([0, 1] : List Int)) :: blk b12 [I64 (kd8), I64 (wd9), I64 (mo10)] 31 :: vc 108 (.slice ad4 es6.length cp5) (es6) :: blk dk1 [.slice la ln lc, I64 (i11)] 125 :: I) 12 (Dr 0 rfl (Ad rfl) (Dr 1 rfl (Bp (vs := [_, _, _]) ty31) ?_)))))))
  refine Dr 2 rfl (Ad rfl) (Dr 4 rfl (Ad rfl) (Ds1 3 (Se2 rfl (Eff.clone (α := AlV) (ys := ([⟨1, 0, nn, none, 0, [], 0, 0⟩, ⟨2, 0, 0, none, 0, [], nn, 1⟩, ⟨4, 0, nn, none, 0, [], 0, 0⟩, ⟨5, 0, nn, ad13, 2, ([0, 1] : List Int), 0, 0⟩] : List AlV)) Co ty42 rfl rfl rfl Be lcn dc rfl) fun ad21 cp22 => ?_)))
  refine Ds1 5 (Se2 rfl (Cg (α := AlV) (e := 42) (xs := ([⟨1, 0, nn, none, 0, [], 0, 0⟩, ⟨2, 0, 0, none, 0, [], nn, 1⟩, ⟨4, 0, nn, none, 0, [], 0, 0⟩, ⟨5, 0, nn, ad13, 2, ([0, 1] : List Int), 0, 0⟩] : List AlV)) (ys := ([⟨1, 1, 0, none, 0, [], 0, 0⟩, ⟨2, 0, 0, none, 0, [], 0, 1⟩, ⟨5, 0, 0, ad15, 1, ([1] : List Int), 0, 0⟩] : List AlV)) Co ty42 rfl rfl rfl mm Be lcn dc rfl (fun _ _ => am)) fun ad23 cp24 => ?_)
  refine Ds1 6 (Se rfl (Al call23 rfl rfl (Watch_ok (nd := nn) (kd := kd8) (wd := wd9) (mo := mo10) (es := []) (als := ([⟨1, 0, nn, none, 0, [], 0, 0⟩, ⟨2, 0, 0, none, 0, [], nn, 1⟩, ⟨4, 0, nn, none, 0, [], 0, 0⟩, ⟨5, 0, nn, ad13, 2, ([0, 1] : List Int), 0, 0⟩] : List AlV) ++ ([⟨1, 1, 0, none, 0, [], 0, 0⟩, ⟨2, 0, 0, none, 0, [], 0, 1⟩, ⟨5, 0, 0, ad15, 1, ([1] : List Int), 0, 0⟩] : List AlV)) (ea := none) (ec := 0) (aa := ad23) (ac := cp24) (Ej _) Be (by intro x hx; simp only [List.mem_append, List.mem_cons, List.not_mem_nil, or_false] at hx; rcases hx with (rfl | rfl | rfl | rfl) | (rfl | rfl | rfl); (· exact Ej _); (· exact Ej _); (· exact Ej _); (· exact D5 (xs := [0, 1]) mm); (· exact Ej _); (· exact Ej _); (· exact D5 (xs := [1]) mm)) (by first | exact hH | exact hH0) (by first | exact hel | exact Nat.zero_le _) (fun x hx => (List.mem_append.1 hx).elim (never_ok om _ _ x) (always_ok om _ _ x)) (Nat.le_of_ble_eq_true rfl) (B7 hT A0))) ?_)
  rintro _ _ ⟨_, _, ⟨ad25, cp26, rfl, rfl⟩, rfl, rfl⟩
  refine ⟨Az, ?_⟩
  refine Dr 7 rfl (Ad rfl) (Dr 8 rfl (A3 rfl rfl) (Dr 9 rfl (A3 rfl rfl) (Dr 10 rfl (A7 rfl) ?_)))
  have hR3 : ringsV nn kd8 wd9 mo10 ([]) (([⟨1, 0, nn, none, 0, [], 0, 0⟩, ⟨2, 0, 0, none, 0, [], nn, 1⟩, ⟨4, 0, nn, none, 0, [], 0, 0⟩, ⟨5, 0, nn, ad13, 2, ([0, 1] : List Int), 0, 0⟩] : List AlV) ++ ([⟨1, 1, 0, none, 0, [], 0, 0⟩, ⟨2, 0, 0, none, 0, [], 0, 1⟩, ⟨5, 0, 0, ad15, 1, ([1] : List Int), 0, 0⟩] : List AlV)) = [⟨0, 4, true⟩, ⟨0, 5, true⟩, ⟨0, 6, true⟩] := by exact rings_both hH0 om _ _ _ _
  refine Dr 11 rfl (A7 rfl) (Dz (Aj (Ap (S6 14 13 12 11 10 9 rfl rfl rfl rfl rfl rfl) (Ah (Gm rfl (Gr (Bl rfl rfl) (Gm rfl (Bf (d := 74) rfl (fun g74 => ?_) (fun g74 => ?_)))))))))
  ·refine Gro (Ad rfl) (Gro (Bl rfl rfl) (Gr (Ao rfl rfl) (Gm rfl (Bf (d := 78) rfl (fun g78 => ?_) (fun g78 => ?_)))))
   ·refine Gro (Ad rfl) (Gro (Bl rfl rfl) (Gr (Ao rfl rfl) (Gm rfl (Bf (d := 82) rfl (fun g82 => ?_) (fun g82 => ?_)))))
    ·refine Gro (Ad rfl) (Gro (Bk Cn rfl) (Gro (Bl rfl rfl) (Gr (Ao rfl rfl) (Gm rfl (Bf (d := 87) rfl (fun g87 => ?_) (fun g87 => ?_))))))
     ·refine Gro (Ad rfl) (Gro (A9 (cells := [_, _, _]) ty44 Cu pl44 rfl rfl) (Gro (A9 (cells := [_, _, _]) ty44 Cu pl44 rfl rfl) (Gro (A9 (cells := [_, _, _]) ty44 Cu pl44 rfl rfl) (Dv (Cf rfl rfl rfl) (Bz (α := Rg) (cs := [I64 (0), I64 (0), .bool true, I64 (0), I64 (1), .bool true, I64 (0), I64 (2), .bool true]) (xs := [⟨0, 0, true⟩, ⟨0, 1, true⟩, ⟨0, 2, true⟩]) Cn ty44 rfl rfl dc dc rfl kr rfl rfl) ?_))))
      rintro _ _ ⟨ad27, rfl, rfl⟩
      refine Dv (Cf rfl rfl rfl) (Al call24 rfl rfl (Same44_ok Be Be)) ?_
      rintro _ _ ⟨_, _, ⟨rfl, rfl⟩, rfl, rfl⟩
      refine Gr (Ao rfl rfl) (Gm rfl (Bf (d := 95) rfl (fun g95 => ?_) (fun g95 => ?_)))
      ·refine Gro (Ad rfl) (Gro (A9 (cells := [_, _, _]) ty44 Cu pl44 rfl rfl) (Gro (A9 (cells := [_, _, _]) ty44 Cu pl44 rfl rfl) (Gro (A9 (cells := [_, _, _]) ty44 Cu pl44 rfl rfl) (Dv (Cf rfl rfl rfl) (Bz (α := Rg) (cs := [I64 (0), I64 (4), .bool true, I64 (0), I64 (5), .bool true, I64 (0), I64 (6), .bool true]) (xs := [⟨0, 4, true⟩, ⟨0, 5, true⟩, ⟨0, 6, true⟩]) Cn ty44 rfl rfl dc dc rfl kr rfl rfl) ?_))))
       rintro _ _ ⟨ad28, rfl, rfl⟩
       refine Dv (Cf rfl rfl rfl) (Al call24 rfl rfl (Same44_ok Be Be)) ?_
       rintro _ _ ⟨_, _, ⟨rfl, rfl⟩, rfl, rfl⟩
       refine Gr (Ao rfl rfl) (Gm rfl (Bf (d := 103) rfl (fun g103 => ?_) (fun g103 => ?_)))
       ·refine Dv (Cf rfl rfl rfl) (Al call17 rfl rfl (Awake44_ok (B7 hT A0))) ?_
        rintro _ _ ⟨_, _, ⟨rfl, rfl⟩, rfl, rfl⟩
        exact Gr (Ao rfl rfl) (Ga rfl (Af (Ap (S1 2 rfl) (Ay (A4 rfl rfl (I) A0 ⟨rfl, rfl⟩)))))
       ·exact absurd hR3 g103
      ·exact absurd hR2 g95
     ·exact absurd (by rw [hR1]; rfl) g87
    ·exact absurd rfl g82
   ·exact absurd rfl g78
  ·exact absurd rfl g74
end Go.Sl
namespace Go.Sl
open Go.ChangeShapes Go.WideShapes Go.ChangeAt Go.RowKit Go.Deep
section
variable {κ : Ctx} {w w' : World} {I : List Item}
theorem old_cell (hs : Sep κ w' I) (hm : old w.heap.size w ∈ I) {b o : Nat} {u : Value} (hc : w.cell? ⟨b, o, none⟩ = some u) : w'.cell? ⟨b, o, none⟩ = some u := by
 have hok : ∀ k, k < w.heap.size → w'.heap[k]? = w.heap[k]? := (hs.ok _ hm).1
 have hb : b < w.heap.size := by
  refine Nat.not_le.1 fun h => ?_
  simp [World.cell?, Array.getElem?_eq_none h] at hc
 have := hok b hb
 simp only [World.cell?, this] at hc ⊢
 exact hc
def SlW {α : Type} [Enc α] (w : World) (v : Value) (xs : List α) : Prop := slOk w (Enc.sz α) v xs.length (cells xs)
theorem SlW.sl {α : Type} [Enc α] {v : Value} {xs : List α} (h : SlW w v xs) (hm : old w.heap.size w ∈ I) : Sl κ I v xs := fun w' hs => by
 obtain ⟨a, cap, hv, h1, h2, h3, h4⟩ := h
 refine ⟨a, cap, hv, h1, h2, h3, fun hc => ?_⟩
 obtain ⟨b, off, ha, hr⟩ := h4 hc
 exact ⟨b, off, ha, fun j u hj => old_cell hs hm (hr j u hj)⟩
end
section
variable {P : Program} {w : World} {r : Reach} {b0 : Nat} {t : TypeId} {H : Type} {enc : TypeId × Value → H} {base : Nat} {spare : Nat → Bool} {held : Bool}
theorem spot_none {e : TypeId} {a : Addr} {len cap : Nat} (ht : P.underlying t = some (.slice e)) (h : Cell.okWide P w r b0 t (.slice (some a) len cap)) : a.spot = none := by
 simp only [Cell.okWide, Cell.ok, ht] at h
 exact h.2.2.2.1
theorem InR_of {n : Int} (h : (Lit.int .i64 n).wf = true) : InR n := by
 simp only [Lit.wf, Bool.and_eq_true, decide_eq_true_eq] at h
 exact h
def Light (P : Program) (t : TypeId) (d : DataW H) : Prop := ∀ n ∈ d.weights P t, n ≤ reachBytes
theorem light_arg {ts : List TypeId} {ds : List (DataW H)} (h : (DataW.weightsEach P ts ds).all (· ≤ reachBytes) = true) {j : Nat} {d : DataW H} (ht : ts[j]? = some t) (hd : ds[j]? = some d) : Light P t d := fun n hn => by
 have := List.all_eq_true.1 h _ (DataW.weights_mem_each ht hd n hn)
 simpa using this
theorem light_slice {e : TypeId} {es sp : List (DataW H)} (ht : P.underlying t = some (.slice e)) (h : Light P t (.slice es sp)) : es.length * P.bytesOf e ≤ 140737488351232 := by
 have h1 := h ((es.length + sp.length) * P.bytesOf e) (by simp [DataW.weights, ht])
 have h2 : es.length * P.bytesOf e ≤ (es.length + sp.length) * P.bytesOf e := Nat.mul_le_mul_right _ (by omega)
 simp only [reachBytes] at h1
 omega
theorem addr_eta {a : Addr} (h : a.spot = none) : a = ⟨a.block, a.off, none⟩ := by cases a; simp_all
theorem in_ints {e : TypeId} {v : Value} {fuel : Nat} {x : DataW H × List MemPlace} (ht : P.underlying t = some (.slice e)) (he : P.underlying e = some (.int .i64)) (hc : P.cellsOf e = 1)
  (hv : Cell.okWide P w r b0 t v) (h : DataW.trod enc P w base spare held fuel t [v] = some x) (hw : Light P t x.1) : ∃ (a : Option Addr) (c : Nat) (xs : List Int), v = .slice a xs.length c ∧ SlW w (.slice a xs.length c) xs ∧ (∀ n ∈ xs, InR n) ∧ xs.length * P.bytesOf e ≤ 140737488351232 := by
 rcases open_ints ht he hc h with ⟨hcs, _⟩ | ⟨a, l, c, zs, hcs, _, hl, hm, hz, hx, hcell, hwz⟩
 ·obtain rfl : v = .slice none 0 0 := by simpa using hcs
  exact ⟨none, 0, [], rfl, ⟨none, 0, rfl, by simp [cells], Nat.le_refl _, by simp, fun h => by omega⟩, by simp, by simp⟩
 ·obtain rfl : v = .slice (some a) l c := by simpa using hcs
  have hsp := spot_none ht hv
  have hlen : l ≤ zs.length := by rw [hz]; split <;> omega
  have hxl : (zs.take l).length = l := by rw [List.length_take]; omega
  refine ⟨some a, c, zs.take l, by rw [hxl], ⟨some a, c, rfl, cells_length _, by rw [hxl]; exact hl, hm, fun hc0 => ⟨a.block, a.off, by rw [← addr_eta hsp], fun j u hj => ?_⟩⟩, fun n hn => InR_of (hwz n (List.mem_of_mem_take hn)), by
   rw [hx] at hw
   have := light_slice ht hw
   simpa [lits] using this⟩
  have hjl : j < l := by
   have := (List.getElem?_eq_some_iff.1 hj).1
   rw [cells_length, hxl] at this
   have e1 : Enc.sz Int = 1 := rfl
   rw [e1] at this; omega
  have h1 := cells_get (zs.take l) j 0 (by omega) (by decide)
  have e1 : j * Enc.sz Int + 0 = j := by show j * 1 + 0 = j; omega
  rw [e1] at h1
  rw [h1] at hj
  have h2 := hcell j (by omega)
  rw [addr_eta hsp, addr_add] at h2
  have h3 : u = I64 (zs.getD j 0) := by
   have h4 : some (I64 ((zs.take l)[j]'(by omega))) = some u := hj
   simp only [Option.some.injEq] at h4
   rw [← h4]
   simp [List.getD_eq_getElem?_getD, List.getElem?_eq_getElem (show j < zs.length by omega)]
  rw [h3]; exact h2
theorem arg_cell {v : Value} {d : DataW H} {ps : List MemPlace} {e : TypeId} (ht : P.underlying t = some (.slice e)) (hv : Value.okWide P w r b0 t v) (h : DataW.Trod enc P w base spare held t v d ps) : Cell.okWide P w r b0 t v ∧ ∃ fuel, DataW.trod enc P w base spare held fuel t [v] = some (d, ps) := by
 obtain ⟨a, len, cap, rfl⟩ := okWide_slice ht hv
 simp only [Value.okWide, ht] at hv
 obtain ⟨fuel, hf⟩ := h
 exact ⟨hv, fuel, by simpa [Value.cells] using hf⟩
theorem joined_mk {P : Program} {f : FuncId} {fn : Func} {s : ChangeSpec} {c : OpenClaim} (h1 : (c.wf (OpenSpec.ofChange s)) = true) (h2 : (laidOutB P) = true) (h3 : (mapsRowed P) = true) (h4 : (fn.params.all (P.readableRec ·)) = true) (h5 : (namedTie P c.named s.vars) = true) (h6 : ((c.stops == [])) = true) (h7 : ((P.stops == [])) = true) (h8 : ((c.knobs == [])) = true) (h9 : ((P.stopKnobs == [])) = true) (h10 : ((c.inPlace == P.inPlace f)) = true) (h11 : ((c.unfollowed == P.unfollowed f)) = true) (h12 : ((c.recurses == P.recurses f)) = true) (h13 : ((c.named == P.varsNamed f)) = true) (h14 : ((c.maps == (fn.params.toList ++ s.plain.varTypes P).any (P.mapsRec ·))) = true) (h15 : ((c.ifaces == (fn.params.toList ++ s.plain.varTypes P).any (P.ifacesRec ·))) = true) (h16 : ((c.mapsOut == P.mapsAmong fn.resultTypes.toList)) = true) (h17 : ((c.loops == (fn.params.toList ++ s.plain.varTypes P).any (P.loopsFrom ·))) = true) (h18 : ((c.wideKeys == (fn.params.toList ++ s.plain.varTypes P ++ fn.resultTypes.toList).any (P.wideKeysFrom ·))) = true) (h19 : (s.vars.all (P.varReadable ·)) = true) (h20 : (fn.resultTypes.all (fun t => P.readableRec t && decide (t < P.types.size))) = true) (h21 : ((c.ifacesOut == fn.resultTypes.toList.any (P.ifacesRec ·))) = true) (h22 : ((c.loopsOut == fn.resultTypes.toList.any (P.loopsFrom ·))) = true) (h23 : ((c.plainKeys == P.plainKeys)) = true) (h24 : (c.shortTexts.isNone) = true) (h25 : (P.stopsHeard) = true) (h26 : (P.mayEnter) = true) (h27 : ((c.lifted == P.liftsFinal)) = true) (h28 : ((P.make == some c.make)) = true) (h29 : ((c.kinds == (if c.domain.isEmpty then [] else fn.params.toList.map fun t => match P.underlying t with | some (.int k) => some k | _ => none))) = true) (h30 : ((c.pinned == c.pinnedBy)) = true) (h31 : ((c.veiled == (fn.params.toList ++ s.plain.varTypes P ++ fn.resultTypes.toList).any (P.veiledRec ·))) = true) (h32 : (c.veiledFits P fn.params.toList (fn.params.toList ++ s.plain.varTypes P ++ fn.resultTypes.toList)) = true) : joinedFacts P f fn s c = true := by
 unfold joinedFacts
 exact (Bool.and_eq_true_iff.2 ⟨(Bool.and_eq_true_iff.2 ⟨(Bool.and_eq_true_iff.2 ⟨(Bool.and_eq_true_iff.2 ⟨(Bool.and_eq_true_iff.2 ⟨(Bool.and_eq_true_iff.2 ⟨(Bool.and_eq_true_iff.2 ⟨(Bool.and_eq_true_iff.2 ⟨(Bool.and_eq_true_iff.2 ⟨(Bool.and_eq_true_iff.2 ⟨(Bool.and_eq_true_iff.2 ⟨(Bool.and_eq_true_iff.2 ⟨(Bool.and_eq_true_iff.2 ⟨(Bool.and_eq_true_iff.2 ⟨(Bool.and_eq_true_iff.2 ⟨(Bool.and_eq_true_iff.2 ⟨(Bool.and_eq_true_iff.2 ⟨(Bool.and_eq_true_iff.2 ⟨(Bool.and_eq_true_iff.2 ⟨(Bool.and_eq_true_iff.2 ⟨(Bool.and_eq_true_iff.2 ⟨(Bool.and_eq_true_iff.2 ⟨(Bool.and_eq_true_iff.2 ⟨(Bool.and_eq_true_iff.2 ⟨(Bool.and_eq_true_iff.2 ⟨(Bool.and_eq_true_iff.2 ⟨(Bool.and_eq_true_iff.2 ⟨(Bool.and_eq_true_iff.2 ⟨(Bool.and_eq_true_iff.2 ⟨(Bool.and_eq_true_iff.2 ⟨(Bool.and_eq_true_iff.2 ⟨h1, h2⟩), h3⟩), h4⟩), h5⟩), h6⟩), h7⟩), h8⟩), h9⟩), h10⟩), h11⟩), h12⟩), h13⟩), h14⟩), h15⟩), h16⟩), h17⟩), h18⟩), h19⟩), h20⟩), h21⟩), h22⟩), h23⟩), h24⟩), h25⟩), h26⟩), h27⟩), h28⟩), h29⟩), h30⟩), h31⟩), h32⟩)
theorem calls_below {f : FuncId} {args : List Value} (h : CallS P ⟨w.os, w.tape, w.output, w.drawn⟩ f args [old w.heap.size w] fun r J => r = .bool true ∧ [old w.heap.size w] = J) :
  Calls P f args.toArray w fun e w' => e = .returned (.bool true) ∧ Below w.heap.size w w' :=
 (h w (Sep.begin w)).mono fun e w' ⟨v, J, he, ⟨hv, hJ⟩, hs⟩ => by
  subst hv hJ
  exact ⟨he, hs.below List.mem_cons_self⟩
end
end Go.Sl
