/- A part of the proofs of statements of this seat: contracts of functions, and the plain laws that they lean on. No conditions. -/
import Derived.Test.YtfkcohmipjhfcaaGreatDoorL19
set_option linter.unusedVariables false
set_option linter.unusedSimpArgs false
set_option linter.unusedSectionVars false
namespace Go.Sl
open Go.Proofs
set_option maxRecDepth 4000
instance : Enc Rg := ⟨fun r => [I64 r.tm, I64 r.al, .bool r.on], 3, by omega, fun _ => rfl, fun r u hu => by
 simp only [List.mem_cons, List.not_mem_nil, or_false] at hu
 rcases hu with rfl | rfl | rfl <;> rfl⟩
noncomputable def alH (nd kd wd mo : Int) (es : List Ev) (als : List AlV) (t : Int) (i : Nat) : Bool := holdV nd (atG kd wd mo es t) (at_ als (i : Int))
noncomputable def ringsV (nd kd wd mo : Int) (es : List Ev) (als : List AlV) : List Rg := (ringS (alH nd kd wd mo es als) als.length (timesZ kd wd mo es)).2
theorem ringK_len (t : Int) (h : Nat → Bool) : ∀ (k : Nat) (st : List Bool × List Rg), (ringK t h k st).1.length = st.1.length ∧ (ringK t h k st).2.length ≤ st.2.length + k
 | 0, st => ⟨rfl, Nat.le_refl _⟩
 | k + 1, st => by
  obtain ⟨h1, h2⟩ := ringK_len t h k st
  rw [ringK_succ]
  unfold ring1
  split
  ·exact ⟨h1, by omega⟩
  ·exact ⟨by simp only [List.length_set]; exact h1, by simp only [List.length_append, List.length_cons, List.length_nil]; omega⟩
theorem timesZ_rng {nd kd wd mo : Int} {es : List Ev} (hH : HistOk nd kd wd mo es) : ∀ t ∈ timesZ kd wd mo es, 0 ≤ t ∧ t ≤ 1048576 := fun t ht => by
 have h := mem_ascZ.1 ht
 unfold timesL at h
 rcases List.mem_cons.1 h with h | h
 ·omega
 ·rcases List.mem_append.1 h with h | h
  ·obtain ⟨e, he, rfl⟩ := List.mem_map.1 h
   exact (hH.fit e he).tm
  ·obtain ⟨e, he, rfl⟩ := List.mem_map.1 h
   have := hH.allFit e (List.mem_append_right _ ((isort_permG _ _).mem_iff.2 he))
   exact this.tm
theorem timesL_len {nd kd wd mo : Int} {es : List Ev} (hH : HistOk nd kd wd mo es) (hlen : es.length ≤ 19) : (timesZ kd wd mo es).length ≤ 58 := by
 have h1 := ascZ_len (timesL kd wd mo es)
 have h2 := hH.len2
 have h3 := hH.len
 have h4 := lateL_len kd wd (linksL (slideS kd wd mo es).2)
 unfold timesZ
 unfold timesL at h1 ⊢
 rw [List.length_cons, List.length_append, List.length_map, List.length_map] at h1
 omega
theorem ringS_len (H : Int → Nat → Bool) (n : Nat) (ts : List Int) : ∀ k, k ≤ ts.length → (ringS H n (ts.take k)).1.length = n ∧ (ringS H n (ts.take k)).2.length ≤ n * k
 | 0, _ => ⟨List.length_replicate, Nat.zero_le _⟩
 | k + 1, hk => by
  obtain ⟨h1, h2⟩ := ringS_len H n ts k om
  rw [ringS_take om]
  obtain ⟨h3, h4⟩ := ringK_len (at_ ts (k : Int)) (H (at_ ts (k : Int))) n (ringS H n (ts.take k))
  exact ⟨by rw [h3, h1], by rw [Nat.mul_succ]; omega⟩
theorem ring_yes {t : Int} {h : Nat → Bool} {k : Nat} {p : List Bool × List Rg} {on : List Bool} {out : List Rg} (he : (on, out) = ringK t h k p) (hc : h k ≠ at_ on (k : Int)) : (List.set on ((k : Int)).toNat (h k), out ++ [(⟨t, (k : Int), h k⟩ : Rg)]) = ringK t h (k + 1) p := by
 rw [ringK_succ, ← he]
 unfold ring1
 rw [if_neg hc, Int.toNat_natCast]
theorem ring_no {t : Int} {h : Nat → Bool} {k : Nat} {p : List Bool × List Rg} {on : List Bool} {out : List Rg} (he : (on, out) = ringK t h k p) (hc : ¬ h k ≠ at_ on (k : Int)) : (on, out) = ringK t h (k + 1) p := by
 rw [ringK_succ, ← he]
 unfold ring1
 rw [if_pos (Classical.not_not.1 hc)]
theorem streamE_zeroH {nd kd wd mo : Int} {es : List Ev} (h : HistOk nd kd wd mo es) : streamE nd es = 0 := by
 have := slideE_zeroH h
 unfold slideE at this
 rwa [if_neg (by simp [h.win])] at this
set_option maxHeartbeats 2000000 in
theorem Watch_ok {κ : Ctx} {I : List Item} {nd kd wd mo : Int} {ea aa : Option Addr} {ec ac : Nat} {es : List Ev} {als : List AlV} (hl : Sl κ I (.slice ea es.length ec) es) (ha : Sl κ I (.slice aa als.length ac) als) (hsl : ∀ x ∈ als, Sl κ I (.slice x.a x.xs.length x.c) x.xs) (hH : HistOk nd kd wd mo es) (hlen : es.length ≤ 19) (hok : ∀ x ∈ als, AlOk nd x) (hal : als.length ≤ 16) (hT : TabRd κ I 0 tzCells) :
    CallS Tryz.prog κ 23 [I64 (nd), .slice ea es.length ec, .agg #[I64 (kd), I64 (wd), I64 (mo)], .slice aa als.length ac] I (fun r J => ∃ a c, r = .tuple #[.slice a (ringsV nd kd wd mo es als).length c, I64 0] ∧ J = vc 44 (.slice a (ringsV nd kd wd mo es als).length c) (ringsV nd kd wd mo es als) :: I) := by
 refine B2 hl.le fun hmax => ?_
 refine Ce4 Tryz.func23 rfl rfl ?_
 refine Ah (Ge1 (Be (cs := [_, _, _]) rfl rfl rfl) fun b1 => Ga rfl (Ga rfl (Af (As (Ah (Gl3 ty31 ?_))))))
 refine G.e (Am call78 rfl rfl (CheckW_ok kd wd mo)) ?_
 rintro _ _ ⟨_, _, ⟨rfl, rfl⟩, rfl, rfl⟩
 refine Ga rfl (Af (Ah (Gm rfl (Gr (Bw rfl rfl) (Af (A7 rfl (fun c27 => ?_) (fun c27 => ?_)))))))
 ·exact absurd hH.win c27
 ·refine A4 (Aj (As (Ah (Gm rfl (Gm rfl (Gc0 (Am call79 rfl rfl (HCheck_ok (nd := nd) (Bi hl))) ?_))))))
  refine Ga rfl (Af (Ap (S5 11 6 0 1 3 rfl rfl rfl rfl rfl) (Ah (Gm rfl (Gr (Bw rfl rfl) (Af (A7 rfl (fun c33 => ?_) (fun c33 => ?_))))))))
  ·exact absurd (streamE_zeroH hH) c33
  ·refine A4 (Aj (As (Ah (Gm rfl (Gr (Bl De rfl) (Gr (B7 rfl rfl) (Af (A7 rfl (fun c37 => ?_) (fun c37 => ?_)))))))))
   ·omega
   ·refine A4 (Aj (As (Ah (Gm rfl (Gr (Bl De rfl) (Gm rfl (Af (A3 (Bx (σ := Nat) (fun s => ([(0, I64 (nd)), (1, .slice ea es.length ec), (3, .slice aa als.length ac), (6, .pointer (some ⟨b1, 0, none⟩)), (38, .slice aa als.length ac), (39, I64 (((als.length : Nat) : Int))), (40, I64 (((s : Nat) : Int)))] : Env)) (fun s => blk b1 [I64 (kd), I64 (wd), I64 (mo)] 31 :: I) (fun s => (s ≤ als.length)) (fun s => als.length - s) (0) (show ((0 : Nat) ≤ als.length) from om) (Aa rfl (Aa rfl (Aa rfl (Aa rfl (Aa rfl (Aa rfl (Aa Ci Bj))))))) (show Fit κ _ (blk b1 [I64 (kd), I64 (wd), I64 (mo)] 31 :: I) from A2) ?_)))))))))
    rintro k hp
    have hk := hp
    refine Ah (Gr (A8 rfl rfl) (Af (As (A7 rfl (fun c41 => ?_) (fun c41 => ?_)))))
    ·refine A4 (Aj (As (A3 (Ah (Gr (A0 (α := AlV) (xs := als) De ty42 rfl rfl (Bi ha) om olr) (Gr (Bs (α := AlV) (xs := als) ty42 rfl (Bi ha) om olr) (Ge1 (Ba ty42 rfl) fun b2 => Ge0 (Dg ty42) ?_)))))))
     refine Af (Ah (Gl6 ty42 ?_))
     refine Gm rfl (G.e (Am call37 rfl rfl (CheckAny_ok (x := (at_ als (k : Int))) (B4 (hsl _ (Ch om om)) Ax) (hok _ (Ch om om)))) ?_)
     rintro _ _ ⟨_, _, ⟨rfl, rfl⟩, rfl, rfl⟩
     refine Ga rfl (Af (Ap (S8 14 0 1 3 6 38 39 40 rfl rfl rfl rfl rfl rfl rfl rfl) (Ah (Gm rfl (Gr (Bw rfl rfl) (Af (A7 rfl (fun c48 => ?_) (fun c48 => ?_))))))))
     ·exact absurd rfl c48
     ·exact A4 (Ai (Aj (Av (Gr (Rad rfl rfl) (Gm rfl (Bh (B3 ((k + 1)) om)))))))
    ·refine Bt (Ao (Ao (A5 (Aj (Ah (Ga rfl (Af (Ah (Gm rfl (Gr (Bl De rfl) (Ge2 (Ck (α := Bool) (n := als.length) B9 ty4 rfl rfl rfl om om dc rfl) fun ad3 cp4 => ?_)))))))))))
     refine Ga rfl (Af (As (Ah (Gm rfl (Gm rfl (Gl3 ty31 ?_))))))
     refine G.e (Am call80 rfl rfl (Times_ok (nd := nd) (kd := kd) (wd := wd) (mo := mo) (Bi hl) hH hlen)) ?_
     rintro _ _ ⟨_, _, ⟨ad5, cp6, rfl, rfl⟩, rfl, rfl⟩
     refine Gr (Bl Ab rfl) (Gm rfl (Af (Ap (S9 59 58 57 16 15 0 1 3 6 rfl rfl rfl rfl rfl rfl rfl rfl rfl) (A3 (Bx (σ := Nat × (Option Addr) × Nat × (List Bool) × (List Rg)) (fun s => ([(0, I64 (nd)), (1, .slice ea es.length ec), (3, .slice aa als.length ac), (6, .pointer (some ⟨b1, 0, none⟩)), (15, .slice s.2.1 s.2.2.2.2.length s.2.2.1), (16, .slice ad3 (List.replicate als.length (default : Bool)).length cp4), (57, .slice ad5 (timesZ kd wd mo es).length cp6), (58, I64 ((((timesZ kd wd mo es).length : Nat) : Int))), (59, I64 (((s.1 : Nat) : Int)))] : Env)) (fun s => vc 44 (.slice s.2.1 s.2.2.2.2.length s.2.2.1) (s.2.2.2.2) :: vc 3 (.slice ad5 (timesZ kd wd mo es).length cp6) (timesZ kd wd mo es) :: vc 4 (.slice ad3 (List.replicate als.length (default : Bool)).length cp4) (s.2.2.2.1) :: blk b1 [I64 (kd), I64 (wd), I64 (mo)] 31 :: I) (fun s => (s.1 ≤ (timesZ kd wd mo es).length) ∧ ((s.2.2.2.1, s.2.2.2.2) = ringS (alH nd kd wd mo es als) als.length (List.take s.1 (timesZ kd wd mo es)))) (fun s => (timesZ kd wd mo es).length - s.1) (0, none, 0, List.replicate als.length false, []) (show ((0 : Nat) ≤ (timesZ kd wd mo es).length) ∧ (((List.replicate als.length false : List Bool), ([] : List Rg)) = ringS (alH nd kd wd mo es als) als.length (List.take (0 : Nat) (timesZ kd wd mo es))) from ⟨om, rfl⟩) (Aa rfl (Aa rfl (Aa rfl (Aa rfl (Aa (Cy rfl (by first | rfl | simp)) (Aa rfl (Aa rfl (Aa rfl (Aa Ci Bj))))))))) (show Fit κ _ (vc 44 (.slice (none) ([]).length (0)) (([])) :: vc 3 (.slice ad5 (timesZ kd wd mo es).length cp6) (timesZ kd wd mo es) :: vc 4 (.slice ad3 (List.replicate als.length (default : Bool)).length cp4) ((List.replicate als.length false)) :: blk b1 [I64 (kd), I64 (wd), I64 (mo)] 31 :: I) from (Cj (Bv (α := Rg) _ _) B6)) ?_)))))
     rintro ⟨k, a, c, on, out⟩ hp
     dsimp only at hp ⊢
     obtain ⟨hk, hst⟩ := hp
     have hTl := timesL_len hH hlen
     have hrl := ringS_len (alH nd kd wd mo es als) als.length (timesZ kd wd mo es) k om
     rw [← hst] at hrl
     have honl : on.length = als.length := hrl.1
     have houl : out.length ≤ als.length * k := hrl.2
     have hml : als.length * k ≤ 16 * 58 := Nat.mul_le_mul hal om
     refine Ah (Gr (A8 rfl rfl) (Af (As (A7 rfl (fun c60 => ?_) (fun c60 => ?_)))))
     ·refine A4 (Aj (As (A3 (Ah (Gr (A0 (α := Int) (xs := timesZ kd wd mo es) Ab ty3 rfl rfl Bc om olr) (Gr (Br (xs := timesZ kd wd mo es) ty3 rfl Bc om olr) (Ga rfl (Af (Ah (Gm rfl (Gm rfl (Gl3 ty31 ?_))))))))))))
      refine Gm rfl (G.e (Am call44 rfl rfl (At_ok (nd := nd) (kd := kd) (wd := wd) (mo := mo) (tq := at_ (timesZ kd wd mo es) (k : Int)) (Bi hl) hH hlen (timesZ_rng hH _ (Ch om om)))) ?_)
      rintro _ _ ⟨_, _, ⟨ad7, cp8, rfl, rfl⟩, rfl, rfl⟩
      refine Gm rfl (Gr (Az rfl rfl) (Gr (Az rfl rfl) (Ge1 (Ba ty48 rfl) fun b9 => Ge0 (Co ty48) ?_)))
      refine Ga rfl (Af (Ap (S12 20 19 18 0 1 3 6 15 16 57 58 59 rfl rfl rfl rfl rfl rfl rfl rfl rfl rfl rfl rfl) (As (Ah (Gm rfl (Gr (Bw rfl rfl) (Af (Ap (S13 72 20 19 18 0 1 3 6 15 16 57 58 59 rfl rfl rfl rfl rfl rfl rfl rfl rfl rfl rfl rfl rfl) (A7 rfl (fun c72 => ?_) (fun c72 => ?_))))))))))
      ·exact absurd rfl c72
      ·refine A4 (Aj (Ah (Gm rfl (Gr (Bl De rfl) (Gm rfl (Af (Ap (S14 76 75 74 19 18 0 1 3 6 15 16 57 58 59 rfl rfl rfl rfl rfl rfl rfl rfl rfl rfl rfl rfl rfl rfl) (A3 (Bx (σ := Nat × (Option Addr) × Nat × (List Bool) × (List Rg)) (fun s => ([(0, I64 (nd)), (1, .slice ea es.length ec), (3, .slice aa als.length ac), (6, .pointer (some ⟨b1, 0, none⟩)), (15, .slice s.2.1 s.2.2.2.2.length s.2.2.1), (16, .slice ad3 (List.replicate als.length (default : Bool)).length cp4), (18, I64 (at_ (timesZ kd wd mo es) (k : Int))), (19, .pointer (some ⟨b9, 0, none⟩)), (57, .slice ad5 (timesZ kd wd mo es).length cp6), (58, I64 ((((timesZ kd wd mo es).length : Nat) : Int))), (59, I64 ((k : Int))), (74, .slice aa als.length ac), (75, I64 (((als.length : Nat) : Int))), (76, I64 (((s.1 : Nat) : Int)))] : Env)) (fun s => vc 44 (.slice s.2.1 s.2.2.2.2.length s.2.2.1) (s.2.2.2.2) :: blk b9 [I64 (nd), .slice ad7 (atG kd wd mo es (at_ (timesZ kd wd mo es) (k : Int))).length cp8] 48 :: vc 135 (.slice ad7 (atG kd wd mo es (at_ (timesZ kd wd mo es) (k : Int))).length cp8) (atG kd wd mo es (at_ (timesZ kd wd mo es) (k : Int))) :: vc 3 (.slice ad5 (timesZ kd wd mo es).length cp6) (timesZ kd wd mo es) :: vc 4 (.slice ad3 (List.replicate als.length (default : Bool)).length cp4) (s.2.2.2.1) :: blk b1 [I64 (kd), I64 (wd), I64 (mo)] 31 :: I) (fun s => (s.1 ≤ als.length) ∧ ((s.2.2.2.1, s.2.2.2.2) = ringK (at_ (timesZ kd wd mo es) (k : Int)) ((alH nd kd wd mo es als) (at_ (timesZ kd wd mo es) (k : Int))) s.1 (on, out))) (fun s => als.length - s.1) (0, a, c, on, out) (show ((0 : Nat) ≤ als.length) ∧ (((on : List Bool), (out : List Rg)) = ringK (at_ (timesZ kd wd mo es) (k : Int)) ((alH nd kd wd mo es als) (at_ (timesZ kd wd mo es) (k : Int))) (0 : Nat) (on, out)) from ⟨om, rfl⟩) (Aa rfl (Aa rfl (Aa rfl (Aa rfl (Aa (Cy rfl (by first | rfl | simp)) (Aa rfl (Aa rfl (Aa rfl (Aa rfl (Aa rfl (Aa rfl (Aa rfl (Aa rfl (Aa Ci Bj)))))))))))))) (show Fit κ _ (vc 44 (.slice (a) (out).length (c)) ((out)) :: blk b9 [I64 (nd), .slice ad7 (atG kd wd mo es (at_ (timesZ kd wd mo es) (k : Int))).length cp8] 48 :: vc 135 (.slice ad7 (atG kd wd mo es (at_ (timesZ kd wd mo es) (k : Int))).length cp8) (atG kd wd mo es (at_ (timesZ kd wd mo es) (k : Int))) :: vc 3 (.slice ad5 (timesZ kd wd mo es).length cp6) (timesZ kd wd mo es) :: vc 4 (.slice ad3 (List.replicate als.length (default : Bool)).length cp4) ((on)) :: blk b1 [I64 (kd), I64 (wd), I64 (mo)] 31 :: I) from B6) ?_)))))))))
       rintro ⟨k2, a2, c2, on2, out2⟩ hp
       dsimp only at hp ⊢
       obtain ⟨hk2, hst2⟩ := hp
       have hrk := ringK_len (at_ (timesZ kd wd mo es) (k : Int)) ((alH nd kd wd mo es als) (at_ (timesZ kd wd mo es) (k : Int))) k2 (on, out)
       rw [← hst2] at hrk
       have hon2 : on2.length = als.length := hrk.1.trans honl
       have hou2 : out2.length ≤ out.length + k2 := hrk.2
       refine Ah (Gr (A8 rfl rfl) (Af (Ap (S15 77 0 1 3 6 15 16 18 19 57 58 59 74 75 76 rfl rfl rfl rfl rfl rfl rfl rfl rfl rfl rfl rfl rfl rfl rfl) (As (A7 rfl (fun c77 => ?_) (fun c77 => ?_))))))
       ·refine A4 (Aj (Ap (S14 0 1 3 6 15 16 18 19 57 58 59 74 75 76 rfl rfl rfl rfl rfl rfl rfl rfl rfl rfl rfl rfl rfl rfl) (As (A3 (Ah (Gm rfl (Gr (A0 (α := AlV) (xs := als) De ty42 rfl rfl (Bi ha) om olr) (Gr (Bs (α := AlV) (xs := als) ty42 rfl (Bi ha) om olr) ?_))))))))
        have hak := hok (at_ als (k2 : Int)) (Ch om om)
        refine Ge1 (Ba ty42 rfl) fun b10 => Ga rfl (Ge0 (Dg ty42) ?_)
        refine Af (Ap (S16 21 22 0 1 3 6 15 16 18 19 57 58 59 74 75 76 rfl rfl rfl rfl rfl rfl rfl rfl rfl rfl rfl rfl rfl rfl rfl rfl) (As (Bk mixed (Bp (blk b10 [I64 ((at_ als (k2 : Int)).kd), I64 ((at_ als (k2 : Int)).no), I64 ((at_ als (k2 : Int)).lv), .slice (at_ als (k2 : Int)).a (at_ als (k2 : Int)).xs.length (at_ als (k2 : Int)).c, I64 ((at_ als (k2 : Int)).num), I64 ((at_ als (k2 : Int)).den)] 42 :: vc 44 (.slice a2 out2.length c2) (out2) :: blk b9 [I64 (nd), .slice ad7 (atG kd wd mo es (at_ (timesZ kd wd mo es) (k : Int))).length cp8] 48 :: vc 135 (.slice ad7 (atG kd wd mo es (at_ (timesZ kd wd mo es) (k : Int))).length cp8) (atG kd wd mo es (at_ (timesZ kd wd mo es) (k : Int))) :: vc 3 (.slice ad5 (timesZ kd wd mo es).length cp6) (timesZ kd wd mo es) :: vc 4 (.slice ad3 (List.replicate als.length (default : Bool)).length cp4) (on2) :: blk b1 [I64 (kd), I64 (wd), I64 (mo)] 31 :: I) 8 (Dr 0 rfl (Ac fld42_0 rfl) (Dr 1 rfl (Au ty3) ?_))))))
        refine Dr 4 rfl (Bm (vs := [_, _]) ty48) ?_
        refine Dr 5 rfl (Bm (vs := [_, _, _, _, _, _]) ty42) ?_
        refine Ds1 2 (Se rfl (Am call81 rfl rfl (OfAny_ok hak.kind)) ?_)
        rintro _ _ ⟨_, _, ⟨rfl, rfl⟩, rfl, rfl⟩
        refine ⟨A2, ?_⟩
        refine Dr 3 rfl (Runs.fieldV (fun w => fieldK _ _ _ _ _ w) rfl) ?_
        refine Ds1 6 (Se rfl (Cp (fK_call hak.kind) (first := []) (caps := []) rfl rfl rfl (HoldAny_ok (x := (at_ als (k2 : Int))) Bc (B4 (hsl _ (Ch om om)) Ax) (hH.graph (at_ (timesZ kd wd mo es) (k : Int))) hak (Bq hT Ax))) ?_)
        rintro _ _ ⟨_, _, ⟨rfl, rfl⟩, rfl, rfl⟩
        refine ⟨A2, ?_⟩
        refine Dr 7 rfl (A9 rfl) (Dz (Aj (Ap (S16 23 21 0 1 3 6 15 16 18 19 57 58 59 74 75 76 rfl rfl rfl rfl rfl rfl rfl rfl rfl rfl rfl rfl rfl rfl rfl rfl) (Ah (Gm rfl (Gm rfl (Gm rfl (Gr (A0 (α := Bool) (xs := on2) B9 ty4 rfl rfl Bc om olr) (Gr (Es (xs := on2) ty4 rfl Bc om olr) (Gr (Runs.neqb En rfl rfl) (Af (Ap (S17 93 23 21 0 1 3 6 15 16 18 19 57 58 59 74 75 76 rfl rfl rfl rfl rfl rfl rfl rfl rfl rfl rfl rfl rfl rfl rfl rfl rfl) (A7 rfl (fun c93 => ?_) (fun c93 => ?_))))))))))))))
        ·refine Ah (Gm rfl (Gm rfl (Gm rfl (Gr (A0 (α := Bool) (xs := on2) B9 ty4 rfl rfl Bc om olr) (Ge0 (Ct (α := Bool) (xs := on2) (e := 4) (new := (holdV nd (atG kd wd mo es (at_ (timesZ kd wd mo es) (k : Int))) (at_ als (k2 : Int)))) ty4 rfl rfl rfl om olr am) ?_)))))
         refine Af (Ap (S16 23 21 0 1 3 6 15 16 18 19 57 58 59 74 75 76 rfl rfl rfl rfl rfl rfl rfl rfl rfl rfl rfl rfl rfl rfl rfl rfl) (Av (Gm rfl (Gm rfl (Gm rfl (Gm rfl (Gr (Bf (cells := [_, _, _]) ty44 Ek pl44 rfl rfl) (Ge1 (B5 (α := Rg) (cs := [_, _, _]) (xs := [⟨at_ (timesZ kd wd mo es) (k : Int), (k2 : Int), (holdV nd (atG kd wd mo es (at_ (timesZ kd wd mo es) (k : Int))) (at_ als (k2 : Int)))⟩]) C6 ty44 rfl rfl dc dc rfl rfl rfl rfl) fun ad11 => ?_))))))))
         refine Ge2 (Ce (α := Rg) (e := 44) (xs := out2) (ys := ([⟨at_ (timesZ kd wd mo es) (k : Int), (k2 : Int), (holdV nd (atG kd wd mo es (at_ (timesZ kd wd mo es) (k : Int))) (at_ als (k2 : Int)))⟩] : List Rg)) C6 ty44 rfl rfl rfl mm Bc lcn dc rfl (fun _ _ => am)) fun ad12 cp13 => ?_
         exact Ga rfl (Bh (Ai (Aj (Ap (S14 15 0 1 3 6 16 18 19 57 58 59 74 75 76 rfl rfl rfl rfl rfl rfl rfl rfl rfl rfl rfl rfl rfl rfl) (Av (Gr (Rad rfl rfl) (Gm rfl (Bh (B3 ((k2 + 1), (ad12), (cp13), (List.set on2 ((k2 : Int)).toNat ((holdV nd (atG kd wd mo es (at_ (timesZ kd wd mo es) (k : Int))) (at_ als (k2 : Int))))), (out2 ++ ([⟨at_ (timesZ kd wd mo es) (k : Int), (k2 : Int), (holdV nd (atG kd wd mo es (at_ (timesZ kd wd mo es) (k : Int))) (at_ als (k2 : Int)))⟩] : List Rg))) (by dsimp only; exact ⟨om, (by first | exact ring_yes hst2 c93 | exact ring_no hst2 c93)⟩))))))))))
        ·exact A4 (Ai (Aj (Ap (S14 0 1 3 6 15 16 18 19 57 58 59 74 75 76 rfl rfl rfl rfl rfl rfl rfl rfl rfl rfl rfl rfl rfl rfl) (Av (Gr (Rad rfl rfl) (Gm rfl (Bh (B3 ((k2 + 1), (a2), (c2), (on2), (out2)) (by dsimp only; exact ⟨om, (by first | exact ring_yes hst2 c93 | exact ring_no hst2 c93)⟩)))))))))
       ·exact Bt (Ao (Ao (A5 (Ai (Aj (Ap (S9 0 1 3 6 15 16 57 58 59 rfl rfl rfl rfl rfl rfl rfl rfl rfl) (Av (Gr (Rad rfl rfl) (Gm rfl (Bh (B3 ((k + 1), (a2), (c2), (on2), (out2)) (by dsimp only; exact ⟨om, (by rw [hst2, ringS_take om, ← hst, show k2 = als.length by omega])⟩))))))))))))
     ·refine Bt (Ao (Ao (A5 (Aj (Ah (Gm rfl (Ga rfl (Ga rfl (Af (Ay ?_))))))))))
      have hE : out = (ringsV nd kd wd mo es als) := by have h := congrArg Prod.snd hst; rw [List.take_of_length_le om] at h; exact h
      exact Cu rfl rfl rfl (vc 44 (.slice a (ringsV nd kd wd mo es als).length c) (ringsV nd kd wd mo es als) :: I) (by rw [← hE]; exact B6) ⟨a, c, by rw [← hE], rfl⟩
end Go.Sl
namespace Go.Sl
def valM : Int ⊕ Bool → Value
 | .inl n => I64 n
 | .inr b => .bool b
def kndM : Int ⊕ Bool → Bool
 | .inl _ => true
 | .inr _ => false
section
variable {P : Program}
def flatM (P : Program) : List Field → List Bool → Nat → Bool
 | [], _, _ => true
 | f :: fs, [], _ => false
 | f :: fs, k :: ks, o => (f.name != "_") && (match P.underlying f.type with | some (.int .i64) => k | some .bool => !k | _ => false) && (f.offset == o) && flatM P fs ks (o + 1)
theorem run_eqMix (d : Nat) (w : World) (ns ms : List (Int ⊕ Bool)) : ∀ (fs : List Field) (ks : List Bool) (o : Nat), flatM P fs ks o = true → ns.length = o + fs.length → ms.length = o + fs.length → (ns.drop o).map kndM = ks → (ms.drop o).map kndM = ks →
  (Op.eqFields (d + 1) (ns.map valM).toArray (ms.map valM).toArray fs).run P w = .ok (decide (ns.drop o = ms.drop o)) w
 | [], ks, o, _, hn, hm, _, _ => by
  have h1 : ns.drop o = [] := List.drop_eq_nil_of_le (by simp at hn; omega)
  have h2 : ms.drop o = [] := List.drop_eq_nil_of_le (by simp at hm; omega)
  simp [Op.eqFields, h1, h2]
 | f :: fs, [], o, h, _, _, _, _ => by simp [flatM] at h
 | f :: fs, k :: ks, o, h, hn, hm, kn, km => by
  simp only [flatM, Bool.and_eq_true, bne_iff_ne, beq_iff_eq] at h
  obtain ⟨⟨⟨h1, h2⟩, h3⟩, h4⟩ := h
  simp only [List.length_cons] at hn hm
  have hno : o < ns.length := by omega
  have hmo : o < ms.length := by omega
  rw [List.drop_eq_getElem_cons hno, List.map_cons, List.cons.injEq] at kn
  rw [List.drop_eq_getElem_cons hmo, List.map_cons, List.cons.injEq] at km
  have ih := run_eqMix d w ns ms fs ks (o + 1) h4 (by omega) (by omega) kn.2 km.2
  have key : (ns.drop o = ms.drop o) ↔ (ns[o] = ms[o] ∧ ns.drop (o + 1) = ms.drop (o + 1)) := by rw [List.drop_eq_getElem_cons hno, List.drop_eq_getElem_cons hmo, List.cons.injEq]
  have key2 : decide (ns.drop o = ms.drop o) = decide (ns[o] = ms[o] ∧ ns.drop (o + 1) = ms.drop (o + 1)) := decide_eq_decide.2 key
  rw [key2]
  have ha : (isAgg f.type).run P w = .ok false w := by
   revert h2; split <;> intro h2
   ·rename_i hu; simp [isAgg, run_underlying hu]
   ·rename_i hu; simp [isAgg, run_underlying hu]
   ·cases h2
  have hp : ∀ (xs : List (Int ⊕ Bool)) (hk : o < xs.length), (part f.type (xs.map valM).toArray f.offset).run P w = .ok (valM xs[o]) w := fun xs hk => by
   have hcell : (valM xs[o]).cells = #[valM xs[o]] ∨ True := .inr trivial
   simp [part, ha, h3, hk]
  have he : (Op.equalIn (d + 1) f.type (valM ns[o]) (valM ms[o])).run P w = .ok (decide (ns[o] = ms[o])) w := by
   have kn1 := kn.1
   have km1 := km.1
   generalize ns[o] = n at kn1
   generalize ms[o] = m at km1
   revert h2; split <;> intro h2
   ·rename_i hu
    subst h2
    cases n with
    | inl a => cases m with
     | inl b => show (Op.equalIn (d + 1) f.type (I64 a) (I64 b)).run P w = _; rw [run_equalIn_int _ _ _ _ _ _ _ hu]; congr 1; by_cases e : a = b <;> simp [e]
     | inr b => cases km1
    | inr a => cases kn1
   ·rename_i hu
    have hk : k = false := by simpa using h2
    subst hk
    cases n with
    | inr a => cases m with
     | inr b => show (Op.equalIn (d + 1) f.type (.bool a) (.bool b)).run P w = _; rw [run_equalIn_bool' w d f.type a b hu]; cases a <;> cases b <;> rfl
     | inl b => cases km1
    | inl a => cases kn1
   ·cases h2
  simp only [Op.eqFields, if_pos h1, Sem.run_bind, hp ns hno, hp ms hmo, Result.andThen_ok, he]
  by_cases hd : ns[o] = ms[o]
  ·simp [hd, ih]
  ·simp [hd]
theorem EqT.mix {α : Type} [Enc α] [DecidableEq α] {T n : Nat} (vs : α → List (Int ⊕ Bool)) (ks : List Bool) (henc : ∀ x, Enc.enc x = (vs x).map valM) (hinj : ∀ x y, vs x = vs y → x = y) (hlen : ∀ x, (vs x).length = n) (hk : ∀ x, (vs x).map kndM = ks)
  (ht : P.underlying T = some (.struct (P.fieldsOf T))) (hp : P.stoodInHeld T = false) (hf : flatM P (P.fieldsOf T).toList ks 0 = true) (hn : (P.fieldsOf T).size = n) (hg : P.eqGuardType P.depth T = false) : EqT P T α := by
 refine ⟨fun x y w => ?_, hg⟩
 rw [show (10000 : Nat) = 9999 + 1 from rfl, run_equalIn_struct w 9999 T _ _ ht hp, henc, henc, show (9999 : Nat) = 9998 + 1 from rfl,
  run_eqMix 9998 w (vs x) (vs y) _ ks 0 hf (by rw [hlen, Array.length_toList, hn]; omega) (by rw [hlen, Array.length_toList, hn]; omega) (by rw [List.drop_zero]; exact hk x) (by rw [List.drop_zero]; exact hk y)]
 congr 1
 rw [List.drop_zero, List.drop_zero, decide_eq_decide]
 exact ⟨hinj x y, fun e => by rw [e]⟩
end
end Go.Sl
namespace Go.Sl
open Go.Proofs
set_option maxRecDepth 4000
theorem eqt44 : EqT Tryz.prog 44 Rg := EqT.mix (fun p : Rg => [.inl p.tm, .inl p.al, .inr p.on]) [true, true, false] (fun _ => rfl) (fun x y h => by cases x; cases y; simpa using h) (n := 3) (fun _ => rfl) (fun _ => rfl) kr kr kr kr kr
theorem list_eqR {xs ys : List Rg} (hl : xs.length = ys.length) (h : ∀ j : Nat, j < xs.length → at_ xs (j : Int) = at_ ys (j : Int)) : xs = ys := by
 refine List.ext_getElem hl fun i h1 h2 => ?_
 have := h i h1
 rwa [Dy xs i h1, Dy ys i h2] at this
theorem Same44_ok {κ : Ctx} {I : List Item} {va vb : Value} {xs ys : List Rg} (hl : Sl κ I va xs) (hm : Sl κ I vb ys) :
    CallS Tryz.prog κ 24 [va, vb] I (fun r J => r = .bool (decide (xs = ys)) ∧ I = J) := by
 refine B2 hl.le fun hmax => ?_
 refine B2 hm.le fun hmax2 => ?_
 refine Ce2 Tryz.func24 rfl rfl ?_
 refine Ah (Ga rfl (Af (As (Ah (Gm rfl (Gr (B0 (α := Rg) (xs := xs) C6 rfl (Bi hl)) (Gm rfl (Gr (B0 (α := Rg) (xs := ys) C6 rfl (Bi hm)) (Gr (Bw rfl rfl) (Af (A7 rfl (fun c10 => ?_) (fun c10 => ?_))))))))))))
 ·refine Ah (Ga rfl (Af (Ay (Ak ?_))))
  have hne : xs ≠ ys := fun e => by subst e; omega
  exact A1 rfl rfl (I) Ax ⟨by rw [decide_eq_false hne], rfl⟩
 ·refine A4 (Aj (As (Ah (Ga rfl (Af (A3 (Bx (σ := Nat) (fun s => ([(0, va), (1, vb), (5, I64 (((s : Nat) : Int)))] : Env)) (fun s => I) (fun s => (s ≤ xs.length) ∧ (∀ j : Nat, j < s → at_ xs (j : Int) = at_ ys (j : Int))) (fun s => xs.length - s) (0) (show ((0 : Nat) ≤ xs.length) ∧ (∀ j : Nat, j < (0 : Nat) → at_ xs (j : Int) = at_ ys (j : Int)) from ⟨om, (fun j h => by omega)⟩) (Aa rfl (Aa rfl (Aa Ci Bj))) (show Fit κ _ (I) from A2) ?_)))))))
  rintro k hp
  obtain ⟨hk, hn⟩ := hp
  refine As (Ah (Gm rfl (Gm rfl (Gr (B0 (α := Rg) (xs := xs) C6 rfl (Bi hl)) (Gr (A8 rfl rfl) (Af (A7 rfl (fun c14 => ?_) (fun c14 => ?_))))))))
  ·refine A4 (Aj (As (A3 (As (Bk mixed (Bp (I) 9 (Dr 0 rfl (Ad rfl) (Dr 1 rfl (Ad rfl) (Dr 2 rfl (A0 (α := Rg) (xs := xs) C6 ty44 rfl rfl (Bi hl) om om) (Dr 3 rfl (Bs (α := Rg) (xs := xs) ty44 rfl (Bi hl) om om) (Dr 4 rfl (Ad rfl) (Dr 5 rfl (Ad rfl) (Dr 6 rfl (A0 (α := Rg) (xs := ys) C6 ty44 rfl rfl (Bi hm) om om) (Dr 7 rfl (Bs (α := Rg) (xs := ys) ty44 rfl (Bi hm) om om) (Dr 8 rfl (Runs.neqT (α := Rg) (a := (⟨(at_ xs (k : Int)).tm, (at_ xs (k : Int)).al, (at_ xs (k : Int)).on⟩ : Rg)) (b := (⟨(at_ ys (k : Int)).tm, (at_ ys (k : Int)).al, (at_ ys (k : Int)).on⟩ : Rg)) eqt44 rfl rfl) (Dz (Aj (Ap (S4 25 0 1 5 rfl rfl rfl rfl) (A7 rfl (fun c25 => ?_) (fun c25 => ?_))))))))))))))))))))
   ·refine Ah (Ga rfl (Af (Ay (Ar (Ak (Ak (Ar (Ak ?_))))))))
    have hne : xs ≠ ys := fun e => by subst e; exact c25 rfl
    exact A1 rfl rfl (I) Ax ⟨by rw [decide_eq_false hne], rfl⟩
   ·exact A4 (Ai (Aj (Av (Gm rfl (Gr (Rad rfl rfl) (Ga rfl (Bh (B3 ((k + 1)) ⟨om, (fun j h => by by_cases e : j = k; (· subst e; exact Classical.not_not.1 c25); (· exact hn j om))⟩))))))))
  ·refine Bt (Ao (Ao (A5 (Aj (Ah (Ga rfl (Af (Ay ?_))))))))
   have he : xs = ys := list_eqR om (fun j hj => hn j om)
   exact A1 rfl rfl (I) Ax ⟨by rw [decide_eq_true he], rfl⟩
def evA : Ev := ⟨1, 4, 0, 1, 1, 0, 1⟩
theorem ascZ_of {xs : List Int} (h : xs.Pairwise (· < ·)) : ascZ xs = xs := intLin.uniq (ascZ_asc xs) h fun _ => mem_ascZ
theorem slide_one : slideS 2 3 0 [evA] = ([lkOf evA], [evA]) := by
 show evStep 2 3 0 ([], []) evA = _
 unfold evStep agedL windL
 rw [if_pos rfl, ageL_stop (by simp)]
 decide
theorem all_one : allE 2 3 0 [evA] = [evA, cutAt 3 (lkOf evA)] := by
 unfold allE; rw [slide_one]; decide
theorem times_one : timesZ 2 3 0 [evA] = [0, 4, 7] := by
 unfold timesZ timesL
 rw [slide_one]
 exact ascZ_of dc
theorem ev_at0 : atG 2 3 0 [evA] 0 = [] := by unfold atG atK; rw [all_one]; decide
theorem ev_at4 : atG 2 3 0 [evA] 4 = [⟨0, 1⟩] := by unfold atG atK; rw [all_one]; decide
theorem ev_at7 : atG 2 3 0 [evA] 7 = [] := by unfold atG atK; rw [all_one]; decide
theorem core_e0 : coreN 2 [] = [0, 0] := by decide +kernel
theorem core_e1 : coreN 2 [⟨0, 1⟩] = [1, 1] := by decide +kernel
theorem hist_one : HistOk 2 2 3 0 [evA] := ⟨⟨by decide, by decide, fun j hj => by
 obtain rfl : j = 0 := by simp at hj; exact hj
 exact fitE_ok.1 dc, fun j hj => by
 obtain rfl : j = 0 := by simp at hj; exact hj
 decide⟩, by decide⟩
theorem cond1 {nd : Int} {es : List Pt} {x : AlV} (h : x.kd = 1) : condP nd es x ↔ x.lv ≤ at_ (coreN nd es) x.no := by unfold condP; rw [if_pos h]
theorem cond2 {nd : Int} {es : List Pt} {x : AlV} (h : x.kd = 2) : condP nd es x ↔ densQ nd es x.num x.den := by unfold condP; rw [if_neg om, if_pos h]
theorem cond3 {nd : Int} {es : List Pt} {x : AlV} (h : x.kd = 3) : condP nd es x ↔ 0 ≤ cmpF (densG nd es x.xs) ⟨x.num, x.den⟩ := by unfold condP; rw [if_neg om, if_neg om, if_pos h]
theorem cond4 {nd : Int} {es : List Pt} {x : AlV} (h : x.kd = 4) : condP nd es x ↔ ∃ t ∈ trussG nd es, x.lv ≤ t := by unfold condP; rw [if_neg om, if_neg om, if_neg om, if_pos h]
theorem cond5 {nd : Int} {es : List Pt} {x : AlV} (h : x.kd = 5) : condP nd es x ↔ ∀ y ∈ x.xs, y ∈ commG nd es (at_ x.xs 0) x.lv := by unfold condP; rw [if_neg om, if_neg om, if_neg om, if_neg om]
theorem holdV_no {nd : Int} {es : List Pt} {x : AlV} (h : ¬ condP nd es x) : holdV nd es x = false := by
 rw [Bool.eq_false_iff]; exact fun h2 => h ((holdV_iff _ _ _).1 h2)
theorem dens0 {nd : Int} {es : List Pt} {x : AlV} (hG : GrOk nd es) (hk : x.kd = 3) (hn : x.num = 0) (hd : 0 ≤ x.den) : holdV nd es x = true := (holdV_iff _ _ _).2 ((cond3 hk).2 (by
 rw [cmpF_ge, hn]
 have h := densG_frv hG x.xs
 have := Int.mul_nonneg h.n0 hd
 show (0 : Int) * _ ≤ _
 rw [Int.zero_mul]; exact this))
theorem awake_rings (a0 : Option Addr) (c0 : Nat) : ringsV 2 2 3 0 [evA] [⟨3, 0, 0, a0, c0, [0, 1], 0, 1⟩, ⟨1, 0, 1, none, 0, [], 0, 0⟩] = [⟨0, 0, true⟩, ⟨4, 1, true⟩, ⟨7, 1, false⟩] := by
 have h0 : ∀ t, alH 2 2 3 0 [evA] [⟨3, 0, 0, a0, c0, [0, 1], 0, 1⟩, ⟨1, 0, 1, none, 0, [], 0, 0⟩] t 0 = true := fun t => dens0 (hist_one.graph t) rfl rfl (show (0 : Int) ≤ 1 by decide)
 have h1 : ∀ t, alH 2 2 3 0 [evA] [⟨3, 0, 0, a0, c0, [0, 1], 0, 1⟩, ⟨1, 0, 1, none, 0, [], 0, 0⟩] t 1 = holdV 2 (atG 2 3 0 [evA] t) ⟨1, 0, 1, none, 0, [], 0, 0⟩ := fun t => rfl
 have ha : holdV 2 (atG 2 3 0 [evA] 0) ⟨1, 0, 1, none, 0, [], 0, 0⟩ = false := holdV_no (by rw [cond1 rfl, ev_at0, core_e0]; decide)
 have hb : holdV 2 (atG 2 3 0 [evA] 4) ⟨1, 0, 1, none, 0, [], 0, 0⟩ = true := (holdV_iff _ _ _).2 (by rw [cond1 rfl, ev_at4, core_e1]; decide)
 have hc : holdV 2 (atG 2 3 0 [evA] 7) ⟨1, 0, 1, none, 0, [], 0, 0⟩ = false := holdV_no (by rw [cond1 rfl, ev_at7, core_e0]; decide)
 unfold ringsV
 rw [ringS_eq, times_one]
 simp only [relA, relR, List.length_cons, List.length_nil, Nat.zero_add, Nat.reduceAdd]
 have hr : List.range 2 = [0, 1] := rfl
 simp [hr, List.filter_cons, h0, h1, ha, hb, hc]
theorem al1 {n no lv : Int} (h1 : 0 ≤ no ∧ no < n) (h2 : 0 ≤ lv ∧ lv ≤ 64) (a : Option Addr) (c : Nat) : AlOk n ⟨1, no, lv, a, c, [], 0, 0⟩ where
 kind := by show 1 ≤ (1 : Int) ∧ (1 : Int) ≤ 5; decide
 k1 := fun _ => ⟨h1, h2, rfl, rfl, rfl⟩
 k2 := fun h => absurd h (by show ¬ (1 : Int) = 2; decide)
 k3 := fun h => absurd h (by show ¬ (1 : Int) = 3; decide)
 k4 := fun h => absurd h (by show ¬ (1 : Int) = 4; decide)
 k5 := fun h => absurd h (by show ¬ (1 : Int) = 5; decide)
theorem al2 {n num den : Int} (h : FrV ⟨num, den⟩) (a : Option Addr) (c : Nat) : AlOk n ⟨2, 0, 0, a, c, [], num, den⟩ where
 kind := by show 1 ≤ (2 : Int) ∧ (2 : Int) ≤ 5; decide
 k1 := fun h => absurd h (by show ¬ (2 : Int) = 1; decide)
 k2 := fun _ => ⟨rfl, rfl, rfl, h⟩
 k3 := fun h => absurd h (by show ¬ (2 : Int) = 3; decide)
 k4 := fun h => absurd h (by show ¬ (2 : Int) = 4; decide)
 k5 := fun h => absurd h (by show ¬ (2 : Int) = 5; decide)
theorem al3' {n num den : Int} {xs : List Int} (h1 : 0 < xs.length ∧ xs.length ≤ 64) (h2 : ValidP xs n) (h : FrV ⟨num, den⟩) (a : Option Addr) (c : Nat) : AlOk n ⟨3, 0, 0, a, c, xs, num, den⟩ where
 kind := by show 1 ≤ (3 : Int) ∧ (3 : Int) ≤ 5; decide
 k1 := fun h => absurd h (by show ¬ (3 : Int) = 1; decide)
 k2 := fun h => absurd h (by show ¬ (3 : Int) = 2; decide)
 k3 := fun _ => ⟨rfl, rfl, h1, h2, h⟩
 k4 := fun h => absurd h (by show ¬ (3 : Int) = 4; decide)
 k5 := fun h => absurd h (by show ¬ (3 : Int) = 5; decide)
theorem al3 (a0 : Option Addr) (c0 : Nat) : AlOk 2 ⟨3, 0, 0, a0, c0, [0, 1], 0, 1⟩ := al3' (n := 2) (num := 0) (den := 1) (xs := [0, 1]) dc dc ⟨by decide, by decide, by decide, by decide, by decide⟩ a0 c0
theorem al4 {n lv : Int} (h2 : 0 ≤ lv ∧ lv ≤ 64) (a : Option Addr) (c : Nat) : AlOk n ⟨4, 0, lv, a, c, [], 0, 0⟩ where
 kind := by show 1 ≤ (4 : Int) ∧ (4 : Int) ≤ 5; decide
 k1 := fun h => absurd h (by show ¬ (4 : Int) = 1; decide)
 k2 := fun h => absurd h (by show ¬ (4 : Int) = 2; decide)
 k3 := fun h => absurd h (by show ¬ (4 : Int) = 3; decide)
 k4 := fun _ => ⟨rfl, h2, rfl, rfl, rfl⟩
 k5 := fun h => absurd h (by show ¬ (4 : Int) = 5; decide)
theorem al5 {n lv : Int} {xs : List Int} (h1 : 0 < xs.length ∧ xs.length ≤ 64) (hv : ValidP xs n) (h2 : 0 ≤ lv ∧ lv ≤ 64) (a : Option Addr) (c : Nat) : AlOk n ⟨5, 0, lv, a, c, xs, 0, 0⟩ where
 kind := by show 1 ≤ (5 : Int) ∧ (5 : Int) ≤ 5; decide
 k1 := fun h => absurd h (by show ¬ (5 : Int) = 1; decide)
 k2 := fun h => absurd h (by show ¬ (5 : Int) = 2; decide)
 k3 := fun h => absurd h (by show ¬ (5 : Int) = 3; decide)
 k4 := fun h => absurd h (by show ¬ (5 : Int) = 4; decide)
 k5 := fun _ => ⟨rfl, h2, h1, hv, rfl, rfl⟩
set_option maxHeartbeats 1000000 in
theorem Awake44_ok {κ : Ctx} {I : List Item} (hT : TabRd κ I 0 tzCells) :
    CallS Tryz.prog κ 17 [] I (fun r J => r = .bool true ∧ I = J) := by
 refine Ce0 Tryz.func17 rfl rfl ?_
 refine Ah (Ga rfl (Af (Ah (Ge1 (B5 (α := Int) (cs := [_, _]) (xs := [0, 1]) Ab ty3 rfl rfl dc dc rfl rfl rfl rfl) fun ad1 => ?_))))
 refine Gr (Bf (cells := [_, _]) ty40 Cb pl40 rfl rfl) (Gr (Bf (cells := [_, _, _, _, _, _]) ty42 Tryz.underlying42 pl42 rfl rfl) (Ge1 (Ba ty42 rfl) fun b2 => Ge0 (Dg ty42) ?_))
 refine Af (Ah (Gr (Bf (cells := [_, _, _, _, _, _]) ty42 Tryz.underlying42 pl42 rfl rfl) (Ge1 (Ba ty42 rfl) fun b3 => Ge0 (Dg ty42) ?_)))
 refine Af (Ah (Gr (Bf (cells := [_, _, _, _, _, _, _]) ty108 Tryz.underlying108 pl108 rfl rfl) (Ge1 (B5 (α := Ev) (cs := [I64 (1), I64 (4), I64 (0), I64 (1), I64 (1), I64 (0), I64 (1)]) (xs := [⟨1, 4, 0, 1, 1, 0, 1⟩]) A6 ty108 rfl rfl dc dc rfl kr rfl rfl) fun ad4 => ?_)))
 refine Gr (Bf (cells := [_, _, _]) ty31 Tryz.underlying31 pl31 rfl rfl) (Gl6 ty42 ?_)
 refine Gl6 ty42 ?_
 refine Ge1 (B5 (α := AlV) (cs := [I64 (3), I64 (0), I64 (0), .slice ad1 2 2, I64 (0), I64 (1), I64 (1), I64 (0), I64 (1), .slice none 0 0, I64 (0), I64 (0)]) (xs := [⟨3, 0, 0, ad1, 2, ([0, 1] : List Int), 0, 1⟩, ⟨1, 0, 1, none, 0, [], 0, 0⟩]) De ty42 rfl rfl dc dc rfl kr rfl rfl) fun ad5 => ?_
 refine G.e (Am call23 rfl rfl (Watch_ok (nd := 2) (kd := 2) (wd := 3) (mo := 0) (es := ([⟨1, 4, 0, 1, 1, 0, 1⟩] : List Ev)) (als := ([⟨3, 0, 0, ad1, 2, ([0, 1] : List Int), 0, 1⟩, ⟨1, 0, 1, none, 0, [], 0, 0⟩] : List AlV)) (ea := ad4) (ec := 1) (aa := ad5) (ac := 2) Bc Bc (by intro x hx; simp only [List.mem_cons, List.not_mem_nil, or_false] at hx; rcases hx with rfl | rfl; (· exact El (xs := [0, 1]) mm); (· exact Sl.nil _)) hist_one dc (by intro x hx; simp only [List.mem_cons, List.not_mem_nil, or_false] at hx; rcases hx with rfl | rfl; (· exact al3 _ _); (· exact al1 dc dc _ _)) (Nat.le_of_ble_eq_true rfl) (Bq hT Ax))) ?_
 rintro _ _ ⟨_, _, ⟨ad6, cp7, rfl, rfl⟩, rfl, rfl⟩
 refine Gm rfl (Gr (Az rfl rfl) (Gr (Az rfl rfl) (Ga rfl (Ga rfl (Af (Ap (S2 4 3 rfl rfl) (Ah (Gm rfl (Gr (Bb rfl rfl) (Gm rfl (Bd (d := 21) rfl (fun g21 => ?_) (fun g21 => ?_))))))))))))
 ·refine Gro (Ad rfl) (Gro (Bf (cells := [_, _, _]) ty44 Ek pl44 rfl rfl) (Gro (Bf (cells := [_, _, _]) ty44 Ek pl44 rfl rfl) (Gro (Bf (cells := [_, _, _]) ty44 Ek pl44 rfl rfl) (Cw (Bz rfl rfl rfl) (B5 (α := Rg) (cs := [I64 (0), I64 (0), .bool true, I64 (4), I64 (1), .bool true, I64 (7), I64 (1), .bool false]) (xs := [⟨0, 0, true⟩, ⟨4, 1, true⟩, ⟨7, 1, false⟩]) C6 ty44 rfl rfl dc dc rfl kr rfl rfl) ?_))))
  rintro _ _ ⟨ad8, rfl, rfl⟩
  refine Cw (Bz rfl rfl rfl) (Am call24 rfl rfl (Same44_ok Bc Bc)) ?_
  rintro _ _ ⟨_, _, ⟨rfl, rfl⟩, rfl, rfl⟩
  exact Gr (Al rfl rfl) (Ga rfl (Af (Ap (S1 0 rfl) (Ay (A1 rfl rfl (I) Ax ⟨by rw [decide_eq_true (by exact awake_rings _ _)], rfl⟩)))))
 ·exact absurd rfl g21
theorem mem_coreK {nd lv : Int} {es : List Pt} {y : Int} : y ∈ coreK nd es lv ↔ (0 ≤ y ∧ y < (coreN nd es).length) ∧ lv ≤ at_ (coreN nd es) y := by
 unfold coreK; rw [mem_sideL, decide_eq_true_eq]
section
variable {n kd wd mo : Int} {es : List Ev} (hH : HistOk n kd wd mo es) (hn : 2 ≤ n) (a a2 : Option Addr) (c c2 : Nat)
include hH hn
end
variable {κ : Ctx} {I : List Item}
abbrev frL : List Fr := [⟨0, 1⟩, ⟨1, 2⟩, ⟨2, 3⟩, ⟨1, 1⟩, ⟨4, 3⟩, ⟨3, 2⟩, ⟨5, 4⟩, ⟨2, 1⟩]
theorem frL_ok : ∀ x ∈ frL, FrV x := by
 have h : ∀ x ∈ frL, 0 ≤ x.num ∧ x.num ≤ 1073741824 ∧ 1 ≤ x.den ∧ x.den ≤ 1073741824 ∧ gcdI x.num x.den = 1 := by decide
 exact fun x hx => ⟨(h x hx).1, (h x hx).2.1, (h x hx).2.2.1, (h x hx).2.2.2.1, (h x hx).2.2.2.2⟩
theorem frL_num : ∀ x ∈ frL, x.num ≤ 5 := by decide
theorem MkFrac_base {b : Nat} {lv : Value} {ls : List Int} {i : Int}  (hl : ∀ q, Sl κ (deck b lv q :: I) lv ls) (h0 : 0 ≤ i)   :
    CallS Tryz.prog κ 46 [.pointer (some ⟨b, 0, none⟩)] (blk b [lv, I64 (i)] 125 :: I) (fun r J => ∃ y : Int × Int × Int, ((r = .agg #[I64 y.1, I64 y.2.1] ∧ FrV ⟨y.1, y.2.1⟩ ∧ y.1 ≤ 5) ∧ 0 ≤ y.2.2) ∧ J = [] ++ deck b lv y.2.2 :: I) := by
 refine Ce1 Tryz.func46 rfl rfl ?_
 refine Ah (Ge1 (Ba ty40 rfl) fun b1 => Af (Ah (Gr (Bf (cells := [_, _]) ty40 Cb pl40 rfl rfl) (Gr (Bf (cells := [_, _]) ty40 Cb pl40 rfl rfl) (Gr (Bf (cells := [_, _]) ty40 Cb pl40 rfl rfl) (Gr (Bf (cells := [_, _]) ty40 Cb pl40 rfl rfl) (Gr (Bf (cells := [_, _]) ty40 Cb pl40 rfl rfl) (Gr (Bf (cells := [_, _]) ty40 Cb pl40 rfl rfl) (Gr (Bf (cells := [_, _]) ty40 Cb pl40 rfl rfl) (Gr (Bf (cells := [_, _]) ty40 Cb pl40 rfl rfl) (Ge1 (B5 (α := Fr) (cs := [I64 (0), I64 (1), I64 (1), I64 (2), I64 (2), I64 (3), I64 (1), I64 (1), I64 (4), I64 (3), I64 (3), I64 (2), I64 (5), I64 (4), I64 (2), I64 (1)]) (xs := [⟨0, 1⟩, ⟨1, 2⟩, ⟨2, 3⟩, ⟨1, 1⟩, ⟨4, 3⟩, ⟨3, 2⟩, ⟨5, 4⟩, ⟨2, 1⟩]) Tryz.underlying76 ty40 rfl rfl dc dc rfl kr rfl rfl) fun ad2 => ?_)))))))))))
 refine Ga rfl (Af (Ah (Gm rfl (Gm rfl (Gm rfl (Gr (Bl Tryz.underlying76 rfl) (G.e (Am call19 rfl rfl (Next_ok (by repeat (first | exact AtF.head _ _ | apply AtF.tail)) (B4 (hl _) Ax) om om)) ?_)))))))
 rintro _ _ ⟨_, _, ⟨x3, i4, rfl, hx3, hi4, rfl⟩, rfl, rfl⟩
 show G Tryz.prog κ _ _ _ _ ([(17, I64 (x3)), (16, I64 (((8 : Nat) : Int))), (15, .slice ad2 8 8), (14, .pointer (some ⟨b, 0, none⟩)), (13, .slice ad2 8 8), (3, .slice ad2 8 8), (12, .slice ad2 8 8), (11, .agg #[I64 (2), I64 (1)]), (10, .agg #[I64 (5), I64 (4)]), (9, .agg #[I64 (3), I64 (2)]), (8, .agg #[I64 (4), I64 (3)]), (7, .agg #[I64 (1), I64 (1)]), (6, .agg #[I64 (2), I64 (3)]), (5, .agg #[I64 (1), I64 (2)]), (4, .agg #[I64 (0), I64 (1)]), (2, .pointer (some ⟨b1, 0, none⟩)), (0, .pointer (some ⟨b, 0, none⟩))] : Env) (vc 40 (.slice ad2 8 8) (([⟨0, 1⟩, ⟨1, 2⟩, ⟨2, 3⟩, ⟨1, 1⟩, ⟨4, 3⟩, ⟨3, 2⟩, ⟨5, 4⟩, ⟨2, 1⟩] : List Fr)) :: blk b1 [I64 (0), I64 (0)] 40 :: blk b [lv, I64 (i4)] 125 :: I)
 refine Gr (A0 (α := Fr) (xs := ([⟨0, 1⟩, ⟨1, 2⟩, ⟨2, 3⟩, ⟨1, 1⟩, ⟨4, 3⟩, ⟨3, 2⟩, ⟨5, 4⟩, ⟨2, 1⟩] : List Fr)) Tryz.underlying76 ty40 rfl rfl Bc om (by first | omega | (simp only [List.length_cons, List.length_nil]; omega))) (Gr (Bs (α := Fr) (xs := ([⟨0, 1⟩, ⟨1, 2⟩, ⟨2, 3⟩, ⟨1, 1⟩, ⟨4, 3⟩, ⟨3, 2⟩, ⟨5, 4⟩, ⟨2, 1⟩] : List Fr)) ty40 rfl Bc om (by first | omega | (simp only [List.length_cons, List.length_nil]; omega))) (Ge0 (Co ty40) ?_))
 exact Af (Ap (S1 2 rfl) (Ay (Du rfl ty40 rfl mm rfl (blk b [lv, I64 (i4)] 125 :: I) A2 ⟨((at_ ([⟨0, 1⟩, ⟨1, 2⟩, ⟨2, 3⟩, ⟨1, 1⟩, ⟨4, 3⟩, ⟨3, 2⟩, ⟨5, 4⟩, ⟨2, 1⟩] : List Fr) x3).num, (at_ ([⟨0, 1⟩, ⟨1, 2⟩, ⟨2, 3⟩, ⟨1, 1⟩, ⟨4, 3⟩, ⟨3, 2⟩, ⟨5, 4⟩, ⟨2, 1⟩] : List Fr) x3).den, i4), ⟨⟨rfl, frL_ok _ (Ch (xs := frL) om (by show _ < (8 : Int); omega)), frL_num _ (Ch (xs := frL) om (by show _ < (8 : Int); omega))⟩, by show 0 ≤ i4; omega⟩, rfl⟩)))
theorem MkFrac_at {F : Item → List Item} {b : Nat} {lv : Value} {ls : List Int} {i : Int}  (hat : AtF I (deck b lv i) F) (hl : ∀ q, Sl κ (F (deck b lv q)) lv ls) (h0 : 0 ≤ i)   :
  CallS Tryz.prog κ 46 [.pointer (some ⟨b, 0, none⟩)] I fun r J => ∃ y : Int × Int × Int, ((r = .agg #[I64 y.1, I64 y.2.1] ∧ FrV ⟨y.1, y.2.1⟩ ∧ y.1 ≤ 5) ∧ 0 ≤ y.2.2) ∧ J = [] ++ F (deck b lv y.2.2) :=
 D3 (Post := fun r (y : Int × Int × Int) => (r = .agg #[I64 y.1, I64 y.2.1] ∧ FrV ⟨y.1, y.2.1⟩ ∧ y.1 ≤ 5) ∧ 0 ≤ y.2.2) (Z := fun y : Int × Int × Int => []) (X := fun y : Int × Int × Int => deck b lv y.2.2) hat fun J _ hF => MkFrac_base (fun q => (hl q).fit (hF _)) h0  
theorem one_valid {x n : Int} (h : 0 ≤ x ∧ x < n) : ValidP [x] n := fun j hj => by
 have hj2 : j < 1 := hj
 obtain rfl : j = 0 := by omega
 exact ⟨h, fun h => absurd h dc⟩
theorem MkSome_base {b : Nat} {lv : Value} {ls : List Int} {i : Int} {nodes : Int} (hl : ∀ q, Sl κ (deck b lv q :: I) lv ls) (h0 : 0 ≤ i)  (hn : 1 ≤ nodes ∧ nodes ≤ 64) :
    CallS Tryz.prog κ 49 [.pointer (some ⟨b, 0, none⟩), I64 (nodes)] (blk b [lv, I64 (i)] 125 :: I) (fun r J => ∃ y : (Option Addr) × Nat × (List Int) × Int, ((r = .slice y.1 y.2.2.1.length y.2.1 ∧ ValidP y.2.2.1 nodes ∧ (0 < y.2.2.1.length ∧ (y.2.2.1.length : Int) ≤ nodes)) ∧ 0 ≤ y.2.2.2) ∧ J = [vc 3 (.slice y.1 y.2.2.1.length y.2.1) y.2.2.1] ++ deck b lv y.2.2.2 :: I) := by
 refine Ce2 Tryz.func49 rfl rfl ?_
 refine Ah (Ga rfl (Af (Ah (Gm rfl (Gm rfl (G.e (Am call28 rfl rfl (Set_at (by repeat (first | exact AtF.head _ _ | apply AtF.tail)) (fun _ => B4 (hl _) Ax) om om)) ?_))))))
 rintro _ _ ⟨_, _, ⟨ad2, cp3, o4, i1, rfl, ho4, hlo4, hi1, rfl⟩, rfl, rfl⟩
 show G Tryz.prog κ _ _ _ _ ([(8, .slice ad2 o4.length cp3), (7, I64 (nodes)), (6, .pointer (some ⟨b, 0, none⟩)), (4, .slice none 0 0), (0, .pointer (some ⟨b, 0, none⟩)), (1, I64 (nodes))] : Env) (vc 3 (.slice ad2 o4.length cp3) (o4) :: blk b [lv, I64 (i1)] 125 :: I)
 refine Ga rfl (Af (As (Ah (Gm rfl (Gr (Bl Ab rfl) (Gr (Bb rfl rfl) (Gm rfl (Bd (d := 12) rfl (fun g12 => ?_) (fun g12 => ?_)))))))))
 ·refine Gro (Ad rfl) (Gro (B7 rfl rfl) (Gr (Al rfl rfl) (Af (Ap (S4 15 5 0 1 rfl rfl rfl rfl) (A7 rfl (fun c15 => ?_) (fun c15 => ?_))))))
  ·refine Ah (Gm rfl (Gm rfl (G.e (Am call19 rfl rfl (Next_ok (by repeat (first | exact AtF.head _ _ | apply AtF.tail)) (B4 (hl _) Ax) om om)) ?_)))
   rintro _ _ ⟨_, _, ⟨x5, i6, rfl, hx5, hi6, rfl⟩, rfl, rfl⟩
   show G Tryz.prog κ _ _ _ _ ([(18, I64 (x5)), (17, I64 (nodes)), (16, .pointer (some ⟨b, 0, none⟩)), (15, .bool (decide (0 < nodes))), (5, .slice ad2 o4.length cp3), (0, .pointer (some ⟨b, 0, none⟩)), (1, I64 (nodes))] : Env) (vc 3 (.slice ad2 o4.length cp3) (o4) :: blk b [lv, I64 (i6)] 125 :: I)
   refine Ge1 (B5 (α := Int) (cs := [_]) (xs := [x5]) Ab ty3 rfl rfl dc dc rfl rfl rfl rfl) fun ad7 => ?_
   exact Ga rfl (Af (Ay (Ak (A1 rfl rfl (vc 3 (.slice ad7 1 1) (([x5] : List Int)) :: blk b [lv, I64 (i6)] 125 :: I) A2 ⟨(ad7, 1, ([x5] : List Int), i6), ⟨⟨rfl, one_valid om, by show 0 < 1 ∧ ((1 : Nat) : Int) ≤ nodes; omega⟩, by show 0 ≤ i6; omega⟩, rfl⟩))))
  ·exact A4 (Aj (Ah (Gm rfl (Ga rfl (Af (Ay (A1 rfl rfl (vc 3 (.slice ad2 o4.length cp3) (o4) :: blk b [lv, I64 (i1)] 125 :: I) A2 ⟨(ad2, cp3, o4, i1), ⟨⟨rfl, ho4, by show 0 < o4.length ∧ (o4.length : Int) ≤ nodes; omega⟩, by show 0 ≤ i1; omega⟩, rfl⟩)))))))
 ·exact Gpo (Gpo (Gr (Aq rfl rfl) (Af (Ap (S4 15 5 0 1 rfl rfl rfl rfl) (Dj rfl (A4 (Aj (Ah (Gm rfl (Ga rfl (Af (Ay (A1 rfl rfl (vc 3 (.slice ad2 o4.length cp3) (o4) :: blk b [lv, I64 (i1)] 125 :: I) A2 ⟨(ad2, cp3, o4, i1), ⟨⟨rfl, ho4, by show 0 < o4.length ∧ (o4.length : Int) ≤ nodes; omega⟩, by show 0 ≤ i1; omega⟩, rfl⟩)))))))))))))
theorem MkSome_at {F : Item → List Item} {b : Nat} {lv : Value} {ls : List Int} {i : Int} {nodes : Int} (hat : AtF I (deck b lv i) F) (hl : ∀ q, Sl κ (F (deck b lv q)) lv ls) (h0 : 0 ≤ i)  (hn : 1 ≤ nodes ∧ nodes ≤ 64) :
  CallS Tryz.prog κ 49 [.pointer (some ⟨b, 0, none⟩), I64 (nodes)] I fun r J => ∃ y : (Option Addr) × Nat × (List Int) × Int, ((r = .slice y.1 y.2.2.1.length y.2.1 ∧ ValidP y.2.2.1 nodes ∧ (0 < y.2.2.1.length ∧ (y.2.2.1.length : Int) ≤ nodes)) ∧ 0 ≤ y.2.2.2) ∧ J = [vc 3 (.slice y.1 y.2.2.1.length y.2.1) y.2.2.1] ++ F (deck b lv y.2.2.2) :=
 D3 (Post := fun r (y : (Option Addr) × Nat × (List Int) × Int) => (r = .slice y.1 y.2.2.1.length y.2.1 ∧ ValidP y.2.2.1 nodes ∧ (0 < y.2.2.1.length ∧ (y.2.2.1.length : Int) ≤ nodes)) ∧ 0 ≤ y.2.2.2) (Z := fun y : (Option Addr) × Nat × (List Int) × Int => [vc 3 (.slice y.1 y.2.2.1.length y.2.1) y.2.2.1]) (X := fun y : (Option Addr) × Nat × (List Int) × Int => deck b lv y.2.2.2) hat fun J _ hF => MkSome_base (fun q => (hl q).fit (hF _)) h0  hn
theorem al1e {n kd no lv num den : Int} (e : kd = 1) (e2 : num = 0) (e3 : den = 0) (h1 : 0 ≤ no ∧ no < n) (h2 : 0 ≤ lv ∧ lv ≤ 64) (a : Option Addr) (c : Nat) : AlOk n ⟨kd, no, lv, a, c, [], num, den⟩ := by subst e e2 e3; exact al1 h1 h2 a c
theorem al2e {n kd num den : Int} (e : kd = 2) (h : FrV ⟨num, den⟩) (a : Option Addr) (c : Nat) : AlOk n ⟨kd, 0, 0, a, c, [], num, den⟩ := by subst e; exact al2 h a c
theorem al3e {n kd num den : Int} {xs : List Int} (e : kd = 3) (h1 : 0 < xs.length ∧ (xs.length : Int) ≤ n) (hn : n ≤ 64) (h2 : ValidP xs n) (h : FrV ⟨num, den⟩) (a : Option Addr) (c : Nat) : AlOk n ⟨kd, 0, 0, a, c, xs, num, den⟩ := by subst e; exact al3' ⟨h1.1, by omega⟩ h2 h a c
theorem al4e {n kd lv : Int} (e : kd = 4) (h2 : 0 ≤ lv ∧ lv ≤ 64) (a : Option Addr) (c : Nat) : AlOk n ⟨kd, 0, lv, a, c, [], 0, 0⟩ := by subst e; exact al4 h2 a c
theorem al5e {n kd lv : Int} {xs : List Int} (e : kd = 5) (h1 : 0 < xs.length ∧ (xs.length : Int) ≤ n) (hn : n ≤ 64) (hv : ValidP xs n) (h2 : 0 ≤ lv ∧ lv ≤ 64) (a : Option Addr) (c : Nat) : AlOk n ⟨kd, 0, lv, a, c, xs, 0, 0⟩ := by subst e; exact al5 ⟨h1.1, by omega⟩ hv h2 a c
set_option maxHeartbeats 2000000 in
theorem MkAlarm_base {b : Nat} {lv : Value} {ls : List Int} {i : Int} {nodes : Int} (hl : ∀ q, Sl κ (deck b lv q :: I) lv ls) (h0 : 0 ≤ i)  (hn : 1 ≤ nodes ∧ nodes ≤ 64) :
    CallS Tryz.prog κ 26 [.pointer (some ⟨b, 0, none⟩), I64 (nodes)] (blk b [lv, I64 (i)] 125 :: I) (fun r J => ∃ y : AlV × Int, ((r = .agg #[I64 y.1.kd, I64 y.1.no, I64 y.1.lv, .slice y.1.a y.1.xs.length y.1.c, I64 y.1.num, I64 y.1.den] ∧ AlOk nodes y.1 ∧ (y.1.lv ≤ 3 ∧ y.1.num ≤ 5)) ∧ 0 ≤ y.2) ∧ J = [vc 3 (.slice y.1.a y.1.xs.length y.1.c) y.1.xs] ++ deck b lv y.2 :: I) := by
 refine Ce2 Tryz.func26 rfl rfl ?_
 refine Ah (Ge1 (Ba ty42 rfl) fun b1 => Af (Ah (Gm rfl (G.e (Am call19 rfl rfl (Next_ok (by repeat (first | exact AtF.head _ _ | apply AtF.tail)) (B4 (hl _) Ax) om om)) ?_))))
 rintro _ _ ⟨_, _, ⟨x2, i3, rfl, hx2, hi3, rfl⟩, rfl, rfl⟩
 show G Tryz.prog κ _ _ _ _ ([(8, I64 (x2)), (7, .pointer (some ⟨b, 0, none⟩)), (4, .pointer (some ⟨b1, 0, none⟩)), (0, .pointer (some ⟨b, 0, none⟩)), (1, I64 (nodes))] : Env) (blk b1 [I64 (0), I64 (0), I64 (0), .slice none 0 0, I64 (0), I64 (0)] 42 :: blk b [lv, I64 (i3)] 125 :: I)
 refine Gr (Rad rfl rfl) (Gr (Bf (cells := [_, _, _, _, _, _]) ty42 Tryz.underlying42 pl42 rfl rfl) (Ge1 (Ba ty42 rfl) fun b4 => Ge0 (Dg ty42) ?_))
 refine Af (Ah (Gm rfl (Gr (Dq rfl rfl) ?_)))
 have hmx : (if 1 < nodes then nodes else 1) = nodes := by split <;> omega
 rw [hmx]
 refine Ga rfl (Af (As (Ah (Gf fld42_0 rfl (Gl ty3 ?_)))))
 refine Af (Ap (S5 14 6 5 4 0 rfl rfl rfl rfl rfl) (A3 (Ah (Gr (Bb rfl rfl) (Ga rfl (Af (A7 rfl (fun c15 => ?_) (fun c15 => ?_))))))))
 ·refine Av (Gm rfl (Gm rfl (G.e (Am call19 rfl rfl (Next_ok (by repeat (first | exact AtF.head _ _ | apply AtF.tail)) (B4 (hl _) Ax) om om)) ?_)))
  rintro _ _ ⟨_, _, ⟨x5, i6, rfl, hx5, hi6, rfl⟩, rfl, rfl⟩
  show G Tryz.prog κ _ _ _ _ ([(19, I64 (x5)), (18, I64 (nodes)), (17, .pointer (some ⟨b, 0, none⟩)), (15, .bool (decide ((1 + x2) = 1))), (16, .bool (decide ((1 + x2) = 1))), (14, I64 (1 + x2)), (6, I64 (nodes)), (5, .pointer (some ⟨b4, 0, none⟩)), (4, .pointer (some ⟨b1, 0, none⟩)), (0, .pointer (some ⟨b, 0, none⟩))] : Env) (blk b4 [I64 (1 + x2), I64 (0), I64 (0), .slice none 0 0, I64 (0), I64 (0)] 42 :: blk b1 [I64 (0), I64 (0), I64 (0), .slice none 0 0, I64 (0), I64 (0)] 42 :: blk b [lv, I64 (i6)] 125 :: I)
  refine Gm rfl (G.e (Am call19 rfl rfl (Next_ok (by repeat (first | exact AtF.head _ _ | apply AtF.tail)) (B4 (hl _) Ax) om om)) ?_)
  rintro _ _ ⟨_, _, ⟨x7, i8, rfl, hx7, hi8, rfl⟩, rfl, rfl⟩
  show G Tryz.prog κ _ _ _ _ ([(21, I64 (x7)), (20, .pointer (some ⟨b, 0, none⟩)), (19, I64 (x5)), (18, I64 (nodes)), (17, .pointer (some ⟨b, 0, none⟩)), (15, .bool (decide ((1 + x2) = 1))), (16, .bool (decide ((1 + x2) = 1))), (14, I64 (1 + x2)), (6, I64 (nodes)), (5, .pointer (some ⟨b4, 0, none⟩)), (4, .pointer (some ⟨b1, 0, none⟩)), (0, .pointer (some ⟨b, 0, none⟩))] : Env) (blk b4 [I64 (1 + x2), I64 (0), I64 (0), .slice none 0 0, I64 (0), I64 (0)] 42 :: blk b1 [I64 (0), I64 (0), I64 (0), .slice none 0 0, I64 (0), I64 (0)] 42 :: blk b [lv, I64 (i8)] 125 :: I)
  refine Gf fld42_1 rfl (Ge0 (Ea ty3) ?_)
  refine Gf fld42_2 rfl (Ge0 (Ea ty3) ?_)
  refine Bh (Ai (Aj (Ap (S2 5 4 rfl rfl) (Ah (Gl6 ty42 ?_)))))
  refine Ge0 (Dg ty42) ?_
  exact Af (Ay (Du rfl ty42 rfl mm rfl (vc 3 (.slice none ([] : List Int).length 0) ([] : List Int) :: blk b [lv, I64 (i8)] 125 :: I) (Cj (Bv (α := Int) _ _) A2) ⟨((⟨1 + x2, x5, x7, none, 0, [], 0, 0⟩ : AlV), i8), ⟨⟨rfl, (by first | exact al1e c15 rfl rfl om om _ _ | exact al2e c24 asm _ _ | exact al4e c38 om _ _), by show x7 ≤ 3 ∧ 0 ≤ 5; omega⟩, by show 0 ≤ i8; omega⟩, rfl⟩))
 ·refine Ah (Gr (Bb rfl rfl) (Ga rfl (Af (A7 rfl (fun c24 => ?_) (fun c24 => ?_)))))
  ·refine Av (Gm rfl (G.e (Am call46 rfl rfl (MkFrac_at (by repeat (first | exact AtF.head _ _ | apply AtF.tail)) (fun _ => B4 (hl _) Ax) om  )) ?_))
   rintro _ _ ⟨_, _, ⟨⟨nu9, de10, i11⟩, ⟨⟨rfl, hfnu9, hfnnu9⟩, hi11⟩, rfl⟩, rfl, rfl⟩
   show G Tryz.prog κ _ _ _ _ ([(27, .agg #[I64 (nu9), I64 (de10)]), (26, .pointer (some ⟨b, 0, none⟩)), (24, .bool (decide ((1 + x2) = 2))), (25, .bool (decide ((1 + x2) = 2))), (15, .bool (decide ((1 + x2) = 1))), (16, .bool (decide ((1 + x2) = 1))), (14, I64 (1 + x2)), (6, I64 (nodes)), (5, .pointer (some ⟨b4, 0, none⟩)), (4, .pointer (some ⟨b1, 0, none⟩)), (0, .pointer (some ⟨b, 0, none⟩))] : Env) (blk b4 [I64 (1 + x2), I64 (0), I64 (0), .slice none 0 0, I64 (0), I64 (0)] 42 :: blk b1 [I64 (0), I64 (0), I64 (0), .slice none 0 0, I64 (0), I64 (0)] 42 :: blk b [lv, I64 (i11)] 125 :: I)
   have hi11 : 0 ≤ i11 := hi11
   dsimp only at hfnu9
   dsimp only at hfnnu9
   refine Gf fld42_4 rfl (Ge0 (Eff.st (cs := [_, _, _, _, _, _]) (vs := [_, _]) (cs' := [_, _, _, _, _, _]) ty40) ?_)
   refine Bh (Ai (Aj (Ah (Gl6 ty42 ?_))))
   refine Ge0 (Dg ty42) ?_
   exact Af (Ay (Du rfl ty42 rfl mm rfl (vc 3 (.slice none ([] : List Int).length 0) ([] : List Int) :: blk b [lv, I64 (i11)] 125 :: I) (Cj (Bv (α := Int) _ _) A2) ⟨((⟨1 + x2, 0, 0, none, 0, [], nu9, de10⟩ : AlV), i11), ⟨⟨rfl, (by first | exact al1e c15 rfl rfl om om _ _ | exact al2e c24 asm _ _ | exact al4e c38 om _ _), by show 0 ≤ 3 ∧ nu9 ≤ 5; omega⟩, by show 0 ≤ i11; omega⟩, rfl⟩))
  ·refine Ah (Gr (Bb rfl rfl) (Ga rfl (Af (A7 rfl (fun c29 => ?_) (fun c29 => ?_)))))
   ·refine Av (Gm rfl (Gm rfl (G.e (Am call49 rfl rfl (MkSome_at (by repeat (first | exact AtF.head _ _ | apply AtF.tail)) (fun _ => B4 (hl _) Ax) om  om)) ?_)))
    rintro _ _ ⟨_, _, ⟨⟨ad12, cp13, sx14, i15⟩, ⟨⟨rfl, hvsx14, hlsx14⟩, hi15⟩, rfl⟩, rfl, rfl⟩
    show G Tryz.prog κ _ _ _ _ ([(33, .slice ad12 sx14.length cp13), (32, I64 (nodes)), (31, .pointer (some ⟨b, 0, none⟩)), (29, .bool (decide ((1 + x2) = 3))), (30, .bool (decide ((1 + x2) = 3))), (24, .bool (decide ((1 + x2) = 2))), (25, .bool (decide ((1 + x2) = 2))), (15, .bool (decide ((1 + x2) = 1))), (16, .bool (decide ((1 + x2) = 1))), (14, I64 (1 + x2)), (6, I64 (nodes)), (5, .pointer (some ⟨b4, 0, none⟩)), (4, .pointer (some ⟨b1, 0, none⟩)), (0, .pointer (some ⟨b, 0, none⟩))] : Env) (vc 3 (.slice ad12 sx14.length cp13) (sx14) :: blk b4 [I64 (1 + x2), I64 (0), I64 (0), .slice none 0 0, I64 (0), I64 (0)] 42 :: blk b1 [I64 (0), I64 (0), I64 (0), .slice none 0 0, I64 (0), I64 (0)] 42 :: blk b [lv, I64 (i15)] 125 :: I)
    have hi15 : 0 ≤ i15 := hi15
    dsimp only at hvsx14
    dsimp only at hlsx14
    refine Gm rfl (G.e (Am call46 rfl rfl (MkFrac_at (by repeat (first | exact AtF.head _ _ | apply AtF.tail)) (fun _ => B4 (hl _) Ax) om  )) ?_)
    rintro _ _ ⟨_, _, ⟨⟨nu16, de17, i18⟩, ⟨⟨rfl, hfnu16, hfnnu16⟩, hi18⟩, rfl⟩, rfl, rfl⟩
    show G Tryz.prog κ _ _ _ _ ([(35, .agg #[I64 (nu16), I64 (de17)]), (34, .pointer (some ⟨b, 0, none⟩)), (33, .slice ad12 sx14.length cp13), (32, I64 (nodes)), (31, .pointer (some ⟨b, 0, none⟩)), (29, .bool (decide ((1 + x2) = 3))), (30, .bool (decide ((1 + x2) = 3))), (24, .bool (decide ((1 + x2) = 2))), (25, .bool (decide ((1 + x2) = 2))), (15, .bool (decide ((1 + x2) = 1))), (16, .bool (decide ((1 + x2) = 1))), (14, I64 (1 + x2)), (6, I64 (nodes)), (5, .pointer (some ⟨b4, 0, none⟩)), (4, .pointer (some ⟨b1, 0, none⟩)), (0, .pointer (some ⟨b, 0, none⟩))] : Env) (vc 3 (.slice ad12 sx14.length cp13) (sx14) :: blk b4 [I64 (1 + x2), I64 (0), I64 (0), .slice none 0 0, I64 (0), I64 (0)] 42 :: blk b1 [I64 (0), I64 (0), I64 (0), .slice none 0 0, I64 (0), I64 (0)] 42 :: blk b [lv, I64 (i18)] 125 :: I)
    have hi18 : 0 ≤ i18 := hi18
    dsimp only at hfnu16
    dsimp only at hfnnu16
    refine Gf fld42_3 rfl (Ge0 (Ea ty22) ?_)
    refine Gf fld42_4 rfl (Ge0 (Eff.st (cs := [_, _, _, _, _, _]) (vs := [_, _]) (cs' := [_, _, _, _, _, _]) ty40) ?_)
    refine Bh (Ai (Aj (Ap (S2 5 4 rfl rfl) (Ah (Gl6 ty42 ?_)))))
    refine Ge0 (Dg ty42) ?_
    exact Af (Ay (Du rfl ty42 rfl mm rfl (vc 3 (.slice ad12 sx14.length cp13) (sx14) :: blk b [lv, I64 (i18)] 125 :: I) A2 ⟨((⟨1 + x2, 0, 0, ad12, cp13, sx14, nu16, de17⟩ : AlV), i18), ⟨⟨rfl, (by first | exact al3e c29 hlsx14 hn.2 hvsx14 asm _ _ | exact al5e c43 hlsx14 hn.2 hvsx14 om _ _), by show 0 ≤ 3 ∧ nu16 ≤ 5; omega⟩, by show 0 ≤ i18; omega⟩, rfl⟩))
   ·refine Ah (Gr (Bb rfl rfl) (Ga rfl (Af (A7 rfl (fun c38 => ?_) (fun c38 => ?_)))))
    ·refine Av (Gm rfl (G.e (Am call19 rfl rfl (Next_ok (by repeat (first | exact AtF.head _ _ | apply AtF.tail)) (B4 (hl _) Ax) om om)) ?_))
     rintro _ _ ⟨_, _, ⟨x19, i20, rfl, hx19, hi20, rfl⟩, rfl, rfl⟩
     show G Tryz.prog κ _ _ _ _ ([(41, I64 (x19)), (40, .pointer (some ⟨b, 0, none⟩)), (38, .bool (decide ((1 + x2) = 4))), (39, .bool (decide ((1 + x2) = 4))), (29, .bool (decide ((1 + x2) = 3))), (30, .bool (decide ((1 + x2) = 3))), (24, .bool (decide ((1 + x2) = 2))), (25, .bool (decide ((1 + x2) = 2))), (15, .bool (decide ((1 + x2) = 1))), (16, .bool (decide ((1 + x2) = 1))), (14, I64 (1 + x2)), (6, I64 (nodes)), (5, .pointer (some ⟨b4, 0, none⟩)), (4, .pointer (some ⟨b1, 0, none⟩)), (0, .pointer (some ⟨b, 0, none⟩))] : Env) (blk b4 [I64 (1 + x2), I64 (0), I64 (0), .slice none 0 0, I64 (0), I64 (0)] 42 :: blk b1 [I64 (0), I64 (0), I64 (0), .slice none 0 0, I64 (0), I64 (0)] 42 :: blk b [lv, I64 (i20)] 125 :: I)
     refine Gf fld42_2 rfl (Ge0 (Ea ty3) ?_)
     refine Bh (Ai (Aj (Ap (S2 5 4 rfl rfl) (Ah (Gl6 ty42 ?_)))))
     refine Ge0 (Dg ty42) ?_
     exact Af (Ay (Du rfl ty42 rfl mm rfl (vc 3 (.slice none ([] : List Int).length 0) ([] : List Int) :: blk b [lv, I64 (i20)] 125 :: I) (Cj (Bv (α := Int) _ _) A2) ⟨((⟨1 + x2, 0, x19, none, 0, [], 0, 0⟩ : AlV), i20), ⟨⟨rfl, (by first | exact al1e c15 rfl rfl om om _ _ | exact al2e c24 asm _ _ | exact al4e c38 om _ _), by show x19 ≤ 3 ∧ 0 ≤ 5; omega⟩, by show 0 ≤ i20; omega⟩, rfl⟩))
    ·refine Ah (Gr (Bb rfl rfl) (Ga rfl (Af (Ap (S5 43 6 5 4 0 rfl rfl rfl rfl rfl) (A7 rfl (fun c43 => ?_) (fun c43 => ?_))))))
     ·refine Av (Gm rfl (Gm rfl (G.e (Am call49 rfl rfl (MkSome_at (by repeat (first | exact AtF.head _ _ | apply AtF.tail)) (fun _ => B4 (hl _) Ax) om  om)) ?_)))
      rintro _ _ ⟨_, _, ⟨⟨ad21, cp22, sx23, i24⟩, ⟨⟨rfl, hvsx23, hlsx23⟩, hi24⟩, rfl⟩, rfl, rfl⟩
      show G Tryz.prog κ _ _ _ _ ([(47, .slice ad21 sx23.length cp22), (46, I64 (nodes)), (45, .pointer (some ⟨b, 0, none⟩)), (43, .bool (decide ((1 + x2) = 5))), (6, I64 (nodes)), (5, .pointer (some ⟨b4, 0, none⟩)), (4, .pointer (some ⟨b1, 0, none⟩)), (0, .pointer (some ⟨b, 0, none⟩))] : Env) (vc 3 (.slice ad21 sx23.length cp22) (sx23) :: blk b4 [I64 (1 + x2), I64 (0), I64 (0), .slice none 0 0, I64 (0), I64 (0)] 42 :: blk b1 [I64 (0), I64 (0), I64 (0), .slice none 0 0, I64 (0), I64 (0)] 42 :: blk b [lv, I64 (i24)] 125 :: I)
      have hi24 : 0 ≤ i24 := hi24
      dsimp only at hvsx23
      dsimp only at hlsx23
      refine Gm rfl (G.e (Am call19 rfl rfl (Next_ok (by repeat (first | exact AtF.head _ _ | apply AtF.tail)) (B4 (hl _) Ax) om om)) ?_)
      rintro _ _ ⟨_, _, ⟨x25, i26, rfl, hx25, hi26, rfl⟩, rfl, rfl⟩
      show G Tryz.prog κ _ _ _ _ ([(49, I64 (x25)), (48, .pointer (some ⟨b, 0, none⟩)), (47, .slice ad21 sx23.length cp22), (46, I64 (nodes)), (45, .pointer (some ⟨b, 0, none⟩)), (43, .bool (decide ((1 + x2) = 5))), (6, I64 (nodes)), (5, .pointer (some ⟨b4, 0, none⟩)), (4, .pointer (some ⟨b1, 0, none⟩)), (0, .pointer (some ⟨b, 0, none⟩))] : Env) (vc 3 (.slice ad21 sx23.length cp22) (sx23) :: blk b4 [I64 (1 + x2), I64 (0), I64 (0), .slice none 0 0, I64 (0), I64 (0)] 42 :: blk b1 [I64 (0), I64 (0), I64 (0), .slice none 0 0, I64 (0), I64 (0)] 42 :: blk b [lv, I64 (i26)] 125 :: I)
      refine Gf fld42_3 rfl (Ge0 (Ea ty22) ?_)
      refine Gf fld42_2 rfl (Ge0 (Ea ty3) ?_)
      refine Bh (Ai (Aj (Ah (Gl6 ty42 ?_))))
      refine Ge0 (Dg ty42) ?_
      exact Af (Ay (Du rfl ty42 rfl mm rfl (vc 3 (.slice ad21 sx23.length cp22) (sx23) :: blk b [lv, I64 (i26)] 125 :: I) A2 ⟨((⟨1 + x2, 0, x25, ad21, cp22, sx23, 0, 0⟩ : AlV), i26), ⟨⟨rfl, (by first | exact al3e c29 hlsx23 hn.2 hvsx23 asm _ _ | exact al5e c43 hlsx23 hn.2 hvsx23 om _ _), by show x25 ≤ 3 ∧ 0 ≤ 5; omega⟩, by show 0 ≤ i26; omega⟩, rfl⟩))
     ·omega
theorem MkAlarm_at {F : Item → List Item} {b : Nat} {lv : Value} {ls : List Int} {i : Int} {nodes : Int} (hat : AtF I (deck b lv i) F) (hl : ∀ q, Sl κ (F (deck b lv q)) lv ls) (h0 : 0 ≤ i)  (hn : 1 ≤ nodes ∧ nodes ≤ 64) :
  CallS Tryz.prog κ 26 [.pointer (some ⟨b, 0, none⟩), I64 (nodes)] I fun r J => ∃ y : AlV × Int, ((r = .agg #[I64 y.1.kd, I64 y.1.no, I64 y.1.lv, .slice y.1.a y.1.xs.length y.1.c, I64 y.1.num, I64 y.1.den] ∧ AlOk nodes y.1 ∧ (y.1.lv ≤ 3 ∧ y.1.num ≤ 5)) ∧ 0 ≤ y.2) ∧ J = [vc 3 (.slice y.1.a y.1.xs.length y.1.c) y.1.xs] ++ F (deck b lv y.2) :=
 D3 (Post := fun r (y : AlV × Int) => (r = .agg #[I64 y.1.kd, I64 y.1.no, I64 y.1.lv, .slice y.1.a y.1.xs.length y.1.c, I64 y.1.num, I64 y.1.den] ∧ AlOk nodes y.1 ∧ (y.1.lv ≤ 3 ∧ y.1.num ≤ 5)) ∧ 0 ≤ y.2) (Z := fun y : AlV × Int => [vc 3 (.slice y.1.a y.1.xs.length y.1.c) y.1.xs]) (X := fun y : AlV × Int => deck b lv y.2) hat fun J _ hF => MkAlarm_base (fun q => (hl q).fit (hF _)) h0  hn
theorem bit_maskB {l : List Int} {i : Nat} (hi : i < 64) : (maskB l).getLsbD i = true ↔ (i : Int) ∈ l := by
 unfold maskB; rw [getLsb_maskB hi]; simp
theorem mask_one (u : Int) : maskB [u] = bitB u := by unfold maskB; simp
theorem bit_one {u : Int} (h : 0 ≤ u ∧ u < 64) : bitB u = oneB u.toNat := by unfold bitB oneB; rw [if_neg om]
theorem rowsB_sym {nd : Int} {es : List Pt} (hG : GrOk nd es) : SymR (rowsB nd es) := by
 have key : ∀ i j : Nat, (at_ (rowsB nd es) (i : Int)).getLsbD j = true → (at_ (rowsB nd es) (j : Int)).getLsbD i = true := fun i j h => by
  have hl := hG.rows.len
  have hr := hG.rng
  have hj : j < 64 := Classical.byContradiction fun hn => by rw [BitVec.getLsbD_of_ge _ _ om] at h; cases h
  have hi : (i : Int) < nd := Classical.byContradiction fun hn => by
   rw [at_nat, List.getD_eq_getElem?_getD, List.getElem?_eq_none om] at h
   exact absurd h (by show ¬ (0#64).getLsbD j = true; simp)
  have e1 := hG.rows.bit (i : Int) (j : Int) om hi om om
  rw [Int.toNat_natCast, h] at e1
  have h2 := of_decide_eq_true e1.symm
  have hjn : (j : Int) < nd := by
   rcases h2 with h3 | h3
   ·have := hG.edge _ h3; simp only at this; omega
   ·have := hG.edge _ h3; simp only at this; omega
  have e2 := hG.rows.bit (j : Int) (i : Int) om hjn om om
  rw [Int.toNat_natCast] at e2
  rw [e2, decide_eq_true_eq]
  exact h2.symm
 intro i j
 rw [Bool.eq_iff_iff]
 exact ⟨key i j, key j i⟩
theorem ValidP.len {l : List Int} {N : Int} (h : ValidP l N) (hN : 0 ≤ N) : (l.length : Int) ≤ N := by
 have : ∀ k : Nat, k < l.length → (k : Int) ≤ at_ l (k : Int) := fun k => by
  induction k with
  | zero => intro hk; have := (h 0 hk).1.1; simpa using this
  | succ k ih =>
   intro hk
   have h1 := ih om
   have h2 := (h (k + 1) hk).2 om
   rw [show ((k + 1 : Nat) : Int) - 1 = (k : Int) from by omega] at h2
   omega
 by_cases h0 : l.length = 0
 ·omega
 ·have h1 := this (l.length - 1) om
  have h2 := (h (l.length - 1) om).1.2
  omega
end Go.Sl
