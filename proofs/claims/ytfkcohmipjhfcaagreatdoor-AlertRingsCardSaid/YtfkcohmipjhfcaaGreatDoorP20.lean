/- A part of the proofs of statements of this seat: contracts of functions, and the plain laws that they lean on. No conditions. -/
import Derived.Test.YtfkcohmipjhfcaaGreatDoorP19
set_option linter.unusedVariables false
set_option linter.unusedSimpArgs false
set_option linter.unusedSectionVars false
namespace Go.Sl
open Go.Proofs
set_option maxRecDepth 4000
def timesZ (kd wd mo : Int) (es : List Ev) : List Int := ascZ (timesL kd wd mo es)
theorem lateTm_yes {kd wd : Int} {xs : List Lk} {k : Nat} (h : k < xs.length) (h1 : kd = 2) (h2 : (at_ xs (k : Int)).tm + wd ≤ 1048576) : (lateL kd wd (xs.take (k + 1))).map Ev.tm = (lateL kd wd (xs.take k)).map Ev.tm ++ [(at_ xs (k : Int)).tm + wd] := by
 rw [late_yes h h1 h2, List.map_append]; rfl
theorem lateTm_no {kd wd : Int} {xs : List Lk} {k : Nat} (h : k < xs.length) (h1 : ¬ kd = 2 ∨ ¬ (at_ xs (k : Int)).tm + wd ≤ 1048576) : (lateL kd wd (xs.take (k + 1))).map Ev.tm = (lateL kd wd (xs.take k)).map Ev.tm := by rw [late_no h h1]
set_option maxHeartbeats 2000000 in
theorem Times_ok {κ : Ctx} {I : List Item} {nd kd wd mo : Int} {ea : Option Addr} {ec : Nat} {es : List Ev} (hl : Sl κ I (.slice ea es.length ec) es) (hH : HistOk nd kd wd mo es) (hlen : es.length ≤ 19) :
    CallS Tryz.prog κ 80 [I64 (nd), .slice ea es.length ec, .agg #[I64 (kd), I64 (wd), I64 (mo)]] I (fun r J => ∃ a c, r = .slice a (timesZ kd wd mo es).length c ∧ J = vc 3 (.slice a (timesZ kd wd mo es).length c) (timesZ kd wd mo es) :: I) := by
 refine Ce3 Tryz.func80 rfl rfl ?_
 refine Ah (Ge1 (Bd (cs := [_, _, _]) rfl rfl rfl) fun b1 => Ga rfl (Af (Ah (Ge1 (B3 (α := Int) (cs := [_]) (xs := [0]) Ac ty3 rfl rfl dc dc rfl rfl rfl rfl) fun ad2 => ?_))))
 refine Ga rfl (Af (Ah (Gm rfl (Gm rfl (Gl3 ty31 ?_)))))
 refine G.e (Al call140 rfl rfl (Slide_hist (nd := nd) (kd := kd) (wd := wd) (mo := mo) (es := es) (Bh hl) hH)) ?_
 rintro _ _ ⟨_, _, ⟨ad3, cp4, rfl, rfl⟩, rfl, rfl⟩
 refine Gm rfl (Gr (A4 rfl rfl) (Gr (A4 rfl rfl) (Ga rfl (Ga rfl ?_))))
 generalize hSE : (slideS kd wd mo es).2 = SE
 have hfS : ∀ e ∈ SE, FitOk nd e := by rw [← hSE]; exact hH.fit
 have hSl : SE.length ≤ 38 := by rw [← hSE]; have := hH.len2; omega
 have hlS : (linksL SE).length ≤ 19 := by rw [← hSE]; have := hH.len; omega
 refine Af (Aq (S4 8 7 5 0 rfl rfl rfl rfl) (Ah (Gm rfl (Gr (Bb (cells := [_, _]) ty111 Ee pl111 rfl rfl) (Ge1 (A8 ty111 rfl) fun b5 => Ge0 (Cr ty111) ?_)))))
 refine G.fit (J := vc 146 (.slice none 0 0) (([] : List Lk)) :: blk b5 [I64 (nd), .slice none 0 0] 111 :: vc 108 (.slice ad3 (SE).length cp4) (SE) :: vc 3 (.slice ad2 1 1) (([0] : List Int)) :: blk b1 [I64 (kd), I64 (wd), I64 (mo)] 31 :: I) (Bt (α := Lk) _ _) ?_
 refine Af (As (Ah (Gm rfl (Gr (Bl A5 rfl) (Gm rfl (Af (A0 (Bu (σ := Nat × (Option Addr) × Nat × (Option Addr) × Nat × (List Int)) (fun s => ([(5, .pointer (some ⟨b1, 0, none⟩)), (7, .slice s.2.2.2.1 s.2.2.2.2.2.length s.2.2.2.2.1), (10, .pointer (some ⟨b5, 0, none⟩)), (26, .slice ad3 (SE).length cp4), (27, I64 ((((SE).length : Nat) : Int))), (28, I64 (((s.1 : Nat) : Int)))] : Env)) (fun s => vc 146 (.slice s.2.1 (linksL (SE.take s.1)).length s.2.2.1) (linksL (SE.take s.1)) :: vc 3 (.slice s.2.2.2.1 s.2.2.2.2.2.length s.2.2.2.2.1) (s.2.2.2.2.2) :: blk b5 [I64 (nd), .slice s.2.1 (linksL (SE.take s.1)).length s.2.2.1] 111 :: vc 108 (.slice ad3 (SE).length cp4) (SE) :: blk b1 [I64 (kd), I64 (wd), I64 (mo)] 31 :: I) (fun s => (s.1 ≤ SE.length) ∧ (s.2.2.2.2.2 = 0 :: (SE.take s.1).map Ev.tm)) (fun s => SE.length - s.1) (0, none, 0, ad2, 1, [0]) (show ((0 : Nat) ≤ SE.length) ∧ (([0] : List Int) = 0 :: (SE.take (0 : Nat)).map Ev.tm) from ⟨om, rfl⟩) (Aa rfl (Aa (Cv rfl (by first | rfl | simp)) (Aa rfl (Aa rfl (Aa rfl (Aa Cf Bg)))))) (show Fit κ _ (vc 146 (.slice (none) (linksL (SE.take (0))).length (0)) (linksL (SE.take (0))) :: vc 3 (.slice (ad2) ([0]).length (1)) (([0])) :: blk b5 [I64 (nd), .slice (none) (linksL (SE.take (0))).length (0)] 111 :: vc 108 (.slice ad3 (SE).length cp4) (SE) :: blk b1 [I64 (kd), I64 (wd), I64 (mo)] 31 :: I) from B4) ?_))))))))
 rintro ⟨k, a, c, oa, oc, out⟩ hp
 dsimp only at hp ⊢
 obtain ⟨hk, ho⟩ := hp
 have hol : out.length = k + 1 := by rw [ho, List.length_cons, List.length_map, List.length_take]; omega
 refine Ah (Gr (Ba rfl rfl) (Af (As (A7 rfl (fun c29 => ?_) (fun c29 => ?_)))))
 ·refine A2 (Ak (As (A0 (Ah (Gr (Ax (α := Ev) (xs := SE) A5 ty108 rfl rfl Be om om) (Gr (Bp (α := Ev) (xs := SE) ty108 rfl Be om om) (Ge1 (A8 ty108 rfl) fun b6 => Ge0 (Es7_7 ty108) ?_)))))))
  refine Af (Ah (Gl2 ty111 ?_))
  refine Gl7 ty108 ?_
  refine G.e (Al call141 rfl rfl (Ck (J := vc 146 (.slice a (linksL (SE.take k)).length c) (linksL (SE.take k)) :: blk b6 [I64 ((at_ SE (k : Int)).kd), I64 ((at_ SE (k : Int)).tm), I64 ((at_ SE (k : Int)).u), I64 ((at_ SE (k : Int)).v), I64 ((at_ SE (k : Int)).w), I64 ((at_ SE (k : Int)).lb), I64 ((at_ SE (k : Int)).sg)] 108 :: vc 3 (.slice oa out.length oc) (out) :: blk b5 [I64 (nd), .slice a (linksL (SE.take k)).length c] 111 :: vc 108 (.slice ad3 (SE).length cp4) (SE) :: blk b1 [I64 (kd), I64 (wd), I64 (mo)] 31 :: I) B4 (ApplyP_ok (nd := nd) (e := (at_ SE (k : Int))) (xs := linksL (SE.take k)) (links_val hH.st.nodes hfS k) (hfS _ (Ch om om)) (by have := links_len (links_val hH.st.nodes hfS k); omega)))) ?_
  rintro _ _ ⟨_, _, ⟨ad7, cp8, wv9, rfl, rfl⟩, rfl, rfl⟩
  refine Gm rfl (Gr (A4 rfl rfl) (Gr (A4 rfl rfl) (Gr (A4 rfl rfl) (Ge0 (Cr ty111) ?_))))
  refine Af (Aq (S7 12 5 7 10 26 27 28 rfl rfl rfl rfl rfl rfl rfl) (Av (Gm rfl (Gf fld108_1 rfl (Gl ty3 ?_)))))
  refine Ge1 (B3 (α := Int) (cs := [_]) (xs := [(at_ SE (k : Int)).tm]) Ac ty3 rfl rfl dc dc rfl rfl rfl rfl) fun ad10 => ?_
  refine Ge2 (Ci (α := Int) (e := 3) (xs := out) (ys := ([(at_ SE (k : Int)).tm] : List Int)) Ac ty3 rfl rfl rfl mm Be lcn dc rfl (fun _ _ => am)) fun ad11 cp12 => ?_
  exact Ga rfl (Bf (Ai (Ak (Av (Gr (Rad rfl rfl) (Gm rfl (Bf (B1 ((k + 1), (ad7), (cp8), (ad11), (cp12), (out ++ ([(at_ SE (k : Int)).tm] : List Int))) (by dsimp only; exact ⟨om, (by rw [ho, Cx SE k om, List.map_append]; rfl)⟩) (hI := by (try dsimp only); exact (by rw [linksL_take om]; exact B4))))))))))
 ·refine Br (Am (Am (A6 (Ak (As (Ah (Gf fld111_1 rfl ?_)))))))
  have hfull : SE.take k = SE := List.take_of_length_le om
  rw [hfull] at ho ⊢
  have hvL : checkS nd (linksL SE) = 0 := by have := links_val hH.st.nodes hfS k; rwa [hfull] at this
  refine Gl ty109 ?_
  refine Gr (Bl Aw rfl) (Gm rfl (Af (A0 (Bu (σ := Nat × (Option Addr) × Nat × (List Int)) (fun s => ([(5, .pointer (some ⟨b1, 0, none⟩)), (7, .slice s.2.1 s.2.2.2.length s.2.2.1), (46, .slice a (linksL (SE)).length c), (47, I64 ((((linksL (SE)).length : Nat) : Int))), (48, I64 (((s.1 : Nat) : Int)))] : Env)) (fun s => vc 146 (.slice a (linksL (SE)).length c) (linksL (SE)) :: vc 3 (.slice s.2.1 s.2.2.2.length s.2.2.1) (s.2.2.2) :: blk b5 [I64 (nd), .slice a (linksL (SE)).length c] 111 :: vc 108 (.slice ad3 (SE).length cp4) (SE) :: blk b1 [I64 (kd), I64 (wd), I64 (mo)] 31 :: I) (fun s => (s.1 ≤ (linksL SE).length) ∧ (s.2.2.2 = 0 :: (SE.map Ev.tm ++ (lateL kd wd ((linksL SE).take s.1)).map Ev.tm))) (fun s => (linksL SE).length - s.1) (0, oa, oc, out) (show ((0 : Nat) ≤ (linksL SE).length) ∧ ((out : List Int) = 0 :: (SE.map Ev.tm ++ (lateL kd wd ((linksL SE).take (0 : Nat))).map Ev.tm)) from ⟨om, (by rw [ho]; simp [lateL])⟩) (Aa rfl (Aa (Cv rfl (by first | rfl | simp)) (Aa rfl (Aa rfl (Aa Cf Bg))))) (show Fit κ _ (vc 146 (.slice a (linksL (SE)).length c) (linksL (SE)) :: vc 3 (.slice (oa) (out).length (oc)) ((out)) :: blk b5 [I64 (nd), .slice a (linksL (SE)).length c] 111 :: vc 108 (.slice ad3 (SE).length cp4) (SE) :: blk b1 [I64 (kd), I64 (wd), I64 (mo)] 31 :: I) from Az) ?_))))
  rintro ⟨k2, oa2, oc2, out2⟩ hp
  dsimp only at hp ⊢
  obtain ⟨hk2, ho2⟩ := hp
  have hol2 : out2.length ≤ SE.length + k2 + 1 := by rw [ho2, List.length_cons, List.length_append, List.length_map, List.length_map]; have h1 := lateL_len kd wd ((linksL SE).take k2); rw [List.length_take] at h1; omega
  have hww := checkW_wd hH.win
  refine Ah (Gr (Ba rfl rfl) (Af (As (A7 rfl (fun c49 => ?_) (fun c49 => ?_)))))
  ·refine A2 (Ak (As (A0 (Ah (Gr (Ax (α := Lk) (xs := linksL (SE)) Aw ty146 rfl rfl Be om om) (Gr (Bp (α := Lk) (xs := linksL (SE)) ty146 rfl Be om om) (Ge1 (A8 ty146 rfl) fun b13 => Ge0 (Dh ty146) ?_)))))))
   have htk := checkS_tm hvL (k2 : Int) om om
   refine Af (Ah (Gf fld146_5 rfl (Gl ty3 ?_)))
   refine Gf fld31_1 rfl (Gl ty3 ?_)
   refine Gr (Rad rfl rfl) (Ga rfl (Af (Aq (S6 15 5 7 46 47 48 rfl rfl rfl rfl rfl rfl) (Ah (Gf fld31_0 rfl (Gl ty3 ?_))))))
   refine Gr (Bi rfl rfl) (Gm rfl (Bk (d := 60) rfl (fun g60 => ?_) (fun g60 => ?_)))
   ·refine Gro (Ad rfl) (Gro (Dy rfl rfl) (Gr (Ao rfl rfl) (Af (Aq (S7 63 15 5 7 46 47 48 rfl rfl rfl rfl rfl rfl rfl) (A7 rfl (fun c63 => ?_) (fun c63 => ?_))))))
    ·refine Av (Gm rfl (Gm rfl (Ge1 (B3 (α := Int) (cs := [_]) (xs := [((at_ (linksL (SE)) (k2 : Int)).tm) + wd]) Ac ty3 rfl rfl dc dc rfl rfl rfl rfl) fun ad14 => ?_)))
     refine Ge2 (Ci (α := Int) (e := 3) (xs := out2) (ys := ([((at_ (linksL (SE)) (k2 : Int)).tm) + wd] : List Int)) Ac ty3 rfl rfl rfl mm Be lcn dc rfl (fun _ _ => am)) fun ad15 cp16 => ?_
     exact Ga rfl (Bf (Ai (Ak (Av (Gr (Rad rfl rfl) (Gm rfl (Bf (B1 ((k2 + 1), (ad15), (cp16), (out2 ++ ([((at_ (linksL (SE)) (k2 : Int)).tm) + wd] : List Int))) (by dsimp only; exact ⟨om, (by first | (rw [ho2, lateTm_yes om g60 asm, List.cons_append, List.append_assoc]) | (rw [ho2, lateTm_no om (.inl g60)]) | (rw [ho2, lateTm_no om (.inr asm)]))⟩)))))))))
    ·exact A2 (Ai (Ak (Av (Gr (Rad rfl rfl) (Gm rfl (Bf (B1 ((k2 + 1), (oa2), (oc2), (out2)) (by dsimp only; exact ⟨om, (by first | (rw [ho2, lateTm_yes om g60 asm, List.cons_append, List.append_assoc]) | (rw [ho2, lateTm_no om (.inl g60)]) | (rw [ho2, lateTm_no om (.inr asm)]))⟩))))))))
   ·exact Gpo (Gpo (Gr (Ar rfl rfl) (Af (Aq (S7 63 15 5 7 46 47 48 rfl rfl rfl rfl rfl rfl rfl) (Di rfl (A2 (Ai (Ak (Av (Gr (Rad rfl rfl) (Gm rfl (Bf (B1 ((k2 + 1), (oa2), (oc2), (out2)) (by dsimp only; exact ⟨om, (by first | (rw [ho2, lateTm_yes om g60 asm, List.cons_append, List.append_assoc]) | (rw [ho2, lateTm_no om (.inl g60)]) | (rw [ho2, lateTm_no om (.inr asm)]))⟩))))))))))))))
  ·refine Br (Am (Am (A6 (Ak (Ah (Gm rfl (Gc1 (Al call142 rfl rfl (Ck (J := vc 3 (.slice oa2 out2.length oc2) (out2) :: vc 146 (.slice a (linksL (SE)).length c) (linksL (SE)) :: blk b5 [I64 (nd), .slice a (linksL (SE)).length c] 111 :: vc 108 (.slice ad3 (SE).length cp4) (SE) :: blk b1 [I64 (kd), I64 (wd), I64 (mo)] 31 :: I) B4 (sortI_ok om))) ?_)))))))
   refine Af (Ah (Gm rfl (G.e (Al call143 rfl rfl (Ck (J := vc 3 (.slice oa2 out2.length oc2) (sortZ out2) :: vc 146 (.slice a (linksL (SE)).length c) (linksL (SE)) :: blk b5 [I64 (nd), .slice a (linksL (SE)).length c] 111 :: vc 108 (.slice ad3 (SE).length cp4) (SE) :: blk b1 [I64 (kd), I64 (wd), I64 (mo)] 31 :: I) B4 (CompactI_n (xs := sortZ out2) (by exact (Eb _).symm) (by first | omega | (rw [Eb]; omega))))) ?_)))
   rintro _ _ ⟨_, _, ⟨rfl, rfl⟩, rfl, rfl⟩
   show G Tryz.prog κ _ _ _ _ ([(72, .slice oa2 (ascZ out2).length oc2), (71, .slice oa2 out2.length oc2), (70, .tuple #[]), (69, .slice oa2 out2.length oc2), (49, .bool (decide ((k2 : Int) < (((linksL (SE)).length : Nat) : Int)))), (5, .pointer (some ⟨b1, 0, none⟩)), (7, .slice oa2 out2.length oc2), (46, .slice a (linksL (SE)).length c), (47, I64 ((((linksL (SE)).length : Nat) : Int))), (48, I64 ((k2 : Int)))] : Env) (vc 3 (.slice oa2 (ascZ out2).length oc2) (ascZ out2) :: vc 146 (.slice a (linksL (SE)).length c) (linksL (SE)) :: blk b5 [I64 (nd), .slice a (linksL (SE)).length c] 111 :: vc 108 (.slice ad3 (SE).length cp4) (SE) :: blk b1 [I64 (kd), I64 (wd), I64 (mo)] 31 :: I)
   refine Ga rfl (Af (Ay ?_))
   have hE : out2 = timesL kd wd mo es := by rw [ho2, List.take_of_length_le om]; unfold timesL; rw [hSE]
   exact A3 rfl rfl (vc 3 (.slice oa2 (timesZ kd wd mo es).length oc2) (timesZ kd wd mo es) :: I) (by unfold timesZ; rw [← hE]; exact B4) ⟨oa2, oc2, by unfold timesZ; rw [← hE], rfl⟩
instance : Enc Rg := ⟨fun r => [I64 r.tm, I64 r.al, .bool r.on], 3, by omega, fun _ => rfl, fun r u hu => by
 simp only [List.mem_cons, List.not_mem_nil, or_false] at hu
 rcases hu with rfl | rfl | rfl <;> rfl⟩
noncomputable def alH (nd kd wd mo : Int) (es : List Ev) (als : List AlV) (t : Int) (i : Nat) : Bool := holdV nd (atG kd wd mo es t) (at_ als (i : Int))
noncomputable def ringsV (nd kd wd mo : Int) (es : List Ev) (als : List AlV) : List Rg := (ringS (alH nd kd wd mo es als) als.length (timesZ kd wd mo es)).2
theorem ringK_len (t : Int) (h : Nat → Bool) : ∀ (k : Nat) (st : List Bool × List Rg), (ringK t h k st).1.length = st.1.length ∧ (ringK t h k st).2.length ≤ st.2.length + k
 | 0, st => ⟨rfl, Nat.le_refl _⟩
 | k + 1, st => by
  obtain ⟨h1, h2⟩ := ringK_len t h k st
  rw [ringK_succ]
  unfold ring1
  split
  ·exact ⟨h1, by omega⟩
  ·exact ⟨by simp only [List.length_set]; exact h1, by simp only [List.length_append, List.length_cons, List.length_nil]; omega⟩
theorem timesZ_rng {nd kd wd mo : Int} {es : List Ev} (hH : HistOk nd kd wd mo es) : ∀ t ∈ timesZ kd wd mo es, 0 ≤ t ∧ t ≤ 1048576 := fun t ht => by
 have h := mem_ascZ.1 ht
 unfold timesL at h
 rcases List.mem_cons.1 h with h | h
 ·omega
 ·rcases List.mem_append.1 h with h | h
  ·obtain ⟨e, he, rfl⟩ := List.mem_map.1 h
   exact (hH.fit e he).tm
  ·obtain ⟨e, he, rfl⟩ := List.mem_map.1 h
   have := hH.allFit e (List.mem_append_right _ ((isort_permG _ _).mem_iff.2 he))
   exact this.tm
theorem timesL_len {nd kd wd mo : Int} {es : List Ev} (hH : HistOk nd kd wd mo es) (hlen : es.length ≤ 19) : (timesZ kd wd mo es).length ≤ 58 := by
 have h1 := ascZ_len (timesL kd wd mo es)
 have h2 := hH.len2
 have h3 := hH.len
 have h4 := lateL_len kd wd (linksL (slideS kd wd mo es).2)
 unfold timesZ
 unfold timesL at h1 ⊢
 rw [List.length_cons, List.length_append, List.length_map, List.length_map] at h1
 omega
theorem ringS_len (H : Int → Nat → Bool) (n : Nat) (ts : List Int) : ∀ k, k ≤ ts.length → (ringS H n (ts.take k)).1.length = n ∧ (ringS H n (ts.take k)).2.length ≤ n * k
 | 0, _ => ⟨List.length_replicate, Nat.zero_le _⟩
 | k + 1, hk => by
  obtain ⟨h1, h2⟩ := ringS_len H n ts k om
  rw [ringS_take om]
  obtain ⟨h3, h4⟩ := ringK_len (at_ ts (k : Int)) (H (at_ ts (k : Int))) n (ringS H n (ts.take k))
  exact ⟨by rw [h3, h1], by rw [Nat.mul_succ]; omega⟩
theorem ring_yes {t : Int} {h : Nat → Bool} {k : Nat} {p : List Bool × List Rg} {on : List Bool} {out : List Rg} (he : (on, out) = ringK t h k p) (hc : h k ≠ at_ on (k : Int)) : (List.set on ((k : Int)).toNat (h k), out ++ [(⟨t, (k : Int), h k⟩ : Rg)]) = ringK t h (k + 1) p := by
 rw [ringK_succ, ← he]
 unfold ring1
 rw [if_neg hc, Int.toNat_natCast]
theorem ring_no {t : Int} {h : Nat → Bool} {k : Nat} {p : List Bool × List Rg} {on : List Bool} {out : List Rg} (he : (on, out) = ringK t h k p) (hc : ¬ h k ≠ at_ on (k : Int)) : (on, out) = ringK t h (k + 1) p := by
 rw [ringK_succ, ← he]
 unfold ring1
 rw [if_pos (Classical.not_not.1 hc)]
theorem streamE_zeroH {nd kd wd mo : Int} {es : List Ev} (h : HistOk nd kd wd mo es) : streamE nd es = 0 := by
 have := slideE_zeroH h
 unfold slideE at this
 rwa [if_neg (by simp [h.win])] at this
set_option maxHeartbeats 2000000 in
theorem Watch_ok {κ : Ctx} {I : List Item} {nd kd wd mo : Int} {ea aa : Option Addr} {ec ac : Nat} {es : List Ev} {als : List AlV} (hl : Sl κ I (.slice ea es.length ec) es) (ha : Sl κ I (.slice aa als.length ac) als) (hsl : ∀ x ∈ als, Sl κ I (.slice x.a x.xs.length x.c) x.xs) (hH : HistOk nd kd wd mo es) (hlen : es.length ≤ 19) (hok : ∀ x ∈ als, AlOk nd x) (hal : als.length ≤ 16) (hT : TabRd κ I 0 tzCells) :
    CallS Tryz.prog κ 23 [I64 (nd), .slice ea es.length ec, .agg #[I64 (kd), I64 (wd), I64 (mo)], .slice aa als.length ac] I (fun r J => ∃ a c, r = .tuple #[.slice a (ringsV nd kd wd mo es als).length c, I64 0] ∧ J = vc 44 (.slice a (ringsV nd kd wd mo es als).length c) (ringsV nd kd wd mo es als) :: I) := by
 refine B8 hl.le fun hmax => ?_
 refine Ce4 Tryz.func23 rfl rfl ?_
 refine Ah (Ge1 (Bd (cs := [_, _, _]) rfl rfl rfl) fun b1 => Ga rfl (Ga rfl (Af (As (Ah (Gl3 ty31 ?_))))))
 refine G.e (Al call78 rfl rfl (CheckW_ok kd wd mo)) ?_
 rintro _ _ ⟨_, _, ⟨rfl, rfl⟩, rfl, rfl⟩
 refine Ga rfl (Af (Ah (Gm rfl (Gr (Bv rfl rfl) (Af (A7 rfl (fun c27 => ?_) (fun c27 => ?_)))))))
 ·exact absurd hH.win c27
 ·refine A2 (Ak (As (Ah (Gm rfl (Gm rfl (Gc0 (Al call79 rfl rfl (HCheck_ok (nd := nd) (Bh hl))) ?_))))))
  refine Ga rfl (Af (Aq (S5 11 6 0 1 3 rfl rfl rfl rfl rfl) (Ah (Gm rfl (Gr (Bv rfl rfl) (Af (A7 rfl (fun c33 => ?_) (fun c33 => ?_))))))))
  ·exact absurd (streamE_zeroH hH) c33
  ·refine A2 (Ak (As (Ah (Gm rfl (Gr (Bl Cn rfl) (Gr (B0 rfl rfl) (Af (A7 rfl (fun c37 => ?_) (fun c37 => ?_)))))))))
   ·omega
   ·refine A2 (Ak (As (Ah (Gm rfl (Gr (Bl Cn rfl) (Gm rfl (Af (A0 (Bu (σ := Nat) (fun s => ([(0, I64 (nd)), (1, .slice ea es.length ec), (3, .slice aa als.length ac), (6, .pointer (some ⟨b1, 0, none⟩)), (38, .slice aa als.length ac), (39, I64 (((als.length : Nat) : Int))), (40, I64 (((s : Nat) : Int)))] : Env)) (fun s => blk b1 [I64 (kd), I64 (wd), I64 (mo)] 31 :: I) (fun s => (s ≤ als.length)) (fun s => als.length - s) (0) (show ((0 : Nat) ≤ als.length) from om) (Aa rfl (Aa rfl (Aa rfl (Aa rfl (Aa rfl (Aa rfl (Aa Cf Bg))))))) (show Fit κ _ (blk b1 [I64 (kd), I64 (wd), I64 (mo)] 31 :: I) from Az) ?_)))))))))
    rintro k hp
    have hk := hp
    refine Ah (Gr (Ba rfl rfl) (Af (As (A7 rfl (fun c41 => ?_) (fun c41 => ?_)))))
    ·refine A2 (Ak (As (A0 (Ah (Gr (Ax (α := AlV) (xs := als) Cn ty42 rfl rfl (Bh ha) om olr) (Gr (Bp (α := AlV) (xs := als) ty42 rfl (Bh ha) om olr) (Ge1 (A8 ty42 rfl) fun b2 => Ge0 (Dh ty42) ?_)))))))
     refine Af (Ah (Gl6 ty42 ?_))
     refine Gm rfl (G.e (Al call37 rfl rfl (CheckAny_ok (x := (at_ als (k : Int))) (Bx (hsl _ (Ch om om)) A1) (hok _ (Ch om om)))) ?_)
     rintro _ _ ⟨_, _, ⟨rfl, rfl⟩, rfl, rfl⟩
     refine Ga rfl (Af (Aq (S8 14 0 1 3 6 38 39 40 rfl rfl rfl rfl rfl rfl rfl rfl) (Ah (Gm rfl (Gr (Bv rfl rfl) (Af (A7 rfl (fun c48 => ?_) (fun c48 => ?_))))))))
     ·exact absurd rfl c48
     ·exact A2 (Ai (Ak (Av (Gr (Rad rfl rfl) (Gm rfl (Bf (B1 ((k + 1)) om)))))))
    ·refine Br (Am (Am (A6 (Ak (Ah (Ga rfl (Af (Ah (Gm rfl (Gr (Bl Cn rfl) (Ge2 (Cl (α := Bool) (n := als.length) B6 ty4 rfl rfl rfl om om dc rfl) fun ad3 cp4 => ?_)))))))))))
     refine Ga rfl (Af (As (Ah (Gm rfl (Gm rfl (Gl3 ty31 ?_))))))
     refine G.e (Al call80 rfl rfl (Times_ok (nd := nd) (kd := kd) (wd := wd) (mo := mo) (Bh hl) hH hlen)) ?_
     rintro _ _ ⟨_, _, ⟨ad5, cp6, rfl, rfl⟩, rfl, rfl⟩
     refine Gr (Bl Ac rfl) (Gm rfl (Af (Aq (S9 59 58 57 16 15 0 1 3 6 rfl rfl rfl rfl rfl rfl rfl rfl rfl) (A0 (Bu (σ := Nat × (Option Addr) × Nat × (List Bool) × (List Rg)) (fun s => ([(0, I64 (nd)), (1, .slice ea es.length ec), (3, .slice aa als.length ac), (6, .pointer (some ⟨b1, 0, none⟩)), (15, .slice s.2.1 s.2.2.2.2.length s.2.2.1), (16, .slice ad3 (List.replicate als.length (default : Bool)).length cp4), (57, .slice ad5 (timesZ kd wd mo es).length cp6), (58, I64 ((((timesZ kd wd mo es).length : Nat) : Int))), (59, I64 (((s.1 : Nat) : Int)))] : Env)) (fun s => vc 44 (.slice s.2.1 s.2.2.2.2.length s.2.2.1) (s.2.2.2.2) :: vc 3 (.slice ad5 (timesZ kd wd mo es).length cp6) (timesZ kd wd mo es) :: vc 4 (.slice ad3 (List.replicate als.length (default : Bool)).length cp4) (s.2.2.2.1) :: blk b1 [I64 (kd), I64 (wd), I64 (mo)] 31 :: I) (fun s => (s.1 ≤ (timesZ kd wd mo es).length) ∧ ((s.2.2.2.1, s.2.2.2.2) = ringS (alH nd kd wd mo es als) als.length (List.take s.1 (timesZ kd wd mo es)))) (fun s => (timesZ kd wd mo es).length - s.1) (0, none, 0, List.replicate als.length false, []) (show ((0 : Nat) ≤ (timesZ kd wd mo es).length) ∧ (((List.replicate als.length false : List Bool), ([] : List Rg)) = ringS (alH nd kd wd mo es als) als.length (List.take (0 : Nat) (timesZ kd wd mo es))) from ⟨om, rfl⟩) (Aa rfl (Aa rfl (Aa rfl (Aa rfl (Aa (Cv rfl (by first | rfl | simp)) (Aa rfl (Aa rfl (Aa rfl (Aa Cf Bg))))))))) (show Fit κ _ (vc 44 (.slice (none) ([]).length (0)) (([])) :: vc 3 (.slice ad5 (timesZ kd wd mo es).length cp6) (timesZ kd wd mo es) :: vc 4 (.slice ad3 (List.replicate als.length (default : Bool)).length cp4) ((List.replicate als.length false)) :: blk b1 [I64 (kd), I64 (wd), I64 (mo)] 31 :: I) from (Cj (Bt (α := Rg) _ _) B4)) ?_)))))
     rintro ⟨k, a, c, on, out⟩ hp
     dsimp only at hp ⊢
     obtain ⟨hk, hst⟩ := hp
     have hTl := timesL_len hH hlen
     have hrl := ringS_len (alH nd kd wd mo es als) als.length (timesZ kd wd mo es) k om
     rw [← hst] at hrl
     have honl : on.length = als.length := hrl.1
     have houl : out.length ≤ als.length * k := hrl.2
     have hml : als.length * k ≤ 16 * 58 := Nat.mul_le_mul hal om
     refine Ah (Gr (Ba rfl rfl) (Af (As (A7 rfl (fun c60 => ?_) (fun c60 => ?_)))))
     ·refine A2 (Ak (As (A0 (Ah (Gr (Ax (α := Int) (xs := timesZ kd wd mo es) Ac ty3 rfl rfl Be om olr) (Gr (Bs (xs := timesZ kd wd mo es) ty3 rfl Be om olr) (Ga rfl (Af (Ah (Gm rfl (Gm rfl (Gl3 ty31 ?_))))))))))))
      refine Gm rfl (G.e (Al call44 rfl rfl (At_ok (nd := nd) (kd := kd) (wd := wd) (mo := mo) (tq := at_ (timesZ kd wd mo es) (k : Int)) (Bh hl) hH hlen (timesZ_rng hH _ (Ch om om)))) ?_)
      rintro _ _ ⟨_, _, ⟨ad7, cp8, rfl, rfl⟩, rfl, rfl⟩
      refine Gm rfl (Gr (A4 rfl rfl) (Gr (A4 rfl rfl) (Ge1 (A8 ty48 rfl) fun b9 => Ge0 (Cr ty48) ?_)))
      refine Ga rfl (Af (Aq (S12 20 19 18 0 1 3 6 15 16 57 58 59 rfl rfl rfl rfl rfl rfl rfl rfl rfl rfl rfl rfl) (As (Ah (Gm rfl (Gr (Bv rfl rfl) (Af (Aq (S13 72 20 19 18 0 1 3 6 15 16 57 58 59 rfl rfl rfl rfl rfl rfl rfl rfl rfl rfl rfl rfl rfl) (A7 rfl (fun c72 => ?_) (fun c72 => ?_))))))))))
      ·exact absurd rfl c72
      ·refine A2 (Ak (Ah (Gm rfl (Gr (Bl Cn rfl) (Gm rfl (Af (Aq (S14 76 75 74 19 18 0 1 3 6 15 16 57 58 59 rfl rfl rfl rfl rfl rfl rfl rfl rfl rfl rfl rfl rfl rfl) (A0 (Bu (σ := Nat × (Option Addr) × Nat × (List Bool) × (List Rg)) (fun s => ([(0, I64 (nd)), (1, .slice ea es.length ec), (3, .slice aa als.length ac), (6, .pointer (some ⟨b1, 0, none⟩)), (15, .slice s.2.1 s.2.2.2.2.length s.2.2.1), (16, .slice ad3 (List.replicate als.length (default : Bool)).length cp4), (18, I64 (at_ (timesZ kd wd mo es) (k : Int))), (19, .pointer (some ⟨b9, 0, none⟩)), (57, .slice ad5 (timesZ kd wd mo es).length cp6), (58, I64 ((((timesZ kd wd mo es).length : Nat) : Int))), (59, I64 ((k : Int))), (74, .slice aa als.length ac), (75, I64 (((als.length : Nat) : Int))), (76, I64 (((s.1 : Nat) : Int)))] : Env)) (fun s => vc 44 (.slice s.2.1 s.2.2.2.2.length s.2.2.1) (s.2.2.2.2) :: blk b9 [I64 (nd), .slice ad7 (atG kd wd mo es (at_ (timesZ kd wd mo es) (k : Int))).length cp8] 48 :: vc 135 (.slice ad7 (atG kd wd mo es (at_ (timesZ kd wd mo es) (k : Int))).length cp8) (atG kd wd mo es (at_ (timesZ kd wd mo es) (k : Int))) :: vc 3 (.slice ad5 (timesZ kd wd mo es).length cp6) (timesZ kd wd mo es) :: vc 4 (.slice ad3 (List.replicate als.length (default : Bool)).length cp4) (s.2.2.2.1) :: blk b1 [I64 (kd), I64 (wd), I64 (mo)] 31 :: I) (fun s => (s.1 ≤ als.length) ∧ ((s.2.2.2.1, s.2.2.2.2) = ringK (at_ (timesZ kd wd mo es) (k : Int)) ((alH nd kd wd mo es als) (at_ (timesZ kd wd mo es) (k : Int))) s.1 (on, out))) (fun s => als.length - s.1) (0, a, c, on, out) (show ((0 : Nat) ≤ als.length) ∧ (((on : List Bool), (out : List Rg)) = ringK (at_ (timesZ kd wd mo es) (k : Int)) ((alH nd kd wd mo es als) (at_ (timesZ kd wd mo es) (k : Int))) (0 : Nat) (on, out)) from ⟨om, rfl⟩) (Aa rfl (Aa rfl (Aa rfl (Aa rfl (Aa (Cv rfl (by first | rfl | simp)) (Aa rfl (Aa rfl (Aa rfl (Aa rfl (Aa rfl (Aa rfl (Aa rfl (Aa rfl (Aa Cf Bg)))))))))))))) (show Fit κ _ (vc 44 (.slice (a) (out).length (c)) ((out)) :: blk b9 [I64 (nd), .slice ad7 (atG kd wd mo es (at_ (timesZ kd wd mo es) (k : Int))).length cp8] 48 :: vc 135 (.slice ad7 (atG kd wd mo es (at_ (timesZ kd wd mo es) (k : Int))).length cp8) (atG kd wd mo es (at_ (timesZ kd wd mo es) (k : Int))) :: vc 3 (.slice ad5 (timesZ kd wd mo es).length cp6) (timesZ kd wd mo es) :: vc 4 (.slice ad3 (List.replicate als.length (default : Bool)).length cp4) ((on)) :: blk b1 [I64 (kd), I64 (wd), I64 (mo)] 31 :: I) from B4) ?_)))))))))
       rintro ⟨k2, a2, c2, on2, out2⟩ hp
       dsimp only at hp ⊢
       obtain ⟨hk2, hst2⟩ := hp
       have hrk := ringK_len (at_ (timesZ kd wd mo es) (k : Int)) ((alH nd kd wd mo es als) (at_ (timesZ kd wd mo es) (k : Int))) k2 (on, out)
       rw [← hst2] at hrk
       have hon2 : on2.length = als.length := hrk.1.trans honl
       have hou2 : out2.length ≤ out.length + k2 := hrk.2
       refine Ah (Gr (Ba rfl rfl) (Af (Aq (S15 77 0 1 3 6 15 16 18 19 57 58 59 74 75 76 rfl rfl rfl rfl rfl rfl rfl rfl rfl rfl rfl rfl rfl rfl rfl) (As (A7 rfl (fun c77 => ?_) (fun c77 => ?_))))))
       ·refine A2 (Ak (Aq (S14 0 1 3 6 15 16 18 19 57 58 59 74 75 76 rfl rfl rfl rfl rfl rfl rfl rfl rfl rfl rfl rfl rfl rfl) (As (A0 (Ah (Gm rfl (Gr (Ax (α := AlV) (xs := als) Cn ty42 rfl rfl (Bh ha) om olr) (Gr (Bp (α := AlV) (xs := als) ty42 rfl (Bh ha) om olr) ?_))))))))
        have hak := hok (at_ als (k2 : Int)) (Ch om om)
        refine Ge1 (A8 ty42 rfl) fun b10 => Ga rfl (Ge0 (Dh ty42) ?_)
        refine Af (Aq (S16 21 22 0 1 3 6 15 16 18 19 57 58 59 74 75 76 rfl rfl rfl rfl rfl rfl rfl rfl rfl rfl rfl rfl rfl rfl rfl rfl) (As (Bj mixed (Bm (blk b10 [I64 ((at_ als (k2 : Int)).kd), I64 ((at_ als (k2 : Int)).no), I64 ((at_ als (k2 : Int)).lv), .slice (at_ als (k2 : Int)).a (at_ als (k2 : Int)).xs.length (at_ als (k2 : Int)).c, I64 ((at_ als (k2 : Int)).num), I64 ((at_ als (k2 : Int)).den)] 42 :: vc 44 (.slice a2 out2.length c2) (out2) :: blk b9 [I64 (nd), .slice ad7 (atG kd wd mo es (at_ (timesZ kd wd mo es) (k : Int))).length cp8] 48 :: vc 135 (.slice ad7 (atG kd wd mo es (at_ (timesZ kd wd mo es) (k : Int))).length cp8) (atG kd wd mo es (at_ (timesZ kd wd mo es) (k : Int))) :: vc 3 (.slice ad5 (timesZ kd wd mo es).length cp6) (timesZ kd wd mo es) :: vc 4 (.slice ad3 (List.replicate als.length (default : Bool)).length cp4) (on2) :: blk b1 [I64 (kd), I64 (wd), I64 (mo)] 31 :: I) 8 (Dr 0 rfl (Ab fld42_0 rfl) (Dr 1 rfl (Au ty3) ?_))))))
        refine Dr 4 rfl (Bq (vs := [_, _]) ty48) ?_
        refine Dr 5 rfl (Bq (vs := [_, _, _, _, _, _]) ty42) ?_
        refine Ds1 2 (Se rfl (Al call81 rfl rfl (OfAny_ok hak.kind)) ?_)
        rintro _ _ ⟨_, _, ⟨rfl, rfl⟩, rfl, rfl⟩
        refine ⟨Az, ?_⟩
        refine Dr 3 rfl (Runs.fieldV (fun w => fieldK _ _ _ _ _ w) rfl) ?_
        refine Ds1 6 (Se rfl (Cu (fK_call hak.kind) (first := []) (caps := []) rfl rfl rfl (HoldAny_ok (x := (at_ als (k2 : Int))) Be (Bx (hsl _ (Ch om om)) A1) (hH.graph (at_ (timesZ kd wd mo es) (k : Int))) hak (Cb hT A1))) ?_)
        rintro _ _ ⟨_, _, ⟨rfl, rfl⟩, rfl, rfl⟩
        refine ⟨Az, ?_⟩
        refine Dr 7 rfl (A9 rfl) (Dz (Ak (Aq (S16 23 21 0 1 3 6 15 16 18 19 57 58 59 74 75 76 rfl rfl rfl rfl rfl rfl rfl rfl rfl rfl rfl rfl rfl rfl rfl rfl) (Ah (Gm rfl (Gm rfl (Gm rfl (Gr (Ax (α := Bool) (xs := on2) B6 ty4 rfl rfl Be om olr) (Gr (Eq (xs := on2) ty4 rfl Be om olr) (Gr (Runs.neqb D7 rfl rfl) (Af (Aq (S17 93 23 21 0 1 3 6 15 16 18 19 57 58 59 74 75 76 rfl rfl rfl rfl rfl rfl rfl rfl rfl rfl rfl rfl rfl rfl rfl rfl rfl) (A7 rfl (fun c93 => ?_) (fun c93 => ?_))))))))))))))
        ·refine Ah (Gm rfl (Gm rfl (Gm rfl (Gr (Ax (α := Bool) (xs := on2) B6 ty4 rfl rfl Be om olr) (Ge0 (Ct (α := Bool) (xs := on2) (e := 4) (new := (holdV nd (atG kd wd mo es (at_ (timesZ kd wd mo es) (k : Int))) (at_ als (k2 : Int)))) ty4 rfl rfl rfl om olr am) ?_)))))
         refine Af (Aq (S16 23 21 0 1 3 6 15 16 18 19 57 58 59 74 75 76 rfl rfl rfl rfl rfl rfl rfl rfl rfl rfl rfl rfl rfl rfl rfl rfl) (Av (Gm rfl (Gm rfl (Gm rfl (Gm rfl (Gr (Bb (cells := [_, _, _]) ty44 D5 pl44 rfl rfl) (Ge1 (B3 (α := Rg) (cs := [_, _, _]) (xs := [⟨at_ (timesZ kd wd mo es) (k : Int), (k2 : Int), (holdV nd (atG kd wd mo es (at_ (timesZ kd wd mo es) (k : Int))) (at_ als (k2 : Int)))⟩]) Bw ty44 rfl rfl dc dc rfl rfl rfl rfl) fun ad11 => ?_))))))))
         refine Ge2 (Ci (α := Rg) (e := 44) (xs := out2) (ys := ([⟨at_ (timesZ kd wd mo es) (k : Int), (k2 : Int), (holdV nd (atG kd wd mo es (at_ (timesZ kd wd mo es) (k : Int))) (at_ als (k2 : Int)))⟩] : List Rg)) Bw ty44 rfl rfl rfl mm Be lcn dc rfl (fun _ _ => am)) fun ad12 cp13 => ?_
         exact Ga rfl (Bf (Ai (Ak (Aq (S14 15 0 1 3 6 16 18 19 57 58 59 74 75 76 rfl rfl rfl rfl rfl rfl rfl rfl rfl rfl rfl rfl rfl rfl) (Av (Gr (Rad rfl rfl) (Gm rfl (Bf (B1 ((k2 + 1), (ad12), (cp13), (List.set on2 ((k2 : Int)).toNat ((holdV nd (atG kd wd mo es (at_ (timesZ kd wd mo es) (k : Int))) (at_ als (k2 : Int))))), (out2 ++ ([⟨at_ (timesZ kd wd mo es) (k : Int), (k2 : Int), (holdV nd (atG kd wd mo es (at_ (timesZ kd wd mo es) (k : Int))) (at_ als (k2 : Int)))⟩] : List Rg))) (by dsimp only; exact ⟨om, (by first | exact ring_yes hst2 c93 | exact ring_no hst2 c93)⟩))))))))))
        ·exact A2 (Ai (Ak (Aq (S14 0 1 3 6 15 16 18 19 57 58 59 74 75 76 rfl rfl rfl rfl rfl rfl rfl rfl rfl rfl rfl rfl rfl rfl) (Av (Gr (Rad rfl rfl) (Gm rfl (Bf (B1 ((k2 + 1), (a2), (c2), (on2), (out2)) (by dsimp only; exact ⟨om, (by first | exact ring_yes hst2 c93 | exact ring_no hst2 c93)⟩)))))))))
       ·exact Br (Am (Am (A6 (Ai (Ak (Aq (S9 0 1 3 6 15 16 57 58 59 rfl rfl rfl rfl rfl rfl rfl rfl rfl) (Av (Gr (Rad rfl rfl) (Gm rfl (Bf (B1 ((k + 1), (a2), (c2), (on2), (out2)) (by dsimp only; exact ⟨om, (by rw [hst2, ringS_take om, ← hst, show k2 = als.length by omega])⟩))))))))))))
     ·refine Br (Am (Am (A6 (Ak (Ah (Gm rfl (Ga rfl (Ga rfl (Af (Ay ?_))))))))))
      have hE : out = (ringsV nd kd wd mo es als) := by have h := congrArg Prod.snd hst; rw [List.take_of_length_le om] at h; exact h
      exact Cy rfl rfl rfl (vc 44 (.slice a (ringsV nd kd wd mo es als).length c) (ringsV nd kd wd mo es als) :: I) (by rw [← hE]; exact B4) ⟨a, c, by rw [← hE], rfl⟩
end Go.Sl
namespace Go.Sl
def valM : Int ⊕ Bool → Value
 | .inl n => I64 n
 | .inr b => .bool b
def kndM : Int ⊕ Bool → Bool
 | .inl _ => true
 | .inr _ => false
section
variable {P : Program}
def flatM (P : Program) : List Field → List Bool → Nat → Bool
 | [], _, _ => true
 | f :: fs, [], _ => false
 | f :: fs, k :: ks, o => (f.name != "_") && (match P.underlying f.type with | some (.int .i64) => k | some .bool => !k | _ => false) && (f.offset == o) && flatM P fs ks (o + 1)
theorem run_eqMix (d : Nat) (w : World) (ns ms : List (Int ⊕ Bool)) : ∀ (fs : List Field) (ks : List Bool) (o : Nat), flatM P fs ks o = true → ns.length = o + fs.length → ms.length = o + fs.length → (ns.drop o).map kndM = ks → (ms.drop o).map kndM = ks →
  (Op.eqFields (d + 1) (ns.map valM).toArray (ms.map valM).toArray fs).run P w = .ok (decide (ns.drop o = ms.drop o)) w
 | [], ks, o, _, hn, hm, _, _ => by
  have h1 : ns.drop o = [] := List.drop_eq_nil_of_le (by simp at hn; omega)
  have h2 : ms.drop o = [] := List.drop_eq_nil_of_le (by simp at hm; omega)
  simp [Op.eqFields, h1, h2]
 | f :: fs, [], o, h, _, _, _, _ => by simp [flatM] at h
 | f :: fs, k :: ks, o, h, hn, hm, kn, km => by
  simp only [flatM, Bool.and_eq_true, bne_iff_ne, beq_iff_eq] at h
  obtain ⟨⟨⟨h1, h2⟩, h3⟩, h4⟩ := h
  simp only [List.length_cons] at hn hm
  have hno : o < ns.length := by omega
  have hmo : o < ms.length := by omega
  rw [List.drop_eq_getElem_cons hno, List.map_cons, List.cons.injEq] at kn
  rw [List.drop_eq_getElem_cons hmo, List.map_cons, List.cons.injEq] at km
  have ih := run_eqMix d w ns ms fs ks (o + 1) h4 (by omega) (by omega) kn.2 km.2
  have key : (ns.drop o = ms.drop o) ↔ (ns[o] = ms[o] ∧ ns.drop (o + 1) = ms.drop (o + 1)) := by rw [List.drop_eq_getElem_cons hno, List.drop_eq_getElem_cons hmo, List.cons.injEq]
  have key2 : decide (ns.drop o = ms.drop o) = decide (ns[o] = ms[o] ∧ ns.drop (o + 1) = ms.drop (o + 1)) := decide_eq_decide.2 key
  rw [key2]
  have ha : (isAgg f.type).run P w = .ok false w := by
   revert h2; split <;> intro h2
   ·rename_i hu; simp [isAgg, run_underlying hu]
   ·rename_i hu; simp [isAgg, run_underlying hu]
   ·cases h2
  have hp : ∀ (xs : List (Int ⊕ Bool)) (hk : o < xs.length), (part f.type (xs.map valM).toArray f.offset).run P w = .ok (valM xs[o]) w := fun xs hk => by
   have hcell : (valM xs[o]).cells = #[valM xs[o]] ∨ True := .inr trivial
   simp [part, ha, h3, hk]
  have he : (Op.equalIn (d + 1) f.type (valM ns[o]) (valM ms[o])).run P w = .ok (decide (ns[o] = ms[o])) w := by
   have kn1 := kn.1
   have km1 := km.1
   generalize ns[o] = n at kn1
   generalize ms[o] = m at km1
   revert h2; split <;> intro h2
   ·rename_i hu
    subst h2
    cases n with
    | inl a => cases m with
     | inl b => show (Op.equalIn (d + 1) f.type (I64 a) (I64 b)).run P w = _; rw [run_equalIn_int _ _ _ _ _ _ _ hu]; congr 1; by_cases e : a = b <;> simp [e]
     | inr b => cases km1
    | inr a => cases kn1
   ·rename_i hu
    have hk : k = false := by simpa using h2
    subst hk
    cases n with
    | inr a => cases m with
     | inr b => show (Op.equalIn (d + 1) f.type (.bool a) (.bool b)).run P w = _; rw [run_equalIn_bool' w d f.type a b hu]; cases a <;> cases b <;> rfl
     | inl b => cases km1
    | inl a => cases kn1
   ·cases h2
  simp only [Op.eqFields, if_pos h1, Sem.run_bind, hp ns hno, hp ms hmo, Result.andThen_ok, he]
  by_cases hd : ns[o] = ms[o]
  ·simp [hd, ih]
  ·simp [hd]
theorem EqT.mix {α : Type} [Enc α] [DecidableEq α] {T n : Nat} (vs : α → List (Int ⊕ Bool)) (ks : List Bool) (henc : ∀ x, Enc.enc x = (vs x).map valM) (hinj : ∀ x y, vs x = vs y → x = y) (hlen : ∀ x, (vs x).length = n) (hk : ∀ x, (vs x).map kndM = ks)
  (ht : P.underlying T = some (.struct (P.fieldsOf T))) (hp : P.stoodInHeld T = false) (hf : flatM P (P.fieldsOf T).toList ks 0 = true) (hn : (P.fieldsOf T).size = n) (hg : P.eqGuardType P.depth T = false) : EqT P T α := by
 refine ⟨fun x y w => ?_, hg⟩
 rw [show (10000 : Nat) = 9999 + 1 from rfl, run_equalIn_struct w 9999 T _ _ ht hp, henc, henc, show (9999 : Nat) = 9998 + 1 from rfl,
  run_eqMix 9998 w (vs x) (vs y) _ ks 0 hf (by rw [hlen, Array.length_toList, hn]; omega) (by rw [hlen, Array.length_toList, hn]; omega) (by rw [List.drop_zero]; exact hk x) (by rw [List.drop_zero]; exact hk y)]
 congr 1
 rw [List.drop_zero, List.drop_zero, decide_eq_decide]
 exact ⟨hinj x y, fun e => by rw [e]⟩
end
end Go.Sl
namespace Go.Sl
open Go.Proofs
set_option maxRecDepth 4000
variable {κ : Ctx} {I : List Item}
theorem eqt44 : EqT Tryz.prog 44 Rg := EqT.mix (fun p : Rg => [.inl p.tm, .inl p.al, .inr p.on]) [true, true, false] (fun _ => rfl) (fun x y h => by cases x; cases y; simpa using h) (n := 3) (fun _ => rfl) (fun _ => rfl) kr kr kr kr kr
theorem list_eqR {xs ys : List Rg} (hl : xs.length = ys.length) (h : ∀ j : Nat, j < xs.length → at_ xs (j : Int) = at_ ys (j : Int)) : xs = ys := by
 refine List.ext_getElem hl fun i h1 h2 => ?_
 have := h i h1
 rwa [Ds xs i h1, Ds ys i h2] at this
theorem Same44_ok {va vb : Value} {xs ys : List Rg} (hl : Sl κ I va xs) (hm : Sl κ I vb ys) :
    CallS Tryz.prog κ 24 [va, vb] I (fun r J => r = .bool (decide (xs = ys)) ∧ I = J) := by
 refine B8 hl.le fun hmax => ?_
 refine B8 hm.le fun hmax2 => ?_
 refine Ce2 Tryz.func24 rfl rfl ?_
 refine Ah (Ga rfl (Af (As (Ah (Gm rfl (Gr (Bz (α := Rg) (xs := xs) Bw rfl (Bh hl)) (Gm rfl (Gr (Bz (α := Rg) (xs := ys) Bw rfl (Bh hm)) (Gr (Bv rfl rfl) (Af (A7 rfl (fun c10 => ?_) (fun c10 => ?_))))))))))))
 ·refine Ah (Ga rfl (Af (Ay (Aj ?_))))
  have hne : xs ≠ ys := fun e => by subst e; omega
  exact A3 rfl rfl (I) A1 ⟨by rw [decide_eq_false hne], rfl⟩
 ·refine A2 (Ak (As (Ah (Ga rfl (Af (A0 (Bu (σ := Nat) (fun s => ([(0, va), (1, vb), (5, I64 (((s : Nat) : Int)))] : Env)) (fun s => I) (fun s => (s ≤ xs.length) ∧ (∀ j : Nat, j < s → at_ xs (j : Int) = at_ ys (j : Int))) (fun s => xs.length - s) (0) (show ((0 : Nat) ≤ xs.length) ∧ (∀ j : Nat, j < (0 : Nat) → at_ xs (j : Int) = at_ ys (j : Int)) from ⟨om, (fun j h => by omega)⟩) (Aa rfl (Aa rfl (Aa Cf Bg))) (show Fit κ _ (I) from Az) ?_)))))))
  rintro k hp
  obtain ⟨hk, hn⟩ := hp
  refine As (Ah (Gm rfl (Gm rfl (Gr (Bz (α := Rg) (xs := xs) Bw rfl (Bh hl)) (Gr (Ba rfl rfl) (Af (A7 rfl (fun c14 => ?_) (fun c14 => ?_))))))))
  ·refine A2 (Ak (As (A0 (As (Bj mixed (Bm (I) 9 (Dr 0 rfl (Ad rfl) (Dr 1 rfl (Ad rfl) (Dr 2 rfl (Ax (α := Rg) (xs := xs) Bw ty44 rfl rfl (Bh hl) om om) (Dr 3 rfl (Bp (α := Rg) (xs := xs) ty44 rfl (Bh hl) om om) (Dr 4 rfl (Ad rfl) (Dr 5 rfl (Ad rfl) (Dr 6 rfl (Ax (α := Rg) (xs := ys) Bw ty44 rfl rfl (Bh hm) om om) (Dr 7 rfl (Bp (α := Rg) (xs := ys) ty44 rfl (Bh hm) om om) (Dr 8 rfl (Runs.neqT (α := Rg) (a := (⟨(at_ xs (k : Int)).tm, (at_ xs (k : Int)).al, (at_ xs (k : Int)).on⟩ : Rg)) (b := (⟨(at_ ys (k : Int)).tm, (at_ ys (k : Int)).al, (at_ ys (k : Int)).on⟩ : Rg)) eqt44 rfl rfl) (Dz (Ak (Aq (S4 25 0 1 5 rfl rfl rfl rfl) (A7 rfl (fun c25 => ?_) (fun c25 => ?_))))))))))))))))))))
   ·refine Ah (Ga rfl (Af (Ay (Ap (Aj (Aj (Ap (Aj ?_))))))))
    have hne : xs ≠ ys := fun e => by subst e; exact c25 rfl
    exact A3 rfl rfl (I) A1 ⟨by rw [decide_eq_false hne], rfl⟩
   ·exact A2 (Ai (Ak (Av (Gm rfl (Gr (Rad rfl rfl) (Ga rfl (Bf (B1 ((k + 1)) ⟨om, (fun j h => by by_cases e : j = k; (· subst e; exact Classical.not_not.1 c25); (· exact hn j om))⟩))))))))
  ·refine Br (Am (Am (A6 (Ak (Ah (Ga rfl (Af (Ay ?_))))))))
   have he : xs = ys := list_eqR om (fun j hj => hn j om)
   exact A3 rfl rfl (I) A1 ⟨by rw [decide_eq_true he], rfl⟩
theorem MkWindowV_base {b : Nat} {lv : Value} {ls : List Int} {i : Int}  (hl : ∀ q, Sl κ (deck b lv q :: I) lv ls) (h0 : 0 ≤ i)   :
    CallS Tryz.prog κ 21 [.pointer (some ⟨b, 0, none⟩)] (blk b [lv, I64 (i)] 125 :: I) (fun r J => ∃ y : Int × Int × Int × Int, ((r = .agg #[I64 y.1, I64 y.2.1, I64 y.2.2.1] ∧ checkW y.1 y.2.1 y.2.2.1 = 0) ∧ 0 ≤ y.2.2.2) ∧ J = [] ++ deck b lv y.2.2.2 :: I) := by
 refine Ce1 Tryz.func21 rfl rfl ?_
 refine Ah (Ge1 (A8 ty31 rfl) fun b1 => Af (As (Ah (Gm rfl (G.e (Al call19 rfl rfl (Next_ok (by repeat (first | exact AtF.head _ _ | apply AtF.tail)) (Bx (hl _) A1) om om)) ?_)))))
 rintro _ _ ⟨_, _, ⟨x2, i3, rfl, hx2, hi3, rfl⟩, rfl, rfl⟩
 show G Tryz.prog κ _ _ _ _ ([(4, I64 (x2)), (3, .pointer (some ⟨b, 0, none⟩)), (2, .pointer (some ⟨b1, 0, none⟩)), (0, .pointer (some ⟨b, 0, none⟩))] : Env) (blk b1 [I64 (0), I64 (0), I64 (0)] 31 :: blk b [lv, I64 (i3)] 125 :: I)
 refine Af (A0 (Ah (Gr (Bi rfl rfl) (Ga rfl (Af (A7 rfl (fun c5 => ?_) (fun c5 => ?_)))))))
 ·refine Ah (Gm rfl (G.e (Al call19 rfl rfl (Next_ok (by repeat (first | exact AtF.head _ _ | apply AtF.tail)) (Bx (hl _) A1) om om)) ?_))
  rintro _ _ ⟨_, _, ⟨x4, i5, rfl, hx4, hi5, rfl⟩, rfl, rfl⟩
  show G Tryz.prog κ _ _ _ _ ([(8, I64 (x4)), (7, .pointer (some ⟨b, 0, none⟩)), (5, .bool (decide (x2 = 1))), (6, .bool (decide (x2 = 1))), (4, I64 (x2)), (3, .pointer (some ⟨b, 0, none⟩)), (2, .pointer (some ⟨b1, 0, none⟩)), (0, .pointer (some ⟨b, 0, none⟩))] : Env) (blk b1 [I64 (0), I64 (0), I64 (0)] 31 :: blk b [lv, I64 (i5)] 125 :: I)
  refine Gr (Rad rfl rfl) (Gr (Bb (cells := [_, _, _]) ty31 Ei pl31 rfl rfl) (Ge0 (Es3_3 ty31) ?_))
  exact Af (Ay (Ap (Aj (Dg rfl ty31 rfl mm rfl (blk b [lv, I64 (i5)] 125 :: I) Az ⟨(2, 1 + x4, 0, i5), ⟨⟨rfl, by show checkW (2) (1 + x4) (0) = 0; unfold checkW; rw [if_neg om, if_neg om]⟩, by show 0 ≤ i5; omega⟩, rfl⟩))))
 ·refine Ah (Gr (Bi rfl rfl) (Ga rfl (Af (A7 rfl (fun c11 => ?_) (fun c11 => ?_)))))
  ·refine Ah (Gm rfl (G.e (Al call19 rfl rfl (Next_ok (by repeat (first | exact AtF.head _ _ | apply AtF.tail)) (Bx (hl _) A1) om om)) ?_))
   rintro _ _ ⟨_, _, ⟨x6, i7, rfl, hx6, hi7, rfl⟩, rfl, rfl⟩
   show G Tryz.prog κ _ _ _ _ ([(14, I64 (x6)), (13, .pointer (some ⟨b, 0, none⟩)), (11, .bool (decide (x2 = 2))), (12, .bool (decide (x2 = 2))), (5, .bool (decide (x2 = 1))), (6, .bool (decide (x2 = 1))), (4, I64 (x2)), (3, .pointer (some ⟨b, 0, none⟩)), (2, .pointer (some ⟨b1, 0, none⟩)), (0, .pointer (some ⟨b, 0, none⟩))] : Env) (blk b1 [I64 (0), I64 (0), I64 (0)] 31 :: blk b [lv, I64 (i7)] 125 :: I)
   refine Gr (Bb (cells := [_, _, _]) ty31 Ei pl31 rfl rfl) (Ge0 (Es3_3 ty31) ?_)
   exact Af (Ay (Ap (Aj (Dg rfl ty31 rfl mm rfl (blk b [lv, I64 (i7)] 125 :: I) Az ⟨(3, 0, x6, i7), ⟨⟨rfl, by show checkW (3) (0) (x6) = 0; unfold checkW; rw [if_neg om, if_neg om]⟩, by show 0 ≤ i7; omega⟩, rfl⟩))))
  ·refine A2 (Ai (Ak (Ah (Gr (Bb (cells := [_, _, _]) ty31 Ei pl31 rfl rfl) (Ge0 (Es3_3 ty31) ?_)))))
   exact Af (Ay (Dg rfl ty31 rfl mm rfl (blk b [lv, I64 (i3)] 125 :: I) Az ⟨(1, 0, 0, i3), ⟨⟨rfl, by show checkW (1) (0) (0) = 0; unfold checkW; rw [if_neg om, if_neg om]⟩, by show 0 ≤ i3; omega⟩, rfl⟩))
theorem MkWindowV_at {F : Item → List Item} {b : Nat} {lv : Value} {ls : List Int} {i : Int}  (hat : AtF I (deck b lv i) F) (hl : ∀ q, Sl κ (F (deck b lv q)) lv ls) (h0 : 0 ≤ i)   :
  CallS Tryz.prog κ 21 [.pointer (some ⟨b, 0, none⟩)] I fun r J => ∃ y : Int × Int × Int × Int, ((r = .agg #[I64 y.1, I64 y.2.1, I64 y.2.2.1] ∧ checkW y.1 y.2.1 y.2.2.1 = 0) ∧ 0 ≤ y.2.2.2) ∧ J = [] ++ F (deck b lv y.2.2.2) :=
 D1 (Post := fun r (y : Int × Int × Int × Int) => (r = .agg #[I64 y.1, I64 y.2.1, I64 y.2.2.1] ∧ checkW y.1 y.2.1 y.2.2.1 = 0) ∧ 0 ≤ y.2.2.2) (Z := fun y : Int × Int × Int × Int => []) (X := fun y : Int × Int × Int × Int => deck b lv y.2.2.2) hat fun J _ hF => MkWindowV_base (fun q => (hl q).fit (hF _)) h0  
def evA : Ev := ⟨1, 4, 0, 1, 1, 0, 1⟩
theorem ascZ_of {xs : List Int} (h : xs.Pairwise (· < ·)) : ascZ xs = xs := intLin.uniq (ascZ_asc xs) h fun _ => mem_ascZ
theorem slide_one : slideS 2 3 0 [evA] = ([lkOf evA], [evA]) := by
 show evStep 2 3 0 ([], []) evA = _
 unfold evStep agedL windL
 rw [if_pos rfl, ageL_stop (by simp)]
 decide
theorem all_one : allE 2 3 0 [evA] = [evA, cutAt 3 (lkOf evA)] := by
 unfold allE; rw [slide_one]; decide
theorem times_one : timesZ 2 3 0 [evA] = [0, 4, 7] := by
 unfold timesZ timesL
 rw [slide_one]
 exact ascZ_of dc
theorem ev_at0 : atG 2 3 0 [evA] 0 = [] := by unfold atG atK; rw [all_one]; decide
theorem ev_at4 : atG 2 3 0 [evA] 4 = [⟨0, 1⟩] := by unfold atG atK; rw [all_one]; decide
theorem ev_at7 : atG 2 3 0 [evA] 7 = [] := by unfold atG atK; rw [all_one]; decide
theorem core_e0 : coreN 2 [] = [0, 0] := by decide +kernel
theorem core_e1 : coreN 2 [⟨0, 1⟩] = [1, 1] := by decide +kernel
theorem hist_one : HistOk 2 2 3 0 [evA] := ⟨⟨by decide, by decide, fun j hj => by
 obtain rfl : j = 0 := by simp at hj; exact hj
 exact fitE_ok.1 dc, fun j hj => by
 obtain rfl : j = 0 := by simp at hj; exact hj
 decide⟩, by decide⟩
theorem cond1 {nd : Int} {es : List Pt} {x : AlV} (h : x.kd = 1) : condP nd es x ↔ x.lv ≤ at_ (coreN nd es) x.no := by unfold condP; rw [if_pos h]
theorem cond3 {nd : Int} {es : List Pt} {x : AlV} (h : x.kd = 3) : condP nd es x ↔ 0 ≤ cmpF (densG nd es x.xs) ⟨x.num, x.den⟩ := by unfold condP; rw [if_neg om, if_neg om, if_pos h]
theorem holdV_no {nd : Int} {es : List Pt} {x : AlV} (h : ¬ condP nd es x) : holdV nd es x = false := by
 rw [Bool.eq_false_iff]; exact fun h2 => h ((holdV_iff _ _ _).1 h2)
theorem dens0 {nd : Int} {es : List Pt} {x : AlV} (hG : GrOk nd es) (hk : x.kd = 3) (hn : x.num = 0) (hd : 0 ≤ x.den) : holdV nd es x = true := (holdV_iff _ _ _).2 ((cond3 hk).2 (by
 rw [cmpF_ge, hn]
 have h := densG_frv hG x.xs
 have := Int.mul_nonneg h.n0 hd
 show (0 : Int) * _ ≤ _
 rw [Int.zero_mul]; exact this))
theorem awake_rings (a0 : Option Addr) (c0 : Nat) : ringsV 2 2 3 0 [evA] [⟨3, 0, 0, a0, c0, [0, 1], 0, 1⟩, ⟨1, 0, 1, none, 0, [], 0, 0⟩] = [⟨0, 0, true⟩, ⟨4, 1, true⟩, ⟨7, 1, false⟩] := by
 have h0 : ∀ t, alH 2 2 3 0 [evA] [⟨3, 0, 0, a0, c0, [0, 1], 0, 1⟩, ⟨1, 0, 1, none, 0, [], 0, 0⟩] t 0 = true := fun t => dens0 (hist_one.graph t) rfl rfl (show (0 : Int) ≤ 1 by decide)
 have h1 : ∀ t, alH 2 2 3 0 [evA] [⟨3, 0, 0, a0, c0, [0, 1], 0, 1⟩, ⟨1, 0, 1, none, 0, [], 0, 0⟩] t 1 = holdV 2 (atG 2 3 0 [evA] t) ⟨1, 0, 1, none, 0, [], 0, 0⟩ := fun t => rfl
 have ha : holdV 2 (atG 2 3 0 [evA] 0) ⟨1, 0, 1, none, 0, [], 0, 0⟩ = false := holdV_no (by rw [cond1 rfl, ev_at0, core_e0]; decide)
 have hb : holdV 2 (atG 2 3 0 [evA] 4) ⟨1, 0, 1, none, 0, [], 0, 0⟩ = true := (holdV_iff _ _ _).2 (by rw [cond1 rfl, ev_at4, core_e1]; decide)
 have hc : holdV 2 (atG 2 3 0 [evA] 7) ⟨1, 0, 1, none, 0, [], 0, 0⟩ = false := holdV_no (by rw [cond1 rfl, ev_at7, core_e0]; decide)
 unfold ringsV
 rw [ringS_eq, times_one]
 simp only [relA, relR, List.length_cons, List.length_nil, Nat.zero_add, Nat.reduceAdd]
 have hr : List.range 2 = [0, 1] := rfl
 simp [hr, List.filter_cons, h0, h1, ha, hb, hc]
theorem al1 {n no lv : Int} (h1 : 0 ≤ no ∧ no < n) (h2 : 0 ≤ lv ∧ lv ≤ 64) (a : Option Addr) (c : Nat) : AlOk n ⟨1, no, lv, a, c, [], 0, 0⟩ where
 kind := by show 1 ≤ (1 : Int) ∧ (1 : Int) ≤ 5; decide
 k1 := fun _ => ⟨h1, h2, rfl, rfl, rfl⟩
 k2 := fun h => absurd h (by show ¬ (1 : Int) = 2; decide)
 k3 := fun h => absurd h (by show ¬ (1 : Int) = 3; decide)
 k4 := fun h => absurd h (by show ¬ (1 : Int) = 4; decide)
 k5 := fun h => absurd h (by show ¬ (1 : Int) = 5; decide)
theorem al2 {n num den : Int} (h : FrV ⟨num, den⟩) (a : Option Addr) (c : Nat) : AlOk n ⟨2, 0, 0, a, c, [], num, den⟩ where
 kind := by show 1 ≤ (2 : Int) ∧ (2 : Int) ≤ 5; decide
 k1 := fun h => absurd h (by show ¬ (2 : Int) = 1; decide)
 k2 := fun _ => ⟨rfl, rfl, rfl, h⟩
 k3 := fun h => absurd h (by show ¬ (2 : Int) = 3; decide)
 k4 := fun h => absurd h (by show ¬ (2 : Int) = 4; decide)
 k5 := fun h => absurd h (by show ¬ (2 : Int) = 5; decide)
theorem al3' {n num den : Int} {xs : List Int} (h1 : 0 < xs.length ∧ xs.length ≤ 64) (h2 : ValidP xs n) (h : FrV ⟨num, den⟩) (a : Option Addr) (c : Nat) : AlOk n ⟨3, 0, 0, a, c, xs, num, den⟩ where
 kind := by show 1 ≤ (3 : Int) ∧ (3 : Int) ≤ 5; decide
 k1 := fun h => absurd h (by show ¬ (3 : Int) = 1; decide)
 k2 := fun h => absurd h (by show ¬ (3 : Int) = 2; decide)
 k3 := fun _ => ⟨rfl, rfl, h1, h2, h⟩
 k4 := fun h => absurd h (by show ¬ (3 : Int) = 4; decide)
 k5 := fun h => absurd h (by show ¬ (3 : Int) = 5; decide)
theorem al3 (a0 : Option Addr) (c0 : Nat) : AlOk 2 ⟨3, 0, 0, a0, c0, [0, 1], 0, 1⟩ := al3' (n := 2) (num := 0) (den := 1) (xs := [0, 1]) dc dc ⟨by decide, by decide, by decide, by decide, by decide⟩ a0 c0
theorem al4 {n lv : Int} (h2 : 0 ≤ lv ∧ lv ≤ 64) (a : Option Addr) (c : Nat) : AlOk n ⟨4, 0, lv, a, c, [], 0, 0⟩ where
 kind := by show 1 ≤ (4 : Int) ∧ (4 : Int) ≤ 5; decide
 k1 := fun h => absurd h (by show ¬ (4 : Int) = 1; decide)
 k2 := fun h => absurd h (by show ¬ (4 : Int) = 2; decide)
 k3 := fun h => absurd h (by show ¬ (4 : Int) = 3; decide)
 k4 := fun _ => ⟨rfl, h2, rfl, rfl, rfl⟩
 k5 := fun h => absurd h (by show ¬ (4 : Int) = 5; decide)
theorem al5 {n lv : Int} {xs : List Int} (h1 : 0 < xs.length ∧ xs.length ≤ 64) (hv : ValidP xs n) (h2 : 0 ≤ lv ∧ lv ≤ 64) (a : Option Addr) (c : Nat) : AlOk n ⟨5, 0, lv, a, c, xs, 0, 0⟩ where
 kind := by show 1 ≤ (5 : Int) ∧ (5 : Int) ≤ 5; decide
 k1 := fun h => absurd h (by show ¬ (5 : Int) = 1; decide)
 k2 := fun h => absurd h (by show ¬ (5 : Int) = 2; decide)
 k3 := fun h => absurd h (by show ¬ (5 : Int) = 3; decide)
 k4 := fun h => absurd h (by show ¬ (5 : Int) = 4; decide)
 k5 := fun _ => ⟨rfl, h2, h1, hv, rfl, rfl⟩
set_option maxHeartbeats 1000000 in
theorem Awake44_ok {κ : Ctx} {I : List Item} (hT : TabRd κ I 0 tzCells) :
    CallS Tryz.prog κ 17 [] I (fun r J => r = .bool true ∧ I = J) := by
 refine Ce0 Tryz.func17 rfl rfl ?_
 refine Ah (Ga rfl (Af (Ah (Ge1 (B3 (α := Int) (cs := [_, _]) (xs := [0, 1]) Ac ty3 rfl rfl dc dc rfl rfl rfl rfl) fun ad1 => ?_))))
 refine Gr (Bb (cells := [_, _]) ty40 Ca pl40 rfl rfl) (Gr (Bb (cells := [_, _, _, _, _, _]) ty42 Tryz.underlying42 pl42 rfl rfl) (Ge1 (A8 ty42 rfl) fun b2 => Ge0 (Dh ty42) ?_))
 refine Af (Ah (Gr (Bb (cells := [_, _, _, _, _, _]) ty42 Tryz.underlying42 pl42 rfl rfl) (Ge1 (A8 ty42 rfl) fun b3 => Ge0 (Dh ty42) ?_)))
 refine Af (Ah (Gr (Bb (cells := [_, _, _, _, _, _, _]) ty108 Do pl108 rfl rfl) (Ge1 (B3 (α := Ev) (cs := [I64 (1), I64 (4), I64 (0), I64 (1), I64 (1), I64 (0), I64 (1)]) (xs := [⟨1, 4, 0, 1, 1, 0, 1⟩]) A5 ty108 rfl rfl dc dc rfl kr rfl rfl) fun ad4 => ?_)))
 refine Gr (Bb (cells := [_, _, _]) ty31 Ei pl31 rfl rfl) (Gl6 ty42 ?_)
 refine Gl6 ty42 ?_
 refine Ge1 (B3 (α := AlV) (cs := [I64 (3), I64 (0), I64 (0), .slice ad1 2 2, I64 (0), I64 (1), I64 (1), I64 (0), I64 (1), .slice none 0 0, I64 (0), I64 (0)]) (xs := [⟨3, 0, 0, ad1, 2, ([0, 1] : List Int), 0, 1⟩, ⟨1, 0, 1, none, 0, [], 0, 0⟩]) Cn ty42 rfl rfl dc dc rfl kr rfl rfl) fun ad5 => ?_
 refine G.e (Al call23 rfl rfl (Watch_ok (nd := 2) (kd := 2) (wd := 3) (mo := 0) (es := ([⟨1, 4, 0, 1, 1, 0, 1⟩] : List Ev)) (als := ([⟨3, 0, 0, ad1, 2, ([0, 1] : List Int), 0, 1⟩, ⟨1, 0, 1, none, 0, [], 0, 0⟩] : List AlV)) (ea := ad4) (ec := 1) (aa := ad5) (ac := 2) Be Be (by intro x hx; simp only [List.mem_cons, List.not_mem_nil, or_false] at hx; rcases hx with rfl | rfl; (· exact Ek (xs := [0, 1]) mm); (· exact Sl.nil _)) hist_one dc (by intro x hx; simp only [List.mem_cons, List.not_mem_nil, or_false] at hx; rcases hx with rfl | rfl; (· exact al3 _ _); (· exact al1 dc dc _ _)) (Nat.le_of_ble_eq_true rfl) (Cb hT A1))) ?_
 rintro _ _ ⟨_, _, ⟨ad6, cp7, rfl, rfl⟩, rfl, rfl⟩
 refine Gm rfl (Gr (A4 rfl rfl) (Gr (A4 rfl rfl) (Ga rfl (Ga rfl (Af (Aq (S2 4 3 rfl rfl) (Ah (Gm rfl (Gr (Bi rfl rfl) (Gm rfl (Bk (d := 21) rfl (fun g21 => ?_) (fun g21 => ?_))))))))))))
 ·refine Gro (Ad rfl) (Gro (Bb (cells := [_, _, _]) ty44 D5 pl44 rfl rfl) (Gro (Bb (cells := [_, _, _]) ty44 D5 pl44 rfl rfl) (Gro (Bb (cells := [_, _, _]) ty44 D5 pl44 rfl rfl) (D6 (Cp rfl rfl rfl) (B3 (α := Rg) (cs := [I64 (0), I64 (0), .bool true, I64 (4), I64 (1), .bool true, I64 (7), I64 (1), .bool false]) (xs := [⟨0, 0, true⟩, ⟨4, 1, true⟩, ⟨7, 1, false⟩]) Bw ty44 rfl rfl dc dc rfl kr rfl rfl) ?_))))
  rintro _ _ ⟨ad8, rfl, rfl⟩
  refine D6 (Cp rfl rfl rfl) (Al call24 rfl rfl (Same44_ok Be Be)) ?_
  rintro _ _ ⟨_, _, ⟨rfl, rfl⟩, rfl, rfl⟩
  exact Gr (Ao rfl rfl) (Ga rfl (Af (Aq (S1 0 rfl) (Ay (A3 rfl rfl (I) A1 ⟨by rw [decide_eq_true (by exact awake_rings _ _)], rfl⟩)))))
 ·exact absurd rfl g21
section
variable {n kd wd mo : Int} {es : List Ev} (hH : HistOk n kd wd mo es) (hn : 2 ≤ n) (a a2 : Option Addr) (c c2 : Nat)
include hH hn
end
theorem hist_nil {n kd wd mo : Int} {es : List Ev} (h : HistOk n kd wd mo es) : HistOk n kd wd mo [] := ⟨⟨h.st.nodes, by simp, fun j hj => absurd hj (Nat.not_lt_zero _), fun j hj => absurd hj (Nat.not_lt_zero _)⟩, h.win⟩
end Go.Sl
