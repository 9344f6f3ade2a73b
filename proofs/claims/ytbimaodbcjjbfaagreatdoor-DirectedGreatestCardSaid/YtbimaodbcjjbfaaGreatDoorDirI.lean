/- A part of the proofs of statements of this seat: contracts of functions, and the plain laws that they lean on. No conditions. -/
import Derived.Test.YtbimaodbcjjbfaaGreatDoorDirK
namespace Go.Sl
open Go.Proofs
set_option linter.unusedVariables false
set_option linter.unusedSimpArgs false
set_option maxRecDepth 4000
theorem bestG_none {nd : Int} {ars : List Pt} (hd : DgOk nd ars) (h : ars.length = 0) : bestG nd ars = noneB := by
  have e : ars = [] := List.eq_nil_of_length_eq_zero h
  rw [bestG_eq hd]
  have hl := outB_ln hd
  have hr := hd.rng
  have hs : sendL (outB nd ars) = [] := by
    refine List.eq_nil_iff_forall_not_mem.2 fun x hx => ?_
    have h1 := (mem_sendL (by omega)).1 hx
    refine h1.2 ?_
    rw [e, show outB nd [] = rows0 nd from rfl, show rows0 nd = List.replicate (min (max nd 0) 64).toNat (0#64) from rfl, at_rep64]
  unfold bestF
  rw [hs]; rfl
theorem one_mask {x : Int} (h : 0 ≤ x ∧ x < 64) : listB (maskB [x]) = [x] := listB_maskA (by simp) fun y hy => by rw [List.mem_singleton] at hy; rw [hy]; exact h
theorem best_some {nd : Int} {ars : List Pt} (hd : DgOk nd ars) (h6 : nd ≤ 6) (hne : ¬ ars.length = 0) : (∃ f t, (f ≠ 0#64 ∧ t ≠ 0#64) ∧ (∀ i : Nat, f.getLsbD i = true → i < (outB nd ars).length) ∧ (∀ i : Nat, t.getLsbD i = true → i < (outB nd ars).length) ∧ bestG nd ars = pairB (outB nd ars) f t) := by
  have hl := outB_ln hd
  have hr := hd.rng
  have hR := rowsD_of hd h6
  rw [bestG_eq hd]
  refine (best_real hR).resolve_left fun e => ?_
  obtain ⟨a, ha⟩ : ∃ a, a ∈ ars := by
    cases ars with
    | nil => exact absurd rfl hne
    | cons a l => exact ⟨a, List.mem_cons_self⟩
  have he := hd.arc a ha
  unfold endsP at he
  have l1 := one_mask (x := a.u) (by omega)
  have l2 := one_mask (x := a.v) (by omega)
  have hb : ∀ i : Nat, (maskB [a.u]).getLsbD i = true → i < (outB nd ars).length := fun i hi => by
    have := (bitD_maskB (BitVec.lt_of_getLsbD hi)).1 hi
    rw [List.mem_singleton] at this; omega
  have z1 : maskB [a.u] ≠ 0#64 := mask_nz (by simp) fun x hx => by rw [List.mem_singleton] at hx; omega
  have z2 : maskB [a.v] ≠ 0#64 := mask_nz (by simp) fun x hx => by rw [List.mem_singleton] at hx; omega
  have h1 := best_max hR z1 z2 hb
  rw [e] at h1
  have hbet : betB (outB nd ars) (maskB [a.u]) (maskB [a.v]) = 1 := by
    rw [betB_eq (by omega) hb, l1, l2]
    unfold cntN
    simp only [List.map_cons, List.map_nil, List.sum_cons, List.sum_nil, Int.add_zero]
    rw [arcN_out hd he.1 he.2.1, if_pos ha]
  have ho1 : onesB (maskB [a.u]) = 1 := by rw [ones_pop, l1]; rfl
  have ho2 : onesB (maskB [a.v]) = 1 := by rw [ones_pop, l2]; rfl
  unfold sqB at h1
  rw [hbet, ho1, ho2] at h1
  exact absurd h1 (by unfold leF noneB; decide +kernel)
theorem listB_valid {nd : Int} {f : BitVec 64} (h : ∀ i : Nat, f.getLsbD i = true → (i : Int) < nd) : ValidP (listB f) nd := ValidP_iff.2 ⟨fun x hx => by
  obtain ⟨h0, h1⟩ := mem_listB.1 hx
  have := h _ h1; omega, listB_asc f⟩
theorem maskB_listB (m : BitVec 64) : maskB (listB m) = m := by
  refine BitVec.eq_of_getLsbD_eq fun i hi => ?_
  rw [Bool.eq_iff_iff, bitD_maskB hi, mem_listB, Int.toNat_natCast]
  exact ⟨fun h => h.2, fun h => ⟨by omega, h⟩⟩
theorem best_says {nd : Int} {ars : List Pt} (hd : DgOk nd ars) (h6 : nd ≤ 6) (hne : ¬ ars.length = 0) : sqE nd ars (bestG nd ars).F (bestG nd ars).T = 0 ∧ sqG nd ars (bestG nd ars).F (bestG nd ars).T = (bestG nd ars).sq ∧ betG nd ars (bestG nd ars).F (bestG nd ars).T = (bestG nd ars).n := by
  obtain ⟨f, t, hz, hf, ht, e⟩ := best_some hd h6 hne
  have hl := outB_ln hd
  have hc := checkD_ok.2 hd
  rw [e]
  have v1 : ValidP (listB f) nd := listB_valid fun i hi => by have := hf i hi; omega
  have v2 : ValidP (listB t) nd := listB_valid fun i hi => by have := ht i hi; omega
  have n1 : ¬ (listB f).length = 0 := fun h => listB_ne hz.1 (List.eq_nil_of_length_eq_zero h)
  have n2 : ¬ (listB t).length = 0 := fun h => listB_ne hz.2 (List.eq_nil_of_length_eq_zero h)
  have hE : sqE nd ars (listB f) (listB t) = 0 := by
    unfold sqE
    rw [if_neg (by rw [hc]; decide), if_neg (by rintro (h | h | h | h); (· exact h v1); (· exact h v2); (· exact n1 h); (· exact n2 h))]
  refine ⟨hE, ?_, ?_⟩
  · show sqG nd ars (listB f) (listB t) = sqB (outB nd ars) f t
    unfold sqG
    rw [if_neg (by rw [hE]; decide), maskB_listB, maskB_listB]
  · show betG nd ars (listB f) (listB t) = betB (outB nd ars) f t
    unfold betG
    rw [if_neg (by rw [hc]; decide), maskB_listB, maskB_listB]
theorem sq_any {nd : Int} {ars : List Pt} (hd : DgOk nd ars) (h6 : nd ≤ 6) {F T : List Int} (hE : sqE nd ars F T = 0) : FrV (sqG nd ars F T) ∧ leF (sqG nd ars F T) (bestG nd ars).sq := by
  have hl := outB_ln hd
  have hr := hd.rng
  have hc := checkD_ok.2 hd
  have hV : ValidP F nd ∧ ValidP T nd ∧ ¬ F.length = 0 ∧ ¬ T.length = 0 := by
    unfold sqE at hE
    rw [if_neg (by rw [hc]; decide)] at hE
    by_cases h : ¬ ValidP F nd ∨ ¬ ValidP T nd ∨ F.length = 0 ∨ T.length = 0
    · rw [if_pos h] at hE; cases hE
    · exact ⟨Classical.not_not.1 fun h1 => h (.inl h1), Classical.not_not.1 fun h1 => h (.inr (.inl h1)), fun h1 => h (.inr (.inr (.inl h1))), fun h1 => h (.inr (.inr (.inr h1)))⟩
  have z1 := vmask_nz hV.1 hr.2 hV.2.2.1
  have z2 := vmask_nz hV.2.1 hr.2 hV.2.2.2
  have e : sqG nd ars F T = sqB (outB nd ars) (maskB F) (maskB T) := if_neg (by rw [hE]; decide)
  rw [e, bestG_eq hd]
  refine ⟨sqB_val z1 z2, best_max (rowsD_of hd h6) z1 z2 fun i hi => ?_⟩
  have := ValidP_mem hV.1 ((bitD_maskB (BitVec.lt_of_getLsbD hi)).1 hi)
  omega
theorem peelG_le {nd : Int} {ars : List Pt} (hd : DgOk nd ars) (h6 : nd ≤ 6) : FrV (peelG nd ars).sq ∧ leF (peelG nd ars).sq (bestG nd ars).sq := by
  rw [bestG_eq hd]
  unfold peelG
  rw [if_neg (by rw [checkD_ok.2 hd]; decide)]
  exact peel_le (rowsD_of hd h6)
theorem cmpF_npos {x y : Fr} (h : leF x y) : ¬ 0 < cmpF x y := fun hh => not_ltF.2 h (cmpF_pos.1 hh)

set_option maxHeartbeats 4000000 in
theorem DirectedGreatest_walk {κ : Ctx} {I : List Item} {la : Option Addr} {ln lc : Nat} {ls : List Int} (hl : Sl κ I (.slice la ln lc) ls) (hT : TabRd κ I 0 tzCells) :
    CallS Tryz.prog κ 6 [.slice la ln lc] I (fun r J => r = .bool true ∧ I = J) := by
 refine CallS.enter (L := [(0, .slice la ln lc)]) Tryz.func6 rfl rfl rfl rfl ?_
 refine W.sr ?_
 refine G.r (Runs.assign rfl) ?_
 refine G.nt ?_
 refine W.sr ?_
 refine G.r (Runs.move rfl) ?_
 refine G.e (Eff.call call8 rfl rfl New_ok) ?_
 rintro _ _ ⟨_, _, ⟨dk1, rfl, rfl⟩, rfl, rfl⟩
 show G Tryz.prog κ _ _ _ _ ([(14, .pointer (some ⟨dk1, 0, none⟩)), (13, .slice la ln lc), (2, .bool false), (0, .slice la ln lc)] : Env) (blk dk1 [.slice la ln lc, I64 (0)] 79 :: I)
 have hi0 : (0 : Int) ≤ 0 := Int.le_refl _
 refine G.r (Runs.assign rfl) ?_
 refine G.nt ?_
 refine W.sr ?_
 refine G.r (Runs.move rfl) ?_
 refine G.e (Eff.call call37 rfl rfl (MkDigraph_at (by repeat (first | exact AtF.head _ _ | apply AtF.tail)) (fun _ => Sl.fit hl Fit.m) (by omega)  (by omega))) ?_
 rintro _ _ ⟨_, _, ⟨⟨nd2, ad3, cp4, dg5, i6⟩, ⟨⟨rfl, hgdg5⟩, hi6⟩, rfl⟩, rfl, rfl⟩
 show G Tryz.prog κ _ _ _ _ ([(16, .agg #[I64 (nd2), .slice ad3 dg5.length cp4]), (15, .pointer (some ⟨dk1, 0, none⟩)), (3, .pointer (some ⟨dk1, 0, none⟩)), (14, .pointer (some ⟨dk1, 0, none⟩)), (13, .slice la ln lc), (2, .bool false), (0, .slice la ln lc)] : Env) (vc 32 (.slice ad3 dg5.length cp4) (dg5) :: blk dk1 [.slice la ln lc, I64 (i6)] 79 :: I)
 have hi6 : 0 ≤ i6 := hi6
 dsimp only at hgdg5
 have hd := hgdg5.2.1
 have hdl := hgdg5.2.2
 have hnd := hgdg5.1
 have hrng := hd.rng
 have hc1 := checkD_ok.2 hd
 have hvB := bestG_val hd (by omega)
 have hpl := peelG_le hd (by omega)
 have hvP := hpl.1
 refine G.e (Eff.alloc ty54 rfl) ?_
 rintro _ _ ⟨b7, rfl, rfl⟩
 refine G.e (Eff.st (cs := [_, _]) (vs := [_, _]) (cs' := [_, _]) ty54) ?_
 rintro _ _ ⟨rfl, rfl⟩
 refine G.nt ?_
 refine W.sr ?_
 refine G.r (Runs.lds (vs := [_, _]) ty54) ?_
 refine G.e (Eff.call call30 rfl rfl (BestD_ok (nd := nd2) Sl.o (fun _ => by omega) (TabRd.fit hT Fit.m))) ?_
 rintro _ _ ⟨_, _, ⟨ad8, cp9, ad10, cp11, rfl, rfl⟩, rfl, rfl⟩
 refine G.r (Runs.move rfl) ?_
 refine G.r (Runs.extract rfl rfl) ?_
 refine G.r (Runs.extract rfl rfl) ?_
 refine G.e (Eff.alloc ty58 rfl) ?_
 rintro _ _ ⟨b12, rfl, rfl⟩
 refine G.e (Eff.st (cs := [_, _, _, _, _]) (vs := [_, _, _, _, _]) (cs' := [_, _, _, _, _]) ty58) ?_
 rintro _ _ ⟨rfl, rfl⟩
 refine G.r (Runs.assign rfl) ?_
 refine G.nt ?_
 refine W.sub (L' := [(6, _), (5, _), (4, _), (3, _)]) (Sub.cons rfl (Sub.cons rfl (Sub.cons rfl (Sub.cons rfl Sub.nil)))) ?_
 refine W.sr ?_
 refine G.r (Runs.lds (vs := [_, _]) ty54) ?_
 refine G.e (Eff.call call41 rfl rfl (PeelD_ok (nd := nd2) Sl.o (fun _ => by omega) (TabRd.fit hT Fit.m))) ?_
 rintro _ _ ⟨_, _, ⟨ad13, cp14, ad15, cp16, rfl, rfl⟩, rfl, rfl⟩
 refine G.r (Runs.move rfl) ?_
 refine G.r (Runs.extract rfl rfl) ?_
 refine G.r (Runs.extract rfl rfl) ?_
 refine G.e (Eff.alloc ty58 rfl) ?_
 rintro _ _ ⟨b17, rfl, rfl⟩
 refine G.e (Eff.st (cs := [_, _, _, _, _]) (vs := [_, _, _, _, _]) (cs' := [_, _, _, _, _]) ty58) ?_
 rintro _ _ ⟨rfl, rfl⟩
 refine G.r (Runs.assign rfl) ?_
 refine G.nt ?_
 refine W.seq ?_
 refine W.sr ?_
 refine G.r (Runs.move rfl) ?_
 refine G.r (Runs.neq rfl rfl) ?_
 refine G.r (Runs.move rfl) ?_
 refine G.split (d := 29) rfl (fun g29 => ?_) (fun g29 => ?_)
 ·exact absurd hc1 g29
 ·refine G.ro (Runs.move rfl) ?_
  refine G.ro (Runs.neq rfl rfl) ?_
  refine G.r (Runs.pickf rfl rfl) ?_
  refine G.r (Runs.move rfl) ?_
  refine G.split (d := 33) rfl (fun g33 => ?_) (fun g33 => ?_)
  ·exact absurd hc1 g33
  ·refine G.ro (Runs.fieldAddr fld58_3 rfl) ?_
   refine G.ro (Runs.lds (vs := [_, _]) ty45) ?_
   refine G.eff (Wanted.on rfl rfl rfl) (Eff.call call32 rfl rfl (Valid01_ok (bestG nd2 dg5).sq (by first | exact hvB | exact hvP | exact (sq_any hd (by omega) g103).1))) ?_
   rintro _ _ ⟨_, _, ⟨rfl, rfl⟩, rfl, rfl⟩
   refine G.ro (Runs.not rfl) ?_
   refine G.r (Runs.pickf rfl rfl) ?_
   refine G.r (Runs.move rfl) ?_
   refine G.ro (Runs.fieldAddr fld58_3 rfl) ?_
   refine G.ro (Runs.lds (vs := [_, _]) ty45) ?_
   refine G.eff (Wanted.on rfl rfl rfl) (Eff.call call32 rfl rfl (Valid01_ok (peelG nd2 dg5).sq (by first | exact hvB | exact hvP | exact (sq_any hd (by omega) g103).1))) ?_
   rintro _ _ ⟨_, _, ⟨rfl, rfl⟩, rfl, rfl⟩
   refine G.ro (Runs.not rfl) ?_
   refine G.r (Runs.pickf rfl rfl) ?_
   refine G.r (Runs.move rfl) ?_
   refine G.ro (Runs.fieldAddr fld58_3 rfl) ?_
   refine G.ro (Runs.lds (vs := [_, _]) ty45) ?_
   refine G.ro (Runs.fieldAddr fld58_3 rfl) ?_
   refine G.ro (Runs.lds (vs := [_, _]) ty45) ?_
   refine G.eff (Wanted.on rfl rfl rfl) (Eff.call call33 rfl rfl (Cmp01_ok (peelG nd2 dg5).sq (bestG nd2 dg5).sq (by first | exact hvB | exact hvP | exact (sq_any hd (by omega) g103).1) (by first | exact hvB | exact hvP | exact (sq_any hd (by omega) g103).1))) ?_
   rintro _ _ ⟨_, _, ⟨rfl, rfl⟩, rfl, rfl⟩
   refine G.ro (Runs.gtr rfl rfl) ?_
   refine G.r (Runs.pickf rfl rfl) ?_
   refine G.nt ?_
   refine W.sub (L' := [(52, _), (5, _), (4, _), (3, _)]) (Sub.cons rfl (Sub.cons rfl (Sub.cons rfl (Sub.cons rfl Sub.nil)))) ?_
   refine W.ite rfl (fun c52 => ?_) (fun c52 => ?_)
   ·exact absurd c52 (cmpF_npos hpl.2)
   ·refine W.skip ?_
    refine V.then ?_
    refine W.seq ?_
    refine W.sr ?_
    refine G.r (Runs.fieldAddr fld54_1 rfl) ?_
    refine G.r (Runs.ld ty33) ?_
    refine G.r (Runs.lens Tryz.underlying33 rfl) ?_
    refine G.r (Runs.eql rfl rfl) ?_
    refine G.nt ?_
    refine W.ite rfl (fun c56 => ?_) (fun c56 => ?_)
    ·refine W.sr ?_
     refine G.r (Runs.fieldAddr fld58_0 rfl) ?_
     have hN := bestG_none hd (by omega)
     have hN1 : (bestG nd2 dg5).F.length = 0 := by rw [hN]; rfl
     have hN2 : (bestG nd2 dg5).T.length = 0 := by rw [hN]; rfl
     have hN3 : (bestG nd2 dg5).n = 0 := by rw [hN]; rfl
     refine G.r (Runs.ld ty22) ?_
     refine G.r (Runs.lens Tryz.underlying22 rfl) ?_
     refine G.r (Runs.fieldAddr fld58_1 rfl) ?_
     refine G.r (Runs.ld ty22) ?_
     refine G.r (Runs.lens Tryz.underlying22 rfl) ?_
     refine G.r (Runs.add rfl rfl (by unfold InR; omega)) ?_
     refine G.r (Runs.fieldAddr fld58_2 rfl) ?_
     refine G.r (Runs.ld ty3) ?_
     refine G.r (Runs.add rfl rfl (by unfold InR; omega)) ?_
     refine G.r (Runs.eql rfl rfl) ?_
     refine G.r (Runs.move rfl) ?_
     refine G.split (d := 68) rfl (fun g68 => ?_) (fun g68 => ?_)
     ·refine G.ro (Runs.fieldAddr fld58_3 rfl) ?_
      refine G.ro (Runs.lds (vs := [_, _]) ty45) ?_
      refine G.ro (Runs.build (cells := [_, _]) ty45 Tryz.underlying45 pl45 rfl rfl) ?_
      refine G.ro (Runs.eqlT (α := Fr) (a := (bestG nd2 dg5).sq) (b := (⟨0, 1⟩ : Fr)) eqt45 rfl rfl) ?_
      refine G.r (Runs.pickt rfl rfl) ?_
      refine G.r (Runs.move rfl) ?_
      refine G.split (d := 74) rfl (fun g74 => ?_) (fun g74 => ?_)
      ·refine G.eff (Wanted.on rfl rfl rfl) (Eff.call call36 rfl rfl (Awake23_ok (TabRd.fit hT Fit.m))) ?_
       rintro _ _ ⟨_, _, ⟨rfl, rfl⟩, rfl, rfl⟩
       refine G.r (Runs.pickt rfl rfl) ?_
       refine G.r (Runs.assign rfl) ?_
       refine G.nt ?_
       refine W.sub (L' := [(2, _)]) (Sub.cons rfl Sub.nil) ?_
       refine W.ret ?_
       refine V.then_ret ?_
       exact V.ret1 rfl rfl (I) Fit.m ⟨rfl, rfl⟩
      ·exact absurd (by rw [hN]; rfl) g74
     ·exact absurd (by omega) g68
    ·refine W.skip ?_
     refine V.then ?_
     refine W.sr ?_
     refine G.r (Runs.lds (vs := [_, _]) ty54) ?_
     have hsy := best_says hd (by omega) (by omega)
     refine G.r (Runs.fieldAddr fld58_0 rfl) ?_
     refine G.r (Runs.ld ty22) ?_
     refine G.r (Runs.fieldAddr fld58_1 rfl) ?_
     refine G.r (Runs.ld ty22) ?_
     refine G.e (Eff.call call46 rfl rfl (SquareD_ok (nd := nd2) Sl.o Sl.o Sl.o (TabRd.fit hT Fit.m))) ?_
     rintro _ _ ⟨_, _, ⟨rfl, rfl⟩, rfl, rfl⟩
     refine G.r (Runs.move rfl) ?_
     refine G.r (Runs.extract rfl rfl) ?_
     refine G.r (Runs.extract rfl rfl) ?_
     refine G.e (Eff.alloc ty45 rfl) ?_
     rintro _ _ ⟨b18, rfl, rfl⟩
     refine G.e (Eff.st (cs := [_, _]) (vs := [_, _]) (cs' := [_, _]) ty45) ?_
     rintro _ _ ⟨rfl, rfl⟩
     refine G.r (Runs.assign rfl) ?_
     refine G.nt ?_
     refine W.sub (L' := [(10, _), (9, _), (5, _), (4, _), (3, _)]) (Sub.cons rfl (Sub.cons rfl (Sub.cons rfl (Sub.cons rfl (Sub.cons rfl Sub.nil))))) ?_
     refine W.seq ?_
     refine W.sr ?_
     refine G.r (Runs.move rfl) ?_
     refine G.nt ?_
     refine W.block ?_
     refine W.loop (σ := Nat × Int) (fun s => ([(3, .pointer (some ⟨dk1, 0, none⟩)), (4, .pointer (some ⟨b7, 0, none⟩)), (5, .pointer (some ⟨b12, 0, none⟩)), (9, .pointer (some ⟨b18, 0, none⟩)), (10, I64 (sqE nd2 dg5 ((bestG nd2 dg5).F) ((bestG nd2 dg5).T))), (86, I64 (((s.1 : Nat) : Int)))] : Env)) (fun s => blk b18 [I64 ((sqG nd2 dg5 ((bestG nd2 dg5).F) ((bestG nd2 dg5).T)).num), I64 ((sqG nd2 dg5 ((bestG nd2 dg5).F) ((bestG nd2 dg5).T)).den)] 45 :: blk b17 [.slice ad13 (peelG nd2 dg5).F.length cp14, .slice ad15 (peelG nd2 dg5).T.length cp16, I64 ((peelG nd2 dg5).n), I64 ((peelG nd2 dg5).sq.num), I64 ((peelG nd2 dg5).sq.den)] 58 :: vc 3 (.slice ad13 (peelG nd2 dg5).F.length cp14) ((peelG nd2 dg5).F) :: vc 3 (.slice ad15 (peelG nd2 dg5).T.length cp16) ((peelG nd2 dg5).T) :: blk b12 [.slice ad8 (bestG nd2 dg5).F.length cp9, .slice ad10 (bestG nd2 dg5).T.length cp11, I64 ((bestG nd2 dg5).n), I64 ((bestG nd2 dg5).sq.num), I64 ((bestG nd2 dg5).sq.den)] 58 :: vc 3 (.slice ad8 (bestG nd2 dg5).F.length cp9) ((bestG nd2 dg5).F) :: vc 3 (.slice ad10 (bestG nd2 dg5).T.length cp11) ((bestG nd2 dg5).T) :: blk b7 [I64 (nd2), .slice ad3 dg5.length cp4] 54 :: vc 32 (.slice ad3 dg5.length cp4) (dg5) :: blk dk1 [.slice la ln lc, I64 (s.2)] 79 :: I) (fun s => (s.1 ≤ 6) ∧ (0 ≤ s.2)) (fun s => 6 - s.1) (0, i6) (show ((0 : Nat) ≤ 6) ∧ (0 ≤ (i6 : Int)) from ⟨(by omega), (by omega)⟩) (Sub.cons rfl (Sub.cons rfl (Sub.cons rfl (Sub.cons rfl (Sub.cons rfl (Sub.cons lookO Sub.nil)))))) (show Fit κ _ (blk b18 [I64 ((sqG nd2 dg5 ((bestG nd2 dg5).F) ((bestG nd2 dg5).T)).num), I64 ((sqG nd2 dg5 ((bestG nd2 dg5).F) ((bestG nd2 dg5).T)).den)] 45 :: blk b17 [.slice ad13 (peelG nd2 dg5).F.length cp14, .slice ad15 (peelG nd2 dg5).T.length cp16, I64 ((peelG nd2 dg5).n), I64 ((peelG nd2 dg5).sq.num), I64 ((peelG nd2 dg5).sq.den)] 58 :: vc 3 (.slice ad13 (peelG nd2 dg5).F.length cp14) ((peelG nd2 dg5).F) :: vc 3 (.slice ad15 (peelG nd2 dg5).T.length cp16) ((peelG nd2 dg5).T) :: blk b12 [.slice ad8 (bestG nd2 dg5).F.length cp9, .slice ad10 (bestG nd2 dg5).T.length cp11, I64 ((bestG nd2 dg5).n), I64 ((bestG nd2 dg5).sq.num), I64 ((bestG nd2 dg5).sq.den)] 58 :: vc 3 (.slice ad8 (bestG nd2 dg5).F.length cp9) ((bestG nd2 dg5).F) :: vc 3 (.slice ad10 (bestG nd2 dg5).T.length cp11) ((bestG nd2 dg5).T) :: blk b7 [I64 (nd2), .slice ad3 dg5.length cp4] 54 :: vc 32 (.slice ad3 dg5.length cp4) (dg5) :: blk dk1 [.slice la ln lc, I64 ((i6))] 79 :: I) from Fit.s) ?_
     rintro ⟨z, iqz⟩ hp
     obtain ⟨hz, hiqz⟩ : (z ≤ 6) ∧ (0 ≤ iqz) := hp
     show W Tryz.prog κ 133 _ _ ([(3, .pointer (some ⟨dk1, 0, none⟩)), (4, .pointer (some ⟨b7, 0, none⟩)), (5, .pointer (some ⟨b12, 0, none⟩)), (9, .pointer (some ⟨b18, 0, none⟩)), (10, I64 (sqE nd2 dg5 ((bestG nd2 dg5).F) ((bestG nd2 dg5).T))), (86, I64 (((z : Nat) : Int)))] : Env) (blk b18 [I64 ((sqG nd2 dg5 ((bestG nd2 dg5).F) ((bestG nd2 dg5).T)).num), I64 ((sqG nd2 dg5 ((bestG nd2 dg5).F) ((bestG nd2 dg5).T)).den)] 45 :: blk b17 [.slice ad13 (peelG nd2 dg5).F.length cp14, .slice ad15 (peelG nd2 dg5).T.length cp16, I64 ((peelG nd2 dg5).n), I64 ((peelG nd2 dg5).sq.num), I64 ((peelG nd2 dg5).sq.den)] 58 :: vc 3 (.slice ad13 (peelG nd2 dg5).F.length cp14) ((peelG nd2 dg5).F) :: vc 3 (.slice ad15 (peelG nd2 dg5).T.length cp16) ((peelG nd2 dg5).T) :: blk b12 [.slice ad8 (bestG nd2 dg5).F.length cp9, .slice ad10 (bestG nd2 dg5).T.length cp11, I64 ((bestG nd2 dg5).n), I64 ((bestG nd2 dg5).sq.num), I64 ((bestG nd2 dg5).sq.den)] 58 :: vc 3 (.slice ad8 (bestG nd2 dg5).F.length cp9) ((bestG nd2 dg5).F) :: vc 3 (.slice ad10 (bestG nd2 dg5).T.length cp11) ((bestG nd2 dg5).T) :: blk b7 [I64 (nd2), .slice ad3 dg5.length cp4] 54 :: vc 32 (.slice ad3 dg5.length cp4) (dg5) :: blk dk1 [.slice la ln lc, I64 (iqz)] 79 :: I)
     refine W.sr ?_
     refine G.r (Runs.lss rfl rfl) ?_
     refine G.nt ?_
     refine W.seq ?_
     refine W.ite rfl (fun c87 => ?_) (fun c87 => ?_)
     ·refine W.skip ?_
      refine V.then ?_
      refine W.seq ?_
      refine W.block ?_
      refine W.seq ?_
      refine W.drawn mixed ?_
      refine A.hold (blk b18 [I64 ((sqG nd2 dg5 ((bestG nd2 dg5).F) ((bestG nd2 dg5).T)).num), I64 ((sqG nd2 dg5 ((bestG nd2 dg5).F) ((bestG nd2 dg5).T)).den)] 45 :: blk b17 [.slice ad13 (peelG nd2 dg5).F.length cp14, .slice ad15 (peelG nd2 dg5).T.length cp16, I64 ((peelG nd2 dg5).n), I64 ((peelG nd2 dg5).sq.num), I64 ((peelG nd2 dg5).sq.den)] 58 :: vc 3 (.slice ad13 (peelG nd2 dg5).F.length cp14) ((peelG nd2 dg5).F) :: vc 3 (.slice ad15 (peelG nd2 dg5).T.length cp16) ((peelG nd2 dg5).T) :: blk b12 [.slice ad8 (bestG nd2 dg5).F.length cp9, .slice ad10 (bestG nd2 dg5).T.length cp11, I64 ((bestG nd2 dg5).n), I64 ((bestG nd2 dg5).sq.num), I64 ((bestG nd2 dg5).sq.den)] 58 :: vc 3 (.slice ad8 (bestG nd2 dg5).F.length cp9) ((bestG nd2 dg5).F) :: vc 3 (.slice ad10 (bestG nd2 dg5).T.length cp11) ((bestG nd2 dg5).T) :: blk b7 [I64 (nd2), .slice ad3 dg5.length cp4] 54 :: vc 32 (.slice ad3 dg5.length cp4) (dg5) :: I) 16 ?_
      refine D.r 0 rfl (Runs.lds (vs := [_, _]) ty54) ?_ (hJ := Fit.sub)
      refine D.r 1 rfl (Runs.move rfl) ?_ (hJ := Fit.sub)
      refine D.r 2 rfl (Runs.fieldAddr fld54_0 rfl) ?_ (hJ := Fit.sub)
      refine D.r 3 rfl (Runs.ld ty3) ?_ (hJ := Fit.sub)
      refine D.r 5 rfl (Runs.move rfl) ?_ (hJ := Fit.sub)
      refine D.r 6 rfl (Runs.fieldAddr fld54_0 rfl) ?_ (hJ := Fit.sub)
      refine D.r 7 rfl (Runs.ld ty3) ?_ (hJ := Fit.sub)
      refine D.step (rs := [4, 13]) (by kernel_rfl) rfl rfl (all2 ?_ (all1 ?_))
      ·refine Step.eff rfl (Wanted.plain rfl) (Eff.call call21 rfl rfl (Set_at (by repeat (first | exact AtF.head _ _ | apply AtF.tail)) (fun _ => Sl.fit hl Fit.m) (by omega) (by omega))) ?_
       rintro _ _ ⟨_, _, ⟨ad20, cp21, o22, i19, rfl, ho22, hlo22, hi19, rfl⟩, rfl, rfl⟩
       refine ⟨Fit.sub, ?_⟩
       show D Tryz.prog κ _ _ _ _ _ _ _ ([(93, .slice ad20 o22.length cp21), (96, I64 (nd2)), (95, .pointer (some ⟨b7, 0, none⟩)), (94, .pointer (some ⟨dk1, 0, none⟩)), (92, I64 (nd2)), (91, .pointer (some ⟨b7, 0, none⟩)), (90, .pointer (some ⟨dk1, 0, none⟩)), (89, .agg #[I64 (nd2), .slice ad3 dg5.length cp4]), (87, .bool (decide (((z : Nat) : Int) < 6))), (3, .pointer (some ⟨dk1, 0, none⟩)), (4, .pointer (some ⟨b7, 0, none⟩)), (5, .pointer (some ⟨b12, 0, none⟩)), (9, .pointer (some ⟨b18, 0, none⟩)), (10, I64 (sqE nd2 dg5 ((bestG nd2 dg5).F) ((bestG nd2 dg5).T))), (86, I64 (((z : Nat) : Int)))] : Env) (vc 3 (.slice ad20 o22.length cp21) (o22) :: blk b18 [I64 ((sqG nd2 dg5 ((bestG nd2 dg5).F) ((bestG nd2 dg5).T)).num), I64 ((sqG nd2 dg5 ((bestG nd2 dg5).F) ((bestG nd2 dg5).T)).den)] 45 :: blk b17 [.slice ad13 (peelG nd2 dg5).F.length cp14, .slice ad15 (peelG nd2 dg5).T.length cp16, I64 ((peelG nd2 dg5).n), I64 ((peelG nd2 dg5).sq.num), I64 ((peelG nd2 dg5).sq.den)] 58 :: vc 3 (.slice ad13 (peelG nd2 dg5).F.length cp14) ((peelG nd2 dg5).F) :: vc 3 (.slice ad15 (peelG nd2 dg5).T.length cp16) ((peelG nd2 dg5).T) :: blk b12 [.slice ad8 (bestG nd2 dg5).F.length cp9, .slice ad10 (bestG nd2 dg5).T.length cp11, I64 ((bestG nd2 dg5).n), I64 ((bestG nd2 dg5).sq.num), I64 ((bestG nd2 dg5).sq.den)] 58 :: vc 3 (.slice ad8 (bestG nd2 dg5).F.length cp9) ((bestG nd2 dg5).F) :: vc 3 (.slice ad10 (bestG nd2 dg5).T.length cp11) ((bestG nd2 dg5).T) :: blk b7 [I64 (nd2), .slice ad3 dg5.length cp4] 54 :: vc 32 (.slice ad3 dg5.length cp4) (dg5) :: blk dk1 [.slice la ln lc, I64 (i19)] 79 :: I)
       refine D.step (rs := [8, 13]) (by kernel_rfl) rfl rfl (all2 ?_ (all1 ?_))
       ·refine Step.eff rfl (Wanted.plain rfl) (Eff.call call21 rfl rfl (Set_at (by repeat (first | exact AtF.head _ _ | apply AtF.tail)) (fun _ => Sl.fit hl Fit.m) (by omega) (by omega))) ?_
        rintro _ _ ⟨_, _, ⟨ad24, cp25, o26, i23, rfl, ho26, hlo26, hi23, rfl⟩, rfl, rfl⟩
        refine ⟨Fit.sub, ?_⟩
        show D Tryz.prog κ _ _ _ _ _ _ _ ([(97, .slice ad24 o26.length cp25), (93, .slice ad20 o22.length cp21), (96, I64 (nd2)), (95, .pointer (some ⟨b7, 0, none⟩)), (94, .pointer (some ⟨dk1, 0, none⟩)), (92, I64 (nd2)), (91, .pointer (some ⟨b7, 0, none⟩)), (90, .pointer (some ⟨dk1, 0, none⟩)), (89, .agg #[I64 (nd2), .slice ad3 dg5.length cp4]), (87, .bool (decide (((z : Nat) : Int) < 6))), (3, .pointer (some ⟨dk1, 0, none⟩)), (4, .pointer (some ⟨b7, 0, none⟩)), (5, .pointer (some ⟨b12, 0, none⟩)), (9, .pointer (some ⟨b18, 0, none⟩)), (10, I64 (sqE nd2 dg5 ((bestG nd2 dg5).F) ((bestG nd2 dg5).T))), (86, I64 (((z : Nat) : Int)))] : Env) (vc 3 (.slice ad24 o26.length cp25) (o26) :: vc 3 (.slice ad20 o22.length cp21) (o22) :: blk b18 [I64 ((sqG nd2 dg5 ((bestG nd2 dg5).F) ((bestG nd2 dg5).T)).num), I64 ((sqG nd2 dg5 ((bestG nd2 dg5).F) ((bestG nd2 dg5).T)).den)] 45 :: blk b17 [.slice ad13 (peelG nd2 dg5).F.length cp14, .slice ad15 (peelG nd2 dg5).T.length cp16, I64 ((peelG nd2 dg5).n), I64 ((peelG nd2 dg5).sq.num), I64 ((peelG nd2 dg5).sq.den)] 58 :: vc 3 (.slice ad13 (peelG nd2 dg5).F.length cp14) ((peelG nd2 dg5).F) :: vc 3 (.slice ad15 (peelG nd2 dg5).T.length cp16) ((peelG nd2 dg5).T) :: blk b12 [.slice ad8 (bestG nd2 dg5).F.length cp9, .slice ad10 (bestG nd2 dg5).T.length cp11, I64 ((bestG nd2 dg5).n), I64 ((bestG nd2 dg5).sq.num), I64 ((bestG nd2 dg5).sq.den)] 58 :: vc 3 (.slice ad8 (bestG nd2 dg5).F.length cp9) ((bestG nd2 dg5).F) :: vc 3 (.slice ad10 (bestG nd2 dg5).T.length cp11) ((bestG nd2 dg5).T) :: blk b7 [I64 (nd2), .slice ad3 dg5.length cp4] 54 :: vc 32 (.slice ad3 dg5.length cp4) (dg5) :: blk dk1 [.slice la ln lc, I64 (i23)] 79 :: I)
        refine D.step (rs := [9, 13]) (by kernel_rfl) rfl rfl (all2 ?_ (all1 ?_))
        ·refine Step.eff rfl (Wanted.plain rfl) (Eff.call call46 rfl rfl (SquareD_ok (nd := nd2) Sl.o Sl.o Sl.o (TabRd.fit hT Fit.m))) ?_
         rintro _ _ ⟨_, _, ⟨rfl, rfl⟩, rfl, rfl⟩
         refine ⟨Fit.sub, ?_⟩
         refine D.r 10 rfl (Runs.move rfl) ?_ (hJ := Fit.sub)
         refine D.r 11 rfl (Runs.extract rfl rfl) ?_ (hJ := Fit.sub)
         refine D.r 12 rfl (Runs.extract rfl rfl) ?_ (hJ := Fit.sub)
         refine D.step (rs := [13]) (by kernel_rfl) rfl rfl (all1 ?_)
         refine Step.eff rfl (Wanted.plain rfl) (Eff.alloc ty45 rfl) ?_
         rintro _ _ ⟨b27, rfl, rfl⟩
         refine ⟨Fit.sub, ?_⟩
         refine D.step (rs := [14]) (by kernel_rfl) rfl rfl (all1 ?_)
         refine Step.eff rfl (Wanted.plain rfl) (Eff.st (cs := [_, _]) (vs := [_, _]) (cs' := [_, _]) ty45) ?_
         rintro _ _ ⟨rfl, rfl⟩
         refine ⟨Fit.sub, ?_⟩
         refine D.r 15 rfl (Runs.assign rfl) ?_ (hJ := Fit.sub)
         refine D.done (by kernel_rfl) ?_
         refine V.then ?_
         refine W.sub (L' := [(12, _), (11, _), (3, _), (4, _), (5, _), (9, _), (10, _), (86, _)]) (Sub.cons rfl (Sub.cons rfl (Sub.cons rfl (Sub.cons rfl (Sub.cons rfl (Sub.cons rfl (Sub.cons rfl (Sub.cons rfl Sub.nil)))))))) ?_
         refine W.sr ?_
         refine G.r (Runs.move rfl) ?_
         refine G.r (Runs.eql rfl rfl) ?_
         refine G.r (Runs.move rfl) ?_
         refine G.split (d := 103) rfl (fun g103 => ?_) (fun g103 => ?_)
         ·refine G.ro (Runs.lds (vs := [_, _]) ty45) ?_
          refine G.ro (Runs.fieldAddr fld58_3 rfl) ?_
          refine G.ro (Runs.lds (vs := [_, _]) ty45) ?_
          refine G.eff (Wanted.on rfl rfl rfl) (Eff.call call33 rfl rfl (Cmp01_ok (sqG nd2 dg5 o22 o26) (bestG nd2 dg5).sq (by first | exact hvB | exact hvP | exact (sq_any hd (by omega) g103).1) (by first | exact hvB | exact hvP | exact (sq_any hd (by omega) g103).1))) ?_
          rintro _ _ ⟨_, _, ⟨rfl, rfl⟩, rfl, rfl⟩
          refine G.ro (Runs.gtr rfl rfl) ?_
          refine G.r (Runs.pickt rfl rfl) ?_
          refine G.nt ?_
          refine W.sub (L' := [(109, _), (3, _), (4, _), (5, _), (9, _), (10, _), (86, _)]) (Sub.cons rfl (Sub.cons rfl (Sub.cons rfl (Sub.cons rfl (Sub.cons rfl (Sub.cons rfl (Sub.cons rfl Sub.nil))))))) ?_
          refine W.ite rfl (fun c109 => ?_) (fun c109 => ?_)
          ·exact absurd c109 (cmpF_npos (sq_any hd (by omega) g103).2)
          ·refine W.skip ?_
           refine V.block_normal ?_
           refine V.then ?_
           refine W.region ?_
           refine G.r (Runs.add rfl rfl (by unfold InR; omega)) ?_
           refine G.r (Runs.move rfl) ?_
           refine G.nil ?_
           exact V.next ((z + 1), (i23)) (show ((z + 1 : Nat) ≤ 6) ∧ (0 ≤ (i23 : Int)) from ⟨(by omega), (by omega)⟩) (show 6 - (z + 1 : Nat) < 6 - z from (by omega)) (Sub.cons rfl (Sub.cons rfl (Sub.cons rfl (Sub.cons rfl (Sub.cons rfl (Sub.cons lookO Sub.nil)))))) (show Fit κ _ (blk b18 [I64 ((sqG nd2 dg5 ((bestG nd2 dg5).F) ((bestG nd2 dg5).T)).num), I64 ((sqG nd2 dg5 ((bestG nd2 dg5).F) ((bestG nd2 dg5).T)).den)] 45 :: blk b17 [.slice ad13 (peelG nd2 dg5).F.length cp14, .slice ad15 (peelG nd2 dg5).T.length cp16, I64 ((peelG nd2 dg5).n), I64 ((peelG nd2 dg5).sq.num), I64 ((peelG nd2 dg5).sq.den)] 58 :: vc 3 (.slice ad13 (peelG nd2 dg5).F.length cp14) ((peelG nd2 dg5).F) :: vc 3 (.slice ad15 (peelG nd2 dg5).T.length cp16) ((peelG nd2 dg5).T) :: blk b12 [.slice ad8 (bestG nd2 dg5).F.length cp9, .slice ad10 (bestG nd2 dg5).T.length cp11, I64 ((bestG nd2 dg5).n), I64 ((bestG nd2 dg5).sq.num), I64 ((bestG nd2 dg5).sq.den)] 58 :: vc 3 (.slice ad8 (bestG nd2 dg5).F.length cp9) ((bestG nd2 dg5).F) :: vc 3 (.slice ad10 (bestG nd2 dg5).T.length cp11) ((bestG nd2 dg5).T) :: blk b7 [I64 (nd2), .slice ad3 dg5.length cp4] 54 :: vc 32 (.slice ad3 dg5.length cp4) (dg5) :: blk dk1 [.slice la ln lc, I64 ((i23))] 79 :: I) from (by first | exact Fit.s | exact Fit.sub))
         ·refine G.po ?_
          refine G.po ?_
          refine G.po ?_
          refine G.po ?_
          refine G.po ?_
          refine G.r (Runs.pickf rfl rfl) ?_
          refine G.nt ?_
          refine W.sub (L' := [(109, _), (3, _), (4, _), (5, _), (9, _), (10, _), (86, _)]) (Sub.cons rfl (Sub.cons rfl (Sub.cons rfl (Sub.cons rfl (Sub.cons rfl (Sub.cons rfl (Sub.cons rfl Sub.nil))))))) ?_
          refine W.no rfl ?_
          refine W.skip ?_
          refine V.block_normal ?_
          refine V.then ?_
          refine W.region ?_
          refine G.r (Runs.add rfl rfl (by unfold InR; omega)) ?_
          refine G.r (Runs.move rfl) ?_
          refine G.nil ?_
          exact V.next ((z + 1), (i23)) (show ((z + 1 : Nat) ≤ 6) ∧ (0 ≤ (i23 : Int)) from ⟨(by omega), (by omega)⟩) (show 6 - (z + 1 : Nat) < 6 - z from (by omega)) (Sub.cons rfl (Sub.cons rfl (Sub.cons rfl (Sub.cons rfl (Sub.cons rfl (Sub.cons lookO Sub.nil)))))) (show Fit κ _ (blk b18 [I64 ((sqG nd2 dg5 ((bestG nd2 dg5).F) ((bestG nd2 dg5).T)).num), I64 ((sqG nd2 dg5 ((bestG nd2 dg5).F) ((bestG nd2 dg5).T)).den)] 45 :: blk b17 [.slice ad13 (peelG nd2 dg5).F.length cp14, .slice ad15 (peelG nd2 dg5).T.length cp16, I64 ((peelG nd2 dg5).n), I64 ((peelG nd2 dg5).sq.num), I64 ((peelG nd2 dg5).sq.den)] 58 :: vc 3 (.slice ad13 (peelG nd2 dg5).F.length cp14) ((peelG nd2 dg5).F) :: vc 3 (.slice ad15 (peelG nd2 dg5).T.length cp16) ((peelG nd2 dg5).T) :: blk b12 [.slice ad8 (bestG nd2 dg5).F.length cp9, .slice ad10 (bestG nd2 dg5).T.length cp11, I64 ((bestG nd2 dg5).n), I64 ((bestG nd2 dg5).sq.num), I64 ((bestG nd2 dg5).sq.den)] 58 :: vc 3 (.slice ad8 (bestG nd2 dg5).F.length cp9) ((bestG nd2 dg5).F) :: vc 3 (.slice ad10 (bestG nd2 dg5).T.length cp11) ((bestG nd2 dg5).T) :: blk b7 [I64 (nd2), .slice ad3 dg5.length cp4] 54 :: vc 32 (.slice ad3 dg5.length cp4) (dg5) :: blk dk1 [.slice la ln lc, I64 ((i23))] 79 :: I) from (by first | exact Fit.s | exact Fit.sub))
        ·refine Step.eff rfl (Wanted.plain rfl) (Eff.alloc ty45 rfl) ?_
         rintro _ _ ⟨b28, rfl, rfl⟩
         refine ⟨Fit.sub, ?_⟩
         refine D.step (rs := [9]) (by kernel_rfl) rfl rfl (all1 ?_)
         refine Step.eff rfl (Wanted.plain rfl) (Eff.call call46 rfl rfl (SquareD_ok (nd := nd2) Sl.o Sl.o Sl.o (TabRd.fit hT Fit.m))) ?_
         rintro _ _ ⟨_, _, ⟨rfl, rfl⟩, rfl, rfl⟩
         refine ⟨Fit.sub, ?_⟩
         refine D.r 10 rfl (Runs.move rfl) ?_ (hJ := Fit.sub)
         refine D.r 11 rfl (Runs.extract rfl rfl) ?_ (hJ := Fit.sub)
         refine D.r 12 rfl (Runs.extract rfl rfl) ?_ (hJ := Fit.sub)
         refine D.step (rs := [14]) (by kernel_rfl) rfl rfl (all1 ?_)
         refine Step.eff rfl (Wanted.plain rfl) (Eff.st (cs := [_, _]) (vs := [_, _]) (cs' := [_, _]) ty45) ?_
         rintro _ _ ⟨rfl, rfl⟩
         refine ⟨Fit.sub, ?_⟩
         refine D.r 15 rfl (Runs.assign rfl) ?_ (hJ := Fit.sub)
         refine D.done (by kernel_rfl) ?_
         refine V.then ?_
         refine W.sub (L' := [(12, _), (11, _), (3, _), (4, _), (5, _), (9, _), (10, _), (86, _)]) (Sub.cons rfl (Sub.cons rfl (Sub.cons rfl (Sub.cons rfl (Sub.cons rfl (Sub.cons rfl (Sub.cons rfl (Sub.cons rfl Sub.nil)))))))) ?_
         refine W.sr ?_
         refine G.r (Runs.move rfl) ?_
         refine G.r (Runs.eql rfl rfl) ?_
         refine G.r (Runs.move rfl) ?_
         refine G.split (d := 103) rfl (fun g103 => ?_) (fun g103 => ?_)
         ·refine G.ro (Runs.lds (vs := [_, _]) ty45) ?_
          refine G.ro (Runs.fieldAddr fld58_3 rfl) ?_
          refine G.ro (Runs.lds (vs := [_, _]) ty45) ?_
          refine G.eff (Wanted.on rfl rfl rfl) (Eff.call call33 rfl rfl (Cmp01_ok (sqG nd2 dg5 o22 o26) (bestG nd2 dg5).sq (by first | exact hvB | exact hvP | exact (sq_any hd (by omega) g103).1) (by first | exact hvB | exact hvP | exact (sq_any hd (by omega) g103).1))) ?_
          rintro _ _ ⟨_, _, ⟨rfl, rfl⟩, rfl, rfl⟩
          refine G.ro (Runs.gtr rfl rfl) ?_
          refine G.r (Runs.pickt rfl rfl) ?_
          refine G.nt ?_
          refine W.sub (L' := [(109, _), (3, _), (4, _), (5, _), (9, _), (10, _), (86, _)]) (Sub.cons rfl (Sub.cons rfl (Sub.cons rfl (Sub.cons rfl (Sub.cons rfl (Sub.cons rfl (Sub.cons rfl Sub.nil))))))) ?_
          refine W.ite rfl (fun c109 => ?_) (fun c109 => ?_)
          ·exact absurd c109 (cmpF_npos (sq_any hd (by omega) g103).2)
          ·refine W.skip ?_
           refine V.block_normal ?_
           refine V.then ?_
           refine W.region ?_
           refine G.r (Runs.add rfl rfl (by unfold InR; omega)) ?_
           refine G.r (Runs.move rfl) ?_
           refine G.nil ?_
           exact V.next ((z + 1), (i23)) (show ((z + 1 : Nat) ≤ 6) ∧ (0 ≤ (i23 : Int)) from ⟨(by omega), (by omega)⟩) (show 6 - (z + 1 : Nat) < 6 - z from (by omega)) (Sub.cons rfl (Sub.cons rfl (Sub.cons rfl (Sub.cons rfl (Sub.cons rfl (Sub.cons lookO Sub.nil)))))) (show Fit κ _ (blk b18 [I64 ((sqG nd2 dg5 ((bestG nd2 dg5).F) ((bestG nd2 dg5).T)).num), I64 ((sqG nd2 dg5 ((bestG nd2 dg5).F) ((bestG nd2 dg5).T)).den)] 45 :: blk b17 [.slice ad13 (peelG nd2 dg5).F.length cp14, .slice ad15 (peelG nd2 dg5).T.length cp16, I64 ((peelG nd2 dg5).n), I64 ((peelG nd2 dg5).sq.num), I64 ((peelG nd2 dg5).sq.den)] 58 :: vc 3 (.slice ad13 (peelG nd2 dg5).F.length cp14) ((peelG nd2 dg5).F) :: vc 3 (.slice ad15 (peelG nd2 dg5).T.length cp16) ((peelG nd2 dg5).T) :: blk b12 [.slice ad8 (bestG nd2 dg5).F.length cp9, .slice ad10 (bestG nd2 dg5).T.length cp11, I64 ((bestG nd2 dg5).n), I64 ((bestG nd2 dg5).sq.num), I64 ((bestG nd2 dg5).sq.den)] 58 :: vc 3 (.slice ad8 (bestG nd2 dg5).F.length cp9) ((bestG nd2 dg5).F) :: vc 3 (.slice ad10 (bestG nd2 dg5).T.length cp11) ((bestG nd2 dg5).T) :: blk b7 [I64 (nd2), .slice ad3 dg5.length cp4] 54 :: vc 32 (.slice ad3 dg5.length cp4) (dg5) :: blk dk1 [.slice la ln lc, I64 ((i23))] 79 :: I) from (by first | exact Fit.s | exact Fit.sub))
         ·refine G.po ?_
          refine G.po ?_
          refine G.po ?_
          refine G.po ?_
          refine G.po ?_
          refine G.r (Runs.pickf rfl rfl) ?_
          refine G.nt ?_
          refine W.sub (L' := [(109, _), (3, _), (4, _), (5, _), (9, _), (10, _), (86, _)]) (Sub.cons rfl (Sub.cons rfl (Sub.cons rfl (Sub.cons rfl (Sub.cons rfl (Sub.cons rfl (Sub.cons rfl Sub.nil))))))) ?_
          refine W.no rfl ?_
          refine W.skip ?_
          refine V.block_normal ?_
          refine V.then ?_
          refine W.region ?_
          refine G.r (Runs.add rfl rfl (by unfold InR; omega)) ?_
          refine G.r (Runs.move rfl) ?_
          refine G.nil ?_
          exact V.next ((z + 1), (i23)) (show ((z + 1 : Nat) ≤ 6) ∧ (0 ≤ (i23 : Int)) from ⟨(by omega), (by omega)⟩) (show 6 - (z + 1 : Nat) < 6 - z from (by omega)) (Sub.cons rfl (Sub.cons rfl (Sub.cons rfl (Sub.cons rfl (Sub.cons rfl (Sub.cons lookO Sub.nil)))))) (show Fit κ _ (blk b18 [I64 ((sqG nd2 dg5 ((bestG nd2 dg5).F) ((bestG nd2 dg5).T)).num), I64 ((sqG nd2 dg5 ((bestG nd2 dg5).F) ((bestG nd2 dg5).T)).den)] 45 :: blk b17 [.slice ad13 (peelG nd2 dg5).F.length cp14, .slice ad15 (peelG nd2 dg5).T.length cp16, I64 ((peelG nd2 dg5).n), I64 ((peelG nd2 dg5).sq.num), I64 ((peelG nd2 dg5).sq.den)] 58 :: vc 3 (.slice ad13 (peelG nd2 dg5).F.length cp14) ((peelG nd2 dg5).F) :: vc 3 (.slice ad15 (peelG nd2 dg5).T.length cp16) ((peelG nd2 dg5).T) :: blk b12 [.slice ad8 (bestG nd2 dg5).F.length cp9, .slice ad10 (bestG nd2 dg5).T.length cp11, I64 ((bestG nd2 dg5).n), I64 ((bestG nd2 dg5).sq.num), I64 ((bestG nd2 dg5).sq.den)] 58 :: vc 3 (.slice ad8 (bestG nd2 dg5).F.length cp9) ((bestG nd2 dg5).F) :: vc 3 (.slice ad10 (bestG nd2 dg5).T.length cp11) ((bestG nd2 dg5).T) :: blk b7 [I64 (nd2), .slice ad3 dg5.length cp4] 54 :: vc 32 (.slice ad3 dg5.length cp4) (dg5) :: blk dk1 [.slice la ln lc, I64 ((i23))] 79 :: I) from (by first | exact Fit.s | exact Fit.sub))
       ·refine Step.eff rfl (Wanted.plain rfl) (Eff.alloc ty45 rfl) ?_
        rintro _ _ ⟨b29, rfl, rfl⟩
        refine ⟨Fit.sub, ?_⟩
        refine D.step (rs := [8]) (by kernel_rfl) rfl rfl (all1 ?_)
        refine Step.eff rfl (Wanted.plain rfl) (Eff.call call21 rfl rfl (Set_at (by repeat (first | exact AtF.head _ _ | apply AtF.tail)) (fun _ => Sl.fit hl Fit.m) (by omega) (by omega))) ?_
        rintro _ _ ⟨_, _, ⟨ad31, cp32, o33, i30, rfl, ho33, hlo33, hi30, rfl⟩, rfl, rfl⟩
        refine ⟨Fit.sub, ?_⟩
        show D Tryz.prog κ _ _ _ _ _ _ _ ([(97, .slice ad31 o33.length cp32), (11, .pointer (some ⟨b29, 0, none⟩)), (93, .slice ad20 o22.length cp21), (96, I64 (nd2)), (95, .pointer (some ⟨b7, 0, none⟩)), (94, .pointer (some ⟨dk1, 0, none⟩)), (92, I64 (nd2)), (91, .pointer (some ⟨b7, 0, none⟩)), (90, .pointer (some ⟨dk1, 0, none⟩)), (89, .agg #[I64 (nd2), .slice ad3 dg5.length cp4]), (87, .bool (decide (((z : Nat) : Int) < 6))), (3, .pointer (some ⟨dk1, 0, none⟩)), (4, .pointer (some ⟨b7, 0, none⟩)), (5, .pointer (some ⟨b12, 0, none⟩)), (9, .pointer (some ⟨b18, 0, none⟩)), (10, I64 (sqE nd2 dg5 ((bestG nd2 dg5).F) ((bestG nd2 dg5).T))), (86, I64 (((z : Nat) : Int)))] : Env) (vc 3 (.slice ad31 o33.length cp32) (o33) :: blk b29 [I64 (0), I64 (0)] 45 :: vc 3 (.slice ad20 o22.length cp21) (o22) :: blk b18 [I64 ((sqG nd2 dg5 ((bestG nd2 dg5).F) ((bestG nd2 dg5).T)).num), I64 ((sqG nd2 dg5 ((bestG nd2 dg5).F) ((bestG nd2 dg5).T)).den)] 45 :: blk b17 [.slice ad13 (peelG nd2 dg5).F.length cp14, .slice ad15 (peelG nd2 dg5).T.length cp16, I64 ((peelG nd2 dg5).n), I64 ((peelG nd2 dg5).sq.num), I64 ((peelG nd2 dg5).sq.den)] 58 :: vc 3 (.slice ad13 (peelG nd2 dg5).F.length cp14) ((peelG nd2 dg5).F) :: vc 3 (.slice ad15 (peelG nd2 dg5).T.length cp16) ((peelG nd2 dg5).T) :: blk b12 [.slice ad8 (bestG nd2 dg5).F.length cp9, .slice ad10 (bestG nd2 dg5).T.length cp11, I64 ((bestG nd2 dg5).n), I64 ((bestG nd2 dg5).sq.num), I64 ((bestG nd2 dg5).sq.den)] 58 :: vc 3 (.slice ad8 (bestG nd2 dg5).F.length cp9) ((bestG nd2 dg5).F) :: vc 3 (.slice ad10 (bestG nd2 dg5).T.length cp11) ((bestG nd2 dg5).T) :: blk b7 [I64 (nd2), .slice ad3 dg5.length cp4] 54 :: vc 32 (.slice ad3 dg5.length cp4) (dg5) :: blk dk1 [.slice la ln lc, I64 (i30)] 79 :: I)
        refine D.step (rs := [9]) (by kernel_rfl) rfl rfl (all1 ?_)
        refine Step.eff rfl (Wanted.plain rfl) (Eff.call call46 rfl rfl (SquareD_ok (nd := nd2) Sl.o Sl.o Sl.o (TabRd.fit hT Fit.m))) ?_
        rintro _ _ ⟨_, _, ⟨rfl, rfl⟩, rfl, rfl⟩
        refine ⟨Fit.sub, ?_⟩
        refine D.r 10 rfl (Runs.move rfl) ?_ (hJ := Fit.sub)
        refine D.r 11 rfl (Runs.extract rfl rfl) ?_ (hJ := Fit.sub)
        refine D.r 12 rfl (Runs.extract rfl rfl) ?_ (hJ := Fit.sub)
        refine D.step (rs := [14]) (by kernel_rfl) rfl rfl (all1 ?_)
        refine Step.eff rfl (Wanted.plain rfl) (Eff.st (cs := [_, _]) (vs := [_, _]) (cs' := [_, _]) ty45) ?_
        rintro _ _ ⟨rfl, rfl⟩
        refine ⟨Fit.sub, ?_⟩
        refine D.r 15 rfl (Runs.assign rfl) ?_ (hJ := Fit.sub)
        refine D.done (by kernel_rfl) ?_
        refine V.then ?_
        refine W.sub (L' := [(12, _), (11, _), (3, _), (4, _), (5, _), (9, _), (10, _), (86, _)]) (Sub.cons rfl (Sub.cons rfl (Sub.cons rfl (Sub.cons rfl (Sub.cons rfl (Sub.cons rfl (Sub.cons rfl (Sub.cons rfl Sub.nil)))))))) ?_
        refine W.sr ?_
        refine G.r (Runs.move rfl) ?_
        refine G.r (Runs.eql rfl rfl) ?_
        refine G.r (Runs.move rfl) ?_
        refine G.split (d := 103) rfl (fun g103 => ?_) (fun g103 => ?_)
        ·refine G.ro (Runs.lds (vs := [_, _]) ty45) ?_
         refine G.ro (Runs.fieldAddr fld58_3 rfl) ?_
         refine G.ro (Runs.lds (vs := [_, _]) ty45) ?_
         refine G.eff (Wanted.on rfl rfl rfl) (Eff.call call33 rfl rfl (Cmp01_ok (sqG nd2 dg5 o22 o33) (bestG nd2 dg5).sq (by first | exact hvB | exact hvP | exact (sq_any hd (by omega) g103).1) (by first | exact hvB | exact hvP | exact (sq_any hd (by omega) g103).1))) ?_
         rintro _ _ ⟨_, _, ⟨rfl, rfl⟩, rfl, rfl⟩
         refine G.ro (Runs.gtr rfl rfl) ?_
         refine G.r (Runs.pickt rfl rfl) ?_
         refine G.nt ?_
         refine W.sub (L' := [(109, _), (3, _), (4, _), (5, _), (9, _), (10, _), (86, _)]) (Sub.cons rfl (Sub.cons rfl (Sub.cons rfl (Sub.cons rfl (Sub.cons rfl (Sub.cons rfl (Sub.cons rfl Sub.nil))))))) ?_
         refine W.ite rfl (fun c109 => ?_) (fun c109 => ?_)
         ·exact absurd c109 (cmpF_npos (sq_any hd (by omega) g103).2)
         ·refine W.skip ?_
          refine V.block_normal ?_
          refine V.then ?_
          refine W.region ?_
          refine G.r (Runs.add rfl rfl (by unfold InR; omega)) ?_
          refine G.r (Runs.move rfl) ?_
          refine G.nil ?_
          exact V.next ((z + 1), (i30)) (show ((z + 1 : Nat) ≤ 6) ∧ (0 ≤ (i30 : Int)) from ⟨(by omega), (by omega)⟩) (show 6 - (z + 1 : Nat) < 6 - z from (by omega)) (Sub.cons rfl (Sub.cons rfl (Sub.cons rfl (Sub.cons rfl (Sub.cons rfl (Sub.cons lookO Sub.nil)))))) (show Fit κ _ (blk b18 [I64 ((sqG nd2 dg5 ((bestG nd2 dg5).F) ((bestG nd2 dg5).T)).num), I64 ((sqG nd2 dg5 ((bestG nd2 dg5).F) ((bestG nd2 dg5).T)).den)] 45 :: blk b17 [.slice ad13 (peelG nd2 dg5).F.length cp14, .slice ad15 (peelG nd2 dg5).T.length cp16, I64 ((peelG nd2 dg5).n), I64 ((peelG nd2 dg5).sq.num), I64 ((peelG nd2 dg5).sq.den)] 58 :: vc 3 (.slice ad13 (peelG nd2 dg5).F.length cp14) ((peelG nd2 dg5).F) :: vc 3 (.slice ad15 (peelG nd2 dg5).T.length cp16) ((peelG nd2 dg5).T) :: blk b12 [.slice ad8 (bestG nd2 dg5).F.length cp9, .slice ad10 (bestG nd2 dg5).T.length cp11, I64 ((bestG nd2 dg5).n), I64 ((bestG nd2 dg5).sq.num), I64 ((bestG nd2 dg5).sq.den)] 58 :: vc 3 (.slice ad8 (bestG nd2 dg5).F.length cp9) ((bestG nd2 dg5).F) :: vc 3 (.slice ad10 (bestG nd2 dg5).T.length cp11) ((bestG nd2 dg5).T) :: blk b7 [I64 (nd2), .slice ad3 dg5.length cp4] 54 :: vc 32 (.slice ad3 dg5.length cp4) (dg5) :: blk dk1 [.slice la ln lc, I64 ((i30))] 79 :: I) from (by first | exact Fit.s | exact Fit.sub))
        ·refine G.po ?_
         refine G.po ?_
         refine G.po ?_
         refine G.po ?_
         refine G.po ?_
         refine G.r (Runs.pickf rfl rfl) ?_
         refine G.nt ?_
         refine W.sub (L' := [(109, _), (3, _), (4, _), (5, _), (9, _), (10, _), (86, _)]) (Sub.cons rfl (Sub.cons rfl (Sub.cons rfl (Sub.cons rfl (Sub.cons rfl (Sub.cons rfl (Sub.cons rfl Sub.nil))))))) ?_
         refine W.no rfl ?_
         refine W.skip ?_
         refine V.block_normal ?_
         refine V.then ?_
         refine W.region ?_
         refine G.r (Runs.add rfl rfl (by unfold InR; omega)) ?_
         refine G.r (Runs.move rfl) ?_
         refine G.nil ?_
         exact V.next ((z + 1), (i30)) (show ((z + 1 : Nat) ≤ 6) ∧ (0 ≤ (i30 : Int)) from ⟨(by omega), (by omega)⟩) (show 6 - (z + 1 : Nat) < 6 - z from (by omega)) (Sub.cons rfl (Sub.cons rfl (Sub.cons rfl (Sub.cons rfl (Sub.cons rfl (Sub.cons lookO Sub.nil)))))) (show Fit κ _ (blk b18 [I64 ((sqG nd2 dg5 ((bestG nd2 dg5).F) ((bestG nd2 dg5).T)).num), I64 ((sqG nd2 dg5 ((bestG nd2 dg5).F) ((bestG nd2 dg5).T)).den)] 45 :: blk b17 [.slice ad13 (peelG nd2 dg5).F.length cp14, .slice ad15 (peelG nd2 dg5).T.length cp16, I64 ((peelG nd2 dg5).n), I64 ((peelG nd2 dg5).sq.num), I64 ((peelG nd2 dg5).sq.den)] 58 :: vc 3 (.slice ad13 (peelG nd2 dg5).F.length cp14) ((peelG nd2 dg5).F) :: vc 3 (.slice ad15 (peelG nd2 dg5).T.length cp16) ((peelG nd2 dg5).T) :: blk b12 [.slice ad8 (bestG nd2 dg5).F.length cp9, .slice ad10 (bestG nd2 dg5).T.length cp11, I64 ((bestG nd2 dg5).n), I64 ((bestG nd2 dg5).sq.num), I64 ((bestG nd2 dg5).sq.den)] 58 :: vc 3 (.slice ad8 (bestG nd2 dg5).F.length cp9) ((bestG nd2 dg5).F) :: vc 3 (.slice ad10 (bestG nd2 dg5).T.length cp11) ((bestG nd2 dg5).T) :: blk b7 [I64 (nd2), .slice ad3 dg5.length cp4] 54 :: vc 32 (.slice ad3 dg5.length cp4) (dg5) :: blk dk1 [.slice la ln lc, I64 ((i30))] 79 :: I) from (by first | exact Fit.s | exact Fit.sub))
      ·refine Step.eff rfl (Wanted.plain rfl) (Eff.alloc ty45 rfl) ?_
       rintro _ _ ⟨b34, rfl, rfl⟩
       refine ⟨Fit.sub, ?_⟩
       refine D.step (rs := [4]) (by kernel_rfl) rfl rfl (all1 ?_)
       refine Step.eff rfl (Wanted.plain rfl) (Eff.call call21 rfl rfl (Set_at (by repeat (first | exact AtF.head _ _ | apply AtF.tail)) (fun _ => Sl.fit hl Fit.m) (by omega) (by omega))) ?_
       rintro _ _ ⟨_, _, ⟨ad36, cp37, o38, i35, rfl, ho38, hlo38, hi35, rfl⟩, rfl, rfl⟩
       refine ⟨Fit.sub, ?_⟩
       show D Tryz.prog κ _ _ _ _ _ _ _ ([(93, .slice ad36 o38.length cp37), (11, .pointer (some ⟨b34, 0, none⟩)), (96, I64 (nd2)), (95, .pointer (some ⟨b7, 0, none⟩)), (94, .pointer (some ⟨dk1, 0, none⟩)), (92, I64 (nd2)), (91, .pointer (some ⟨b7, 0, none⟩)), (90, .pointer (some ⟨dk1, 0, none⟩)), (89, .agg #[I64 (nd2), .slice ad3 dg5.length cp4]), (87, .bool (decide (((z : Nat) : Int) < 6))), (3, .pointer (some ⟨dk1, 0, none⟩)), (4, .pointer (some ⟨b7, 0, none⟩)), (5, .pointer (some ⟨b12, 0, none⟩)), (9, .pointer (some ⟨b18, 0, none⟩)), (10, I64 (sqE nd2 dg5 ((bestG nd2 dg5).F) ((bestG nd2 dg5).T))), (86, I64 (((z : Nat) : Int)))] : Env) (vc 3 (.slice ad36 o38.length cp37) (o38) :: blk b34 [I64 (0), I64 (0)] 45 :: blk b18 [I64 ((sqG nd2 dg5 ((bestG nd2 dg5).F) ((bestG nd2 dg5).T)).num), I64 ((sqG nd2 dg5 ((bestG nd2 dg5).F) ((bestG nd2 dg5).T)).den)] 45 :: blk b17 [.slice ad13 (peelG nd2 dg5).F.length cp14, .slice ad15 (peelG nd2 dg5).T.length cp16, I64 ((peelG nd2 dg5).n), I64 ((peelG nd2 dg5).sq.num), I64 ((peelG nd2 dg5).sq.den)] 58 :: vc 3 (.slice ad13 (peelG nd2 dg5).F.length cp14) ((peelG nd2 dg5).F) :: vc 3 (.slice ad15 (peelG nd2 dg5).T.length cp16) ((peelG nd2 dg5).T) :: blk b12 [.slice ad8 (bestG nd2 dg5).F.length cp9, .slice ad10 (bestG nd2 dg5).T.length cp11, I64 ((bestG nd2 dg5).n), I64 ((bestG nd2 dg5).sq.num), I64 ((bestG nd2 dg5).sq.den)] 58 :: vc 3 (.slice ad8 (bestG nd2 dg5).F.length cp9) ((bestG nd2 dg5).F) :: vc 3 (.slice ad10 (bestG nd2 dg5).T.length cp11) ((bestG nd2 dg5).T) :: blk b7 [I64 (nd2), .slice ad3 dg5.length cp4] 54 :: vc 32 (.slice ad3 dg5.length cp4) (dg5) :: blk dk1 [.slice la ln lc, I64 (i35)] 79 :: I)
       refine D.step (rs := [8]) (by kernel_rfl) rfl rfl (all1 ?_)
       refine Step.eff rfl (Wanted.plain rfl) (Eff.call call21 rfl rfl (Set_at (by repeat (first | exact AtF.head _ _ | apply AtF.tail)) (fun _ => Sl.fit hl Fit.m) (by omega) (by omega))) ?_
       rintro _ _ ⟨_, _, ⟨ad40, cp41, o42, i39, rfl, ho42, hlo42, hi39, rfl⟩, rfl, rfl⟩
       refine ⟨Fit.sub, ?_⟩
       show D Tryz.prog κ _ _ _ _ _ _ _ ([(97, .slice ad40 o42.length cp41), (93, .slice ad36 o38.length cp37), (11, .pointer (some ⟨b34, 0, none⟩)), (96, I64 (nd2)), (95, .pointer (some ⟨b7, 0, none⟩)), (94, .pointer (some ⟨dk1, 0, none⟩)), (92, I64 (nd2)), (91, .pointer (some ⟨b7, 0, none⟩)), (90, .pointer (some ⟨dk1, 0, none⟩)), (89, .agg #[I64 (nd2), .slice ad3 dg5.length cp4]), (87, .bool (decide (((z : Nat) : Int) < 6))), (3, .pointer (some ⟨dk1, 0, none⟩)), (4, .pointer (some ⟨b7, 0, none⟩)), (5, .pointer (some ⟨b12, 0, none⟩)), (9, .pointer (some ⟨b18, 0, none⟩)), (10, I64 (sqE nd2 dg5 ((bestG nd2 dg5).F) ((bestG nd2 dg5).T))), (86, I64 (((z : Nat) : Int)))] : Env) (vc 3 (.slice ad40 o42.length cp41) (o42) :: vc 3 (.slice ad36 o38.length cp37) (o38) :: blk b34 [I64 (0), I64 (0)] 45 :: blk b18 [I64 ((sqG nd2 dg5 ((bestG nd2 dg5).F) ((bestG nd2 dg5).T)).num), I64 ((sqG nd2 dg5 ((bestG nd2 dg5).F) ((bestG nd2 dg5).T)).den)] 45 :: blk b17 [.slice ad13 (peelG nd2 dg5).F.length cp14, .slice ad15 (peelG nd2 dg5).T.length cp16, I64 ((peelG nd2 dg5).n), I64 ((peelG nd2 dg5).sq.num), I64 ((peelG nd2 dg5).sq.den)] 58 :: vc 3 (.slice ad13 (peelG nd2 dg5).F.length cp14) ((peelG nd2 dg5).F) :: vc 3 (.slice ad15 (peelG nd2 dg5).T.length cp16) ((peelG nd2 dg5).T) :: blk b12 [.slice ad8 (bestG nd2 dg5).F.length cp9, .slice ad10 (bestG nd2 dg5).T.length cp11, I64 ((bestG nd2 dg5).n), I64 ((bestG nd2 dg5).sq.num), I64 ((bestG nd2 dg5).sq.den)] 58 :: vc 3 (.slice ad8 (bestG nd2 dg5).F.length cp9) ((bestG nd2 dg5).F) :: vc 3 (.slice ad10 (bestG nd2 dg5).T.length cp11) ((bestG nd2 dg5).T) :: blk b7 [I64 (nd2), .slice ad3 dg5.length cp4] 54 :: vc 32 (.slice ad3 dg5.length cp4) (dg5) :: blk dk1 [.slice la ln lc, I64 (i39)] 79 :: I)
       refine D.step (rs := [9]) (by kernel_rfl) rfl rfl (all1 ?_)
       refine Step.eff rfl (Wanted.plain rfl) (Eff.call call46 rfl rfl (SquareD_ok (nd := nd2) Sl.o Sl.o Sl.o (TabRd.fit hT Fit.m))) ?_
       rintro _ _ ⟨_, _, ⟨rfl, rfl⟩, rfl, rfl⟩
       refine ⟨Fit.sub, ?_⟩
       refine D.r 10 rfl (Runs.move rfl) ?_ (hJ := Fit.sub)
       refine D.r 11 rfl (Runs.extract rfl rfl) ?_ (hJ := Fit.sub)
       refine D.r 12 rfl (Runs.extract rfl rfl) ?_ (hJ := Fit.sub)
       refine D.step (rs := [14]) (by kernel_rfl) rfl rfl (all1 ?_)
       refine Step.eff rfl (Wanted.plain rfl) (Eff.st (cs := [_, _]) (vs := [_, _]) (cs' := [_, _]) ty45) ?_
       rintro _ _ ⟨rfl, rfl⟩
       refine ⟨Fit.sub, ?_⟩
       refine D.r 15 rfl (Runs.assign rfl) ?_ (hJ := Fit.sub)
       refine D.done (by kernel_rfl) ?_
       refine V.then ?_
       refine W.sub (L' := [(12, _), (11, _), (3, _), (4, _), (5, _), (9, _), (10, _), (86, _)]) (Sub.cons rfl (Sub.cons rfl (Sub.cons rfl (Sub.cons rfl (Sub.cons rfl (Sub.cons rfl (Sub.cons rfl (Sub.cons rfl Sub.nil)))))))) ?_
       refine W.sr ?_
       refine G.r (Runs.move rfl) ?_
       refine G.r (Runs.eql rfl rfl) ?_
       refine G.r (Runs.move rfl) ?_
       refine G.split (d := 103) rfl (fun g103 => ?_) (fun g103 => ?_)
       ·refine G.ro (Runs.lds (vs := [_, _]) ty45) ?_
        refine G.ro (Runs.fieldAddr fld58_3 rfl) ?_
        refine G.ro (Runs.lds (vs := [_, _]) ty45) ?_
        refine G.eff (Wanted.on rfl rfl rfl) (Eff.call call33 rfl rfl (Cmp01_ok (sqG nd2 dg5 o38 o42) (bestG nd2 dg5).sq (by first | exact hvB | exact hvP | exact (sq_any hd (by omega) g103).1) (by first | exact hvB | exact hvP | exact (sq_any hd (by omega) g103).1))) ?_
        rintro _ _ ⟨_, _, ⟨rfl, rfl⟩, rfl, rfl⟩
        refine G.ro (Runs.gtr rfl rfl) ?_
        refine G.r (Runs.pickt rfl rfl) ?_
        refine G.nt ?_
        refine W.sub (L' := [(109, _), (3, _), (4, _), (5, _), (9, _), (10, _), (86, _)]) (Sub.cons rfl (Sub.cons rfl (Sub.cons rfl (Sub.cons rfl (Sub.cons rfl (Sub.cons rfl (Sub.cons rfl Sub.nil))))))) ?_
        refine W.ite rfl (fun c109 => ?_) (fun c109 => ?_)
        ·exact absurd c109 (cmpF_npos (sq_any hd (by omega) g103).2)
        ·refine W.skip ?_
         refine V.block_normal ?_
         refine V.then ?_
         refine W.region ?_
         refine G.r (Runs.add rfl rfl (by unfold InR; omega)) ?_
         refine G.r (Runs.move rfl) ?_
         refine G.nil ?_
         exact V.next ((z + 1), (i39)) (show ((z + 1 : Nat) ≤ 6) ∧ (0 ≤ (i39 : Int)) from ⟨(by omega), (by omega)⟩) (show 6 - (z + 1 : Nat) < 6 - z from (by omega)) (Sub.cons rfl (Sub.cons rfl (Sub.cons rfl (Sub.cons rfl (Sub.cons rfl (Sub.cons lookO Sub.nil)))))) (show Fit κ _ (blk b18 [I64 ((sqG nd2 dg5 ((bestG nd2 dg5).F) ((bestG nd2 dg5).T)).num), I64 ((sqG nd2 dg5 ((bestG nd2 dg5).F) ((bestG nd2 dg5).T)).den)] 45 :: blk b17 [.slice ad13 (peelG nd2 dg5).F.length cp14, .slice ad15 (peelG nd2 dg5).T.length cp16, I64 ((peelG nd2 dg5).n), I64 ((peelG nd2 dg5).sq.num), I64 ((peelG nd2 dg5).sq.den)] 58 :: vc 3 (.slice ad13 (peelG nd2 dg5).F.length cp14) ((peelG nd2 dg5).F) :: vc 3 (.slice ad15 (peelG nd2 dg5).T.length cp16) ((peelG nd2 dg5).T) :: blk b12 [.slice ad8 (bestG nd2 dg5).F.length cp9, .slice ad10 (bestG nd2 dg5).T.length cp11, I64 ((bestG nd2 dg5).n), I64 ((bestG nd2 dg5).sq.num), I64 ((bestG nd2 dg5).sq.den)] 58 :: vc 3 (.slice ad8 (bestG nd2 dg5).F.length cp9) ((bestG nd2 dg5).F) :: vc 3 (.slice ad10 (bestG nd2 dg5).T.length cp11) ((bestG nd2 dg5).T) :: blk b7 [I64 (nd2), .slice ad3 dg5.length cp4] 54 :: vc 32 (.slice ad3 dg5.length cp4) (dg5) :: blk dk1 [.slice la ln lc, I64 ((i39))] 79 :: I) from (by first | exact Fit.s | exact Fit.sub))
       ·refine G.po ?_
        refine G.po ?_
        refine G.po ?_
        refine G.po ?_
        refine G.po ?_
        refine G.r (Runs.pickf rfl rfl) ?_
        refine G.nt ?_
        refine W.sub (L' := [(109, _), (3, _), (4, _), (5, _), (9, _), (10, _), (86, _)]) (Sub.cons rfl (Sub.cons rfl (Sub.cons rfl (Sub.cons rfl (Sub.cons rfl (Sub.cons rfl (Sub.cons rfl Sub.nil))))))) ?_
        refine W.no rfl ?_
        refine W.skip ?_
        refine V.block_normal ?_
        refine V.then ?_
        refine W.region ?_
        refine G.r (Runs.add rfl rfl (by unfold InR; omega)) ?_
        refine G.r (Runs.move rfl) ?_
        refine G.nil ?_
        exact V.next ((z + 1), (i39)) (show ((z + 1 : Nat) ≤ 6) ∧ (0 ≤ (i39 : Int)) from ⟨(by omega), (by omega)⟩) (show 6 - (z + 1 : Nat) < 6 - z from (by omega)) (Sub.cons rfl (Sub.cons rfl (Sub.cons rfl (Sub.cons rfl (Sub.cons rfl (Sub.cons lookO Sub.nil)))))) (show Fit κ _ (blk b18 [I64 ((sqG nd2 dg5 ((bestG nd2 dg5).F) ((bestG nd2 dg5).T)).num), I64 ((sqG nd2 dg5 ((bestG nd2 dg5).F) ((bestG nd2 dg5).T)).den)] 45 :: blk b17 [.slice ad13 (peelG nd2 dg5).F.length cp14, .slice ad15 (peelG nd2 dg5).T.length cp16, I64 ((peelG nd2 dg5).n), I64 ((peelG nd2 dg5).sq.num), I64 ((peelG nd2 dg5).sq.den)] 58 :: vc 3 (.slice ad13 (peelG nd2 dg5).F.length cp14) ((peelG nd2 dg5).F) :: vc 3 (.slice ad15 (peelG nd2 dg5).T.length cp16) ((peelG nd2 dg5).T) :: blk b12 [.slice ad8 (bestG nd2 dg5).F.length cp9, .slice ad10 (bestG nd2 dg5).T.length cp11, I64 ((bestG nd2 dg5).n), I64 ((bestG nd2 dg5).sq.num), I64 ((bestG nd2 dg5).sq.den)] 58 :: vc 3 (.slice ad8 (bestG nd2 dg5).F.length cp9) ((bestG nd2 dg5).F) :: vc 3 (.slice ad10 (bestG nd2 dg5).T.length cp11) ((bestG nd2 dg5).T) :: blk b7 [I64 (nd2), .slice ad3 dg5.length cp4] 54 :: vc 32 (.slice ad3 dg5.length cp4) (dg5) :: blk dk1 [.slice la ln lc, I64 ((i39))] 79 :: I) from (by first | exact Fit.s | exact Fit.sub))
     ·refine W.exit ?_
      refine V.then_exit ?_
      refine V.then_exit ?_
      refine V.block_hit ?_
      refine V.then ?_
      refine W.seq ?_
      refine W.drawn mixed ?_
      refine A.hold (blk b18 [I64 ((sqG nd2 dg5 ((bestG nd2 dg5).F) ((bestG nd2 dg5).T)).num), I64 ((sqG nd2 dg5 ((bestG nd2 dg5).F) ((bestG nd2 dg5).T)).den)] 45 :: blk b17 [.slice ad13 (peelG nd2 dg5).F.length cp14, .slice ad15 (peelG nd2 dg5).T.length cp16, I64 ((peelG nd2 dg5).n), I64 ((peelG nd2 dg5).sq.num), I64 ((peelG nd2 dg5).sq.den)] 58 :: vc 3 (.slice ad13 (peelG nd2 dg5).F.length cp14) ((peelG nd2 dg5).F) :: vc 3 (.slice ad15 (peelG nd2 dg5).T.length cp16) ((peelG nd2 dg5).T) :: blk b12 [.slice ad8 (bestG nd2 dg5).F.length cp9, .slice ad10 (bestG nd2 dg5).T.length cp11, I64 ((bestG nd2 dg5).n), I64 ((bestG nd2 dg5).sq.num), I64 ((bestG nd2 dg5).sq.den)] 58 :: vc 3 (.slice ad8 (bestG nd2 dg5).F.length cp9) ((bestG nd2 dg5).F) :: vc 3 (.slice ad10 (bestG nd2 dg5).T.length cp11) ((bestG nd2 dg5).T) :: blk b7 [I64 (nd2), .slice ad3 dg5.length cp4] 54 :: vc 32 (.slice ad3 dg5.length cp4) (dg5) :: blk dk1 [.slice la ln lc, I64 (iqz)] 79 :: I) 23 ?_
      refine D.r 0 rfl (Runs.move rfl) ?_ (hJ := Fit.sub)
      refine D.r 1 rfl (Runs.eql rfl rfl) ?_ (hJ := Fit.sub)
      refine D.r 2 rfl (Runs.move rfl) ?_ (hJ := Fit.sub)
      refine D.split (d := 113) rfl (fun g113 => ?_) (fun g113 => ?_)
      ·refine D.read 3 rfl (by kernel_rfl) (by kernel_rfl) (by kernel_rfl) rfl (by kernel_rfl) (fun _ _ _ _ h => h) (Wanted.on rfl rfl rfl) rfl rfl Fit.sub (Runs.lds (vs := [_, _]) ty45) ?_
       refine D.read 4 rfl (by kernel_rfl) (by kernel_rfl) (by kernel_rfl) rfl (by kernel_rfl) (fun _ _ _ _ h => h) (Wanted.on rfl rfl rfl) rfl rfl Fit.sub (Runs.fieldAddr fld58_3 rfl) ?_
       refine D.read 5 rfl (by kernel_rfl) (by kernel_rfl) (by kernel_rfl) rfl (by kernel_rfl) (fun _ _ _ _ h => h) (Wanted.on rfl rfl rfl) rfl rfl Fit.sub (Runs.lds (vs := [_, _]) ty45) ?_
       refine D.read 6 rfl (by kernel_rfl) (by kernel_rfl) (by kernel_rfl) rfl (by kernel_rfl) (fun _ _ _ _ h => h) (Wanted.on rfl rfl rfl) rfl rfl Fit.sub (Runs.eqlT (α := Fr) (a := (sqG nd2 dg5 ((bestG nd2 dg5).F) ((bestG nd2 dg5).T))) (b := (bestG nd2 dg5).sq) eqt45 rfl rfl) ?_
       refine D.r 7 rfl (Runs.pickt rfl rfl) ?_ (hJ := Fit.sub)
       refine D.r 8 rfl (Runs.move rfl) ?_ (hJ := Fit.sub)
       refine D.split (d := 119) rfl (fun g119 => ?_) (fun g119 => ?_)
       ·refine D.read 9 rfl (by kernel_rfl) (by kernel_rfl) (by kernel_rfl) rfl (by kernel_rfl) (fun _ _ _ _ h => h) (Wanted.on rfl rfl rfl) rfl rfl Fit.sub (Runs.lds (vs := [_, _]) ty54) ?_
        refine D.read 10 rfl (by kernel_rfl) (by kernel_rfl) (by kernel_rfl) rfl (by kernel_rfl) (fun _ _ _ _ h => h) (Wanted.on rfl rfl rfl) rfl rfl Fit.sub (Runs.fieldAddr fld58_0 rfl) ?_
        refine D.read 11 rfl (by kernel_rfl) (by kernel_rfl) (by kernel_rfl) rfl (by kernel_rfl) (fun _ _ _ _ h => h) (Wanted.on rfl rfl rfl) rfl rfl Fit.sub (Runs.ld ty22) ?_
        refine D.read 12 rfl (by kernel_rfl) (by kernel_rfl) (by kernel_rfl) rfl (by kernel_rfl) (fun _ _ _ _ h => h) (Wanted.on rfl rfl rfl) rfl rfl Fit.sub (Runs.fieldAddr fld58_1 rfl) ?_
        refine D.read 13 rfl (by kernel_rfl) (by kernel_rfl) (by kernel_rfl) rfl (by kernel_rfl) (fun _ _ _ _ h => h) (Wanted.on rfl rfl rfl) rfl rfl Fit.sub (Runs.ld ty22) ?_
        refine D.read 15 rfl (by kernel_rfl) (by kernel_rfl) (by kernel_rfl) rfl (by kernel_rfl) (fun _ _ _ _ h => h) (Wanted.on rfl rfl rfl) rfl rfl Fit.sub (Runs.fieldAddr fld58_2 rfl) ?_
        refine D.read 16 rfl (by kernel_rfl) (by kernel_rfl) (by kernel_rfl) rfl (by kernel_rfl) (fun _ _ _ _ h => h) (Wanted.on rfl rfl rfl) rfl rfl Fit.sub (Runs.ld ty3) ?_
        refine D.step (rs := [14]) (by kernel_rfl) rfl rfl (all1 ?_)
        refine Step.eff rfl (Wanted.on rfl rfl rfl) (Eff.call call47 rfl rfl (BetweenD_ok (nd := nd2) Sl.o Sl.o Sl.o (TabRd.fit hT Fit.m))) ?_
        rintro _ _ ⟨_, _, ⟨rfl, rfl⟩, rfl, rfl⟩
        refine ⟨Fit.sub, ?_⟩
        refine D.read 17 rfl (by kernel_rfl) (by kernel_rfl) (by kernel_rfl) rfl (by kernel_rfl) (fun _ _ _ _ h => h) (Wanted.on rfl rfl rfl) rfl rfl Fit.sub (Runs.eql rfl rfl) ?_
        refine D.r 18 rfl (Runs.pickt rfl rfl) ?_ (hJ := Fit.sub)
        refine D.r 19 rfl (Runs.move rfl) ?_ (hJ := Fit.sub)
        refine D.split (d := 130) rfl (fun g130 => ?_) (fun g130 => ?_)
        ·refine D.step (rs := [20]) (by kernel_rfl) rfl rfl (all1 ?_)
         refine Step.eff rfl (Wanted.on rfl rfl rfl) (Eff.call call36 rfl rfl (Awake23_ok (TabRd.fit hT Fit.m))) ?_
         rintro _ _ ⟨_, _, ⟨rfl, rfl⟩, rfl, rfl⟩
         refine ⟨Fit.sub, ?_⟩
         refine D.r 21 rfl (Runs.pickt rfl rfl) ?_ (hJ := Fit.sub)
         refine D.r 22 rfl (Runs.assign rfl) ?_ (hJ := Fit.sub)
         refine D.done (by kernel_rfl) ?_
         refine V.then ?_
         refine W.sub (L' := [(2, _)]) (Sub.cons rfl Sub.nil) ?_
         refine W.ret ?_
         exact V.ret1 rfl rfl (I) Fit.m ⟨rfl, rfl⟩
        ·exact absurd hsy.2.2 g130
       ·exact absurd hsy.2.1 g119
      ·exact absurd hsy.1 g113

end Go.Sl
