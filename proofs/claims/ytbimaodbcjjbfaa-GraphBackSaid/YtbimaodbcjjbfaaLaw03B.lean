/- A part of the proofs of statements of this seat: contracts of functions, and the plain laws that they lean on. No conditions. -/
import Derived.Test.YtbimaodbcjjbfaaGraphL5
namespace Go.Sl
open Go.Proofs
set_option linter.unusedVariables false
set_option linter.unusedSimpArgs false
set_option maxRecDepth 4000
theorem add_back {nd : Int} {es : List Pt} {e : Pt} (h : GrOk nd es) (he : e ∈ es) : insB Pt.lt (without es e) e = es := by
  refine Pt.lin.uniq (Pt.lin.insB _ (h.asc.sublist List.filter_sublist)) h.asc fun p => ?_
  rw [mem_insB, mem_without]
  constructor
  · rintro (rfl | h1)
    · exact he
    · exact h1.1
  · intro h1
    by_cases hp : p = e
    · exact .inl hp
    · exact .inr ⟨h1, hp⟩
theorem rem_back {nd : Int} {es : List Pt} {e : Pt} (h : GrOk nd es) (he : e ∉ es) : without (insB Pt.lt es e) e = es := by
  refine Pt.lin.uniq ((Pt.lin.insB e h.asc).sublist List.filter_sublist) h.asc fun p => ?_
  rw [mem_without, mem_insB]
  constructor
  · rintro ⟨h1 | h1, h2⟩
    · exact absurd h1 h2
    · exact h1
  · intro h1; exact ⟨.inr h1, fun h2 => he (h2 ▸ h1)⟩
theorem insB_new {nd : Int} {es : List Pt} {e : Pt} (h : GrOk nd es) (he : e ∉ es) : (insB Pt.lt es e).length = es.length + 1 := by
  have hp : (insB Pt.lt es e).Perm (e :: es) := (List.perm_ext_iff_of_nodup (asc_nodup (Pt.lin.insB e h.asc)) (List.nodup_cons.2 ⟨he, asc_nodup h.asc⟩)).2 fun p => by rw [mem_insB, List.mem_cons]
  rw [hp.length_eq, List.length_cons]
theorem endsP_swap {nd u v : Int} (h : endsP nd u v) : endsP nd v u := by unfold endsP at *; omega
/-- Added, then removed; removed, then added. -/
theorem back_rem {nd u v : Int} {es : List Pt} (h : addG nd es u v = 0) : remG nd (insB Pt.lt es (edgeP u v)) v u = 0 := by
  obtain ⟨h1, h2, h3⟩ := addG_zero.1 h
  exact remG_zero.2 ⟨h1.add h2, endsP_swap h2, by rw [edgeP_swap]; exact (mem_insB _ _ _).2 (.inl rfl)⟩
theorem addG_15 {nd u v : Int} {es : List Pt} (hG : GrOk nd es) (h : addG nd es u v = 15) : endsP nd u v ∧ edgeP u v ∈ es := by
  unfold addG at h
  by_cases h1 : changeG nd es u v = 0
  · rw [if_neg (by simp [h1])] at h
    refine ⟨(changeG_zero.1 h1).2, ?_⟩
    by_cases h2 : edgeP u v ∈ es
    · exact h2
    · rw [if_neg h2] at h; cases h
  · rw [if_pos h1] at h
    unfold changeG at h
    rw [if_neg (by rw [checkG_ok.2 hG]; decide)] at h
    split at h <;> cases h
theorem back_there {nd u v : Int} {es : List Pt} (hG : GrOk nd es) (h : addG nd es u v = 15) : remG nd es u v = 0 ∧ addG nd (without es (edgeP u v)) v u = 0 := by
  obtain ⟨h2, h3⟩ := addG_15 hG h
  exact ⟨remG_zero.2 ⟨hG, h2, h3⟩, addG_zero.2 ⟨hG.rem, endsP_swap h2, by rw [edgeP_swap, mem_without]; exact fun h => h.2 (edgeP_swap v u ▸ rfl)⟩⟩

set_option maxHeartbeats 4000000 in
theorem GraphBack_walk {κ : Ctx} {I : List Item} {la : Option Addr} {ln lc : Nat} {ls : List Int} (hl : Sl κ I (.slice la ln lc) ls) :
    CallS Try.prog κ 20 [.slice la ln lc] I (fun r J => r = .bool true ∧ I = J) := by
 refine CallS.enter (L := [(0, .slice la ln lc)]) Try.func20 rfl rfl rfl rfl ?_
 refine W.sr ?_
 refine G.r (Runs.assign rfl) ?_
 refine G.nt ?_
 refine W.sr ?_
 refine G.r (Runs.move rfl) ?_
 refine G.e (Eff.call call22 rfl rfl New_ok) ?_
 rintro _ _ ⟨_, _, ⟨dk1, rfl, rfl⟩, rfl, rfl⟩
 show G Try.prog κ _ _ _ _ ([(16, .pointer (some ⟨dk1, 0, none⟩)), (15, .slice la ln lc), (2, .bool false), (0, .slice la ln lc)] : Env) (blk dk1 [.slice la ln lc, I64 (0)] 129 :: I)
 have hi0 : (0 : Int) ≤ 0 := Int.le_refl _
 refine G.r (Runs.assign rfl) ?_
 refine G.nt ?_
 refine W.sr ?_
 refine G.r (Runs.move rfl) ?_
 refine G.e (Eff.call call69 rfl rfl (MkGraph_at (by repeat (first | exact AtF.head _ _ | apply AtF.tail)) (fun _ => Sl.fit hl Fit.m) (by omega)  (by omega))) ?_
 rintro _ _ ⟨_, _, ⟨⟨nd2, ad3, cp4, es5, i6⟩, ⟨⟨rfl, hges5⟩, hi6⟩, rfl⟩, rfl, rfl⟩
 show G Try.prog κ _ _ _ _ ([(18, .agg #[I64 (nd2), .slice ad3 es5.length cp4]), (17, .pointer (some ⟨dk1, 0, none⟩)), (3, .pointer (some ⟨dk1, 0, none⟩)), (16, .pointer (some ⟨dk1, 0, none⟩)), (15, .slice la ln lc), (2, .bool false), (0, .slice la ln lc)] : Env) (vc 150 (.slice ad3 es5.length cp4) (es5) :: blk dk1 [.slice la ln lc, I64 (i6)] 129 :: I)
 have hi6 : 0 ≤ i6 := hi6
 dsimp only at hges5
 have hG := hges5.2.1
 have hel := hges5.2.2
 have hnd := hges5.1
 have hrng := hG.rng
 refine G.e (Eff.alloc ty99 rfl) ?_
 rintro _ _ ⟨b7, rfl, rfl⟩
 refine G.e (Eff.st (cs := [_, _]) (vs := [_, _]) (cs' := [_, _]) ty99) ?_
 rintro _ _ ⟨rfl, rfl⟩
 refine G.nt ?_
 refine W.sr ?_
 refine G.r (Runs.assign rfl) ?_
 refine G.nt ?_
 refine W.seq ?_
 refine W.sr ?_
 refine G.r (Runs.assign rfl) ?_
 refine G.nt ?_
 refine W.block ?_
 refine W.loop (σ := Nat × Int) (fun s => ([(3, .pointer (some ⟨dk1, 0, none⟩)), (4, .pointer (some ⟨b7, 0, none⟩)), (5, I64 (s.2)), (6, I64 (((s.1 : Nat) : Int)))] : Env)) (fun s => blk b7 [I64 (nd2), .slice ad3 es5.length cp4] 99 :: vc 150 (.slice ad3 es5.length cp4) (es5) :: blk dk1 [.slice la ln lc, I64 (i6)] 129 :: I) (fun s => ((s.1 : Int) ≤ nd2) ∧ (s.2 = sumN s.1 fun j => onesB (at_ (rowsB nd2 es5) (j : Int))) ∧ (0 ≤ s.2 ∧ s.2 ≤ s.1 * 128)) (fun s => (nd2 - s.1).toNat) (0, 0) (show (((0 : Nat) : Int) ≤ nd2) ∧ ((0 : Int) = sumN (0 : Nat) fun j => onesB (at_ (rowsB nd2 es5) (j : Int))) ∧ (0 ≤ (0 : Int) ∧ (0 : Int) ≤ (0 : Nat) * 128) from ⟨(by omega), rfl, (by omega)⟩) (Sub.cons rfl (Sub.cons rfl (Sub.cons lookO (Sub.cons lookO Sub.nil)))) (show Fit κ _ (blk b7 [I64 (nd2), .slice ad3 es5.length cp4] 99 :: vc 150 (.slice ad3 es5.length cp4) (es5) :: blk dk1 [.slice la ln lc, I64 (i6)] 129 :: I) from Fit.sub) ?_
 rintro ⟨v, sm⟩ hp
 obtain ⟨hv, hsm, hsb⟩ : ((v : Int) ≤ nd2) ∧ (sm = sumN v fun j => onesB (at_ (rowsB nd2 es5) (j : Int))) ∧ (0 ≤ sm ∧ sm ≤ v * 128) := hp
 show W Try.prog κ 107 _ _ ([(3, .pointer (some ⟨dk1, 0, none⟩)), (4, .pointer (some ⟨b7, 0, none⟩)), (5, I64 (sm)), (6, I64 (((v : Nat) : Int)))] : Env) (blk b7 [I64 (nd2), .slice ad3 es5.length cp4] 99 :: vc 150 (.slice ad3 es5.length cp4) (es5) :: blk dk1 [.slice la ln lc, I64 (i6)] 129 :: I)
 refine W.seq ?_
 refine W.sr ?_
 refine G.r (Runs.move rfl) ?_
 refine G.r (Runs.fieldAddr fld99_0 rfl) ?_
 refine G.r (Runs.ld ty3) ?_
 refine G.r (Runs.lss rfl rfl) ?_
 refine G.nt ?_
 refine W.ite rfl (fun c22 => ?_) (fun c22 => ?_)
 ·refine W.skip ?_
  refine V.then ?_
  refine W.seq ?_
  refine W.block ?_
  refine W.region ?_
  refine G.r (Runs.move rfl) ?_
  refine G.r (Runs.lds (vs := [_, _]) ty99) ?_
  refine G.r (Runs.move rfl) ?_
  refine G.e (Eff.call call92 rfl rfl (Degree_ok (nd := nd2) Sl.o hG (v := ((v : Nat) : Int)) (by omega))) ?_
  rintro _ _ ⟨_, _, ⟨rfl, rfl⟩, rfl, rfl⟩
  have hob28 := onesB_bd (at_ (rowsB nd2 es5) ((v : Nat) : Int))
  refine G.r (Runs.add rfl rfl (by unfold InR; omega)) ?_
  refine G.r (Runs.assign rfl) ?_
  refine G.nil ?_
  refine V.block_normal ?_
  refine V.then ?_
  refine W.sub (L' := [(5, _), (3, _), (4, _), (6, _)]) (Sub.cons rfl (Sub.cons rfl (Sub.cons rfl (Sub.cons rfl Sub.nil)))) ?_
  refine W.region ?_
  refine G.r (Runs.move rfl) ?_
  refine G.r (Runs.add rfl rfl (by unfold InR; omega)) ?_
  refine G.r (Runs.assign rfl) ?_
  refine G.nil ?_
  exact V.next ((v + 1), (sm + (onesB (at_ (rowsB nd2 es5) ((v : Nat) : Int))))) (show (((v + 1 : Nat) : Int) ≤ nd2) ∧ ((sm + (onesB (at_ (rowsB nd2 es5) ((v : Nat) : Int))) : Int) = sumN (v + 1 : Nat) fun j => onesB (at_ (rowsB nd2 es5) (j : Int))) ∧ (0 ≤ (sm + (onesB (at_ (rowsB nd2 es5) ((v : Nat) : Int))) : Int) ∧ (sm + (onesB (at_ (rowsB nd2 es5) ((v : Nat) : Int))) : Int) ≤ (v + 1 : Nat) * 128) from ⟨(by omega), (by rw [hsm]; rfl), (by omega)⟩) (show (nd2 - (v + 1 : Nat)).toNat < (nd2 - v).toNat from (by omega)) (Sub.cons rfl (Sub.cons rfl (Sub.cons lookO (Sub.cons lookO Sub.nil)))) (show Fit κ _ (blk b7 [I64 (nd2), .slice ad3 es5.length cp4] 99 :: vc 150 (.slice ad3 es5.length cp4) (es5) :: blk dk1 [.slice la ln lc, I64 (i6)] 129 :: I) from Fit.sub)
 ·refine W.exit ?_
  refine V.then_exit ?_
  refine V.then_exit ?_
  refine V.block_hit ?_
  refine V.then ?_
  refine W.seq ?_
  refine W.sr ?_
  refine G.r (Runs.move rfl) ?_
  refine G.r (Runs.fieldAddr fld99_1 rfl) ?_
  refine G.r (Runs.ld ty97) ?_
  refine G.r (Runs.lens Try.underlying97 rfl) ?_
  refine G.r (Runs.mul rfl rfl (by unfold InR; omega)) ?_
  refine G.r (Runs.neq rfl rfl) ?_
  refine G.nt ?_
  refine W.sub (L' := [(35, _), (3, _), (4, _)]) (Sub.cons rfl (Sub.cons rfl (Sub.cons rfl Sub.nil))) ?_
  refine W.ite rfl (fun c35 => ?_) (fun c35 => ?_)
  ·exact absurd (by rw [hsm, ← rows_sum hG hnd]; congr 1; omega) c35
  ·refine W.skip ?_
   refine V.then ?_
   refine W.sr ?_
   refine G.r (Runs.move rfl) ?_
   refine G.e (Eff.call call25 rfl rfl (Next_ok (by repeat (first | exact AtF.head _ _ | apply AtF.tail)) (Sl.f hl) (by omega) (by omega))) ?_
   rintro _ _ ⟨_, _, ⟨x8, i9, rfl, hx8, hi9, rfl⟩, rfl, rfl⟩
   show G Try.prog κ _ _ _ _ ([(37, I64 (x8)), (36, .pointer (some ⟨dk1, 0, none⟩)), (35, .bool (decide (sm ≠ (2 * ((es5.length : Nat) : Int))))), (3, .pointer (some ⟨dk1, 0, none⟩)), (4, .pointer (some ⟨b7, 0, none⟩))] : Env) (blk b7 [I64 (nd2), .slice ad3 es5.length cp4] 99 :: vc 150 (.slice ad3 es5.length cp4) (es5) :: blk dk1 [.slice la ln lc, I64 (i9)] 129 :: I)
   refine G.r (Runs.move rfl) ?_
   refine G.e (Eff.call call25 rfl rfl (Next_ok (by repeat (first | exact AtF.head _ _ | apply AtF.tail)) (Sl.f hl) (by omega) (by omega))) ?_
   rintro _ _ ⟨_, _, ⟨x10, i11, rfl, hx10, hi11, rfl⟩, rfl, rfl⟩
   show G Try.prog κ _ _ _ _ ([(39, I64 (x10)), (38, .pointer (some ⟨dk1, 0, none⟩)), (37, I64 (x8)), (36, .pointer (some ⟨dk1, 0, none⟩)), (35, .bool (decide (sm ≠ (2 * ((es5.length : Nat) : Int))))), (3, .pointer (some ⟨dk1, 0, none⟩)), (4, .pointer (some ⟨b7, 0, none⟩))] : Env) (blk b7 [I64 (nd2), .slice ad3 es5.length cp4] 99 :: vc 150 (.slice ad3 es5.length cp4) (es5) :: blk dk1 [.slice la ln lc, I64 (i11)] 129 :: I)
   refine G.r (Runs.assign rfl) ?_
   refine G.r (Runs.assign rfl) ?_
   refine G.nt ?_
   refine W.sr ?_
   refine G.r (Runs.lds (vs := [_, _]) ty99) ?_
   refine G.r (Runs.move rfl) ?_
   refine G.r (Runs.move rfl) ?_
   refine G.e (Eff.call call83 rfl rfl (AddG_ok Sl.o x8 x10 (by first | omega | (have hil := insB_len (lt := Pt.lt) (edgeP x8 x10) es5; omega) | (have hwl : (without es5 (edgeP x8 x10)).length ≤ es5.length := List.length_filter_le _ _; omega)))) ?_
   rintro _ _ ⟨_, _, (⟨hnead12, rfl, rfl⟩ | ⟨ad12, cp13, hzad12, rfl, rfl⟩), rfl, rfl⟩
   ·show G Try.prog κ _ _ _ _ ([(44, .tuple #[.agg #[I64 (0), .slice none 0 0], I64 (addG nd2 es5 x8 x10)]), (43, I64 (x10)), (42, I64 (x8)), (41, .agg #[I64 (nd2), .slice ad3 es5.length cp4]), (8, I64 (x10)), (7, I64 (x8)), (39, I64 (x10)), (38, .pointer (some ⟨dk1, 0, none⟩)), (37, I64 (x8)), (36, .pointer (some ⟨dk1, 0, none⟩)), (35, .bool (decide (sm ≠ (2 * ((es5.length : Nat) : Int))))), (3, .pointer (some ⟨dk1, 0, none⟩)), (4, .pointer (some ⟨b7, 0, none⟩))] : Env) (blk b7 [I64 (nd2), .slice ad3 es5.length cp4] 99 :: vc 150 (.slice ad3 es5.length cp4) (es5) :: blk dk1 [.slice la ln lc, I64 (i11)] 129 :: I)
    refine G.r (Runs.move rfl) ?_
    refine G.r (Runs.extract rfl rfl) ?_
    refine G.r (Runs.extract rfl rfl) ?_
    refine G.e (Eff.alloc ty99 rfl) ?_
    rintro _ _ ⟨b14, rfl, rfl⟩
    refine G.e (Eff.st (cs := [_, _]) (vs := [_, _]) (cs' := [_, _]) ty99) ?_
    rintro _ _ ⟨rfl, rfl⟩
    refine G.r (Runs.assign rfl) ?_
    refine G.nt ?_
    refine W.sub (L' := [(10, _), (9, _), (8, _), (7, _), (4, _)]) (Sub.cons rfl (Sub.cons rfl (Sub.cons rfl (Sub.cons rfl (Sub.cons rfl Sub.nil))))) ?_
    refine W.seq ?_
    refine W.sr ?_
    refine G.r (Runs.move rfl) ?_
    refine G.r (Runs.eql rfl rfl) ?_
    refine G.nt ?_
    refine W.ite rfl (fun c48 => ?_) (fun c48 => ?_)
    ·refine W.sr ?_
     refine G.r (Runs.lds (vs := [_, _]) ty99) ?_
     refine G.r (Runs.move rfl) ?_
     refine G.r (Runs.move rfl) ?_
     refine G.e (Eff.call call90 rfl rfl (RemG_ok Sl.o x8 x10 (by first | omega | (have hil := insB_len (lt := Pt.lt) (edgeP x8 x10) es5; omega) | (have hwl : (without es5 (edgeP x8 x10)).length ≤ es5.length := List.length_filter_le _ _; omega)))) ?_
     rintro _ _ ⟨_, _, (⟨hnead15, rfl, rfl⟩ | ⟨ad15, cp16, hzad15, rfl, rfl⟩), rfl, rfl⟩
     ·exact absurd (back_there hG c48).1 hnead15
     ·show G Try.prog κ _ _ _ _ ([(53, .tuple #[.agg #[I64 (nd2), .slice ad15 (without es5 (edgeP x8 x10)).length cp16], I64 (0)]), (52, I64 (x10)), (51, I64 (x8)), (50, .agg #[I64 (nd2), .slice ad3 es5.length cp4]), (48, .bool (decide ((addG nd2 es5 x8 x10) = 15))), (47, I64 (addG nd2 es5 x8 x10)), (10, I64 (addG nd2 es5 x8 x10)), (9, .pointer (some ⟨b14, 0, none⟩)), (8, I64 (x10)), (7, I64 (x8)), (4, .pointer (some ⟨b7, 0, none⟩))] : Env) (vc 150 (.slice ad15 (without es5 (edgeP x8 x10)).length cp16) (without es5 (edgeP x8 x10)) :: blk b14 [I64 (0), .slice none 0 0] 99 :: blk b7 [I64 (nd2), .slice ad3 es5.length cp4] 99 :: vc 150 (.slice ad3 es5.length cp4) (es5) :: blk dk1 [.slice la ln lc, I64 (i11)] 129 :: I)
      refine G.r (Runs.move rfl) ?_
      refine G.r (Runs.extract rfl rfl) ?_
      refine G.r (Runs.extract rfl rfl) ?_
      refine G.e (Eff.st (cs := [_, _]) (vs := [_, _]) (cs' := [_, _]) ty99) ?_
      rintro _ _ ⟨rfl, rfl⟩
      refine G.r (Runs.assign rfl) ?_
      refine G.nt ?_
      refine W.sub (L' := [(10, _), (9, _), (8, _), (7, _), (4, _)]) (Sub.cons rfl (Sub.cons rfl (Sub.cons rfl (Sub.cons rfl (Sub.cons rfl Sub.nil))))) ?_
      refine W.sr ?_
      refine G.r (Runs.lds (vs := [_, _]) ty99) ?_
      refine G.r (Runs.move rfl) ?_
      refine G.r (Runs.move rfl) ?_
      refine G.e (Eff.call call83 rfl rfl (AddG_ok Sl.o x10 x8 (by first | omega | (have hil := insB_len (lt := Pt.lt) (edgeP x8 x10) es5; omega) | (have hwl : (without es5 (edgeP x8 x10)).length ≤ es5.length := List.length_filter_le _ _; omega)))) ?_
      rintro _ _ ⟨_, _, (⟨hnead17, rfl, rfl⟩ | ⟨ad17, cp18, hzad17, rfl, rfl⟩), rfl, rfl⟩
      ·exact absurd (back_there hG c48).2 hnead17
      ·show G Try.prog κ _ _ _ _ ([(60, .tuple #[.agg #[I64 (nd2), .slice ad17 (insB Pt.lt (without es5 (edgeP x8 x10)) (edgeP x10 x8)).length cp18], I64 (0)]), (59, I64 (x8)), (58, I64 (x10)), (57, .agg #[I64 (nd2), .slice ad15 (without es5 (edgeP x8 x10)).length cp16]), (10, I64 (0)), (9, .pointer (some ⟨b14, 0, none⟩)), (8, I64 (x10)), (7, I64 (x8)), (4, .pointer (some ⟨b7, 0, none⟩))] : Env) (vc 150 (.slice ad17 (insB Pt.lt (without es5 (edgeP x8 x10)) (edgeP x10 x8)).length cp18) (insB Pt.lt (without es5 (edgeP x8 x10)) (edgeP x10 x8)) :: vc 150 (.slice ad15 (without es5 (edgeP x8 x10)).length cp16) (without es5 (edgeP x8 x10)) :: blk b14 [I64 (nd2), .slice ad15 (without es5 (edgeP x8 x10)).length cp16] 99 :: blk b7 [I64 (nd2), .slice ad3 es5.length cp4] 99 :: vc 150 (.slice ad3 es5.length cp4) (es5) :: blk dk1 [.slice la ln lc, I64 (i11)] 129 :: I)
       refine G.r (Runs.move rfl) ?_
       refine G.r (Runs.extract rfl rfl) ?_
       refine G.r (Runs.extract rfl rfl) ?_
       refine G.e (Eff.alloc ty99 rfl) ?_
       rintro _ _ ⟨b19, rfl, rfl⟩
       refine G.e (Eff.st (cs := [_, _]) (vs := [_, _]) (cs' := [_, _]) ty99) ?_
       rintro _ _ ⟨rfl, rfl⟩
       refine G.r (Runs.assign rfl) ?_
       refine G.nt ?_
       refine W.sub (L' := [(12, _), (11, _), (10, _), (4, _)]) (Sub.cons rfl (Sub.cons rfl (Sub.cons rfl (Sub.cons rfl Sub.nil)))) ?_
       refine W.sr ?_
       refine G.r (Runs.move rfl) ?_
       refine G.r (Runs.eql rfl rfl) ?_
       refine G.r (Runs.move rfl) ?_
       refine G.split (d := 65) rfl (fun g65 => ?_) (fun g65 => ?_)
       ·refine G.ro (Runs.move rfl) ?_
        refine G.ro (Runs.eql rfl rfl) ?_
        refine G.r (Runs.pickt rfl rfl) ?_
        refine G.r (Runs.move rfl) ?_
        refine G.split (d := 69) rfl (fun g69 => ?_) (fun g69 => ?_)
        ·refine G.ro (Runs.lds (vs := [_, _]) ty99) ?_
         refine G.ro (Runs.lds (vs := [_, _]) ty99) ?_
         refine G.eff (Wanted.on rfl rfl rfl) (Eff.call call77 rfl rfl (Same03_ok Sl.o Sl.o)) ?_
         rintro _ _ ⟨_, _, ⟨rfl, rfl⟩, rfl, rfl⟩
         refine G.r (Runs.pickt rfl rfl) ?_
         refine G.r (Runs.move rfl) ?_
         refine G.split (d := 74) rfl (fun g74 => ?_) (fun g74 => ?_)
         ·refine G.eff (Wanted.on rfl rfl rfl) (Eff.call call68 rfl rfl Awake03_ok) ?_
          rintro _ _ ⟨_, _, ⟨rfl, rfl⟩, rfl, rfl⟩
          refine G.r (Runs.pickt rfl rfl) ?_
          refine G.r (Runs.assign rfl) ?_
          refine G.nt ?_
          refine W.sub (L' := [(2, _)]) (Sub.cons rfl Sub.nil) ?_
          refine W.ret ?_
          refine V.then_ret ?_
          exact V.ret1 rfl rfl (I) Fit.m ⟨rfl, rfl⟩
         ·exact absurd (by first | rfl | (rw [show edgeP x10 x8 = edgeP x8 x10 from edgeP_swap _ _]; exact ⟨rfl, add_back hG (addG_15 hG c48).2⟩) | (rw [show edgeP x10 x8 = edgeP x8 x10 from edgeP_swap _ _, add_back hG (addG_15 hG c48).2])) g74
        ·exact absurd rfl g69
       ·exact absurd rfl g65
    ·refine W.skip ?_
     refine V.then ?_
     refine W.seq ?_
     refine W.sr ?_
     refine G.r (Runs.move rfl) ?_
     refine G.r (Runs.neq rfl rfl) ?_
     refine G.nt ?_
     refine W.ite rfl (fun c78 => ?_) (fun c78 => ?_)
     ·refine W.sr ?_
      refine G.e (Eff.call call68 rfl rfl Awake03_ok) ?_
      rintro _ _ ⟨_, _, ⟨rfl, rfl⟩, rfl, rfl⟩
      refine G.r (Runs.assign rfl) ?_
      refine G.nt ?_
      refine W.ret ?_
      refine V.then_ret ?_
      exact V.ret1 rfl rfl (I) Fit.m ⟨rfl, rfl⟩
     ·exact absurd hnead12 c78
   ·show G Try.prog κ _ _ _ _ ([(44, .tuple #[.agg #[I64 (nd2), .slice ad12 (insB Pt.lt es5 (edgeP x8 x10)).length cp13], I64 (0)]), (43, I64 (x10)), (42, I64 (x8)), (41, .agg #[I64 (nd2), .slice ad3 es5.length cp4]), (8, I64 (x10)), (7, I64 (x8)), (39, I64 (x10)), (38, .pointer (some ⟨dk1, 0, none⟩)), (37, I64 (x8)), (36, .pointer (some ⟨dk1, 0, none⟩)), (35, .bool (decide (sm ≠ (2 * ((es5.length : Nat) : Int))))), (3, .pointer (some ⟨dk1, 0, none⟩)), (4, .pointer (some ⟨b7, 0, none⟩))] : Env) (vc 150 (.slice ad12 (insB Pt.lt es5 (edgeP x8 x10)).length cp13) (insB Pt.lt es5 (edgeP x8 x10)) :: blk b7 [I64 (nd2), .slice ad3 es5.length cp4] 99 :: vc 150 (.slice ad3 es5.length cp4) (es5) :: blk dk1 [.slice la ln lc, I64 (i11)] 129 :: I)
    refine G.r (Runs.move rfl) ?_
    refine G.r (Runs.extract rfl rfl) ?_
    refine G.r (Runs.extract rfl rfl) ?_
    refine G.e (Eff.alloc ty99 rfl) ?_
    rintro _ _ ⟨b20, rfl, rfl⟩
    refine G.e (Eff.st (cs := [_, _]) (vs := [_, _]) (cs' := [_, _]) ty99) ?_
    rintro _ _ ⟨rfl, rfl⟩
    refine G.r (Runs.assign rfl) ?_
    refine G.nt ?_
    refine W.sub (L' := [(10, _), (9, _), (8, _), (7, _), (4, _)]) (Sub.cons rfl (Sub.cons rfl (Sub.cons rfl (Sub.cons rfl (Sub.cons rfl Sub.nil))))) ?_
    refine W.seq ?_
    refine W.sr ?_
    refine G.r (Runs.move rfl) ?_
    refine G.r (Runs.eql rfl rfl) ?_
    refine G.nt ?_
    refine W.ite rfl (fun c48 => ?_) (fun c48 => ?_)
    ·exact absurd c48 (by decide)
    ·refine W.skip ?_
     refine V.then ?_
     refine W.seq ?_
     refine W.sr ?_
     refine G.r (Runs.move rfl) ?_
     refine G.r (Runs.neq rfl rfl) ?_
     refine G.nt ?_
     refine W.ite rfl (fun c78 => ?_) (fun c78 => ?_)
     ·exact absurd rfl c78
     ·refine W.skip ?_
      refine V.then ?_
      refine W.sr ?_
      refine G.r (Runs.lds (vs := [_, _]) ty99) ?_
      refine G.r (Runs.move rfl) ?_
      refine G.r (Runs.move rfl) ?_
      refine G.e (Eff.call call90 rfl rfl (RemG_ok Sl.o x10 x8 (by first | omega | (have hil := insB_len (lt := Pt.lt) (edgeP x8 x10) es5; omega) | (have hwl : (without es5 (edgeP x8 x10)).length ≤ es5.length := List.length_filter_le _ _; omega)))) ?_
      rintro _ _ ⟨_, _, (⟨hnead21, rfl, rfl⟩ | ⟨ad21, cp22, hzad21, rfl, rfl⟩), rfl, rfl⟩
      ·exact absurd (back_rem hzad12) hnead21
      ·show G Try.prog κ _ _ _ _ ([(84, .tuple #[.agg #[I64 (nd2), .slice ad21 (without (insB Pt.lt es5 (edgeP x8 x10)) (edgeP x10 x8)).length cp22], I64 (0)]), (83, I64 (x8)), (82, I64 (x10)), (81, .agg #[I64 (nd2), .slice ad12 (insB Pt.lt es5 (edgeP x8 x10)).length cp13]), (78, .bool (decide (0 ≠ 0))), (77, I64 (0)), (48, .bool (decide (0 = 15))), (47, I64 (0)), (10, I64 (0)), (9, .pointer (some ⟨b20, 0, none⟩)), (8, I64 (x10)), (7, I64 (x8)), (4, .pointer (some ⟨b7, 0, none⟩))] : Env) (vc 150 (.slice ad21 (without (insB Pt.lt es5 (edgeP x8 x10)) (edgeP x10 x8)).length cp22) (without (insB Pt.lt es5 (edgeP x8 x10)) (edgeP x10 x8)) :: blk b20 [I64 (nd2), .slice ad12 (insB Pt.lt es5 (edgeP x8 x10)).length cp13] 99 :: vc 150 (.slice ad12 (insB Pt.lt es5 (edgeP x8 x10)).length cp13) (insB Pt.lt es5 (edgeP x8 x10)) :: blk b7 [I64 (nd2), .slice ad3 es5.length cp4] 99 :: vc 150 (.slice ad3 es5.length cp4) (es5) :: blk dk1 [.slice la ln lc, I64 (i11)] 129 :: I)
       refine G.r (Runs.move rfl) ?_
       refine G.r (Runs.extract rfl rfl) ?_
       refine G.r (Runs.extract rfl rfl) ?_
       refine G.e (Eff.alloc ty99 rfl) ?_
       rintro _ _ ⟨b23, rfl, rfl⟩
       refine G.e (Eff.st (cs := [_, _]) (vs := [_, _]) (cs' := [_, _]) ty99) ?_
       rintro _ _ ⟨rfl, rfl⟩
       refine G.r (Runs.assign rfl) ?_
       refine G.nt ?_
       refine W.sub (L' := [(14, _), (13, _), (9, _), (4, _)]) (Sub.cons rfl (Sub.cons rfl (Sub.cons rfl (Sub.cons rfl Sub.nil)))) ?_
       refine W.sr ?_
       refine G.r (Runs.move rfl) ?_
       refine G.r (Runs.eql rfl rfl) ?_
       refine G.r (Runs.move rfl) ?_
       refine G.split (d := 89) rfl (fun g89 => ?_) (fun g89 => ?_)
       ·refine G.ro (Runs.lds (vs := [_, _]) ty99) ?_
        refine G.ro (Runs.lds (vs := [_, _]) ty99) ?_
        refine G.eff (Wanted.on rfl rfl rfl) (Eff.call call77 rfl rfl (Same03_ok Sl.o Sl.o)) ?_
        rintro _ _ ⟨_, _, ⟨rfl, rfl⟩, rfl, rfl⟩
        refine G.r (Runs.pickt rfl rfl) ?_
        refine G.r (Runs.move rfl) ?_
        refine G.split (d := 94) rfl (fun g94 => ?_) (fun g94 => ?_)
        ·refine G.ro (Runs.fieldAddr fld99_1 rfl) ?_
         refine G.ro (Runs.ld ty97) ?_
         refine G.ro (Runs.lens Try.underlying97 rfl) ?_
         refine G.ro (Runs.fieldAddr fld99_1 rfl) ?_
         refine G.ro (Runs.ld ty97) ?_
         refine G.ro (Runs.lens Try.underlying97 rfl) ?_
         refine G.ro (Runs.add rfl rfl (by unfold InR; omega)) ?_
         refine G.ro (Runs.eql rfl rfl) ?_
         refine G.r (Runs.pickt rfl rfl) ?_
         refine G.r (Runs.move rfl) ?_
         refine G.split (d := 104) rfl (fun g104 => ?_) (fun g104 => ?_)
         ·refine G.eff (Wanted.on rfl rfl rfl) (Eff.call call68 rfl rfl Awake03_ok) ?_
          rintro _ _ ⟨_, _, ⟨rfl, rfl⟩, rfl, rfl⟩
          refine G.r (Runs.pickt rfl rfl) ?_
          refine G.r (Runs.assign rfl) ?_
          refine G.nt ?_
          refine W.sub (L' := [(2, _)]) (Sub.cons rfl Sub.nil) ?_
          refine W.ret ?_
          exact V.ret1 rfl rfl (I) Fit.m ⟨rfl, rfl⟩
         ·exact absurd (by rw [insB_new hG (addG_zero.1 hzad12).2.2]; omega) g104
        ·exact absurd (by first | rfl | (rw [show edgeP x10 x8 = edgeP x8 x10 from edgeP_swap _ _]; exact ⟨rfl, rem_back hG (addG_zero.1 hzad12).2.2⟩) | (rw [show edgeP x10 x8 = edgeP x8 x10 from edgeP_swap _ _, rem_back hG (addG_zero.1 hzad12).2.2])) g94
       ·exact absurd rfl g89

end Go.Sl
