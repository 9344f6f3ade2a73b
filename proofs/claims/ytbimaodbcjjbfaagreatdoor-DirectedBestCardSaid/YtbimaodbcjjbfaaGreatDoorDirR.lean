/- A part of the proofs of statements of this seat: contracts of functions, and the plain laws that they lean on. No conditions. -/
import Derived.Test.YtbimaodbcjjbfaaGreatDoorDirP
import Derived.Test.YtbimaodbcjjbfaaGreatDoorRets
namespace Go.Sl
open Go.Proofs
set_option linter.unusedVariables false
set_option linter.unusedSimpArgs false
set_option maxRecDepth 4000
theorem ofL_map {ars : List Pt} {g : Pt → Int} {k : Nat} (h : k < ars.length) : ofL (ofL ((ars.take k).map g) ++ [g (at_ ars (k : Int))]) = ofL ((ars.take (k + 1)).map g) := by
  refine intLin.uniq (ofL_asc _) (ofL_asc _) fun x => ?_
  rw [mem_ofL, List.mem_append, mem_ofL, mem_ofL, take_at ars k h, List.map_append, List.mem_append]
  simp
theorem out_bit {nd : Int} {ars : List Pt} (hd : DgOk nd ars) {v w : Int} (hv : 0 ≤ v) (hw : 0 ≤ w) : (at_ (outB nd ars) v).getLsbD w.toNat = true ↔ (⟨v, w⟩ : Pt) ∈ ars := by
  have h := arcN_out hd hv hw
  unfold arcN at h
  by_cases h1 : (at_ (outB nd ars) v).getLsbD w.toNat = true
  · rw [if_pos h1] at h
    by_cases h2 : (⟨v, w⟩ : Pt) ∈ ars
    · exact ⟨fun _ => h2, fun _ => h1⟩
    · rw [if_neg h2] at h; cases h
  · rw [if_neg h1] at h
    by_cases h2 : (⟨v, w⟩ : Pt) ∈ ars
    · rw [if_pos h2] at h; cases h
    · exact ⟨fun h3 => absurd h3 h1, fun h3 => absurd h3 h2⟩
theorem from_all {nd : Int} {ars : List Pt} (hd : DgOk nd ars) : ofL (ars.map Pt.u) = listB (sendM (outB nd ars) (outB nd ars).length) := by
  have hl := outB_ln hd
  have hr := hd.rng
  refine intLin.uniq (ofL_asc _) (listB_asc _) fun x => ?_
  have hm := mem_sendL (rows := outB nd ars) (by omega) (x := x)
  unfold sendL at hm
  rw [hm, mem_ofL, List.mem_map]
  constructor
  · rintro ⟨a, ha, rfl⟩
    have he := hd.arc a ha
    unfold endsP at he
    refine ⟨by omega, fun h0 => ?_⟩
    have := (out_bit hd (v := a.u) (w := a.v) (by omega) (by omega)).2 ha
    rw [h0] at this; simp at this
  · rintro ⟨h1, h2⟩
    obtain ⟨w, hw⟩ := List.exists_mem_of_ne_nil _ (listB_ne h2)
    obtain ⟨hw0, hw1⟩ := mem_listB.1 hw
    exact ⟨⟨x, w⟩, (out_bit hd (by omega) hw0).1 hw1, rfl⟩
theorem to_all {nd : Int} {ars : List Pt} (hd : DgOk nd ars) : ofL (ars.map Pt.v) = listB (orT (outB nd ars) (outB nd ars).length) := by
  have hl := outB_ln hd
  have hr := hd.rng
  refine intLin.uniq (ofL_asc _) (listB_asc _) fun x => ?_
  rw [mem_ofL, List.mem_map, mem_listB, orT_bit]
  constructor
  · rintro ⟨a, ha, rfl⟩
    have he := hd.arc a ha
    unfold endsP at he
    refine ⟨by omega, a.u.toNat, by omega, ?_⟩
    rw [show ((a.u.toNat : Nat) : Int) = a.u by omega]
    exact (out_bit hd (by omega) (by omega)).2 ha
  · rintro ⟨h0, v, h1, h2⟩
    exact ⟨⟨v, x⟩, (out_bit hd (by omega) h0).1 h2, rfl⟩
theorem from_bits {nd : Int} {ars : List Pt} (hd : DgOk nd ars) (i : Nat) (hi : (sendM (outB nd ars) (outB nd ars).length).getLsbD i = true) : (i : Int) < nd := by
  have hl := outB_ln hd
  have hr := hd.rng
  have := ((sendM_bit (rows := outB nd ars) (k := (outB nd ars).length) (by omega) i).1 hi).1
  omega
theorem to_bits {nd : Int} {ars : List Pt} (hd : DgOk nd ars) (i : Nat) (hi : (orT (outB nd ars) (outB nd ars).length).getLsbD i = true) : (i : Int) < nd := by
  obtain ⟨v, _, h⟩ := (orT_bit _ _).1 hi
  have h2 := (out_bit hd (v := v) (w := (i : Int)) (by omega) (by omega)).1 (by rw [Int.toNat_natCast]; exact h)
  have := hd.arc _ h2
  unfold endsP at this
  dsimp only at this
  omega
theorem minus_one {f : BitVec 64} {x : Int} (hx : x ∈ listB f) : minusL (listB f) [x] = listB (f &&& ~~~(bitB x)) := by
  rw [list_minus f (listB_rng hx)]
  refine intLin.uniq ((ofL_asc _).sublist List.filter_sublist) ((listB_asc f).sublist List.filter_sublist) fun y => ?_
  unfold minusL
  rw [List.mem_filter, List.mem_filter, mem_ofL, decide_eq_true_eq, decide_eq_true_eq, List.mem_singleton]
theorem len_zero {f : BitVec 64} (h : ¬ 0 < ((listB f).length : Int)) : f = 0#64 := Classical.byContradiction fun e => by
  have := List.length_pos_iff.2 (listB_ne e)
  omega
theorem len_nz {f : BitVec 64} (h : 0 < ((listB f).length : Int)) : f ≠ 0#64 := fun e => by rw [e, listB_zero] at h; simp at h

theorem Between23_bet {κ : Ctx} {I : List Item} {nd : Int} {va vf vt : Value} {ars : List Pt} {f t : BitVec 64} (hl : Sl κ I va ars) (hf : Sl κ I vf (listB f)) (ht : Sl κ I vt (listB t)) (hd : DgOk nd ars) (hfb : ∀ i : Nat, f.getLsbD i = true → (i : Int) < nd) : CallS Tryz.prog κ 97 [.agg #[I64 nd, va], vf, vt] I fun r J => r = I64 (betB (outB nd ars) f t) ∧ I = J := by
  rw [bet_cntA hd hfb]; exact Between23_ok hl hf ht (checkD_ok.2 hd)

set_option maxHeartbeats 2000000 in
theorem Peel23_ok {κ : Ctx} {I : List Item} {nd : Int} {va : Value} {ars : List Pt} (hl : Sl κ I va ars) (hb : ars.length ≤ 1000000) :
    CallS Tryz.prog κ 42 [.agg #[I64 (nd), va]] I (fun r J => ∃ a c a2 c2 Y, r = .tuple #[.agg #[.slice a (peelG nd ars).F.length c, .slice a2 (peelG nd ars).T.length c2, I64 (peelG nd ars).n, I64 (peelG nd ars).sq.num, I64 (peelG nd ars).sq.den], I64 (checkD nd ars)] ∧ Sl κ Y (.slice a (peelG nd ars).F.length c) (peelG nd ars).F ∧ Sl κ Y (.slice a2 (peelG nd ars).T.length c2) (peelG nd ars).T ∧ J = Y ++ I) := by
 refine CallS.enter (L := [(0, .agg #[I64 (nd), va])]) Tryz.func42 rfl rfl rfl rfl ?_
 refine W.sr ?_
 refine G.e (Eff.box (cs := [_, _]) rfl rfl rfl) ?_
 rintro _ _ ⟨b1, rfl, rfl⟩
 refine G.e (Eff.alloc ty58 rfl) ?_
 rintro _ _ ⟨b2, rfl, rfl⟩
 refine G.r (Runs.assign rfl) ?_
 refine G.nt ?_
 refine W.seq ?_
 refine W.sr ?_
 refine G.r (Runs.lds (vs := [_, _]) ty54) ?_
 refine G.e (Eff.call call44 rfl rfl (Check23_ok (nd := nd) (Sl.f hl))) ?_
 rintro _ _ ⟨_, _, ⟨rfl, rfl⟩, rfl, rfl⟩
 refine G.r (Runs.assign rfl) ?_
 refine G.nt ?_
 refine W.sr ?_
 refine G.r (Runs.move rfl) ?_
 refine G.r (Runs.neq rfl rfl) ?_
 refine G.nt ?_
 refine W.ite rfl (fun c19 => ?_) (fun c19 => ?_)
 ·refine W.sr ?_
  refine G.r (Runs.build (cells := [_, _, _, _, _]) ty58 Tryz.underlying58 pl58 rfl rfl) ?_
  refine G.r (Runs.move rfl) ?_
  refine G.e (Eff.st (cs := [_, _, _, _, _]) (vs := [_, _, _, _, _]) (cs' := [_, _, _, _, _]) ty58) ?_
  rintro _ _ ⟨rfl, rfl⟩
  refine G.r (Runs.assign rfl) ?_
  refine G.nt ?_
  refine W.ret ?_
  refine V.then_ret ?_
  have hX : (peelG nd ars) = ⟨[], [], 0, ⟨0, 0⟩⟩ := if_pos c19
  exact V.retc1 rfl ty58 rfl rfl (by repeat (first | exact List.mem_cons_self | apply List.mem_cons_of_mem)) rfl ((([] : List Item) ++ I)) Fit.m ⟨none, 0, none, 0, [], by rw [hX]; rfl, by rw [hX]; exact Sl.nil _, by rw [hX]; exact Sl.nil _, rfl⟩
 ·refine W.skip ?_
  refine V.then ?_
  refine W.sr ?_
  refine G.r (Runs.build (cells := [_, _]) ty45 Tryz.underlying45 pl45 rfl rfl) ?_
  have hd1 : checkD nd ars = 0 := Classical.not_not.1 c19
  have hd := checkD_ok.1 hd1
  have hrg := hd.rng
  have hol := outB_ln hd
  refine G.r (Runs.build (cells := [_, _, _, _, _]) ty58 Tryz.underlying58 pl58 rfl rfl) ?_
  refine G.e (Eff.alloc ty58 rfl) ?_
  rintro _ _ ⟨b3, rfl, rfl⟩
  refine G.e (Eff.st (cs := [_, _, _, _, _]) (vs := [_, _, _, _, _]) (cs' := [_, _, _, _, _]) ty58) ?_
  rintro _ _ ⟨rfl, rfl⟩
  refine G.nt ?_
  refine W.sr ?_
  refine G.r (Runs.assign rfl) ?_
  refine G.r (Runs.assign rfl) ?_
  refine G.nt ?_
  refine W.sub (L' := [(7, _), (6, _), (5, _), (2, _), (1, _)]) (Sub.cons rfl (Sub.cons rfl (Sub.cons rfl (Sub.cons rfl (Sub.cons rfl Sub.nil))))) ?_
  refine W.seq ?_
  refine W.sr ?_
  refine G.r (Runs.fieldAddr fld54_1 rfl) ?_
  refine G.r (Runs.ld ty33) ?_
  refine G.r (Runs.lenT (α := Pt) (xs := ars) Tryz.underlying33 rfl (Sl.f hl)) ?_
  refine G.r (Runs.move rfl) ?_
  refine G.nt ?_
  refine W.block ?_
  refine W.loop (σ := Nat × (Option Addr) × Nat × (List Int) × (Option Addr) × Nat × (List Int)) (fun s => ([(1, .pointer (some ⟨b1, 0, none⟩)), (2, .pointer (some ⟨b2, 0, none⟩)), (5, .pointer (some ⟨b3, 0, none⟩)), (6, .slice s.2.1 s.2.2.2.1.length s.2.2.1), (7, .slice s.2.2.2.2.1 s.2.2.2.2.2.2.length s.2.2.2.2.2.1), (25, va), (26, I64 (((ars.length : Nat) : Int))), (27, I64 (((s.1 : Nat) : Int)))] : Env)) (fun s => vc 3 (.slice s.2.1 s.2.2.2.1.length s.2.2.1) (s.2.2.2.1) :: vc 3 (.slice s.2.2.2.2.1 s.2.2.2.2.2.2.length s.2.2.2.2.2.1) (s.2.2.2.2.2.2) :: blk b3 [.slice none 0 0, .slice none 0 0, I64 (0), I64 (0), I64 (1)] 58 :: blk b2 [.slice none 0 0, .slice none 0 0, I64 (0), I64 (0), I64 (0)] 58 :: blk b1 [I64 (nd), va] 54 :: I) (fun s => (s.1 ≤ ars.length) ∧ (s.2.2.2.1 = ofL ((ars.take s.1).map Pt.u)) ∧ (s.2.2.2.2.2.2 = ofL ((ars.take s.1).map Pt.v))) (fun s => ars.length - s.1) (0, none, 0, [], none, 0, []) (show ((0 : Nat) ≤ ars.length) ∧ (([] : List Int) = ofL ((ars.take (0 : Nat)).map Pt.u)) ∧ (([] : List Int) = ofL ((ars.take (0 : Nat)).map Pt.v)) from ⟨(by omega), rfl, rfl⟩) (Sub.cons rfl (Sub.cons rfl (Sub.cons rfl (Sub.cons (lookV rfl (by first | rfl | simp)) (Sub.cons (lookV rfl (by first | rfl | simp)) (Sub.cons rfl (Sub.cons rfl (Sub.cons lookO Sub.nil)))))))) (show Fit κ _ (vc 3 (.slice (none) ([]).length (0)) (([])) :: vc 3 (.slice (none) ([]).length (0)) (([])) :: blk b3 [.slice none 0 0, .slice none 0 0, I64 (0), I64 (0), I64 (1)] 58 :: blk b2 [.slice none 0 0, .slice none 0 0, I64 (0), I64 (0), I64 (0)] 58 :: blk b1 [I64 (nd), va] 54 :: I) from (Fit.trans (Fit.nilvc (α := Int) _ _) (Fit.nilvc (α := Int) _ _))) ?_
  rintro ⟨k, pa, pc, flq, qa, qc, tlq⟩ hp
  obtain ⟨hk, hflq, htlq⟩ : (k ≤ ars.length) ∧ (flq = ofL ((ars.take k).map Pt.u)) ∧ (tlq = ofL ((ars.take k).map Pt.v)) := hp
  show W Tryz.prog κ 102 _ _ ([(1, .pointer (some ⟨b1, 0, none⟩)), (2, .pointer (some ⟨b2, 0, none⟩)), (5, .pointer (some ⟨b3, 0, none⟩)), (6, .slice pa flq.length pc), (7, .slice qa tlq.length qc), (25, va), (26, I64 (((ars.length : Nat) : Int))), (27, I64 (((k : Nat) : Int)))] : Env) (vc 3 (.slice pa flq.length pc) (flq) :: vc 3 (.slice qa tlq.length qc) (tlq) :: blk b3 [.slice none 0 0, .slice none 0 0, I64 (0), I64 (0), I64 (1)] 58 :: blk b2 [.slice none 0 0, .slice none 0 0, I64 (0), I64 (0), I64 (0)] 58 :: blk b1 [I64 (nd), va] 54 :: I)
  have hfll : flq.length ≤ k := by rw [hflq]; have := ofL_len ((ars.take k).map Pt.u); rw [List.length_map, List.length_take] at this; omega
  have htll : tlq.length ≤ k := by rw [htlq]; have := ofL_len ((ars.take k).map Pt.v); rw [List.length_map, List.length_take] at this; omega
  refine W.sr ?_
  refine G.r (Runs.lss rfl rfl) ?_
  refine G.nt ?_
  refine W.seq ?_
  refine W.ite rfl (fun c28 => ?_) (fun c28 => ?_)
  ·refine W.skip ?_
   refine V.then ?_
   refine W.seq ?_
   refine W.block ?_
   refine W.sr ?_
   refine G.r (Runs.idx (α := Pt) (xs := ars) Tryz.underlying33 ty32 rfl rfl (Sl.f hl) (by omega) (by omega)) ?_
   refine G.r (Runs.gets (α := Pt) (xs := ars) ty32 rfl (Sl.f hl) (by omega) (by omega)) ?_
   refine G.e (Eff.alloc ty32 rfl) ?_
   rintro _ _ ⟨b4, rfl, rfl⟩
   refine G.e (Eff.st (cs := [_, _]) (vs := [_, _]) (cs' := [_, _]) ty32) ?_
   rintro _ _ ⟨rfl, rfl⟩
   refine G.nt ?_
   refine W.drawn mixed ?_
   refine A.hold (blk b4 [I64 ((at_ ars ((k : Nat) : Int)).u), I64 ((at_ ars ((k : Nat) : Int)).v)] 32 :: vc 3 (.slice pa flq.length pc) (flq) :: vc 3 (.slice qa tlq.length qc) (tlq) :: blk b3 [.slice none 0 0, .slice none 0 0, I64 (0), I64 (0), I64 (1)] 58 :: blk b2 [.slice none 0 0, .slice none 0 0, I64 (0), I64 (0), I64 (0)] 58 :: blk b1 [I64 (nd), va] 54 :: I) 12 ?_
   refine D.r 0 rfl (Runs.move rfl) ?_
   refine D.r 1 rfl (Runs.idxArr Tryz.underlying32 ty2 rfl rfl (by omega) (by omega)) ?_
   refine D.r 2 rfl (Runs.ld ty3) ?_
   refine D.r 5 rfl (Runs.move rfl) ?_
   refine D.r 6 rfl (Runs.idxArr Tryz.underlying32 ty2 rfl rfl (by omega) (by omega)) ?_
   refine D.r 7 rfl (Runs.ld ty3) ?_
   refine D.step (rs := [3, 8]) (by kernel_rfl) rfl rfl (all2 ?_ (all1 ?_))
   ·refine Step.eff rfl (Wanted.plain rfl) (Eff.bs (α := Int) (cs := [_]) (xs := [(at_ ars ((k : Nat) : Int)).u]) Tryz.underlying22 ty3 rfl rfl (by decide) (by decide) rfl rfl rfl rfl) ?_
    rintro _ _ ⟨ad5, rfl, rfl⟩
    refine ⟨Fit.m, ?_⟩
    refine D.step (rs := [4, 8]) (by kernel_rfl) rfl rfl (all2 ?_ (all1 ?_))
    ·refine Step.eff rfl (Wanted.plain rfl) (Eff.call call95 rfl rfl (Union_ok Sl.o Sl.o (by simp only [List.length_cons, List.length_nil]; omega))) ?_
     rintro _ _ ⟨_, _, ⟨ad6, cp7, rfl, rfl⟩, rfl, rfl⟩
     refine ⟨Fit.m, ?_⟩
     refine D.step (rs := [8]) (by kernel_rfl) rfl rfl (all1 ?_)
     refine Step.eff rfl (Wanted.plain rfl) (Eff.bs (α := Int) (cs := [_]) (xs := [(at_ ars ((k : Nat) : Int)).v]) Tryz.underlying22 ty3 rfl rfl (by decide) (by decide) rfl rfl rfl rfl) ?_
     rintro _ _ ⟨ad8, rfl, rfl⟩
     refine ⟨Fit.m, ?_⟩
     refine D.step (rs := [9]) (by kernel_rfl) rfl rfl (all1 ?_)
     refine Step.eff rfl (Wanted.plain rfl) (Eff.call call95 rfl rfl (Union_ok Sl.o Sl.o (by simp only [List.length_cons, List.length_nil]; omega))) ?_
     rintro _ _ ⟨_, _, ⟨ad9, cp10, rfl, rfl⟩, rfl, rfl⟩
     refine ⟨Fit.m, ?_⟩
     refine D.r 10 rfl (Runs.assign rfl) ?_
     refine D.r 11 rfl (Runs.assign rfl) ?_
     refine D.done (by kernel_rfl) ?_
     refine V.block_normal ?_
     refine V.then ?_
     refine W.sub (L' := [(7, _), (6, _), (1, _), (2, _), (5, _), (25, _), (26, _), (27, _)]) (Sub.cons rfl (Sub.cons rfl (Sub.cons rfl (Sub.cons rfl (Sub.cons rfl (Sub.cons rfl (Sub.cons rfl (Sub.cons rfl Sub.nil)))))))) ?_
     refine W.region ?_
     refine G.r (Runs.add rfl rfl (by unfold InR; omega)) ?_
     refine G.r (Runs.move rfl) ?_
     refine G.nil ?_
     exact V.next ((k + 1), (ad6), (cp7), (ofL (flq ++ ([(at_ ars ((k : Nat) : Int)).u] : List Int))), (ad9), (cp10), (ofL (tlq ++ ([(at_ ars ((k : Nat) : Int)).v] : List Int)))) (show ((k + 1 : Nat) ≤ ars.length) ∧ ((ofL (flq ++ ([(at_ ars ((k : Nat) : Int)).u] : List Int)) : List Int) = ofL ((ars.take (k + 1 : Nat)).map Pt.u)) ∧ ((ofL (tlq ++ ([(at_ ars ((k : Nat) : Int)).v] : List Int)) : List Int) = ofL ((ars.take (k + 1 : Nat)).map Pt.v)) from ⟨(by omega), (by rw [hflq]; exact ofL_map (g := Pt.u) (by omega)), (by rw [htlq]; exact ofL_map (g := Pt.v) (by omega))⟩) (show ars.length - (k + 1 : Nat) < ars.length - k from (by omega)) (Sub.cons rfl (Sub.cons rfl (Sub.cons rfl (Sub.cons (lookV rfl (by first | rfl | simp)) (Sub.cons (lookV rfl (by first | rfl | simp)) (Sub.cons rfl (Sub.cons rfl (Sub.cons lookO Sub.nil)))))))) (show Fit κ _ (vc 3 (.slice (ad6) (ofL (flq ++ ([(at_ ars ((k : Nat) : Int)).u] : List Int))).length (cp7)) ((ofL (flq ++ ([(at_ ars ((k : Nat) : Int)).u] : List Int)))) :: vc 3 (.slice (ad9) (ofL (tlq ++ ([(at_ ars ((k : Nat) : Int)).v] : List Int))).length (cp10)) ((ofL (tlq ++ ([(at_ ars ((k : Nat) : Int)).v] : List Int)))) :: blk b3 [.slice none 0 0, .slice none 0 0, I64 (0), I64 (0), I64 (1)] 58 :: blk b2 [.slice none 0 0, .slice none 0 0, I64 (0), I64 (0), I64 (0)] 58 :: blk b1 [I64 (nd), va] 54 :: I) from (by first | exact Fit.s | exact Fit.sub))
    ·refine Step.eff rfl (Wanted.plain rfl) (Eff.bs (α := Int) (cs := [_]) (xs := [(at_ ars ((k : Nat) : Int)).v]) Tryz.underlying22 ty3 rfl rfl (by decide) (by decide) rfl rfl rfl rfl) ?_
     rintro _ _ ⟨ad11, rfl, rfl⟩
     refine ⟨Fit.m, ?_⟩
     refine D.step (rs := [4]) (by kernel_rfl) rfl rfl (all1 ?_)
     refine Step.eff rfl (Wanted.plain rfl) (Eff.call call95 rfl rfl (Union_ok Sl.o Sl.o (by simp only [List.length_cons, List.length_nil]; omega))) ?_
     rintro _ _ ⟨_, _, ⟨ad12, cp13, rfl, rfl⟩, rfl, rfl⟩
     refine ⟨Fit.m, ?_⟩
     refine D.step (rs := [9]) (by kernel_rfl) rfl rfl (all1 ?_)
     refine Step.eff rfl (Wanted.plain rfl) (Eff.call call95 rfl rfl (Union_ok Sl.o Sl.o (by simp only [List.length_cons, List.length_nil]; omega))) ?_
     rintro _ _ ⟨_, _, ⟨ad14, cp15, rfl, rfl⟩, rfl, rfl⟩
     refine ⟨Fit.m, ?_⟩
     refine D.r 10 rfl (Runs.assign rfl) ?_
     refine D.r 11 rfl (Runs.assign rfl) ?_
     refine D.done (by kernel_rfl) ?_
     refine V.block_normal ?_
     refine V.then ?_
     refine W.sub (L' := [(7, _), (6, _), (1, _), (2, _), (5, _), (25, _), (26, _), (27, _)]) (Sub.cons rfl (Sub.cons rfl (Sub.cons rfl (Sub.cons rfl (Sub.cons rfl (Sub.cons rfl (Sub.cons rfl (Sub.cons rfl Sub.nil)))))))) ?_
     refine W.region ?_
     refine G.r (Runs.add rfl rfl (by unfold InR; omega)) ?_
     refine G.r (Runs.move rfl) ?_
     refine G.nil ?_
     exact V.next ((k + 1), (ad12), (cp13), (ofL (flq ++ ([(at_ ars ((k : Nat) : Int)).u] : List Int))), (ad14), (cp15), (ofL (tlq ++ ([(at_ ars ((k : Nat) : Int)).v] : List Int)))) (show ((k + 1 : Nat) ≤ ars.length) ∧ ((ofL (flq ++ ([(at_ ars ((k : Nat) : Int)).u] : List Int)) : List Int) = ofL ((ars.take (k + 1 : Nat)).map Pt.u)) ∧ ((ofL (tlq ++ ([(at_ ars ((k : Nat) : Int)).v] : List Int)) : List Int) = ofL ((ars.take (k + 1 : Nat)).map Pt.v)) from ⟨(by omega), (by rw [hflq]; exact ofL_map (g := Pt.u) (by omega)), (by rw [htlq]; exact ofL_map (g := Pt.v) (by omega))⟩) (show ars.length - (k + 1 : Nat) < ars.length - k from (by omega)) (Sub.cons rfl (Sub.cons rfl (Sub.cons rfl (Sub.cons (lookV rfl (by first | rfl | simp)) (Sub.cons (lookV rfl (by first | rfl | simp)) (Sub.cons rfl (Sub.cons rfl (Sub.cons lookO Sub.nil)))))))) (show Fit κ _ (vc 3 (.slice (ad12) (ofL (flq ++ ([(at_ ars ((k : Nat) : Int)).u] : List Int))).length (cp13)) ((ofL (flq ++ ([(at_ ars ((k : Nat) : Int)).u] : List Int)))) :: vc 3 (.slice (ad14) (ofL (tlq ++ ([(at_ ars ((k : Nat) : Int)).v] : List Int))).length (cp15)) ((ofL (tlq ++ ([(at_ ars ((k : Nat) : Int)).v] : List Int)))) :: blk b3 [.slice none 0 0, .slice none 0 0, I64 (0), I64 (0), I64 (1)] 58 :: blk b2 [.slice none 0 0, .slice none 0 0, I64 (0), I64 (0), I64 (0)] 58 :: blk b1 [I64 (nd), va] 54 :: I) from (by first | exact Fit.s | exact Fit.sub))
   ·refine Step.eff rfl (Wanted.plain rfl) (Eff.bs (α := Int) (cs := [_]) (xs := [(at_ ars ((k : Nat) : Int)).v]) Tryz.underlying22 ty3 rfl rfl (by decide) (by decide) rfl rfl rfl rfl) ?_
    rintro _ _ ⟨ad16, rfl, rfl⟩
    refine ⟨Fit.m, ?_⟩
    refine D.step (rs := [3]) (by kernel_rfl) rfl rfl (all1 ?_)
    refine Step.eff rfl (Wanted.plain rfl) (Eff.bs (α := Int) (cs := [_]) (xs := [(at_ ars ((k : Nat) : Int)).u]) Tryz.underlying22 ty3 rfl rfl (by decide) (by decide) rfl rfl rfl rfl) ?_
    rintro _ _ ⟨ad17, rfl, rfl⟩
    refine ⟨Fit.m, ?_⟩
    refine D.step (rs := [4]) (by kernel_rfl) rfl rfl (all1 ?_)
    refine Step.eff rfl (Wanted.plain rfl) (Eff.call call95 rfl rfl (Union_ok Sl.o Sl.o (by simp only [List.length_cons, List.length_nil]; omega))) ?_
    rintro _ _ ⟨_, _, ⟨ad18, cp19, rfl, rfl⟩, rfl, rfl⟩
    refine ⟨Fit.m, ?_⟩
    refine D.step (rs := [9]) (by kernel_rfl) rfl rfl (all1 ?_)
    refine Step.eff rfl (Wanted.plain rfl) (Eff.call call95 rfl rfl (Union_ok Sl.o Sl.o (by simp only [List.length_cons, List.length_nil]; omega))) ?_
    rintro _ _ ⟨_, _, ⟨ad20, cp21, rfl, rfl⟩, rfl, rfl⟩
    refine ⟨Fit.m, ?_⟩
    refine D.r 10 rfl (Runs.assign rfl) ?_
    refine D.r 11 rfl (Runs.assign rfl) ?_
    refine D.done (by kernel_rfl) ?_
    refine V.block_normal ?_
    refine V.then ?_
    refine W.sub (L' := [(7, _), (6, _), (1, _), (2, _), (5, _), (25, _), (26, _), (27, _)]) (Sub.cons rfl (Sub.cons rfl (Sub.cons rfl (Sub.cons rfl (Sub.cons rfl (Sub.cons rfl (Sub.cons rfl (Sub.cons rfl Sub.nil)))))))) ?_
    refine W.region ?_
    refine G.r (Runs.add rfl rfl (by unfold InR; omega)) ?_
    refine G.r (Runs.move rfl) ?_
    refine G.nil ?_
    exact V.next ((k + 1), (ad18), (cp19), (ofL (flq ++ ([(at_ ars ((k : Nat) : Int)).u] : List Int))), (ad20), (cp21), (ofL (tlq ++ ([(at_ ars ((k : Nat) : Int)).v] : List Int)))) (show ((k + 1 : Nat) ≤ ars.length) ∧ ((ofL (flq ++ ([(at_ ars ((k : Nat) : Int)).u] : List Int)) : List Int) = ofL ((ars.take (k + 1 : Nat)).map Pt.u)) ∧ ((ofL (tlq ++ ([(at_ ars ((k : Nat) : Int)).v] : List Int)) : List Int) = ofL ((ars.take (k + 1 : Nat)).map Pt.v)) from ⟨(by omega), (by rw [hflq]; exact ofL_map (g := Pt.u) (by omega)), (by rw [htlq]; exact ofL_map (g := Pt.v) (by omega))⟩) (show ars.length - (k + 1 : Nat) < ars.length - k from (by omega)) (Sub.cons rfl (Sub.cons rfl (Sub.cons rfl (Sub.cons (lookV rfl (by first | rfl | simp)) (Sub.cons (lookV rfl (by first | rfl | simp)) (Sub.cons rfl (Sub.cons rfl (Sub.cons lookO Sub.nil)))))))) (show Fit κ _ (vc 3 (.slice (ad18) (ofL (flq ++ ([(at_ ars ((k : Nat) : Int)).u] : List Int))).length (cp19)) ((ofL (flq ++ ([(at_ ars ((k : Nat) : Int)).u] : List Int)))) :: vc 3 (.slice (ad20) (ofL (tlq ++ ([(at_ ars ((k : Nat) : Int)).v] : List Int))).length (cp21)) ((ofL (tlq ++ ([(at_ ars ((k : Nat) : Int)).v] : List Int)))) :: blk b3 [.slice none 0 0, .slice none 0 0, I64 (0), I64 (0), I64 (1)] 58 :: blk b2 [.slice none 0 0, .slice none 0 0, I64 (0), I64 (0), I64 (0)] 58 :: blk b1 [I64 (nd), va] 54 :: I) from (by first | exact Fit.s | exact Fit.sub))
  ·refine W.exit ?_
   refine V.then_exit ?_
   refine V.then_exit ?_
   refine V.block_hit ?_
   refine V.then ?_
   refine W.seq ?_
   refine W.block ?_
   have hfE : flq = listB (sendM (outB nd ars) (outB nd ars).length) := by rw [hflq, List.take_of_length_le (by omega)]; exact from_all hd
   have htE : tlq = listB (orT (outB nd ars) (outB nd ars).length) := by rw [htlq, List.take_of_length_le (by omega)]; exact to_all hd
   subst hfE htE
   refine W.loop (σ := Nat × (BitVec 64) × (BitVec 64) × (Option Addr) × Nat × (Option Addr) × Nat × (Option Addr) × Nat × (Option Addr) × Nat × Bst × (List Item)) (fun s => ([(1, .pointer (some ⟨b1, 0, none⟩)), (2, .pointer (some ⟨b2, 0, none⟩)), (5, .pointer (some ⟨b3, 0, none⟩)), (6, .slice s.2.2.2.1 (listB s.2.1).length s.2.2.2.2.1), (7, .slice s.2.2.2.2.2.1 (listB s.2.2.1).length s.2.2.2.2.2.2.1)] : Env)) (fun s => blk b3 [.slice s.2.2.2.2.2.2.2.1 s.2.2.2.2.2.2.2.2.2.2.2.1.F.length s.2.2.2.2.2.2.2.2.1, .slice s.2.2.2.2.2.2.2.2.2.1 s.2.2.2.2.2.2.2.2.2.2.2.1.T.length s.2.2.2.2.2.2.2.2.2.2.1, I64 (s.2.2.2.2.2.2.2.2.2.2.2.1.n), I64 (s.2.2.2.2.2.2.2.2.2.2.2.1.sq.num), I64 (s.2.2.2.2.2.2.2.2.2.2.2.1.sq.den)] 58 :: blk b2 [.slice none 0 0, .slice none 0 0, I64 (0), I64 (0), I64 (0)] 58 :: blk b1 [I64 (nd), va] 54 :: (s.2.2.2.2.2.2.2.2.2.2.2.2 ++ I)) (fun s => (peelK (outB nd ars) (insK (outB nd ars) (outB nd ars).length) s.1 s.2.1 s.2.2.1 s.2.2.2.2.2.2.2.2.2.2.2.1 = peelF (outB nd ars)) ∧ ((listB s.2.1).length + (listB s.2.2.1).length ≤ s.1) ∧ (∀ i : Nat, s.2.1.getLsbD i = true → (i : Int) < nd) ∧ (∀ i : Nat, s.2.2.1.getLsbD i = true → (i : Int) < nd) ∧ (FrV s.2.2.2.2.2.2.2.2.2.2.2.1.sq) ∧ (Sl κ s.2.2.2.2.2.2.2.2.2.2.2.2 (.slice s.2.2.2.1 (listB s.2.1).length s.2.2.2.2.1) (listB s.2.1)) ∧ (Sl κ s.2.2.2.2.2.2.2.2.2.2.2.2 (.slice s.2.2.2.2.2.1 (listB s.2.2.1).length s.2.2.2.2.2.2.1) (listB s.2.2.1)) ∧ (Sl κ s.2.2.2.2.2.2.2.2.2.2.2.2 (.slice s.2.2.2.2.2.2.2.1 s.2.2.2.2.2.2.2.2.2.2.2.1.F.length s.2.2.2.2.2.2.2.2.1) s.2.2.2.2.2.2.2.2.2.2.2.1.F) ∧ (Sl κ s.2.2.2.2.2.2.2.2.2.2.2.2 (.slice s.2.2.2.2.2.2.2.2.2.1 s.2.2.2.2.2.2.2.2.2.2.2.1.T.length s.2.2.2.2.2.2.2.2.2.2.1) s.2.2.2.2.2.2.2.2.2.2.2.1.T)) (fun s => s.1) (128, (sendM (outB nd ars) (outB nd ars).length), (orT (outB nd ars) (outB nd ars).length), pa, pc, qa, qc, none, 0, none, 0, noneB, ([vc 3 (.slice pa (listB (sendM (outB nd ars) (outB nd ars).length)).length pc) ((listB (sendM (outB nd ars) (outB nd ars).length))), vc 3 (.slice qa (listB (orT (outB nd ars) (outB nd ars).length)).length qc) ((listB (orT (outB nd ars) (outB nd ars).length)))] : List Item)) (show (peelK (outB nd ars) (insK (outB nd ars) (outB nd ars).length) (128 : Nat) ((sendM (outB nd ars) (outB nd ars).length) : BitVec 64) ((orT (outB nd ars) (outB nd ars).length) : BitVec 64) (noneB : Bst) = peelF (outB nd ars)) ∧ ((listB ((sendM (outB nd ars) (outB nd ars).length) : BitVec 64)).length + (listB ((orT (outB nd ars) (outB nd ars).length) : BitVec 64)).length ≤ (128 : Nat)) ∧ (∀ i : Nat, ((sendM (outB nd ars) (outB nd ars).length) : BitVec 64).getLsbD i = true → (i : Int) < nd) ∧ (∀ i : Nat, ((orT (outB nd ars) (outB nd ars).length) : BitVec 64).getLsbD i = true → (i : Int) < nd) ∧ (FrV (noneB : Bst).sq) ∧ (Sl κ (([vc 3 (.slice pa (listB (sendM (outB nd ars) (outB nd ars).length)).length pc) ((listB (sendM (outB nd ars) (outB nd ars).length))), vc 3 (.slice qa (listB (orT (outB nd ars) (outB nd ars).length)).length qc) ((listB (orT (outB nd ars) (outB nd ars).length)))] : List Item) : List Item) (.slice (pa : Option Addr) (listB ((sendM (outB nd ars) (outB nd ars).length) : BitVec 64)).length (pc : Nat)) (listB ((sendM (outB nd ars) (outB nd ars).length) : BitVec 64))) ∧ (Sl κ (([vc 3 (.slice pa (listB (sendM (outB nd ars) (outB nd ars).length)).length pc) ((listB (sendM (outB nd ars) (outB nd ars).length))), vc 3 (.slice qa (listB (orT (outB nd ars) (outB nd ars).length)).length qc) ((listB (orT (outB nd ars) (outB nd ars).length)))] : List Item) : List Item) (.slice (qa : Option Addr) (listB ((orT (outB nd ars) (outB nd ars).length) : BitVec 64)).length (qc : Nat)) (listB ((orT (outB nd ars) (outB nd ars).length) : BitVec 64))) ∧ (Sl κ (([vc 3 (.slice pa (listB (sendM (outB nd ars) (outB nd ars).length)).length pc) ((listB (sendM (outB nd ars) (outB nd ars).length))), vc 3 (.slice qa (listB (orT (outB nd ars) (outB nd ars).length)).length qc) ((listB (orT (outB nd ars) (outB nd ars).length)))] : List Item) : List Item) (.slice (none : Option Addr) (noneB : Bst).F.length (0 : Nat)) (noneB : Bst).F) ∧ (Sl κ (([vc 3 (.slice pa (listB (sendM (outB nd ars) (outB nd ars).length)).length pc) ((listB (sendM (outB nd ars) (outB nd ars).length))), vc 3 (.slice qa (listB (orT (outB nd ars) (outB nd ars).length)).length qc) ((listB (orT (outB nd ars) (outB nd ars).length)))] : List Item) : List Item) (.slice (none : Option Addr) (noneB : Bst).T.length (0 : Nat)) (noneB : Bst).T) from ⟨rfl, (by have := listB_len (sendM (outB nd ars) (outB nd ars).length); have := listB_len (orT (outB nd ars) (outB nd ars).length); omega), (from_bits hd), (to_bits hd), noneB_val, (Sl.vec List.mem_cons_self), (Sl.vec (List.mem_cons_of_mem _ List.mem_cons_self)), (Sl.nil _), (Sl.nil _)⟩) (Sub.cons rfl (Sub.cons rfl (Sub.cons rfl (Sub.cons (lookV rfl (by first | rfl | simp)) (Sub.cons (lookV rfl (by first | rfl | simp)) Sub.nil))))) (show Fit κ _ (blk b3 [.slice (none) (noneB).F.length (0), .slice (none) (noneB).T.length (0), I64 ((noneB).n), I64 ((noneB).sq.num), I64 ((noneB).sq.den)] 58 :: blk b2 [.slice none 0 0, .slice none 0 0, I64 (0), I64 (0), I64 (0)] 58 :: blk b1 [I64 (nd), va] 54 :: ((([vc 3 (.slice pa (listB (sendM (outB nd ars) (outB nd ars).length)).length pc) ((listB (sendM (outB nd ars) (outB nd ars).length))), vc 3 (.slice qa (listB (orT (outB nd ars) (outB nd ars).length)).length qc) ((listB (orT (outB nd ars) (outB nd ars).length)))] : List Item)) ++ I)) from (by first | exact Fit.s | exact Fit.sub)) ?_
   rintro ⟨n, fq, tq, pa, pc, qa, qc, fa, fc, ta, tc, bb, Y⟩ hp
   obtain ⟨hpk, hfu, hfb, htb, hv, hpf, hpt, hbF, hbT⟩ : (peelK (outB nd ars) (insK (outB nd ars) (outB nd ars).length) n fq tq bb = peelF (outB nd ars)) ∧ ((listB fq).length + (listB tq).length ≤ n) ∧ (∀ i : Nat, fq.getLsbD i = true → (i : Int) < nd) ∧ (∀ i : Nat, tq.getLsbD i = true → (i : Int) < nd) ∧ (FrV bb.sq) ∧ (Sl κ Y (.slice pa (listB fq).length pc) (listB fq)) ∧ (Sl κ Y (.slice qa (listB tq).length qc) (listB tq)) ∧ (Sl κ Y (.slice fa bb.F.length fc) bb.F) ∧ (Sl κ Y (.slice ta bb.T.length tc) bb.T) := hp
   show W Tryz.prog κ 102 _ _ ([(1, .pointer (some ⟨b1, 0, none⟩)), (2, .pointer (some ⟨b2, 0, none⟩)), (5, .pointer (some ⟨b3, 0, none⟩)), (6, .slice pa (listB fq).length pc), (7, .slice qa (listB tq).length qc)] : Env) (blk b3 [.slice fa bb.F.length fc, .slice ta bb.T.length tc, I64 (bb.n), I64 (bb.sq.num), I64 (bb.sq.den)] 58 :: blk b2 [.slice none 0 0, .slice none 0 0, I64 (0), I64 (0), I64 (0)] 58 :: blk b1 [I64 (nd), va] 54 :: (Y ++ I))
   refine W.seq ?_
   refine W.sr ?_
   refine G.r (Runs.move rfl) ?_
   refine G.r (Runs.lens Tryz.underlying22 rfl) ?_
   refine G.r (Runs.gtr rfl rfl) ?_
   refine G.r (Runs.move rfl) ?_
   refine G.split (d := 45) rfl (fun g45 => ?_) (fun g45 => ?_)
   ·refine G.ro (Runs.move rfl) ?_
    refine G.ro (Runs.lens Tryz.underlying22 rfl) ?_
    refine G.ro (Runs.gtr rfl rfl) ?_
    refine G.r (Runs.pickt rfl rfl) ?_
    refine G.nt ?_
    refine W.sub (L' := [(49, _), (1, _), (2, _), (5, _), (6, _), (7, _)]) (Sub.cons rfl (Sub.cons rfl (Sub.cons rfl (Sub.cons rfl (Sub.cons rfl (Sub.cons rfl Sub.nil)))))) ?_
    refine W.ite rfl (fun c49 => ?_) (fun c49 => ?_)
    ·refine W.skip ?_
     refine V.then ?_
     refine W.block ?_
     refine W.sr ?_
     refine G.r (Runs.lds (vs := [_, _]) ty54) ?_
     have hzz : fq ≠ 0#64 ∧ tq ≠ 0#64 := ⟨len_nz g45, len_nz c49⟩
     refine G.r (Runs.move rfl) ?_
     refine G.r (Runs.move rfl) ?_
     refine G.e (Eff.call call96 rfl rfl (Square23_ok (nd := nd) (Sl.f hl) (Sl.fit (show Sl κ (Y ++ I) (.slice pa (listB fq).length pc) (listB fq) from Sl.fit hpf (Fit.of_sublist (List.sublist_append_left _ _))) Fit.m) (Sl.fit (show Sl κ (Y ++ I) (.slice qa (listB tq).length qc) (listB tq) from Sl.fit hpt (Fit.of_sublist (List.sublist_append_left _ _))) Fit.m) hd hzz hfb htb)) ?_
     rintro _ _ ⟨_, _, ⟨rfl, rfl⟩, rfl, rfl⟩
     refine G.r (Runs.move rfl) ?_
     refine G.r (Runs.extract rfl rfl) ?_
     refine G.r (Runs.extract rfl rfl) ?_
     refine G.e (Eff.alloc ty45 rfl) ?_
     rintro _ _ ⟨b22, rfl, rfl⟩
     refine G.e (Eff.st (cs := [_, _]) (vs := [_, _]) (cs' := [_, _]) ty45) ?_
     rintro _ _ ⟨rfl, rfl⟩
     refine G.r (Runs.assign rfl) ?_
     refine G.nt ?_
     refine W.sub (L' := [(10, _), (1, _), (2, _), (5, _), (6, _), (7, _)]) (Sub.cons rfl (Sub.cons rfl (Sub.cons rfl (Sub.cons rfl (Sub.cons rfl (Sub.cons rfl Sub.nil)))))) ?_
     refine W.cut (σ := (Option Addr) × Nat × (Option Addr) × Nat × Bst) (fun s => ([(1, .pointer (some ⟨b1, 0, none⟩)), (2, .pointer (some ⟨b2, 0, none⟩)), (5, .pointer (some ⟨b3, 0, none⟩)), (6, .slice pa (listB fq).length pc), (7, .slice qa (listB tq).length qc)] : Env)) (fun s => blk b22 [I64 ((sqB (outB nd ars) fq tq).num), I64 ((sqB (outB nd ars) fq tq).den)] 45 :: blk b3 [.slice s.1 s.2.2.2.2.F.length s.2.1, .slice s.2.2.1 s.2.2.2.2.T.length s.2.2.2.1, I64 (s.2.2.2.2.n), I64 (s.2.2.2.2.sq.num), I64 (s.2.2.2.2.sq.den)] 58 :: blk b2 [.slice none 0 0, .slice none 0 0, I64 (0), I64 (0), I64 (0)] 58 :: blk b1 [I64 (nd), va] 54 :: (Y ++ I)) (fun s => (s.2.2.2.2 = if 0 < cmpF (pairB (outB nd ars) fq tq).sq bb.sq then pairB (outB nd ars) fq tq else bb) ∧ (FrV s.2.2.2.2.sq) ∧ (Sl κ Y (.slice s.1 s.2.2.2.2.F.length s.2.1) s.2.2.2.2.F) ∧ (Sl κ Y (.slice s.2.2.1 s.2.2.2.2.T.length s.2.2.2.1) s.2.2.2.2.T)) ?_ ?_
     ·refine W.sr ?_
      refine G.r (Runs.lds (vs := [_, _]) ty45) ?_
      refine G.r (Runs.fieldAddr fld58_3 rfl) ?_
      refine G.r (Runs.lds (vs := [_, _]) ty45) ?_
      refine G.e (Eff.call call33 rfl rfl (Cmp01_ok (sqB (outB nd ars) fq tq) bb.sq (by first | exact hv | exact sqB_val hzz.1 hzz.2) (by first | exact hv | exact sqB_val hzz.1 hzz.2))) ?_
      rintro _ _ ⟨_, _, ⟨rfl, rfl⟩, rfl, rfl⟩
      refine G.r (Runs.gtr rfl rfl) ?_
      refine G.nt ?_
      refine W.ite rfl (fun c61 => ?_) (fun c61 => ?_)
      ·refine W.drawn mixed ?_
       refine A.hold (blk b22 [I64 ((sqB (outB nd ars) fq tq).num), I64 ((sqB (outB nd ars) fq tq).den)] 45 :: blk b3 [.slice fa bb.F.length fc, .slice ta bb.T.length tc, I64 (bb.n), I64 (bb.sq.num), I64 (bb.sq.den)] 58 :: blk b2 [.slice none 0 0, .slice none 0 0, I64 (0), I64 (0), I64 (0)] 58 :: blk b1 [I64 (nd), va] 54 :: (Y ++ I)) 8 ?_
       refine D.r 0 rfl (Runs.move rfl) ?_
       refine D.r 1 rfl (Runs.move rfl) ?_
       refine D.r 2 rfl (Runs.lds (vs := [_, _]) ty54) ?_
       refine D.r 3 rfl (Runs.move rfl) ?_
       refine D.r 4 rfl (Runs.move rfl) ?_
       refine D.r 6 rfl (Runs.lds (vs := [_, _]) ty45) ?_
       refine D.step (rs := [5]) (by kernel_rfl) rfl rfl (all1 ?_)
       refine Step.eff rfl (Wanted.plain rfl) (Eff.call call97 rfl rfl (Between23_bet (nd := nd) (Sl.f hl) (Sl.fit (show Sl κ (Y ++ I) (.slice pa (listB fq).length pc) (listB fq) from Sl.fit hpf (Fit.of_sublist (List.sublist_append_left _ _))) Fit.m) (Sl.fit (show Sl κ (Y ++ I) (.slice qa (listB tq).length qc) (listB tq) from Sl.fit hpt (Fit.of_sublist (List.sublist_append_left _ _))) Fit.m) hd hfb)) ?_
       rintro _ _ ⟨_, _, ⟨rfl, rfl⟩, rfl, rfl⟩
       refine ⟨Fit.m, ?_⟩
       refine D.r 7 rfl (Runs.build (cells := [_, _, _, _, _]) ty58 Tryz.underlying58 pl58 rfl rfl) ?_
       refine D.stop (by kernel_rfl) ?_
       refine A.eff (i := 8) (by kernel_rfl) rfl (Wanted.plain rfl) (Eff.st (cs := [_, _, _, _, _]) (vs := [_, _, _, _, _]) (cs' := [_, _, _, _, _]) ty58) ?_
       rintro _ _ ⟨rfl, rfl⟩
       refine A.done (by kernel_rfl) ?_
       exact V.mid ((pa), (pc), (qa), (qc), ((pairB (outB nd ars) fq tq))) (show (((pairB (outB nd ars) fq tq) : Bst) = if 0 < cmpF (pairB (outB nd ars) fq tq).sq bb.sq then pairB (outB nd ars) fq tq else bb) ∧ (FrV ((pairB (outB nd ars) fq tq) : Bst).sq) ∧ (Sl κ Y (.slice (pa : Option Addr) ((pairB (outB nd ars) fq tq) : Bst).F.length (pc : Nat)) ((pairB (outB nd ars) fq tq) : Bst).F) ∧ (Sl κ Y (.slice (qa : Option Addr) ((pairB (outB nd ars) fq tq) : Bst).T.length (qc : Nat)) ((pairB (outB nd ars) fq tq) : Bst).T) from ⟨(by first | rw [if_pos (show 0 < cmpF (pairB (outB nd ars) fq tq).sq bb.sq from by first | exact c61 | fail)] | rw [if_neg (show ¬ 0 < cmpF (pairB (outB nd ars) fq tq).sq bb.sq from by first | exact c61 | fail)]), (by first | exact hv | exact sqB_val hzz.1 hzz.2), (by first | exact hbF | exact hpf), (by first | exact hbT | exact hpt)⟩) (Sub.cons rfl (Sub.cons rfl (Sub.cons rfl (Sub.cons rfl (Sub.cons rfl Sub.nil))))) (show Fit κ _ (blk b22 [I64 ((sqB (outB nd ars) fq tq).num), I64 ((sqB (outB nd ars) fq tq).den)] 45 :: blk b3 [.slice (pa) ((pairB (outB nd ars) fq tq)).F.length (pc), .slice (qa) ((pairB (outB nd ars) fq tq)).T.length (qc), I64 (((pairB (outB nd ars) fq tq)).n), I64 (((pairB (outB nd ars) fq tq)).sq.num), I64 (((pairB (outB nd ars) fq tq)).sq.den)] 58 :: blk b2 [.slice none 0 0, .slice none 0 0, I64 (0), I64 (0), I64 (0)] 58 :: blk b1 [I64 (nd), va] 54 :: (Y ++ I)) from (by first | exact Fit.s | exact Fit.sub))
      ·refine W.skip ?_
       exact V.mid ((fa), (fc), (ta), (tc), (bb)) (show ((bb : Bst) = if 0 < cmpF (pairB (outB nd ars) fq tq).sq bb.sq then pairB (outB nd ars) fq tq else bb) ∧ (FrV (bb : Bst).sq) ∧ (Sl κ Y (.slice (fa : Option Addr) (bb : Bst).F.length (fc : Nat)) (bb : Bst).F) ∧ (Sl κ Y (.slice (ta : Option Addr) (bb : Bst).T.length (tc : Nat)) (bb : Bst).T) from ⟨(by first | rw [if_pos (show 0 < cmpF (pairB (outB nd ars) fq tq).sq bb.sq from by first | exact c61 | fail)] | rw [if_neg (show ¬ 0 < cmpF (pairB (outB nd ars) fq tq).sq bb.sq from by first | exact c61 | fail)]), (by first | exact hv | exact sqB_val hzz.1 hzz.2), (by first | exact hbF | exact hpf), (by first | exact hbT | exact hpt)⟩) (Sub.cons rfl (Sub.cons rfl (Sub.cons rfl (Sub.cons rfl (Sub.cons rfl Sub.nil))))) (show Fit κ _ (blk b22 [I64 ((sqB (outB nd ars) fq tq).num), I64 ((sqB (outB nd ars) fq tq).den)] 45 :: blk b3 [.slice (fa) (bb).F.length (fc), .slice (ta) (bb).T.length (tc), I64 ((bb).n), I64 ((bb).sq.num), I64 ((bb).sq.den)] 58 :: blk b2 [.slice none 0 0, .slice none 0 0, I64 (0), I64 (0), I64 (0)] 58 :: blk b1 [I64 (nd), va] 54 :: (Y ++ I)) from (by first | exact Fit.s | exact Fit.sub))
     ·rintro ⟨fa2, fc2, ta2, tc2, bz⟩ hp
      obtain ⟨hbz, hvz, hzF, hzT⟩ : (bz = if 0 < cmpF (pairB (outB nd ars) fq tq).sq bb.sq then pairB (outB nd ars) fq tq else bb) ∧ (FrV bz.sq) ∧ (Sl κ Y (.slice fa2 bz.F.length fc2) bz.F) ∧ (Sl κ Y (.slice ta2 bz.T.length tc2) bz.T) := hp
      show W Tryz.prog κ 102 _ _ ([(1, .pointer (some ⟨b1, 0, none⟩)), (2, .pointer (some ⟨b2, 0, none⟩)), (5, .pointer (some ⟨b3, 0, none⟩)), (6, .slice pa (listB fq).length pc), (7, .slice qa (listB tq).length qc)] : Env) (blk b22 [I64 ((sqB (outB nd ars) fq tq).num), I64 ((sqB (outB nd ars) fq tq).den)] 45 :: blk b3 [.slice fa2 bz.F.length fc2, .slice ta2 bz.T.length tc2, I64 (bz.n), I64 (bz.sq.num), I64 (bz.sq.den)] 58 :: blk b2 [.slice none 0 0, .slice none 0 0, I64 (0), I64 (0), I64 (0)] 58 :: blk b1 [I64 (nd), va] 54 :: (Y ++ I))
      have hzz : fq ≠ 0#64 ∧ tq ≠ 0#64 := ⟨len_nz g45, len_nz c49⟩
      refine W.sr ?_
      refine G.r (Runs.lds (vs := [_, _]) ty54) ?_
      refine G.r (Runs.move rfl) ?_
      refine G.r (Runs.move rfl) ?_
      refine G.e (Eff.call call98 rfl rfl (FewO_ok (nd := nd) (Sl.f hl) (Sl.fit (show Sl κ (Y ++ I) (.slice pa (listB fq).length pc) (listB fq) from Sl.fit hpf (Fit.of_sublist (List.sublist_append_left _ _))) Fit.m) (Sl.fit (show Sl κ (Y ++ I) (.slice qa (listB tq).length qc) (listB tq) from Sl.fit hpt (Fit.of_sublist (List.sublist_append_left _ _))) Fit.m) hd hfb htb)) ?_
      rintro _ _ ⟨_, _, ⟨rfl, rfl⟩, rfl, rfl⟩
      refine G.r (Runs.move rfl) ?_
      refine G.r (Runs.extract rfl rfl) ?_
      refine G.r (Runs.extract rfl rfl) ?_
      refine G.r (Runs.assign rfl) ?_
      refine G.r (Runs.assign rfl) ?_
      refine G.nt ?_
      refine W.sub (L' := [(13, _), (12, _), (1, _), (2, _), (5, _), (6, _), (7, _)]) (Sub.cons rfl (Sub.cons rfl (Sub.cons rfl (Sub.cons rfl (Sub.cons rfl (Sub.cons rfl (Sub.cons rfl Sub.nil))))))) ?_
      refine W.sr ?_
      refine G.r (Runs.lds (vs := [_, _]) ty54) ?_
      refine G.r (Runs.move rfl) ?_
      refine G.r (Runs.move rfl) ?_
      refine G.e (Eff.call call98 rfl rfl (FewI_ok (nd := nd) (Sl.f hl) (Sl.fit (show Sl κ (Y ++ I) (.slice qa (listB tq).length qc) (listB tq) from Sl.fit hpt (Fit.of_sublist (List.sublist_append_left _ _))) Fit.m) (Sl.fit (show Sl κ (Y ++ I) (.slice pa (listB fq).length pc) (listB fq) from Sl.fit hpf (Fit.of_sublist (List.sublist_append_left _ _))) Fit.m) hd htb hfb)) ?_
      rintro _ _ ⟨_, _, ⟨rfl, rfl⟩, rfl, rfl⟩
      have hx1 := few_bd (cf := cfA (outB nd ars) tq) (cfA_bd _ _) (listB fq)
      have hx2 := few_bd (cf := cfA (insK (outB nd ars) (outB nd ars).length) fq) (cfA_bd _ _) (listB tq)
      have hi1 := few_in (cf := cfA (outB nd ars) tq) (cfA_bd _ _) hzz.1
      have hi2 := few_in (cf := cfA (insK (outB nd ars) (outB nd ars).length) fq) (cfA_bd _ _) hzz.2
      have hy1 := drop_bit hi1
      have hy2 := drop_bit hi2
      have hm1 := mul64 hx1 (onesB_64 fq)
      have hm2 := mul64 hx2 (onesB_64 tq)
      rw [ones_pop] at hm1 hm2
      have hq1 := listB_len fq
      have hq2 := listB_len tq
      refine G.r (Runs.move rfl) ?_
      refine G.r (Runs.extract rfl rfl) ?_
      refine G.r (Runs.extract rfl rfl) ?_
      refine G.r (Runs.assign rfl) ?_
      refine G.r (Runs.assign rfl) ?_
      refine G.nt ?_
      refine W.sub (L' := [(15, _), (14, _), (13, _), (12, _), (1, _), (2, _), (5, _), (6, _), (7, _)]) (Sub.cons rfl (Sub.cons rfl (Sub.cons rfl (Sub.cons rfl (Sub.cons rfl (Sub.cons rfl (Sub.cons rfl (Sub.cons rfl (Sub.cons rfl Sub.nil))))))))) ?_
      refine W.sr ?_
      refine G.r (Runs.move rfl) ?_
      refine G.r (Runs.move rfl) ?_
      refine G.r (Runs.lens Tryz.underlying22 rfl) ?_
      refine G.r (Runs.mul rfl rfl (by unfold InR; omega)) ?_
      refine G.r (Runs.move rfl) ?_
      refine G.r (Runs.move rfl) ?_
      refine G.r (Runs.lens Tryz.underlying22 rfl) ?_
      refine G.r (Runs.mul rfl rfl (by unfold InR; omega)) ?_
      refine G.r (Runs.leq rfl rfl) ?_
      refine G.nt ?_
      refine W.sub (L' := [(92, _), (14, _), (12, _), (1, _), (2, _), (5, _), (6, _), (7, _)]) (Sub.cons rfl (Sub.cons rfl (Sub.cons rfl (Sub.cons rfl (Sub.cons rfl (Sub.cons rfl (Sub.cons rfl (Sub.cons rfl Sub.nil)))))))) ?_
      refine W.ite rfl (fun c92 => ?_) (fun c92 => ?_)
      ·refine W.region ?_
       refine G.r (Runs.move rfl) ?_
       refine G.r (Runs.move rfl) ?_
       refine G.e (Eff.bs (α := Int) (cs := [_]) (xs := [(fewF (cfA (outB nd ars) tq) (listB fq)).1]) Tryz.underlying22 ty3 rfl rfl (by decide) (by decide) rfl rfl rfl rfl) ?_
       rintro _ _ ⟨ad23, rfl, rfl⟩
       refine G.e (Eff.call call99 rfl rfl (Minus_ok (Sl.fit (show Sl κ (Y ++ I) (.slice pa (listB fq).length pc) (listB fq) from Sl.fit hpf (Fit.of_sublist (List.sublist_append_left _ _))) Fit.m) Sl.o (by have := listB_len fq; have := listB_len tq; omega))) ?_
       rintro _ _ ⟨_, _, ⟨ad24, cp25, rfl, rfl⟩, rfl, rfl⟩
       have hmE : minusL (listB fq) ([(fewF (cfA (outB nd ars) tq) (listB fq)).1] : List Int) = listB (fq &&& ~~~(bitB ((fewF (cfA (outB nd ars) tq) (listB fq)).1))) := minus_one hi1
       rw [hmE]
       refine G.r (Runs.assign rfl) ?_
       refine G.nil ?_
       refine V.block_normal ?_
       exact V.next ((n - 1), ((fq &&& ~~~(bitB ((fewF (cfA (outB nd ars) tq) (listB fq)).1)))), (tq), (ad24), (cp25), (qa), (qc), (fa2), (fc2), (ta2), (tc2), (bz), ((vc 3 (.slice ad24 (listB (fq &&& ~~~(bitB ((fewF (cfA (outB nd ars) tq) (listB fq)).1)))).length cp25) (listB (fq &&& ~~~(bitB ((fewF (cfA (outB nd ars) tq) (listB fq)).1)))) :: Y))) (show (peelK (outB nd ars) (insK (outB nd ars) (outB nd ars).length) (n - 1 : Nat) ((fq &&& ~~~(bitB ((fewF (cfA (outB nd ars) tq) (listB fq)).1))) : BitVec 64) (tq : BitVec 64) (bz : Bst) = peelF (outB nd ars)) ∧ ((listB ((fq &&& ~~~(bitB ((fewF (cfA (outB nd ars) tq) (listB fq)).1))) : BitVec 64)).length + (listB (tq : BitVec 64)).length ≤ (n - 1 : Nat)) ∧ (∀ i : Nat, ((fq &&& ~~~(bitB ((fewF (cfA (outB nd ars) tq) (listB fq)).1))) : BitVec 64).getLsbD i = true → (i : Int) < nd) ∧ (∀ i : Nat, (tq : BitVec 64).getLsbD i = true → (i : Int) < nd) ∧ (FrV (bz : Bst).sq) ∧ (Sl κ ((vc 3 (.slice ad24 (listB (fq &&& ~~~(bitB ((fewF (cfA (outB nd ars) tq) (listB fq)).1)))).length cp25) (listB (fq &&& ~~~(bitB ((fewF (cfA (outB nd ars) tq) (listB fq)).1)))) :: Y) : List Item) (.slice (ad24 : Option Addr) (listB ((fq &&& ~~~(bitB ((fewF (cfA (outB nd ars) tq) (listB fq)).1))) : BitVec 64)).length (cp25 : Nat)) (listB ((fq &&& ~~~(bitB ((fewF (cfA (outB nd ars) tq) (listB fq)).1))) : BitVec 64))) ∧ (Sl κ ((vc 3 (.slice ad24 (listB (fq &&& ~~~(bitB ((fewF (cfA (outB nd ars) tq) (listB fq)).1)))).length cp25) (listB (fq &&& ~~~(bitB ((fewF (cfA (outB nd ars) tq) (listB fq)).1)))) :: Y) : List Item) (.slice (qa : Option Addr) (listB (tq : BitVec 64)).length (qc : Nat)) (listB (tq : BitVec 64))) ∧ (Sl κ ((vc 3 (.slice ad24 (listB (fq &&& ~~~(bitB ((fewF (cfA (outB nd ars) tq) (listB fq)).1)))).length cp25) (listB (fq &&& ~~~(bitB ((fewF (cfA (outB nd ars) tq) (listB fq)).1)))) :: Y) : List Item) (.slice (fa2 : Option Addr) (bz : Bst).F.length (fc2 : Nat)) (bz : Bst).F) ∧ (Sl κ ((vc 3 (.slice ad24 (listB (fq &&& ~~~(bitB ((fewF (cfA (outB nd ars) tq) (listB fq)).1)))).length cp25) (listB (fq &&& ~~~(bitB ((fewF (cfA (outB nd ars) tq) (listB fq)).1)))) :: Y) : List Item) (.slice (ta2 : Option Addr) (bz : Bst).T.length (tc2 : Nat)) (bz : Bst).T) from ⟨(by rw [← hpk, peelK_from (by omega) hzz.1 hzz.2 (by rw [ones_pop, ones_pop]; exact c92), ← hbz]), (by omega), (fun i hi => hfb i (getLsb_minus.1 hi).1), htb, hvz, (Sl.vec List.mem_cons_self), (Sl.fit hpt (Fit.tail (Fit.refl _))), (Sl.fit hzF (Fit.tail (Fit.refl _))), (Sl.fit hzT (Fit.tail (Fit.refl _)))⟩) (show (n - 1 : Nat) < n from (by omega)) (Sub.cons rfl (Sub.cons rfl (Sub.cons rfl (Sub.cons (lookV rfl (by first | rfl | simp)) (Sub.cons (lookV rfl (by first | rfl | simp)) Sub.nil))))) (show Fit κ _ (blk b3 [.slice (fa2) (bz).F.length (fc2), .slice (ta2) (bz).T.length (tc2), I64 ((bz).n), I64 ((bz).sq.num), I64 ((bz).sq.den)] 58 :: blk b2 [.slice none 0 0, .slice none 0 0, I64 (0), I64 (0), I64 (0)] 58 :: blk b1 [I64 (nd), va] 54 :: (((vc 3 (.slice ad24 (listB (fq &&& ~~~(bitB ((fewF (cfA (outB nd ars) tq) (listB fq)).1)))).length cp25) (listB (fq &&& ~~~(bitB ((fewF (cfA (outB nd ars) tq) (listB fq)).1)))) :: Y)) ++ I)) from (by first | exact Fit.s | exact Fit.sub))
      ·refine W.region ?_
       refine G.r (Runs.move rfl) ?_
       refine G.r (Runs.move rfl) ?_
       refine G.e (Eff.bs (α := Int) (cs := [_]) (xs := [(fewF (cfA (insK (outB nd ars) (outB nd ars).length) fq) (listB tq)).1]) Tryz.underlying22 ty3 rfl rfl (by decide) (by decide) rfl rfl rfl rfl) ?_
       rintro _ _ ⟨ad26, rfl, rfl⟩
       refine G.e (Eff.call call99 rfl rfl (Minus_ok (Sl.fit (show Sl κ (Y ++ I) (.slice qa (listB tq).length qc) (listB tq) from Sl.fit hpt (Fit.of_sublist (List.sublist_append_left _ _))) Fit.m) Sl.o (by have := listB_len fq; have := listB_len tq; omega))) ?_
       rintro _ _ ⟨_, _, ⟨ad27, cp28, rfl, rfl⟩, rfl, rfl⟩
       have hmE : minusL (listB tq) ([(fewF (cfA (insK (outB nd ars) (outB nd ars).length) fq) (listB tq)).1] : List Int) = listB (tq &&& ~~~(bitB ((fewF (cfA (insK (outB nd ars) (outB nd ars).length) fq) (listB tq)).1))) := minus_one hi2
       rw [hmE]
       refine G.r (Runs.assign rfl) ?_
       refine G.nil ?_
       refine V.block_normal ?_
       exact V.next ((n - 1), (fq), ((tq &&& ~~~(bitB ((fewF (cfA (insK (outB nd ars) (outB nd ars).length) fq) (listB tq)).1)))), (pa), (pc), (ad27), (cp28), (fa2), (fc2), (ta2), (tc2), (bz), ((vc 3 (.slice ad27 (listB (tq &&& ~~~(bitB ((fewF (cfA (insK (outB nd ars) (outB nd ars).length) fq) (listB tq)).1)))).length cp28) (listB (tq &&& ~~~(bitB ((fewF (cfA (insK (outB nd ars) (outB nd ars).length) fq) (listB tq)).1)))) :: Y))) (show (peelK (outB nd ars) (insK (outB nd ars) (outB nd ars).length) (n - 1 : Nat) (fq : BitVec 64) ((tq &&& ~~~(bitB ((fewF (cfA (insK (outB nd ars) (outB nd ars).length) fq) (listB tq)).1))) : BitVec 64) (bz : Bst) = peelF (outB nd ars)) ∧ ((listB (fq : BitVec 64)).length + (listB ((tq &&& ~~~(bitB ((fewF (cfA (insK (outB nd ars) (outB nd ars).length) fq) (listB tq)).1))) : BitVec 64)).length ≤ (n - 1 : Nat)) ∧ (∀ i : Nat, (fq : BitVec 64).getLsbD i = true → (i : Int) < nd) ∧ (∀ i : Nat, ((tq &&& ~~~(bitB ((fewF (cfA (insK (outB nd ars) (outB nd ars).length) fq) (listB tq)).1))) : BitVec 64).getLsbD i = true → (i : Int) < nd) ∧ (FrV (bz : Bst).sq) ∧ (Sl κ ((vc 3 (.slice ad27 (listB (tq &&& ~~~(bitB ((fewF (cfA (insK (outB nd ars) (outB nd ars).length) fq) (listB tq)).1)))).length cp28) (listB (tq &&& ~~~(bitB ((fewF (cfA (insK (outB nd ars) (outB nd ars).length) fq) (listB tq)).1)))) :: Y) : List Item) (.slice (pa : Option Addr) (listB (fq : BitVec 64)).length (pc : Nat)) (listB (fq : BitVec 64))) ∧ (Sl κ ((vc 3 (.slice ad27 (listB (tq &&& ~~~(bitB ((fewF (cfA (insK (outB nd ars) (outB nd ars).length) fq) (listB tq)).1)))).length cp28) (listB (tq &&& ~~~(bitB ((fewF (cfA (insK (outB nd ars) (outB nd ars).length) fq) (listB tq)).1)))) :: Y) : List Item) (.slice (ad27 : Option Addr) (listB ((tq &&& ~~~(bitB ((fewF (cfA (insK (outB nd ars) (outB nd ars).length) fq) (listB tq)).1))) : BitVec 64)).length (cp28 : Nat)) (listB ((tq &&& ~~~(bitB ((fewF (cfA (insK (outB nd ars) (outB nd ars).length) fq) (listB tq)).1))) : BitVec 64))) ∧ (Sl κ ((vc 3 (.slice ad27 (listB (tq &&& ~~~(bitB ((fewF (cfA (insK (outB nd ars) (outB nd ars).length) fq) (listB tq)).1)))).length cp28) (listB (tq &&& ~~~(bitB ((fewF (cfA (insK (outB nd ars) (outB nd ars).length) fq) (listB tq)).1)))) :: Y) : List Item) (.slice (fa2 : Option Addr) (bz : Bst).F.length (fc2 : Nat)) (bz : Bst).F) ∧ (Sl κ ((vc 3 (.slice ad27 (listB (tq &&& ~~~(bitB ((fewF (cfA (insK (outB nd ars) (outB nd ars).length) fq) (listB tq)).1)))).length cp28) (listB (tq &&& ~~~(bitB ((fewF (cfA (insK (outB nd ars) (outB nd ars).length) fq) (listB tq)).1)))) :: Y) : List Item) (.slice (ta2 : Option Addr) (bz : Bst).T.length (tc2 : Nat)) (bz : Bst).T) from ⟨(by rw [← hpk, peelK_to (by omega) hzz.1 hzz.2 (by rw [ones_pop, ones_pop]; exact c92), ← hbz]), (by omega), hfb, (fun i hi => htb i (getLsb_minus.1 hi).1), hvz, (Sl.fit hpf (Fit.tail (Fit.refl _))), (Sl.vec List.mem_cons_self), (Sl.fit hzF (Fit.tail (Fit.refl _))), (Sl.fit hzT (Fit.tail (Fit.refl _)))⟩) (show (n - 1 : Nat) < n from (by omega)) (Sub.cons rfl (Sub.cons rfl (Sub.cons rfl (Sub.cons (lookV rfl (by first | rfl | simp)) (Sub.cons (lookV rfl (by first | rfl | simp)) Sub.nil))))) (show Fit κ _ (blk b3 [.slice (fa2) (bz).F.length (fc2), .slice (ta2) (bz).T.length (tc2), I64 ((bz).n), I64 ((bz).sq.num), I64 ((bz).sq.den)] 58 :: blk b2 [.slice none 0 0, .slice none 0 0, I64 (0), I64 (0), I64 (0)] 58 :: blk b1 [I64 (nd), va] 54 :: (((vc 3 (.slice ad27 (listB (tq &&& ~~~(bitB ((fewF (cfA (insK (outB nd ars) (outB nd ars).length) fq) (listB tq)).1)))).length cp28) (listB (tq &&& ~~~(bitB ((fewF (cfA (insK (outB nd ars) (outB nd ars).length) fq) (listB tq)).1)))) :: Y)) ++ I)) from (by first | exact Fit.s | exact Fit.sub))
    ·refine W.exit ?_
     refine V.then_exit ?_
     refine V.then_exit ?_
     refine V.block_hit ?_
     refine V.then ?_
     refine W.sr ?_
     refine G.r (Runs.lds (vs := [_, _, _, _, _]) ty58) ?_
     refine G.e (Eff.st (cs := [_, _, _, _, _]) (vs := [_, _, _, _, _]) (cs' := [_, _, _, _, _]) ty58) ?_
     rintro _ _ ⟨rfl, rfl⟩
     refine G.r (Runs.assign rfl) ?_
     refine G.nt ?_
     refine W.ret ?_
     have hX : (peelG nd ars) = bb := by unfold peelG; rw [if_neg (by rw [hd1]; decide), ← hpk]; exact peelK_stop (by first | exact .inr (len_zero c49) | exact .inl (len_zero g45)) n
     exact V.retc1 rfl ty58 rfl rfl (by repeat (first | exact List.mem_cons_self | apply List.mem_cons_of_mem)) rfl ((Y ++ I)) Fit.m ⟨fa, fc, ta, tc, Y, by rw [hX, hd1], by rw [hX]; exact hbF, by rw [hX]; exact hbT, rfl⟩
   ·refine G.po ?_
    refine G.po ?_
    refine G.po ?_
    refine G.r (Runs.pickf rfl rfl) ?_
    refine G.nt ?_
    refine W.sub (L' := [(49, _), (1, _), (2, _), (5, _), (6, _), (7, _)]) (Sub.cons rfl (Sub.cons rfl (Sub.cons rfl (Sub.cons rfl (Sub.cons rfl (Sub.cons rfl Sub.nil)))))) ?_
    refine W.no rfl ?_
    refine W.exit ?_
    refine V.then_exit ?_
    refine V.then_exit ?_
    refine V.block_hit ?_
    refine V.then ?_
    refine W.sr ?_
    refine G.r (Runs.lds (vs := [_, _, _, _, _]) ty58) ?_
    refine G.e (Eff.st (cs := [_, _, _, _, _]) (vs := [_, _, _, _, _]) (cs' := [_, _, _, _, _]) ty58) ?_
    rintro _ _ ⟨rfl, rfl⟩
    refine G.r (Runs.assign rfl) ?_
    refine G.nt ?_
    refine W.ret ?_
    have hX : (peelG nd ars) = bb := by unfold peelG; rw [if_neg (by rw [hd1]; decide), ← hpk]; exact peelK_stop (by first | exact .inr (len_zero c49) | exact .inl (len_zero g45)) n
    exact V.retc1 rfl ty58 rfl rfl (by repeat (first | exact List.mem_cons_self | apply List.mem_cons_of_mem)) rfl ((Y ++ I)) Fit.m ⟨fa, fc, ta, tc, Y, by rw [hX, hd1], by rw [hX]; exact hbF, by rw [hX]; exact hbT, rfl⟩

end Go.Sl
