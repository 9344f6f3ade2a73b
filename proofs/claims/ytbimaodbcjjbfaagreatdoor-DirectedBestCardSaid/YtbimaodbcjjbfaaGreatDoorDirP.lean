/- A part of the proofs of statements of this seat: contracts of functions, and the plain laws that they lean on. No conditions. -/
import Derived.Test.YtbimaodbcjjbfaaGreatDoorDirO
namespace Go.Sl
open Go.Proofs
set_option linter.unusedVariables false
set_option linter.unusedSimpArgs false
set_option maxRecDepth 4000
def cntA (F T : List Int) (ars : List Pt) : Int := ((ars.filter fun p => decide (p.u ∈ F) && decide (p.v ∈ T)).length : Int)
theorem cntA_take {F T : List Int} {ars : List Pt} {k : Nat} (h : k < ars.length) : cntA F T (ars.take (k + 1)) = cntA F T (ars.take k) + if (at_ ars (k : Int)).u ∈ F ∧ (at_ ars (k : Int)).v ∈ T then 1 else 0 := by
  unfold cntA
  rw [take_at ars k h, List.filter_append, List.length_append]
  by_cases hp : (at_ ars (k : Int)).u ∈ F ∧ (at_ ars (k : Int)).v ∈ T
  · rw [if_pos hp]; simp [hp.1, hp.2]
  · rw [if_neg hp]
    have : ¬ ((decide ((at_ ars (k : Int)).u ∈ F) && decide ((at_ ars (k : Int)).v ∈ T)) = true) := fun h => hp (by simpa using h)
    rw [List.filter_cons, if_neg this]; simp
theorem cntA_bd (F T : List Int) (ars : List Pt) : 0 ≤ cntA F T ars ∧ cntA F T ars ≤ ars.length := by
  unfold cntA
  have := List.length_filter_le (fun p : Pt => decide (p.u ∈ F) && decide (p.v ∈ T)) ars
  omega
theorem bet_cntA {nd : Int} {ars : List Pt} (hd : DgOk nd ars) {f t : BitVec 64} (hf : ∀ i : Nat, f.getLsbD i = true → (i : Int) < nd) : betB (outB nd ars) f t = cntA (listB f) (listB t) ars := by
  have hl := outB_ln hd
  have hr := hd.rng
  rw [betB_eq (by omega) fun i hi => by have := hf i hi; omega]
  unfold cntN
  rw [sum_congr (h := fun w => ((listB f).map fun v => if (⟨v, w⟩ : Pt) ∈ ars then (1 : Int) else 0).sum) fun w hw => sum_congr fun v hv => arcN_out hd (listB_rng hv).1 (listB_rng hw).1]
  exact sum_arcs (listB_nd f) (listB_nd t) (asc_nodup hd.asc)
theorem list_bit {x : Int} (hx : 0 ≤ x ∧ x < 64) : listB (bitB x) = [x] := by
  refine intLin.uniq (listB_asc _) (List.pairwise_singleton _ _) fun y => ?_
  rw [mem_listB, bitI_of hx, List.mem_singleton]; omega
theorem cf_out {nd : Int} {ars : List Pt} (hd : DgOk nd ars) {t : BitVec 64} {v : Int} (hv : 0 ≤ v ∧ v < nd) : cntA [v] (listB t) ars = cfA (outB nd ars) t v := by
  have hl := outB_ln hd
  have hr := hd.rng
  have hb : ∀ i : Nat, (bitB v).getLsbD i = true → (i : Int) < nd := fun i hi => by have := (bitI_of (by omega)).1 hi; omega
  have h := bet_cntA hd (t := t) hb
  rw [list_bit (by omega)] at h
  rw [← h]
  unfold betB
  rw [and_all (by omega) fun i hi => by have := hb i hi; omega, list_bit (by omega)]
  unfold betT cfA
  simp
theorem insJ_bit (v : Int) (hv : 0 ≤ v ∧ v < 64) : ∀ (ws : List Int) (acc : List (BitVec 64)) (w : Int) (i : Nat), (0 ≤ w ∧ w < acc.length) → (∀ x ∈ ws, 0 ≤ x) → ((at_ (insJ acc v ws) w).getLsbD i = true ↔ (at_ acc w).getLsbD i = true ∨ (w ∈ ws ∧ (i : Int) = v))
  | [], acc, w, i, hw, _ => by show (at_ acc w).getLsbD i = true ↔ _; simp
  | x :: ws, acc, w, i, hw, hx => by
    have e : insJ acc v (x :: ws) = insJ (acc.set x.toNat (at_ acc x ||| bitB v)) v ws := rfl
    have hx0 := hx x List.mem_cons_self
    rw [e, insJ_bit v hv ws _ w i (by rw [List.length_set]; exact hw) fun y hy => hx y (List.mem_cons_of_mem _ hy)]
    by_cases hxl : x < acc.length
    · rw [at_set acc x w _ hx0 hw.1 (by omega)]
      by_cases exw : w = x
      · subst exw
        rw [if_pos rfl, BitVec.getLsbD_or, Bool.or_eq_true, bitI_of hv, List.mem_cons]
        constructor
        · rintro ((h | h) | h)
          · exact .inl h
          · exact .inr ⟨.inl rfl, h⟩
          · exact .inr ⟨.inr h.1, h.2⟩
        · rintro (h | ⟨_, h⟩)
          · exact .inl (.inl h)
          · exact .inl (.inr h)
      · rw [if_neg fun e => exw e.symm, List.mem_cons]
        constructor
        · rintro (h | h)
          · exact .inl h
          · exact .inr ⟨.inr h.1, h.2⟩
        · rintro (h | ⟨h | h, h2⟩)
          · exact .inl h
          · exact absurd h exw
          · exact .inr ⟨h, h2⟩
    · rw [List.set_eq_of_length_le (by omega), List.mem_cons]
      constructor
      · rintro (h | h)
        · exact .inl h
        · exact .inr ⟨.inr h.1, h.2⟩
      · rintro (h | ⟨h | h, h2⟩)
        · exact .inl h
        · omega
        · exact .inr ⟨h, h2⟩
theorem insK_ln (rows : List (BitVec 64)) : ∀ k, (insK rows k).length = rows.length
  | 0 => by simp [insK]
  | k + 1 => by rw [insK_succ, insJ_len, insK_ln rows k]
theorem insK_bit {rows : List (BitVec 64)} : ∀ k : Nat, k ≤ 64 → ∀ (w : Int) (i : Nat), (0 ≤ w ∧ w < rows.length) → ((at_ (insK rows k) w).getLsbD i = true ↔ i < k ∧ (at_ rows (i : Int)).getLsbD w.toNat = true)
  | 0, _, w, i, hw => by
    have : at_ (insK rows 0) w = 0#64 := at_rep64 _ _
    rw [this]; simp
  | k + 1, hk, w, i, hw => by
    rw [insK_succ, insJ_bit (k : Int) (by omega) _ _ w i (by rw [insK_ln]; exact hw) fun x hx => (listB_rng hx).1, insK_bit k (by omega) w i hw, mem_listB]
    constructor
    · rintro (h | ⟨h1, h2⟩)
      · exact ⟨by omega, h.2⟩
      · have e : i = k := by omega
        rw [e]; exact ⟨by omega, h1.2⟩
    · rintro ⟨h1, h2⟩
      by_cases e : i = k
      · rw [e] at h2 ⊢; exact .inr ⟨⟨hw.1, h2⟩, rfl⟩
      · exact .inl ⟨by omega, h2⟩
theorem cf_in {nd : Int} {ars : List Pt} (hd : DgOk nd ars) {f : BitVec 64} (hf : ∀ i : Nat, f.getLsbD i = true → (i : Int) < nd) {w : Int} (hw : 0 ≤ w ∧ w < nd) : cntA (listB f) [w] ars = cfA (insK (outB nd ars) (outB nd ars).length) f w := by
  have hl := outB_ln hd
  have hr := hd.rng
  have h := bet_cntA hd (t := bitB w) hf
  rw [list_bit (by omega)] at h
  rw [← h, betB_eq (by omega) fun i hi => by have := hf i hi; omega, list_bit (by omega)]
  unfold cfA cntN
  rw [List.map_cons, List.map_nil, List.sum_cons, List.sum_nil, Int.add_zero, ones_pop, list_and, ← sum_count]
  refine sum_congr fun v hv => ?_
  obtain ⟨h0, h1⟩ := mem_listB.1 hv
  have h2 := hf _ h1
  have hb := insK_bit (rows := outB nd ars) (outB nd ars).length (by omega) w v.toNat (by omega)
  rw [show ((v.toNat : Nat) : Int) = v by omega] at hb
  unfold arcN
  by_cases hp : (at_ (outB nd ars) v).getLsbD w.toNat = true
  · rw [if_pos hp, if_pos (hb.2 ⟨by omega, hp⟩)]
  · rw [if_neg hp, if_neg fun h3 => hp (hb.1 h3).2]
theorem used_len {nd : Int} {ars : List Pt} (hd : DgOk nd ars) (h6 : nd ≤ 6) {l : List Int} (hl : ∀ x ∈ l, ∃ a ∈ ars, x = a.u ∨ x = a.v) : (ofL l).length ≤ 6 := by
  have h1 := List.Nodup.length_le_of_subset (l₁ := ofL l) (l₂ := (List.range 6).map fun i : Nat => (i : Int)) ((ofL_asc l).imp fun h => by omega) fun x hx => by
    obtain ⟨a, ha, h⟩ := hl x ((mem_ofL _ _).1 hx)
    have := hd.arc a ha
    unfold endsP at this
    refine List.mem_map.2 ⟨x.toNat, List.mem_range.2 (by omega), by omega⟩
  simpa using h1

theorem Check23_ok {κ : Ctx} {I : List Item} {nd : Int} {va : Value} {ars : List Pt} (hl : Sl κ I va ars) :
    CallS Tryz.prog κ 44 [.agg #[I64 (nd), va]] I (fun r J => r = I64 (checkD nd ars) ∧ I = J) := by
 refine CallS.pull hl.le fun hmax => ?_
 refine CallS.enter (L := [(0, .agg #[I64 (nd), va])]) Tryz.func44 rfl rfl rfl rfl ?_
 refine W.sr ?_
 refine G.e (Eff.box (cs := [_, _]) rfl rfl rfl) ?_
 rintro _ _ ⟨b1, rfl, rfl⟩
 refine G.r (Runs.assign rfl) ?_
 refine G.nt ?_
 refine W.seq ?_
 refine W.sr ?_
 refine G.r (Runs.fieldAddr fld54_0 rfl) ?_
 refine G.r (Runs.ld ty3) ?_
 refine G.r (Runs.lss rfl rfl) ?_
 refine G.r (Runs.move rfl) ?_
 refine G.split (d := 8) rfl (fun g8 => ?_) (fun g8 => ?_)
 ·refine G.po ?_
  refine G.po ?_
  refine G.po ?_
  refine G.r (Runs.pickt rfl rfl) ?_
  refine G.nt ?_
  refine W.yes rfl ?_
  refine W.sr ?_
  refine G.r (Runs.assign rfl) ?_
  refine G.nt ?_
  refine W.ret ?_
  refine V.then_ret ?_
  exact V.ret1 rfl rfl (I) Fit.m ⟨by rw [show checkD nd ars = 1 from (by unfold checkD; rw [if_pos (by omega)])], rfl⟩
 ·refine G.ro (Runs.fieldAddr fld54_0 rfl) ?_
  refine G.ro (Runs.ld ty3) ?_
  refine G.ro (Runs.gtr rfl rfl) ?_
  refine G.r (Runs.pickf rfl rfl) ?_
  refine G.nt ?_
  refine W.ite rfl (fun c12 => ?_) (fun c12 => ?_)
  ·refine W.sr ?_
   refine G.r (Runs.assign rfl) ?_
   refine G.nt ?_
   refine W.ret ?_
   refine V.then_ret ?_
   exact V.ret1 rfl rfl (I) Fit.m ⟨by rw [show checkD nd ars = 1 from (by unfold checkD; rw [if_pos (by omega)])], rfl⟩
  ·refine W.skip ?_
   refine V.then ?_
   refine W.seq ?_
   refine W.sr ?_
   refine G.r (Runs.fieldAddr fld54_1 rfl) ?_
   refine G.r (Runs.ld ty33) ?_
   refine G.r (Runs.lenT (α := Pt) (xs := ars) Tryz.underlying33 rfl (Sl.f hl)) ?_
   refine G.r (Runs.move rfl) ?_
   refine G.nt ?_
   refine W.sub (L' := [(16, _), (15, _), (14, _), (1, _)]) (Sub.cons rfl (Sub.cons rfl (Sub.cons rfl (Sub.cons rfl Sub.nil)))) ?_
   refine W.block ?_
   refine W.loop (σ := Nat) (fun s => ([(1, .pointer (some ⟨b1, 0, none⟩)), (14, va), (15, I64 (((ars.length : Nat) : Int))), (16, I64 (((s : Nat) : Int)))] : Env)) (fun s => blk b1 [I64 (nd), va] 54 :: I) (fun s => (s ≤ ars.length) ∧ (checkD nd ars = scanL (badD nd) Pt.lt (prevAt ars s) (ars.drop s))) (fun s => ars.length - s) (0) (show ((0 : Nat) ≤ ars.length) ∧ (checkD nd ars = scanL (badD nd) Pt.lt (prevAt ars (0 : Nat)) (ars.drop (0 : Nat))) from ⟨(by omega), (by unfold checkD; rw [if_neg (by omega)]; rfl)⟩) (Sub.cons rfl (Sub.cons rfl (Sub.cons rfl (Sub.cons lookO Sub.nil)))) (show Fit κ _ (blk b1 [I64 (nd), va] 54 :: I) from Fit.sub) ?_
   rintro k hp
   obtain ⟨hk, hs⟩ : (k ≤ ars.length) ∧ (checkD nd ars = scanL (badD nd) Pt.lt (prevAt ars k) (ars.drop k)) := hp
   show W Tryz.prog κ 40 _ _ ([(1, .pointer (some ⟨b1, 0, none⟩)), (14, va), (15, I64 (((ars.length : Nat) : Int))), (16, I64 (((k : Nat) : Int)))] : Env) (blk b1 [I64 (nd), va] 54 :: I)
   refine W.sr ?_
   refine G.r (Runs.lss rfl rfl) ?_
   refine G.nt ?_
   refine W.seq ?_
   refine W.ite rfl (fun c17 => ?_) (fun c17 => ?_)
   ·refine W.skip ?_
    refine V.then ?_
    refine W.seq ?_
    refine W.block ?_
    refine W.sr ?_
    refine G.r (Runs.move rfl) ?_
    refine G.r (Runs.idx (α := Pt) (xs := ars) Tryz.underlying33 ty32 rfl rfl (Sl.f hl) (by omega) (by omega)) ?_
    refine G.r (Runs.gets (α := Pt) (xs := ars) ty32 rfl (Sl.f hl) (by omega) (by omega)) ?_
    refine G.e (Eff.alloc ty32 rfl) ?_
    rintro _ _ ⟨b2, rfl, rfl⟩
    refine G.r (Runs.assign rfl) ?_
    refine G.e (Eff.st (cs := [_, _]) (vs := [_, _]) (cs' := [_, _]) ty32) ?_
    rintro _ _ ⟨rfl, rfl⟩
    refine G.nt ?_
    refine W.seq ?_
    refine W.sr ?_
    refine G.r (Runs.fieldAddr fld54_0 rfl) ?_
    refine G.r (Runs.ld ty3) ?_
    refine G.r (Runs.lds (vs := [_, _]) ty32) ?_
    refine G.e (Eff.call call100 rfl rfl (REnds_ok nd (at_ ars ((k : Nat) : Int)))) ?_
    rintro _ _ ⟨_, _, ⟨rfl, rfl⟩, rfl, rfl⟩
    refine G.r (Runs.notd rfl) ?_
    refine G.nt ?_
    refine W.sub (L' := [(25, _), (3, _), (4, _), (1, _), (14, _), (15, _), (16, _)]) (Sub.cons rfl (Sub.cons rfl (Sub.cons rfl (Sub.cons rfl (Sub.cons rfl (Sub.cons rfl (Sub.cons rfl Sub.nil))))))) ?_
    refine W.ite rfl (fun c25 => ?_) (fun c25 => ?_)
    ·refine W.sr ?_
     refine G.r (Runs.assign rfl) ?_
     refine G.nt ?_
     refine W.ret ?_
     refine V.then_ret ?_
     refine V.block_ret ?_
     refine V.then_ret ?_
     refine V.then_ret ?_
     refine V.block_ret ?_
     refine V.then_ret ?_
     exact V.ret1 rfl rfl (I) Fit.m ⟨by rw [show checkD nd ars = 6 from (hs.trans ((scanL_bad (by omega) (by unfold badD; rw [if_neg c25]; decide)).trans (by unfold badD; rw [if_neg c25])))], rfl⟩
    ·refine W.skip ?_
     refine V.then ?_
     refine W.seq ?_
     refine W.drawn mixed ?_
     refine A.hold (blk b2 [I64 ((at_ ars ((k : Nat) : Int)).u), I64 ((at_ ars ((k : Nat) : Int)).v)] 32 :: blk b1 [I64 (nd), va] 54 :: I) 13 ?_
     refine D.r 0 rfl (Runs.move rfl) ?_ (hJ := Fit.sub)
     refine D.r 1 rfl (Runs.gtr rfl rfl) ?_ (hJ := Fit.sub)
     refine D.r 2 rfl (Runs.move rfl) ?_ (hJ := Fit.sub)
     refine D.split (d := 28) rfl (fun g28 => ?_) (fun g28 => ?_)
     ·refine D.read 3 rfl (by kernel_rfl) (by kernel_rfl) (by kernel_rfl) rfl (by kernel_rfl) (fun _ _ _ _ h => h) (Wanted.on rfl rfl rfl) rfl rfl Fit.sub (Runs.fieldAddr fld54_1 rfl) ?_
      refine D.read 4 rfl (by kernel_rfl) (by kernel_rfl) (by kernel_rfl) rfl (by kernel_rfl) (fun _ _ _ _ h => h) (Wanted.on rfl rfl rfl) rfl rfl Fit.sub (Runs.ld ty33) ?_
      refine D.read 5 rfl (by kernel_rfl) (by kernel_rfl) (by kernel_rfl) rfl (by kernel_rfl) (fun _ _ _ _ h => h) (Wanted.on rfl rfl rfl) rfl rfl Fit.sub (Runs.move rfl) ?_
      refine D.read 6 rfl (by kernel_rfl) (by kernel_rfl) (by kernel_rfl) rfl (by kernel_rfl) (fun _ _ _ _ h => h) (Wanted.on rfl rfl rfl) rfl rfl Fit.sub (Runs.sub rfl rfl (by unfold InR; omega)) ?_
      refine D.read 7 rfl (by kernel_rfl) (by kernel_rfl) (by kernel_rfl) rfl (by kernel_rfl) (fun _ _ _ _ h => h) (Wanted.on rfl rfl rfl) rfl rfl Fit.sub (Runs.idx (α := Pt) (xs := ars) Tryz.underlying33 ty32 rfl rfl (Sl.f hl) (by omega) (by omega)) ?_
      refine D.read 8 rfl (by kernel_rfl) (by kernel_rfl) (by kernel_rfl) rfl (by kernel_rfl) (fun _ _ _ _ h => h) (Wanted.on rfl rfl rfl) rfl rfl Fit.sub (Runs.gets (α := Pt) (xs := ars) ty32 rfl (Sl.f hl) (by omega) (by omega)) ?_
      refine D.read 9 rfl (by kernel_rfl) (by kernel_rfl) (by kernel_rfl) rfl (by kernel_rfl) (fun _ _ _ _ h => h) (Wanted.on rfl rfl rfl) rfl rfl Fit.sub (Runs.lds (vs := [_, _]) ty32) ?_
      refine D.step (rs := [10]) (by kernel_rfl) rfl rfl (all1 ?_)
      refine Step.eff rfl (Wanted.on rfl rfl rfl) (Eff.call call101 rfl rfl (RBef_ok (at_ ars (((k : Nat) : Int) - 1)) (at_ ars ((k : Nat) : Int)))) ?_
      rintro _ _ ⟨_, _, ⟨rfl, rfl⟩, rfl, rfl⟩
      refine ⟨Fit.sub, ?_⟩
      refine D.read 11 rfl (by kernel_rfl) (by kernel_rfl) (by kernel_rfl) rfl (by kernel_rfl) (fun _ _ _ _ h => h) (Wanted.on rfl rfl rfl) rfl rfl Fit.sub (Runs.notd rfl) ?_
      refine D.r 12 rfl (Runs.pickt rfl rfl) ?_ (hJ := Fit.sub)
      refine D.done (by kernel_rfl) ?_
      refine V.then ?_
      refine W.sub (L' := [(38, _), (1, _), (14, _), (15, _), (16, _)]) (Sub.cons rfl (Sub.cons rfl (Sub.cons rfl (Sub.cons rfl (Sub.cons rfl Sub.nil))))) ?_
      refine W.ite rfl (fun c38 => ?_) (fun c38 => ?_)
      ·refine W.sr ?_
       refine G.r (Runs.assign rfl) ?_
       refine G.nt ?_
       refine W.ret ?_
       refine V.block_ret ?_
       refine V.then_ret ?_
       refine V.then_ret ?_
       refine V.block_ret ?_
       refine V.then_ret ?_
       exact V.ret1 rfl rfl (I) Fit.m ⟨by rw [show checkD nd ars = 5 from (hs.trans (scanL_order (by omega) (badD_zero.2 (Classical.not_not.1 c25)) (by omega) c38))], rfl⟩
      ·refine W.skip ?_
       refine V.block_normal ?_
       refine V.then ?_
       refine W.region ?_
       refine G.r (Runs.add rfl rfl (by unfold InR; omega)) ?_
       refine G.r (Runs.move rfl) ?_
       refine G.nil ?_
       exact V.next ((k + 1)) (show ((k + 1 : Nat) ≤ ars.length) ∧ (checkD nd ars = scanL (badD nd) Pt.lt (prevAt ars (k + 1 : Nat)) (ars.drop (k + 1 : Nat))) from ⟨(by omega), (hs.trans (scanL_step (by omega) (badD_zero.2 (Classical.not_not.1 c25)) (fun h0 => by first | omega | exact Classical.not_not.1 c38)))⟩) (show ars.length - (k + 1 : Nat) < ars.length - k from (by omega)) (Sub.cons rfl (Sub.cons rfl (Sub.cons rfl (Sub.cons lookO Sub.nil)))) (show Fit κ _ (blk b1 [I64 (nd), va] 54 :: I) from Fit.sub)
     ·refine D.pass 3 rfl (by kernel_rfl) (by kernel_rfl) (by kernel_rfl) rfl (by kernel_rfl) (fun _ _ _ _ h => h) (Unwanted.off rfl rfl rfl) rfl rfl Fit.sub ?_
      refine D.pass 4 rfl (by kernel_rfl) (by kernel_rfl) (by kernel_rfl) rfl (by kernel_rfl) (fun _ _ _ _ h => h) (Unwanted.off rfl rfl rfl) rfl rfl Fit.sub ?_
      refine D.pass 5 rfl (by kernel_rfl) (by kernel_rfl) (by kernel_rfl) rfl (by kernel_rfl) (fun _ _ _ _ h => h) (Unwanted.off rfl rfl rfl) rfl rfl Fit.sub ?_
      refine D.pass 6 rfl (by kernel_rfl) (by kernel_rfl) (by kernel_rfl) rfl (by kernel_rfl) (fun _ _ _ _ h => h) (Unwanted.off rfl rfl rfl) rfl rfl Fit.sub ?_
      refine D.pass 7 rfl (by kernel_rfl) (by kernel_rfl) (by kernel_rfl) rfl (by kernel_rfl) (fun _ _ _ _ h => h) (Unwanted.off rfl rfl rfl) rfl rfl Fit.sub ?_
      refine D.pass 8 rfl (by kernel_rfl) (by kernel_rfl) (by kernel_rfl) rfl (by kernel_rfl) (fun _ _ _ _ h => h) (Unwanted.off rfl rfl rfl) rfl rfl Fit.sub ?_
      refine D.pass 9 rfl (by kernel_rfl) (by kernel_rfl) (by kernel_rfl) rfl (by kernel_rfl) (fun _ _ _ _ h => h) (Unwanted.off rfl rfl rfl) rfl rfl Fit.sub ?_
      refine D.pass 10 rfl (by kernel_rfl) (by kernel_rfl) (by kernel_rfl) rfl (by kernel_rfl) (fun _ _ _ _ h => h) (Unwanted.off rfl rfl rfl) rfl rfl Fit.sub ?_
      refine D.pass 11 rfl (by kernel_rfl) (by kernel_rfl) (by kernel_rfl) rfl (by kernel_rfl) (fun _ _ _ _ h => h) (Unwanted.off rfl rfl rfl) rfl rfl Fit.sub ?_
      refine D.r 12 rfl (Runs.pickf rfl rfl) ?_ (hJ := Fit.sub)
      refine D.done (by kernel_rfl) ?_
      refine V.then ?_
      refine W.sub (L' := [(38, _), (1, _), (14, _), (15, _), (16, _)]) (Sub.cons rfl (Sub.cons rfl (Sub.cons rfl (Sub.cons rfl (Sub.cons rfl Sub.nil))))) ?_
      refine W.no rfl ?_
      refine W.skip ?_
      refine V.block_normal ?_
      refine V.then ?_
      refine W.region ?_
      refine G.r (Runs.add rfl rfl (by unfold InR; omega)) ?_
      refine G.r (Runs.move rfl) ?_
      refine G.nil ?_
      exact V.next ((k + 1)) (show ((k + 1 : Nat) ≤ ars.length) ∧ (checkD nd ars = scanL (badD nd) Pt.lt (prevAt ars (k + 1 : Nat)) (ars.drop (k + 1 : Nat))) from ⟨(by omega), (hs.trans (scanL_step (by omega) (badD_zero.2 (Classical.not_not.1 c25)) (fun h0 => by first | omega | exact Classical.not_not.1 c38)))⟩) (show ars.length - (k + 1 : Nat) < ars.length - k from (by omega)) (Sub.cons rfl (Sub.cons rfl (Sub.cons rfl (Sub.cons lookO Sub.nil)))) (show Fit κ _ (blk b1 [I64 (nd), va] 54 :: I) from Fit.sub)
   ·refine W.exit ?_
    refine V.then_exit ?_
    refine V.then_exit ?_
    refine V.block_hit ?_
    refine V.then ?_
    refine W.sr ?_
    refine G.r (Runs.assign rfl) ?_
    refine G.nt ?_
    refine W.ret ?_
    exact V.ret1 rfl rfl (I) Fit.m ⟨by rw [show checkD nd ars = 0 from (hs.trans (scanL_end (by omega)))], rfl⟩

theorem Light23_ok {κ : Ctx} {I : List Item} {nd : Int} {va : Value} {ars : List Pt} (hl : Sl κ I va ars) :
    CallS Tryz.prog κ 39 [.agg #[I64 (nd), va]] I (fun r J => r = .bool (decide (ars.length ≤ 40 ∧ (nd ≤ 6 ∨ checkD nd ars ≠ 0))) ∧ I = J) := by
 refine CallS.pull hl.le fun hmax => ?_
 refine CallS.enter (L := [(0, .agg #[I64 (nd), va])]) Tryz.func39 rfl rfl rfl rfl ?_
 refine W.sr ?_
 refine G.e (Eff.box (cs := [_, _]) rfl rfl rfl) ?_
 rintro _ _ ⟨b1, rfl, rfl⟩
 refine G.r (Runs.assign rfl) ?_
 refine G.nt ?_
 refine W.sr ?_
 refine G.r (Runs.fieldAddr fld54_1 rfl) ?_
 refine G.r (Runs.ld ty33) ?_
 refine G.r (Runs.lenT (α := Pt) (xs := ars) Tryz.underlying33 rfl (Sl.f hl)) ?_
 refine G.r (Runs.leq rfl rfl) ?_
 refine G.r (Runs.move rfl) ?_
 refine G.split (d := 7) rfl (fun g7 => ?_) (fun g7 => ?_)
 ·refine G.ro (Runs.fieldAddr fld54_0 rfl) ?_
  refine G.ro (Runs.ld ty3) ?_
  refine G.ro (Runs.leq rfl rfl) ?_
  refine G.ro (Runs.move rfl) ?_
  refine G.split (d := 11) rfl (fun g11 => ?_) (fun g11 => ?_)
  ·refine G.po ?_
   refine G.po ?_
   refine G.po ?_
   refine G.ro (Runs.pickt rfl rfl) ?_
   refine G.r (Runs.pickt rfl rfl) ?_
   refine G.r (Runs.assign rfl) ?_
   refine G.nt ?_
   refine W.sub (L' := [(2, _)]) (Sub.cons rfl Sub.nil) ?_
   refine W.ret ?_
   exact V.ret1 rfl rfl (I) Fit.m ⟨(by first | exact congrArg Value.bool (decide_eq_decide.2 (by skip; omega)) | exact congrArg Value.bool (decide_eq_true (by skip; omega)).symm | exact congrArg Value.bool (decide_eq_false (by skip; omega)).symm), rfl⟩
  ·refine G.ro (Runs.lds (vs := [_, _]) ty54) ?_
   refine G.eff (Wanted.on rfl rfl rfl) (Eff.call call44 rfl rfl (Check23_ok (nd := nd) (Sl.f hl))) ?_
   rintro _ _ ⟨_, _, ⟨rfl, rfl⟩, rfl, rfl⟩
   refine G.ro (Runs.neq rfl rfl) ?_
   refine G.ro (Runs.pickf rfl rfl) ?_
   refine G.r (Runs.pickt rfl rfl) ?_
   refine G.r (Runs.assign rfl) ?_
   refine G.nt ?_
   refine W.sub (L' := [(2, _)]) (Sub.cons rfl Sub.nil) ?_
   refine W.ret ?_
   exact V.ret1 rfl rfl (I) Fit.m ⟨(by first | exact congrArg Value.bool (decide_eq_decide.2 (by skip; omega)) | exact congrArg Value.bool (decide_eq_true (by skip; omega)).symm | exact congrArg Value.bool (decide_eq_false (by skip; omega)).symm), rfl⟩
 ·refine G.po ?_
  refine G.po ?_
  refine G.po ?_
  refine G.po ?_
  refine G.pu ?_
  refine G.pu ?_
  refine G.pu ?_
  refine G.po ?_
  refine G.r (Runs.pickf rfl rfl) ?_
  refine G.r (Runs.assign rfl) ?_
  refine G.nt ?_
  refine W.sub (L' := [(2, _)]) (Sub.cons rfl Sub.nil) ?_
  refine W.ret ?_
  exact V.ret1 rfl rfl (I) Fit.m ⟨(by first | exact congrArg Value.bool (decide_eq_decide.2 (by skip; omega)) | exact congrArg Value.bool (decide_eq_true (by skip; omega)).symm | exact congrArg Value.bool (decide_eq_false (by skip; omega)).symm), rfl⟩

theorem SamePair_ok {κ : Ctx} {I : List Item} {vxf vxt vyf vyt : Value} {x : Bst} (h1 : Sl κ I vxf x.F) (h2 : Sl κ I vxt x.T) (h3 : Sl κ I vyf x.F) (h4 : Sl κ I vyt x.T) :
    CallS Tryz.prog κ 45 [.agg #[vxf, vxt, I64 (x.n), I64 (x.sq.num), I64 (x.sq.den)], .agg #[vyf, vyt, I64 (x.n), I64 (x.sq.num), I64 (x.sq.den)]] I (fun r J => r = .bool true ∧ I = J) := by
 refine CallS.enter (L := [(0, .agg #[vxf, vxt, I64 (x.n), I64 (x.sq.num), I64 (x.sq.den)]), (1, .agg #[vyf, vyt, I64 (x.n), I64 (x.sq.num), I64 (x.sq.den)])]) Tryz.func45 rfl rfl rfl rfl ?_
 refine W.sr ?_
 refine G.e (Eff.box (cs := [_, _, _, _, _]) rfl rfl rfl) ?_
 rintro _ _ ⟨b1, rfl, rfl⟩
 refine G.e (Eff.box (cs := [_, _, _, _, _]) rfl rfl rfl) ?_
 rintro _ _ ⟨b2, rfl, rfl⟩
 refine G.r (Runs.assign rfl) ?_
 refine G.nt ?_
 refine W.sr ?_
 refine G.r (Runs.fieldAddr fld58_0 rfl) ?_
 refine G.r (Runs.ld ty22) ?_
 refine G.r (Runs.fieldAddr fld58_0 rfl) ?_
 refine G.r (Runs.ld ty22) ?_
 refine G.e (Eff.call call14 rfl rfl (Same_ok (Sl.f h1) (Sl.f h3))) ?_
 rintro _ _ ⟨_, _, ⟨rfl, rfl⟩, rfl, rfl⟩
 refine G.r (Runs.move rfl) ?_
 refine G.split (d := 10) rfl (fun g10 => ?_) (fun g10 => ?_)
 ·refine G.ro (Runs.fieldAddr fld58_1 rfl) ?_
  refine G.ro (Runs.ld ty22) ?_
  refine G.ro (Runs.fieldAddr fld58_1 rfl) ?_
  refine G.ro (Runs.ld ty22) ?_
  refine G.eff (Wanted.on rfl rfl rfl) (Eff.call call14 rfl rfl (Same_ok (Sl.f h2) (Sl.f h4))) ?_
  rintro _ _ ⟨_, _, ⟨rfl, rfl⟩, rfl, rfl⟩
  refine G.r (Runs.pickt rfl rfl) ?_
  refine G.r (Runs.move rfl) ?_
  refine G.split (d := 17) rfl (fun g17 => ?_) (fun g17 => ?_)
  ·refine G.ro (Runs.fieldAddr fld58_2 rfl) ?_
   refine G.ro (Runs.ld ty3) ?_
   refine G.ro (Runs.fieldAddr fld58_2 rfl) ?_
   refine G.ro (Runs.ld ty3) ?_
   refine G.ro (Runs.eql rfl rfl) ?_
   refine G.r (Runs.pickt rfl rfl) ?_
   refine G.r (Runs.move rfl) ?_
   refine G.split (d := 24) rfl (fun g24 => ?_) (fun g24 => ?_)
   ·refine G.ro (Runs.fieldAddr fld58_3 rfl) ?_
    refine G.ro (Runs.lds (vs := [_, _]) ty45) ?_
    refine G.ro (Runs.fieldAddr fld58_3 rfl) ?_
    refine G.ro (Runs.lds (vs := [_, _]) ty45) ?_
    refine G.ro (Runs.eqlT (α := Fr) (a := x.sq) (b := x.sq) eqt45 rfl rfl) ?_
    refine G.r (Runs.pickt rfl rfl) ?_
    refine G.r (Runs.assign rfl) ?_
    refine G.nt ?_
    refine W.sub (L' := [(4, _)]) (Sub.cons rfl Sub.nil) ?_
    refine W.ret ?_
    exact V.ret1 rfl rfl (I) Fit.m ⟨by simp, rfl⟩
   ·exact absurd rfl g24
  ·exact absurd rfl g17
 ·exact absurd rfl g10

theorem Between23_ok {κ : Ctx} {I : List Item} {nd : Int} {va vf vt : Value} {ars : List Pt} {F T : List Int} (hl : Sl κ I va ars) (hf : Sl κ I vf F) (ht : Sl κ I vt T) (hd : checkD nd ars = 0) :
    CallS Tryz.prog κ 97 [.agg #[I64 (nd), va], vf, vt] I (fun r J => r = I64 (cntA F T ars) ∧ I = J) := by
 refine CallS.pull hl.le fun hmax => ?_
 refine CallS.enter (L := [(0, .agg #[I64 (nd), va]), (1, vf), (2, vt)]) Tryz.func97 rfl rfl rfl rfl ?_
 refine W.sr ?_
 refine G.e (Eff.box (cs := [_, _]) rfl rfl rfl) ?_
 rintro _ _ ⟨b1, rfl, rfl⟩
 refine G.r (Runs.assign rfl) ?_
 refine G.nt ?_
 refine W.sr ?_
 refine G.r (Runs.assign rfl) ?_
 refine G.nt ?_
 refine W.seq ?_
 refine W.sr ?_
 refine G.r (Runs.fieldAddr fld54_1 rfl) ?_
 refine G.r (Runs.ld ty33) ?_
 refine G.r (Runs.lenT (α := Pt) (xs := ars) Tryz.underlying33 rfl (Sl.f hl)) ?_
 refine G.r (Runs.move rfl) ?_
 refine G.nt ?_
 refine W.block ?_
 refine W.loop (σ := Nat × Int) (fun s => ([(1, vf), (2, vt), (3, .pointer (some ⟨b1, 0, none⟩)), (7, I64 (s.2)), (11, va), (12, I64 (((ars.length : Nat) : Int))), (13, I64 (((s.1 : Nat) : Int)))] : Env)) (fun s => blk b1 [I64 (nd), va] 54 :: I) (fun s => (s.1 ≤ ars.length) ∧ (s.2 = cntA F T (ars.take s.1))) (fun s => ars.length - s.1) (0, 0) (show ((0 : Nat) ≤ ars.length) ∧ ((0 : Int) = cntA F T (ars.take (0 : Nat))) from ⟨(by omega), rfl⟩) (Sub.cons rfl (Sub.cons rfl (Sub.cons rfl (Sub.cons lookO (Sub.cons rfl (Sub.cons rfl (Sub.cons lookO Sub.nil))))))) (show Fit κ _ (blk b1 [I64 (nd), va] 54 :: I) from Fit.sub) ?_
 rintro ⟨k, q⟩ hp
 obtain ⟨hk, hq⟩ : (k ≤ ars.length) ∧ (q = cntA F T (ars.take k)) := hp
 show W Tryz.prog κ 36 _ _ ([(1, vf), (2, vt), (3, .pointer (some ⟨b1, 0, none⟩)), (7, I64 (q)), (11, va), (12, I64 (((ars.length : Nat) : Int))), (13, I64 (((k : Nat) : Int)))] : Env) (blk b1 [I64 (nd), va] 54 :: I)
 have hqb := cntA_bd F T (ars.take k)
 rw [List.length_take] at hqb
 refine W.sr ?_
 refine G.r (Runs.lss rfl rfl) ?_
 refine G.nt ?_
 refine W.seq ?_
 refine W.ite rfl (fun c14 => ?_) (fun c14 => ?_)
 ·refine W.skip ?_
  refine V.then ?_
  refine W.seq ?_
  refine W.block ?_
  refine W.sr ?_
  refine G.r (Runs.idx (α := Pt) (xs := ars) Tryz.underlying33 ty32 rfl rfl (Sl.f hl) (by omega) (by omega)) ?_
  refine G.r (Runs.gets (α := Pt) (xs := ars) ty32 rfl (Sl.f hl) (by omega) (by omega)) ?_
  refine G.e (Eff.alloc ty32 rfl) ?_
  rintro _ _ ⟨b2, rfl, rfl⟩
  refine G.e (Eff.st (cs := [_, _]) (vs := [_, _]) (cs' := [_, _]) ty32) ?_
  rintro _ _ ⟨rfl, rfl⟩
  refine G.nt ?_
  refine W.sr ?_
  refine G.r (Runs.lds (vs := [_, _]) ty54) ?_
  refine G.e (Eff.call call44 rfl rfl (Check23_ok (nd := nd) (Sl.f hl))) ?_
  rintro _ _ ⟨_, _, ⟨rfl, rfl⟩, rfl, rfl⟩
  refine G.r (Runs.eql rfl rfl) ?_
  refine G.r (Runs.move rfl) ?_
  refine G.split (d := 20) rfl (fun g20 => ?_) (fun g20 => ?_)
  ·refine G.ro (Runs.move rfl) ?_
   refine G.ro (Runs.idxArr Tryz.underlying32 ty2 rfl rfl (by omega) (by omega)) ?_
   refine G.ro (Runs.ld ty3) ?_
   refine G.eff (Wanted.on rfl rfl rfl) (Eff.call call60 rfl rfl (RHas_ok (Sl.f hf) ((at_ ars ((k : Nat) : Int)).u))) ?_
   rintro _ _ ⟨_, _, ⟨rfl, rfl⟩, rfl, rfl⟩
   refine G.r (Runs.pickt rfl rfl) ?_
   refine G.r (Runs.move rfl) ?_
   refine G.split (d := 26) rfl (fun g26 => ?_) (fun g26 => ?_)
   ·refine G.ro (Runs.move rfl) ?_
    refine G.ro (Runs.idxArr Tryz.underlying32 ty2 rfl rfl (by omega) (by omega)) ?_
    refine G.ro (Runs.ld ty3) ?_
    refine G.eff (Wanted.on rfl rfl rfl) (Eff.call call60 rfl rfl (RHas_ok (Sl.f ht) ((at_ ars ((k : Nat) : Int)).v))) ?_
    rintro _ _ ⟨_, _, ⟨rfl, rfl⟩, rfl, rfl⟩
    refine G.r (Runs.pickt rfl rfl) ?_
    refine G.nt ?_
    refine W.sub (L' := [(31, _), (1, _), (2, _), (3, _), (7, _), (11, _), (12, _), (13, _)]) (Sub.cons rfl (Sub.cons rfl (Sub.cons rfl (Sub.cons rfl (Sub.cons rfl (Sub.cons rfl (Sub.cons rfl (Sub.cons rfl Sub.nil)))))))) ?_
    refine W.ite rfl (fun c31 => ?_) (fun c31 => ?_)
    ·refine W.region ?_
     refine G.r (Runs.move rfl) ?_
     refine G.r (Runs.add rfl rfl (by unfold InR; omega)) ?_
     refine G.r (Runs.assign rfl) ?_
     refine G.nil ?_
     refine V.block_normal ?_
     refine V.then ?_
     refine W.region ?_
     refine G.r (Runs.add rfl rfl (by unfold InR; omega)) ?_
     refine G.r (Runs.move rfl) ?_
     refine G.nil ?_
     exact V.next ((k + 1), (q + 1)) (show ((k + 1 : Nat) ≤ ars.length) ∧ ((q + 1 : Int) = cntA F T (ars.take (k + 1 : Nat))) from ⟨(by omega), (by rw [cntA_take (by omega), ← hq]; split <;> first | rfl | omega | (rename_i h; exfalso; first | exact g26 h.1 | exact c31 h.2 | exact h ⟨g26, c31⟩))⟩) (show ars.length - (k + 1 : Nat) < ars.length - k from (by omega)) (Sub.cons rfl (Sub.cons rfl (Sub.cons rfl (Sub.cons lookO (Sub.cons rfl (Sub.cons rfl (Sub.cons lookO Sub.nil))))))) (show Fit κ _ (blk b1 [I64 (nd), va] 54 :: I) from Fit.sub)
    ·refine W.skip ?_
     refine V.block_normal ?_
     refine V.then ?_
     refine W.region ?_
     refine G.r (Runs.add rfl rfl (by unfold InR; omega)) ?_
     refine G.r (Runs.move rfl) ?_
     refine G.nil ?_
     exact V.next ((k + 1), (q)) (show ((k + 1 : Nat) ≤ ars.length) ∧ ((q : Int) = cntA F T (ars.take (k + 1 : Nat))) from ⟨(by omega), (by rw [cntA_take (by omega), ← hq]; split <;> first | rfl | omega | (rename_i h; exfalso; first | exact g26 h.1 | exact c31 h.2 | exact h ⟨g26, c31⟩))⟩) (show ars.length - (k + 1 : Nat) < ars.length - k from (by omega)) (Sub.cons rfl (Sub.cons rfl (Sub.cons rfl (Sub.cons lookO (Sub.cons rfl (Sub.cons rfl (Sub.cons lookO Sub.nil))))))) (show Fit κ _ (blk b1 [I64 (nd), va] 54 :: I) from Fit.sub)
   ·refine G.po ?_
    refine G.po ?_
    refine G.po ?_
    refine G.po ?_
    refine G.r (Runs.pickf rfl rfl) ?_
    refine G.nt ?_
    refine W.sub (L' := [(31, _), (1, _), (2, _), (3, _), (7, _), (11, _), (12, _), (13, _)]) (Sub.cons rfl (Sub.cons rfl (Sub.cons rfl (Sub.cons rfl (Sub.cons rfl (Sub.cons rfl (Sub.cons rfl (Sub.cons rfl Sub.nil)))))))) ?_
    refine W.no rfl ?_
    refine W.skip ?_
    refine V.block_normal ?_
    refine V.then ?_
    refine W.region ?_
    refine G.r (Runs.add rfl rfl (by unfold InR; omega)) ?_
    refine G.r (Runs.move rfl) ?_
    refine G.nil ?_
    exact V.next ((k + 1), (q)) (show ((k + 1 : Nat) ≤ ars.length) ∧ ((q : Int) = cntA F T (ars.take (k + 1 : Nat))) from ⟨(by omega), (by rw [cntA_take (by omega), ← hq]; split <;> first | rfl | omega | (rename_i h; exfalso; first | exact g26 h.1 | exact c31 h.2 | exact h ⟨g26, c31⟩))⟩) (show ars.length - (k + 1 : Nat) < ars.length - k from (by omega)) (Sub.cons rfl (Sub.cons rfl (Sub.cons rfl (Sub.cons lookO (Sub.cons rfl (Sub.cons rfl (Sub.cons lookO Sub.nil))))))) (show Fit κ _ (blk b1 [I64 (nd), va] 54 :: I) from Fit.sub)
  ·exact absurd hd g20
 ·refine W.exit ?_
  refine V.then_exit ?_
  refine V.then_exit ?_
  refine V.block_hit ?_
  refine V.then ?_
  refine W.sr ?_
  refine G.r (Runs.move rfl) ?_
  refine G.r (Runs.assign rfl) ?_
  refine G.nt ?_
  refine W.ret ?_
  rw [List.take_of_length_le (by omega)] at hq
  exact V.ret1 rfl rfl (I) Fit.m ⟨by rw [hq], rfl⟩

theorem list_valid {nd : Int} {f : BitVec 64} (h : ∀ i : Nat, f.getLsbD i = true → (i : Int) < nd) : ValidP (listB f) nd := ValidP_iff.2 ⟨fun x hx => by
  obtain ⟨h0, h1⟩ := mem_listB.1 hx
  have := h _ h1; omega, listB_asc f⟩

theorem Square23_ok {κ : Ctx} {I : List Item} {nd : Int} {va vf vt : Value} {ars : List Pt} {f t : BitVec 64} (hl : Sl κ I va ars) (hf : Sl κ I vf (listB f)) (ht : Sl κ I vt (listB t)) (hd : DgOk nd ars) (hz : f ≠ 0#64 ∧ t ≠ 0#64) (hfb : ∀ i : Nat, f.getLsbD i = true → (i : Int) < nd) (htb : ∀ i : Nat, t.getLsbD i = true → (i : Int) < nd) :
    CallS Tryz.prog κ 96 [.agg #[I64 (nd), va], vf, vt] I (fun r J => r = .tuple #[.agg #[I64 (sqB (outB nd ars) f t).num, I64 (sqB (outB nd ars) f t).den], I64 0] ∧ I = J) := by
 have hc1 := checkD_ok.2 hd
 have hn1 := List.length_pos_iff.2 (listB_ne hz.1)
 have hn2 := List.length_pos_iff.2 (listB_ne hz.2)
 refine CallS.enter (L := [(0, .agg #[I64 (nd), va]), (1, vf), (2, vt)]) Tryz.func96 rfl rfl rfl rfl ?_
 refine W.sr ?_
 refine G.e (Eff.box (cs := [_, _]) rfl rfl rfl) ?_
 rintro _ _ ⟨b1, rfl, rfl⟩
 refine G.e (Eff.alloc ty45 rfl) ?_
 rintro _ _ ⟨b2, rfl, rfl⟩
 refine G.r (Runs.assign rfl) ?_
 refine G.nt ?_
 refine W.seq ?_
 refine W.sr ?_
 refine G.r (Runs.lds (vs := [_, _]) ty54) ?_
 refine G.e (Eff.call call44 rfl rfl (Check23_ok (nd := nd) (Sl.f hl))) ?_
 rintro _ _ ⟨_, _, ⟨rfl, rfl⟩, rfl, rfl⟩
 refine G.r (Runs.assign rfl) ?_
 refine G.nt ?_
 refine W.sr ?_
 refine G.r (Runs.move rfl) ?_
 refine G.r (Runs.neq rfl rfl) ?_
 refine G.nt ?_
 refine W.ite rfl (fun c13 => ?_) (fun c13 => ?_)
 ·exact absurd hc1 c13
 ·refine W.skip ?_
  refine V.then ?_
  refine W.seq ?_
  refine W.sr ?_
  refine G.r (Runs.move rfl) ?_
  refine G.r (Runs.fieldAddr fld54_0 rfl) ?_
  refine G.r (Runs.ld ty3) ?_
  refine G.e (Eff.call call130 rfl rfl (RValid_ok (Sl.f hf) nd)) ?_
  rintro _ _ ⟨_, _, ⟨rfl, rfl⟩, rfl, rfl⟩
  refine G.r (Runs.notd rfl) ?_
  refine G.r (Runs.move rfl) ?_
  refine G.split (d := 21) rfl (fun g21 => ?_) (fun g21 => ?_)
  ·exact absurd (list_valid hfb) g21
  ·refine G.ro (Runs.move rfl) ?_
   refine G.ro (Runs.fieldAddr fld54_0 rfl) ?_
   refine G.ro (Runs.ld ty3) ?_
   refine G.eff (Wanted.on rfl rfl rfl) (Eff.call call130 rfl rfl (RValid_ok (Sl.f ht) nd)) ?_
   rintro _ _ ⟨_, _, ⟨rfl, rfl⟩, rfl, rfl⟩
   refine G.ro (Runs.notd rfl) ?_
   refine G.r (Runs.pickf rfl rfl) ?_
   refine G.r (Runs.move rfl) ?_
   refine G.split (d := 28) rfl (fun g28 => ?_) (fun g28 => ?_)
   ·exact absurd (list_valid htb) g28
   ·refine G.ro (Runs.move rfl) ?_
    refine G.ro (Runs.lenT (α := Int) (xs := listB f) Tryz.underlying22 rfl (Sl.f hf)) ?_
    refine G.ro (Runs.eql rfl rfl) ?_
    refine G.r (Runs.pickf rfl rfl) ?_
    refine G.r (Runs.move rfl) ?_
    refine G.split (d := 33) rfl (fun g33 => ?_) (fun g33 => ?_)
    ·exact absurd g33 (by omega)
    ·refine G.ro (Runs.move rfl) ?_
     refine G.ro (Runs.lenT (α := Int) (xs := listB t) Tryz.underlying22 rfl (Sl.f ht)) ?_
     refine G.ro (Runs.eql rfl rfl) ?_
     refine G.r (Runs.pickf rfl rfl) ?_
     refine G.nt ?_
     refine W.sub (L' := [(37, _), (6, _), (3, _), (1, _), (2, _)]) (Sub.cons rfl (Sub.cons rfl (Sub.cons rfl (Sub.cons rfl (Sub.cons rfl Sub.nil))))) ?_
     refine W.ite rfl (fun c37 => ?_) (fun c37 => ?_)
     ·omega
     ·refine W.skip ?_
      refine V.then ?_
      refine W.sr ?_
      refine G.r (Runs.lds (vs := [_, _]) ty54) ?_
      refine G.r (Runs.move rfl) ?_
      refine G.r (Runs.move rfl) ?_
      refine G.e (Eff.call call97 rfl rfl (Between23_ok (nd := nd) (Sl.f hl) (Sl.f hf) (Sl.f ht) hc1)) ?_
      rintro _ _ ⟨_, _, ⟨rfl, rfl⟩, rfl, rfl⟩
      refine G.r (Runs.assign rfl) ?_
      have hbe := bet_cntA hd (t := t) hfb
      have hbs := sq_bd (betB_bd (outB nd ars) f t)
      rw [hbe] at hbs
      have hom := onm_bd hz.1 hz.2
      rw [ones_pop, ones_pop] at hom
      refine G.nt ?_
      refine W.sr ?_
      refine G.r (Runs.move rfl) ?_
      refine G.r (Runs.move rfl) ?_
      refine G.r (Runs.mul rfl rfl (by unfold InR; omega)) ?_
      refine G.r (Runs.move rfl) ?_
      refine G.r (Runs.lenT (α := Int) (xs := listB f) Tryz.underlying22 rfl (Sl.f hf)) ?_
      refine G.r (Runs.move rfl) ?_
      refine G.r (Runs.lenT (α := Int) (xs := listB t) Tryz.underlying22 rfl (Sl.f ht)) ?_
      refine G.r (Runs.mul rfl rfl (by unfold InR; omega)) ?_
      refine G.e (Eff.call call34 rfl rfl (RatOf_ok ((cntA (listB f) (listB t) ars) * (cntA (listB f) (listB t) ars)) ((((listB f).length : Nat) : Int) * (((listB t).length : Nat) : Int)) (by omega) (by omega))) ?_
      rintro _ _ ⟨_, _, ⟨rfl, rfl⟩, rfl, rfl⟩
      refine G.e (Eff.st (cs := [_, _]) (vs := [_, _]) (cs' := [_, _]) ty45) ?_
      rintro _ _ ⟨rfl, rfl⟩
      refine G.r (Runs.assign rfl) ?_
      refine G.nt ?_
      refine W.sub (L' := [(7, _), (6, _)]) (Sub.cons rfl (Sub.cons rfl Sub.nil)) ?_
      refine W.ret ?_
      exact V.retc1 rfl ty45 rfl rfl (by repeat (first | exact List.mem_cons_self | apply List.mem_cons_of_mem)) rfl (I) Fit.m ⟨by unfold sqB; rw [hbe, ones_pop, ones_pop], rfl⟩

theorem Used_ok {κ : Ctx} {I : List Item} {nd : Int} {va : Value} {ars : List Pt} (hl : Sl κ I va ars) (hd : DgOk nd ars) (h6 : nd ≤ 6) (hb : ars.length ≤ 1000000) :
    CallS Tryz.prog κ 90 [.agg #[I64 (nd), va]] I (fun r J => ∃ (a : Option Addr) (c : Nat) (xs : List Int), r = .slice a xs.length c ∧ xs.length ≤ 6 ∧ J = vc 3 (.slice a xs.length c) xs :: I) := by
 refine CallS.pull hl.le fun hmax => ?_
 refine CallS.enter (L := [(0, .agg #[I64 (nd), va])]) Tryz.func90 rfl rfl rfl rfl ?_
 refine W.sr ?_
 refine G.e (Eff.box (cs := [_, _]) rfl rfl rfl) ?_
 rintro _ _ ⟨b1, rfl, rfl⟩
 refine G.r (Runs.assign rfl) ?_
 refine G.nt ?_
 refine W.sr ?_
 refine G.r (Runs.assign rfl) ?_
 refine G.nt ?_
 refine W.seq ?_
 refine W.sr ?_
 refine G.r (Runs.fieldAddr fld54_1 rfl) ?_
 refine G.r (Runs.ld ty33) ?_
 refine G.r (Runs.lenT (α := Pt) (xs := ars) Tryz.underlying33 rfl (Sl.f hl)) ?_
 refine G.r (Runs.move rfl) ?_
 refine G.nt ?_
 refine W.block ?_
 refine W.loop (σ := Nat × (Option Addr) × Nat × (List Int)) (fun s => ([(3, .slice s.2.1 s.2.2.2.length s.2.2.1), (7, va), (8, I64 (((ars.length : Nat) : Int))), (9, I64 (((s.1 : Nat) : Int)))] : Env)) (fun s => vc 3 (.slice s.2.1 s.2.2.2.length s.2.2.1) (s.2.2.2) :: blk b1 [I64 (nd), va] 54 :: I) (fun s => (s.1 ≤ ars.length) ∧ (s.2.2.2.length = 2 * s.1) ∧ (∀ x ∈ s.2.2.2, ∃ p ∈ ars, x = p.u ∨ x = p.v)) (fun s => ars.length - s.1) (0, none, 0, []) (show ((0 : Nat) ≤ ars.length) ∧ (([] : List Int).length = 2 * (0 : Nat)) ∧ (∀ x ∈ ([] : List Int), ∃ p ∈ ars, x = p.u ∨ x = p.v) from ⟨(by omega), rfl, (fun x hx => by cases hx)⟩) (Sub.cons (lookV rfl (by first | rfl | simp)) (Sub.cons rfl (Sub.cons rfl (Sub.cons lookO Sub.nil)))) (show Fit κ _ (vc 3 (.slice (none) ([]).length (0)) (([])) :: blk b1 [I64 (nd), va] 54 :: I) from (Fit.nilvc _ _)) ?_
 rintro ⟨k, a, c, out⟩ hp
 obtain ⟨hk, hol, ho⟩ : (k ≤ ars.length) ∧ (out.length = 2 * k) ∧ (∀ x ∈ out, ∃ p ∈ ars, x = p.u ∨ x = p.v) := hp
 show W Tryz.prog κ 23 _ _ ([(3, .slice a out.length c), (7, va), (8, I64 (((ars.length : Nat) : Int))), (9, I64 (((k : Nat) : Int)))] : Env) (vc 3 (.slice a out.length c) (out) :: blk b1 [I64 (nd), va] 54 :: I)
 refine W.sr ?_
 refine G.r (Runs.lss rfl rfl) ?_
 refine G.nt ?_
 refine W.seq ?_
 refine W.ite rfl (fun c10 => ?_) (fun c10 => ?_)
 ·refine W.skip ?_
  refine V.then ?_
  refine W.seq ?_
  refine W.block ?_
  refine W.sr ?_
  refine G.r (Runs.idx (α := Pt) (xs := ars) Tryz.underlying33 ty32 rfl rfl (Sl.f hl) (by omega) (by omega)) ?_
  refine G.r (Runs.gets (α := Pt) (xs := ars) ty32 rfl (Sl.f hl) (by omega) (by omega)) ?_
  refine G.e (Eff.alloc ty32 rfl) ?_
  rintro _ _ ⟨b2, rfl, rfl⟩
  refine G.e (Eff.st (cs := [_, _]) (vs := [_, _]) (cs' := [_, _]) ty32) ?_
  rintro _ _ ⟨rfl, rfl⟩
  refine G.nt ?_
  refine W.region ?_
  refine G.r (Runs.move rfl) ?_
  refine G.r (Runs.idxArr Tryz.underlying32 ty2 rfl rfl (by omega) (by omega)) ?_
  refine G.r (Runs.ld ty3) ?_
  refine G.r (Runs.idxArr Tryz.underlying32 ty2 rfl rfl (by omega) (by omega)) ?_
  refine G.r (Runs.ld ty3) ?_
  refine G.e (Eff.bs (α := Int) (cs := [_, _]) (xs := [(at_ ars ((k : Nat) : Int)).u, (at_ ars ((k : Nat) : Int)).v]) Tryz.underlying22 ty3 rfl rfl (by decide) (by decide) rfl rfl rfl rfl) ?_
  rintro _ _ ⟨ad3, rfl, rfl⟩
  refine G.e (Eff.app (α := Int) (e := 3) (xs := out) (ys := ([(at_ ars ((k : Nat) : Int)).u, (at_ ars ((k : Nat) : Int)).v] : List Int)) Tryz.underlying22 ty3 rfl rfl rfl (by repeat (first | exact List.mem_cons_self | apply List.mem_cons_of_mem)) Sl.o (by simp only [List.length_cons, List.length_nil]; omega) (by decide) rfl (fun _ _ => (by repeat (first | exact At.head _ _ _ | apply At.tail)))) ?_
  rintro _ _ ⟨ad4, cp5, rfl, rfl⟩
  refine G.r (Runs.assign rfl) ?_
  refine G.nil ?_
  refine V.block_normal ?_
  refine V.then ?_
  refine W.sub (L' := [(3, _), (7, _), (8, _), (9, _)]) (Sub.cons rfl (Sub.cons rfl (Sub.cons rfl (Sub.cons rfl Sub.nil)))) ?_
  refine W.region ?_
  refine G.r (Runs.add rfl rfl (by unfold InR; omega)) ?_
  refine G.r (Runs.move rfl) ?_
  refine G.nil ?_
  exact V.next ((k + 1), (ad4), (cp5), (out ++ ([(at_ ars ((k : Nat) : Int)).u, (at_ ars ((k : Nat) : Int)).v] : List Int))) (show ((k + 1 : Nat) ≤ ars.length) ∧ ((out ++ ([(at_ ars ((k : Nat) : Int)).u, (at_ ars ((k : Nat) : Int)).v] : List Int) : List Int).length = 2 * (k + 1 : Nat)) ∧ (∀ x ∈ (out ++ ([(at_ ars ((k : Nat) : Int)).u, (at_ ars ((k : Nat) : Int)).v] : List Int) : List Int), ∃ p ∈ ars, x = p.u ∨ x = p.v) from ⟨(by omega), (by simp only [List.length_append, List.length_cons, List.length_nil]; omega), (fun x hx => by rcases List.mem_append.1 hx with h | h; (· exact ho x h); (· have hm := at_mem (xs := ars) (i := ((k : Nat) : Int)) (by omega) (by omega); simp only [List.mem_cons, List.not_mem_nil, or_false] at h; exact ⟨_, hm, h⟩))⟩) (show ars.length - (k + 1 : Nat) < ars.length - k from (by omega)) (Sub.cons (lookV rfl (by first | rfl | simp)) (Sub.cons rfl (Sub.cons rfl (Sub.cons lookO Sub.nil)))) (show Fit κ _ (vc 3 (.slice (ad4) (out ++ ([(at_ ars ((k : Nat) : Int)).u, (at_ ars ((k : Nat) : Int)).v] : List Int)).length (cp5)) ((out ++ ([(at_ ars ((k : Nat) : Int)).u, (at_ ars ((k : Nat) : Int)).v] : List Int))) :: blk b1 [I64 (nd), va] 54 :: I) from (by first | exact Fit.s | exact Fit.sub))
 ·refine W.exit ?_
  refine V.then_exit ?_
  refine V.then_exit ?_
  refine V.block_hit ?_
  refine V.then ?_
  refine W.sr ?_
  refine G.r (Runs.move rfl) ?_
  refine G.e (Eff.call call56 rfl rfl (Of_ok Sl.o (by omega))) ?_
  rintro _ _ ⟨_, _, ⟨ad6, cp7, rfl, rfl⟩, rfl, rfl⟩
  refine G.r (Runs.assign rfl) ?_
  refine G.nt ?_
  refine W.ret ?_
  exact V.ret1 rfl rfl (vc 3 (.slice ad6 (ofL out).length cp7) (ofL out) :: I) Fit.sub ⟨ad6, cp7, ofL out, rfl, used_len hd h6 ho, rfl⟩

theorem FewO_ok {κ : Ctx} {I : List Item} {nd : Int} {va vl vo : Value} {ars : List Pt} {set other : BitVec 64} (hl : Sl κ I va ars) (hs : Sl κ I vl (listB set)) (ho : Sl κ I vo (listB other)) (hd : DgOk nd ars) (hsb : ∀ i : Nat, set.getLsbD i = true → (i : Int) < nd) (hob : ∀ i : Nat, other.getLsbD i = true → (i : Int) < nd) :
    CallS Tryz.prog κ 98 [.agg #[I64 (nd), va], vl, vo, .bool true] I (fun r J => r = .tuple #[I64 (fewF (cfA (outB nd ars) other) (listB set)).1, I64 (fewF (cfA (outB nd ars) other) (listB set)).2] ∧ I = J) := by
 have hc1 := checkD_ok.2 hd
 refine CallS.enter (L := [(0, .agg #[I64 (nd), va]), (1, vl), (2, vo), (3, .bool true)]) Tryz.func98 rfl rfl rfl rfl ?_
 refine W.sr ?_
 refine G.e (Eff.box (cs := [_, _]) rfl rfl rfl) ?_
 rintro _ _ ⟨b1, rfl, rfl⟩
 refine G.r (Runs.assign rfl) ?_
 refine G.r (Runs.assign rfl) ?_
 refine G.nt ?_
 refine W.sr ?_
 refine G.r (Runs.assign rfl) ?_
 refine G.r (Runs.assign rfl) ?_
 refine G.nt ?_
 refine W.seq ?_
 refine W.sr ?_
 refine G.r (Runs.move rfl) ?_
 refine G.r (Runs.lenT (α := Int) (xs := listB set) Tryz.underlying22 rfl (Sl.f hs)) ?_
 refine G.r (Runs.move rfl) ?_
 refine G.nt ?_
 refine W.block ?_
 refine W.loop (σ := Nat × (Int × Int)) (fun s => ([(2, vo), (3, .bool true), (4, .pointer (some ⟨b1, 0, none⟩)), (10, I64 (s.2.1)), (11, I64 (s.2.2)), (15, vl), (16, I64 ((((listB set).length : Nat) : Int))), (17, I64 (((s.1 : Nat) : Int)))] : Env)) (fun s => blk b1 [I64 (nd), va] 54 :: I) (fun s => (s.1 ≤ (listB set).length) ∧ (s.2 = fewF (cfA (outB nd ars) other) ((listB set).take s.1))) (fun s => (listB set).length - s.1) (0, ((-1, 0) : Int × Int)) (show ((0 : Nat) ≤ (listB set).length) ∧ ((((-1, 0) : Int × Int) : Int × Int) = fewF (cfA (outB nd ars) other) ((listB set).take (0 : Nat))) from ⟨(by omega), rfl⟩) (Sub.cons rfl (Sub.cons rfl (Sub.cons rfl (Sub.cons lookO (Sub.cons lookO (Sub.cons rfl (Sub.cons rfl (Sub.cons lookO Sub.nil)))))))) (show Fit κ _ (blk b1 [I64 (nd), va] 54 :: I) from Fit.sub) ?_
 rintro ⟨k, sv⟩ hp
 obtain ⟨hk, hsv⟩ : (k ≤ (listB set).length) ∧ (sv = fewF (cfA (outB nd ars) other) ((listB set).take k)) := hp
 show W Tryz.prog κ 45 _ _ ([(2, vo), (3, .bool true), (4, .pointer (some ⟨b1, 0, none⟩)), (10, I64 (sv.1)), (11, I64 (sv.2)), (15, vl), (16, I64 ((((listB set).length : Nat) : Int))), (17, I64 (((k : Nat) : Int)))] : Env) (blk b1 [I64 (nd), va] 54 :: I)
 have hlb := listB_len set
 have hcf : k < (listB set).length → cntA [(at_ (listB set) ((k : Nat) : Int))] (listB other) ars = (cfA (outB nd ars) other) (at_ (listB set) ((k : Nat) : Int)) := fun h => by have h1 := at_mem (xs := (listB set)) (i := ((k : Nat) : Int)) (by omega) (by omega); obtain ⟨h2, h3⟩ := mem_listB.1 h1; have h4 := hsb _ h3; exact cf_out hd (by omega)
 refine W.sr ?_
 refine G.r (Runs.lss rfl rfl) ?_
 refine G.nt ?_
 refine W.seq ?_
 refine W.ite rfl (fun c18 => ?_) (fun c18 => ?_)
 ·refine W.skip ?_
  refine V.then ?_
  refine W.seq ?_
  refine W.block ?_
  refine W.sr ?_
  refine G.r (Runs.idx (α := Int) (xs := listB set) Tryz.underlying22 ty3 rfl rfl (Sl.f hs) (by omega) (by omega)) ?_
  refine G.r (Runs.get (xs := listB set) ty3 rfl (Sl.f hs) (by omega) (by omega)) ?_
  refine G.r (Runs.assign rfl) ?_
  refine G.nt ?_
  refine W.sr ?_
  refine G.r (Runs.lds (vs := [_, _]) ty54) ?_
  refine G.r (Runs.move rfl) ?_
  refine G.e (Eff.bs (α := Int) (cs := [_]) (xs := [at_ (listB set) ((k : Nat) : Int)]) Tryz.underlying22 ty3 rfl rfl (by decide) (by decide) rfl rfl rfl rfl) ?_
  rintro _ _ ⟨ad2, rfl, rfl⟩
  refine G.r (Runs.move rfl) ?_
  refine G.e (Eff.call call97 rfl rfl (Between23_ok (nd := nd) (Sl.f hl) Sl.o (Sl.f ho) hc1)) ?_
  rintro _ _ ⟨_, _, ⟨rfl, rfl⟩, rfl, rfl⟩
  refine G.r (Runs.assign rfl) ?_
  refine G.nt ?_
  refine W.sub (L' := [(14, _), (13, _), (2, _), (3, _), (4, _), (10, _), (11, _), (15, _), (16, _), (17, _)]) (Sub.cons rfl (Sub.cons rfl (Sub.cons rfl (Sub.cons rfl (Sub.cons rfl (Sub.cons rfl (Sub.cons rfl (Sub.cons rfl (Sub.cons rfl (Sub.cons rfl Sub.nil)))))))))) ?_
  refine W.seq ?_
  refine W.sr ?_
  refine G.r (Runs.move rfl) ?_
  refine G.r (Runs.not rfl) ?_
  refine G.nt ?_
  refine W.no rfl ?_
  refine W.skip ?_
  refine V.then ?_
  refine W.sr ?_
  refine G.r (Runs.move rfl) ?_
  refine G.r (Runs.lss rfl rfl) ?_
  refine G.r (Runs.move rfl) ?_
  refine G.split (d := 35) rfl (fun g35 => ?_) (fun g35 => ?_)
  ·refine G.po ?_
   refine G.po ?_
   refine G.po ?_
   refine G.r (Runs.pickt rfl rfl) ?_
   refine G.nt ?_
   refine W.sub (L' := [(39, _), (14, _), (13, _), (2, _), (3, _), (4, _), (10, _), (11, _), (15, _), (16, _), (17, _)]) (Sub.cons rfl (Sub.cons rfl (Sub.cons rfl (Sub.cons rfl (Sub.cons rfl (Sub.cons rfl (Sub.cons rfl (Sub.cons rfl (Sub.cons rfl (Sub.cons rfl (Sub.cons rfl Sub.nil))))))))))) ?_
   refine W.yes rfl ?_
   refine W.region ?_
   refine G.r (Runs.move rfl) ?_
   refine G.r (Runs.move rfl) ?_
   refine G.r (Runs.assign rfl) ?_
   refine G.r (Runs.assign rfl) ?_
   refine G.nil ?_
   refine V.block_normal ?_
   refine V.then ?_
   refine W.sub (L' := [(11, _), (10, _), (2, _), (3, _), (4, _), (15, _), (16, _), (17, _)]) (Sub.cons rfl (Sub.cons rfl (Sub.cons rfl (Sub.cons rfl (Sub.cons rfl (Sub.cons rfl (Sub.cons rfl (Sub.cons rfl Sub.nil)))))))) ?_
   refine W.region ?_
   refine G.r (Runs.add rfl rfl (by unfold InR; omega)) ?_
   refine G.r (Runs.move rfl) ?_
   refine G.nil ?_
   exact V.next ((k + 1), ((at_ (listB set) ((k : Nat) : Int), cntA ([at_ (listB set) ((k : Nat) : Int)] : List Int) (listB other) ars))) (show ((k + 1 : Nat) ≤ (listB set).length) ∧ (((at_ (listB set) ((k : Nat) : Int), cntA ([at_ (listB set) ((k : Nat) : Int)] : List Int) (listB other) ars) : Int × Int) = fewF (cfA (outB nd ars) other) ((listB set).take (k + 1 : Nat))) from ⟨(by omega), (by rw [few_take (by omega), ← hsv]; unfold fewS; rw [← hcf (by omega)]; split <;> first | rfl | (exfalso; omega))⟩) (show (listB set).length - (k + 1 : Nat) < (listB set).length - k from (by omega)) (Sub.cons rfl (Sub.cons rfl (Sub.cons rfl (Sub.cons lookO (Sub.cons lookO (Sub.cons rfl (Sub.cons rfl (Sub.cons lookO Sub.nil)))))))) (show Fit κ _ (blk b1 [I64 (nd), va] 54 :: I) from Fit.sub)
  ·refine G.ro (Runs.move rfl) ?_
   refine G.ro (Runs.move rfl) ?_
   refine G.ro (Runs.lss rfl rfl) ?_
   refine G.r (Runs.pickf rfl rfl) ?_
   refine G.nt ?_
   refine W.sub (L' := [(39, _), (14, _), (13, _), (2, _), (3, _), (4, _), (10, _), (11, _), (15, _), (16, _), (17, _)]) (Sub.cons rfl (Sub.cons rfl (Sub.cons rfl (Sub.cons rfl (Sub.cons rfl (Sub.cons rfl (Sub.cons rfl (Sub.cons rfl (Sub.cons rfl (Sub.cons rfl (Sub.cons rfl Sub.nil))))))))))) ?_
   refine W.ite rfl (fun c39 => ?_) (fun c39 => ?_)
   ·refine W.region ?_
    refine G.r (Runs.move rfl) ?_
    refine G.r (Runs.move rfl) ?_
    refine G.r (Runs.assign rfl) ?_
    refine G.r (Runs.assign rfl) ?_
    refine G.nil ?_
    refine V.block_normal ?_
    refine V.then ?_
    refine W.sub (L' := [(11, _), (10, _), (2, _), (3, _), (4, _), (15, _), (16, _), (17, _)]) (Sub.cons rfl (Sub.cons rfl (Sub.cons rfl (Sub.cons rfl (Sub.cons rfl (Sub.cons rfl (Sub.cons rfl (Sub.cons rfl Sub.nil)))))))) ?_
    refine W.region ?_
    refine G.r (Runs.add rfl rfl (by unfold InR; omega)) ?_
    refine G.r (Runs.move rfl) ?_
    refine G.nil ?_
    exact V.next ((k + 1), ((at_ (listB set) ((k : Nat) : Int), cntA ([at_ (listB set) ((k : Nat) : Int)] : List Int) (listB other) ars))) (show ((k + 1 : Nat) ≤ (listB set).length) ∧ (((at_ (listB set) ((k : Nat) : Int), cntA ([at_ (listB set) ((k : Nat) : Int)] : List Int) (listB other) ars) : Int × Int) = fewF (cfA (outB nd ars) other) ((listB set).take (k + 1 : Nat))) from ⟨(by omega), (by rw [few_take (by omega), ← hsv]; unfold fewS; rw [← hcf (by omega)]; split <;> first | rfl | (exfalso; omega))⟩) (show (listB set).length - (k + 1 : Nat) < (listB set).length - k from (by omega)) (Sub.cons rfl (Sub.cons rfl (Sub.cons rfl (Sub.cons lookO (Sub.cons lookO (Sub.cons rfl (Sub.cons rfl (Sub.cons lookO Sub.nil)))))))) (show Fit κ _ (blk b1 [I64 (nd), va] 54 :: I) from Fit.sub)
   ·refine W.skip ?_
    refine V.block_normal ?_
    refine V.then ?_
    refine W.region ?_
    refine G.r (Runs.add rfl rfl (by unfold InR; omega)) ?_
    refine G.r (Runs.move rfl) ?_
    refine G.nil ?_
    exact V.next ((k + 1), ((sv.1, sv.2))) (show ((k + 1 : Nat) ≤ (listB set).length) ∧ (((sv.1, sv.2) : Int × Int) = fewF (cfA (outB nd ars) other) ((listB set).take (k + 1 : Nat))) from ⟨(by omega), (by rw [few_take (by omega), ← hsv]; unfold fewS; rw [← hcf (by omega)]; split <;> first | rfl | (exfalso; omega))⟩) (show (listB set).length - (k + 1 : Nat) < (listB set).length - k from (by omega)) (Sub.cons rfl (Sub.cons rfl (Sub.cons rfl (Sub.cons lookO (Sub.cons lookO (Sub.cons rfl (Sub.cons rfl (Sub.cons lookO Sub.nil)))))))) (show Fit κ _ (blk b1 [I64 (nd), va] 54 :: I) from Fit.sub)
 ·refine W.exit ?_
  refine V.then_exit ?_
  refine V.then_exit ?_
  refine V.block_hit ?_
  refine V.then ?_
  refine W.sr ?_
  refine G.r (Runs.move rfl) ?_
  refine G.r (Runs.move rfl) ?_
  refine G.r (Runs.assign rfl) ?_
  refine G.r (Runs.assign rfl) ?_
  refine G.nt ?_
  refine W.ret ?_
  rw [List.take_of_length_le (by omega)] at hsv
  exact V.ret2 rfl rfl rfl (I) Fit.m ⟨by rw [← hsv], rfl⟩

theorem FewI_ok {κ : Ctx} {I : List Item} {nd : Int} {va vl vo : Value} {ars : List Pt} {set other : BitVec 64} (hl : Sl κ I va ars) (hs : Sl κ I vl (listB set)) (ho : Sl κ I vo (listB other)) (hd : DgOk nd ars) (hsb : ∀ i : Nat, set.getLsbD i = true → (i : Int) < nd) (hob : ∀ i : Nat, other.getLsbD i = true → (i : Int) < nd) :
    CallS Tryz.prog κ 98 [.agg #[I64 (nd), va], vl, vo, .bool false] I (fun r J => r = .tuple #[I64 (fewF (cfA (insK (outB nd ars) (outB nd ars).length) other) (listB set)).1, I64 (fewF (cfA (insK (outB nd ars) (outB nd ars).length) other) (listB set)).2] ∧ I = J) := by
 have hc1 := checkD_ok.2 hd
 refine CallS.enter (L := [(0, .agg #[I64 (nd), va]), (1, vl), (2, vo), (3, .bool false)]) Tryz.func98 rfl rfl rfl rfl ?_
 refine W.sr ?_
 refine G.e (Eff.box (cs := [_, _]) rfl rfl rfl) ?_
 rintro _ _ ⟨b1, rfl, rfl⟩
 refine G.r (Runs.assign rfl) ?_
 refine G.r (Runs.assign rfl) ?_
 refine G.nt ?_
 refine W.sr ?_
 refine G.r (Runs.assign rfl) ?_
 refine G.r (Runs.assign rfl) ?_
 refine G.nt ?_
 refine W.seq ?_
 refine W.sr ?_
 refine G.r (Runs.move rfl) ?_
 refine G.r (Runs.lenT (α := Int) (xs := listB set) Tryz.underlying22 rfl (Sl.f hs)) ?_
 refine G.r (Runs.move rfl) ?_
 refine G.nt ?_
 refine W.block ?_
 refine W.loop (σ := Nat × (Int × Int)) (fun s => ([(2, vo), (3, .bool false), (4, .pointer (some ⟨b1, 0, none⟩)), (10, I64 (s.2.1)), (11, I64 (s.2.2)), (15, vl), (16, I64 ((((listB set).length : Nat) : Int))), (17, I64 (((s.1 : Nat) : Int)))] : Env)) (fun s => blk b1 [I64 (nd), va] 54 :: I) (fun s => (s.1 ≤ (listB set).length) ∧ (s.2 = fewF (cfA (insK (outB nd ars) (outB nd ars).length) other) ((listB set).take s.1))) (fun s => (listB set).length - s.1) (0, ((-1, 0) : Int × Int)) (show ((0 : Nat) ≤ (listB set).length) ∧ ((((-1, 0) : Int × Int) : Int × Int) = fewF (cfA (insK (outB nd ars) (outB nd ars).length) other) ((listB set).take (0 : Nat))) from ⟨(by omega), rfl⟩) (Sub.cons rfl (Sub.cons rfl (Sub.cons rfl (Sub.cons lookO (Sub.cons lookO (Sub.cons rfl (Sub.cons rfl (Sub.cons lookO Sub.nil)))))))) (show Fit κ _ (blk b1 [I64 (nd), va] 54 :: I) from Fit.sub) ?_
 rintro ⟨k, sv⟩ hp
 obtain ⟨hk, hsv⟩ : (k ≤ (listB set).length) ∧ (sv = fewF (cfA (insK (outB nd ars) (outB nd ars).length) other) ((listB set).take k)) := hp
 show W Tryz.prog κ 45 _ _ ([(2, vo), (3, .bool false), (4, .pointer (some ⟨b1, 0, none⟩)), (10, I64 (sv.1)), (11, I64 (sv.2)), (15, vl), (16, I64 ((((listB set).length : Nat) : Int))), (17, I64 (((k : Nat) : Int)))] : Env) (blk b1 [I64 (nd), va] 54 :: I)
 have hlb := listB_len set
 have hcf : k < (listB set).length → cntA (listB other) [(at_ (listB set) ((k : Nat) : Int))] ars = (cfA (insK (outB nd ars) (outB nd ars).length) other) (at_ (listB set) ((k : Nat) : Int)) := fun h => by have h1 := at_mem (xs := (listB set)) (i := ((k : Nat) : Int)) (by omega) (by omega); obtain ⟨h2, h3⟩ := mem_listB.1 h1; have h4 := hsb _ h3; exact cf_in hd hob (by omega)
 refine W.sr ?_
 refine G.r (Runs.lss rfl rfl) ?_
 refine G.nt ?_
 refine W.seq ?_
 refine W.ite rfl (fun c18 => ?_) (fun c18 => ?_)
 ·refine W.skip ?_
  refine V.then ?_
  refine W.seq ?_
  refine W.block ?_
  refine W.sr ?_
  refine G.r (Runs.idx (α := Int) (xs := listB set) Tryz.underlying22 ty3 rfl rfl (Sl.f hs) (by omega) (by omega)) ?_
  refine G.r (Runs.get (xs := listB set) ty3 rfl (Sl.f hs) (by omega) (by omega)) ?_
  refine G.r (Runs.assign rfl) ?_
  refine G.nt ?_
  refine W.sr ?_
  refine G.r (Runs.lds (vs := [_, _]) ty54) ?_
  refine G.r (Runs.move rfl) ?_
  refine G.e (Eff.bs (α := Int) (cs := [_]) (xs := [at_ (listB set) ((k : Nat) : Int)]) Tryz.underlying22 ty3 rfl rfl (by decide) (by decide) rfl rfl rfl rfl) ?_
  rintro _ _ ⟨ad2, rfl, rfl⟩
  refine G.r (Runs.move rfl) ?_
  refine G.e (Eff.call call97 rfl rfl (Between23_ok (nd := nd) (Sl.f hl) Sl.o (Sl.f ho) hc1)) ?_
  rintro _ _ ⟨_, _, ⟨rfl, rfl⟩, rfl, rfl⟩
  refine G.r (Runs.assign rfl) ?_
  refine G.nt ?_
  refine W.sub (L' := [(14, _), (13, _), (2, _), (3, _), (4, _), (10, _), (11, _), (15, _), (16, _), (17, _)]) (Sub.cons rfl (Sub.cons rfl (Sub.cons rfl (Sub.cons rfl (Sub.cons rfl (Sub.cons rfl (Sub.cons rfl (Sub.cons rfl (Sub.cons rfl (Sub.cons rfl Sub.nil)))))))))) ?_
  refine W.seq ?_
  refine W.sr ?_
  refine G.r (Runs.move rfl) ?_
  refine G.r (Runs.not rfl) ?_
  refine G.nt ?_
  refine W.yes rfl ?_
  refine W.region ?_
  refine G.r (Runs.lds (vs := [_, _]) ty54) ?_
  refine G.r (Runs.move rfl) ?_
  refine G.r (Runs.move rfl) ?_
  refine G.e (Eff.bs (α := Int) (cs := [_]) (xs := [at_ (listB set) ((k : Nat) : Int)]) Tryz.underlying22 ty3 rfl rfl (by decide) (by decide) rfl rfl rfl rfl) ?_
  rintro _ _ ⟨ad3, rfl, rfl⟩
  refine G.e (Eff.call call97 rfl rfl (Between23_ok (nd := nd) (Sl.f hl) (Sl.f ho) Sl.o hc1)) ?_
  rintro _ _ ⟨_, _, ⟨rfl, rfl⟩, rfl, rfl⟩
  refine G.r (Runs.assign rfl) ?_
  refine G.nt ?_
  refine W.sub (L' := [(14, _), (13, _), (2, _), (3, _), (4, _), (10, _), (11, _), (15, _), (16, _), (17, _)]) (Sub.cons rfl (Sub.cons rfl (Sub.cons rfl (Sub.cons rfl (Sub.cons rfl (Sub.cons rfl (Sub.cons rfl (Sub.cons rfl (Sub.cons rfl (Sub.cons rfl Sub.nil)))))))))) ?_
  refine W.sr ?_
  refine G.r (Runs.move rfl) ?_
  refine G.r (Runs.lss rfl rfl) ?_
  refine G.r (Runs.move rfl) ?_
  refine G.split (d := 35) rfl (fun g35 => ?_) (fun g35 => ?_)
  ·refine G.po ?_
   refine G.po ?_
   refine G.po ?_
   refine G.r (Runs.pickt rfl rfl) ?_
   refine G.nt ?_
   refine W.sub (L' := [(39, _), (14, _), (13, _), (2, _), (3, _), (4, _), (10, _), (11, _), (15, _), (16, _), (17, _)]) (Sub.cons rfl (Sub.cons rfl (Sub.cons rfl (Sub.cons rfl (Sub.cons rfl (Sub.cons rfl (Sub.cons rfl (Sub.cons rfl (Sub.cons rfl (Sub.cons rfl (Sub.cons rfl Sub.nil))))))))))) ?_
   refine W.yes rfl ?_
   refine W.region ?_
   refine G.r (Runs.move rfl) ?_
   refine G.r (Runs.move rfl) ?_
   refine G.r (Runs.assign rfl) ?_
   refine G.r (Runs.assign rfl) ?_
   refine G.nil ?_
   refine V.block_normal ?_
   refine V.then ?_
   refine W.sub (L' := [(11, _), (10, _), (2, _), (3, _), (4, _), (15, _), (16, _), (17, _)]) (Sub.cons rfl (Sub.cons rfl (Sub.cons rfl (Sub.cons rfl (Sub.cons rfl (Sub.cons rfl (Sub.cons rfl (Sub.cons rfl Sub.nil)))))))) ?_
   refine W.region ?_
   refine G.r (Runs.add rfl rfl (by unfold InR; omega)) ?_
   refine G.r (Runs.move rfl) ?_
   refine G.nil ?_
   exact V.next ((k + 1), ((at_ (listB set) ((k : Nat) : Int), cntA (listB other) ([at_ (listB set) ((k : Nat) : Int)] : List Int) ars))) (show ((k + 1 : Nat) ≤ (listB set).length) ∧ (((at_ (listB set) ((k : Nat) : Int), cntA (listB other) ([at_ (listB set) ((k : Nat) : Int)] : List Int) ars) : Int × Int) = fewF (cfA (insK (outB nd ars) (outB nd ars).length) other) ((listB set).take (k + 1 : Nat))) from ⟨(by omega), (by rw [few_take (by omega), ← hsv]; unfold fewS; rw [← hcf (by omega)]; split <;> first | rfl | (exfalso; omega))⟩) (show (listB set).length - (k + 1 : Nat) < (listB set).length - k from (by omega)) (Sub.cons rfl (Sub.cons rfl (Sub.cons rfl (Sub.cons lookO (Sub.cons lookO (Sub.cons rfl (Sub.cons rfl (Sub.cons lookO Sub.nil)))))))) (show Fit κ _ (blk b1 [I64 (nd), va] 54 :: I) from Fit.sub)
  ·refine G.ro (Runs.move rfl) ?_
   refine G.ro (Runs.move rfl) ?_
   refine G.ro (Runs.lss rfl rfl) ?_
   refine G.r (Runs.pickf rfl rfl) ?_
   refine G.nt ?_
   refine W.sub (L' := [(39, _), (14, _), (13, _), (2, _), (3, _), (4, _), (10, _), (11, _), (15, _), (16, _), (17, _)]) (Sub.cons rfl (Sub.cons rfl (Sub.cons rfl (Sub.cons rfl (Sub.cons rfl (Sub.cons rfl (Sub.cons rfl (Sub.cons rfl (Sub.cons rfl (Sub.cons rfl (Sub.cons rfl Sub.nil))))))))))) ?_
   refine W.ite rfl (fun c39 => ?_) (fun c39 => ?_)
   ·refine W.region ?_
    refine G.r (Runs.move rfl) ?_
    refine G.r (Runs.move rfl) ?_
    refine G.r (Runs.assign rfl) ?_
    refine G.r (Runs.assign rfl) ?_
    refine G.nil ?_
    refine V.block_normal ?_
    refine V.then ?_
    refine W.sub (L' := [(11, _), (10, _), (2, _), (3, _), (4, _), (15, _), (16, _), (17, _)]) (Sub.cons rfl (Sub.cons rfl (Sub.cons rfl (Sub.cons rfl (Sub.cons rfl (Sub.cons rfl (Sub.cons rfl (Sub.cons rfl Sub.nil)))))))) ?_
    refine W.region ?_
    refine G.r (Runs.add rfl rfl (by unfold InR; omega)) ?_
    refine G.r (Runs.move rfl) ?_
    refine G.nil ?_
    exact V.next ((k + 1), ((at_ (listB set) ((k : Nat) : Int), cntA (listB other) ([at_ (listB set) ((k : Nat) : Int)] : List Int) ars))) (show ((k + 1 : Nat) ≤ (listB set).length) ∧ (((at_ (listB set) ((k : Nat) : Int), cntA (listB other) ([at_ (listB set) ((k : Nat) : Int)] : List Int) ars) : Int × Int) = fewF (cfA (insK (outB nd ars) (outB nd ars).length) other) ((listB set).take (k + 1 : Nat))) from ⟨(by omega), (by rw [few_take (by omega), ← hsv]; unfold fewS; rw [← hcf (by omega)]; split <;> first | rfl | (exfalso; omega))⟩) (show (listB set).length - (k + 1 : Nat) < (listB set).length - k from (by omega)) (Sub.cons rfl (Sub.cons rfl (Sub.cons rfl (Sub.cons lookO (Sub.cons lookO (Sub.cons rfl (Sub.cons rfl (Sub.cons lookO Sub.nil)))))))) (show Fit κ _ (blk b1 [I64 (nd), va] 54 :: I) from Fit.sub)
   ·refine W.skip ?_
    refine V.block_normal ?_
    refine V.then ?_
    refine W.region ?_
    refine G.r (Runs.add rfl rfl (by unfold InR; omega)) ?_
    refine G.r (Runs.move rfl) ?_
    refine G.nil ?_
    exact V.next ((k + 1), ((sv.1, sv.2))) (show ((k + 1 : Nat) ≤ (listB set).length) ∧ (((sv.1, sv.2) : Int × Int) = fewF (cfA (insK (outB nd ars) (outB nd ars).length) other) ((listB set).take (k + 1 : Nat))) from ⟨(by omega), (by rw [few_take (by omega), ← hsv]; unfold fewS; rw [← hcf (by omega)]; split <;> first | rfl | (exfalso; omega))⟩) (show (listB set).length - (k + 1 : Nat) < (listB set).length - k from (by omega)) (Sub.cons rfl (Sub.cons rfl (Sub.cons rfl (Sub.cons lookO (Sub.cons lookO (Sub.cons rfl (Sub.cons rfl (Sub.cons lookO Sub.nil)))))))) (show Fit κ _ (blk b1 [I64 (nd), va] 54 :: I) from Fit.sub)
 ·refine W.exit ?_
  refine V.then_exit ?_
  refine V.then_exit ?_
  refine V.block_hit ?_
  refine V.then ?_
  refine W.sr ?_
  refine G.r (Runs.move rfl) ?_
  refine G.r (Runs.move rfl) ?_
  refine G.r (Runs.assign rfl) ?_
  refine G.r (Runs.assign rfl) ?_
  refine G.nt ?_
  refine W.ret ?_
  rw [List.take_of_length_le (by omega)] at hsv
  exact V.ret2 rfl rfl rfl (I) Fit.m ⟨by rw [← hsv], rfl⟩

end Go.Sl
