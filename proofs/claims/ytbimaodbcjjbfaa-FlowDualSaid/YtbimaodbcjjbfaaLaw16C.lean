/- A part of the proofs of statements of this seat: contracts of functions, and the plain laws that they lean on. No conditions. -/
import Derived.Test.YtbimaodbcjjbfaaNetY
import Derived.Test.YtbimaodbcjjbfaaNet
import Derived.Test.YtbimaodbcjjbfaaSets
namespace Go.Sl
open Go.Proofs
set_option linter.unusedVariables false
set_option linter.unusedSimpArgs false
set_option maxRecDepth 4000
theorem dual_set {N src snk : Int} {l : List Int} (hv : ValidP l N) (h1 : 0 ≤ src ∧ src < N) (hne : src ≠ snk) : ValidP (ofL (minusL l [snk] ++ [src])) N ∧ src ∈ ofL (minusL l [snk] ++ [src]) ∧ snk ∉ ofL (minusL l [snk] ++ [src]) := by
  have hm : ∀ y, y ∈ ofL (minusL l [snk] ++ [src]) ↔ (y ∈ l ∧ y ≠ snk) ∨ y = src := fun y => by
    rw [mem_ofL, List.mem_append, minusL, List.mem_filter, mem_ofL]; simp
  refine ⟨ofL_valid fun y hy => ?_, (hm _).2 (.inr rfl), fun h => ?_⟩
  · rcases (hm y).1 ((mem_ofL _ _).2 hy) with ⟨h, _⟩ | rfl
    · exact ValidP_mem hv h
    · exact h1
  · rcases (hm snk).1 h with ⟨_, h⟩ | h
    · exact h rfl
    · exact hne h.symm

theorem ValidP.len {l : List Int} {N : Int} (h : ValidP l N) (hN : 0 ≤ N) : (l.length : Int) ≤ N := by
  have : ∀ k : Nat, k < l.length → (k : Int) ≤ at_ l (k : Int) := fun k => by
    induction k with
    | zero => intro hk; have := (h 0 hk).1.1; simpa using this
    | succ k ih =>
      intro hk
      have h1 := ih (by omega)
      have h2 := (h (k + 1) hk).2 (by omega)
      rw [show ((k + 1 : Nat) : Int) - 1 = (k : Int) from by omega] at h2
      omega
  by_cases h0 : l.length = 0
  · omega
  · have h1 := this (l.length - 1) (by omega)
    have h2 := (h (l.length - 1) (by omega)).1.2
    omega

theorem minusL_len (xs ys : List Int) : (minusL xs ys).length ≤ xs.length := by
  unfold minusL
  have h1 := List.length_filter_le (fun x => decide (x ∉ ys)) (ofL xs)
  have h2 := ofL_len xs
  omega
theorem MaxF.side_valid {n : Net} {f s : List Int} {v : Int} (hok : n.Ok) (h : MaxF n f s v) : ValidP s n.nodes := by
  obtain ⟨R, _, rfl⟩ := h.side
  have := sideL_valid n.nodes.toNat R
  rwa [show ((n.nodes.toNat : Nat) : Int) = n.nodes from by have := hok.two; omega] at this
theorem GreatL.valid {n : Net} {s : List Int} (hok : n.Ok) (h : GreatL n s) : ValidP s n.nodes := by
  obtain ⟨_, R, _, _, rfl⟩ := h
  have := sideL_valid n.nodes.toNat R
  rwa [show ((n.nodes.toNat : Nat) : Int) = n.nodes from by have := hok.two; omega] at this
theorem FOut_val {κ : Ctx} {I : List Item} {n : Net} {v u : Value} {side : List Int} (hl : Sl κ I v n.arcs) (hu : Sl κ I u side) (hok : n.Ok) (hv : ValidP side n.nodes) :
    CallS Try.prog κ 37 [.agg #[I64 n.nodes, I64 n.source, I64 n.sink, v], u] I fun r J => r = .tuple #[I64 (cutS n (inL side)), I64 0] ∧ I = J :=
  (FOut_ok hl hu).mono fun r J ⟨h1, h2⟩ => ⟨by rw [h1, outE_3 (checkN_ok.2 hok) hv], h2⟩

set_option maxHeartbeats 4000000 in
theorem FlowDual_walk {κ : Ctx} {I : List Item} {la : Option Addr} {ln lc : Nat} {ls : List Int} (hl : Sl κ I (.slice la ln lc) ls) :
    CallS Try.prog κ 6 [.slice la ln lc] I (fun r J => r = .bool true ∧ I = J) := by
 refine CallS.enter (L := [(0, .slice la ln lc)]) Try.func6 rfl rfl rfl rfl ?_
 refine W.sr ?_
 refine G.r (Runs.assign rfl) ?_
 refine G.nt ?_
 refine W.sr ?_
 refine G.r (Runs.move rfl) ?_
 refine G.e (Eff.call call22 rfl rfl New_ok) ?_
 rintro _ _ ⟨_, _, ⟨dk1, rfl, rfl⟩, rfl, rfl⟩
 show G Try.prog κ _ _ _ _ ([(17, .pointer (some ⟨dk1, 0, none⟩)), (16, .slice la ln lc), (2, .bool false), (0, .slice la ln lc)] : Env) (blk dk1 [.slice la ln lc, I64 (0)] 129 :: I)
 have hi0 : (0 : Int) ≤ 0 := Int.le_refl _
 refine G.r (Runs.assign rfl) ?_
 refine G.nt ?_
 refine W.sr ?_
 refine G.r (Runs.move rfl) ?_
 refine G.e (Eff.call call23 rfl rfl (Network_at (by repeat (first | exact AtF.head _ _ | apply AtF.tail)) (fun _ => Sl.fit hl Fit.m) (by omega))) ?_
 rintro _ _ ⟨_, _, ⟨n, ad3, cp4, i2, rfl, hmade, hi2, rfl⟩, rfl, rfl⟩
 show G Try.prog κ _ _ _ _ ([(19, .agg #[I64 (n.nodes), I64 (n.source), I64 (n.sink), .slice ad3 n.arcs.length cp4]), (18, .pointer (some ⟨dk1, 0, none⟩)), (3, .pointer (some ⟨dk1, 0, none⟩)), (17, .pointer (some ⟨dk1, 0, none⟩)), (16, .slice la ln lc), (2, .bool false), (0, .slice la ln lc)] : Env) (vc 43 (.slice ad3 n.arcs.length cp4) (n.arcs) :: blk dk1 [.slice la ln lc, I64 (i2)] 129 :: I)
 have hok := hmade.ok
 have hmlim := hmade.lim
 have htwo := hok.two
 refine G.e (Eff.alloc ty30 rfl) ?_
 rintro _ _ ⟨b5, rfl, rfl⟩
 refine G.e (Eff.st (cs := [_, _, _, _]) (vs := [_, _, _, _]) (cs' := [_, _, _, _]) ty30) ?_
 rintro _ _ ⟨rfl, rfl⟩
 refine G.nt ?_
 refine W.sr ?_
 refine G.r (Runs.lds (vs := [_, _, _, _]) ty30) ?_
 refine G.e (Eff.call call30 rfl rfl (FMax_ok (n := n) Sl.o hok)) ?_
 rintro _ _ ⟨_, _, ⟨ad6, cp7, f8, ad9, cp10, sd11, vl12, rfl, hf8, rfl⟩, rfl, rfl⟩
 refine G.r (Runs.move rfl) ?_
 refine G.r (Runs.extract rfl rfl) ?_
 refine G.r (Runs.extract rfl rfl) ?_
 refine G.e (Eff.alloc ty24 rfl) ?_
 rintro _ _ ⟨b13, rfl, rfl⟩
 refine G.e (Eff.st (cs := [_, _, _]) (vs := [_, _, _]) (cs' := [_, _, _]) ty24) ?_
 rintro _ _ ⟨rfl, rfl⟩
 refine G.r (Runs.assign rfl) ?_
 refine G.nt ?_
 refine W.sub (L' := [(6, _), (5, _), (4, _), (3, _)]) (Sub.cons rfl (Sub.cons rfl (Sub.cons rfl (Sub.cons rfl Sub.nil)))) ?_
 refine W.sr ?_
 refine G.r (Runs.lds (vs := [_, _, _, _]) ty30) ?_
 refine G.e (Eff.call call33 rfl rfl (FGreat_ok (n := n) Sl.o hok)) ?_
 rintro _ _ ⟨_, _, ⟨ad14, cp15, gr16, rfl, hgr16, rfl⟩, rfl, rfl⟩
 have hsc := hf8.side_cut hok
 have hgc := hf8.great_cut hok hgr16
 have hsg := hf8.side_great hok hgr16
 refine G.r (Runs.move rfl) ?_
 refine G.r (Runs.extract rfl rfl) ?_
 refine G.r (Runs.extract rfl rfl) ?_
 refine G.r (Runs.assign rfl) ?_
 refine G.r (Runs.assign rfl) ?_
 refine G.nt ?_
 refine W.seq ?_
 refine W.sr ?_
 refine G.r (Runs.move rfl) ?_
 refine G.r (Runs.neq rfl rfl) ?_
 refine G.r (Runs.move rfl) ?_
 refine G.split (d := 32) rfl (fun g32 => ?_) (fun g32 => ?_)
 ·refine G.po ?_
  refine G.po ?_
  refine G.r (Runs.pickt rfl rfl) ?_
  refine G.nt ?_
  refine W.sub (L' := [(35, _), (7, _), (5, _), (4, _), (3, _)]) (Sub.cons rfl (Sub.cons rfl (Sub.cons rfl (Sub.cons rfl (Sub.cons rfl Sub.nil))))) ?_
  refine W.yes rfl ?_
  refine W.sr ?_
  refine G.r (Runs.assign rfl) ?_
  refine G.nt ?_
  refine W.ret ?_
  refine V.then_ret ?_
  exfalso; omega
 ·refine G.ro (Runs.move rfl) ?_
  refine G.ro (Runs.neq rfl rfl) ?_
  refine G.r (Runs.pickf rfl rfl) ?_
  refine G.nt ?_
  refine W.sub (L' := [(35, _), (7, _), (5, _), (4, _), (3, _)]) (Sub.cons rfl (Sub.cons rfl (Sub.cons rfl (Sub.cons rfl (Sub.cons rfl Sub.nil))))) ?_
  refine W.ite rfl (fun c35 => ?_) (fun c35 => ?_)
  ·refine W.sr ?_
   refine G.r (Runs.assign rfl) ?_
   refine G.nt ?_
   refine W.ret ?_
   refine V.then_ret ?_
   exfalso; omega
  ·refine W.skip ?_
   refine V.then ?_
   refine W.seq ?_
   refine W.sr ?_
   refine G.r (Runs.move rfl) ?_
   refine G.nt ?_
   refine W.block ?_
   refine W.loop (σ := Nat × Int) (fun s => ([(3, .pointer (some ⟨dk1, 0, none⟩)), (4, .pointer (some ⟨b5, 0, none⟩)), (5, .pointer (some ⟨b13, 0, none⟩)), (7, .slice ad14 gr16.length cp15), (36, I64 (((s.1 : Nat) : Int)))] : Env)) (fun s => vc 3 (.slice ad14 gr16.length cp15) (gr16) :: blk b13 [.slice ad6 f8.length cp7, I64 (vl12), .slice ad9 sd11.length cp10] 24 :: vc 3 (.slice ad9 sd11.length cp10) (sd11) :: vc 3 (.slice ad6 f8.length cp7) (f8) :: blk b5 [I64 (n.nodes), I64 (n.source), I64 (n.sink), .slice ad3 n.arcs.length cp4] 30 :: vc 43 (.slice ad3 n.arcs.length cp4) (n.arcs) :: blk dk1 [.slice la ln lc, I64 (s.2)] 129 :: I) (fun s => (s.1 ≤ 6) ∧ (0 ≤ s.2)) (fun s => 6 - s.1) (0, i2) (show ((0 : Nat) ≤ 6) ∧ (0 ≤ (i2 : Int)) from ⟨(by omega), (by omega)⟩) (Sub.cons rfl (Sub.cons rfl (Sub.cons rfl (Sub.cons rfl (Sub.cons lookO Sub.nil))))) (show Fit κ _ (vc 3 (.slice ad14 gr16.length cp15) (gr16) :: blk b13 [.slice ad6 f8.length cp7, I64 (vl12), .slice ad9 sd11.length cp10] 24 :: vc 3 (.slice ad9 sd11.length cp10) (sd11) :: vc 3 (.slice ad6 f8.length cp7) (f8) :: blk b5 [I64 (n.nodes), I64 (n.source), I64 (n.sink), .slice ad3 n.arcs.length cp4] 30 :: vc 43 (.slice ad3 n.arcs.length cp4) (n.arcs) :: blk dk1 [.slice la ln lc, I64 ((i2))] 129 :: I) from Fit.sub) ?_
   rintro ⟨k, i6⟩ hp
   obtain ⟨hk, hi6⟩ : (k ≤ 6) ∧ (0 ≤ i6) := hp
   show W Try.prog κ 116 _ _ ([(3, .pointer (some ⟨dk1, 0, none⟩)), (4, .pointer (some ⟨b5, 0, none⟩)), (5, .pointer (some ⟨b13, 0, none⟩)), (7, .slice ad14 gr16.length cp15), (36, I64 (((k : Nat) : Int)))] : Env) (vc 3 (.slice ad14 gr16.length cp15) (gr16) :: blk b13 [.slice ad6 f8.length cp7, I64 (vl12), .slice ad9 sd11.length cp10] 24 :: vc 3 (.slice ad9 sd11.length cp10) (sd11) :: vc 3 (.slice ad6 f8.length cp7) (f8) :: blk b5 [I64 (n.nodes), I64 (n.source), I64 (n.sink), .slice ad3 n.arcs.length cp4] 30 :: vc 43 (.slice ad3 n.arcs.length cp4) (n.arcs) :: blk dk1 [.slice la ln lc, I64 (i6)] 129 :: I)
   refine W.sr ?_
   refine G.r (Runs.lss rfl rfl) ?_
   refine G.nt ?_
   refine W.seq ?_
   refine W.ite rfl (fun c37 => ?_) (fun c37 => ?_)
   ·refine W.skip ?_
    refine V.then ?_
    refine W.seq ?_
    refine W.block ?_
    refine W.cut (σ := (Option Addr) × Nat × (List Int) × Int) (fun s => ([(3, .pointer (some ⟨dk1, 0, none⟩)), (4, .pointer (some ⟨b5, 0, none⟩)), (5, .pointer (some ⟨b13, 0, none⟩)), (7, .slice ad14 gr16.length cp15), (9, .slice s.1 s.2.2.1.length s.2.1), (36, I64 (((k : Nat) : Int)))] : Env)) (fun s => vc 3 (.slice s.1 s.2.2.1.length s.2.1) (s.2.2.1) :: vc 3 (.slice ad14 gr16.length cp15) (gr16) :: blk b13 [.slice ad6 f8.length cp7, I64 (vl12), .slice ad9 sd11.length cp10] 24 :: vc 3 (.slice ad9 sd11.length cp10) (sd11) :: vc 3 (.slice ad6 f8.length cp7) (f8) :: blk b5 [I64 (n.nodes), I64 (n.source), I64 (n.sink), .slice ad3 n.arcs.length cp4] 30 :: vc 43 (.slice ad3 n.arcs.length cp4) (n.arcs) :: blk dk1 [.slice la ln lc, I64 (s.2.2.2)] 129 :: I) (fun s => (ValidP s.2.2.1 n.nodes ∧ n.source ∈ s.2.2.1 ∧ n.sink ∉ s.2.2.1) ∧ (0 ≤ s.2.2.2)) ?_ ?_
    ·refine W.drawn mixed ?_
     refine A.hold (vc 3 (.slice ad14 gr16.length cp15) (gr16) :: blk b13 [.slice ad6 f8.length cp7, I64 (vl12), .slice ad9 sd11.length cp10] 24 :: vc 3 (.slice ad9 sd11.length cp10) (sd11) :: vc 3 (.slice ad6 f8.length cp7) (f8) :: blk b5 [I64 (n.nodes), I64 (n.source), I64 (n.sink), .slice ad3 n.arcs.length cp4] 30 :: vc 43 (.slice ad3 n.arcs.length cp4) (n.arcs) :: I) 13 ?_
     refine D.r 0 rfl (Runs.move rfl) ?_ (hJ := Fit.sub)
     refine D.r 1 rfl (Runs.fieldAddr fld30_0 rfl) ?_ (hJ := Fit.sub)
     refine D.r 2 rfl (Runs.ld ty3) ?_ (hJ := Fit.sub)
     refine D.r 4 rfl (Runs.fieldAddr fld30_2 rfl) ?_ (hJ := Fit.sub)
     refine D.r 5 rfl (Runs.ld ty3) ?_ (hJ := Fit.sub)
     refine D.r 8 rfl (Runs.fieldAddr fld30_1 rfl) ?_ (hJ := Fit.sub)
     refine D.r 9 rfl (Runs.ld ty3) ?_ (hJ := Fit.sub)
     refine D.step (rs := [3, 6, 10]) (by kernel_rfl) rfl rfl (all2 ?_ (all2 ?_ (all1 ?_)))
     ·refine Step.eff rfl (Wanted.plain rfl) (Eff.call call26 rfl rfl (Set_at (by repeat (first | exact AtF.head _ _ | apply AtF.tail)) (fun _ => Sl.fit hl Fit.m) (by omega) (by omega))) ?_
      rintro _ _ ⟨_, _, ⟨ad18, cp19, o20, i17, rfl, ho20, hlo20, hi17, rfl⟩, rfl, rfl⟩
      refine ⟨Fit.sub, ?_⟩
      show D Try.prog κ _ _ _ _ _ _ _ ([(41, .slice ad18 o20.length cp19), (47, I64 (n.source)), (46, .pointer (some ⟨b5, 1, none⟩)), (43, I64 (n.sink)), (42, .pointer (some ⟨b5, 2, none⟩)), (40, I64 (n.nodes)), (39, .pointer (some ⟨b5, 0, none⟩)), (38, .pointer (some ⟨dk1, 0, none⟩)), (37, .bool (decide (((k : Nat) : Int) < 6))), (3, .pointer (some ⟨dk1, 0, none⟩)), (4, .pointer (some ⟨b5, 0, none⟩)), (5, .pointer (some ⟨b13, 0, none⟩)), (7, .slice ad14 gr16.length cp15), (36, I64 (((k : Nat) : Int)))] : Env) (vc 3 (.slice ad18 o20.length cp19) (o20) :: vc 3 (.slice ad14 gr16.length cp15) (gr16) :: blk b13 [.slice ad6 f8.length cp7, I64 (vl12), .slice ad9 sd11.length cp10] 24 :: vc 3 (.slice ad9 sd11.length cp10) (sd11) :: vc 3 (.slice ad6 f8.length cp7) (f8) :: blk b5 [I64 (n.nodes), I64 (n.source), I64 (n.sink), .slice ad3 n.arcs.length cp4] 30 :: vc 43 (.slice ad3 n.arcs.length cp4) (n.arcs) :: blk dk1 [.slice la ln lc, I64 (i17)] 129 :: I)
      refine D.step (rs := [6, 10]) (by kernel_rfl) rfl rfl (all2 ?_ (all1 ?_))
      ·refine Step.eff rfl (Wanted.plain rfl) (Eff.bs (α := Int) (cs := [_]) (xs := [n.sink]) Try.underlying22 ty3 rfl rfl (by decide) (by decide) rfl rfl rfl rfl) ?_
       rintro _ _ ⟨ad21, rfl, rfl⟩
       refine ⟨Fit.sub, ?_⟩
       refine D.step (rs := [7, 10]) (by kernel_rfl) rfl rfl (all2 ?_ (all1 ?_))
       ·refine Step.eff rfl (Wanted.plain rfl) (Eff.call call40 rfl rfl (Minus_ok Sl.o Sl.o (by omega))) ?_
        rintro _ _ ⟨_, _, ⟨ad22, cp23, rfl, rfl⟩, rfl, rfl⟩
        refine ⟨Fit.sub, ?_⟩
        refine D.step (rs := [10]) (by kernel_rfl) rfl rfl (all1 ?_)
        refine Step.eff rfl (Wanted.plain rfl) (Eff.bs (α := Int) (cs := [_]) (xs := [n.source]) Try.underlying22 ty3 rfl rfl (by decide) (by decide) rfl rfl rfl rfl) ?_
        rintro _ _ ⟨ad24, rfl, rfl⟩
        refine ⟨Fit.sub, ?_⟩
        refine D.step (rs := [11]) (by kernel_rfl) rfl rfl (all1 ?_)
        refine Step.eff rfl (Wanted.plain rfl) (Eff.call call39 rfl rfl (Union_ok Sl.o Sl.o (by refine Nat.lt_of_le_of_lt (Nat.add_le_add_right (minusL_len _ _) _) ?_; simp only [List.length_cons, List.length_nil]; omega))) ?_
        rintro _ _ ⟨_, _, ⟨ad25, cp26, rfl, rfl⟩, rfl, rfl⟩
        refine ⟨Fit.sub, ?_⟩
        refine D.r 12 rfl (Runs.assign rfl) ?_ (hJ := Fit.sub)
        refine D.done (by kernel_rfl) ?_
        exact V.mid ((ad25), (cp26), (ofL (minusL o20 ([n.sink] : List Int) ++ ([n.source] : List Int))), (i17)) (show (ValidP (ofL (minusL o20 ([n.sink] : List Int) ++ ([n.source] : List Int)) : List Int) n.nodes ∧ n.source ∈ (ofL (minusL o20 ([n.sink] : List Int) ++ ([n.source] : List Int)) : List Int) ∧ n.sink ∉ (ofL (minusL o20 ([n.sink] : List Int) ++ ([n.source] : List Int)) : List Int)) ∧ (0 ≤ (i17 : Int)) from ⟨(dual_set (by assumption) hok.src hok.ne), (by omega)⟩) (Sub.cons rfl (Sub.cons rfl (Sub.cons rfl (Sub.cons rfl (Sub.cons (lookV rfl (by first | rfl | simp)) (Sub.cons rfl Sub.nil)))))) (show Fit κ _ (vc 3 (.slice (ad25) (ofL (minusL o20 ([n.sink] : List Int) ++ ([n.source] : List Int))).length (cp26)) ((ofL (minusL o20 ([n.sink] : List Int) ++ ([n.source] : List Int)))) :: vc 3 (.slice ad14 gr16.length cp15) (gr16) :: blk b13 [.slice ad6 f8.length cp7, I64 (vl12), .slice ad9 sd11.length cp10] 24 :: vc 3 (.slice ad9 sd11.length cp10) (sd11) :: vc 3 (.slice ad6 f8.length cp7) (f8) :: blk b5 [I64 (n.nodes), I64 (n.source), I64 (n.sink), .slice ad3 n.arcs.length cp4] 30 :: vc 43 (.slice ad3 n.arcs.length cp4) (n.arcs) :: blk dk1 [.slice la ln lc, I64 ((i17))] 129 :: I) from Fit.s)
       ·refine Step.eff rfl (Wanted.plain rfl) (Eff.bs (α := Int) (cs := [_]) (xs := [n.source]) Try.underlying22 ty3 rfl rfl (by decide) (by decide) rfl rfl rfl rfl) ?_
        rintro _ _ ⟨ad27, rfl, rfl⟩
        refine ⟨Fit.sub, ?_⟩
        refine D.step (rs := [7]) (by kernel_rfl) rfl rfl (all1 ?_)
        refine Step.eff rfl (Wanted.plain rfl) (Eff.call call40 rfl rfl (Minus_ok Sl.o Sl.o (by omega))) ?_
        rintro _ _ ⟨_, _, ⟨ad28, cp29, rfl, rfl⟩, rfl, rfl⟩
        refine ⟨Fit.sub, ?_⟩
        refine D.step (rs := [11]) (by kernel_rfl) rfl rfl (all1 ?_)
        refine Step.eff rfl (Wanted.plain rfl) (Eff.call call39 rfl rfl (Union_ok Sl.o Sl.o (by refine Nat.lt_of_le_of_lt (Nat.add_le_add_right (minusL_len _ _) _) ?_; simp only [List.length_cons, List.length_nil]; omega))) ?_
        rintro _ _ ⟨_, _, ⟨ad30, cp31, rfl, rfl⟩, rfl, rfl⟩
        refine ⟨Fit.sub, ?_⟩
        refine D.r 12 rfl (Runs.assign rfl) ?_ (hJ := Fit.sub)
        refine D.done (by kernel_rfl) ?_
        exact V.mid ((ad30), (cp31), (ofL (minusL o20 ([n.sink] : List Int) ++ ([n.source] : List Int))), (i17)) (show (ValidP (ofL (minusL o20 ([n.sink] : List Int) ++ ([n.source] : List Int)) : List Int) n.nodes ∧ n.source ∈ (ofL (minusL o20 ([n.sink] : List Int) ++ ([n.source] : List Int)) : List Int) ∧ n.sink ∉ (ofL (minusL o20 ([n.sink] : List Int) ++ ([n.source] : List Int)) : List Int)) ∧ (0 ≤ (i17 : Int)) from ⟨(dual_set (by assumption) hok.src hok.ne), (by omega)⟩) (Sub.cons rfl (Sub.cons rfl (Sub.cons rfl (Sub.cons rfl (Sub.cons (lookV rfl (by first | rfl | simp)) (Sub.cons rfl Sub.nil)))))) (show Fit κ _ (vc 3 (.slice (ad30) (ofL (minusL o20 ([n.sink] : List Int) ++ ([n.source] : List Int))).length (cp31)) ((ofL (minusL o20 ([n.sink] : List Int) ++ ([n.source] : List Int)))) :: vc 3 (.slice ad14 gr16.length cp15) (gr16) :: blk b13 [.slice ad6 f8.length cp7, I64 (vl12), .slice ad9 sd11.length cp10] 24 :: vc 3 (.slice ad9 sd11.length cp10) (sd11) :: vc 3 (.slice ad6 f8.length cp7) (f8) :: blk b5 [I64 (n.nodes), I64 (n.source), I64 (n.sink), .slice ad3 n.arcs.length cp4] 30 :: vc 43 (.slice ad3 n.arcs.length cp4) (n.arcs) :: blk dk1 [.slice la ln lc, I64 ((i17))] 129 :: I) from Fit.s)
      ·refine Step.eff rfl (Wanted.plain rfl) (Eff.bs (α := Int) (cs := [_]) (xs := [n.source]) Try.underlying22 ty3 rfl rfl (by decide) (by decide) rfl rfl rfl rfl) ?_
       rintro _ _ ⟨ad32, rfl, rfl⟩
       refine ⟨Fit.sub, ?_⟩
       refine D.step (rs := [6]) (by kernel_rfl) rfl rfl (all1 ?_)
       refine Step.eff rfl (Wanted.plain rfl) (Eff.bs (α := Int) (cs := [_]) (xs := [n.sink]) Try.underlying22 ty3 rfl rfl (by decide) (by decide) rfl rfl rfl rfl) ?_
       rintro _ _ ⟨ad33, rfl, rfl⟩
       refine ⟨Fit.sub, ?_⟩
       refine D.step (rs := [7]) (by kernel_rfl) rfl rfl (all1 ?_)
       refine Step.eff rfl (Wanted.plain rfl) (Eff.call call40 rfl rfl (Minus_ok Sl.o Sl.o (by omega))) ?_
       rintro _ _ ⟨_, _, ⟨ad34, cp35, rfl, rfl⟩, rfl, rfl⟩
       refine ⟨Fit.sub, ?_⟩
       refine D.step (rs := [11]) (by kernel_rfl) rfl rfl (all1 ?_)
       refine Step.eff rfl (Wanted.plain rfl) (Eff.call call39 rfl rfl (Union_ok Sl.o Sl.o (by refine Nat.lt_of_le_of_lt (Nat.add_le_add_right (minusL_len _ _) _) ?_; simp only [List.length_cons, List.length_nil]; omega))) ?_
       rintro _ _ ⟨_, _, ⟨ad36, cp37, rfl, rfl⟩, rfl, rfl⟩
       refine ⟨Fit.sub, ?_⟩
       refine D.r 12 rfl (Runs.assign rfl) ?_ (hJ := Fit.sub)
       refine D.done (by kernel_rfl) ?_
       exact V.mid ((ad36), (cp37), (ofL (minusL o20 ([n.sink] : List Int) ++ ([n.source] : List Int))), (i17)) (show (ValidP (ofL (minusL o20 ([n.sink] : List Int) ++ ([n.source] : List Int)) : List Int) n.nodes ∧ n.source ∈ (ofL (minusL o20 ([n.sink] : List Int) ++ ([n.source] : List Int)) : List Int) ∧ n.sink ∉ (ofL (minusL o20 ([n.sink] : List Int) ++ ([n.source] : List Int)) : List Int)) ∧ (0 ≤ (i17 : Int)) from ⟨(dual_set (by assumption) hok.src hok.ne), (by omega)⟩) (Sub.cons rfl (Sub.cons rfl (Sub.cons rfl (Sub.cons rfl (Sub.cons (lookV rfl (by first | rfl | simp)) (Sub.cons rfl Sub.nil)))))) (show Fit κ _ (vc 3 (.slice (ad36) (ofL (minusL o20 ([n.sink] : List Int) ++ ([n.source] : List Int))).length (cp37)) ((ofL (minusL o20 ([n.sink] : List Int) ++ ([n.source] : List Int)))) :: vc 3 (.slice ad14 gr16.length cp15) (gr16) :: blk b13 [.slice ad6 f8.length cp7, I64 (vl12), .slice ad9 sd11.length cp10] 24 :: vc 3 (.slice ad9 sd11.length cp10) (sd11) :: vc 3 (.slice ad6 f8.length cp7) (f8) :: blk b5 [I64 (n.nodes), I64 (n.source), I64 (n.sink), .slice ad3 n.arcs.length cp4] 30 :: vc 43 (.slice ad3 n.arcs.length cp4) (n.arcs) :: blk dk1 [.slice la ln lc, I64 ((i17))] 129 :: I) from Fit.s)
     ·refine Step.eff rfl (Wanted.plain rfl) (Eff.bs (α := Int) (cs := [_]) (xs := [n.sink]) Try.underlying22 ty3 rfl rfl (by decide) (by decide) rfl rfl rfl rfl) ?_
      rintro _ _ ⟨ad38, rfl, rfl⟩
      refine ⟨Fit.sub, ?_⟩
      refine D.step (rs := [3, 10]) (by kernel_rfl) rfl rfl (all2 ?_ (all1 ?_))
      ·refine Step.eff rfl (Wanted.plain rfl) (Eff.call call26 rfl rfl (Set_at (by repeat (first | exact AtF.head _ _ | apply AtF.tail)) (fun _ => Sl.fit hl Fit.m) (by omega) (by omega))) ?_
       rintro _ _ ⟨_, _, ⟨ad40, cp41, o42, i39, rfl, ho42, hlo42, hi39, rfl⟩, rfl, rfl⟩
       refine ⟨Fit.sub, ?_⟩
       show D Try.prog κ _ _ _ _ _ _ _ ([(41, .slice ad40 o42.length cp41), (44, .slice ad38 1 1), (47, I64 (n.source)), (46, .pointer (some ⟨b5, 1, none⟩)), (43, I64 (n.sink)), (42, .pointer (some ⟨b5, 2, none⟩)), (40, I64 (n.nodes)), (39, .pointer (some ⟨b5, 0, none⟩)), (38, .pointer (some ⟨dk1, 0, none⟩)), (37, .bool (decide (((k : Nat) : Int) < 6))), (3, .pointer (some ⟨dk1, 0, none⟩)), (4, .pointer (some ⟨b5, 0, none⟩)), (5, .pointer (some ⟨b13, 0, none⟩)), (7, .slice ad14 gr16.length cp15), (36, I64 (((k : Nat) : Int)))] : Env) (vc 3 (.slice ad40 o42.length cp41) (o42) :: vc 3 (.slice ad38 1 1) (([n.sink] : List Int)) :: vc 3 (.slice ad14 gr16.length cp15) (gr16) :: blk b13 [.slice ad6 f8.length cp7, I64 (vl12), .slice ad9 sd11.length cp10] 24 :: vc 3 (.slice ad9 sd11.length cp10) (sd11) :: vc 3 (.slice ad6 f8.length cp7) (f8) :: blk b5 [I64 (n.nodes), I64 (n.source), I64 (n.sink), .slice ad3 n.arcs.length cp4] 30 :: vc 43 (.slice ad3 n.arcs.length cp4) (n.arcs) :: blk dk1 [.slice la ln lc, I64 (i39)] 129 :: I)
       refine D.step (rs := [7, 10]) (by kernel_rfl) rfl rfl (all2 ?_ (all1 ?_))
       ·refine Step.eff rfl (Wanted.plain rfl) (Eff.call call40 rfl rfl (Minus_ok Sl.o Sl.o (by omega))) ?_
        rintro _ _ ⟨_, _, ⟨ad43, cp44, rfl, rfl⟩, rfl, rfl⟩
        refine ⟨Fit.sub, ?_⟩
        refine D.step (rs := [10]) (by kernel_rfl) rfl rfl (all1 ?_)
        refine Step.eff rfl (Wanted.plain rfl) (Eff.bs (α := Int) (cs := [_]) (xs := [n.source]) Try.underlying22 ty3 rfl rfl (by decide) (by decide) rfl rfl rfl rfl) ?_
        rintro _ _ ⟨ad45, rfl, rfl⟩
        refine ⟨Fit.sub, ?_⟩
        refine D.step (rs := [11]) (by kernel_rfl) rfl rfl (all1 ?_)
        refine Step.eff rfl (Wanted.plain rfl) (Eff.call call39 rfl rfl (Union_ok Sl.o Sl.o (by refine Nat.lt_of_le_of_lt (Nat.add_le_add_right (minusL_len _ _) _) ?_; simp only [List.length_cons, List.length_nil]; omega))) ?_
        rintro _ _ ⟨_, _, ⟨ad46, cp47, rfl, rfl⟩, rfl, rfl⟩
        refine ⟨Fit.sub, ?_⟩
        refine D.r 12 rfl (Runs.assign rfl) ?_ (hJ := Fit.sub)
        refine D.done (by kernel_rfl) ?_
        exact V.mid ((ad46), (cp47), (ofL (minusL o42 ([n.sink] : List Int) ++ ([n.source] : List Int))), (i39)) (show (ValidP (ofL (minusL o42 ([n.sink] : List Int) ++ ([n.source] : List Int)) : List Int) n.nodes ∧ n.source ∈ (ofL (minusL o42 ([n.sink] : List Int) ++ ([n.source] : List Int)) : List Int) ∧ n.sink ∉ (ofL (minusL o42 ([n.sink] : List Int) ++ ([n.source] : List Int)) : List Int)) ∧ (0 ≤ (i39 : Int)) from ⟨(dual_set (by assumption) hok.src hok.ne), (by omega)⟩) (Sub.cons rfl (Sub.cons rfl (Sub.cons rfl (Sub.cons rfl (Sub.cons (lookV rfl (by first | rfl | simp)) (Sub.cons rfl Sub.nil)))))) (show Fit κ _ (vc 3 (.slice (ad46) (ofL (minusL o42 ([n.sink] : List Int) ++ ([n.source] : List Int))).length (cp47)) ((ofL (minusL o42 ([n.sink] : List Int) ++ ([n.source] : List Int)))) :: vc 3 (.slice ad14 gr16.length cp15) (gr16) :: blk b13 [.slice ad6 f8.length cp7, I64 (vl12), .slice ad9 sd11.length cp10] 24 :: vc 3 (.slice ad9 sd11.length cp10) (sd11) :: vc 3 (.slice ad6 f8.length cp7) (f8) :: blk b5 [I64 (n.nodes), I64 (n.source), I64 (n.sink), .slice ad3 n.arcs.length cp4] 30 :: vc 43 (.slice ad3 n.arcs.length cp4) (n.arcs) :: blk dk1 [.slice la ln lc, I64 ((i39))] 129 :: I) from Fit.s)
       ·refine Step.eff rfl (Wanted.plain rfl) (Eff.bs (α := Int) (cs := [_]) (xs := [n.source]) Try.underlying22 ty3 rfl rfl (by decide) (by decide) rfl rfl rfl rfl) ?_
        rintro _ _ ⟨ad48, rfl, rfl⟩
        refine ⟨Fit.sub, ?_⟩
        refine D.step (rs := [7]) (by kernel_rfl) rfl rfl (all1 ?_)
        refine Step.eff rfl (Wanted.plain rfl) (Eff.call call40 rfl rfl (Minus_ok Sl.o Sl.o (by omega))) ?_
        rintro _ _ ⟨_, _, ⟨ad49, cp50, rfl, rfl⟩, rfl, rfl⟩
        refine ⟨Fit.sub, ?_⟩
        refine D.step (rs := [11]) (by kernel_rfl) rfl rfl (all1 ?_)
        refine Step.eff rfl (Wanted.plain rfl) (Eff.call call39 rfl rfl (Union_ok Sl.o Sl.o (by refine Nat.lt_of_le_of_lt (Nat.add_le_add_right (minusL_len _ _) _) ?_; simp only [List.length_cons, List.length_nil]; omega))) ?_
        rintro _ _ ⟨_, _, ⟨ad51, cp52, rfl, rfl⟩, rfl, rfl⟩
        refine ⟨Fit.sub, ?_⟩
        refine D.r 12 rfl (Runs.assign rfl) ?_ (hJ := Fit.sub)
        refine D.done (by kernel_rfl) ?_
        exact V.mid ((ad51), (cp52), (ofL (minusL o42 ([n.sink] : List Int) ++ ([n.source] : List Int))), (i39)) (show (ValidP (ofL (minusL o42 ([n.sink] : List Int) ++ ([n.source] : List Int)) : List Int) n.nodes ∧ n.source ∈ (ofL (minusL o42 ([n.sink] : List Int) ++ ([n.source] : List Int)) : List Int) ∧ n.sink ∉ (ofL (minusL o42 ([n.sink] : List Int) ++ ([n.source] : List Int)) : List Int)) ∧ (0 ≤ (i39 : Int)) from ⟨(dual_set (by assumption) hok.src hok.ne), (by omega)⟩) (Sub.cons rfl (Sub.cons rfl (Sub.cons rfl (Sub.cons rfl (Sub.cons (lookV rfl (by first | rfl | simp)) (Sub.cons rfl Sub.nil)))))) (show Fit κ _ (vc 3 (.slice (ad51) (ofL (minusL o42 ([n.sink] : List Int) ++ ([n.source] : List Int))).length (cp52)) ((ofL (minusL o42 ([n.sink] : List Int) ++ ([n.source] : List Int)))) :: vc 3 (.slice ad14 gr16.length cp15) (gr16) :: blk b13 [.slice ad6 f8.length cp7, I64 (vl12), .slice ad9 sd11.length cp10] 24 :: vc 3 (.slice ad9 sd11.length cp10) (sd11) :: vc 3 (.slice ad6 f8.length cp7) (f8) :: blk b5 [I64 (n.nodes), I64 (n.source), I64 (n.sink), .slice ad3 n.arcs.length cp4] 30 :: vc 43 (.slice ad3 n.arcs.length cp4) (n.arcs) :: blk dk1 [.slice la ln lc, I64 ((i39))] 129 :: I) from Fit.s)
      ·refine Step.eff rfl (Wanted.plain rfl) (Eff.bs (α := Int) (cs := [_]) (xs := [n.source]) Try.underlying22 ty3 rfl rfl (by decide) (by decide) rfl rfl rfl rfl) ?_
       rintro _ _ ⟨ad53, rfl, rfl⟩
       refine ⟨Fit.sub, ?_⟩
       refine D.step (rs := [3]) (by kernel_rfl) rfl rfl (all1 ?_)
       refine Step.eff rfl (Wanted.plain rfl) (Eff.call call26 rfl rfl (Set_at (by repeat (first | exact AtF.head _ _ | apply AtF.tail)) (fun _ => Sl.fit hl Fit.m) (by omega) (by omega))) ?_
       rintro _ _ ⟨_, _, ⟨ad55, cp56, o57, i54, rfl, ho57, hlo57, hi54, rfl⟩, rfl, rfl⟩
       refine ⟨Fit.sub, ?_⟩
       show D Try.prog κ _ _ _ _ _ _ _ ([(41, .slice ad55 o57.length cp56), (48, .slice ad53 1 1), (44, .slice ad38 1 1), (47, I64 (n.source)), (46, .pointer (some ⟨b5, 1, none⟩)), (43, I64 (n.sink)), (42, .pointer (some ⟨b5, 2, none⟩)), (40, I64 (n.nodes)), (39, .pointer (some ⟨b5, 0, none⟩)), (38, .pointer (some ⟨dk1, 0, none⟩)), (37, .bool (decide (((k : Nat) : Int) < 6))), (3, .pointer (some ⟨dk1, 0, none⟩)), (4, .pointer (some ⟨b5, 0, none⟩)), (5, .pointer (some ⟨b13, 0, none⟩)), (7, .slice ad14 gr16.length cp15), (36, I64 (((k : Nat) : Int)))] : Env) (vc 3 (.slice ad55 o57.length cp56) (o57) :: vc 3 (.slice ad53 1 1) (([n.source] : List Int)) :: vc 3 (.slice ad38 1 1) (([n.sink] : List Int)) :: vc 3 (.slice ad14 gr16.length cp15) (gr16) :: blk b13 [.slice ad6 f8.length cp7, I64 (vl12), .slice ad9 sd11.length cp10] 24 :: vc 3 (.slice ad9 sd11.length cp10) (sd11) :: vc 3 (.slice ad6 f8.length cp7) (f8) :: blk b5 [I64 (n.nodes), I64 (n.source), I64 (n.sink), .slice ad3 n.arcs.length cp4] 30 :: vc 43 (.slice ad3 n.arcs.length cp4) (n.arcs) :: blk dk1 [.slice la ln lc, I64 (i54)] 129 :: I)
       refine D.step (rs := [7]) (by kernel_rfl) rfl rfl (all1 ?_)
       refine Step.eff rfl (Wanted.plain rfl) (Eff.call call40 rfl rfl (Minus_ok Sl.o Sl.o (by omega))) ?_
       rintro _ _ ⟨_, _, ⟨ad58, cp59, rfl, rfl⟩, rfl, rfl⟩
       refine ⟨Fit.sub, ?_⟩
       refine D.step (rs := [11]) (by kernel_rfl) rfl rfl (all1 ?_)
       refine Step.eff rfl (Wanted.plain rfl) (Eff.call call39 rfl rfl (Union_ok Sl.o Sl.o (by refine Nat.lt_of_le_of_lt (Nat.add_le_add_right (minusL_len _ _) _) ?_; simp only [List.length_cons, List.length_nil]; omega))) ?_
       rintro _ _ ⟨_, _, ⟨ad60, cp61, rfl, rfl⟩, rfl, rfl⟩
       refine ⟨Fit.sub, ?_⟩
       refine D.r 12 rfl (Runs.assign rfl) ?_ (hJ := Fit.sub)
       refine D.done (by kernel_rfl) ?_
       exact V.mid ((ad60), (cp61), (ofL (minusL o57 ([n.sink] : List Int) ++ ([n.source] : List Int))), (i54)) (show (ValidP (ofL (minusL o57 ([n.sink] : List Int) ++ ([n.source] : List Int)) : List Int) n.nodes ∧ n.source ∈ (ofL (minusL o57 ([n.sink] : List Int) ++ ([n.source] : List Int)) : List Int) ∧ n.sink ∉ (ofL (minusL o57 ([n.sink] : List Int) ++ ([n.source] : List Int)) : List Int)) ∧ (0 ≤ (i54 : Int)) from ⟨(dual_set (by assumption) hok.src hok.ne), (by omega)⟩) (Sub.cons rfl (Sub.cons rfl (Sub.cons rfl (Sub.cons rfl (Sub.cons (lookV rfl (by first | rfl | simp)) (Sub.cons rfl Sub.nil)))))) (show Fit κ _ (vc 3 (.slice (ad60) (ofL (minusL o57 ([n.sink] : List Int) ++ ([n.source] : List Int))).length (cp61)) ((ofL (minusL o57 ([n.sink] : List Int) ++ ([n.source] : List Int)))) :: vc 3 (.slice ad14 gr16.length cp15) (gr16) :: blk b13 [.slice ad6 f8.length cp7, I64 (vl12), .slice ad9 sd11.length cp10] 24 :: vc 3 (.slice ad9 sd11.length cp10) (sd11) :: vc 3 (.slice ad6 f8.length cp7) (f8) :: blk b5 [I64 (n.nodes), I64 (n.source), I64 (n.sink), .slice ad3 n.arcs.length cp4] 30 :: vc 43 (.slice ad3 n.arcs.length cp4) (n.arcs) :: blk dk1 [.slice la ln lc, I64 ((i54))] 129 :: I) from Fit.s)
     ·refine Step.eff rfl (Wanted.plain rfl) (Eff.bs (α := Int) (cs := [_]) (xs := [n.source]) Try.underlying22 ty3 rfl rfl (by decide) (by decide) rfl rfl rfl rfl) ?_
      rintro _ _ ⟨ad62, rfl, rfl⟩
      refine ⟨Fit.sub, ?_⟩
      refine D.step (rs := [3, 6]) (by kernel_rfl) rfl rfl (all2 ?_ (all1 ?_))
      ·refine Step.eff rfl (Wanted.plain rfl) (Eff.call call26 rfl rfl (Set_at (by repeat (first | exact AtF.head _ _ | apply AtF.tail)) (fun _ => Sl.fit hl Fit.m) (by omega) (by omega))) ?_
       rintro _ _ ⟨_, _, ⟨ad64, cp65, o66, i63, rfl, ho66, hlo66, hi63, rfl⟩, rfl, rfl⟩
       refine ⟨Fit.sub, ?_⟩
       show D Try.prog κ _ _ _ _ _ _ _ ([(41, .slice ad64 o66.length cp65), (48, .slice ad62 1 1), (47, I64 (n.source)), (46, .pointer (some ⟨b5, 1, none⟩)), (43, I64 (n.sink)), (42, .pointer (some ⟨b5, 2, none⟩)), (40, I64 (n.nodes)), (39, .pointer (some ⟨b5, 0, none⟩)), (38, .pointer (some ⟨dk1, 0, none⟩)), (37, .bool (decide (((k : Nat) : Int) < 6))), (3, .pointer (some ⟨dk1, 0, none⟩)), (4, .pointer (some ⟨b5, 0, none⟩)), (5, .pointer (some ⟨b13, 0, none⟩)), (7, .slice ad14 gr16.length cp15), (36, I64 (((k : Nat) : Int)))] : Env) (vc 3 (.slice ad64 o66.length cp65) (o66) :: vc 3 (.slice ad62 1 1) (([n.source] : List Int)) :: vc 3 (.slice ad14 gr16.length cp15) (gr16) :: blk b13 [.slice ad6 f8.length cp7, I64 (vl12), .slice ad9 sd11.length cp10] 24 :: vc 3 (.slice ad9 sd11.length cp10) (sd11) :: vc 3 (.slice ad6 f8.length cp7) (f8) :: blk b5 [I64 (n.nodes), I64 (n.source), I64 (n.sink), .slice ad3 n.arcs.length cp4] 30 :: vc 43 (.slice ad3 n.arcs.length cp4) (n.arcs) :: blk dk1 [.slice la ln lc, I64 (i63)] 129 :: I)
       refine D.step (rs := [6]) (by kernel_rfl) rfl rfl (all1 ?_)
       refine Step.eff rfl (Wanted.plain rfl) (Eff.bs (α := Int) (cs := [_]) (xs := [n.sink]) Try.underlying22 ty3 rfl rfl (by decide) (by decide) rfl rfl rfl rfl) ?_
       rintro _ _ ⟨ad67, rfl, rfl⟩
       refine ⟨Fit.sub, ?_⟩
       refine D.step (rs := [7]) (by kernel_rfl) rfl rfl (all1 ?_)
       refine Step.eff rfl (Wanted.plain rfl) (Eff.call call40 rfl rfl (Minus_ok Sl.o Sl.o (by omega))) ?_
       rintro _ _ ⟨_, _, ⟨ad68, cp69, rfl, rfl⟩, rfl, rfl⟩
       refine ⟨Fit.sub, ?_⟩
       refine D.step (rs := [11]) (by kernel_rfl) rfl rfl (all1 ?_)
       refine Step.eff rfl (Wanted.plain rfl) (Eff.call call39 rfl rfl (Union_ok Sl.o Sl.o (by refine Nat.lt_of_le_of_lt (Nat.add_le_add_right (minusL_len _ _) _) ?_; simp only [List.length_cons, List.length_nil]; omega))) ?_
       rintro _ _ ⟨_, _, ⟨ad70, cp71, rfl, rfl⟩, rfl, rfl⟩
       refine ⟨Fit.sub, ?_⟩
       refine D.r 12 rfl (Runs.assign rfl) ?_ (hJ := Fit.sub)
       refine D.done (by kernel_rfl) ?_
       exact V.mid ((ad70), (cp71), (ofL (minusL o66 ([n.sink] : List Int) ++ ([n.source] : List Int))), (i63)) (show (ValidP (ofL (minusL o66 ([n.sink] : List Int) ++ ([n.source] : List Int)) : List Int) n.nodes ∧ n.source ∈ (ofL (minusL o66 ([n.sink] : List Int) ++ ([n.source] : List Int)) : List Int) ∧ n.sink ∉ (ofL (minusL o66 ([n.sink] : List Int) ++ ([n.source] : List Int)) : List Int)) ∧ (0 ≤ (i63 : Int)) from ⟨(dual_set (by assumption) hok.src hok.ne), (by omega)⟩) (Sub.cons rfl (Sub.cons rfl (Sub.cons rfl (Sub.cons rfl (Sub.cons (lookV rfl (by first | rfl | simp)) (Sub.cons rfl Sub.nil)))))) (show Fit κ _ (vc 3 (.slice (ad70) (ofL (minusL o66 ([n.sink] : List Int) ++ ([n.source] : List Int))).length (cp71)) ((ofL (minusL o66 ([n.sink] : List Int) ++ ([n.source] : List Int)))) :: vc 3 (.slice ad14 gr16.length cp15) (gr16) :: blk b13 [.slice ad6 f8.length cp7, I64 (vl12), .slice ad9 sd11.length cp10] 24 :: vc 3 (.slice ad9 sd11.length cp10) (sd11) :: vc 3 (.slice ad6 f8.length cp7) (f8) :: blk b5 [I64 (n.nodes), I64 (n.source), I64 (n.sink), .slice ad3 n.arcs.length cp4] 30 :: vc 43 (.slice ad3 n.arcs.length cp4) (n.arcs) :: blk dk1 [.slice la ln lc, I64 ((i63))] 129 :: I) from Fit.s)
      ·refine Step.eff rfl (Wanted.plain rfl) (Eff.bs (α := Int) (cs := [_]) (xs := [n.sink]) Try.underlying22 ty3 rfl rfl (by decide) (by decide) rfl rfl rfl rfl) ?_
       rintro _ _ ⟨ad72, rfl, rfl⟩
       refine ⟨Fit.sub, ?_⟩
       refine D.step (rs := [3]) (by kernel_rfl) rfl rfl (all1 ?_)
       refine Step.eff rfl (Wanted.plain rfl) (Eff.call call26 rfl rfl (Set_at (by repeat (first | exact AtF.head _ _ | apply AtF.tail)) (fun _ => Sl.fit hl Fit.m) (by omega) (by omega))) ?_
       rintro _ _ ⟨_, _, ⟨ad74, cp75, o76, i73, rfl, ho76, hlo76, hi73, rfl⟩, rfl, rfl⟩
       refine ⟨Fit.sub, ?_⟩
       show D Try.prog κ _ _ _ _ _ _ _ ([(41, .slice ad74 o76.length cp75), (44, .slice ad72 1 1), (48, .slice ad62 1 1), (47, I64 (n.source)), (46, .pointer (some ⟨b5, 1, none⟩)), (43, I64 (n.sink)), (42, .pointer (some ⟨b5, 2, none⟩)), (40, I64 (n.nodes)), (39, .pointer (some ⟨b5, 0, none⟩)), (38, .pointer (some ⟨dk1, 0, none⟩)), (37, .bool (decide (((k : Nat) : Int) < 6))), (3, .pointer (some ⟨dk1, 0, none⟩)), (4, .pointer (some ⟨b5, 0, none⟩)), (5, .pointer (some ⟨b13, 0, none⟩)), (7, .slice ad14 gr16.length cp15), (36, I64 (((k : Nat) : Int)))] : Env) (vc 3 (.slice ad74 o76.length cp75) (o76) :: vc 3 (.slice ad72 1 1) (([n.sink] : List Int)) :: vc 3 (.slice ad62 1 1) (([n.source] : List Int)) :: vc 3 (.slice ad14 gr16.length cp15) (gr16) :: blk b13 [.slice ad6 f8.length cp7, I64 (vl12), .slice ad9 sd11.length cp10] 24 :: vc 3 (.slice ad9 sd11.length cp10) (sd11) :: vc 3 (.slice ad6 f8.length cp7) (f8) :: blk b5 [I64 (n.nodes), I64 (n.source), I64 (n.sink), .slice ad3 n.arcs.length cp4] 30 :: vc 43 (.slice ad3 n.arcs.length cp4) (n.arcs) :: blk dk1 [.slice la ln lc, I64 (i73)] 129 :: I)
       refine D.step (rs := [7]) (by kernel_rfl) rfl rfl (all1 ?_)
       refine Step.eff rfl (Wanted.plain rfl) (Eff.call call40 rfl rfl (Minus_ok Sl.o Sl.o (by omega))) ?_
       rintro _ _ ⟨_, _, ⟨ad77, cp78, rfl, rfl⟩, rfl, rfl⟩
       refine ⟨Fit.sub, ?_⟩
       refine D.step (rs := [11]) (by kernel_rfl) rfl rfl (all1 ?_)
       refine Step.eff rfl (Wanted.plain rfl) (Eff.call call39 rfl rfl (Union_ok Sl.o Sl.o (by refine Nat.lt_of_le_of_lt (Nat.add_le_add_right (minusL_len _ _) _) ?_; simp only [List.length_cons, List.length_nil]; omega))) ?_
       rintro _ _ ⟨_, _, ⟨ad79, cp80, rfl, rfl⟩, rfl, rfl⟩
       refine ⟨Fit.sub, ?_⟩
       refine D.r 12 rfl (Runs.assign rfl) ?_ (hJ := Fit.sub)
       refine D.done (by kernel_rfl) ?_
       exact V.mid ((ad79), (cp80), (ofL (minusL o76 ([n.sink] : List Int) ++ ([n.source] : List Int))), (i73)) (show (ValidP (ofL (minusL o76 ([n.sink] : List Int) ++ ([n.source] : List Int)) : List Int) n.nodes ∧ n.source ∈ (ofL (minusL o76 ([n.sink] : List Int) ++ ([n.source] : List Int)) : List Int) ∧ n.sink ∉ (ofL (minusL o76 ([n.sink] : List Int) ++ ([n.source] : List Int)) : List Int)) ∧ (0 ≤ (i73 : Int)) from ⟨(dual_set (by assumption) hok.src hok.ne), (by omega)⟩) (Sub.cons rfl (Sub.cons rfl (Sub.cons rfl (Sub.cons rfl (Sub.cons (lookV rfl (by first | rfl | simp)) (Sub.cons rfl Sub.nil)))))) (show Fit κ _ (vc 3 (.slice (ad79) (ofL (minusL o76 ([n.sink] : List Int) ++ ([n.source] : List Int))).length (cp80)) ((ofL (minusL o76 ([n.sink] : List Int) ++ ([n.source] : List Int)))) :: vc 3 (.slice ad14 gr16.length cp15) (gr16) :: blk b13 [.slice ad6 f8.length cp7, I64 (vl12), .slice ad9 sd11.length cp10] 24 :: vc 3 (.slice ad9 sd11.length cp10) (sd11) :: vc 3 (.slice ad6 f8.length cp7) (f8) :: blk b5 [I64 (n.nodes), I64 (n.source), I64 (n.sink), .slice ad3 n.arcs.length cp4] 30 :: vc 43 (.slice ad3 n.arcs.length cp4) (n.arcs) :: blk dk1 [.slice la ln lc, I64 ((i73))] 129 :: I) from Fit.s)
    ·rintro ⟨a9, c9, set, i9⟩ hp
     obtain ⟨hset, hi9⟩ : (ValidP set n.nodes ∧ n.source ∈ set ∧ n.sink ∉ set) ∧ (0 ≤ i9) := hp
     show W Try.prog κ 116 _ _ ([(3, .pointer (some ⟨dk1, 0, none⟩)), (4, .pointer (some ⟨b5, 0, none⟩)), (5, .pointer (some ⟨b13, 0, none⟩)), (7, .slice ad14 gr16.length cp15), (9, .slice a9 set.length c9), (36, I64 (((k : Nat) : Int)))] : Env) (vc 3 (.slice a9 set.length c9) (set) :: vc 3 (.slice ad14 gr16.length cp15) (gr16) :: blk b13 [.slice ad6 f8.length cp7, I64 (vl12), .slice ad9 sd11.length cp10] 24 :: vc 3 (.slice ad9 sd11.length cp10) (sd11) :: vc 3 (.slice ad6 f8.length cp7) (f8) :: blk b5 [I64 (n.nodes), I64 (n.source), I64 (n.sink), .slice ad3 n.arcs.length cp4] 30 :: vc 43 (.slice ad3 n.arcs.length cp4) (n.arcs) :: blk dk1 [.slice la ln lc, I64 (i9)] 129 :: I)
     have hbw := hf8.between hok hgr16 hset.1 hset.2.1 hset.2.2
     have hslen := hset.1.len (by omega)
     have hbw1 := hbw.1
     refine W.sr ?_
     refine G.r (Runs.lds (vs := [_, _, _, _]) ty30) ?_
     refine G.r (Runs.move rfl) ?_
     refine G.e (Eff.call call37 rfl rfl (FOut_val (n := n) Sl.o Sl.o hok hset.1)) ?_
     rintro _ _ ⟨_, _, ⟨rfl, rfl⟩, rfl, rfl⟩
     refine G.r (Runs.move rfl) ?_
     refine G.r (Runs.extract rfl rfl) ?_
     refine G.r (Runs.extract rfl rfl) ?_
     refine G.r (Runs.assign rfl) ?_
     refine G.r (Runs.assign rfl) ?_
     refine G.nt ?_
     refine W.sub (L' := [(11, _), (10, _), (3, _), (4, _), (5, _), (7, _), (9, _), (36, _)]) (Sub.cons rfl (Sub.cons rfl (Sub.cons rfl (Sub.cons rfl (Sub.cons rfl (Sub.cons rfl (Sub.cons rfl (Sub.cons rfl Sub.nil)))))))) ?_
     refine W.sr ?_
     refine G.r (Runs.move rfl) ?_
     refine G.r (Runs.neq rfl rfl) ?_
     refine G.r (Runs.move rfl) ?_
     refine G.split (d := 58) rfl (fun g58 => ?_) (fun g58 => ?_)
     ·refine G.po ?_
      refine G.po ?_
      refine G.po ?_
      refine G.po ?_
      refine G.r (Runs.pickt rfl rfl) ?_
      refine G.r (Runs.move rfl) ?_
      refine G.po ?_
      refine G.po ?_
      refine G.po ?_
      refine G.po ?_
      refine G.po ?_
      refine G.pu ?_
      refine G.pu ?_
      refine G.pu ?_
      refine G.pu ?_
      refine G.pu ?_
      refine G.pu ?_
      refine G.pu ?_
      refine G.pu ?_
      refine G.pu ?_
      refine G.pu ?_
      refine G.pu ?_
      refine G.po ?_
      refine G.r (Runs.pickt rfl rfl) ?_
      refine G.nt ?_
      refine W.sub (L' := [(82, _), (3, _), (4, _), (5, _), (7, _), (36, _)]) (Sub.cons rfl (Sub.cons rfl (Sub.cons rfl (Sub.cons rfl (Sub.cons rfl (Sub.cons rfl Sub.nil)))))) ?_
      refine W.yes rfl ?_
      refine W.sr ?_
      refine G.r (Runs.assign rfl) ?_
      refine G.nt ?_
      refine W.ret ?_
      refine V.block_ret ?_
      refine V.then_ret ?_
      refine V.then_ret ?_
      refine V.block_ret ?_
      refine V.then_ret ?_
      first | (exfalso; omega) | exact absurd (hbw.2 (by assumption)).1 (by assumption) | exact absurd (hbw.2 (by assumption)).2 (by assumption)
     ·refine G.ro (Runs.move rfl) ?_
      refine G.ro (Runs.fieldAddr fld24_1 rfl) ?_
      refine G.ro (Runs.ld ty3) ?_
      refine G.ro (Runs.lss rfl rfl) ?_
      refine G.r (Runs.pickf rfl rfl) ?_
      refine G.r (Runs.move rfl) ?_
      refine G.split (d := 64) rfl (fun g64 => ?_) (fun g64 => ?_)
      ·refine G.po ?_
       refine G.po ?_
       refine G.po ?_
       refine G.po ?_
       refine G.po ?_
       refine G.pu ?_
       refine G.pu ?_
       refine G.pu ?_
       refine G.pu ?_
       refine G.pu ?_
       refine G.pu ?_
       refine G.pu ?_
       refine G.pu ?_
       refine G.pu ?_
       refine G.pu ?_
       refine G.pu ?_
       refine G.po ?_
       refine G.r (Runs.pickt rfl rfl) ?_
       refine G.nt ?_
       refine W.sub (L' := [(82, _), (3, _), (4, _), (5, _), (7, _), (36, _)]) (Sub.cons rfl (Sub.cons rfl (Sub.cons rfl (Sub.cons rfl (Sub.cons rfl (Sub.cons rfl Sub.nil)))))) ?_
       refine W.yes rfl ?_
       refine W.sr ?_
       refine G.r (Runs.assign rfl) ?_
       refine G.nt ?_
       refine W.ret ?_
       refine V.block_ret ?_
       refine V.then_ret ?_
       refine V.then_ret ?_
       refine V.block_ret ?_
       refine V.then_ret ?_
       first | (exfalso; omega) | exact absurd (hbw.2 (by assumption)).1 (by assumption) | exact absurd (hbw.2 (by assumption)).2 (by assumption)
      ·refine G.ro (Runs.move rfl) ?_
       refine G.ro (Runs.fieldAddr fld24_1 rfl) ?_
       refine G.ro (Runs.ld ty3) ?_
       refine G.ro (Runs.eql rfl rfl) ?_
       refine G.ro (Runs.move rfl) ?_
       refine G.split (d := 69) rfl (fun g69 => ?_) (fun g69 => ?_)
       ·refine G.ro (Runs.fieldAddr fld24_2 rfl) ?_
        refine G.ro (Runs.ld ty22) ?_
        refine G.ro (Runs.move rfl) ?_
        refine G.eff (Wanted.on rfl rfl rfl) (Eff.call call41 rfl rfl (Within_ok Sl.o Sl.o)) ?_
        rintro _ _ ⟨_, _, ⟨rfl, rfl⟩, rfl, rfl⟩
        refine G.ro (Runs.notd rfl) ?_
        refine G.ro (Runs.move rfl) ?_
        refine G.split (d := 75) rfl (fun g75 => ?_) (fun g75 => ?_)
        ·refine G.po ?_
         refine G.po ?_
         refine G.po ?_
         refine G.po ?_
         refine G.ro (Runs.pickt rfl rfl) ?_
         refine G.ro (Runs.pickt rfl rfl) ?_
         refine G.r (Runs.pickf rfl rfl) ?_
         refine G.nt ?_
         refine W.sub (L' := [(82, _), (3, _), (4, _), (5, _), (7, _), (36, _)]) (Sub.cons rfl (Sub.cons rfl (Sub.cons rfl (Sub.cons rfl (Sub.cons rfl (Sub.cons rfl Sub.nil)))))) ?_
         refine W.yes rfl ?_
         refine W.sr ?_
         refine G.r (Runs.assign rfl) ?_
         refine G.nt ?_
         refine W.ret ?_
         refine V.block_ret ?_
         refine V.then_ret ?_
         refine V.then_ret ?_
         refine V.block_ret ?_
         refine V.then_ret ?_
         first | (exfalso; omega) | exact absurd (hbw.2 (by assumption)).1 (by assumption) | exact absurd (hbw.2 (by assumption)).2 (by assumption)
        ·refine G.ro (Runs.move rfl) ?_
         refine G.ro (Runs.move rfl) ?_
         refine G.eff (Wanted.on rfl rfl rfl) (Eff.call call41 rfl rfl (Within_ok Sl.o Sl.o)) ?_
         rintro _ _ ⟨_, _, ⟨rfl, rfl⟩, rfl, rfl⟩
         refine G.ro (Runs.notd rfl) ?_
         refine G.ro (Runs.pickf rfl rfl) ?_
         refine G.ro (Runs.pickt rfl rfl) ?_
         refine G.r (Runs.pickf rfl rfl) ?_
         refine G.nt ?_
         refine W.sub (L' := [(82, _), (3, _), (4, _), (5, _), (7, _), (36, _)]) (Sub.cons rfl (Sub.cons rfl (Sub.cons rfl (Sub.cons rfl (Sub.cons rfl (Sub.cons rfl Sub.nil)))))) ?_
         refine W.ite rfl (fun c82 => ?_) (fun c82 => ?_)
         ·refine W.sr ?_
          refine G.r (Runs.assign rfl) ?_
          refine G.nt ?_
          refine W.ret ?_
          refine V.block_ret ?_
          refine V.then_ret ?_
          refine V.then_ret ?_
          refine V.block_ret ?_
          refine V.then_ret ?_
          first | (exfalso; omega) | exact absurd (hbw.2 (by assumption)).1 (by assumption) | exact absurd (hbw.2 (by assumption)).2 (by assumption)
         ·refine W.skip ?_
          refine V.block_normal ?_
          refine V.then ?_
          refine W.region ?_
          refine G.r (Runs.add rfl rfl (by unfold InR; omega)) ?_
          refine G.r (Runs.move rfl) ?_
          refine G.nil ?_
          exact V.next ((k + 1), (i9)) (show ((k + 1 : Nat) ≤ 6) ∧ (0 ≤ (i9 : Int)) from ⟨(by omega), (by omega)⟩) (show 6 - (k + 1 : Nat) < 6 - k from (by omega)) (Sub.cons rfl (Sub.cons rfl (Sub.cons rfl (Sub.cons rfl (Sub.cons lookO Sub.nil))))) (show Fit κ _ (vc 3 (.slice ad14 gr16.length cp15) (gr16) :: blk b13 [.slice ad6 f8.length cp7, I64 (vl12), .slice ad9 sd11.length cp10] 24 :: vc 3 (.slice ad9 sd11.length cp10) (sd11) :: vc 3 (.slice ad6 f8.length cp7) (f8) :: blk b5 [I64 (n.nodes), I64 (n.source), I64 (n.sink), .slice ad3 n.arcs.length cp4] 30 :: vc 43 (.slice ad3 n.arcs.length cp4) (n.arcs) :: blk dk1 [.slice la ln lc, I64 ((i9))] 129 :: I) from Fit.sub)
       ·refine G.po ?_
        refine G.po ?_
        refine G.po ?_
        refine G.po ?_
        refine G.po ?_
        refine G.po ?_
        refine G.pu ?_
        refine G.pu ?_
        refine G.pu ?_
        refine G.pu ?_
        refine G.po ?_
        refine G.ro (Runs.pickf rfl rfl) ?_
        refine G.r (Runs.pickf rfl rfl) ?_
        refine G.nt ?_
        refine W.sub (L' := [(82, _), (3, _), (4, _), (5, _), (7, _), (36, _)]) (Sub.cons rfl (Sub.cons rfl (Sub.cons rfl (Sub.cons rfl (Sub.cons rfl (Sub.cons rfl Sub.nil)))))) ?_
        refine W.no rfl ?_
        refine W.skip ?_
        refine V.block_normal ?_
        refine V.then ?_
        refine W.region ?_
        refine G.r (Runs.add rfl rfl (by unfold InR; omega)) ?_
        refine G.r (Runs.move rfl) ?_
        refine G.nil ?_
        exact V.next ((k + 1), (i9)) (show ((k + 1 : Nat) ≤ 6) ∧ (0 ≤ (i9 : Int)) from ⟨(by omega), (by omega)⟩) (show 6 - (k + 1 : Nat) < 6 - k from (by omega)) (Sub.cons rfl (Sub.cons rfl (Sub.cons rfl (Sub.cons rfl (Sub.cons lookO Sub.nil))))) (show Fit κ _ (vc 3 (.slice ad14 gr16.length cp15) (gr16) :: blk b13 [.slice ad6 f8.length cp7, I64 (vl12), .slice ad9 sd11.length cp10] 24 :: vc 3 (.slice ad9 sd11.length cp10) (sd11) :: vc 3 (.slice ad6 f8.length cp7) (f8) :: blk b5 [I64 (n.nodes), I64 (n.source), I64 (n.sink), .slice ad3 n.arcs.length cp4] 30 :: vc 43 (.slice ad3 n.arcs.length cp4) (n.arcs) :: blk dk1 [.slice la ln lc, I64 ((i9))] 129 :: I) from Fit.sub)
   ·refine W.exit ?_
    refine V.then_exit ?_
    refine V.then_exit ?_
    refine V.block_hit ?_
    refine V.then ?_
    refine W.sr ?_
    refine G.r (Runs.lds (vs := [_, _, _, _]) ty30) ?_
    refine G.r (Runs.fieldAddr fld24_2 rfl) ?_
    refine G.r (Runs.ld ty22) ?_
    refine G.e (Eff.call call37 rfl rfl (FOut_val (n := n) Sl.o Sl.o hok (hf8.side_valid hok))) ?_
    rintro _ _ ⟨_, _, ⟨rfl, rfl⟩, rfl, rfl⟩
    refine G.r (Runs.move rfl) ?_
    refine G.r (Runs.extract rfl rfl) ?_
    refine G.r (Runs.extract rfl rfl) ?_
    refine G.r (Runs.assign rfl) ?_
    refine G.r (Runs.assign rfl) ?_
    refine G.nt ?_
    refine W.sub (L' := [(12, _), (4, _), (5, _), (7, _)]) (Sub.cons rfl (Sub.cons rfl (Sub.cons rfl (Sub.cons rfl Sub.nil)))) ?_
    refine W.sr ?_
    refine G.r (Runs.lds (vs := [_, _, _, _]) ty30) ?_
    refine G.r (Runs.move rfl) ?_
    refine G.e (Eff.call call37 rfl rfl (FOut_val (n := n) Sl.o Sl.o hok (hgr16.valid hok))) ?_
    rintro _ _ ⟨_, _, ⟨rfl, rfl⟩, rfl, rfl⟩
    refine G.r (Runs.move rfl) ?_
    refine G.r (Runs.extract rfl rfl) ?_
    refine G.r (Runs.extract rfl rfl) ?_
    refine G.r (Runs.assign rfl) ?_
    refine G.r (Runs.assign rfl) ?_
    refine G.nt ?_
    refine W.sr ?_
    refine G.r (Runs.move rfl) ?_
    refine G.r (Runs.fieldAddr fld24_1 rfl) ?_
    refine G.r (Runs.ld ty3) ?_
    refine G.r (Runs.eql rfl rfl) ?_
    refine G.r (Runs.move rfl) ?_
    refine G.split (d := 101) rfl (fun g101 => ?_) (fun g101 => ?_)
    ·refine G.ro (Runs.move rfl) ?_
     refine G.ro (Runs.fieldAddr fld24_1 rfl) ?_
     refine G.ro (Runs.ld ty3) ?_
     refine G.ro (Runs.eql rfl rfl) ?_
     refine G.r (Runs.pickt rfl rfl) ?_
     refine G.r (Runs.move rfl) ?_
     refine G.split (d := 107) rfl (fun g107 => ?_) (fun g107 => ?_)
     ·refine G.ro (Runs.fieldAddr fld24_2 rfl) ?_
      refine G.ro (Runs.ld ty22) ?_
      refine G.ro (Runs.move rfl) ?_
      refine G.eff (Wanted.on rfl rfl rfl) (Eff.call call41 rfl rfl (Within_ok Sl.o Sl.o)) ?_
      rintro _ _ ⟨_, _, ⟨rfl, rfl⟩, rfl, rfl⟩
      refine G.r (Runs.pickt rfl rfl) ?_
      refine G.r (Runs.move rfl) ?_
      refine G.split (d := 113) rfl (fun g113 => ?_) (fun g113 => ?_)
      ·refine G.eff (Wanted.on rfl rfl rfl) (Eff.call call21 rfl rfl Awake_ok) ?_
       rintro _ _ ⟨_, _, ⟨rfl, rfl⟩, rfl, rfl⟩
       refine G.r (Runs.pickt rfl rfl) ?_
       refine G.r (Runs.assign rfl) ?_
       refine G.nt ?_
       refine W.sub (L' := [(2, _)]) (Sub.cons rfl Sub.nil) ?_
       refine W.ret ?_
       exact V.ret1 rfl rfl (I) Fit.m ⟨rfl, rfl⟩
      ·refine G.po ?_
       refine G.r (Runs.pickf rfl rfl) ?_
       refine G.r (Runs.assign rfl) ?_
       refine G.nt ?_
       refine W.sub (L' := [(2, _)]) (Sub.cons rfl Sub.nil) ?_
       refine W.ret ?_
       first | (exfalso; omega) | exact absurd hsg (by assumption)
     ·refine G.po ?_
      refine G.po ?_
      refine G.po ?_
      refine G.po ?_
      refine G.r (Runs.pickf rfl rfl) ?_
      refine G.r (Runs.move rfl) ?_
      refine G.po ?_
      refine G.r (Runs.pickf rfl rfl) ?_
      refine G.r (Runs.assign rfl) ?_
      refine G.nt ?_
      refine W.sub (L' := [(2, _)]) (Sub.cons rfl Sub.nil) ?_
      refine W.ret ?_
      first | (exfalso; omega) | exact absurd hsg (by assumption)
    ·refine G.po ?_
     refine G.po ?_
     refine G.po ?_
     refine G.po ?_
     refine G.r (Runs.pickf rfl rfl) ?_
     refine G.r (Runs.move rfl) ?_
     refine G.po ?_
     refine G.po ?_
     refine G.po ?_
     refine G.po ?_
     refine G.r (Runs.pickf rfl rfl) ?_
     refine G.r (Runs.move rfl) ?_
     refine G.po ?_
     refine G.r (Runs.pickf rfl rfl) ?_
     refine G.r (Runs.assign rfl) ?_
     refine G.nt ?_
     refine W.sub (L' := [(2, _)]) (Sub.cons rfl Sub.nil) ?_
     refine W.ret ?_
     first | (exfalso; omega) | exact absurd hsg (by assumption)

end Go.Sl
