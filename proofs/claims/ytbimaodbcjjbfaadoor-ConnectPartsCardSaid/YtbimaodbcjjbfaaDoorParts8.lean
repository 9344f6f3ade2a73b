/- A part of the proofs of statements of this seat: contracts of functions, and the plain laws that they lean on. No conditions. -/
import Derived.Test.YtbimaodbcjjbfaaDoorParts9
import Derived.Test.YtbimaodbcjjbfaaDoorRunsT
namespace Go.Sl
open Go.Proofs
set_option linter.unusedVariables false
set_option linter.unusedSimpArgs false
set_option maxRecDepth 4000
theorem Joined_ok {κ : Ctx} {I : List Item} {nd : Int} {va : Value} {es : List Pt} {e f : Pt} (hl : Sl κ I va es) (hG : GrOk nd es) (hfe : f.u ≠ f.v) (hb : es.length ≤ 1000000) :
    CallS Tryd.prog κ 85 [.agg #[I64 (nd), va], .agg #[I64 (e.u), I64 (e.v)], .agg #[I64 (f.u), I64 (f.v)]] I (fun r J => r = .bool (joinF nd es e f) ∧ I = J) := by
 have hrl : (rangeI nd).length ≤ 64 := by rw [range_all hG.rng]; exact listB_len _
 refine CallS.enter (L := [(0, .agg #[I64 (nd), va]), (1, .agg #[I64 (e.u), I64 (e.v)]), (2, .agg #[I64 (f.u), I64 (f.v)])]) Tryd.func85 rfl rfl rfl rfl ?_
 refine W.sr ?_
 refine G.e (Eff.box (cs := [_, _]) rfl rfl rfl) ?_
 rintro _ _ ⟨b1, rfl, rfl⟩
 refine G.e (Eff.box (cs := [_, _]) rfl rfl rfl) ?_
 rintro _ _ ⟨b2, rfl, rfl⟩
 refine G.e (Eff.box (cs := [_, _]) rfl rfl rfl) ?_
 rintro _ _ ⟨b3, rfl, rfl⟩
 refine G.r (Runs.assign rfl) ?_
 refine G.nt ?_
 refine W.sr ?_
 refine G.r (Runs.fieldAddr fld38_0 rfl) ?_
 refine G.r (Runs.ld ty3) ?_
 refine G.r (Runs.fieldAddr fld38_1 rfl) ?_
 refine G.r (Runs.ld ty3) ?_
 refine G.e (Eff.bs (α := Int) (cs := [_, _]) (xs := [e.u, e.v]) Tryd.underlying22 ty3 rfl rfl (by decide) (by decide) rfl rfl rfl rfl) ?_
 rintro _ _ ⟨ad4, rfl, rfl⟩
 refine G.r (Runs.fieldAddr fld38_0 rfl) ?_
 refine G.r (Runs.ld ty3) ?_
 refine G.r (Runs.fieldAddr fld38_1 rfl) ?_
 refine G.r (Runs.ld ty3) ?_
 refine G.e (Eff.bs (α := Int) (cs := [_, _]) (xs := [f.u, f.v]) Tryd.underlying22 ty3 rfl rfl (by decide) (by decide) rfl rfl rfl rfl) ?_
 rintro _ _ ⟨ad5, rfl, rfl⟩
 refine G.e (Eff.call call25 rfl rfl (Meet_ok Sl.o Sl.o (by first | omega | (simp only [List.length_cons, List.length_nil]; omega)))) ?_
 rintro _ _ ⟨_, _, ⟨ad6, cp7, rfl, rfl⟩, rfl, rfl⟩
 refine G.r (Runs.assign rfl) ?_
 refine G.nt ?_
 refine W.sub (L' := [(7, _), (5, _), (4, _), (3, _)]) (Sub.cons rfl (Sub.cons rfl (Sub.cons rfl (Sub.cons rfl Sub.nil)))) ?_
 refine W.seq ?_
 refine W.sr ?_
 refine G.r (Runs.move rfl) ?_
 refine G.r (Runs.lens Tryd.underlying22 rfl) ?_
 refine G.r (Runs.neq rfl rfl) ?_
 refine G.nt ?_
 refine W.ite rfl (fun c23 => ?_) (fun c23 => ?_)
 ·refine W.sr ?_
  refine G.r (Runs.assign rfl) ?_
  refine G.nt ?_
  refine W.ret ?_
  refine V.then_ret ?_
  exact V.ret1 rfl rfl (I) Fit.m ⟨by unfold joinF bothL; rw [if_pos (by omega)], rfl⟩
 ·refine W.skip ?_
  refine V.then ?_
  refine W.cut (σ := (Option Addr) × Nat × (Option Addr) × Nat) (fun s => ([(3, .pointer (some ⟨b1, 0, none⟩)), (7, .slice ad6 (meetL ([e.u, e.v] : List Int) ([f.u, f.v] : List Int)).length cp7), (8, .slice s.1 (minusL [e.u, e.v] (meetL [e.u, e.v] [f.u, f.v])).length s.2.1), (9, .slice s.2.2.1 (minusL [f.u, f.v] (meetL [e.u, e.v] [f.u, f.v])).length s.2.2.2)] : Env)) (fun s => vc 3 (.slice s.1 (minusL [e.u, e.v] (meetL [e.u, e.v] [f.u, f.v])).length s.2.1) ((minusL [e.u, e.v] (meetL [e.u, e.v] [f.u, f.v]))) :: vc 3 (.slice s.2.2.1 (minusL [f.u, f.v] (meetL [e.u, e.v] [f.u, f.v])).length s.2.2.2) ((minusL [f.u, f.v] (meetL [e.u, e.v] [f.u, f.v]))) :: vc 3 (.slice ad6 (meetL ([e.u, e.v] : List Int) ([f.u, f.v] : List Int)).length cp7) (meetL ([e.u, e.v] : List Int) ([f.u, f.v] : List Int)) :: blk b3 [I64 (f.u), I64 (f.v)] 38 :: blk b2 [I64 (e.u), I64 (e.v)] 38 :: blk b1 [I64 (nd), va] 25 :: I) (fun s => True) ?_ ?_
  ·refine W.drawn mixed ?_
   refine A.hold (vc 3 (.slice ad6 (meetL ([e.u, e.v] : List Int) ([f.u, f.v] : List Int)).length cp7) (meetL ([e.u, e.v] : List Int) ([f.u, f.v] : List Int)) :: vc 3 (.slice ad5 2 2) (([f.u, f.v] : List Int)) :: vc 3 (.slice ad4 2 2) (([e.u, e.v] : List Int)) :: blk b3 [I64 (f.u), I64 (f.v)] 38 :: blk b2 [I64 (e.u), I64 (e.v)] 38 :: blk b1 [I64 (nd), va] 25 :: I) 16 ?_
   refine D.r 0 rfl (Runs.fieldAddr fld38_0 rfl) ?_ (hJ := Fit.sub)
   refine D.r 1 rfl (Runs.ld ty3) ?_ (hJ := Fit.sub)
   refine D.r 2 rfl (Runs.fieldAddr fld38_1 rfl) ?_ (hJ := Fit.sub)
   refine D.r 3 rfl (Runs.ld ty3) ?_ (hJ := Fit.sub)
   refine D.r 5 rfl (Runs.move rfl) ?_ (hJ := Fit.sub)
   refine D.r 7 rfl (Runs.fieldAddr fld38_0 rfl) ?_ (hJ := Fit.sub)
   refine D.r 8 rfl (Runs.ld ty3) ?_ (hJ := Fit.sub)
   refine D.r 9 rfl (Runs.fieldAddr fld38_1 rfl) ?_ (hJ := Fit.sub)
   refine D.r 10 rfl (Runs.ld ty3) ?_ (hJ := Fit.sub)
   refine D.r 12 rfl (Runs.move rfl) ?_ (hJ := Fit.sub)
   refine D.step (rs := [4, 11]) (by kernel_rfl) rfl rfl (all2 ?_ (all1 ?_))
   ·refine Step.eff rfl (Wanted.plain rfl) (Eff.bs (α := Int) (cs := [_, _]) (xs := [e.u, e.v]) Tryd.underlying22 ty3 rfl rfl (by decide) (by decide) rfl rfl rfl rfl) ?_
    rintro _ _ ⟨ad8, rfl, rfl⟩
    refine ⟨Fit.sub, ?_⟩
    refine D.step (rs := [6, 11]) (by kernel_rfl) rfl rfl (all2 ?_ (all1 ?_))
    ·refine Step.eff rfl (Wanted.plain rfl) (Eff.call call46 rfl rfl (Minus_ok Sl.o Sl.o (by first | omega | (simp only [List.length_cons, List.length_nil]; omega)))) ?_
     rintro _ _ ⟨_, _, ⟨ad9, cp10, rfl, rfl⟩, rfl, rfl⟩
     refine ⟨Fit.sub, ?_⟩
     refine D.step (rs := [11]) (by kernel_rfl) rfl rfl (all1 ?_)
     refine Step.eff rfl (Wanted.plain rfl) (Eff.bs (α := Int) (cs := [_, _]) (xs := [f.u, f.v]) Tryd.underlying22 ty3 rfl rfl (by decide) (by decide) rfl rfl rfl rfl) ?_
     rintro _ _ ⟨ad11, rfl, rfl⟩
     refine ⟨Fit.sub, ?_⟩
     refine D.step (rs := [13]) (by kernel_rfl) rfl rfl (all1 ?_)
     refine Step.eff rfl (Wanted.plain rfl) (Eff.call call46 rfl rfl (Minus_ok Sl.o Sl.o (by first | omega | (simp only [List.length_cons, List.length_nil]; omega)))) ?_
     rintro _ _ ⟨_, _, ⟨ad12, cp13, rfl, rfl⟩, rfl, rfl⟩
     refine ⟨Fit.sub, ?_⟩
     refine D.r 14 rfl (Runs.assign rfl) ?_ (hJ := Fit.sub)
     refine D.r 15 rfl (Runs.assign rfl) ?_ (hJ := Fit.sub)
     refine D.done (by kernel_rfl) ?_
     exact V.mid ((ad9), (cp10), (ad12), (cp13)) (show True from trivial) (Sub.cons rfl (Sub.cons rfl (Sub.cons (lookV rfl (by first | rfl | simp)) (Sub.cons (lookV rfl (by first | rfl | simp)) Sub.nil)))) (show Fit κ _ (vc 3 (.slice (ad9) (minusL [e.u, e.v] (meetL [e.u, e.v] [f.u, f.v])).length (cp10)) ((minusL [e.u, e.v] (meetL [e.u, e.v] [f.u, f.v]))) :: vc 3 (.slice (ad12) (minusL [f.u, f.v] (meetL [e.u, e.v] [f.u, f.v])).length (cp13)) ((minusL [f.u, f.v] (meetL [e.u, e.v] [f.u, f.v]))) :: vc 3 (.slice ad6 (meetL ([e.u, e.v] : List Int) ([f.u, f.v] : List Int)).length cp7) (meetL ([e.u, e.v] : List Int) ([f.u, f.v] : List Int)) :: blk b3 [I64 (f.u), I64 (f.v)] 38 :: blk b2 [I64 (e.u), I64 (e.v)] 38 :: blk b1 [I64 (nd), va] 25 :: I) from (by first | exact Fit.s | exact Fit.sub))
    ·refine Step.eff rfl (Wanted.plain rfl) (Eff.bs (α := Int) (cs := [_, _]) (xs := [f.u, f.v]) Tryd.underlying22 ty3 rfl rfl (by decide) (by decide) rfl rfl rfl rfl) ?_
     rintro _ _ ⟨ad14, rfl, rfl⟩
     refine ⟨Fit.sub, ?_⟩
     refine D.step (rs := [6]) (by kernel_rfl) rfl rfl (all1 ?_)
     refine Step.eff rfl (Wanted.plain rfl) (Eff.call call46 rfl rfl (Minus_ok Sl.o Sl.o (by first | omega | (simp only [List.length_cons, List.length_nil]; omega)))) ?_
     rintro _ _ ⟨_, _, ⟨ad15, cp16, rfl, rfl⟩, rfl, rfl⟩
     refine ⟨Fit.sub, ?_⟩
     refine D.step (rs := [13]) (by kernel_rfl) rfl rfl (all1 ?_)
     refine Step.eff rfl (Wanted.plain rfl) (Eff.call call46 rfl rfl (Minus_ok Sl.o Sl.o (by first | omega | (simp only [List.length_cons, List.length_nil]; omega)))) ?_
     rintro _ _ ⟨_, _, ⟨ad17, cp18, rfl, rfl⟩, rfl, rfl⟩
     refine ⟨Fit.sub, ?_⟩
     refine D.r 14 rfl (Runs.assign rfl) ?_ (hJ := Fit.sub)
     refine D.r 15 rfl (Runs.assign rfl) ?_ (hJ := Fit.sub)
     refine D.done (by kernel_rfl) ?_
     exact V.mid ((ad15), (cp16), (ad17), (cp18)) (show True from trivial) (Sub.cons rfl (Sub.cons rfl (Sub.cons (lookV rfl (by first | rfl | simp)) (Sub.cons (lookV rfl (by first | rfl | simp)) Sub.nil)))) (show Fit κ _ (vc 3 (.slice (ad15) (minusL [e.u, e.v] (meetL [e.u, e.v] [f.u, f.v])).length (cp16)) ((minusL [e.u, e.v] (meetL [e.u, e.v] [f.u, f.v]))) :: vc 3 (.slice (ad17) (minusL [f.u, f.v] (meetL [e.u, e.v] [f.u, f.v])).length (cp18)) ((minusL [f.u, f.v] (meetL [e.u, e.v] [f.u, f.v]))) :: vc 3 (.slice ad6 (meetL ([e.u, e.v] : List Int) ([f.u, f.v] : List Int)).length cp7) (meetL ([e.u, e.v] : List Int) ([f.u, f.v] : List Int)) :: blk b3 [I64 (f.u), I64 (f.v)] 38 :: blk b2 [I64 (e.u), I64 (e.v)] 38 :: blk b1 [I64 (nd), va] 25 :: I) from (by first | exact Fit.s | exact Fit.sub))
   ·refine Step.eff rfl (Wanted.plain rfl) (Eff.bs (α := Int) (cs := [_, _]) (xs := [f.u, f.v]) Tryd.underlying22 ty3 rfl rfl (by decide) (by decide) rfl rfl rfl rfl) ?_
    rintro _ _ ⟨ad19, rfl, rfl⟩
    refine ⟨Fit.sub, ?_⟩
    refine D.step (rs := [4]) (by kernel_rfl) rfl rfl (all1 ?_)
    refine Step.eff rfl (Wanted.plain rfl) (Eff.bs (α := Int) (cs := [_, _]) (xs := [e.u, e.v]) Tryd.underlying22 ty3 rfl rfl (by decide) (by decide) rfl rfl rfl rfl) ?_
    rintro _ _ ⟨ad20, rfl, rfl⟩
    refine ⟨Fit.sub, ?_⟩
    refine D.step (rs := [6]) (by kernel_rfl) rfl rfl (all1 ?_)
    refine Step.eff rfl (Wanted.plain rfl) (Eff.call call46 rfl rfl (Minus_ok Sl.o Sl.o (by first | omega | (simp only [List.length_cons, List.length_nil]; omega)))) ?_
    rintro _ _ ⟨_, _, ⟨ad21, cp22, rfl, rfl⟩, rfl, rfl⟩
    refine ⟨Fit.sub, ?_⟩
    refine D.step (rs := [13]) (by kernel_rfl) rfl rfl (all1 ?_)
    refine Step.eff rfl (Wanted.plain rfl) (Eff.call call46 rfl rfl (Minus_ok Sl.o Sl.o (by first | omega | (simp only [List.length_cons, List.length_nil]; omega)))) ?_
    rintro _ _ ⟨_, _, ⟨ad23, cp24, rfl, rfl⟩, rfl, rfl⟩
    refine ⟨Fit.sub, ?_⟩
    refine D.r 14 rfl (Runs.assign rfl) ?_ (hJ := Fit.sub)
    refine D.r 15 rfl (Runs.assign rfl) ?_ (hJ := Fit.sub)
    refine D.done (by kernel_rfl) ?_
    exact V.mid ((ad21), (cp22), (ad23), (cp24)) (show True from trivial) (Sub.cons rfl (Sub.cons rfl (Sub.cons (lookV rfl (by first | rfl | simp)) (Sub.cons (lookV rfl (by first | rfl | simp)) Sub.nil)))) (show Fit κ _ (vc 3 (.slice (ad21) (minusL [e.u, e.v] (meetL [e.u, e.v] [f.u, f.v])).length (cp22)) ((minusL [e.u, e.v] (meetL [e.u, e.v] [f.u, f.v]))) :: vc 3 (.slice (ad23) (minusL [f.u, f.v] (meetL [e.u, e.v] [f.u, f.v])).length (cp24)) ((minusL [f.u, f.v] (meetL [e.u, e.v] [f.u, f.v]))) :: vc 3 (.slice ad6 (meetL ([e.u, e.v] : List Int) ([f.u, f.v] : List Int)).length cp7) (meetL ([e.u, e.v] : List Int) ([f.u, f.v] : List Int)) :: blk b3 [I64 (f.u), I64 (f.v)] 38 :: blk b2 [I64 (e.u), I64 (e.v)] 38 :: blk b1 [I64 (nd), va] 25 :: I) from (by first | exact Fit.s | exact Fit.sub))
  ·rintro ⟨xa, xc, ya, yc⟩ hp
   show W Tryd.prog κ 50 _ _ ([(3, .pointer (some ⟨b1, 0, none⟩)), (7, .slice ad6 (meetL ([e.u, e.v] : List Int) ([f.u, f.v] : List Int)).length cp7), (8, .slice xa (minusL [e.u, e.v] (meetL [e.u, e.v] [f.u, f.v])).length xc), (9, .slice ya (minusL [f.u, f.v] (meetL [e.u, e.v] [f.u, f.v])).length yc)] : Env) (vc 3 (.slice xa (minusL [e.u, e.v] (meetL [e.u, e.v] [f.u, f.v])).length xc) ((minusL [e.u, e.v] (meetL [e.u, e.v] [f.u, f.v]))) :: vc 3 (.slice ya (minusL [f.u, f.v] (meetL [e.u, e.v] [f.u, f.v])).length yc) ((minusL [f.u, f.v] (meetL [e.u, e.v] [f.u, f.v]))) :: vc 3 (.slice ad6 (meetL ([e.u, e.v] : List Int) ([f.u, f.v] : List Int)).length cp7) (meetL ([e.u, e.v] : List Int) ([f.u, f.v] : List Int)) :: blk b3 [I64 (f.u), I64 (f.v)] 38 :: blk b2 [I64 (e.u), I64 (e.v)] 38 :: blk b1 [I64 (nd), va] 25 :: I)
   refine W.seq ?_
   refine W.drawn mixed ?_
   refine A.hold (vc 3 (.slice xa (minusL [e.u, e.v] (meetL [e.u, e.v] [f.u, f.v])).length xc) ((minusL [e.u, e.v] (meetL [e.u, e.v] [f.u, f.v]))) :: vc 3 (.slice ya (minusL [f.u, f.v] (meetL [e.u, e.v] [f.u, f.v])).length yc) ((minusL [f.u, f.v] (meetL [e.u, e.v] [f.u, f.v]))) :: vc 3 (.slice ad6 (meetL ([e.u, e.v] : List Int) ([f.u, f.v] : List Int)).length cp7) (meetL ([e.u, e.v] : List Int) ([f.u, f.v] : List Int)) :: blk b3 [I64 (f.u), I64 (f.v)] 38 :: blk b2 [I64 (e.u), I64 (e.v)] 38 :: blk b1 [I64 (nd), va] 25 :: I) 13 ?_
   refine D.r 0 rfl (Runs.lds (vs := [_, _]) ty25) ?_ (hJ := Fit.sub)
   refine D.r 1 rfl (Runs.move rfl) ?_ (hJ := Fit.sub)
   refine D.r 2 rfl (Runs.fieldAddr fld25_0 rfl) ?_ (hJ := Fit.sub)
   refine D.r 3 rfl (Runs.ld ty3) ?_ (hJ := Fit.sub)
   refine D.r 5 rfl (Runs.move rfl) ?_ (hJ := Fit.sub)
   refine D.r 8 rfl (Runs.move rfl) ?_ (hJ := Fit.sub)
   refine D.r 9 rfl (Runs.idx (α := Int) (xs := (minusL [f.u, f.v] (meetL [e.u, e.v] [f.u, f.v]))) Tryd.underlying22 ty3 rfl rfl Sl.o (by omega) (by have := join_len (e := e) (f := f) (by unfold bothL; omega) hfe; unfold bothL at this; omega)) ?_ (hJ := Fit.sub)
   refine D.r 10 rfl (Runs.get (xs := (minusL [f.u, f.v] (meetL [e.u, e.v] [f.u, f.v]))) ty3 rfl Sl.o (by omega) (by have := join_len (e := e) (f := f) (by unfold bothL; omega) hfe; unfold bothL at this; omega)) ?_ (hJ := Fit.sub)
   refine D.step (rs := [4]) (by kernel_rfl) rfl rfl (all1 ?_)
   refine Step.eff rfl (Wanted.plain rfl) (Eff.call call29 rfl rfl (Range_ok nd)) ?_
   rintro _ _ ⟨_, _, ⟨ad25, cp26, rfl, rfl⟩, rfl, rfl⟩
   refine ⟨Fit.sub, ?_⟩
   refine D.step (rs := [6]) (by kernel_rfl) rfl rfl (all1 ?_)
   refine Step.eff rfl (Wanted.plain rfl) (Eff.call call46 rfl rfl (Minus_ok Sl.o Sl.o (by first | omega | (simp only [List.length_cons, List.length_nil]; omega)))) ?_
   rintro _ _ ⟨_, _, ⟨ad27, cp28, rfl, rfl⟩, rfl, rfl⟩
   refine ⟨Fit.sub, ?_⟩
   refine D.step (rs := [7]) (by kernel_rfl) rfl rfl (all1 ?_)
   refine Step.eff rfl (Wanted.plain rfl) (Eff.call call83 rfl rfl (Reach15_ok (nd := nd) (Sl.f hl) Sl.o Sl.o hG (fun x hx => by have := mem_rangeI.1 (mem_minusL.1 hx).1; omega) (by omega) (by have := List.length_filter_le (fun x => decide (x ∉ meetL [e.u, e.v] [f.u, f.v])) (ofL [e.u, e.v]); have := ofL_len [e.u, e.v]; unfold minusL; simp only [List.length_cons, List.length_nil] at *; omega))) ?_
   rintro _ _ ⟨_, _, ⟨ad29, cp30, rfl, rfl⟩, rfl, rfl⟩
   refine ⟨Fit.sub, ?_⟩
   refine D.step (rs := [11]) (by kernel_rfl) rfl rfl (all1 ?_)
   refine Step.eff rfl (Wanted.plain rfl) (Eff.call call19 rfl rfl (RHas_ok Sl.o (at_ (minusL [f.u, f.v] (meetL [e.u, e.v] [f.u, f.v])) 0))) ?_
   rintro _ _ ⟨_, _, ⟨rfl, rfl⟩, rfl, rfl⟩
   refine ⟨Fit.sub, ?_⟩
   refine D.r 12 rfl (Runs.assign rfl) ?_ (hJ := Fit.sub)
   refine D.done (by kernel_rfl) ?_
   refine V.then ?_
   refine W.sub (L' := [(6, _)]) (Sub.cons rfl Sub.nil) ?_
   refine W.ret ?_
   exact V.ret1 rfl rfl (I) Fit.m ⟨by unfold joinF bothL; rw [if_neg (by omega)], rfl⟩

theorem grp_start {nd : Int} {es : List Pt} {gs : List Int} (hl : gs.length = es.length) (h : ∀ j : Nat, j < es.length → at_ gs (j : Int) = j) : GrpI nd es gs := ⟨hl, fun k hk => by rw [h k hk]; omega, fun k hk => by rw [h k hk]; exact .refl _⟩

set_option maxHeartbeats 1000000 in
theorem Blocks15_ok {κ : Ctx} {I : List Item} {nd : Int} {va : Value} {es : List Pt} (hl : Sl κ I va es) (hb : es.length ≤ 10000) :
    CallS Tryd.prog κ 37 [.agg #[I64 (nd), va]] I (fun r J => ∃ a c rs, r = .tuple #[.slice a rs.length c, I64 (checkG nd es)] ∧ rs.map RowG.xs = blksG nd es ∧ J = vc 23 (.slice a rs.length c) rs :: (ownR 38 rs ++ I)) := by
 refine CallS.enter (L := [(0, .agg #[I64 (nd), va])]) Tryd.func37 rfl rfl rfl rfl ?_
 refine W.sr ?_
 refine G.e (Eff.box (cs := [_, _]) rfl rfl rfl) ?_
 rintro _ _ ⟨b1, rfl, rfl⟩
 refine G.r (Runs.assign rfl) ?_
 refine G.r (Runs.assign rfl) ?_
 refine G.nt ?_
 refine W.seq ?_
 refine W.sr ?_
 refine G.r (Runs.lds (vs := [_, _]) ty25) ?_
 refine G.e (Eff.call call70 rfl rfl (Check03G_ok (nd := nd) (Sl.f hl))) ?_
 rintro _ _ ⟨_, _, ⟨rfl, rfl⟩, rfl, rfl⟩
 refine G.r (Runs.assign rfl) ?_
 refine G.nt ?_
 refine W.sr ?_
 refine G.r (Runs.move rfl) ?_
 refine G.r (Runs.neq rfl rfl) ?_
 refine G.nt ?_
 refine W.ite rfl (fun c18 => ?_) (fun c18 => ?_)
 ·refine W.sr ?_
  refine G.r (Runs.move rfl) ?_
  refine G.r (Runs.assign rfl) ?_
  refine G.r (Runs.assign rfl) ?_
  refine G.nt ?_
  refine W.ret ?_
  refine V.then_ret ?_
  have hX : blksG nd es = [] := if_pos c18
  exact V.ret2 rfl rfl rfl (vc 23 (.slice none ([] : List (RowG Pt)).length 0) ([] : List (RowG Pt)) :: (ownR 38 ([] : List (RowG Pt)) ++ I)) (Fit.trans (show Fit κ _ I from Fit.m) (Fit.nilvc (α := RowG Pt) _ _)) ⟨none, 0, [], rfl, by rw [hX]; rfl, rfl⟩
 ·refine W.skip ?_
  refine V.then ?_
  refine W.sr ?_
  refine G.r (Runs.fieldAddr fld25_1 rfl) ?_
  have hG := (checkG_ok.1 (Classical.not_not.1 c18))
  refine G.r (Runs.ld ty23) ?_
  refine G.r (Runs.lenT (α := Pt) (xs := es) Tryd.underlying23 rfl (Sl.f hl)) ?_
  refine G.e (Eff.make (α := Int) (n := es.length) Tryd.underlying22 ty3 rfl rfl rfl (by omega) (by omega) (by decide) rfl) ?_
  rintro _ _ ⟨ad2, cp3, rfl, rfl⟩
  refine G.r (Runs.assign rfl) ?_
  have hrep : (List.replicate es.length (default : Int)).length = es.length := List.length_replicate
  refine G.nt ?_
  refine W.sub (L' := [(5, _), (1, _)]) (Sub.cons rfl (Sub.cons rfl Sub.nil)) ?_
  refine W.seq ?_
  refine W.sr ?_
  refine G.r (Runs.move rfl) ?_
  refine G.r (Runs.lens Tryd.underlying22 rfl) ?_
  refine G.r (Runs.move rfl) ?_
  refine G.nt ?_
  refine W.block ?_
  refine W.loop (σ := Nat × (List Int)) (fun s => ([(1, .pointer (some ⟨b1, 0, none⟩)), (5, .slice ad2 (List.replicate es.length (default : Int)).length cp3), (25, I64 ((((List.replicate es.length (default : Int)).length : Nat) : Int))), (26, I64 (((s.1 : Nat) : Int)))] : Env)) (fun s => vc 3 (.slice ad2 (List.replicate es.length (default : Int)).length cp3) (s.2) :: blk b1 [I64 (nd), va] 25 :: I) (fun s => (s.1 ≤ es.length) ∧ (s.2.length = es.length) ∧ (∀ j : Nat, j < s.1 → at_ s.2 (j : Int) = j)) (fun s => es.length - s.1) (0, List.replicate es.length (default : Int)) (show ((0 : Nat) ≤ es.length) ∧ ((List.replicate es.length (default : Int) : List Int).length = es.length) ∧ (∀ j : Nat, j < (0 : Nat) → at_ (List.replicate es.length (default : Int) : List Int) (j : Int) = j) from ⟨(by omega), (by simp), (fun j hj => absurd hj (Nat.not_lt_zero j))⟩) (Sub.cons rfl (Sub.cons rfl (Sub.cons rfl (Sub.cons lookO Sub.nil)))) (show Fit κ _ (vc 3 (.slice ad2 (List.replicate es.length (default : Int)).length cp3) ((List.replicate es.length (default : Int))) :: blk b1 [I64 (nd), va] 25 :: I) from Fit.sub) ?_
  rintro ⟨k, gs0⟩ hp
  obtain ⟨hk, hl0, h0⟩ : (k ≤ es.length) ∧ (gs0.length = es.length) ∧ (∀ j : Nat, j < k → at_ gs0 (j : Int) = j) := hp
  show W Tryd.prog κ 113 _ _ ([(1, .pointer (some ⟨b1, 0, none⟩)), (5, .slice ad2 (List.replicate es.length (default : Int)).length cp3), (25, I64 ((((List.replicate es.length (default : Int)).length : Nat) : Int))), (26, I64 (((k : Nat) : Int)))] : Env) (vc 3 (.slice ad2 (List.replicate es.length (default : Int)).length cp3) (gs0) :: blk b1 [I64 (nd), va] 25 :: I)
  refine W.sr ?_
  refine G.r (Runs.lss rfl rfl) ?_
  refine G.nt ?_
  refine W.seq ?_
  refine W.ite rfl (fun c27 => ?_) (fun c27 => ?_)
  ·refine W.skip ?_
   refine V.then ?_
   refine W.seq ?_
   refine W.block ?_
   refine W.sr ?_
   refine G.r (Runs.move rfl) ?_
   refine G.r (Runs.assign rfl) ?_
   refine G.nt ?_
   refine W.region ?_
   refine G.r (Runs.move rfl) ?_
   refine G.r (Runs.move rfl) ?_
   refine G.r (Runs.move rfl) ?_
   refine G.r (Runs.idx (α := Int) (xs := gs0) Tryd.underlying22 ty3 rfl rfl Sl.o (by omega) (by first | omega | (rw [List.length_replicate]; omega))) ?_
   refine G.e (Eff.set (α := Int) (xs := gs0) (e := 3) (new := ((k : Nat) : Int)) ty3 rfl rfl rfl (by omega) (by first | omega | (rw [List.length_replicate]; omega)) (by repeat (first | exact At.head _ _ _ | apply At.tail))) ?_
   rintro _ _ ⟨rfl, rfl⟩
   refine G.nil ?_
   refine V.block_normal ?_
   refine V.then ?_
   refine W.region ?_
   refine G.r (Runs.add rfl rfl (by unfold InR; omega)) ?_
   refine G.r (Runs.move rfl) ?_
   refine G.nil ?_
   exact V.next ((k + 1), (List.set gs0 (((k : Nat) : Int)).toNat (((k : Nat) : Int)))) (show ((k + 1 : Nat) ≤ es.length) ∧ ((List.set gs0 (((k : Nat) : Int)).toNat (((k : Nat) : Int)) : List Int).length = es.length) ∧ (∀ j : Nat, j < (k + 1 : Nat) → at_ (List.set gs0 (((k : Nat) : Int)).toNat (((k : Nat) : Int)) : List Int) (j : Int) = j) from ⟨(by omega), (by rw [List.length_set]; exact hl0), (fun j hj => by rw [at_set _ _ _ _ (by omega) (by omega) (by omega)]; split <;> first | omega | exact h0 j (by omega))⟩) (show es.length - (k + 1 : Nat) < es.length - k from (by omega)) (Sub.cons rfl (Sub.cons rfl (Sub.cons rfl (Sub.cons lookO Sub.nil)))) (show Fit κ _ (vc 3 (.slice ad2 (List.replicate es.length (default : Int)).length cp3) ((List.set gs0 (((k : Nat) : Int)).toNat (((k : Nat) : Int)))) :: blk b1 [I64 (nd), va] 25 :: I) from Fit.sub)
  ·refine W.exit ?_
   refine V.then_exit ?_
   refine V.then_exit ?_
   refine V.block_hit ?_
   refine V.then ?_
   refine W.seq ?_
   refine W.sr ?_
   refine G.r (Runs.assign rfl) ?_
   refine G.nt ?_
   refine W.block ?_
   refine W.loop (σ := Bool × (List Int)) (fun s => ([(1, .pointer (some ⟨b1, 0, none⟩)), (5, .slice ad2 (List.replicate es.length (default : Int)).length cp3), (7, .bool (s.1))] : Env)) (fun s => vc 3 (.slice ad2 (List.replicate es.length (default : Int)).length cp3) (s.2) :: blk b1 [I64 (nd), va] 25 :: I) (fun s => (GrpI nd es s.2) ∧ (s.1 = false → FixG nd es s.2)) (fun s => 2 * gsum s.2 + s.1.toNat) (true, gs0) (show (GrpI nd es (gs0 : List Int)) ∧ ((true : Bool) = false → FixG nd es (gs0 : List Int)) from ⟨(grp_start hl0 fun j hj => h0 j (by omega)), (fun h => by cases h)⟩) (Sub.cons rfl (Sub.cons rfl (Sub.cons (lookV rfl (by first | rfl | simp)) Sub.nil))) (show Fit κ _ (vc 3 (.slice ad2 (List.replicate es.length (default : Int)).length cp3) ((gs0)) :: blk b1 [I64 (nd), va] 25 :: I) from Fit.sub) ?_
   rintro ⟨again, gs⟩ hp
   obtain ⟨hI, hF⟩ : (GrpI nd es gs) ∧ (again = false → FixG nd es gs) := hp
   show W Tryd.prog κ 113 _ _ ([(1, .pointer (some ⟨b1, 0, none⟩)), (5, .slice ad2 (List.replicate es.length (default : Int)).length cp3), (7, .bool (again))] : Env) (vc 3 (.slice ad2 (List.replicate es.length (default : Int)).length cp3) (gs) :: blk b1 [I64 (nd), va] 25 :: I)
   have hgl := hI.len
   refine W.seq ?_
   refine W.sr ?_
   refine G.r (Runs.move rfl) ?_
   refine G.nt ?_
   refine W.cond rfl (fun c34 => ?_) (fun c34 => ?_)
   ·refine W.skip ?_
    refine V.then ?_
    refine W.block ?_
    refine W.sr ?_
    refine G.r (Runs.assign rfl) ?_
    refine G.nt ?_
    refine W.sr ?_
    refine G.r (Runs.fieldAddr fld25_1 rfl) ?_
    refine G.r (Runs.ld ty23) ?_
    refine G.r (Runs.lenT (α := Pt) (xs := es) Tryd.underlying23 rfl (Sl.f hl)) ?_
    refine G.r (Runs.move rfl) ?_
    refine G.nt ?_
    refine W.block ?_
    refine W.loop (σ := Nat × Bool × (List Int)) (fun s => ([(1, .pointer (some ⟨b1, 0, none⟩)), (5, .slice ad2 (List.replicate es.length (default : Int)).length cp3), (7, .bool (s.2.1)), (37, I64 (((es.length : Nat) : Int))), (38, I64 (((s.1 : Nat) : Int)))] : Env)) (fun s => vc 3 (.slice ad2 (List.replicate es.length (default : Int)).length cp3) (s.2.2) :: blk b1 [I64 (nd), va] 25 :: I) (fun s => (s.1 ≤ es.length) ∧ (GrpI nd es s.2.2) ∧ (PassG nd es gs s.2.2 s.2.1 s.1 0)) (fun s => es.length - s.1) (0, false, gs) (show ((0 : Nat) ≤ es.length) ∧ (GrpI nd es (gs : List Int)) ∧ (PassG nd es gs (gs : List Int) (false : Bool) (0 : Nat) 0) from ⟨(by omega), hI, .start⟩) (Sub.cons rfl (Sub.cons rfl (Sub.cons (lookV rfl (by first | rfl | simp)) (Sub.cons rfl (Sub.cons lookO Sub.nil))))) (show Fit κ _ (vc 3 (.slice ad2 (List.replicate es.length (default : Int)).length cp3) ((gs)) :: blk b1 [I64 (nd), va] 25 :: I) from Fit.sub) ?_
    rintro ⟨i, ag, gs1⟩ hp
    obtain ⟨hi, hI1, hA⟩ : (i ≤ es.length) ∧ (GrpI nd es gs1) ∧ (PassG nd es gs gs1 ag i 0) := hp
    show W Tryd.prog κ 113 _ _ ([(1, .pointer (some ⟨b1, 0, none⟩)), (5, .slice ad2 (List.replicate es.length (default : Int)).length cp3), (7, .bool (ag)), (37, I64 (((es.length : Nat) : Int))), (38, I64 (((i : Nat) : Int)))] : Env) (vc 3 (.slice ad2 (List.replicate es.length (default : Int)).length cp3) (gs1) :: blk b1 [I64 (nd), va] 25 :: I)
    have hgl1 := hI1.len
    refine W.sr ?_
    refine G.r (Runs.lss rfl rfl) ?_
    refine G.nt ?_
    refine W.seq ?_
    refine W.ite rfl (fun c39 => ?_) (fun c39 => ?_)
    ·refine W.skip ?_
     refine V.then ?_
     refine W.seq ?_
     refine W.block ?_
     refine W.sr ?_
     refine G.r (Runs.move rfl) ?_
     refine G.r (Runs.assign rfl) ?_
     refine G.nt ?_
     refine W.sr ?_
     refine G.r (Runs.fieldAddr fld25_1 rfl) ?_
     refine G.r (Runs.ld ty23) ?_
     refine G.r (Runs.lenT (α := Pt) (xs := es) Tryd.underlying23 rfl (Sl.f hl)) ?_
     refine G.r (Runs.move rfl) ?_
     refine G.nt ?_
     refine W.block ?_
     refine W.loop (σ := Nat × Bool × (List Int)) (fun s => ([(1, .pointer (some ⟨b1, 0, none⟩)), (5, .slice ad2 (List.replicate es.length (default : Int)).length cp3), (7, .bool (s.2.1)), (8, I64 (((i : Nat) : Int))), (37, I64 (((es.length : Nat) : Int))), (38, I64 (((i : Nat) : Int))), (43, I64 (((es.length : Nat) : Int))), (44, I64 (((s.1 : Nat) : Int)))] : Env)) (fun s => vc 3 (.slice ad2 (List.replicate es.length (default : Int)).length cp3) (s.2.2) :: blk b1 [I64 (nd), va] 25 :: I) (fun s => (s.1 ≤ es.length) ∧ (GrpI nd es s.2.2) ∧ (PassG nd es gs s.2.2 s.2.1 i s.1)) (fun s => es.length - s.1) (0, ag, gs1) (show ((0 : Nat) ≤ es.length) ∧ (GrpI nd es (gs1 : List Int)) ∧ (PassG nd es gs (gs1 : List Int) (ag : Bool) i (0 : Nat)) from ⟨(by omega), hI1, hA⟩) (Sub.cons rfl (Sub.cons rfl (Sub.cons (lookV rfl (by first | rfl | simp)) (Sub.cons rfl (Sub.cons rfl (Sub.cons rfl (Sub.cons rfl (Sub.cons lookO Sub.nil)))))))) (show Fit κ _ (vc 3 (.slice ad2 (List.replicate es.length (default : Int)).length cp3) ((gs1)) :: blk b1 [I64 (nd), va] 25 :: I) from Fit.sub) ?_
     rintro ⟨k, ag2, gs2⟩ hp
     obtain ⟨hk2, hI2, hA2⟩ : (k ≤ es.length) ∧ (GrpI nd es gs2) ∧ (PassG nd es gs gs2 ag2 i k) := hp
     show W Tryd.prog κ 113 _ _ ([(1, .pointer (some ⟨b1, 0, none⟩)), (5, .slice ad2 (List.replicate es.length (default : Int)).length cp3), (7, .bool (ag2)), (8, I64 (((i : Nat) : Int))), (37, I64 (((es.length : Nat) : Int))), (38, I64 (((i : Nat) : Int))), (43, I64 (((es.length : Nat) : Int))), (44, I64 (((k : Nat) : Int)))] : Env) (vc 3 (.slice ad2 (List.replicate es.length (default : Int)).length cp3) (gs2) :: blk b1 [I64 (nd), va] 25 :: I)
     have hgl2 := hI2.len
     have hbi := hI2.bnd i (by omega)
     have hbk : k < es.length → 0 ≤ at_ gs2 (k : Int) ∧ at_ gs2 (k : Int) ≤ k := fun h => hI2.bnd k h
     refine W.sr ?_
     refine G.r (Runs.lss rfl rfl) ?_
     refine G.nt ?_
     refine W.seq ?_
     refine W.ite rfl (fun c45 => ?_) (fun c45 => ?_)
     ·refine W.skip ?_
      refine V.then ?_
      refine W.seq ?_
      refine W.block ?_
      refine W.sr ?_
      refine G.r (Runs.move rfl) ?_
      refine G.r (Runs.assign rfl) ?_
      refine G.nt ?_
      refine W.seq ?_
      refine W.drawn mixed ?_
      refine A.hold (vc 3 (.slice ad2 (List.replicate es.length (default : Int)).length cp3) (gs2) :: blk b1 [I64 (nd), va] 25 :: I) 23 ?_
      refine D.r 0 rfl (Runs.move rfl) ?_ (hJ := Fit.sub)
      refine D.r 1 rfl (Runs.move rfl) ?_ (hJ := Fit.sub)
      refine D.r 2 rfl (Runs.idx (α := Int) (xs := gs2) Tryd.underlying22 ty3 rfl rfl Sl.o (by omega) (by first | omega | (rw [List.length_replicate]; omega))) ?_ (hJ := Fit.sub)
      refine D.r 3 rfl (Runs.get (xs := gs2) ty3 rfl Sl.o (by omega) (by first | omega | (rw [List.length_replicate]; omega))) ?_ (hJ := Fit.sub)
      refine D.r 4 rfl (Runs.move rfl) ?_ (hJ := Fit.sub)
      refine D.r 5 rfl (Runs.move rfl) ?_ (hJ := Fit.sub)
      refine D.r 6 rfl (Runs.idx (α := Int) (xs := gs2) Tryd.underlying22 ty3 rfl rfl Sl.o (by omega) (by first | omega | (rw [List.length_replicate]; omega))) ?_ (hJ := Fit.sub)
      refine D.r 7 rfl (Runs.get (xs := gs2) ty3 rfl Sl.o (by omega) (by first | omega | (rw [List.length_replicate]; omega))) ?_ (hJ := Fit.sub)
      refine D.r 8 rfl (Runs.gtr rfl rfl) ?_ (hJ := Fit.sub)
      refine D.r 9 rfl (Runs.move rfl) ?_ (hJ := Fit.sub)
      refine D.split (d := 56) rfl (fun g56 => ?_) (fun g56 => ?_)
      ·refine D.read 10 rfl (by kernel_rfl) (by kernel_rfl) (by kernel_rfl) rfl (by kernel_rfl) (fun _ _ _ _ h => h) (Wanted.on rfl rfl rfl) rfl rfl Fit.sub (Runs.lds (vs := [_, _]) ty25) ?_
       refine D.read 11 rfl (by kernel_rfl) (by kernel_rfl) (by kernel_rfl) rfl (by kernel_rfl) (fun _ _ _ _ h => h) (Wanted.on rfl rfl rfl) rfl rfl Fit.sub (Runs.fieldAddr fld25_1 rfl) ?_
       refine D.read 12 rfl (by kernel_rfl) (by kernel_rfl) (by kernel_rfl) rfl (by kernel_rfl) (fun _ _ _ _ h => h) (Wanted.on rfl rfl rfl) rfl rfl Fit.sub (Runs.ld ty23) ?_
       refine D.read 13 rfl (by kernel_rfl) (by kernel_rfl) (by kernel_rfl) rfl (by kernel_rfl) (fun _ _ _ _ h => h) (Wanted.on rfl rfl rfl) rfl rfl Fit.sub (Runs.move rfl) ?_
       refine D.read 14 rfl (by kernel_rfl) (by kernel_rfl) (by kernel_rfl) rfl (by kernel_rfl) (fun _ _ _ _ h => h) (Wanted.on rfl rfl rfl) rfl rfl Fit.sub (Runs.idx (α := Pt) (xs := es) Tryd.underlying23 ty38 rfl rfl (Sl.f hl) (by omega) (by first | omega | (rw [List.length_replicate]; omega))) ?_
       refine D.read 15 rfl (by kernel_rfl) (by kernel_rfl) (by kernel_rfl) rfl (by kernel_rfl) (fun _ _ _ _ h => h) (Wanted.on rfl rfl rfl) rfl rfl Fit.sub (Runs.gets (α := Pt) (xs := es) ty38 rfl (Sl.f hl) (by omega) (by first | omega | (rw [List.length_replicate]; omega))) ?_
       refine D.read 16 rfl (by kernel_rfl) (by kernel_rfl) (by kernel_rfl) rfl (by kernel_rfl) (fun _ _ _ _ h => h) (Wanted.on rfl rfl rfl) rfl rfl Fit.sub (Runs.fieldAddr fld25_1 rfl) ?_
       refine D.read 17 rfl (by kernel_rfl) (by kernel_rfl) (by kernel_rfl) rfl (by kernel_rfl) (fun _ _ _ _ h => h) (Wanted.on rfl rfl rfl) rfl rfl Fit.sub (Runs.ld ty23) ?_
       refine D.read 18 rfl (by kernel_rfl) (by kernel_rfl) (by kernel_rfl) rfl (by kernel_rfl) (fun _ _ _ _ h => h) (Wanted.on rfl rfl rfl) rfl rfl Fit.sub (Runs.move rfl) ?_
       refine D.read 19 rfl (by kernel_rfl) (by kernel_rfl) (by kernel_rfl) rfl (by kernel_rfl) (fun _ _ _ _ h => h) (Wanted.on rfl rfl rfl) rfl rfl Fit.sub (Runs.idx (α := Pt) (xs := es) Tryd.underlying23 ty38 rfl rfl (Sl.f hl) (by omega) (by first | omega | (rw [List.length_replicate]; omega))) ?_
       refine D.read 20 rfl (by kernel_rfl) (by kernel_rfl) (by kernel_rfl) rfl (by kernel_rfl) (fun _ _ _ _ h => h) (Wanted.on rfl rfl rfl) rfl rfl Fit.sub (Runs.gets (α := Pt) (xs := es) ty38 rfl (Sl.f hl) (by omega) (by first | omega | (rw [List.length_replicate]; omega))) ?_
       refine D.step (rs := [21]) (by kernel_rfl) rfl rfl (all1 ?_)
       refine Step.eff rfl (Wanted.on rfl rfl rfl) (Eff.call call85 rfl rfl (Joined_ok (nd := nd) (e := (at_ es ((i : Nat) : Int))) (f := (at_ es ((k : Nat) : Int))) (Sl.f hl) hG (by have := hG.at (k := k) (by omega); omega) (by omega))) ?_
       rintro _ _ ⟨_, _, ⟨rfl, rfl⟩, rfl, rfl⟩
       refine ⟨Fit.sub, ?_⟩
       refine D.r 22 rfl (Runs.pickt rfl rfl) ?_ (hJ := Fit.sub)
       refine D.done (by kernel_rfl) ?_
       refine V.then ?_
       refine W.sub (L' := [(69, _), (9, _), (1, _), (5, _), (7, _), (8, _), (37, _), (38, _), (43, _), (44, _)]) (Sub.cons rfl (Sub.cons rfl (Sub.cons rfl (Sub.cons rfl (Sub.cons rfl (Sub.cons rfl (Sub.cons rfl (Sub.cons rfl (Sub.cons rfl (Sub.cons rfl Sub.nil)))))))))) ?_
       refine W.cond rfl (fun c69 => ?_) (fun c69 => ?_)
       ·refine W.region ?_
        refine G.r (Runs.move rfl) ?_
        refine G.r (Runs.move rfl) ?_
        refine G.r (Runs.move rfl) ?_
        refine G.r (Runs.move rfl) ?_
        refine G.r (Runs.idx (α := Int) (xs := gs2) Tryd.underlying22 ty3 rfl rfl Sl.o (by omega) (by first | omega | (rw [List.length_replicate]; omega))) ?_
        refine G.r (Runs.get (xs := gs2) ty3 rfl Sl.o (by omega) (by first | omega | (rw [List.length_replicate]; omega))) ?_
        refine G.r (Runs.idx (α := Int) (xs := gs2) Tryd.underlying22 ty3 rfl rfl Sl.o (by omega) (by first | omega | (rw [List.length_replicate]; omega))) ?_
        refine G.e (Eff.set (α := Int) (xs := gs2) (e := 3) (new := at_ gs2 ((i : Nat) : Int)) ty3 rfl rfl rfl (by omega) (by first | omega | (rw [List.length_replicate]; omega)) (by repeat (first | exact At.head _ _ _ | apply At.tail))) ?_
        rintro _ _ ⟨rfl, rfl⟩
        refine G.r (Runs.assign rfl) ?_
        refine G.nil ?_
        refine V.block_normal ?_
        refine V.then ?_
        refine W.sub (L' := [(7, _), (1, _), (5, _), (8, _), (37, _), (38, _), (43, _), (44, _)]) (Sub.cons rfl (Sub.cons rfl (Sub.cons rfl (Sub.cons rfl (Sub.cons rfl (Sub.cons rfl (Sub.cons rfl (Sub.cons rfl Sub.nil)))))))) ?_
        refine W.region ?_
        refine G.r (Runs.add rfl rfl (by unfold InR; omega)) ?_
        refine G.r (Runs.move rfl) ?_
        refine G.nil ?_
        exact V.next ((k + 1), (true), (List.set gs2 (((k : Nat) : Int)).toNat (at_ gs2 ((i : Nat) : Int)))) (show ((k + 1 : Nat) ≤ es.length) ∧ (GrpI nd es (List.set gs2 (((k : Nat) : Int)).toNat (at_ gs2 ((i : Nat) : Int)) : List Int)) ∧ (PassG nd es gs (List.set gs2 (((k : Nat) : Int)).toNat (at_ gs2 ((i : Nat) : Int)) : List Int) (true : Bool) i (k + 1 : Nat)) from ⟨(by omega), (hI2.set hG (by omega) (by omega) g56 c69), (hA2.put (by omega) (by omega) g56)⟩) (show es.length - (k + 1 : Nat) < es.length - k from (by omega)) (Sub.cons rfl (Sub.cons rfl (Sub.cons (lookV rfl (by first | rfl | simp)) (Sub.cons rfl (Sub.cons rfl (Sub.cons rfl (Sub.cons rfl (Sub.cons lookO Sub.nil)))))))) (show Fit κ _ (vc 3 (.slice ad2 (List.replicate es.length (default : Int)).length cp3) ((List.set gs2 (((k : Nat) : Int)).toNat (at_ gs2 ((i : Nat) : Int)))) :: blk b1 [I64 (nd), va] 25 :: I) from Fit.sub)
       ·refine W.skip ?_
        refine V.block_normal ?_
        refine V.then ?_
        refine W.region ?_
        refine G.r (Runs.add rfl rfl (by unfold InR; omega)) ?_
        refine G.r (Runs.move rfl) ?_
        refine G.nil ?_
        exact V.next ((k + 1), (ag2), (gs2)) (show ((k + 1 : Nat) ≤ es.length) ∧ (GrpI nd es (gs2 : List Int)) ∧ (PassG nd es gs (gs2 : List Int) (ag2 : Bool) i (k + 1 : Nat)) from ⟨(by omega), (by omega), (hA2.skip (fun h => by first | exact absurd h.1 g56 | (have h9 := h.2; rw [c69] at h9; cases h9)))⟩) (show es.length - (k + 1 : Nat) < es.length - k from (by omega)) (Sub.cons rfl (Sub.cons rfl (Sub.cons (lookV rfl (by first | rfl | simp)) (Sub.cons rfl (Sub.cons rfl (Sub.cons rfl (Sub.cons rfl (Sub.cons lookO Sub.nil)))))))) (show Fit κ _ (vc 3 (.slice ad2 (List.replicate es.length (default : Int)).length cp3) ((gs2)) :: blk b1 [I64 (nd), va] 25 :: I) from Fit.sub)
      ·refine D.pass 10 rfl (by kernel_rfl) (by kernel_rfl) (by kernel_rfl) rfl (by kernel_rfl) (fun _ _ _ _ h => h) (Unwanted.off rfl rfl rfl) rfl rfl Fit.sub ?_
       refine D.pass 11 rfl (by kernel_rfl) (by kernel_rfl) (by kernel_rfl) rfl (by kernel_rfl) (fun _ _ _ _ h => h) (Unwanted.off rfl rfl rfl) rfl rfl Fit.sub ?_
       refine D.pass 12 rfl (by kernel_rfl) (by kernel_rfl) (by kernel_rfl) rfl (by kernel_rfl) (fun _ _ _ _ h => h) (Unwanted.off rfl rfl rfl) rfl rfl Fit.sub ?_
       refine D.pass 13 rfl (by kernel_rfl) (by kernel_rfl) (by kernel_rfl) rfl (by kernel_rfl) (fun _ _ _ _ h => h) (Unwanted.off rfl rfl rfl) rfl rfl Fit.sub ?_
       refine D.pass 14 rfl (by kernel_rfl) (by kernel_rfl) (by kernel_rfl) rfl (by kernel_rfl) (fun _ _ _ _ h => h) (Unwanted.off rfl rfl rfl) rfl rfl Fit.sub ?_
       refine D.pass 15 rfl (by kernel_rfl) (by kernel_rfl) (by kernel_rfl) rfl (by kernel_rfl) (fun _ _ _ _ h => h) (Unwanted.off rfl rfl rfl) rfl rfl Fit.sub ?_
       refine D.pass 16 rfl (by kernel_rfl) (by kernel_rfl) (by kernel_rfl) rfl (by kernel_rfl) (fun _ _ _ _ h => h) (Unwanted.off rfl rfl rfl) rfl rfl Fit.sub ?_
       refine D.pass 17 rfl (by kernel_rfl) (by kernel_rfl) (by kernel_rfl) rfl (by kernel_rfl) (fun _ _ _ _ h => h) (Unwanted.off rfl rfl rfl) rfl rfl Fit.sub ?_
       refine D.pass 18 rfl (by kernel_rfl) (by kernel_rfl) (by kernel_rfl) rfl (by kernel_rfl) (fun _ _ _ _ h => h) (Unwanted.off rfl rfl rfl) rfl rfl Fit.sub ?_
       refine D.pass 19 rfl (by kernel_rfl) (by kernel_rfl) (by kernel_rfl) rfl (by kernel_rfl) (fun _ _ _ _ h => h) (Unwanted.off rfl rfl rfl) rfl rfl Fit.sub ?_
       refine D.pass 20 rfl (by kernel_rfl) (by kernel_rfl) (by kernel_rfl) rfl (by kernel_rfl) (fun _ _ _ _ h => h) (Unwanted.off rfl rfl rfl) rfl rfl Fit.sub ?_
       refine D.pass 21 rfl (by kernel_rfl) (by kernel_rfl) (by kernel_rfl) rfl (by kernel_rfl) (fun _ _ _ _ h => h) (Unwanted.off rfl rfl rfl) rfl rfl Fit.sub ?_
       refine D.r 22 rfl (Runs.pickf rfl rfl) ?_ (hJ := Fit.sub)
       refine D.done (by kernel_rfl) ?_
       refine V.then ?_
       refine W.sub (L' := [(69, _), (9, _), (1, _), (5, _), (7, _), (8, _), (37, _), (38, _), (43, _), (44, _)]) (Sub.cons rfl (Sub.cons rfl (Sub.cons rfl (Sub.cons rfl (Sub.cons rfl (Sub.cons rfl (Sub.cons rfl (Sub.cons rfl (Sub.cons rfl (Sub.cons rfl Sub.nil)))))))))) ?_
       refine W.no rfl ?_
       refine W.skip ?_
       refine V.block_normal ?_
       refine V.then ?_
       refine W.region ?_
       refine G.r (Runs.add rfl rfl (by unfold InR; omega)) ?_
       refine G.r (Runs.move rfl) ?_
       refine G.nil ?_
       exact V.next ((k + 1), (ag2), (gs2)) (show ((k + 1 : Nat) ≤ es.length) ∧ (GrpI nd es (gs2 : List Int)) ∧ (PassG nd es gs (gs2 : List Int) (ag2 : Bool) i (k + 1 : Nat)) from ⟨(by omega), (by omega), (hA2.skip (fun h => by first | exact absurd h.1 g56 | (have h9 := h.2; rw [c69] at h9; cases h9)))⟩) (show es.length - (k + 1 : Nat) < es.length - k from (by omega)) (Sub.cons rfl (Sub.cons rfl (Sub.cons (lookV rfl (by first | rfl | simp)) (Sub.cons rfl (Sub.cons rfl (Sub.cons rfl (Sub.cons rfl (Sub.cons lookO Sub.nil)))))))) (show Fit κ _ (vc 3 (.slice ad2 (List.replicate es.length (default : Int)).length cp3) ((gs2)) :: blk b1 [I64 (nd), va] 25 :: I) from Fit.sub)
     ·refine W.exit ?_
      refine V.then_exit ?_
      refine V.then_exit ?_
      refine V.block_hit ?_
      refine V.block_normal ?_
      refine V.then ?_
      refine W.region ?_
      refine G.r (Runs.add rfl rfl (by unfold InR; omega)) ?_
      refine G.r (Runs.move rfl) ?_
      refine G.nil ?_
      exact V.next ((i + 1), (ag2), (gs2)) (show ((i + 1 : Nat) ≤ es.length) ∧ (GrpI nd es (gs2 : List Int)) ∧ (PassG nd es gs (gs2 : List Int) (ag2 : Bool) (i + 1 : Nat) 0) from ⟨(by omega), hI2, (hA2.row (by omega))⟩) (show es.length - (i + 1 : Nat) < es.length - i from (by omega)) (Sub.cons rfl (Sub.cons rfl (Sub.cons (lookV rfl (by first | rfl | simp)) (Sub.cons rfl (Sub.cons lookO Sub.nil))))) (show Fit κ _ (vc 3 (.slice ad2 (List.replicate es.length (default : Int)).length cp3) ((gs2)) :: blk b1 [I64 (nd), va] 25 :: I) from Fit.sub)
    ·refine W.exit ?_
     refine V.then_exit ?_
     refine V.then_exit ?_
     refine V.block_hit ?_
     refine V.block_normal ?_
     exact V.next ((ag), (gs1)) (show (GrpI nd es (gs1 : List Int)) ∧ ((ag : Bool) = false → FixG nd es (gs1 : List Int)) from ⟨hI1, (hA.fix (by omega))⟩) (show 2 * gsum (gs1 : List Int) + (ag : Bool).toNat < 2 * gsum gs + again.toNat from (by have := hA.mea; rw [c34]; exact this)) (Sub.cons rfl (Sub.cons rfl (Sub.cons (lookV rfl (by first | rfl | simp)) Sub.nil))) (show Fit κ _ (vc 3 (.slice ad2 (List.replicate es.length (default : Int)).length cp3) ((gs1)) :: blk b1 [I64 (nd), va] 25 :: I) from Fit.sub)
   ·refine W.exit ?_
    refine V.then_exit ?_
    refine V.then_exit ?_
    refine V.block_hit ?_
    refine V.then ?_
    refine W.sr ?_
    refine G.r (Runs.assign rfl) ?_
    refine G.nt ?_
    refine W.seq ?_
    refine W.sr ?_
    refine G.r (Runs.fieldAddr fld25_1 rfl) ?_
    refine G.r (Runs.ld ty23) ?_
    refine G.r (Runs.lenT (α := Pt) (xs := es) Tryd.underlying23 rfl (Sl.f hl)) ?_
    refine G.r (Runs.move rfl) ?_
    refine G.nt ?_
    refine W.block ?_
    refine W.loop (σ := Nat × (Option Addr) × Nat × (List (RowG Pt))) (fun s => ([(1, .pointer (some ⟨b1, 0, none⟩)), (5, .slice ad2 (List.replicate es.length (default : Int)).length cp3), (10, .slice s.2.1 s.2.2.2.length s.2.2.1), (81, I64 (((es.length : Nat) : Int))), (82, I64 (((s.1 : Nat) : Int)))] : Env)) (fun s => vc 23 (.slice s.2.1 s.2.2.2.length s.2.2.1) (s.2.2.2) :: vc 3 (.slice ad2 (List.replicate es.length (default : Int)).length cp3) (gs) :: blk b1 [I64 (nd), va] 25 :: (ownR 38 s.2.2.2 ++ I)) (fun s => (s.1 ≤ es.length) ∧ (s.2.2.2.map RowG.xs = outG es gs s.1)) (fun s => es.length - s.1) (0, none, 0, []) (show ((0 : Nat) ≤ es.length) ∧ (([] : List (RowG Pt)).map RowG.xs = outG es gs (0 : Nat)) from ⟨(by omega), rfl⟩) (Sub.cons rfl (Sub.cons rfl (Sub.cons (lookV rfl (by first | rfl | simp)) (Sub.cons rfl (Sub.cons lookO Sub.nil))))) (show Fit κ _ (vc 23 (.slice (none) ([]).length (0)) (([])) :: vc 3 (.slice ad2 (List.replicate es.length (default : Int)).length cp3) (gs) :: blk b1 [I64 (nd), va] 25 :: (ownR 38 ([]) ++ I)) from (Fit.nilvc _ _)) ?_
    rintro ⟨i, a, c, rs⟩ hp
    obtain ⟨hi, ho⟩ : (i ≤ es.length) ∧ (rs.map RowG.xs = outG es gs i) := hp
    show W Tryd.prog κ 113 _ _ ([(1, .pointer (some ⟨b1, 0, none⟩)), (5, .slice ad2 (List.replicate es.length (default : Int)).length cp3), (10, .slice a rs.length c), (81, I64 (((es.length : Nat) : Int))), (82, I64 (((i : Nat) : Int)))] : Env) (vc 23 (.slice a rs.length c) (rs) :: vc 3 (.slice ad2 (List.replicate es.length (default : Int)).length cp3) (gs) :: blk b1 [I64 (nd), va] 25 :: (ownR 38 rs ++ I))
    have hrl0 := congrArg List.length ho
    simp only [List.length_map] at hrl0
    have hrl1 := outG_len es gs i
    refine W.sr ?_
    refine G.r (Runs.lss rfl rfl) ?_
    refine G.nt ?_
    refine W.seq ?_
    refine W.ite rfl (fun c83 => ?_) (fun c83 => ?_)
    ·refine W.skip ?_
     refine V.then ?_
     refine W.seq ?_
     refine W.block ?_
     refine W.sr ?_
     refine G.r (Runs.move rfl) ?_
     refine G.r (Runs.assign rfl) ?_
     refine G.nt ?_
     refine W.sr ?_
     refine G.r (Runs.assign rfl) ?_
     refine G.nt ?_
     refine W.seq ?_
     refine W.sr ?_
     refine G.r (Runs.fieldAddr fld25_1 rfl) ?_
     refine G.r (Runs.ld ty23) ?_
     refine G.r (Runs.lenT (α := Pt) (xs := es) Tryd.underlying23 rfl (Sl.f hl)) ?_
     refine G.r (Runs.move rfl) ?_
     refine G.nt ?_
     refine W.block ?_
     refine W.loop (σ := Nat × (Option Addr) × Nat × (List Pt)) (fun s => ([(1, .pointer (some ⟨b1, 0, none⟩)), (5, .slice ad2 (List.replicate es.length (default : Int)).length cp3), (10, .slice a rs.length c), (11, I64 (((i : Nat) : Int))), (12, .slice s.2.1 s.2.2.2.length s.2.2.1), (81, I64 (((es.length : Nat) : Int))), (82, I64 (((i : Nat) : Int))), (86, va), (87, I64 (((es.length : Nat) : Int))), (88, I64 (((s.1 : Nat) : Int)))] : Env)) (fun s => vc 38 (.slice s.2.1 s.2.2.2.length s.2.2.1) (s.2.2.2) :: vc 23 (.slice a rs.length c) (rs) :: vc 3 (.slice ad2 (List.replicate es.length (default : Int)).length cp3) (gs) :: blk b1 [I64 (nd), va] 25 :: (ownR 38 rs ++ I)) (fun s => (s.1 ≤ es.length) ∧ (s.2.2.2 = selK es gs (i : Int) s.1)) (fun s => es.length - s.1) (0, none, 0, []) (show ((0 : Nat) ≤ es.length) ∧ (([] : List Pt) = selK es gs (i : Int) (0 : Nat)) from ⟨(by omega), rfl⟩) (Sub.cons rfl (Sub.cons rfl (Sub.cons rfl (Sub.cons rfl (Sub.cons (lookV rfl (by first | rfl | simp)) (Sub.cons rfl (Sub.cons rfl (Sub.cons rfl (Sub.cons rfl (Sub.cons lookO Sub.nil)))))))))) (show Fit κ _ (vc 38 (.slice (none) ([]).length (0)) (([])) :: vc 23 (.slice a rs.length c) (rs) :: vc 3 (.slice ad2 (List.replicate es.length (default : Int)).length cp3) (gs) :: blk b1 [I64 (nd), va] 25 :: (ownR 38 rs ++ I)) from (Fit.nilvc _ _)) ?_
     rintro ⟨k, sa, sc, out⟩ hp
     obtain ⟨hk, hsel⟩ : (k ≤ es.length) ∧ (out = selK es gs (i : Int) k) := hp
     show W Tryd.prog κ 113 _ _ ([(1, .pointer (some ⟨b1, 0, none⟩)), (5, .slice ad2 (List.replicate es.length (default : Int)).length cp3), (10, .slice a rs.length c), (11, I64 (((i : Nat) : Int))), (12, .slice sa out.length sc), (81, I64 (((es.length : Nat) : Int))), (82, I64 (((i : Nat) : Int))), (86, va), (87, I64 (((es.length : Nat) : Int))), (88, I64 (((k : Nat) : Int)))] : Env) (vc 38 (.slice sa out.length sc) (out) :: vc 23 (.slice a rs.length c) (rs) :: vc 3 (.slice ad2 (List.replicate es.length (default : Int)).length cp3) (gs) :: blk b1 [I64 (nd), va] 25 :: (ownR 38 rs ++ I))
     have hol : out.length ≤ k := by rw [hsel]; exact selK_len _ _ _ _
     refine W.sr ?_
     refine G.r (Runs.lss rfl rfl) ?_
     refine G.nt ?_
     refine W.seq ?_
     refine W.ite rfl (fun c89 => ?_) (fun c89 => ?_)
     ·refine W.skip ?_
      refine V.then ?_
      refine W.seq ?_
      refine W.block ?_
      refine W.sr ?_
      refine G.r (Runs.move rfl) ?_
      refine G.r (Runs.idx (α := Pt) (xs := es) Tryd.underlying23 ty38 rfl rfl (Sl.f hl) (by omega) (by first | omega | (rw [List.length_replicate]; omega))) ?_
      refine G.r (Runs.gets (α := Pt) (xs := es) ty38 rfl (Sl.f hl) (by omega) (by first | omega | (rw [List.length_replicate]; omega))) ?_
      refine G.e (Eff.alloc ty38 rfl) ?_
      rintro _ _ ⟨b4, rfl, rfl⟩
      refine G.r (Runs.assign rfl) ?_
      refine G.e (Eff.st (cs := [_, _]) (vs := [_, _]) (cs' := [_, _]) ty38) ?_
      rintro _ _ ⟨rfl, rfl⟩
      refine G.nt ?_
      refine W.sub (L' := [(13, _), (14, _), (1, _), (5, _), (10, _), (11, _), (12, _), (81, _), (82, _), (86, _), (87, _), (88, _)]) (Sub.cons rfl (Sub.cons rfl (Sub.cons rfl (Sub.cons rfl (Sub.cons rfl (Sub.cons rfl (Sub.cons rfl (Sub.cons rfl (Sub.cons rfl (Sub.cons rfl (Sub.cons rfl (Sub.cons rfl Sub.nil)))))))))))) ?_
      refine W.sr ?_
      refine G.r (Runs.move rfl) ?_
      refine G.r (Runs.move rfl) ?_
      refine G.r (Runs.idx (α := Int) (xs := gs) Tryd.underlying22 ty3 rfl rfl Sl.o (by omega) (by first | omega | (rw [List.length_replicate]; omega))) ?_
      refine G.r (Runs.get (xs := gs) ty3 rfl Sl.o (by omega) (by first | omega | (rw [List.length_replicate]; omega))) ?_
      refine G.r (Runs.move rfl) ?_
      refine G.r (Runs.eql rfl rfl) ?_
      refine G.nt ?_
      refine W.sub (L' := [(98, _), (14, _), (1, _), (5, _), (10, _), (11, _), (12, _), (81, _), (82, _), (86, _), (87, _), (88, _)]) (Sub.cons rfl (Sub.cons rfl (Sub.cons rfl (Sub.cons rfl (Sub.cons rfl (Sub.cons rfl (Sub.cons rfl (Sub.cons rfl (Sub.cons rfl (Sub.cons rfl (Sub.cons rfl (Sub.cons rfl Sub.nil)))))))))))) ?_
      refine W.ite rfl (fun c98 => ?_) (fun c98 => ?_)
      ·refine W.region ?_
       refine G.r (Runs.move rfl) ?_
       refine G.r (Runs.lds (vs := [_, _]) ty38) ?_
       refine G.e (Eff.bs (α := Pt) (cs := [_, _]) (xs := [⟨(at_ es ((k : Nat) : Int)).u, (at_ es ((k : Nat) : Int)).v⟩]) Tryd.underlying23 ty38 rfl rfl (by decide) (by decide) rfl rfl rfl rfl) ?_
       rintro _ _ ⟨ad5, rfl, rfl⟩
       refine G.e (Eff.app (α := Pt) (e := 38) (xs := out) (ys := ([⟨(at_ es ((k : Nat) : Int)).u, (at_ es ((k : Nat) : Int)).v⟩] : List Pt)) Tryd.underlying23 ty38 rfl rfl rfl (by repeat (first | exact List.mem_cons_self | apply List.mem_cons_of_mem)) Sl.o (by simp only [List.length_cons, List.length_nil]; omega) (by decide) rfl (fun _ _ => (by repeat (first | exact At.head _ _ _ | apply At.tail)))) ?_
       rintro _ _ ⟨ad6, cp7, rfl, rfl⟩
       refine G.r (Runs.assign rfl) ?_
       refine G.nil ?_
       refine V.block_normal ?_
       refine V.then ?_
       refine W.sub (L' := [(12, _), (1, _), (5, _), (10, _), (11, _), (81, _), (82, _), (86, _), (87, _), (88, _)]) (Sub.cons rfl (Sub.cons rfl (Sub.cons rfl (Sub.cons rfl (Sub.cons rfl (Sub.cons rfl (Sub.cons rfl (Sub.cons rfl (Sub.cons rfl (Sub.cons rfl Sub.nil)))))))))) ?_
       refine W.region ?_
       refine G.r (Runs.add rfl rfl (by unfold InR; omega)) ?_
       refine G.r (Runs.move rfl) ?_
       refine G.nil ?_
       exact V.next ((k + 1), (ad6), (cp7), (out ++ ([⟨(at_ es ((k : Nat) : Int)).u, (at_ es ((k : Nat) : Int)).v⟩] : List Pt))) (show ((k + 1 : Nat) ≤ es.length) ∧ ((out ++ ([⟨(at_ es ((k : Nat) : Int)).u, (at_ es ((k : Nat) : Int)).v⟩] : List Pt) : List Pt) = selK es gs (i : Int) (k + 1 : Nat)) from ⟨(by omega), (by first | rw [selK_yes c98, ← hsel] | rw [selK_no c98, ← hsel])⟩) (show es.length - (k + 1 : Nat) < es.length - k from (by omega)) (Sub.cons rfl (Sub.cons rfl (Sub.cons rfl (Sub.cons rfl (Sub.cons (lookV rfl (by first | rfl | simp)) (Sub.cons rfl (Sub.cons rfl (Sub.cons rfl (Sub.cons rfl (Sub.cons lookO Sub.nil)))))))))) (show Fit κ _ (vc 38 (.slice (ad6) (out ++ ([⟨(at_ es ((k : Nat) : Int)).u, (at_ es ((k : Nat) : Int)).v⟩] : List Pt)).length (cp7)) ((out ++ ([⟨(at_ es ((k : Nat) : Int)).u, (at_ es ((k : Nat) : Int)).v⟩] : List Pt))) :: vc 23 (.slice a rs.length c) (rs) :: vc 3 (.slice ad2 (List.replicate es.length (default : Int)).length cp3) (gs) :: blk b1 [I64 (nd), va] 25 :: (ownR 38 rs ++ I)) from (by first | exact Fit.s | exact Fit.sub))
      ·refine W.skip ?_
       refine V.block_normal ?_
       refine V.then ?_
       refine W.region ?_
       refine G.r (Runs.add rfl rfl (by unfold InR; omega)) ?_
       refine G.r (Runs.move rfl) ?_
       refine G.nil ?_
       exact V.next ((k + 1), (sa), (sc), (out)) (show ((k + 1 : Nat) ≤ es.length) ∧ ((out : List Pt) = selK es gs (i : Int) (k + 1 : Nat)) from ⟨(by omega), (by first | rw [selK_yes c98, ← hsel] | rw [selK_no c98, ← hsel])⟩) (show es.length - (k + 1 : Nat) < es.length - k from (by omega)) (Sub.cons rfl (Sub.cons rfl (Sub.cons rfl (Sub.cons rfl (Sub.cons (lookV rfl (by first | rfl | simp)) (Sub.cons rfl (Sub.cons rfl (Sub.cons rfl (Sub.cons rfl (Sub.cons lookO Sub.nil)))))))))) (show Fit κ _ (vc 38 (.slice (sa) (out).length (sc)) ((out)) :: vc 23 (.slice a rs.length c) (rs) :: vc 3 (.slice ad2 (List.replicate es.length (default : Int)).length cp3) (gs) :: blk b1 [I64 (nd), va] 25 :: (ownR 38 rs ++ I)) from (by first | exact Fit.s | exact Fit.sub))
     ·refine W.exit ?_
      refine V.then_exit ?_
      refine V.then_exit ?_
      refine V.block_hit ?_
      refine V.then ?_
      refine W.sr ?_
      refine G.r (Runs.move rfl) ?_
      refine G.r (Runs.lens Tryd.underlying23 rfl) ?_
      refine G.r (Runs.gtr rfl rfl) ?_
      refine G.nt ?_
      refine W.sub (L' := [(106, _), (1, _), (5, _), (10, _), (12, _), (81, _), (82, _)]) (Sub.cons rfl (Sub.cons rfl (Sub.cons rfl (Sub.cons rfl (Sub.cons rfl (Sub.cons rfl (Sub.cons rfl Sub.nil))))))) ?_
      refine W.ite rfl (fun c106 => ?_) (fun c106 => ?_)
      ·refine W.region ?_
       refine G.r (Runs.move rfl) ?_
       refine G.r (Runs.move rfl) ?_
       refine G.e (Eff.bs (α := (RowG Pt)) (cs := [_]) (xs := [⟨sa, sc, out⟩]) Tryd.underlying29 ty23 rfl rfl (by decide) (by decide) rfl rfl rfl rfl) ?_
       rintro _ _ ⟨ad8, rfl, rfl⟩
       refine G.e (Eff.app (α := (RowG Pt)) (e := 23) (xs := rs) (ys := ([⟨sa, sc, out⟩] : List (RowG Pt))) Tryd.underlying29 ty23 rfl rfl rfl (by repeat (first | exact List.mem_cons_self | apply List.mem_cons_of_mem)) Sl.o (by simp only [List.length_cons, List.length_nil]; omega) (by decide) rfl (fun _ _ => (by repeat (first | exact At.head _ _ _ | apply At.tail)))) ?_
       rintro _ _ ⟨ad9, cp10, rfl, rfl⟩
       refine G.r (Runs.assign rfl) ?_
       refine G.nil ?_
       refine V.block_normal ?_
       refine V.then ?_
       refine W.region ?_
       refine G.r (Runs.add rfl rfl (by unfold InR; omega)) ?_
       refine G.r (Runs.move rfl) ?_
       refine G.nil ?_
       have selfull : out = selG es gs (i : Int) := by rw [hsel]; unfold selG; congr 1; omega
       exact V.next ((i + 1), (ad9), (cp10), (rs ++ [(⟨sa, sc, out⟩ : RowG Pt)])) (show ((i + 1 : Nat) ≤ es.length) ∧ ((rs ++ [(⟨sa, sc, out⟩ : RowG Pt)] : List (RowG Pt)).map RowG.xs = outG es gs (i + 1 : Nat)) from ⟨(by omega), (by rw [outG_yes (by rw [← selfull]; omega), List.map_append, ho, ← selfull]; rfl)⟩) (show es.length - (i + 1 : Nat) < es.length - i from (by omega)) (Sub.cons rfl (Sub.cons rfl (Sub.cons (lookV rfl (by first | rfl | simp)) (Sub.cons rfl (Sub.cons lookO Sub.nil))))) (show Fit κ _ (vc 23 (.slice (ad9) (rs ++ [(⟨sa, sc, out⟩ : RowG Pt)]).length (cp10)) ((rs ++ [(⟨sa, sc, out⟩ : RowG Pt)])) :: vc 3 (.slice ad2 (List.replicate es.length (default : Int)).length cp3) (gs) :: blk b1 [I64 (nd), va] 25 :: (ownR 38 (rs ++ [(⟨sa, sc, out⟩ : RowG Pt)]) ++ I)) from (Fit.trans (show Fit κ _ ([vc 23 (.slice ad9 (rs ++ [(⟨sa, sc, out⟩ : RowG Pt)]).length cp10) (rs ++ [(⟨sa, sc, out⟩ : RowG Pt)]), vc 3 (.slice ad2 (List.replicate es.length (default : Int)).length cp3) (gs), blk b1 [I64 (nd), va] 25] ++ vc 38 (.slice sa out.length sc) (out) :: (ownR 38 rs ++ I)) from Fit.s) (Fit.ownR_snoc (r := (⟨sa, sc, out⟩ : RowG Pt)))))
      ·refine W.skip ?_
       refine V.block_normal ?_
       refine V.then ?_
       refine W.region ?_
       refine G.r (Runs.add rfl rfl (by unfold InR; omega)) ?_
       refine G.r (Runs.move rfl) ?_
       refine G.nil ?_
       have selfull : out = selG es gs (i : Int) := by rw [hsel]; unfold selG; congr 1; omega
       exact V.next ((i + 1), (a), (c), (rs)) (show ((i + 1 : Nat) ≤ es.length) ∧ ((rs : List (RowG Pt)).map RowG.xs = outG es gs (i + 1 : Nat)) from ⟨(by omega), (by rw [outG_no (by rw [← selfull]; omega)]; exact ho)⟩) (show es.length - (i + 1 : Nat) < es.length - i from (by omega)) (Sub.cons rfl (Sub.cons rfl (Sub.cons (lookV rfl (by first | rfl | simp)) (Sub.cons rfl (Sub.cons lookO Sub.nil))))) (show Fit κ _ (vc 23 (.slice (a) (rs).length (c)) ((rs)) :: vc 3 (.slice ad2 (List.replicate es.length (default : Int)).length cp3) (gs) :: blk b1 [I64 (nd), va] 25 :: (ownR 38 (rs) ++ I)) from (by first | exact Fit.s | exact Fit.sub))
    ·refine W.exit ?_
     refine V.then_exit ?_
     refine V.then_exit ?_
     refine V.block_hit ?_
     refine V.then ?_
     refine W.sr ?_
     refine G.r (Runs.move rfl) ?_
     refine G.r (Runs.assign rfl) ?_
     refine G.r (Runs.assign rfl) ?_
     refine G.nt ?_
     refine W.ret ?_
     have hz : checkG nd es = 0 := Classical.not_not.1 c18
     have hX : rs.map RowG.xs = blksG nd es := by rw [ho, show i = es.length by omega]; exact blks_ref hG hI (hF (by simpa using c34))
     exact V.ret2 rfl rfl rfl (vc 23 (.slice a rs.length c) rs :: (ownR 38 rs ++ I)) (by first | exact Fit.s | exact Fit.sub) ⟨a, c, rs, by rw [hz], hX, rfl⟩

end Go.Sl
namespace Go.Sl
open Go.Proofs
set_option linter.unusedVariables false
set_option linter.unusedSimpArgs false
set_option maxRecDepth 4000
theorem rows_eq {α : Type} {xs ys : List (RowG α)} : xs.map RowG.xs = ys.map RowG.xs ↔ xs.length = ys.length ∧ ∀ j : Nat, j < xs.length → (at_ xs (j : Int)).xs = (at_ ys (j : Int)).xs := by
  have key : ∀ {zs : List (RowG α)} {j : Nat} (h : j < zs.length), (zs.map RowG.xs)[j]'(by simpa using h) = (at_ zs (j : Int)).xs := fun {zs j} h => by
    rw [List.getElem_map, at_nat, List.getD_eq_getElem?_getD, List.getElem?_eq_getElem h]; rfl
  constructor
  · intro h
    have hl : xs.length = ys.length := by have := congrArg List.length h; simpa using this
    refine ⟨hl, fun j hj => ?_⟩
    rw [← key hj, ← key (by omega : j < ys.length)]
    simp only [h]
  · rintro ⟨hl, h⟩
    refine List.ext_getElem (by simpa using hl) fun j h1 h2 => ?_
    rw [key (by simpa using h1), key (by simpa using h2)]
    exact h j (by simpa using h1)
def lightB (nd : Int) (es : List Pt) : Bool := decide ((es.length : Int) ≤ 30) && (decide (nd ≤ 14) || decide (checkG nd es ≠ 0))
theorem light_len {nd : Int} {es : List Pt} (h : lightB nd es = true) : es.length ≤ 30 := by
  unfold lightB at h
  rw [Bool.and_eq_true, decide_eq_true_eq] at h; omega
theorem mask_meet {nd : Int} {S : List Int} (h : 0 ≤ nd ∧ nd ≤ 64) : maskB (meetL S (rangeI nd)) = maskB S &&& allB nd := by
  refine BitVec.eq_of_getLsbD_eq fun i hi => ?_
  rw [Bool.eq_iff_iff, bit_maskB hi, set_bit h, mem_meetL, mem_rangeI]
  exact ⟨fun h => ⟨h.1, h.2.2.1⟩, fun h => ⟨h.1, by omega, h.2, by omega⟩⟩
structure PrV where
  a1 : Option Addr
  c1 : Nat
  xs1 : List Int
  a2 : Option Addr
  c2 : Nat
  xs2 : List Int
instance : Inhabited PrV := ⟨⟨none, 0, [], none, 0, []⟩⟩
instance : Enc PrV := ⟨fun r => [.slice r.a1 r.xs1.length r.c1, .slice r.a2 r.xs2.length r.c2], 2, by omega, fun _ => rfl, fun r u hu => by
  simp only [List.mem_cons, List.not_mem_nil, or_false] at hu
  rcases hu with rfl | rfl <;> rfl⟩
def HeldPr (κ : Ctx) (I : List Item) (rs : List PrV) : Prop := ∀ r ∈ rs, Sl κ I (.slice r.a1 r.xs1.length r.c1) r.xs1 ∧ Sl κ I (.slice r.a2 r.xs2.length r.c2) r.xs2
theorem HeldPr.nil {κ : Ctx} {I : List Item} : HeldPr κ I [] := fun r hr => by cases hr
theorem HeldPr.cons {κ : Ctx} {I : List Item} {r : PrV} {rs : List PrV} (h1 : Sl κ I (.slice r.a1 r.xs1.length r.c1) r.xs1) (h2 : Sl κ I (.slice r.a2 r.xs2.length r.c2) r.xs2) (h : HeldPr κ I rs) : HeldPr κ I (r :: rs) := fun x hx => by
  rcases List.mem_cons.1 hx with rfl | hx
  · exact ⟨h1, h2⟩
  · exact h x hx
theorem HeldPr.at1 {κ : Ctx} {I : List Item} {rs : List PrV} (h : HeldPr κ I rs) {i : Int} (h0 : 0 ≤ i) (hn : i < rs.length) : Sl κ I (.slice (at_ rs i).a1 (at_ rs i).xs1.length (at_ rs i).c1) (at_ rs i).xs1 := (h _ (at_mem h0 hn)).1
theorem HeldPr.at2 {κ : Ctx} {I : List Item} {rs : List PrV} (h : HeldPr κ I rs) {i : Int} (h0 : 0 ≤ i) (hn : i < rs.length) : Sl κ I (.slice (at_ rs i).a2 (at_ rs i).xs2.length (at_ rs i).c2) (at_ rs i).xs2 := (h _ (at_mem h0 hn)).2
structure GrV where
  n : Int
  a : Option Addr
  c : Nat
  xs : List Pt
instance : Inhabited GrV := ⟨⟨0, none, 0, []⟩⟩
instance : Enc GrV := ⟨fun r => [I64 r.n, .slice r.a r.xs.length r.c], 2, by omega, fun _ => rfl, fun r u hu => by
  simp only [List.mem_cons, List.not_mem_nil, or_false] at hu
  rcases hu with rfl | rfl <;> rfl⟩
def HeldGr (κ : Ctx) (I : List Item) (rs : List GrV) : Prop := ∀ r ∈ rs, Sl κ I (.slice r.a r.xs.length r.c) r.xs
theorem HeldGr.nil {κ : Ctx} {I : List Item} : HeldGr κ I [] := fun r hr => by cases hr
theorem HeldGr.cons {κ : Ctx} {I : List Item} {r : GrV} {rs : List GrV} (h1 : Sl κ I (.slice r.a r.xs.length r.c) r.xs) (h : HeldGr κ I rs) : HeldGr κ I (r :: rs) := fun x hx => by
  rcases List.mem_cons.1 hx with rfl | hx
  · exact h1
  · exact h x hx
theorem HeldGr.at {κ : Ctx} {I : List Item} {rs : List GrV} (h : HeldGr κ I rs) {i : Int} (h0 : 0 ≤ i) (hn : i < rs.length) : Sl κ I (.slice (at_ rs i).a (at_ rs i).xs.length (at_ rs i).c) (at_ rs i).xs := h _ (at_mem h0 hn)

theorem SameAll_ok {κ : Ctx} {I : List Item} {va vb : Value} {xs ys : List (RowG Int)} (hx : Sl κ I va xs) (hy : Sl κ I vb ys) (h1 : HeldAll κ I xs) (h2 : HeldAll κ I ys) :
    CallS Tryd.prog κ 38 [va, vb] I (fun r J => r = .bool (decide (xs.map RowG.xs = ys.map RowG.xs)) ∧ I = J) := by
 refine CallS.pull hx.le fun hmax => ?_
 refine CallS.enter (L := [(0, va), (1, vb)]) Tryd.func38 rfl rfl rfl rfl ?_
 refine W.sr ?_
 refine G.r (Runs.assign rfl) ?_
 refine G.nt ?_
 refine W.seq ?_
 refine W.sr ?_
 refine G.r (Runs.move rfl) ?_
 refine G.r (Runs.lenT (α := (RowG Int)) (xs := xs) Tryd.underlying50 rfl (Sl.f hx)) ?_
 refine G.r (Runs.move rfl) ?_
 refine G.r (Runs.lenT (α := (RowG Int)) (xs := ys) Tryd.underlying50 rfl (Sl.f hy)) ?_
 refine G.r (Runs.neq rfl rfl) ?_
 refine G.nt ?_
 refine W.ite rfl (fun c10 => ?_) (fun c10 => ?_)
 ·refine W.sr ?_
  refine G.r (Runs.assign rfl) ?_
  refine G.nt ?_
  refine W.ret ?_
  refine V.then_ret ?_
  exact V.ret1 rfl rfl (I) Fit.m ⟨by rw [decide_eq_false (fun h => c10 (by have := (rows_eq.1 h).1; omega))], rfl⟩
 ·refine W.skip ?_
  refine V.then ?_
  refine W.seq ?_
  refine W.sr ?_
  refine G.r (Runs.move rfl) ?_
  refine G.r (Runs.lenT (α := (RowG Int)) (xs := xs) Tryd.underlying50 rfl (Sl.f hx)) ?_
  refine G.r (Runs.move rfl) ?_
  refine G.nt ?_
  refine W.block ?_
  refine W.loop (σ := Nat) (fun s => ([(0, va), (1, vb), (12, I64 (((xs.length : Nat) : Int))), (13, I64 (((s : Nat) : Int)))] : Env)) (fun s => I) (fun s => (s ≤ xs.length) ∧ (∀ j : Nat, j < s → (at_ xs (j : Int)).xs = (at_ ys (j : Int)).xs)) (fun s => xs.length - s) (0) (show ((0 : Nat) ≤ xs.length) ∧ (∀ j : Nat, j < (0 : Nat) → (at_ xs (j : Int)).xs = (at_ ys (j : Int)).xs) from ⟨(by omega), all_zero⟩) (Sub.cons rfl (Sub.cons rfl (Sub.cons rfl (Sub.cons lookO Sub.nil)))) (show Fit κ _ (I) from Fit.sub) ?_
  rintro k hp
  obtain ⟨hk, hn⟩ : (k ≤ xs.length) ∧ (∀ j : Nat, j < k → (at_ xs (j : Int)).xs = (at_ ys (j : Int)).xs) := hp
  show W Tryd.prog κ 27 _ _ ([(0, va), (1, vb), (12, I64 (((xs.length : Nat) : Int))), (13, I64 (((k : Nat) : Int)))] : Env) (I)
  refine W.sr ?_
  refine G.r (Runs.lss rfl rfl) ?_
  refine G.nt ?_
  refine W.seq ?_
  refine W.ite rfl (fun c14 => ?_) (fun c14 => ?_)
  ·refine W.skip ?_
   refine V.then ?_
   refine W.seq ?_
   refine W.block ?_
   refine W.sr ?_
   refine G.r (Runs.move rfl) ?_
   refine G.r (Runs.assign rfl) ?_
   refine G.nt ?_
   refine W.seq ?_
   refine W.drawn mixed ?_
   refine A.hold (I) 10 ?_
   refine D.r 0 rfl (Runs.move rfl) ?_ (hJ := Fit.sub)
   refine D.r 1 rfl (Runs.move rfl) ?_ (hJ := Fit.sub)
   refine D.r 2 rfl (Runs.idx (α := (RowG Int)) (xs := xs) Tryd.underlying50 ty22 rfl rfl (Sl.f hx) (by omega) (by omega)) ?_ (hJ := Fit.sub)
   refine D.r 3 rfl (Runs.getf0 (α := (RowG Int)) (xs := xs) (u := .slice (at_ xs ((k : Nat) : Int)).a (at_ xs ((k : Nat) : Int)).xs.length (at_ xs ((k : Nat) : Int)).c) ty22 rfl (Sl.f hx) (by omega) (by omega) rfl) ?_ (hJ := Fit.sub)
   refine D.r 4 rfl (Runs.move rfl) ?_ (hJ := Fit.sub)
   refine D.r 5 rfl (Runs.move rfl) ?_ (hJ := Fit.sub)
   refine D.r 6 rfl (Runs.idx (α := (RowG Int)) (xs := ys) Tryd.underlying50 ty22 rfl rfl (Sl.f hy) (by omega) (by omega)) ?_ (hJ := Fit.sub)
   refine D.r 7 rfl (Runs.getf0 (α := (RowG Int)) (xs := ys) (u := .slice (at_ ys ((k : Nat) : Int)).a (at_ ys ((k : Nat) : Int)).xs.length (at_ ys ((k : Nat) : Int)).c) ty22 rfl (Sl.f hy) (by omega) (by omega) rfl) ?_ (hJ := Fit.sub)
   refine D.step (rs := [8]) (by kernel_rfl) rfl rfl (all1 ?_)
   refine Step.eff rfl (Wanted.plain rfl) (Eff.call call27 rfl rfl (Same_ok (Sl.fit (HeldAll.at h1 (i := ((k : Nat) : Int)) (by omega) (by omega)) Fit.m) (Sl.fit (HeldAll.at h2 (i := ((k : Nat) : Int)) (by omega) (by omega)) Fit.m))) ?_
   rintro _ _ ⟨_, _, ⟨rfl, rfl⟩, rfl, rfl⟩
   refine ⟨Fit.sub, ?_⟩
   refine D.r 9 rfl (Runs.notd rfl) ?_ (hJ := Fit.sub)
   refine D.done (by kernel_rfl) ?_
   refine V.then ?_
   refine W.sub (L' := [(25, _), (0, _), (1, _), (12, _), (13, _)]) (Sub.cons rfl (Sub.cons rfl (Sub.cons rfl (Sub.cons rfl (Sub.cons rfl Sub.nil))))) ?_
   refine W.ite rfl (fun c25 => ?_) (fun c25 => ?_)
   ·refine W.sr ?_
    refine G.r (Runs.assign rfl) ?_
    refine G.nt ?_
    refine W.ret ?_
    refine V.block_ret ?_
    refine V.then_ret ?_
    refine V.then_ret ?_
    refine V.block_ret ?_
    refine V.then_ret ?_
    exact V.ret1 rfl rfl (I) Fit.m ⟨by rw [decide_eq_false (fun h => c25 ((rows_eq.1 h).2 k (by omega)))], rfl⟩
   ·refine W.skip ?_
    refine V.block_normal ?_
    refine V.then ?_
    refine W.region ?_
    refine G.r (Runs.add rfl rfl (by unfold InR; omega)) ?_
    refine G.r (Runs.move rfl) ?_
    refine G.nil ?_
    exact V.next ((k + 1)) (show ((k + 1 : Nat) ≤ xs.length) ∧ (∀ j : Nat, j < (k + 1 : Nat) → (at_ xs (j : Int)).xs = (at_ ys (j : Int)).xs) from ⟨(by omega), (all_succ hn (Classical.not_not.1 c25))⟩) (show xs.length - (k + 1 : Nat) < xs.length - k from (by omega)) (Sub.cons rfl (Sub.cons rfl (Sub.cons rfl (Sub.cons lookO Sub.nil)))) (show Fit κ _ (I) from Fit.sub)
  ·refine W.exit ?_
   refine V.then_exit ?_
   refine V.then_exit ?_
   refine V.block_hit ?_
   refine V.then ?_
   refine W.sr ?_
   refine G.r (Runs.assign rfl) ?_
   refine G.nt ?_
   refine W.ret ?_
   exact V.ret1 rfl rfl (I) Fit.m ⟨by rw [decide_eq_true (rows_eq.2 ⟨by omega, fun j hj => hn j (by omega)⟩)], rfl⟩

theorem SameB_ok {κ : Ctx} {I : List Item} {va vb : Value} {xs ys : List (RowG Pt)} (hx : Sl κ I va xs) (hy : Sl κ I vb ys) (h1 : HeldAll κ I xs) (h2 : HeldAll κ I ys) :
    CallS Tryd.prog κ 40 [va, vb] I (fun r J => r = .bool (decide (xs.map RowG.xs = ys.map RowG.xs)) ∧ I = J) := by
 refine CallS.pull hx.le fun hmax => ?_
 refine CallS.enter (L := [(0, va), (1, vb)]) Tryd.func40 rfl rfl rfl rfl ?_
 refine W.sr ?_
 refine G.r (Runs.assign rfl) ?_
 refine G.nt ?_
 refine W.seq ?_
 refine W.sr ?_
 refine G.r (Runs.move rfl) ?_
 refine G.r (Runs.lenT (α := (RowG Pt)) (xs := xs) Tryd.underlying29 rfl (Sl.f hx)) ?_
 refine G.r (Runs.move rfl) ?_
 refine G.r (Runs.lenT (α := (RowG Pt)) (xs := ys) Tryd.underlying29 rfl (Sl.f hy)) ?_
 refine G.r (Runs.neq rfl rfl) ?_
 refine G.nt ?_
 refine W.ite rfl (fun c10 => ?_) (fun c10 => ?_)
 ·refine W.sr ?_
  refine G.r (Runs.assign rfl) ?_
  refine G.nt ?_
  refine W.ret ?_
  refine V.then_ret ?_
  exact V.ret1 rfl rfl (I) Fit.m ⟨by rw [decide_eq_false (fun h => c10 (by have := (rows_eq.1 h).1; omega))], rfl⟩
 ·refine W.skip ?_
  refine V.then ?_
  refine W.seq ?_
  refine W.sr ?_
  refine G.r (Runs.move rfl) ?_
  refine G.r (Runs.lenT (α := (RowG Pt)) (xs := xs) Tryd.underlying29 rfl (Sl.f hx)) ?_
  refine G.r (Runs.move rfl) ?_
  refine G.nt ?_
  refine W.block ?_
  refine W.loop (σ := Nat) (fun s => ([(0, va), (1, vb), (12, I64 (((xs.length : Nat) : Int))), (13, I64 (((s : Nat) : Int)))] : Env)) (fun s => I) (fun s => (s ≤ xs.length) ∧ (∀ j : Nat, j < s → (at_ xs (j : Int)).xs = (at_ ys (j : Int)).xs)) (fun s => xs.length - s) (0) (show ((0 : Nat) ≤ xs.length) ∧ (∀ j : Nat, j < (0 : Nat) → (at_ xs (j : Int)).xs = (at_ ys (j : Int)).xs) from ⟨(by omega), all_zero⟩) (Sub.cons rfl (Sub.cons rfl (Sub.cons rfl (Sub.cons lookO Sub.nil)))) (show Fit κ _ (I) from Fit.sub) ?_
  rintro k hp
  obtain ⟨hk, hn⟩ : (k ≤ xs.length) ∧ (∀ j : Nat, j < k → (at_ xs (j : Int)).xs = (at_ ys (j : Int)).xs) := hp
  show W Tryd.prog κ 27 _ _ ([(0, va), (1, vb), (12, I64 (((xs.length : Nat) : Int))), (13, I64 (((k : Nat) : Int)))] : Env) (I)
  refine W.sr ?_
  refine G.r (Runs.lss rfl rfl) ?_
  refine G.nt ?_
  refine W.seq ?_
  refine W.ite rfl (fun c14 => ?_) (fun c14 => ?_)
  ·refine W.skip ?_
   refine V.then ?_
   refine W.seq ?_
   refine W.block ?_
   refine W.sr ?_
   refine G.r (Runs.move rfl) ?_
   refine G.r (Runs.assign rfl) ?_
   refine G.nt ?_
   refine W.seq ?_
   refine W.drawn mixed ?_
   refine A.hold (I) 10 ?_
   refine D.r 0 rfl (Runs.move rfl) ?_ (hJ := Fit.sub)
   refine D.r 1 rfl (Runs.move rfl) ?_ (hJ := Fit.sub)
   refine D.r 2 rfl (Runs.idx (α := (RowG Pt)) (xs := xs) Tryd.underlying29 ty23 rfl rfl (Sl.f hx) (by omega) (by omega)) ?_ (hJ := Fit.sub)
   refine D.r 3 rfl (Runs.getf0 (α := (RowG Pt)) (xs := xs) (u := .slice (at_ xs ((k : Nat) : Int)).a (at_ xs ((k : Nat) : Int)).xs.length (at_ xs ((k : Nat) : Int)).c) ty23 rfl (Sl.f hx) (by omega) (by omega) rfl) ?_ (hJ := Fit.sub)
   refine D.r 4 rfl (Runs.move rfl) ?_ (hJ := Fit.sub)
   refine D.r 5 rfl (Runs.move rfl) ?_ (hJ := Fit.sub)
   refine D.r 6 rfl (Runs.idx (α := (RowG Pt)) (xs := ys) Tryd.underlying29 ty23 rfl rfl (Sl.f hy) (by omega) (by omega)) ?_ (hJ := Fit.sub)
   refine D.r 7 rfl (Runs.getf0 (α := (RowG Pt)) (xs := ys) (u := .slice (at_ ys ((k : Nat) : Int)).a (at_ ys ((k : Nat) : Int)).xs.length (at_ ys ((k : Nat) : Int)).c) ty23 rfl (Sl.f hy) (by omega) (by omega) rfl) ?_ (hJ := Fit.sub)
   refine D.step (rs := [8]) (by kernel_rfl) rfl rfl (all1 ?_)
   refine Step.eff rfl (Wanted.plain rfl) (Eff.call call39 rfl rfl (SameEdges_ok (Sl.fit (HeldAll.at h1 (i := ((k : Nat) : Int)) (by omega) (by omega)) Fit.m) (Sl.fit (HeldAll.at h2 (i := ((k : Nat) : Int)) (by omega) (by omega)) Fit.m))) ?_
   rintro _ _ ⟨_, _, ⟨rfl, rfl⟩, rfl, rfl⟩
   refine ⟨Fit.sub, ?_⟩
   refine D.r 9 rfl (Runs.notd rfl) ?_ (hJ := Fit.sub)
   refine D.done (by kernel_rfl) ?_
   refine V.then ?_
   refine W.sub (L' := [(25, _), (0, _), (1, _), (12, _), (13, _)]) (Sub.cons rfl (Sub.cons rfl (Sub.cons rfl (Sub.cons rfl (Sub.cons rfl Sub.nil))))) ?_
   refine W.ite rfl (fun c25 => ?_) (fun c25 => ?_)
   ·refine W.sr ?_
    refine G.r (Runs.assign rfl) ?_
    refine G.nt ?_
    refine W.ret ?_
    refine V.block_ret ?_
    refine V.then_ret ?_
    refine V.then_ret ?_
    refine V.block_ret ?_
    refine V.then_ret ?_
    exact V.ret1 rfl rfl (I) Fit.m ⟨by rw [decide_eq_false (fun h => c25 ((rows_eq.1 h).2 k (by omega)))], rfl⟩
   ·refine W.skip ?_
    refine V.block_normal ?_
    refine V.then ?_
    refine W.region ?_
    refine G.r (Runs.add rfl rfl (by unfold InR; omega)) ?_
    refine G.r (Runs.move rfl) ?_
    refine G.nil ?_
    exact V.next ((k + 1)) (show ((k + 1 : Nat) ≤ xs.length) ∧ (∀ j : Nat, j < (k + 1 : Nat) → (at_ xs (j : Int)).xs = (at_ ys (j : Int)).xs) from ⟨(by omega), (all_succ hn (Classical.not_not.1 c25))⟩) (show xs.length - (k + 1 : Nat) < xs.length - k from (by omega)) (Sub.cons rfl (Sub.cons rfl (Sub.cons rfl (Sub.cons lookO Sub.nil)))) (show Fit κ _ (I) from Fit.sub)
  ·refine W.exit ?_
   refine V.then_exit ?_
   refine V.then_exit ?_
   refine V.block_hit ?_
   refine V.then ?_
   refine W.sr ?_
   refine G.r (Runs.assign rfl) ?_
   refine G.nt ?_
   refine W.ret ?_
   exact V.ret1 rfl rfl (I) Fit.m ⟨by rw [decide_eq_true (rows_eq.2 ⟨by omega, fun j hj => hn j (by omega)⟩)], rfl⟩

theorem Light15_ok {κ : Ctx} {I : List Item} {nd : Int} {va : Value} {es : List Pt} (hl : Sl κ I va es) :
    CallS Tryd.prog κ 33 [.agg #[I64 (nd), va]] I (fun r J => r = .bool (lightB nd es) ∧ I = J) := by
 refine CallS.enter (L := [(0, .agg #[I64 (nd), va])]) Tryd.func33 rfl rfl rfl rfl ?_
 refine W.sr ?_
 refine G.e (Eff.box (cs := [_, _]) rfl rfl rfl) ?_
 rintro _ _ ⟨b1, rfl, rfl⟩
 refine G.r (Runs.assign rfl) ?_
 refine G.nt ?_
 refine W.sr ?_
 refine G.r (Runs.fieldAddr fld25_1 rfl) ?_
 refine G.r (Runs.ld ty23) ?_
 refine G.r (Runs.lenT (α := Pt) (xs := es) Tryd.underlying23 rfl (Sl.f hl)) ?_
 refine G.r (Runs.leq rfl rfl) ?_
 refine G.r (Runs.move rfl) ?_
 refine G.split (d := 7) rfl (fun g7 => ?_) (fun g7 => ?_)
 ·refine G.ro (Runs.fieldAddr fld25_0 rfl) ?_
  refine G.ro (Runs.ld ty3) ?_
  refine G.ro (Runs.leq rfl rfl) ?_
  refine G.ro (Runs.move rfl) ?_
  refine G.split (d := 11) rfl (fun g11 => ?_) (fun g11 => ?_)
  ·refine G.po ?_
   refine G.po ?_
   refine G.po ?_
   refine G.ro (Runs.pickt rfl rfl) ?_
   refine G.r (Runs.pickt rfl rfl) ?_
   refine G.r (Runs.assign rfl) ?_
   refine G.nt ?_
   refine W.sub (L' := [(2, _)]) (Sub.cons rfl Sub.nil) ?_
   refine W.ret ?_
   exact V.ret1 rfl rfl (I) Fit.m ⟨by unfold lightB; first | (rw [decide_eq_true g7, decide_eq_true g11]; rfl) | (rw [decide_eq_true g7, decide_eq_false g11]; rfl) | (rw [decide_eq_false g7]; rfl), rfl⟩
  ·refine G.ro (Runs.lds (vs := [_, _]) ty25) ?_
   refine G.eff (Wanted.on rfl rfl rfl) (Eff.call call70 rfl rfl (Check03G_ok (nd := nd) (Sl.f hl))) ?_
   rintro _ _ ⟨_, _, ⟨rfl, rfl⟩, rfl, rfl⟩
   refine G.ro (Runs.neq rfl rfl) ?_
   refine G.ro (Runs.pickf rfl rfl) ?_
   refine G.r (Runs.pickt rfl rfl) ?_
   refine G.r (Runs.assign rfl) ?_
   refine G.nt ?_
   refine W.sub (L' := [(2, _)]) (Sub.cons rfl Sub.nil) ?_
   refine W.ret ?_
   exact V.ret1 rfl rfl (I) Fit.m ⟨by unfold lightB; first | (rw [decide_eq_true g7, decide_eq_true g11]; rfl) | (rw [decide_eq_true g7, decide_eq_false g11]; rfl) | (rw [decide_eq_false g7]; rfl), rfl⟩
 ·refine G.po ?_
  refine G.po ?_
  refine G.po ?_
  refine G.po ?_
  refine G.pu ?_
  refine G.pu ?_
  refine G.pu ?_
  refine G.po ?_
  refine G.r (Runs.pickf rfl rfl) ?_
  refine G.r (Runs.assign rfl) ?_
  refine G.nt ?_
  refine W.sub (L' := [(2, _)]) (Sub.cons rfl Sub.nil) ?_
  refine W.ret ?_
  exact V.ret1 rfl rfl (I) Fit.m ⟨by unfold lightB; first | (rw [decide_eq_true g7, decide_eq_true g11]; rfl) | (rw [decide_eq_true g7, decide_eq_false g11]; rfl) | (rw [decide_eq_false g7]; rfl), rfl⟩

theorem ReachE15_ok {κ : Ctx} {I : List Item} {nd : Int} {va vb vd : Value} {es : List Pt} {frm set : List Int} (hl : Sl κ I va es) (hf : Sl κ I vb frm) (hs : Sl κ I vd set) (hb : es.length ≤ 1000000) (hfb : frm.length ≤ 1000000) (hsb : set.length ≤ 1000000) :
    CallS Tryd.prog κ 41 [.agg #[I64 (nd), va], vb, vd] I (fun r J => ∃ a c, r = .tuple #[.slice a (rchG nd es frm set).length c, I64 (checkG nd es)] ∧ J = vc 3 (.slice a (rchG nd es frm set).length c) (rchG nd es frm set) :: I) := by
 refine CallS.enter (L := [(0, .agg #[I64 (nd), va]), (1, vb), (2, vd)]) Tryd.func41 rfl rfl rfl rfl ?_
 refine W.sr ?_
 refine G.e (Eff.box (cs := [_, _]) rfl rfl rfl) ?_
 rintro _ _ ⟨b1, rfl, rfl⟩
 refine G.r (Runs.assign rfl) ?_
 refine G.r (Runs.assign rfl) ?_
 refine G.nt ?_
 refine W.seq ?_
 refine W.sr ?_
 refine G.r (Runs.lds (vs := [_, _]) ty25) ?_
 refine G.e (Eff.call call70 rfl rfl (Check03G_ok (nd := nd) (Sl.f hl))) ?_
 rintro _ _ ⟨_, _, ⟨rfl, rfl⟩, rfl, rfl⟩
 refine G.r (Runs.assign rfl) ?_
 refine G.nt ?_
 refine W.sr ?_
 refine G.r (Runs.move rfl) ?_
 refine G.r (Runs.neq rfl rfl) ?_
 refine G.nt ?_
 refine W.ite rfl (fun c12 => ?_) (fun c12 => ?_)
 ·refine W.sr ?_
  refine G.r (Runs.move rfl) ?_
  refine G.r (Runs.assign rfl) ?_
  refine G.r (Runs.assign rfl) ?_
  refine G.nt ?_
  refine W.sub (L' := [(7, _), (6, _)]) (Sub.cons rfl (Sub.cons rfl Sub.nil)) ?_
  refine W.ret ?_
  refine V.then_ret ?_
  have hX : (rchG nd es frm set) = [] := if_pos c12
  exact V.ret2 rfl rfl rfl (vc 3 (.slice none (rchG nd es frm set).length 0) (rchG nd es frm set) :: I) (by rw [hX]; exact Fit.trans (show Fit κ _ I from Fit.m) (Fit.nilvc (α := Int) _ _)) ⟨none, 0, by rw [hX]; rfl, rfl⟩
 ·refine W.skip ?_
  refine V.then ?_
  refine W.seq ?_
  refine W.drawn mixed ?_
  refine A.hold (blk b1 [I64 (nd), va] 25 :: I) 10 ?_
  refine D.r 0 rfl (Runs.lds (vs := [_, _]) ty25) ?_ (hJ := Fit.sub)
  refine D.r 1 rfl (Runs.move rfl) ?_ (hJ := Fit.sub)
  refine D.r 2 rfl (Runs.move rfl) ?_ (hJ := Fit.sub)
  refine D.r 3 rfl (Runs.fieldAddr fld25_0 rfl) ?_ (hJ := Fit.sub)
  refine D.r 4 rfl (Runs.ld ty3) ?_ (hJ := Fit.sub)
  refine D.step (rs := [5]) (by kernel_rfl) rfl rfl (all1 ?_)
  refine Step.eff rfl (Wanted.plain rfl) (Eff.call call29 rfl rfl (Range_ok nd)) ?_
  rintro _ _ ⟨_, _, ⟨ad2, cp3, rfl, rfl⟩, rfl, rfl⟩
  refine ⟨Fit.sub, ?_⟩
  refine D.step (rs := [6]) (by kernel_rfl) rfl rfl (all1 ?_)
  refine Step.eff rfl (Wanted.plain rfl) (Eff.call call25 rfl rfl (Meet_ok (Sl.f hs) Sl.o (by omega))) ?_
  rintro _ _ ⟨_, _, ⟨ad4, cp5, rfl, rfl⟩, rfl, rfl⟩
  refine ⟨Fit.sub, ?_⟩
  refine D.step (rs := [7]) (by kernel_rfl) rfl rfl (all1 ?_)
  refine Step.eff rfl (Wanted.plain rfl) (Eff.call call83 rfl rfl (Reach15_ok (nd := nd) (Sl.f hl) (Sl.f hf) Sl.o (checkG_ok.1 (Classical.not_not.1 c12)) (fun x hx => by have := mem_rangeI.1 (mem_meetL.1 hx).2; omega) (by omega) (by omega))) ?_
  rintro _ _ ⟨_, _, ⟨ad6, cp7, rfl, rfl⟩, rfl, rfl⟩
  refine ⟨Fit.sub, ?_⟩
  refine D.r 8 rfl (Runs.assign rfl) ?_ (hJ := Fit.sub)
  refine D.r 9 rfl (Runs.assign rfl) ?_ (hJ := Fit.sub)
  refine D.done (by kernel_rfl) ?_
  refine V.then ?_
  refine W.sub (L' := [(7, _), (6, _)]) (Sub.cons rfl (Sub.cons rfl Sub.nil)) ?_
  refine W.ret ?_
  have hX : (rchG nd es frm set) = listB (reachB (rowsB nd es) (maskB frm) (maskB (meetL set (rangeI nd)))) := by unfold rchG; rw [if_neg c12, mask_meet (checkG_ok.1 (Classical.not_not.1 c12)).rng]
  have hz : checkG nd es = 0 := Classical.not_not.1 c12
  exact V.ret2 rfl rfl rfl (vc 3 (.slice ad6 (rchG nd es frm set).length cp7) (rchG nd es frm set) :: I) (by rw [hX]; exact Fit.sub) ⟨ad6, cp7, by rw [hX, hz], rfl⟩

end Go.Sl
