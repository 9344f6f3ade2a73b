/- A part of the proof of FlowProvesSaid: contracts of the functions that it reaches, and the plain laws that they lean on. No conditions. -/
import Derived.Test.YtbimaodbcjjbfaaPart07
import Derived.Test.YtbimaodbcjjbfaaPart01
import Derived.WalkKit
import Derived.ProofKit
import Derived.OpenShut
import Derived.ChangeOld
import Derived.Below
import Derived.SizedLaws
import Derived.JoinedOf
import Derived.Deep.Slices
import Derived.Deep.Fields
namespace Go.Sl
open Go.Proofs
set_option linter.unusedVariables false
set_option linter.unusedSimpArgs false
set_option maxRecDepth 4000
set_option maxHeartbeats 4000000 in
theorem FlowProves_walk {κ : Ctx} {I : List Item} {ua wa la : Option Addr} {uc wc ln lc : Nat} {fu sw ls : List Int} {val0 : Int} (hu : Sl κ I (.slice ua fu.length uc) fu) (hw : Sl κ I (.slice wa sw.length wc) sw) (hl : Sl κ I (.slice la ln lc) ls) (hsz : fu.length + sw.length ≤ 9223372036854775807) :
    CallS Try.prog κ 3 [.agg #[.slice ua fu.length uc, I64 (val0), .slice wa sw.length wc], .slice la ln lc] I (fun r J => r = .bool true ∧ I = J) := by
 have hlim2 : True := trivial
 refine CallS.enter (L := [(0, .agg #[.slice ua fu.length uc, I64 (val0), .slice wa sw.length wc]), (1, .slice la ln lc)]) Try.func3 rfl rfl rfl rfl ?_
 refine W.sr ?_
 refine G.e (Eff.box (cs := [_, _, _]) rfl rfl rfl) ?_
 rintro _ _ ⟨b1, rfl, rfl⟩
 refine G.r (Runs.assign rfl) ?_
 refine G.nt ?_
 refine W.seq ?_
 refine W.sr ?_
 refine G.r (Runs.fieldAddr fld24_0 rfl) ?_
 refine G.r (Runs.ld ty22) ?_
 refine G.r (Runs.lens Try.underlying22 rfl) ?_
 refine G.r (Runs.fieldAddr fld24_2 rfl) ?_
 refine G.r (Runs.ld ty22) ?_
 refine G.r (Runs.lens Try.underlying22 rfl) ?_
 refine G.r (Runs.add rfl rfl (by unfold InR; omega)) ?_
 refine G.r (Runs.gtr rfl rfl) ?_
 refine G.nt ?_
 refine W.ite rfl (fun c23 => ?_) (fun c23 => ?_)
 ·refine W.sr ?_
  refine G.e (Eff.call call21 rfl rfl Awake_ok) ?_
  rintro _ _ ⟨_, _, ⟨rfl, rfl⟩, rfl, rfl⟩
  refine G.r (Runs.assign rfl) ?_
  refine G.nt ?_
  refine W.sub (L' := [(4, _)]) (Sub.cons rfl Sub.nil) ?_
  refine W.ret ?_
  refine V.then_ret ?_
  exact V.ret1 rfl rfl (I) Fit.m ⟨rfl, rfl⟩
 ·refine W.skip ?_
  refine V.then ?_
  refine W.sr ?_
  refine G.r (Runs.move rfl) ?_
  refine G.e (Eff.call call22 rfl rfl New_ok) ?_
  rintro _ _ ⟨_, _, ⟨dk2, rfl, rfl⟩, rfl, rfl⟩
  show G Try.prog κ _ _ _ _ ([(26, .pointer (some ⟨dk2, 0, none⟩)), (25, .slice la ln lc), (23, .bool (decide (80 < (((fu.length : Nat) : Int) + ((sw.length : Nat) : Int))))), (22, I64 (((fu.length : Nat) : Int) + ((sw.length : Nat) : Int))), (21, I64 (((sw.length : Nat) : Int))), (20, .slice wa sw.length wc), (19, .pointer (some ⟨b1, 2, none⟩)), (18, I64 (((fu.length : Nat) : Int))), (17, .slice ua fu.length uc), (16, .pointer (some ⟨b1, 0, none⟩)), (4, .bool false), (2, .pointer (some ⟨b1, 0, none⟩)), (0, .agg #[.slice ua fu.length uc, I64 (val0), .slice wa sw.length wc]), (1, .slice la ln lc)] : Env) (blk dk2 [.slice la ln lc, I64 (0)] 129 :: blk b1 [.slice ua fu.length uc, I64 (val0), .slice wa sw.length wc] 24 :: I)
  have hi0 : (0 : Int) ≤ 0 := Int.le_refl _
  refine G.r (Runs.assign rfl) ?_
  refine G.nt ?_
  refine W.sub (L' := [(5, _), (2, _)]) (Sub.cons rfl (Sub.cons rfl Sub.nil)) ?_
  refine W.sr ?_
  refine G.r (Runs.move rfl) ?_
  refine G.e (Eff.call call23 rfl rfl (Network_at (by repeat (first | exact AtF.head _ _ | apply AtF.tail)) (fun _ => Sl.fit hl Fit.m) (by omega))) ?_
  rintro _ _ ⟨_, _, ⟨n, ad4, cp5, i3, rfl, hmade, hi3, rfl⟩, rfl, rfl⟩
  show G Try.prog κ _ _ _ _ ([(28, .agg #[I64 (n.nodes), I64 (n.source), I64 (n.sink), .slice ad4 n.arcs.length cp5]), (27, .pointer (some ⟨dk2, 0, none⟩)), (5, .pointer (some ⟨dk2, 0, none⟩)), (2, .pointer (some ⟨b1, 0, none⟩))] : Env) (vc 43 (.slice ad4 n.arcs.length cp5) (n.arcs) :: blk dk2 [.slice la ln lc, I64 (i3)] 129 :: blk b1 [.slice ua fu.length uc, I64 (val0), .slice wa sw.length wc] 24 :: I)
  have hok := hmade.ok
  have hmlim := hmade.lim
  have htwo := hok.two
  refine G.e (Eff.alloc ty30 rfl) ?_
  rintro _ _ ⟨b6, rfl, rfl⟩
  refine G.e (Eff.st (cs := [_, _, _, _]) (vs := [_, _, _, _]) (cs' := [_, _, _, _]) ty30) ?_
  rintro _ _ ⟨rfl, rfl⟩
  refine G.nt ?_
  refine W.sr ?_
  refine G.r (Runs.lds (vs := [_, _, _, _]) ty30) ?_
  refine G.e (Eff.call call24 rfl rfl (RMax_ok (n := n) Sl.o hok)) ?_
  rintro _ _ ⟨_, _, ⟨ad7, cp8, f9, ad10, cp11, sd12, vl13, rfl, hf9, rfl⟩, rfl, rfl⟩
  refine G.r (Runs.move rfl) ?_
  refine G.r (Runs.extract rfl rfl) ?_
  refine G.r (Runs.extract rfl rfl) ?_
  refine G.e (Eff.alloc ty24 rfl) ?_
  rintro _ _ ⟨b14, rfl, rfl⟩
  refine G.e (Eff.st (cs := [_, _, _]) (vs := [_, _, _]) (cs' := [_, _, _]) ty24) ?_
  rintro _ _ ⟨rfl, rfl⟩
  refine G.r (Runs.assign rfl) ?_
  have hflow := hf9.flow
  have hfl := hflow.len
  have hbd := hf9.bd hok
  have hpr := hf9.proof hok
  have hprG := fun (m : List Int) (hm : GreatL n m) => hf9.proofG hok hm
  obtain ⟨R, hR, hsd⟩ := hf9.side
  have hsdl : sd12.length ≤ n.nodes.toNat := by rw [hsd]; exact sideL_len _ _
  refine G.nt ?_
  refine W.cut (σ := Nat × (Option Addr) × Nat × (Option Addr) × Nat) (fun s => ([(2, .pointer (some ⟨b1, 0, none⟩)), (5, .pointer (some ⟨dk2, 0, none⟩)), (6, .pointer (some ⟨b6, 0, none⟩)), (7, .pointer (some ⟨b14, 0, none⟩)), (9, .pointer (some ⟨s.1, 0, none⟩))] : Env)) (fun s => vc 3 (.slice s.2.1 f9.length s.2.2.1) (f9) :: vc 3 (.slice s.2.2.2.1 sd12.length s.2.2.2.2) (sd12) :: blk s.1 [.slice s.2.1 f9.length s.2.2.1, I64 (vl13), .slice s.2.2.2.1 sd12.length s.2.2.2.2] 24 :: blk b14 [.slice ad7 f9.length cp8, I64 (vl13), .slice ad10 sd12.length cp11] 24 :: vc 3 (.slice ad10 sd12.length cp11) (sd12) :: vc 3 (.slice ad7 f9.length cp8) (f9) :: blk b6 [I64 (n.nodes), I64 (n.source), I64 (n.sink), .slice ad4 n.arcs.length cp5] 30 :: vc 43 (.slice ad4 n.arcs.length cp5) (n.arcs) :: blk dk2 [.slice la ln lc, I64 (i3)] 129 :: blk b1 [.slice ua fu.length uc, I64 (val0), .slice wa sw.length wc] 24 :: I) (fun s => True) ?_ ?_
  ·refine W.drawn mixed ?_
   refine A.hold (blk b14 [.slice ad7 f9.length cp8, I64 (vl13), .slice ad10 sd12.length cp11] 24 :: vc 3 (.slice ad10 sd12.length cp11) (sd12) :: vc 3 (.slice ad7 f9.length cp8) (f9) :: blk b6 [I64 (n.nodes), I64 (n.source), I64 (n.sink), .slice ad4 n.arcs.length cp5] 30 :: vc 43 (.slice ad4 n.arcs.length cp5) (n.arcs) :: blk dk2 [.slice la ln lc, I64 (i3)] 129 :: blk b1 [.slice ua fu.length uc, I64 (val0), .slice wa sw.length wc] 24 :: I) 10 ?_
   refine D.r 0 rfl (Runs.fieldAddr fld24_0 rfl) ?_
   refine D.r 1 rfl (Runs.ld ty22) ?_
   refine D.r 3 rfl (Runs.fieldAddr fld24_1 rfl) ?_
   refine D.r 4 rfl (Runs.ld ty3) ?_
   refine D.r 5 rfl (Runs.fieldAddr fld24_2 rfl) ?_
   refine D.r 6 rfl (Runs.ld ty22) ?_
   refine D.step (rs := [2, 9]) (by kernel_rfl) rfl rfl (all2 ?_ (all1 ?_))
   ·refine Step.eff rfl (Wanted.plain rfl) (Eff.clone (α := Int) (ys := f9) Try.underlying22 ty3 rfl rfl rfl Sl.o (by first | omega | (simp only [List.length_cons, List.length_nil]; omega)) (by decide) rfl) ?_
    rintro _ _ ⟨ad15, cp16, rfl, rfl⟩
    refine ⟨Fit.m, ?_⟩
    refine D.step (rs := [7, 9]) (by kernel_rfl) rfl rfl (all2 ?_ (all1 ?_))
    ·refine Step.eff rfl (Wanted.plain rfl) (Eff.clone (α := Int) (ys := sd12) Try.underlying22 ty3 rfl rfl rfl Sl.o (by first | omega | (simp only [List.length_cons, List.length_nil]; omega)) (by decide) rfl) ?_
     rintro _ _ ⟨ad17, cp18, rfl, rfl⟩
     refine ⟨Fit.m, ?_⟩
     refine D.r 8 rfl (Runs.build (cells := [_, _, _]) ty24 Try.underlying24 pl24 rfl rfl) ?_
     refine D.step (rs := [9]) (by kernel_rfl) rfl rfl (all1 ?_)
     refine Step.eff rfl (Wanted.plain rfl) (Eff.alloc ty24 rfl) ?_
     rintro _ _ ⟨b19, rfl, rfl⟩
     refine ⟨Fit.m, ?_⟩
     refine D.stop (by kernel_rfl) ?_
     refine A.eff (i := 10) (by kernel_rfl) rfl (Wanted.plain rfl) (Eff.st (cs := [_, _, _]) (vs := [_, _, _]) (cs' := [_, _, _]) ty24) ?_
     rintro _ _ ⟨rfl, rfl⟩
     refine A.done (by kernel_rfl) ?_
     exact V.mid ((b19), (ad15), (cp16), (ad17), (cp18)) (show True from trivial) (Sub.cons rfl (Sub.cons rfl (Sub.cons rfl (Sub.cons rfl (Sub.cons (lookV rfl (by first | rfl | simp)) Sub.nil))))) (show Fit κ _ (vc 3 (.slice (ad15) f9.length (cp16)) (f9) :: vc 3 (.slice (ad17) sd12.length (cp18)) (sd12) :: blk (b19) [.slice (ad15) f9.length (cp16), I64 (vl13), .slice (ad17) sd12.length (cp18)] 24 :: blk b14 [.slice ad7 f9.length cp8, I64 (vl13), .slice ad10 sd12.length cp11] 24 :: vc 3 (.slice ad10 sd12.length cp11) (sd12) :: vc 3 (.slice ad7 f9.length cp8) (f9) :: blk b6 [I64 (n.nodes), I64 (n.source), I64 (n.sink), .slice ad4 n.arcs.length cp5] 30 :: vc 43 (.slice ad4 n.arcs.length cp5) (n.arcs) :: blk dk2 [.slice la ln lc, I64 (i3)] 129 :: blk b1 [.slice ua fu.length uc, I64 (val0), .slice wa sw.length wc] 24 :: I) from Fit.s)
    ·refine Step.eff rfl (Wanted.plain rfl) (Eff.alloc ty24 rfl) ?_
     rintro _ _ ⟨b20, rfl, rfl⟩
     refine ⟨Fit.m, ?_⟩
     refine D.step (rs := [7]) (by kernel_rfl) rfl rfl (all1 ?_)
     refine Step.eff rfl (Wanted.plain rfl) (Eff.clone (α := Int) (ys := sd12) Try.underlying22 ty3 rfl rfl rfl Sl.o (by first | omega | (simp only [List.length_cons, List.length_nil]; omega)) (by decide) rfl) ?_
     rintro _ _ ⟨ad21, cp22, rfl, rfl⟩
     refine ⟨Fit.m, ?_⟩
     refine D.r 8 rfl (Runs.build (cells := [_, _, _]) ty24 Try.underlying24 pl24 rfl rfl) ?_
     refine D.stop (by kernel_rfl) ?_
     refine A.eff (i := 10) (by kernel_rfl) rfl (Wanted.plain rfl) (Eff.st (cs := [_, _, _]) (vs := [_, _, _]) (cs' := [_, _, _]) ty24) ?_
     rintro _ _ ⟨rfl, rfl⟩
     refine A.done (by kernel_rfl) ?_
     exact V.mid ((b20), (ad15), (cp16), (ad21), (cp22)) (show True from trivial) (Sub.cons rfl (Sub.cons rfl (Sub.cons rfl (Sub.cons rfl (Sub.cons (lookV rfl (by first | rfl | simp)) Sub.nil))))) (show Fit κ _ (vc 3 (.slice (ad15) f9.length (cp16)) (f9) :: vc 3 (.slice (ad21) sd12.length (cp22)) (sd12) :: blk (b20) [.slice (ad15) f9.length (cp16), I64 (vl13), .slice (ad21) sd12.length (cp22)] 24 :: blk b14 [.slice ad7 f9.length cp8, I64 (vl13), .slice ad10 sd12.length cp11] 24 :: vc 3 (.slice ad10 sd12.length cp11) (sd12) :: vc 3 (.slice ad7 f9.length cp8) (f9) :: blk b6 [I64 (n.nodes), I64 (n.source), I64 (n.sink), .slice ad4 n.arcs.length cp5] 30 :: vc 43 (.slice ad4 n.arcs.length cp5) (n.arcs) :: blk dk2 [.slice la ln lc, I64 (i3)] 129 :: blk b1 [.slice ua fu.length uc, I64 (val0), .slice wa sw.length wc] 24 :: I) from Fit.s)
   ·refine Step.eff rfl (Wanted.plain rfl) (Eff.alloc ty24 rfl) ?_
    rintro _ _ ⟨b23, rfl, rfl⟩
    refine ⟨Fit.m, ?_⟩
    refine D.step (rs := [2]) (by kernel_rfl) rfl rfl (all1 ?_)
    refine Step.eff rfl (Wanted.plain rfl) (Eff.clone (α := Int) (ys := f9) Try.underlying22 ty3 rfl rfl rfl Sl.o (by first | omega | (simp only [List.length_cons, List.length_nil]; omega)) (by decide) rfl) ?_
    rintro _ _ ⟨ad24, cp25, rfl, rfl⟩
    refine ⟨Fit.m, ?_⟩
    refine D.step (rs := [7]) (by kernel_rfl) rfl rfl (all1 ?_)
    refine Step.eff rfl (Wanted.plain rfl) (Eff.clone (α := Int) (ys := sd12) Try.underlying22 ty3 rfl rfl rfl Sl.o (by first | omega | (simp only [List.length_cons, List.length_nil]; omega)) (by decide) rfl) ?_
    rintro _ _ ⟨ad26, cp27, rfl, rfl⟩
    refine ⟨Fit.m, ?_⟩
    refine D.r 8 rfl (Runs.build (cells := [_, _, _]) ty24 Try.underlying24 pl24 rfl rfl) ?_
    refine D.stop (by kernel_rfl) ?_
    refine A.eff (i := 10) (by kernel_rfl) rfl (Wanted.plain rfl) (Eff.st (cs := [_, _, _]) (vs := [_, _, _]) (cs' := [_, _, _]) ty24) ?_
    rintro _ _ ⟨rfl, rfl⟩
    refine A.done (by kernel_rfl) ?_
    exact V.mid ((b23), (ad24), (cp25), (ad26), (cp27)) (show True from trivial) (Sub.cons rfl (Sub.cons rfl (Sub.cons rfl (Sub.cons rfl (Sub.cons (lookV rfl (by first | rfl | simp)) Sub.nil))))) (show Fit κ _ (vc 3 (.slice (ad24) f9.length (cp25)) (f9) :: vc 3 (.slice (ad26) sd12.length (cp27)) (sd12) :: blk (b23) [.slice (ad24) f9.length (cp25), I64 (vl13), .slice (ad26) sd12.length (cp27)] 24 :: blk b14 [.slice ad7 f9.length cp8, I64 (vl13), .slice ad10 sd12.length cp11] 24 :: vc 3 (.slice ad10 sd12.length cp11) (sd12) :: vc 3 (.slice ad7 f9.length cp8) (f9) :: blk b6 [I64 (n.nodes), I64 (n.source), I64 (n.sink), .slice ad4 n.arcs.length cp5] 30 :: vc 43 (.slice ad4 n.arcs.length cp5) (n.arcs) :: blk dk2 [.slice la ln lc, I64 (i3)] 129 :: blk b1 [.slice ua fu.length uc, I64 (val0), .slice wa sw.length wc] 24 :: I) from Fit.s)
  ·rintro ⟨b9, ga, gc, gsa, gsc⟩ hp
   show W Try.prog κ 129 _ _ ([(2, .pointer (some ⟨b1, 0, none⟩)), (5, .pointer (some ⟨dk2, 0, none⟩)), (6, .pointer (some ⟨b6, 0, none⟩)), (7, .pointer (some ⟨b14, 0, none⟩)), (9, .pointer (some ⟨b9, 0, none⟩))] : Env) (vc 3 (.slice ga f9.length gc) (f9) :: vc 3 (.slice gsa sd12.length gsc) (sd12) :: blk b9 [.slice ga f9.length gc, I64 (vl13), .slice gsa sd12.length gsc] 24 :: blk b14 [.slice ad7 f9.length cp8, I64 (vl13), .slice ad10 sd12.length cp11] 24 :: vc 3 (.slice ad10 sd12.length cp11) (sd12) :: vc 3 (.slice ad7 f9.length cp8) (f9) :: blk b6 [I64 (n.nodes), I64 (n.source), I64 (n.sink), .slice ad4 n.arcs.length cp5] 30 :: vc 43 (.slice ad4 n.arcs.length cp5) (n.arcs) :: blk dk2 [.slice la ln lc, I64 (i3)] 129 :: blk b1 [.slice ua fu.length uc, I64 (val0), .slice wa sw.length wc] 24 :: I)
   refine W.cut (σ := (Option Addr) × Nat × (List Int) × Int × (Option Addr) × Nat × (List Int) × Int) (fun s => ([(2, .pointer (some ⟨b1, 0, none⟩)), (6, .pointer (some ⟨b6, 0, none⟩)), (7, .pointer (some ⟨b14, 0, none⟩)), (9, .pointer (some ⟨b9, 0, none⟩))] : Env)) (fun s => vc 3 (.slice s.1 s.2.2.1.length s.2.1) (s.2.2.1) :: vc 3 (.slice s.2.2.2.2.1 s.2.2.2.2.2.2.1.length s.2.2.2.2.2.1) (s.2.2.2.2.2.2.1) :: blk b9 [.slice s.1 s.2.2.1.length s.2.1, I64 (s.2.2.2.1), .slice s.2.2.2.2.1 s.2.2.2.2.2.2.1.length s.2.2.2.2.2.1] 24 :: blk b14 [.slice ad7 f9.length cp8, I64 (vl13), .slice ad10 sd12.length cp11] 24 :: vc 3 (.slice ad10 sd12.length cp11) (sd12) :: vc 3 (.slice ad7 f9.length cp8) (f9) :: blk b6 [I64 (n.nodes), I64 (n.source), I64 (n.sink), .slice ad4 n.arcs.length cp5] 30 :: vc 43 (.slice ad4 n.arcs.length cp5) (n.arcs) :: blk dk2 [.slice la ln lc, I64 (s.2.2.2.2.2.2.2)] 129 :: blk b1 [.slice ua fu.length uc, I64 (val0), .slice wa sw.length wc] 24 :: I) (fun s => (0 ≤ s.2.2.2.2.2.2.2)) ?_ ?_
   ·refine W.sr ?_
    refine G.r (Runs.fieldAddr fld24_0 rfl) ?_
    refine G.r (Runs.ld ty22) ?_
    refine G.r (Runs.lens Try.underlying22 rfl) ?_
    refine G.r (Runs.assign rfl) ?_
    refine G.nt ?_
    refine W.sr ?_
    refine G.r (Runs.move rfl) ?_
    refine G.e (Eff.call call25 rfl rfl (Next_ok (by repeat (first | exact AtF.head _ _ | apply AtF.tail)) (Sl.f hl) (by omega) (by omega))) ?_
    rintro _ _ ⟨_, _, ⟨x28, i29, rfl, hx28, hi29, rfl⟩, rfl, rfl⟩
    show G Try.prog κ _ _ _ _ ([(47, I64 (x28)), (46, .pointer (some ⟨dk2, 0, none⟩)), (10, I64 (((f9.length : Nat) : Int))), (45, I64 (((f9.length : Nat) : Int))), (44, .slice ga f9.length gc), (43, .pointer (some ⟨b9, 0, none⟩)), (2, .pointer (some ⟨b1, 0, none⟩)), (5, .pointer (some ⟨dk2, 0, none⟩)), (6, .pointer (some ⟨b6, 0, none⟩)), (7, .pointer (some ⟨b14, 0, none⟩)), (9, .pointer (some ⟨b9, 0, none⟩))] : Env) (vc 3 (.slice ga f9.length gc) (f9) :: vc 3 (.slice gsa sd12.length gsc) (sd12) :: blk b9 [.slice ga f9.length gc, I64 (vl13), .slice gsa sd12.length gsc] 24 :: blk b14 [.slice ad7 f9.length cp8, I64 (vl13), .slice ad10 sd12.length cp11] 24 :: vc 3 (.slice ad10 sd12.length cp11) (sd12) :: vc 3 (.slice ad7 f9.length cp8) (f9) :: blk b6 [I64 (n.nodes), I64 (n.source), I64 (n.sink), .slice ad4 n.arcs.length cp5] 30 :: vc 43 (.slice ad4 n.arcs.length cp5) (n.arcs) :: blk dk2 [.slice la ln lc, I64 (i29)] 129 :: blk b1 [.slice ua fu.length uc, I64 (val0), .slice wa sw.length wc] 24 :: I)
    refine G.nt ?_
    refine W.block ?_
    refine W.sr ?_
    refine G.r (Runs.eql rfl rfl) ?_
    refine G.r (Runs.assign rfl) ?_
    refine G.nt ?_
    refine W.ite rfl (fun c48 => ?_) (fun c48 => ?_)
    ·refine W.sr ?_
     refine G.r (Runs.move rfl) ?_
     refine G.r (Runs.gtr rfl rfl) ?_
     refine G.nt ?_
     refine W.sub (L' := [(51, _), (10, _), (2, _), (5, _), (6, _), (7, _), (9, _)]) (Sub.cons rfl (Sub.cons rfl (Sub.cons rfl (Sub.cons rfl (Sub.cons rfl (Sub.cons rfl (Sub.cons rfl Sub.nil))))))) ?_
     refine W.ite rfl (fun c51 => ?_) (fun c51 => ?_)
     ·refine W.drawn mixed ?_
      refine A.hold (vc 3 (.slice ga f9.length gc) (f9) :: vc 3 (.slice gsa sd12.length gsc) (sd12) :: blk b9 [.slice ga f9.length gc, I64 (vl13), .slice gsa sd12.length gsc] 24 :: blk b14 [.slice ad7 f9.length cp8, I64 (vl13), .slice ad10 sd12.length cp11] 24 :: vc 3 (.slice ad10 sd12.length cp11) (sd12) :: vc 3 (.slice ad7 f9.length cp8) (f9) :: blk b6 [I64 (n.nodes), I64 (n.source), I64 (n.sink), .slice ad4 n.arcs.length cp5] 30 :: vc 43 (.slice ad4 n.arcs.length cp5) (n.arcs) :: blk b1 [.slice ua fu.length uc, I64 (val0), .slice wa sw.length wc] 24 :: I) 12 ?_
      refine D.read 0 rfl (by kernel_rfl) (by kernel_rfl) (by kernel_rfl) rfl (by kernel_rfl) (fun _ _ _ _ h => h) (Wanted.plain rfl) rfl rfl Fit.sub (Runs.fieldAddr fld24_0 rfl) ?_
      refine D.read 1 rfl (by kernel_rfl) (by kernel_rfl) (by kernel_rfl) rfl (by kernel_rfl) (fun _ _ _ _ h => h) (Wanted.plain rfl) rfl rfl Fit.sub (Runs.ld ty22) ?_
      refine D.read 2 rfl (by kernel_rfl) (by kernel_rfl) (by kernel_rfl) rfl (by kernel_rfl) (fun _ _ _ _ h => h) (Wanted.plain rfl) rfl rfl Fit.sub (Runs.move rfl) ?_
      refine D.read 3 rfl (by kernel_rfl) (by kernel_rfl) (by kernel_rfl) rfl (by kernel_rfl) (fun _ _ _ _ h => h) (Wanted.plain rfl) rfl rfl Fit.sub (Runs.move rfl) ?_
      refine D.read 7 rfl (by kernel_rfl) (by kernel_rfl) (by kernel_rfl) rfl (by kernel_rfl) (fun _ _ _ _ h => h) (Wanted.plain rfl) rfl rfl Fit.sub (Runs.move rfl) ?_
      refine D.step (rs := [4]) (by kernel_rfl) rfl rfl (all1 ?_)
      refine Step.eff rfl (Wanted.plain rfl) (Eff.call call25 rfl rfl (Next_ok (by repeat (first | exact AtF.head _ _ | apply AtF.tail)) (Sl.f hl) (by omega) (by omega))) ?_
      rintro _ _ ⟨_, _, ⟨x30, i31, rfl, hx30, hi31, rfl⟩, rfl, rfl⟩
      refine ⟨Fit.sub, ?_⟩
      show D Try.prog κ _ _ _ _ _ _ _ ([(56, I64 (x30)), (59, .pointer (some ⟨dk2, 0, none⟩)), (55, I64 (((f9.length : Nat) : Int))), (54, .pointer (some ⟨dk2, 0, none⟩)), (53, .slice ga f9.length gc), (52, .pointer (some ⟨b9, 0, none⟩)), (51, .bool (decide (0 < ((f9.length : Nat) : Int)))), (10, I64 (((f9.length : Nat) : Int))), (2, .pointer (some ⟨b1, 0, none⟩)), (5, .pointer (some ⟨dk2, 0, none⟩)), (6, .pointer (some ⟨b6, 0, none⟩)), (7, .pointer (some ⟨b14, 0, none⟩)), (9, .pointer (some ⟨b9, 0, none⟩))] : Env) (vc 3 (.slice ga f9.length gc) (f9) :: vc 3 (.slice gsa sd12.length gsc) (sd12) :: blk b9 [.slice ga f9.length gc, I64 (vl13), .slice gsa sd12.length gsc] 24 :: blk b14 [.slice ad7 f9.length cp8, I64 (vl13), .slice ad10 sd12.length cp11] 24 :: vc 3 (.slice ad10 sd12.length cp11) (sd12) :: vc 3 (.slice ad7 f9.length cp8) (f9) :: blk b6 [I64 (n.nodes), I64 (n.source), I64 (n.sink), .slice ad4 n.arcs.length cp5] 30 :: vc 43 (.slice ad4 n.arcs.length cp5) (n.arcs) :: blk dk2 [.slice la ln lc, I64 (i31)] 129 :: blk b1 [.slice ua fu.length uc, I64 (val0), .slice wa sw.length wc] 24 :: I)
      have hcp := cap_ok hflow.cap (i := x30) (by omega) (by omega)
      have hac := arc_ok hok (i := x30) (by omega) (by omega)
      refine D.read 5 rfl (by kernel_rfl) (by kernel_rfl) (by kernel_rfl) rfl (by kernel_rfl) (fun _ _ _ _ h => h) (Wanted.plain rfl) rfl rfl Fit.sub (Runs.idx (α := Int) (xs := f9) Try.underlying22 ty3 rfl rfl Sl.o (by omega) (by omega)) ?_
      refine D.read 6 rfl (by kernel_rfl) (by kernel_rfl) (by kernel_rfl) rfl (by kernel_rfl) (fun _ _ _ _ h => h) (Wanted.plain rfl) rfl rfl Fit.sub (Runs.get (xs := f9) ty3 rfl Sl.o (by omega) (by omega)) ?_
      refine D.step (rs := [8]) (by kernel_rfl) rfl rfl (all1 ?_)
      refine Step.eff rfl (Wanted.plain rfl) (Eff.call call25 rfl rfl (Next_ok (by repeat (first | exact AtF.head _ _ | apply AtF.tail)) (Sl.f hl) (by omega) (by omega))) ?_
      rintro _ _ ⟨_, _, ⟨x32, i33, rfl, hx32, hi33, rfl⟩, rfl, rfl⟩
      refine ⟨Fit.sub, ?_⟩
      show D Try.prog κ _ _ _ _ _ _ _ ([(60, I64 (x32)), (58, I64 (at_ f9 x30)), (57, elemPtr (.slice ga f9.length gc) ((x30).toNat * Enc.sz Int)), (56, I64 (x30)), (59, .pointer (some ⟨dk2, 0, none⟩)), (55, I64 (((f9.length : Nat) : Int))), (54, .pointer (some ⟨dk2, 0, none⟩)), (53, .slice ga f9.length gc), (52, .pointer (some ⟨b9, 0, none⟩)), (51, .bool (decide (0 < ((f9.length : Nat) : Int)))), (10, I64 (((f9.length : Nat) : Int))), (2, .pointer (some ⟨b1, 0, none⟩)), (5, .pointer (some ⟨dk2, 0, none⟩)), (6, .pointer (some ⟨b6, 0, none⟩)), (7, .pointer (some ⟨b14, 0, none⟩)), (9, .pointer (some ⟨b9, 0, none⟩))] : Env) (vc 3 (.slice ga f9.length gc) (f9) :: vc 3 (.slice gsa sd12.length gsc) (sd12) :: blk b9 [.slice ga f9.length gc, I64 (vl13), .slice gsa sd12.length gsc] 24 :: blk b14 [.slice ad7 f9.length cp8, I64 (vl13), .slice ad10 sd12.length cp11] 24 :: vc 3 (.slice ad10 sd12.length cp11) (sd12) :: vc 3 (.slice ad7 f9.length cp8) (f9) :: blk b6 [I64 (n.nodes), I64 (n.source), I64 (n.sink), .slice ad4 n.arcs.length cp5] 30 :: vc 43 (.slice ad4 n.arcs.length cp5) (n.arcs) :: blk dk2 [.slice la ln lc, I64 (i33)] 129 :: blk b1 [.slice ua fu.length uc, I64 (val0), .slice wa sw.length wc] 24 :: I)
      refine D.read 9 rfl (by kernel_rfl) (by kernel_rfl) (by kernel_rfl) rfl (by kernel_rfl) (fun _ _ _ _ h => h) (Wanted.plain rfl) rfl rfl Fit.sub (Runs.sub rfl rfl (by unfold InR; omega)) ?_
      refine D.read 10 rfl (by kernel_rfl) (by kernel_rfl) (by kernel_rfl) rfl (by kernel_rfl) (fun _ _ _ _ h => h) (Wanted.plain rfl) rfl rfl Fit.sub (Runs.add rfl rfl (by unfold InR; omega)) ?_
      refine D.read 11 rfl (by kernel_rfl) (by kernel_rfl) (by kernel_rfl) rfl (by kernel_rfl) (fun _ _ _ _ h => h) (Wanted.plain rfl) rfl rfl Fit.sub (Runs.idx (α := Int) (xs := f9) Try.underlying22 ty3 rfl rfl Sl.o (by omega) (by omega)) ?_
      refine D.stop (by kernel_rfl) ?_
      refine A.eff (i := 12) (by kernel_rfl) rfl (Wanted.plain rfl) (Eff.set (α := Int) (xs := f9) (e := 3) (new := (at_ f9 x30) + (x32 - 1)) ty3 rfl rfl rfl (by omega) (by omega) (by repeat (first | exact At.head _ _ _ | apply At.tail))) ?_
      rintro _ _ ⟨rfl, rfl⟩
      refine A.done (by kernel_rfl) ?_
      refine V.block_normal ?_
      exact V.mid ((ga), (gc), (List.set f9 (x30).toNat ((at_ f9 x30) + (x32 - 1))), (vl13), (gsa), (gsc), (sd12), (i33)) (show (0 ≤ (i33 : Int)) from (by omega)) (Sub.cons rfl (Sub.cons rfl (Sub.cons rfl (Sub.cons rfl Sub.nil)))) (show Fit κ _ (vc 3 (.slice (ga) (List.set f9 (x30).toNat ((at_ f9 x30) + (x32 - 1))).length (gc)) ((List.set f9 (x30).toNat ((at_ f9 x30) + (x32 - 1)))) :: vc 3 (.slice (gsa) (sd12).length (gsc)) ((sd12)) :: blk b9 [.slice (ga) (List.set f9 (x30).toNat ((at_ f9 x30) + (x32 - 1))).length (gc), I64 ((vl13)), .slice (gsa) (sd12).length (gsc)] 24 :: blk b14 [.slice ad7 f9.length cp8, I64 (vl13), .slice ad10 sd12.length cp11] 24 :: vc 3 (.slice ad10 sd12.length cp11) (sd12) :: vc 3 (.slice ad7 f9.length cp8) (f9) :: blk b6 [I64 (n.nodes), I64 (n.source), I64 (n.sink), .slice ad4 n.arcs.length cp5] 30 :: vc 43 (.slice ad4 n.arcs.length cp5) (n.arcs) :: blk dk2 [.slice la ln lc, I64 ((i33))] 129 :: blk b1 [.slice ua fu.length uc, I64 (val0), .slice wa sw.length wc] 24 :: I) from (by first | (simp only [List.length_set]; exact Fit.s) | exact Fit.s))
     ·refine W.skip ?_
      refine V.block_normal ?_
      exact V.mid ((ga), (gc), (f9), (vl13), (gsa), (gsc), (sd12), (i29)) (show (0 ≤ (i29 : Int)) from (by omega)) (Sub.cons rfl (Sub.cons rfl (Sub.cons rfl (Sub.cons rfl Sub.nil)))) (show Fit κ _ (vc 3 (.slice (ga) (f9).length (gc)) ((f9)) :: vc 3 (.slice (gsa) (sd12).length (gsc)) ((sd12)) :: blk b9 [.slice (ga) (f9).length (gc), I64 ((vl13)), .slice (gsa) (sd12).length (gsc)] 24 :: blk b14 [.slice ad7 f9.length cp8, I64 (vl13), .slice ad10 sd12.length cp11] 24 :: vc 3 (.slice ad10 sd12.length cp11) (sd12) :: vc 3 (.slice ad7 f9.length cp8) (f9) :: blk b6 [I64 (n.nodes), I64 (n.source), I64 (n.sink), .slice ad4 n.arcs.length cp5] 30 :: vc 43 (.slice ad4 n.arcs.length cp5) (n.arcs) :: blk dk2 [.slice la ln lc, I64 ((i29))] 129 :: blk b1 [.slice ua fu.length uc, I64 (val0), .slice wa sw.length wc] 24 :: I) from (by first | (simp only [List.length_set]; exact Fit.s) | exact Fit.s))
    ·refine W.sr ?_
     refine G.r (Runs.eql rfl rfl) ?_
     refine G.r (Runs.assign rfl) ?_
     refine G.nt ?_
     refine W.sub (L' := [(64, _), (47, _), (2, _), (5, _), (6, _), (7, _), (9, _)]) (Sub.cons rfl (Sub.cons rfl (Sub.cons rfl (Sub.cons rfl (Sub.cons rfl (Sub.cons rfl (Sub.cons rfl Sub.nil))))))) ?_
     refine W.ite rfl (fun c64 => ?_) (fun c64 => ?_)
     ·refine W.drawn mixed ?_
      refine A.hold (vc 3 (.slice ga f9.length gc) (f9) :: vc 3 (.slice gsa sd12.length gsc) (sd12) :: blk b9 [.slice ga f9.length gc, I64 (vl13), .slice gsa sd12.length gsc] 24 :: blk b14 [.slice ad7 f9.length cp8, I64 (vl13), .slice ad10 sd12.length cp11] 24 :: vc 3 (.slice ad10 sd12.length cp11) (sd12) :: vc 3 (.slice ad7 f9.length cp8) (f9) :: blk b6 [I64 (n.nodes), I64 (n.source), I64 (n.sink), .slice ad4 n.arcs.length cp5] 30 :: vc 43 (.slice ad4 n.arcs.length cp5) (n.arcs) :: blk b1 [.slice ua fu.length uc, I64 (val0), .slice wa sw.length wc] 24 :: I) 7 ?_
      refine D.read 0 rfl (by kernel_rfl) (by kernel_rfl) (by kernel_rfl) rfl (by kernel_rfl) (fun _ _ _ _ h => h) (Wanted.plain rfl) rfl rfl Fit.sub (Runs.fieldAddr fld24_1 rfl) ?_
      refine D.read 1 rfl (by kernel_rfl) (by kernel_rfl) (by kernel_rfl) rfl (by kernel_rfl) (fun _ _ _ _ h => h) (Wanted.plain rfl) rfl rfl Fit.sub (Runs.ld ty3) ?_
      refine D.read 2 rfl (by kernel_rfl) (by kernel_rfl) (by kernel_rfl) rfl (by kernel_rfl) (fun _ _ _ _ h => h) (Wanted.plain rfl) rfl rfl Fit.sub (Runs.move rfl) ?_
      refine D.step (rs := [3]) (by kernel_rfl) rfl rfl (all1 ?_)
      refine Step.eff rfl (Wanted.plain rfl) (Eff.call call25 rfl rfl (Next_ok (by repeat (first | exact AtF.head _ _ | apply AtF.tail)) (Sl.f hl) (by omega) (by omega))) ?_
      rintro _ _ ⟨_, _, ⟨x34, i35, rfl, hx34, hi35, rfl⟩, rfl, rfl⟩
      refine ⟨Fit.sub, ?_⟩
      show D Try.prog κ _ _ _ _ _ _ _ ([(69, I64 (x34)), (68, .pointer (some ⟨dk2, 0, none⟩)), (67, I64 (vl13)), (66, .pointer (some ⟨b9, 1, none⟩)), (64, .bool (decide (x28 = 1))), (47, I64 (x28)), (2, .pointer (some ⟨b1, 0, none⟩)), (5, .pointer (some ⟨dk2, 0, none⟩)), (6, .pointer (some ⟨b6, 0, none⟩)), (7, .pointer (some ⟨b14, 0, none⟩)), (9, .pointer (some ⟨b9, 0, none⟩))] : Env) (vc 3 (.slice ga f9.length gc) (f9) :: vc 3 (.slice gsa sd12.length gsc) (sd12) :: blk b9 [.slice ga f9.length gc, I64 (vl13), .slice gsa sd12.length gsc] 24 :: blk b14 [.slice ad7 f9.length cp8, I64 (vl13), .slice ad10 sd12.length cp11] 24 :: vc 3 (.slice ad10 sd12.length cp11) (sd12) :: vc 3 (.slice ad7 f9.length cp8) (f9) :: blk b6 [I64 (n.nodes), I64 (n.source), I64 (n.sink), .slice ad4 n.arcs.length cp5] 30 :: vc 43 (.slice ad4 n.arcs.length cp5) (n.arcs) :: blk dk2 [.slice la ln lc, I64 (i35)] 129 :: blk b1 [.slice ua fu.length uc, I64 (val0), .slice wa sw.length wc] 24 :: I)
      refine D.read 4 rfl (by kernel_rfl) (by kernel_rfl) (by kernel_rfl) rfl (by kernel_rfl) (fun _ _ _ _ h => h) (Wanted.plain rfl) rfl rfl Fit.sub (Runs.sub rfl rfl (by unfold InR; omega)) ?_
      refine D.read 5 rfl (by kernel_rfl) (by kernel_rfl) (by kernel_rfl) rfl (by kernel_rfl) (fun _ _ _ _ h => h) (Wanted.plain rfl) rfl rfl Fit.sub (Runs.add rfl rfl (by unfold InR; omega)) ?_
      refine D.read 6 rfl (by kernel_rfl) (by kernel_rfl) (by kernel_rfl) rfl (by kernel_rfl) (fun _ _ _ _ h => h) (Wanted.plain rfl) rfl rfl Fit.sub (Runs.fieldAddr fld24_1 rfl) ?_
      refine D.stop (by kernel_rfl) ?_
      refine A.eff (i := 7) (by kernel_rfl) rfl (Wanted.plain rfl) (Eff.st (cs := [_, _, _]) (vs := [_]) (cs' := [_, _, _]) ty3) ?_
      rintro _ _ ⟨rfl, rfl⟩
      refine A.done (by kernel_rfl) ?_
      refine V.block_normal ?_
      exact V.mid ((ga), (gc), (f9), (vl13 + (x34 - 1)), (gsa), (gsc), (sd12), (i35)) (show (0 ≤ (i35 : Int)) from (by omega)) (Sub.cons rfl (Sub.cons rfl (Sub.cons rfl (Sub.cons rfl Sub.nil)))) (show Fit κ _ (vc 3 (.slice (ga) (f9).length (gc)) ((f9)) :: vc 3 (.slice (gsa) (sd12).length (gsc)) ((sd12)) :: blk b9 [.slice (ga) (f9).length (gc), I64 ((vl13 + (x34 - 1))), .slice (gsa) (sd12).length (gsc)] 24 :: blk b14 [.slice ad7 f9.length cp8, I64 (vl13), .slice ad10 sd12.length cp11] 24 :: vc 3 (.slice ad10 sd12.length cp11) (sd12) :: vc 3 (.slice ad7 f9.length cp8) (f9) :: blk b6 [I64 (n.nodes), I64 (n.source), I64 (n.sink), .slice ad4 n.arcs.length cp5] 30 :: vc 43 (.slice ad4 n.arcs.length cp5) (n.arcs) :: blk dk2 [.slice la ln lc, I64 ((i35))] 129 :: blk b1 [.slice ua fu.length uc, I64 (val0), .slice wa sw.length wc] 24 :: I) from (by first | (simp only [List.length_set]; exact Fit.s) | exact Fit.s))
     ·refine W.sr ?_
      refine G.r (Runs.eql rfl rfl) ?_
      refine G.r (Runs.assign rfl) ?_
      refine G.nt ?_
      refine W.ite rfl (fun c73 => ?_) (fun c73 => ?_)
      ·refine W.region ?_
       refine G.r (Runs.move rfl) ?_
       refine G.r (Runs.fieldAddr fld30_0 rfl) ?_
       refine G.r (Runs.ld ty3) ?_
       refine G.e (Eff.call call26 rfl rfl (Set_at (by repeat (first | exact AtF.head _ _ | apply AtF.tail)) (fun _ => Sl.fit hl Fit.m) (by omega) (by omega))) ?_
       rintro _ _ ⟨_, _, ⟨ad37, cp38, o39, i36, rfl, ho39, hlo39, hi36, rfl⟩, rfl, rfl⟩
       show G Try.prog κ _ _ _ _ ([(78, .slice ad37 o39.length cp38), (77, I64 (n.nodes)), (76, .pointer (some ⟨b6, 0, none⟩)), (75, .pointer (some ⟨dk2, 0, none⟩)), (73, .bool (decide (x28 = 2))), (74, .bool (decide (x28 = 2))), (64, .bool (decide (x28 = 1))), (47, I64 (x28)), (2, .pointer (some ⟨b1, 0, none⟩)), (5, .pointer (some ⟨dk2, 0, none⟩)), (6, .pointer (some ⟨b6, 0, none⟩)), (7, .pointer (some ⟨b14, 0, none⟩)), (9, .pointer (some ⟨b9, 0, none⟩))] : Env) (vc 3 (.slice ad37 o39.length cp38) (o39) :: vc 3 (.slice ga f9.length gc) (f9) :: vc 3 (.slice gsa sd12.length gsc) (sd12) :: blk b9 [.slice ga f9.length gc, I64 (vl13), .slice gsa sd12.length gsc] 24 :: blk b14 [.slice ad7 f9.length cp8, I64 (vl13), .slice ad10 sd12.length cp11] 24 :: vc 3 (.slice ad10 sd12.length cp11) (sd12) :: vc 3 (.slice ad7 f9.length cp8) (f9) :: blk b6 [I64 (n.nodes), I64 (n.source), I64 (n.sink), .slice ad4 n.arcs.length cp5] 30 :: vc 43 (.slice ad4 n.arcs.length cp5) (n.arcs) :: blk dk2 [.slice la ln lc, I64 (i36)] 129 :: blk b1 [.slice ua fu.length uc, I64 (val0), .slice wa sw.length wc] 24 :: I)
       refine G.r (Runs.fieldAddr fld24_2 rfl) ?_
       refine G.e (Eff.st (cs := [_, _, _]) (vs := [_]) (cs' := [_, _, _]) ty22) ?_
       rintro _ _ ⟨rfl, rfl⟩
       refine G.nil ?_
       refine V.block_normal ?_
       exact V.mid ((ga), (gc), (f9), (vl13), (ad37), (cp38), (o39), (i36)) (show (0 ≤ (i36 : Int)) from (by omega)) (Sub.cons rfl (Sub.cons rfl (Sub.cons rfl (Sub.cons rfl Sub.nil)))) (show Fit κ _ (vc 3 (.slice (ga) (f9).length (gc)) ((f9)) :: vc 3 (.slice (ad37) (o39).length (cp38)) ((o39)) :: blk b9 [.slice (ga) (f9).length (gc), I64 ((vl13)), .slice (ad37) (o39).length (cp38)] 24 :: blk b14 [.slice ad7 f9.length cp8, I64 (vl13), .slice ad10 sd12.length cp11] 24 :: vc 3 (.slice ad10 sd12.length cp11) (sd12) :: vc 3 (.slice ad7 f9.length cp8) (f9) :: blk b6 [I64 (n.nodes), I64 (n.source), I64 (n.sink), .slice ad4 n.arcs.length cp5] 30 :: vc 43 (.slice ad4 n.arcs.length cp5) (n.arcs) :: blk dk2 [.slice la ln lc, I64 ((i36))] 129 :: blk b1 [.slice ua fu.length uc, I64 (val0), .slice wa sw.length wc] 24 :: I) from (by first | (simp only [List.length_set]; exact Fit.s) | exact Fit.s))
      ·refine W.sr ?_
       refine G.r (Runs.eql rfl rfl) ?_
       refine G.r (Runs.assign rfl) ?_
       refine G.nt ?_
       refine W.ite rfl (fun c80 => ?_) (fun c80 => ?_)
       ·refine W.region ?_
        refine G.r (Runs.fieldAddr fld24_0 rfl) ?_
        refine G.r (Runs.ld ty22) ?_
        refine G.e (Eff.bs (α := Int) (cs := [_]) (xs := [0]) Try.underlying22 ty3 rfl rfl (by decide) (by decide) rfl rfl rfl rfl) ?_
        rintro _ _ ⟨ad40, rfl, rfl⟩
        refine G.e (Eff.app (α := Int) (e := 3) (xs := f9) (ys := ([0] : List Int)) Try.underlying22 ty3 rfl rfl rfl (by repeat (first | exact List.mem_cons_self | apply List.mem_cons_of_mem)) Sl.o (by first | omega | (simp only [List.length_cons, List.length_nil]; omega)) (by decide) rfl (fun _ _ => (by repeat (first | exact At.head _ _ _ | apply At.tail)))) ?_
        rintro _ _ ⟨ad41, cp42, rfl, rfl⟩
        refine G.r (Runs.fieldAddr fld24_0 rfl) ?_
        refine G.e (Eff.st (cs := [_, _, _]) (vs := [_]) (cs' := [_, _, _]) ty22) ?_
        rintro _ _ ⟨rfl, rfl⟩
        refine G.nil ?_
        refine V.block_normal ?_
        exact V.mid ((ad41), (cp42), (f9 ++ ([0] : List Int)), (vl13), (gsa), (gsc), (sd12), (i29)) (show (0 ≤ (i29 : Int)) from (by omega)) (Sub.cons rfl (Sub.cons rfl (Sub.cons rfl (Sub.cons rfl Sub.nil)))) (show Fit κ _ (vc 3 (.slice (ad41) (f9 ++ ([0] : List Int)).length (cp42)) ((f9 ++ ([0] : List Int))) :: vc 3 (.slice (gsa) (sd12).length (gsc)) ((sd12)) :: blk b9 [.slice (ad41) (f9 ++ ([0] : List Int)).length (cp42), I64 ((vl13)), .slice (gsa) (sd12).length (gsc)] 24 :: blk b14 [.slice ad7 f9.length cp8, I64 (vl13), .slice ad10 sd12.length cp11] 24 :: vc 3 (.slice ad10 sd12.length cp11) (sd12) :: vc 3 (.slice ad7 f9.length cp8) (f9) :: blk b6 [I64 (n.nodes), I64 (n.source), I64 (n.sink), .slice ad4 n.arcs.length cp5] 30 :: vc 43 (.slice ad4 n.arcs.length cp5) (n.arcs) :: blk dk2 [.slice la ln lc, I64 ((i29))] 129 :: blk b1 [.slice ua fu.length uc, I64 (val0), .slice wa sw.length wc] 24 :: I) from (by first | (simp only [List.length_set]; exact Fit.s) | exact Fit.s))
       ·refine W.skip ?_
        refine V.block_normal ?_
        exact V.mid ((ga), (gc), (f9), (vl13), (gsa), (gsc), (sd12), (i29)) (show (0 ≤ (i29 : Int)) from (by omega)) (Sub.cons rfl (Sub.cons rfl (Sub.cons rfl (Sub.cons rfl Sub.nil)))) (show Fit κ _ (vc 3 (.slice (ga) (f9).length (gc)) ((f9)) :: vc 3 (.slice (gsa) (sd12).length (gsc)) ((sd12)) :: blk b9 [.slice (ga) (f9).length (gc), I64 ((vl13)), .slice (gsa) (sd12).length (gsc)] 24 :: blk b14 [.slice ad7 f9.length cp8, I64 (vl13), .slice ad10 sd12.length cp11] 24 :: vc 3 (.slice ad10 sd12.length cp11) (sd12) :: vc 3 (.slice ad7 f9.length cp8) (f9) :: blk b6 [I64 (n.nodes), I64 (n.source), I64 (n.sink), .slice ad4 n.arcs.length cp5] 30 :: vc 43 (.slice ad4 n.arcs.length cp5) (n.arcs) :: blk dk2 [.slice la ln lc, I64 ((i29))] 129 :: blk b1 [.slice ua fu.length uc, I64 (val0), .slice wa sw.length wc] 24 :: I) from (by first | (simp only [List.length_set]; exact Fit.s) | exact Fit.s))
   ·rintro ⟨ga1, gc1, gl, gval, gsa1, gsc1, gsl, i9⟩ hp
    have hi9 : (0 ≤ i9) := hp
    show W Try.prog κ 129 _ _ ([(2, .pointer (some ⟨b1, 0, none⟩)), (6, .pointer (some ⟨b6, 0, none⟩)), (7, .pointer (some ⟨b14, 0, none⟩)), (9, .pointer (some ⟨b9, 0, none⟩))] : Env) (vc 3 (.slice ga1 gl.length gc1) (gl) :: vc 3 (.slice gsa1 gsl.length gsc1) (gsl) :: blk b9 [.slice ga1 gl.length gc1, I64 (gval), .slice gsa1 gsl.length gsc1] 24 :: blk b14 [.slice ad7 f9.length cp8, I64 (vl13), .slice ad10 sd12.length cp11] 24 :: vc 3 (.slice ad10 sd12.length cp11) (sd12) :: vc 3 (.slice ad7 f9.length cp8) (f9) :: blk b6 [I64 (n.nodes), I64 (n.source), I64 (n.sink), .slice ad4 n.arcs.length cp5] 30 :: vc 43 (.slice ad4 n.arcs.length cp5) (n.arcs) :: blk dk2 [.slice la ln lc, I64 (i9)] 129 :: blk b1 [.slice ua fu.length uc, I64 (val0), .slice wa sw.length wc] 24 :: I)
    refine W.sr ?_
    refine G.r (Runs.lds (vs := [_, _, _, _]) ty30) ?_
    refine G.e (Eff.call call27 rfl rfl (RGreat_ok (n := n) Sl.o hok)) ?_
    rintro _ _ ⟨_, _, ⟨ad43, cp44, gr45, rfl, hgr45, rfl⟩, rfl, rfl⟩
    refine G.r (Runs.move rfl) ?_
    refine G.r (Runs.extract rfl rfl) ?_
    refine G.r (Runs.extract rfl rfl) ?_
    refine G.r (Runs.assign rfl) ?_
    refine G.r (Runs.assign rfl) ?_
    refine G.nt ?_
    refine W.sr ?_
    refine G.r (Runs.fieldAddr fld24_0 rfl) ?_
    refine G.r (Runs.ld ty22) ?_
    refine G.r (Runs.fieldAddr fld24_1 rfl) ?_
    refine G.r (Runs.ld ty3) ?_
    refine G.r (Runs.move rfl) ?_
    refine G.r (Runs.build (cells := [_, _, _]) ty24 Try.underlying24 pl24 rfl rfl) ?_
    refine G.e (Eff.alloc ty24 rfl) ?_
    rintro _ _ ⟨b46, rfl, rfl⟩
    refine G.e (Eff.st (cs := [_, _, _]) (vs := [_, _, _]) (cs' := [_, _, _]) ty24) ?_
    rintro _ _ ⟨rfl, rfl⟩
    refine G.nt ?_
    refine W.sub (L' := [(13, _), (2, _), (6, _), (7, _), (9, _)]) (Sub.cons rfl (Sub.cons rfl (Sub.cons rfl (Sub.cons rfl (Sub.cons rfl Sub.nil))))) ?_
    refine W.seq ?_
    refine W.sr ?_
    refine G.r (Runs.lds (vs := [_, _, _]) ty24) ?_
    refine G.r (Runs.lds (vs := [_, _, _]) ty24) ?_
    refine G.r (Runs.lds (vs := [_, _, _]) ty24) ?_
    refine G.r (Runs.lds (vs := [_, _, _]) ty24) ?_
    refine G.e (Eff.bs (α := FRow) (cs := [.slice ad7 f9.length cp8, I64 (vl13), .slice ad10 sd12.length cp11, .slice ga1 gl.length gc1, I64 (gval), .slice gsa1 gsl.length gsc1, .slice ad7 f9.length cp8, I64 (vl13), .slice ad43 gr45.length cp44, .slice ua fu.length uc, I64 (val0), .slice wa sw.length wc]) (xs := [⟨ad7, cp8, f9, vl13, ad10, cp11, sd12⟩, ⟨ga1, gc1, gl, gval, gsa1, gsc1, gsl⟩, ⟨ad7, cp8, f9, vl13, ad43, cp44, gr45⟩, ⟨ua, uc, fu, val0, wa, wc, sw⟩]) Try.underlying39 ty24 rfl rfl (by decide) (by decide) rfl (by kernel_rfl) rfl rfl) ?_
    rintro _ _ ⟨ad47, rfl, rfl⟩
    generalize hX : ([⟨ad7, cp8, f9, vl13, ad10, cp11, sd12⟩, ⟨ga1, gc1, gl, gval, gsa1, gsc1, gsl⟩, ⟨ad7, cp8, f9, vl13, ad43, cp44, gr45⟩, ⟨ua, uc, fu, val0, wa, wc, sw⟩] : List FRow) = X
    have hXl : X.length = 4 := by rw [← hX]; rfl
    refine G.r (Runs.lens Try.underlying39 rfl) ?_
    refine G.r (Runs.move rfl) ?_
    have hheld : ∀ i : Int, 0 ≤ i → i < 4 → FRow.Held κ (vc 24 (.slice ad47 4 4) (X) :: blk b46 [.slice ad7 f9.length cp8, I64 (vl13), .slice ad43 gr45.length cp44] 24 :: vc 3 (.slice ad43 gr45.length cp44) (gr45) :: vc 3 (.slice ga1 gl.length gc1) (gl) :: vc 3 (.slice gsa1 gsl.length gsc1) (gsl) :: blk b9 [.slice ga1 gl.length gc1, I64 (gval), .slice gsa1 gsl.length gsc1] 24 :: blk b14 [.slice ad7 f9.length cp8, I64 (vl13), .slice ad10 sd12.length cp11] 24 :: vc 3 (.slice ad10 sd12.length cp11) (sd12) :: vc 3 (.slice ad7 f9.length cp8) (f9) :: blk b6 [I64 (n.nodes), I64 (n.source), I64 (n.sink), .slice ad4 n.arcs.length cp5] 30 :: vc 43 (.slice ad4 n.arcs.length cp5) (n.arcs) :: blk dk2 [.slice la ln lc, I64 (i9)] 129 :: blk b1 [.slice ua fu.length uc, I64 (val0), .slice wa sw.length wc] 24 :: I) (at_ X i) := by rw [← hX]; exact held4 (FRow.held_mk (Sl.o (e := 3)) (Sl.o (e := 3))) (FRow.held_mk (Sl.o (e := 3)) (Sl.o (e := 3))) (FRow.held_mk (Sl.o (e := 3)) (Sl.o (e := 3))) (FRow.held_mk (Sl.f hu) (Sl.f hw))
    refine G.nt ?_
    refine W.block ?_
    refine W.loop (σ := Nat) (fun s => ([(6, .pointer (some ⟨b6, 0, none⟩)), (7, .pointer (some ⟨b14, 0, none⟩)), (13, .pointer (some ⟨b46, 0, none⟩)), (102, .slice ad47 4 4), (103, I64 (((4 : Nat) : Int))), (104, I64 (((s : Nat) : Int)))] : Env)) (fun s => vc 24 (.slice ad47 4 4) (X) :: blk b46 [.slice ad7 f9.length cp8, I64 (vl13), .slice ad43 gr45.length cp44] 24 :: vc 3 (.slice ad43 gr45.length cp44) (gr45) :: vc 3 (.slice ga1 gl.length gc1) (gl) :: vc 3 (.slice gsa1 gsl.length gsc1) (gsl) :: blk b9 [.slice ga1 gl.length gc1, I64 (gval), .slice gsa1 gsl.length gsc1] 24 :: blk b14 [.slice ad7 f9.length cp8, I64 (vl13), .slice ad10 sd12.length cp11] 24 :: vc 3 (.slice ad10 sd12.length cp11) (sd12) :: vc 3 (.slice ad7 f9.length cp8) (f9) :: blk b6 [I64 (n.nodes), I64 (n.source), I64 (n.sink), .slice ad4 n.arcs.length cp5] 30 :: vc 43 (.slice ad4 n.arcs.length cp5) (n.arcs) :: blk dk2 [.slice la ln lc, I64 (i9)] 129 :: blk b1 [.slice ua fu.length uc, I64 (val0), .slice wa sw.length wc] 24 :: I) (fun s => (s ≤ 4)) (fun s => 4 - s) (0) (show ((0 : Nat) ≤ 4) from (by omega)) (Sub.cons rfl (Sub.cons rfl (Sub.cons rfl (Sub.cons rfl (Sub.cons rfl (Sub.cons (lookI rfl (by omega)) Sub.nil)))))) (show Fit κ _ (vc 24 (.slice ad47 4 4) (X) :: blk b46 [.slice ad7 f9.length cp8, I64 (vl13), .slice ad43 gr45.length cp44] 24 :: vc 3 (.slice ad43 gr45.length cp44) (gr45) :: vc 3 (.slice ga1 gl.length gc1) (gl) :: vc 3 (.slice gsa1 gsl.length gsc1) (gsl) :: blk b9 [.slice ga1 gl.length gc1, I64 (gval), .slice gsa1 gsl.length gsc1] 24 :: blk b14 [.slice ad7 f9.length cp8, I64 (vl13), .slice ad10 sd12.length cp11] 24 :: vc 3 (.slice ad10 sd12.length cp11) (sd12) :: vc 3 (.slice ad7 f9.length cp8) (f9) :: blk b6 [I64 (n.nodes), I64 (n.source), I64 (n.sink), .slice ad4 n.arcs.length cp5] 30 :: vc 43 (.slice ad4 n.arcs.length cp5) (n.arcs) :: blk dk2 [.slice la ln lc, I64 (i9)] 129 :: blk b1 [.slice ua fu.length uc, I64 (val0), .slice wa sw.length wc] 24 :: I) from Fit.sub) ?_
    rintro k hp
    have hk : (k ≤ 4) := hp
    show W Try.prog κ 129 _ _ ([(6, .pointer (some ⟨b6, 0, none⟩)), (7, .pointer (some ⟨b14, 0, none⟩)), (13, .pointer (some ⟨b46, 0, none⟩)), (102, .slice ad47 4 4), (103, I64 (((4 : Nat) : Int))), (104, I64 (((k : Nat) : Int)))] : Env) (vc 24 (.slice ad47 4 4) (X) :: blk b46 [.slice ad7 f9.length cp8, I64 (vl13), .slice ad43 gr45.length cp44] 24 :: vc 3 (.slice ad43 gr45.length cp44) (gr45) :: vc 3 (.slice ga1 gl.length gc1) (gl) :: vc 3 (.slice gsa1 gsl.length gsc1) (gsl) :: blk b9 [.slice ga1 gl.length gc1, I64 (gval), .slice gsa1 gsl.length gsc1] 24 :: blk b14 [.slice ad7 f9.length cp8, I64 (vl13), .slice ad10 sd12.length cp11] 24 :: vc 3 (.slice ad10 sd12.length cp11) (sd12) :: vc 3 (.slice ad7 f9.length cp8) (f9) :: blk b6 [I64 (n.nodes), I64 (n.source), I64 (n.sink), .slice ad4 n.arcs.length cp5] 30 :: vc 43 (.slice ad4 n.arcs.length cp5) (n.arcs) :: blk dk2 [.slice la ln lc, I64 (i9)] 129 :: blk b1 [.slice ua fu.length uc, I64 (val0), .slice wa sw.length wc] 24 :: I)
    refine W.sr ?_
    refine G.r (Runs.lss rfl rfl) ?_
    refine G.nt ?_
    refine W.seq ?_
    refine W.ite rfl (fun c105 => ?_) (fun c105 => ?_)
    ·refine W.skip ?_
     refine V.then ?_
     refine W.seq ?_
     refine W.block ?_
     refine W.sr ?_
     refine G.r (Runs.idx (α := FRow) (xs := X) Try.underlying39 ty24 rfl rfl Sl.o (by omega) (by omega)) ?_
     refine G.r (Runs.gets (α := FRow) (xs := X) ty24 rfl Sl.o (by omega) (by omega)) ?_
     refine G.e (Eff.alloc ty24 rfl) ?_
     rintro _ _ ⟨b48, rfl, rfl⟩
     refine G.e (Eff.st (cs := [_, _, _]) (vs := [_, _, _]) (cs' := [_, _, _]) ty24) ?_
     rintro _ _ ⟨rfl, rfl⟩
     refine G.nt ?_
     refine W.seq ?_
     refine W.drawn mixed ?_
     refine A.hold (blk b48 [.slice (at_ X ((k : Nat) : Int)).fa (at_ X ((k : Nat) : Int)).fl.length (at_ X ((k : Nat) : Int)).fc, I64 ((at_ X ((k : Nat) : Int)).val), .slice (at_ X ((k : Nat) : Int)).sa (at_ X ((k : Nat) : Int)).sl.length (at_ X ((k : Nat) : Int)).sc] 24 :: vc 24 (.slice ad47 4 4) (X) :: blk b46 [.slice ad7 f9.length cp8, I64 (vl13), .slice ad43 gr45.length cp44] 24 :: vc 3 (.slice ad43 gr45.length cp44) (gr45) :: vc 3 (.slice ga1 gl.length gc1) (gl) :: vc 3 (.slice gsa1 gsl.length gsc1) (gsl) :: blk b9 [.slice ga1 gl.length gc1, I64 (gval), .slice gsa1 gsl.length gsc1] 24 :: blk b14 [.slice ad7 f9.length cp8, I64 (vl13), .slice ad10 sd12.length cp11] 24 :: vc 3 (.slice ad10 sd12.length cp11) (sd12) :: vc 3 (.slice ad7 f9.length cp8) (f9) :: blk b6 [I64 (n.nodes), I64 (n.source), I64 (n.sink), .slice ad4 n.arcs.length cp5] 30 :: vc 43 (.slice ad4 n.arcs.length cp5) (n.arcs) :: blk dk2 [.slice la ln lc, I64 (i9)] 129 :: blk b1 [.slice ua fu.length uc, I64 (val0), .slice wa sw.length wc] 24 :: I) 7 ?_
     refine D.r 0 rfl (Runs.lds (vs := [_, _, _, _]) ty30) ?_
     refine D.r 1 rfl (Runs.lds (vs := [_, _, _]) ty24) ?_
     refine D.r 3 rfl (Runs.lds (vs := [_, _, _, _]) ty30) ?_
     refine D.r 4 rfl (Runs.lds (vs := [_, _, _]) ty24) ?_
     refine D.step (rs := [2]) (by kernel_rfl) rfl rfl (all1 ?_)
     refine Step.eff rfl (Wanted.plain rfl) (Eff.call call28 rfl rfl (FProves_ok (n := n) Sl.o (Sl.fit (hheld ((k : Nat) : Int) (by omega) (by omega)).1 Fit.m) (Sl.fit (hheld ((k : Nat) : Int) (by omega) (by omega)).2 Fit.m))) ?_
     rintro _ _ ⟨_, _, ⟨rfl, rfl⟩, rfl, rfl⟩
     refine ⟨Fit.m, ?_⟩
     refine D.step (rs := [5]) (by kernel_rfl) rfl rfl (all1 ?_)
     refine Step.eff rfl (Wanted.plain rfl) (Eff.call call29 rfl rfl (RProves_ok (n := n) Sl.o (Sl.fit (hheld ((k : Nat) : Int) (by omega) (by omega)).1 Fit.m) (Sl.fit (hheld ((k : Nat) : Int) (by omega) (by omega)).2 Fit.m))) ?_
     rintro _ _ ⟨_, _, ⟨rfl, rfl⟩, rfl, rfl⟩
     refine ⟨Fit.m, ?_⟩
     refine D.r 6 rfl (Runs.neq rfl rfl) ?_
     refine D.done (by kernel_rfl) ?_
     refine V.then ?_
     refine W.sub (L' := [(114, _), (6, _), (7, _), (13, _), (102, _), (103, _), (104, _)]) (Sub.cons rfl (Sub.cons rfl (Sub.cons rfl (Sub.cons rfl (Sub.cons rfl (Sub.cons rfl (Sub.cons rfl Sub.nil))))))) ?_
     refine W.ite rfl (fun c114 => ?_) (fun c114 => ?_)
     ·refine W.sr ?_
      refine G.r (Runs.assign rfl) ?_
      refine G.nt ?_
      refine W.ret ?_
      refine V.block_ret ?_
      refine V.then_ret ?_
      refine V.then_ret ?_
      refine V.block_ret ?_
      refine V.then_ret ?_
      exact absurd rfl c114
     ·refine W.skip ?_
      refine V.block_normal ?_
      refine V.then ?_
      refine W.region ?_
      refine G.r (Runs.add rfl rfl (by unfold InR; omega)) ?_
      refine G.r (Runs.move rfl) ?_
      refine G.nil ?_
      exact V.next ((k + 1)) (show ((k + 1 : Nat) ≤ 4) from (by omega)) (show 4 - (k + 1 : Nat) < 4 - k from (by omega)) (Sub.cons rfl (Sub.cons rfl (Sub.cons rfl (Sub.cons rfl (Sub.cons rfl (Sub.cons (lookI rfl (by omega)) Sub.nil)))))) (show Fit κ _ (vc 24 (.slice ad47 4 4) (X) :: blk b46 [.slice ad7 f9.length cp8, I64 (vl13), .slice ad43 gr45.length cp44] 24 :: vc 3 (.slice ad43 gr45.length cp44) (gr45) :: vc 3 (.slice ga1 gl.length gc1) (gl) :: vc 3 (.slice gsa1 gsl.length gsc1) (gsl) :: blk b9 [.slice ga1 gl.length gc1, I64 (gval), .slice gsa1 gsl.length gsc1] 24 :: blk b14 [.slice ad7 f9.length cp8, I64 (vl13), .slice ad10 sd12.length cp11] 24 :: vc 3 (.slice ad10 sd12.length cp11) (sd12) :: vc 3 (.slice ad7 f9.length cp8) (f9) :: blk b6 [I64 (n.nodes), I64 (n.source), I64 (n.sink), .slice ad4 n.arcs.length cp5] 30 :: vc 43 (.slice ad4 n.arcs.length cp5) (n.arcs) :: blk dk2 [.slice la ln lc, I64 (i9)] 129 :: blk b1 [.slice ua fu.length uc, I64 (val0), .slice wa sw.length wc] 24 :: I) from Fit.sub)
    ·refine W.exit ?_
     refine V.then_exit ?_
     refine V.then_exit ?_
     refine V.block_hit ?_
     refine V.then ?_
     refine W.sr ?_
     refine G.r (Runs.lds (vs := [_, _, _, _]) ty30) ?_
     refine G.r (Runs.lds (vs := [_, _, _]) ty24) ?_
     refine G.e (Eff.call call28 rfl rfl (FProves_ok (n := n) Sl.o Sl.o Sl.o)) ?_
     rintro _ _ ⟨_, _, ⟨rfl, rfl⟩, rfl, rfl⟩
     refine G.r (Runs.eql rfl rfl) ?_
     refine G.r (Runs.move rfl) ?_
     refine G.split (d := 120) rfl (fun g120 => ?_) (fun g120 => ?_)
     ·refine G.ro (Runs.lds (vs := [_, _, _, _]) ty30) ?_
      refine G.ro (Runs.lds (vs := [_, _, _]) ty24) ?_
      refine G.eff (Wanted.on rfl rfl rfl) (Eff.call call28 rfl rfl (FProves_ok (n := n) Sl.o Sl.o Sl.o)) ?_
      rintro _ _ ⟨_, _, ⟨rfl, rfl⟩, rfl, rfl⟩
      refine G.ro (Runs.eql rfl rfl) ?_
      refine G.r (Runs.pickt rfl rfl) ?_
      refine G.r (Runs.move rfl) ?_
      refine G.split (d := 126) rfl (fun g126 => ?_) (fun g126 => ?_)
      ·refine G.eff (Wanted.on rfl rfl rfl) (Eff.call call21 rfl rfl Awake_ok) ?_
       rintro _ _ ⟨_, _, ⟨rfl, rfl⟩, rfl, rfl⟩
       refine G.r (Runs.pickt rfl rfl) ?_
       refine G.r (Runs.assign rfl) ?_
       refine G.nt ?_
       refine W.sub (L' := [(4, _)]) (Sub.cons rfl Sub.nil) ?_
       refine W.ret ?_
       exact V.ret1 rfl rfl (I) Fit.m ⟨rfl, rfl⟩
      ·refine G.po ?_
       refine G.r (Runs.pickf rfl rfl) ?_
       refine G.r (Runs.assign rfl) ?_
       refine G.nt ?_
       refine W.sub (L' := [(4, _)]) (Sub.cons rfl Sub.nil) ?_
       refine W.ret ?_
       exact absurd (hprG _ hgr45) g126
     ·refine G.po ?_
      refine G.po ?_
      refine G.po ?_
      refine G.po ?_
      refine G.r (Runs.pickf rfl rfl) ?_
      refine G.r (Runs.move rfl) ?_
      refine G.po ?_
      refine G.r (Runs.pickf rfl rfl) ?_
      refine G.r (Runs.assign rfl) ?_
      refine G.nt ?_
      refine W.sub (L' := [(4, _)]) (Sub.cons rfl Sub.nil) ?_
      refine W.ret ?_
      exact absurd hpr g120

end Go.Sl
/- From the arguments of a law to slices that are read: what the row's reading says. No conditions. -/
namespace Go.Sl
open Go.ChangeShapes Go.WideShapes Go.ChangeAt Go.RowKit Go.Deep
set_option linter.unusedVariables false

section
variable {κ : Ctx} {w w' : World} {I : List Item}
theorem old_cell (hs : Sep κ w' I) (hm : old w.heap.size w ∈ I) {b o : Nat} {u : Value} (hc : w.cell? ⟨b, o, none⟩ = some u) : w'.cell? ⟨b, o, none⟩ = some u := by
  have hok : ∀ k, k < w.heap.size → w'.heap[k]? = w.heap[k]? := (hs.ok _ hm).1
  have hb : b < w.heap.size := by
    refine Nat.not_le.1 fun h => ?_
    simp [World.cell?, Array.getElem?_eq_none h] at hc
  have := hok b hb
  simp only [World.cell?, this] at hc ⊢
  exact hc
/-- What the world held before the call is read. -/
def SlW {α : Type} [Enc α] (w : World) (v : Value) (xs : List α) : Prop := slOk w (Enc.sz α) v xs.length (cells xs)
theorem SlW.sl {α : Type} [Enc α] {v : Value} {xs : List α} (h : SlW w v xs) (hm : old w.heap.size w ∈ I) : Sl κ I v xs := fun w' hs => by
  obtain ⟨a, cap, hv, h1, h2, h3, h4⟩ := h
  refine ⟨a, cap, hv, h1, h2, h3, fun hc => ?_⟩
  obtain ⟨b, off, ha, hr⟩ := h4 hc
  exact ⟨b, off, ha, fun j u hj => old_cell hs hm (hr j u hj)⟩
end

section
variable {P : Program} {w : World} {r : Reach} {b0 : Nat} {t : TypeId} {H : Type} {enc : TypeId × Value → H} {base : Nat} {spare : Nat → Bool} {held : Bool}
theorem spot_none {e : TypeId} {a : Addr} {len cap : Nat} (ht : P.underlying t = some (.slice e)) (h : Cell.okWide P w r b0 t (.slice (some a) len cap)) : a.spot = none := by
  simp only [Cell.okWide, Cell.ok, ht] at h
  exact h.2.2.2.1
theorem InR_of {n : Int} (h : (Lit.int .i64 n).wf = true) : InR n := by
  simp only [Lit.wf, Bool.and_eq_true, decide_eq_true_eq] at h
  exact h
/-- Each string, slice and map of it is within the reach. -/
def Light (P : Program) (t : TypeId) (d : DataW H) : Prop := ∀ n ∈ d.weights P t, n ≤ reachBytes
theorem light_arg {ts : List TypeId} {ds : List (DataW H)} (h : (DataW.weightsEach P ts ds).all (· ≤ reachBytes) = true) {j : Nat} {d : DataW H} (ht : ts[j]? = some t) (hd : ds[j]? = some d) : Light P t d := fun n hn => by
  have := List.all_eq_true.1 h _ (DataW.weights_mem_each ht hd n hn)
  simpa using this
theorem light_part {fs : Array Field} {parts : List (DataW H)} (hs : P.underlying t = some (.struct fs)) (h : Light P t (.agg parts)) {j : Nat} {f : Field} {d : DataW H} (hf : fs[j]? = some f) (hd : parts[j]? = some d) : Light P f.type d := fun n hn => by
  refine h n ?_
  simp only [DataW.weights, hs]
  exact DataW.weights_mem_each (j := j) (t := f.type) (by simp [hf]) hd n hn
theorem light_slice {e : TypeId} {es sp : List (DataW H)} (ht : P.underlying t = some (.slice e)) (h : Light P t (.slice es sp)) : es.length * P.bytesOf e ≤ 140737488351232 := by
  have h1 := h ((es.length + sp.length) * P.bytesOf e) (by simp [DataW.weights, ht])
  have h2 : es.length * P.bytesOf e ≤ (es.length + sp.length) * P.bytesOf e := Nat.mul_le_mul_right _ (by omega)
  simp only [reachBytes] at h1
  omega
theorem addr_eta {a : Addr} (h : a.spot = none) : a = ⟨a.block, a.off, none⟩ := by cases a; simp_all

/-- A slice of numbers that came in. -/
theorem in_ints {e : TypeId} {v : Value} {fuel : Nat} {x : DataW H × List MemPlace} (ht : P.underlying t = some (.slice e)) (he : P.underlying e = some (.int .i64)) (hc : P.cellsOf e = 1)
    (hv : Cell.okWide P w r b0 t v) (h : DataW.trod enc P w base spare held fuel t [v] = some x) (hw : Light P t x.1) : ∃ (a : Option Addr) (c : Nat) (xs : List Int), v = .slice a xs.length c ∧ SlW w (.slice a xs.length c) xs ∧ (∀ n ∈ xs, InR n) ∧ xs.length * P.bytesOf e ≤ 140737488351232 := by
  rcases open_ints ht he hc h with ⟨hcs, _⟩ | ⟨a, l, c, zs, hcs, _, hl, hm, hz, hx, hcell, hwz⟩
  · obtain rfl : v = .slice none 0 0 := by simpa using hcs
    exact ⟨none, 0, [], rfl, ⟨none, 0, rfl, by simp [cells], Nat.le_refl _, by simp, fun h => by omega⟩, by simp, by simp⟩
  · obtain rfl : v = .slice (some a) l c := by simpa using hcs
    have hsp := spot_none ht hv
    have hlen : l ≤ zs.length := by rw [hz]; split <;> omega
    have hxl : (zs.take l).length = l := by rw [List.length_take]; omega
    refine ⟨some a, c, zs.take l, by rw [hxl], ⟨some a, c, rfl, cells_length _, by rw [hxl]; exact hl, hm, fun hc0 => ⟨a.block, a.off, by rw [← addr_eta hsp], fun j u hj => ?_⟩⟩, fun n hn => InR_of (hwz n (List.mem_of_mem_take hn)), by
      rw [hx] at hw
      have := light_slice ht hw
      simpa [lits] using this⟩
    have hjl : j < l := by
      have := (List.getElem?_eq_some_iff.1 hj).1
      rw [cells_length, hxl] at this
      have e1 : Enc.sz Int = 1 := rfl
      rw [e1] at this; omega
    have h1 := cells_get (zs.take l) j 0 (by omega) (by decide)
    have e1 : j * Enc.sz Int + 0 = j := by show j * 1 + 0 = j; omega
    rw [e1] at h1
    rw [h1] at hj
    have h2 := hcell j (by omega)
    rw [addr_eta hsp, addr_add] at h2
    have h3 : u = I64 (zs.getD j 0) := by
      have h4 : some (I64 ((zs.take l)[j]'(by omega))) = some u := hj
      simp only [Option.some.injEq] at h4
      rw [← h4]
      simp [List.getD_eq_getElem?_getD, List.getElem?_eq_getElem (show j < zs.length by omega)]
    rw [h3]; exact h2

/-- A slice of structs of numbers that came in. -/
theorem in_flat {α : Type} [Enc α] [Inhabited α] (mk : (Nat → Int) → α) {e : TypeId} {fs : Array Field} {v : Value} {fuel : Nat} {x : DataW H × List MemPlace} (hmk : ∀ f, Enc.enc (mk f) = (List.range fs.size).map fun j => I64 (f j)) (hsz : Enc.sz α = fs.size)
    (ht : P.underlying t = some (.slice e)) (he : P.underlying e = some (.struct fs)) (hone : oneCellFields P fs = true) (hC : P.cellsOf e = fs.size) (hint : ∀ (j : Nat) (f : Field), fs[j]? = some f → P.underlying f.type = some (.int .i64))
    (hv : Cell.okWide P w r b0 t v) (h : DataW.trod enc P w base spare held fuel t [v] = some x) (hw : Light P t x.1) : ∃ (a : Option Addr) (c : Nat) (xs : List α), v = .slice a xs.length c ∧ SlW w (.slice a xs.length c) xs ∧ (∀ y ∈ xs, ∃ f, y = mk f ∧ ∀ j, j < fs.size → InR (f j)) ∧ xs.length * P.bytesOf e ≤ 140737488351232 := by
  rcases open_slice ht h with ⟨hcs, _⟩ | ⟨a, len, cap, m, n, D, Pl, hcs, hb, hl, hm, hmm, hx, hi⟩
  · obtain rfl : v = .slice none 0 0 := by simpa using hcs
    exact ⟨none, 0, [], rfl, ⟨none, 0, rfl, by simp [cells], Nat.le_refl _, by simp, fun h => by omega⟩, by simp, by simp⟩
  · obtain rfl : v = .slice (some a) len cap := by simpa using hcs
    have hsp := spot_none ht hv
    have hlm : len ≤ m := by rw [hmm]; split <;> omega
    -- the numbers
    have hcell : ∀ i, i < len → ∀ j, j < fs.size → ∃ q : Int, w.cell? ⟨a.block, a.off + (i * fs.size + j), none⟩ = some (I64 q) ∧ InR q := fun i hi' j hj => by
      obtain ⟨cs', hc', ht'⟩ := hi i (by omega)
      rw [hC] at hc'
      obtain ⟨ys, n', hn', hy, hlen, hyl, hf⟩ := DataW.trod_struct he ht'
      obtain ⟨_, hcl, hat⟩ := World.cells?_some hc'
      obtain ⟨ho, hk⟩ := hone_of hone j fs[j] (Array.getElem?_eq_getElem hj)
      have hc1 := hat j (by omega)
      have h1 := hf j fs[j] (Array.getElem?_eq_getElem hj)
      rw [ho, hk] at h1
      have hone' : (cs'.drop j).take 1 = [cs'[j]'(by omega)] := by
        rw [List.drop_eq_getElem_cons (by omega)]; rfl
      rw [hone', List.getElem?_eq_getElem (by omega)] at h1
      obtain ⟨q, hq, _, hwf⟩ := DataW.trod_int (hint j fs[j] (Array.getElem?_eq_getElem hj)) h1
      have hq' : cs'[j]'(by omega) = I64 q := by simpa using hq
      refine ⟨q, ?_, InR_of hwf⟩
      rw [Go.Deep.add_add, addr_eta hsp, addr_add] at hc1
      rw [hc1, List.getElem?_eq_getElem (by omega), hq']
    have hall : ∃ q : Nat → Nat → Int, ∀ i, i < len → ∀ j, j < fs.size → w.cell? ⟨a.block, a.off + (i * fs.size + j), none⟩ = some (I64 (q i j)) ∧ InR (q i j) := by
      refine ⟨fun i j => if hij : i < len ∧ j < fs.size then Classical.choose (hcell i hij.1 j hij.2) else 0, fun i hi' j hj => ?_⟩
      simp only [dif_pos (show i < len ∧ j < fs.size from ⟨hi', hj⟩)]
      exact Classical.choose_spec (hcell i hi' j hj)
    obtain ⟨q, hq⟩ := hall
    have hxl : ((List.range len).map fun i => mk (q i)).length = len := by simp
    refine ⟨some a, cap, (List.range len).map fun i => mk (q i), by rw [hxl], ⟨some a, cap, rfl, cells_length _, by rw [hxl]; exact hl, hm, fun hc0 => ⟨a.block, a.off, by rw [← addr_eta hsp], fun j u hj => ?_⟩⟩, fun y hy => ?_, by
      rw [hx] at hw
      have := light_slice ht hw
      simpa using this⟩
    · have hjl := (List.getElem?_eq_some_iff.1 hj).1
      rw [cells_length, hxl, hsz] at hjl
      have hpos : 0 < fs.size := by rw [← hsz]; exact Enc.pos
      have hi1 : j / fs.size < len := Nat.div_lt_of_lt_mul (by rw [Nat.mul_comm]; exact hjl)
      have hj1 : j % fs.size < fs.size := Nat.mod_lt _ hpos
      have hsplit : j = j / fs.size * Enc.sz α + j % fs.size := by rw [hsz, Nat.mul_comm]; exact (Nat.div_add_mod j fs.size).symm
      rw [hsplit, cells_get _ (j / fs.size) (j % fs.size) (by rw [hxl]; exact hi1) (by rw [hsz]; exact hj1)] at hj
      simp only [List.getElem_map, List.getElem_range, hmk] at hj
      rw [List.getElem?_map, List.getElem?_range hj1] at hj
      have hu : u = I64 (q (j / fs.size) (j % fs.size)) := by simpa using hj.symm
      rw [hu]
      have := (hq _ hi1 _ hj1).1
      rw [hsz] at hsplit
      rw [← hsplit] at this
      exact this
    · obtain ⟨i, hi', rfl⟩ := List.mem_map.1 hy
      exact ⟨q i, rfl, fun j hj => (hq i (List.mem_range.1 hi') j hj).2⟩

/-- A struct that came in, each of its fields one cell. -/
theorem in_struct {fs : Array Field} {v : Value} {d : DataW H} {ps : List MemPlace} (hs : P.underlying t = some (.struct fs)) (hone : oneCellFields P fs = true) (hC : P.cellsOf t = fs.size) (hts : P.cellTypes P.depth t = some (fs.toList.map (·.type)))
    (hv : Value.okWide P w r b0 t v) (h : DataW.Trod enc P w base spare held t v d ps) (hw : Light P t d) :
    ∃ l : List Value, v = .agg l.toArray ∧ l.length = fs.size ∧ ∀ (j : Nat) (f : Field), fs[j]? = some f → ∃ (u : Value) (n : Nat) (y : DataW H × List MemPlace), l[j]? = some u ∧ Cell.okWide P w r b0 f.type u ∧ DataW.trod enc P w base spare held n f.type [u] = some y ∧ Light P f.type y.1 := by
  simp only [Value.okWide, hs] at hv
  obtain ⟨cs, rfl, hsize, ts, hts', _, hcell⟩ := hv
  rw [hts] at hts'
  obtain rfl : fs.toList.map (·.type) = ts := by simpa using hts'
  obtain ⟨l⟩ := cs
  have hl : l.length = fs.size := by rw [← hC]; exact hsize
  refine ⟨l, rfl, hl, fun j f hj => ?_⟩
  have hjl : j < fs.size := (Array.getElem?_eq_some_iff.1 hj).1
  obtain ⟨fuel, hf⟩ := h
  obtain ⟨xs, n, _, hx, _, hlen, hg⟩ := DataW.trod_struct hs hf
  obtain ⟨ho, hk⟩ := hone_of hone j f hj
  have hd : d = .agg (xs.map (·.1)) := congrArg Prod.fst hx
  have h1 := hg j f hj
  rw [ho, hk] at h1
  have hone' : (((Value.agg l.toArray).cells.toList).drop j).take 1 = [l[j]'(by omega)] := by
    simp only [Value.cells]
    rw [List.drop_eq_getElem_cons (by omega)]; rfl
  rw [hone', List.getElem?_eq_getElem (by omega)] at h1
  obtain ⟨u, hu, hc⟩ := hcell j (l[j]'(by omega)) (by simp)
  have hm : j % (fs.toList.map (·.type)).length = j := Nat.mod_eq_of_lt (by simpa using hjl)
  rw [hm] at hu
  have hu' : u = f.type := by
    have : fs.toList[j]? = some f := by simpa using hj
    simp [this] at hu
    exact hu.symm
  rw [hu'] at hc
  have hxj : xs[j]? = some (xs[j]'(by omega)) := List.getElem?_eq_getElem (by omega)
  rw [hd] at hw
  exact ⟨_, n, xs[j]'(by omega), List.getElem?_eq_getElem (by omega), hc, h1, light_part hs hw hj (by simp [hxj])⟩

theorem arg_cell {v : Value} {d : DataW H} {ps : List MemPlace} {e : TypeId} (ht : P.underlying t = some (.slice e)) (hv : Value.okWide P w r b0 t v) (h : DataW.Trod enc P w base spare held t v d ps) : Cell.okWide P w r b0 t v ∧ ∃ fuel, DataW.trod enc P w base spare held fuel t [v] = some (d, ps) := by
  obtain ⟨a, len, cap, rfl⟩ := okWide_slice ht hv
  simp only [Value.okWide, ht] at hv
  obtain ⟨fuel, hf⟩ := h
  exact ⟨hv, fuel, by simpa [Value.cells] using hf⟩
/-- A number in a struct that came in. -/
theorem in_int {u : Value} {n : Nat} {y : DataW H × List MemPlace} (ht : P.underlying t = some (.int .i64)) (h : DataW.trod enc P w base spare held n t [u] = some y) : ∃ q : Int, u = I64 q ∧ InR q := by
  obtain ⟨q, hq, _, hwf⟩ := DataW.trod_int ht h
  exact ⟨q, by simpa using hq, InR_of hwf⟩

theorem joined_mk {P : Program} {f : FuncId} {fn : Func} {s : ChangeSpec} {c : OpenClaim} (h1 : (c.wf (OpenSpec.ofChange s)) = true) (h2 : (laidOutB P) = true) (h3 : (mapsRowed P) = true) (h4 : (fn.params.all (P.readableRec ·)) = true) (h5 : (namedTie P c.named s.vars) = true) (h6 : ((c.stops == [])) = true) (h7 : ((P.stops == [])) = true) (h8 : ((c.knobs == [])) = true) (h9 : ((P.stopKnobs == [])) = true) (h10 : ((c.inPlace == P.inPlace f)) = true) (h11 : ((c.unfollowed == P.unfollowed f)) = true) (h12 : ((c.recurses == P.recurses f)) = true) (h13 : ((c.named == P.varsNamed f)) = true) (h14 : ((c.maps == (fn.params.toList ++ s.plain.varTypes P).any (P.mapsRec ·))) = true) (h15 : ((c.ifaces == (fn.params.toList ++ s.plain.varTypes P).any (P.ifacesRec ·))) = true) (h16 : ((c.mapsOut == P.mapsAmong fn.resultTypes.toList)) = true) (h17 : ((c.loops == (fn.params.toList ++ s.plain.varTypes P).any (P.loopsFrom ·))) = true) (h18 : ((c.wideKeys == (fn.params.toList ++ s.plain.varTypes P ++ fn.resultTypes.toList).any (P.wideKeysFrom ·))) = true) (h19 : (s.vars.all (P.varReadable ·)) = true) (h20 : (fn.resultTypes.all (fun t => P.readableRec t && decide (t < P.types.size))) = true) (h21 : ((c.ifacesOut == fn.resultTypes.toList.any (P.ifacesRec ·))) = true) (h22 : ((c.loopsOut == fn.resultTypes.toList.any (P.loopsFrom ·))) = true) (h23 : ((c.plainKeys == P.plainKeys)) = true) (h24 : (c.shortTexts.isNone) = true) (h25 : (P.stopsHeard) = true) (h26 : (P.mayEnter) = true) (h27 : ((c.lifted == P.liftsFinal)) = true) (h28 : ((P.make == some c.make)) = true) (h29 : ((c.kinds == (if c.domain.isEmpty then [] else fn.params.toList.map fun t => match P.underlying t with | some (.int k) => some k | _ => none))) = true) (h30 : ((c.pinned == c.pinnedBy)) = true) (h31 : ((c.veiled == (fn.params.toList ++ s.plain.varTypes P ++ fn.resultTypes.toList).any (P.veiledRec ·))) = true) (h32 : (c.veiledFits P fn.params.toList (fn.params.toList ++ s.plain.varTypes P ++ fn.resultTypes.toList)) = true) : joinedFacts P f fn s c = true := by
  unfold joinedFacts
  exact (Bool.and_eq_true_iff.2 ⟨(Bool.and_eq_true_iff.2 ⟨(Bool.and_eq_true_iff.2 ⟨(Bool.and_eq_true_iff.2 ⟨(Bool.and_eq_true_iff.2 ⟨(Bool.and_eq_true_iff.2 ⟨(Bool.and_eq_true_iff.2 ⟨(Bool.and_eq_true_iff.2 ⟨(Bool.and_eq_true_iff.2 ⟨(Bool.and_eq_true_iff.2 ⟨(Bool.and_eq_true_iff.2 ⟨(Bool.and_eq_true_iff.2 ⟨(Bool.and_eq_true_iff.2 ⟨(Bool.and_eq_true_iff.2 ⟨(Bool.and_eq_true_iff.2 ⟨(Bool.and_eq_true_iff.2 ⟨(Bool.and_eq_true_iff.2 ⟨(Bool.and_eq_true_iff.2 ⟨(Bool.and_eq_true_iff.2 ⟨(Bool.and_eq_true_iff.2 ⟨(Bool.and_eq_true_iff.2 ⟨(Bool.and_eq_true_iff.2 ⟨(Bool.and_eq_true_iff.2 ⟨(Bool.and_eq_true_iff.2 ⟨(Bool.and_eq_true_iff.2 ⟨(Bool.and_eq_true_iff.2 ⟨(Bool.and_eq_true_iff.2 ⟨(Bool.and_eq_true_iff.2 ⟨(Bool.and_eq_true_iff.2 ⟨(Bool.and_eq_true_iff.2 ⟨(Bool.and_eq_true_iff.2 ⟨h1, h2⟩), h3⟩), h4⟩), h5⟩), h6⟩), h7⟩), h8⟩), h9⟩), h10⟩), h11⟩), h12⟩), h13⟩), h14⟩), h15⟩), h16⟩), h17⟩), h18⟩), h19⟩), h20⟩), h21⟩), h22⟩), h23⟩), h24⟩), h25⟩), h26⟩), h27⟩), h28⟩), h29⟩), h30⟩), h31⟩), h32⟩)
theorem list2 {l : List Value} {a b : Value} (h : l.length = 2) (h0 : l[0]? = some a) (h1 : l[1]? = some b) : l = [a, b] := by
  match l, h with
  | [x, y], _ => simp_all
theorem list3 {l : List Value} {a b c : Value} (h : l.length = 3) (h0 : l[0]? = some a) (h1 : l[1]? = some b) (h2 : l[2]? = some c) : l = [a, b, c] := by
  match l, h with
  | [x, y, z], _ => simp_all
theorem list4 {l : List Value} {a b c d : Value} (h : l.length = 4) (h0 : l[0]? = some a) (h1 : l[1]? = some b) (h2 : l[2]? = some c) (h3 : l[3]? = some d) : l = [a, b, c, d] := by
  match l, h with
  | [x, y, z, u], _ => simp_all
/-- From the walk's end to the row's. -/
theorem calls_below {f : FuncId} {args : List Value} (h : CallS P ⟨w.os, w.tape, w.output⟩ f args [old w.heap.size w] fun r J => r = .bool true ∧ [old w.heap.size w] = J) :
    Calls P f args.toArray w fun e w' => e = .returned (.bool true) ∧ Below w.heap.size w w' :=
  (h w (Sep.begin w)).mono fun e w' ⟨v, J, he, ⟨hv, hJ⟩, hs⟩ => by
    subst hv hJ
    exact ⟨he, hs.below List.mem_cons_self⟩
end
end Go.Sl
