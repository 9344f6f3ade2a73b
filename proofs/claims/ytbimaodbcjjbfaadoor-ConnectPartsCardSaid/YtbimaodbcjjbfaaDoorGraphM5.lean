/- A part of the proofs of statements of this seat: contracts of functions, and the plain laws that they lean on. No conditions. -/
import Derived.Test.YtbimaodbcjjbfaaDoorGraphL5
import Derived.Test.YtbimaodbcjjbfaaDoorRunsY
namespace Go.Sl
open Go.Proofs
set_option linter.unusedVariables false
set_option linter.unusedSimpArgs false
set_option maxRecDepth 4000
def PB (B : Int) (p : Pt) : Prop := -B ≤ p.u ∧ p.u ≤ B ∧ -B ≤ p.v ∧ p.v ≤ B
def BdE (B : Int) (es : List Pt) : Prop := ∀ p ∈ es, PB B p
theorem BdE.mono {B C : Int} {es : List Pt} (h : BdE B es) (hc : B ≤ C) : BdE C es := fun p hp => by have := h p hp; unfold PB at *; omega
theorem BdE.at {B : Int} {es : List Pt} (h : BdE B es) {i : Int} (h0 : 0 ≤ i) (h1 : i < es.length) : PB B (at_ es i) := h _ (at_mem h0 h1)
theorem BdE.set {B : Int} {es : List Pt} (h : BdE B es) {i : Nat} {x : Pt} (hx : PB B x) : BdE B (es.set i x) := fun p hp => by
  rcases List.mem_or_eq_of_mem_set hp with h1 | h1
  · exact h p h1
  · exact h1 ▸ hx
theorem Check03G_ok {κ : Ctx} {I : List Item} {nd : Int} {v : Value} {es : List Pt} (hl : Sl κ I v es) :
    CallS Tryd.prog κ 70 [.agg #[I64 (nd), v]] I (fun r J => r = I64 (checkG nd es) ∧ I = J) := by
 refine CallS.pull hl.le fun hmax => ?_
 refine CallS.enter (L := [(0, .agg #[I64 (nd), v])]) Tryd.func70 rfl rfl rfl rfl ?_
 refine W.sr ?_
 refine G.e (Eff.box (cs := [_, _]) rfl rfl rfl) ?_
 rintro _ _ ⟨b1, rfl, rfl⟩
 refine G.r (Runs.assign rfl) ?_
 refine G.nt ?_
 refine W.seq ?_
 refine W.sr ?_
 refine G.r (Runs.fieldAddr fld25_0 rfl) ?_
 refine G.r (Runs.ld ty3) ?_
 refine G.r (Runs.lss rfl rfl) ?_
 refine G.r (Runs.move rfl) ?_
 refine G.split (d := 8) rfl (fun g8 => ?_) (fun g8 => ?_)
 ·refine G.po ?_
  refine G.po ?_
  refine G.po ?_
  refine G.r (Runs.pickt rfl rfl) ?_
  refine G.nt ?_
  refine W.yes rfl ?_
  refine W.sr ?_
  refine G.r (Runs.assign rfl) ?_
  refine G.nt ?_
  refine W.ret ?_
  refine V.then_ret ?_
  exact V.ret1 rfl rfl (I) Fit.m ⟨by rw [show checkG nd es = 1 from (by unfold checkG; rw [if_pos (by omega)])], rfl⟩
 ·refine G.ro (Runs.fieldAddr fld25_0 rfl) ?_
  refine G.ro (Runs.ld ty3) ?_
  refine G.ro (Runs.gtr rfl rfl) ?_
  refine G.r (Runs.pickf rfl rfl) ?_
  refine G.nt ?_
  refine W.ite rfl (fun c12 => ?_) (fun c12 => ?_)
  ·refine W.sr ?_
   refine G.r (Runs.assign rfl) ?_
   refine G.nt ?_
   refine W.ret ?_
   refine V.then_ret ?_
   exact V.ret1 rfl rfl (I) Fit.m ⟨by rw [show checkG nd es = 1 from (by unfold checkG; rw [if_pos (by omega)])], rfl⟩
  ·refine W.skip ?_
   refine V.then ?_
   refine W.seq ?_
   refine W.sr ?_
   refine G.r (Runs.fieldAddr fld25_1 rfl) ?_
   refine G.r (Runs.ld ty23) ?_
   refine G.r (Runs.lenT (α := Pt) (xs := es) Tryd.underlying23 rfl (Sl.f hl)) ?_
   refine G.r (Runs.move rfl) ?_
   refine G.nt ?_
   refine W.sub (L' := [(16, _), (15, _), (14, _), (1, _)]) (Sub.cons rfl (Sub.cons rfl (Sub.cons rfl (Sub.cons rfl Sub.nil)))) ?_
   refine W.block ?_
   refine W.loop (σ := Nat) (fun s => ([(1, .pointer (some ⟨b1, 0, none⟩)), (14, v), (15, I64 (((es.length : Nat) : Int))), (16, I64 (((s : Nat) : Int)))] : Env)) (fun s => blk b1 [I64 (nd), v] 25 :: I) (fun s => (s ≤ es.length) ∧ (checkG nd es = scanL (badE nd) Pt.lt (prevAt es s) (es.drop s))) (fun s => es.length - s) (0) (show ((0 : Nat) ≤ es.length) ∧ (checkG nd es = scanL (badE nd) Pt.lt (prevAt es (0 : Nat)) (es.drop (0 : Nat))) from ⟨(by omega), (by unfold checkG; rw [if_neg (by omega)]; rfl)⟩) (Sub.cons rfl (Sub.cons rfl (Sub.cons rfl (Sub.cons lookO Sub.nil)))) (show Fit κ _ (blk b1 [I64 (nd), v] 25 :: I) from Fit.sub) ?_
   rintro k hp
   obtain ⟨hk, hs⟩ : (k ≤ es.length) ∧ (checkG nd es = scanL (badE nd) Pt.lt (prevAt es k) (es.drop k)) := hp
   show W Tryd.prog κ 52 _ _ ([(1, .pointer (some ⟨b1, 0, none⟩)), (14, v), (15, I64 (((es.length : Nat) : Int))), (16, I64 (((k : Nat) : Int)))] : Env) (blk b1 [I64 (nd), v] 25 :: I)
   refine W.sr ?_
   refine G.r (Runs.lss rfl rfl) ?_
   refine G.nt ?_
   refine W.seq ?_
   refine W.ite rfl (fun c17 => ?_) (fun c17 => ?_)
   ·refine W.skip ?_
    refine V.then ?_
    refine W.seq ?_
    refine W.block ?_
    refine W.sr ?_
    refine G.r (Runs.move rfl) ?_
    refine G.r (Runs.idx (α := Pt) (xs := es) Tryd.underlying23 ty38 rfl rfl (Sl.f hl) (by omega) (by omega)) ?_
    refine G.r (Runs.gets (α := Pt) (xs := es) ty38 rfl (Sl.f hl) (by omega) (by omega)) ?_
    refine G.e (Eff.alloc ty38 rfl) ?_
    rintro _ _ ⟨b2, rfl, rfl⟩
    refine G.r (Runs.assign rfl) ?_
    refine G.e (Eff.st (cs := [_, _]) (vs := [_, _]) (cs' := [_, _]) ty38) ?_
    rintro _ _ ⟨rfl, rfl⟩
    refine G.nt ?_
    refine W.seq ?_
    refine W.sr ?_
    refine G.r (Runs.fieldAddr fld38_0 rfl) ?_
    refine G.r (Runs.ld ty3) ?_
    refine G.r (Runs.lss rfl rfl) ?_
    refine G.r (Runs.move rfl) ?_
    refine G.split (d := 24) rfl (fun g24 => ?_) (fun g24 => ?_)
    ·refine G.po ?_
     refine G.po ?_
     refine G.po ?_
     refine G.po ?_
     refine G.po ?_
     refine G.r (Runs.pickt rfl rfl) ?_
     refine G.r (Runs.move rfl) ?_
     refine G.po ?_
     refine G.po ?_
     refine G.po ?_
     refine G.po ?_
     refine G.po ?_
     refine G.r (Runs.pickt rfl rfl) ?_
     refine G.nt ?_
     refine W.sub (L' := [(37, _), (3, _), (4, _), (1, _), (14, _), (15, _), (16, _)]) (Sub.cons rfl (Sub.cons rfl (Sub.cons rfl (Sub.cons rfl (Sub.cons rfl (Sub.cons rfl (Sub.cons rfl Sub.nil))))))) ?_
     refine W.yes rfl ?_
     refine W.sr ?_
     refine G.r (Runs.assign rfl) ?_
     refine G.nt ?_
     refine W.ret ?_
     refine V.then_ret ?_
     refine V.block_ret ?_
     refine V.then_ret ?_
     refine V.then_ret ?_
     refine V.block_ret ?_
     refine V.then_ret ?_
     exact V.ret1 rfl rfl (I) Fit.m ⟨by rw [show checkG nd es = 6 from (hs.trans ((scanL_bad (by omega) (by unfold badE; rw [if_pos (by omega)]; decide)).trans (by unfold badE; rw [if_pos (by omega)])))], rfl⟩
    ·refine G.ro (Runs.fieldAddr fld38_0 rfl) ?_
     refine G.ro (Runs.ld ty3) ?_
     refine G.ro (Runs.fieldAddr fld38_1 rfl) ?_
     refine G.ro (Runs.ld ty3) ?_
     refine G.ro (Runs.geq rfl rfl) ?_
     refine G.r (Runs.pickf rfl rfl) ?_
     refine G.r (Runs.move rfl) ?_
     refine G.split (d := 31) rfl (fun g31 => ?_) (fun g31 => ?_)
     ·refine G.po ?_
      refine G.po ?_
      refine G.po ?_
      refine G.po ?_
      refine G.po ?_
      refine G.r (Runs.pickt rfl rfl) ?_
      refine G.nt ?_
      refine W.sub (L' := [(37, _), (3, _), (4, _), (1, _), (14, _), (15, _), (16, _)]) (Sub.cons rfl (Sub.cons rfl (Sub.cons rfl (Sub.cons rfl (Sub.cons rfl (Sub.cons rfl (Sub.cons rfl Sub.nil))))))) ?_
      refine W.yes rfl ?_
      refine W.sr ?_
      refine G.r (Runs.assign rfl) ?_
      refine G.nt ?_
      refine W.ret ?_
      refine V.then_ret ?_
      refine V.block_ret ?_
      refine V.then_ret ?_
      refine V.then_ret ?_
      refine V.block_ret ?_
      refine V.then_ret ?_
      exact V.ret1 rfl rfl (I) Fit.m ⟨by rw [show checkG nd es = 6 from (hs.trans ((scanL_bad (by omega) (by unfold badE; rw [if_pos (by omega)]; decide)).trans (by unfold badE; rw [if_pos (by omega)])))], rfl⟩
     ·refine G.ro (Runs.fieldAddr fld38_1 rfl) ?_
      refine G.ro (Runs.ld ty3) ?_
      refine G.ro (Runs.fieldAddr fld25_0 rfl) ?_
      refine G.ro (Runs.ld ty3) ?_
      refine G.ro (Runs.geq rfl rfl) ?_
      refine G.r (Runs.pickf rfl rfl) ?_
      refine G.nt ?_
      refine W.sub (L' := [(37, _), (3, _), (4, _), (1, _), (14, _), (15, _), (16, _)]) (Sub.cons rfl (Sub.cons rfl (Sub.cons rfl (Sub.cons rfl (Sub.cons rfl (Sub.cons rfl (Sub.cons rfl Sub.nil))))))) ?_
      refine W.ite rfl (fun c37 => ?_) (fun c37 => ?_)
      ·refine W.sr ?_
       refine G.r (Runs.assign rfl) ?_
       refine G.nt ?_
       refine W.ret ?_
       refine V.then_ret ?_
       refine V.block_ret ?_
       refine V.then_ret ?_
       refine V.then_ret ?_
       refine V.block_ret ?_
       refine V.then_ret ?_
       exact V.ret1 rfl rfl (I) Fit.m ⟨by rw [show checkG nd es = 6 from (hs.trans ((scanL_bad (by omega) (by unfold badE; rw [if_pos (by omega)]; decide)).trans (by unfold badE; rw [if_pos (by omega)])))], rfl⟩
      ·refine W.skip ?_
       refine V.then ?_
       refine W.seq ?_
       refine W.drawn mixed ?_
       refine A.hold (blk b2 [I64 ((at_ es ((k : Nat) : Int)).u), I64 ((at_ es ((k : Nat) : Int)).v)] 38 :: blk b1 [I64 (nd), v] 25 :: I) 13 ?_
       refine D.r 0 rfl (Runs.move rfl) ?_
       refine D.r 1 rfl (Runs.gtr rfl rfl) ?_
       refine D.r 2 rfl (Runs.move rfl) ?_
       refine D.split (d := 40) rfl (fun g40 => ?_) (fun g40 => ?_)
       ·refine D.ro 3 rfl (Runs.fieldAddr fld25_1 rfl) ?_
        refine D.ro 4 rfl (Runs.ld ty23) ?_
        refine D.ro 5 rfl (Runs.move rfl) ?_
        refine D.ro 6 rfl (Runs.sub rfl rfl (by unfold InR; omega)) ?_
        refine D.ro 7 rfl (Runs.idx (α := Pt) (xs := es) Tryd.underlying23 ty38 rfl rfl (Sl.f hl) (by omega) (by omega)) ?_
        refine D.ro 8 rfl (Runs.gets (α := Pt) (xs := es) ty38 rfl (Sl.f hl) (by omega) (by omega)) ?_
        refine D.ro 9 rfl (Runs.lds (vs := [_, _]) ty38) ?_
        refine D.step (rs := [10]) (by kernel_rfl) rfl rfl (all1 ?_)
        refine Step.eff rfl (Wanted.on rfl rfl rfl) (Eff.call call124 rfl rfl (Before03_ok (at_ es (((k : Nat) : Int) - 1)) (at_ es ((k : Nat) : Int)))) ?_
        rintro _ _ ⟨_, _, ⟨rfl, rfl⟩, rfl, rfl⟩
        refine ⟨Fit.m, ?_⟩
        refine D.ro 11 rfl (Runs.notd rfl) ?_
        refine D.r 12 rfl (Runs.pickt rfl rfl) ?_
        refine D.done (by kernel_rfl) ?_
        refine V.then ?_
        refine W.sub (L' := [(50, _), (1, _), (14, _), (15, _), (16, _)]) (Sub.cons rfl (Sub.cons rfl (Sub.cons rfl (Sub.cons rfl (Sub.cons rfl Sub.nil))))) ?_
        refine W.ite rfl (fun c50 => ?_) (fun c50 => ?_)
        ·refine W.sr ?_
         refine G.r (Runs.assign rfl) ?_
         refine G.nt ?_
         refine W.ret ?_
         refine V.block_ret ?_
         refine V.then_ret ?_
         refine V.then_ret ?_
         refine V.block_ret ?_
         refine V.then_ret ?_
         exact V.ret1 rfl rfl (I) Fit.m ⟨by rw [show checkG nd es = 5 from (hs.trans (scanL_order (by omega) (badE_zero.2 (by omega)) (by omega) (by first | assumption | simpa using c50)))], rfl⟩
        ·refine W.skip ?_
         refine V.block_normal ?_
         refine V.then ?_
         refine W.region ?_
         refine G.r (Runs.add rfl rfl (by unfold InR; omega)) ?_
         refine G.r (Runs.move rfl) ?_
         refine G.nil ?_
         exact V.next ((k + 1)) (show ((k + 1 : Nat) ≤ es.length) ∧ (checkG nd es = scanL (badE nd) Pt.lt (prevAt es (k + 1 : Nat)) (es.drop (k + 1 : Nat))) from ⟨(by omega), (hs.trans (scanL_step (by omega) (badE_zero.2 (by omega)) (fun h0 => by first | omega | exact Classical.not_not.1 (by assumption) | assumption)))⟩) (show es.length - (k + 1 : Nat) < es.length - k from (by omega)) (Sub.cons rfl (Sub.cons rfl (Sub.cons rfl (Sub.cons lookO Sub.nil)))) (show Fit κ _ (blk b1 [I64 (nd), v] 25 :: I) from Fit.sub)
       ·refine D.po 3 rfl ?_
        refine D.po 4 rfl ?_
        refine D.po 5 rfl ?_
        refine D.po 6 rfl ?_
        refine D.po 7 rfl ?_
        refine D.po 8 rfl ?_
        refine D.po 9 rfl ?_
        refine D.po 10 rfl ?_
        refine D.po 11 rfl ?_
        refine D.r 12 rfl (Runs.pickf rfl rfl) ?_
        refine D.done (by kernel_rfl) ?_
        refine V.then ?_
        refine W.sub (L' := [(50, _), (1, _), (14, _), (15, _), (16, _)]) (Sub.cons rfl (Sub.cons rfl (Sub.cons rfl (Sub.cons rfl (Sub.cons rfl Sub.nil))))) ?_
        refine W.no rfl ?_
        refine W.skip ?_
        refine V.block_normal ?_
        refine V.then ?_
        refine W.region ?_
        refine G.r (Runs.add rfl rfl (by unfold InR; omega)) ?_
        refine G.r (Runs.move rfl) ?_
        refine G.nil ?_
        exact V.next ((k + 1)) (show ((k + 1 : Nat) ≤ es.length) ∧ (checkG nd es = scanL (badE nd) Pt.lt (prevAt es (k + 1 : Nat)) (es.drop (k + 1 : Nat))) from ⟨(by omega), (hs.trans (scanL_step (by omega) (badE_zero.2 (by omega)) (fun h0 => by first | omega | exact Classical.not_not.1 (by assumption) | assumption)))⟩) (show es.length - (k + 1 : Nat) < es.length - k from (by omega)) (Sub.cons rfl (Sub.cons rfl (Sub.cons rfl (Sub.cons lookO Sub.nil)))) (show Fit κ _ (blk b1 [I64 (nd), v] 25 :: I) from Fit.sub)
   ·refine W.exit ?_
    refine V.then_exit ?_
    refine V.then_exit ?_
    refine V.block_hit ?_
    refine V.then ?_
    refine W.sr ?_
    refine G.r (Runs.assign rfl) ?_
    refine G.nt ?_
    refine W.ret ?_
    exact V.ret1 rfl rfl (I) Fit.m ⟨by rw [show checkG nd es = 0 from (hs.trans (scanL_end (by omega)))], rfl⟩

theorem Ends03_ok {κ : Ctx} {I : List Item} (nd u v : Int) :
    CallS Tryd.prog κ 81 [I64 (nd), I64 (u), I64 (v)] I (fun r J => r = .bool (decide (endsP nd u v)) ∧ I = J) := by
 refine CallS.enter (L := [(0, I64 (nd)), (1, I64 (u)), (2, I64 (v))]) Tryd.func81 rfl rfl rfl rfl ?_
 refine W.sr ?_
 refine G.r (Runs.assign rfl) ?_
 refine G.nt ?_
 refine W.sr ?_
 refine G.r (Runs.move rfl) ?_
 refine G.r (Runs.geq rfl rfl) ?_
 refine G.r (Runs.move rfl) ?_
 refine G.split (d := 9) rfl (fun g9 => ?_) (fun g9 => ?_)
 ·refine G.ro (Runs.move rfl) ?_
  refine G.ro (Runs.geq rfl rfl) ?_
  refine G.r (Runs.pickt rfl rfl) ?_
  refine G.r (Runs.move rfl) ?_
  refine G.split (d := 13) rfl (fun g13 => ?_) (fun g13 => ?_)
  ·refine G.ro (Runs.move rfl) ?_
   refine G.ro (Runs.move rfl) ?_
   refine G.ro (Runs.lss rfl rfl) ?_
   refine G.r (Runs.pickt rfl rfl) ?_
   refine G.r (Runs.move rfl) ?_
   refine G.split (d := 18) rfl (fun g18 => ?_) (fun g18 => ?_)
   ·refine G.ro (Runs.move rfl) ?_
    refine G.ro (Runs.move rfl) ?_
    refine G.ro (Runs.lss rfl rfl) ?_
    refine G.r (Runs.pickt rfl rfl) ?_
    refine G.r (Runs.move rfl) ?_
    refine G.split (d := 23) rfl (fun g23 => ?_) (fun g23 => ?_)
    ·refine G.ro (Runs.move rfl) ?_
     refine G.ro (Runs.move rfl) ?_
     refine G.ro (Runs.neq rfl rfl) ?_
     refine G.r (Runs.pickt rfl rfl) ?_
     refine G.r (Runs.assign rfl) ?_
     refine G.nt ?_
     refine W.sub (L' := [(6, _)]) (Sub.cons rfl Sub.nil) ?_
     refine W.ret ?_
     exact V.ret1 rfl rfl (I) Fit.m ⟨(by first | exact congrArg Value.bool (decide_eq_decide.2 (by unfold endsP; omega)) | exact congrArg Value.bool (decide_eq_true (by unfold endsP; omega)).symm | exact congrArg Value.bool (decide_eq_false (by unfold endsP; omega)).symm), rfl⟩
    ·refine G.po ?_
     refine G.po ?_
     refine G.po ?_
     refine G.r (Runs.pickf rfl rfl) ?_
     refine G.r (Runs.assign rfl) ?_
     refine G.nt ?_
     refine W.sub (L' := [(6, _)]) (Sub.cons rfl Sub.nil) ?_
     refine W.ret ?_
     exact V.ret1 rfl rfl (I) Fit.m ⟨(by first | exact congrArg Value.bool (decide_eq_decide.2 (by unfold endsP; omega)) | exact congrArg Value.bool (decide_eq_true (by unfold endsP; omega)).symm | exact congrArg Value.bool (decide_eq_false (by unfold endsP; omega)).symm), rfl⟩
   ·refine G.po ?_
    refine G.po ?_
    refine G.po ?_
    refine G.r (Runs.pickf rfl rfl) ?_
    refine G.r (Runs.move rfl) ?_
    refine G.po ?_
    refine G.po ?_
    refine G.po ?_
    refine G.r (Runs.pickf rfl rfl) ?_
    refine G.r (Runs.assign rfl) ?_
    refine G.nt ?_
    refine W.sub (L' := [(6, _)]) (Sub.cons rfl Sub.nil) ?_
    refine W.ret ?_
    exact V.ret1 rfl rfl (I) Fit.m ⟨(by first | exact congrArg Value.bool (decide_eq_decide.2 (by unfold endsP; omega)) | exact congrArg Value.bool (decide_eq_true (by unfold endsP; omega)).symm | exact congrArg Value.bool (decide_eq_false (by unfold endsP; omega)).symm), rfl⟩
  ·refine G.po ?_
   refine G.po ?_
   refine G.po ?_
   refine G.r (Runs.pickf rfl rfl) ?_
   refine G.r (Runs.move rfl) ?_
   refine G.po ?_
   refine G.po ?_
   refine G.po ?_
   refine G.r (Runs.pickf rfl rfl) ?_
   refine G.r (Runs.move rfl) ?_
   refine G.po ?_
   refine G.po ?_
   refine G.po ?_
   refine G.r (Runs.pickf rfl rfl) ?_
   refine G.r (Runs.assign rfl) ?_
   refine G.nt ?_
   refine W.sub (L' := [(6, _)]) (Sub.cons rfl Sub.nil) ?_
   refine W.ret ?_
   exact V.ret1 rfl rfl (I) Fit.m ⟨(by first | exact congrArg Value.bool (decide_eq_decide.2 (by unfold endsP; omega)) | exact congrArg Value.bool (decide_eq_true (by unfold endsP; omega)).symm | exact congrArg Value.bool (decide_eq_false (by unfold endsP; omega)).symm), rfl⟩
 ·refine G.po ?_
  refine G.po ?_
  refine G.r (Runs.pickf rfl rfl) ?_
  refine G.r (Runs.move rfl) ?_
  refine G.po ?_
  refine G.po ?_
  refine G.po ?_
  refine G.r (Runs.pickf rfl rfl) ?_
  refine G.r (Runs.move rfl) ?_
  refine G.po ?_
  refine G.po ?_
  refine G.po ?_
  refine G.r (Runs.pickf rfl rfl) ?_
  refine G.r (Runs.move rfl) ?_
  refine G.po ?_
  refine G.po ?_
  refine G.po ?_
  refine G.r (Runs.pickf rfl rfl) ?_
  refine G.r (Runs.assign rfl) ?_
  refine G.nt ?_
  refine W.sub (L' := [(6, _)]) (Sub.cons rfl Sub.nil) ?_
  refine W.ret ?_
  exact V.ret1 rfl rfl (I) Fit.m ⟨(by first | exact congrArg Value.bool (decide_eq_decide.2 (by unfold endsP; omega)) | exact congrArg Value.bool (decide_eq_true (by unfold endsP; omega)).symm | exact congrArg Value.bool (decide_eq_false (by unfold endsP; omega)).symm), rfl⟩

theorem Edge03_ok {κ : Ctx} {I : List Item} (u v : Int) :
    CallS Tryd.prog κ 71 [I64 (u), I64 (v)] I (fun r J => r = .agg #[I64 (edgeP u v).u, I64 (edgeP u v).v] ∧ I = J) := by
 refine CallS.enter (L := [(0, I64 (u)), (1, I64 (v))]) Tryd.func71 rfl rfl rfl rfl ?_
 refine W.sr ?_
 refine G.e (Eff.alloc ty38 rfl) ?_
 rintro _ _ ⟨b1, rfl, rfl⟩
 refine G.nt ?_
 refine W.sr ?_
 refine G.r (Runs.move rfl) ?_
 refine G.r (Runs.move rfl) ?_
 refine G.r (Runs.min rfl rfl) ?_
 refine G.r (Runs.move rfl) ?_
 refine G.r (Runs.move rfl) ?_
 refine G.r (Runs.max rfl rfl) ?_
 refine G.r (Runs.build (cells := [_, _]) ty38 Tryd.underlying38 pl38 rfl rfl) ?_
 refine G.e (Eff.st (cs := [_, _]) (vs := [_, _]) (cs' := [_, _]) ty38) ?_
 rintro _ _ ⟨rfl, rfl⟩
 refine G.nt ?_
 refine W.ret ?_
 exact V.retc rfl ty38 rfl (by repeat (first | exact List.mem_cons_self | apply List.mem_cons_of_mem)) rfl (I) Fit.m ⟨rfl, rfl⟩

theorem Find03_ok {κ : Ctx} {I : List Item} {nd : Int} {va : Value} {es : List Pt} (hl : Sl κ I va es) (u v : Int) :
    CallS Tryd.prog κ 17 [.agg #[I64 (nd), va], I64 (u), I64 (v)] I (fun r J => ∃ y : Int, r = I64 y ∧ (0 ≤ y ↔ checkG nd es = 0 ∧ edgeP u v ∈ es) ∧ I = J) := by
 refine CallS.pull hl.le fun hmax => ?_
 refine CallS.enter (L := [(0, .agg #[I64 (nd), va]), (1, I64 (u)), (2, I64 (v))]) Tryd.func17 rfl rfl rfl rfl ?_
 refine W.sr ?_
 refine G.e (Eff.box (cs := [_, _]) rfl rfl rfl) ?_
 rintro _ _ ⟨b1, rfl, rfl⟩
 refine G.r (Runs.assign rfl) ?_
 refine G.nt ?_
 refine W.seq ?_
 refine W.sr ?_
 refine G.r (Runs.lds (vs := [_, _]) ty25) ?_
 refine G.e (Eff.call call70 rfl rfl (Check03G_ok (nd := nd) (Sl.f hl))) ?_
 rintro _ _ ⟨_, _, ⟨rfl, rfl⟩, rfl, rfl⟩
 refine G.r (Runs.neq rfl rfl) ?_
 refine G.nt ?_
 refine W.ite rfl (fun c11 => ?_) (fun c11 => ?_)
 ·refine W.sr ?_
  refine G.r (Runs.assign rfl) ?_
  refine G.nt ?_
  refine W.ret ?_
  refine V.then_ret ?_
  exact V.ret1 rfl rfl (I) Fit.m ⟨_, rfl, ⟨fun h => absurd h (by decide), fun h => absurd h.1 c11⟩, rfl⟩
 ·refine W.skip ?_
  refine V.then ?_
  refine W.seq ?_
  refine W.sr ?_
  refine G.r (Runs.fieldAddr fld25_1 rfl) ?_
  refine G.r (Runs.ld ty23) ?_
  refine G.r (Runs.lenT (α := Pt) (xs := es) Tryd.underlying23 rfl (Sl.f hl)) ?_
  refine G.r (Runs.move rfl) ?_
  refine G.nt ?_
  refine W.block ?_
  refine W.loop (σ := Nat) (fun s => ([(1, I64 (u)), (2, I64 (v)), (13, va), (14, I64 (((es.length : Nat) : Int))), (15, I64 (((s : Nat) : Int)))] : Env)) (fun s => blk b1 [I64 (nd), va] 25 :: I) (fun s => (s ≤ es.length) ∧ (∀ j, j < s → at_ es (j : Int) ≠ edgeP u v)) (fun s => es.length - s) (0) (show ((0 : Nat) ≤ es.length) ∧ (∀ j, j < (0 : Nat) → at_ es (j : Int) ≠ edgeP u v) from ⟨(by omega), all_zero⟩) (Sub.cons rfl (Sub.cons rfl (Sub.cons rfl (Sub.cons rfl (Sub.cons lookO Sub.nil))))) (show Fit κ _ (blk b1 [I64 (nd), va] 25 :: I) from Fit.sub) ?_
  rintro k hp
  obtain ⟨hk, hn⟩ : (k ≤ es.length) ∧ (∀ j, j < k → at_ es (j : Int) ≠ edgeP u v) := hp
  show W Tryd.prog κ 27 _ _ ([(1, I64 (u)), (2, I64 (v)), (13, va), (14, I64 (((es.length : Nat) : Int))), (15, I64 (((k : Nat) : Int)))] : Env) (blk b1 [I64 (nd), va] 25 :: I)
  refine W.sr ?_
  refine G.r (Runs.lss rfl rfl) ?_
  refine G.nt ?_
  refine W.seq ?_
  refine W.ite rfl (fun c16 => ?_) (fun c16 => ?_)
  ·refine W.skip ?_
   refine V.then ?_
   refine W.seq ?_
   refine W.block ?_
   refine W.sr ?_
   refine G.r (Runs.move rfl) ?_
   refine G.r (Runs.idx (α := Pt) (xs := es) Tryd.underlying23 ty38 rfl rfl (Sl.f hl) (by omega) (by omega)) ?_
   refine G.r (Runs.gets (α := Pt) (xs := es) ty38 rfl (Sl.f hl) (by omega) (by omega)) ?_
   refine G.e (Eff.alloc ty38 rfl) ?_
   rintro _ _ ⟨b2, rfl, rfl⟩
   refine G.r (Runs.assign rfl) ?_
   refine G.e (Eff.st (cs := [_, _]) (vs := [_, _]) (cs' := [_, _]) ty38) ?_
   rintro _ _ ⟨rfl, rfl⟩
   refine G.nt ?_
   refine W.seq ?_
   refine W.drawn mixed ?_
   refine A.hold (blk b2 [I64 ((at_ es ((k : Nat) : Int)).u), I64 ((at_ es ((k : Nat) : Int)).v)] 38 :: blk b1 [I64 (nd), va] 25 :: I) 5 ?_
   refine D.r 0 rfl (Runs.lds (vs := [_, _]) ty38) ?_
   refine D.r 1 rfl (Runs.move rfl) ?_
   refine D.r 2 rfl (Runs.move rfl) ?_
   refine D.step (rs := [3]) (by kernel_rfl) rfl rfl (all1 ?_)
   refine Step.eff rfl (Wanted.plain rfl) (Eff.call call71 rfl rfl (Edge03_ok u v)) ?_
   rintro _ _ ⟨_, _, ⟨rfl, rfl⟩, rfl, rfl⟩
   refine ⟨Fit.m, ?_⟩
   refine D.r 4 rfl (Runs.eqlT (α := Pt) (a := (at_ es ((k : Nat) : Int))) (b := (edgeP u v)) eqt38 rfl rfl) ?_
   refine D.done (by kernel_rfl) ?_
   refine V.then ?_
   refine W.sub (L' := [(24, _), (7, _), (1, _), (2, _), (13, _), (14, _), (15, _)]) (Sub.cons rfl (Sub.cons rfl (Sub.cons rfl (Sub.cons rfl (Sub.cons rfl (Sub.cons rfl (Sub.cons rfl Sub.nil))))))) ?_
   refine W.ite rfl (fun c24 => ?_) (fun c24 => ?_)
   ·refine W.sr ?_
    refine G.r (Runs.move rfl) ?_
    refine G.r (Runs.assign rfl) ?_
    refine G.nt ?_
    refine W.ret ?_
    refine V.block_ret ?_
    refine V.then_ret ?_
    refine V.then_ret ?_
    refine V.block_ret ?_
    refine V.then_ret ?_
    have hm : edgeP u v ∈ es := by rw [← c24]; exact at_mem (by omega) (by omega)
    exact V.ret1 rfl rfl (I) Fit.m ⟨_, rfl, ⟨fun _ => ⟨Classical.not_not.1 c11, hm⟩, fun _ => by omega⟩, rfl⟩
   ·refine W.skip ?_
    refine V.block_normal ?_
    refine V.then ?_
    refine W.region ?_
    refine G.r (Runs.add rfl rfl (by unfold InR; omega)) ?_
    refine G.r (Runs.move rfl) ?_
    refine G.nil ?_
    exact V.next ((k + 1)) (show ((k + 1 : Nat) ≤ es.length) ∧ (∀ j, j < (k + 1 : Nat) → at_ es (j : Int) ≠ edgeP u v) from ⟨(by omega), (all_succ hn c24)⟩) (show es.length - (k + 1 : Nat) < es.length - k from (by omega)) (Sub.cons rfl (Sub.cons rfl (Sub.cons rfl (Sub.cons rfl (Sub.cons lookO Sub.nil))))) (show Fit κ _ (blk b1 [I64 (nd), va] 25 :: I) from Fit.sub)
  ·refine W.exit ?_
   refine V.then_exit ?_
   refine V.then_exit ?_
   refine V.block_hit ?_
   refine V.then ?_
   refine W.sr ?_
   refine G.r (Runs.assign rfl) ?_
   refine G.nt ?_
   refine W.ret ?_
   have hm : edgeP u v ∉ es := not_mem_at hn (by omega)
   exact V.ret1 rfl rfl (I) Fit.m ⟨_, rfl, ⟨fun h => absurd h (by decide), fun h => absurd h.2 hm⟩, rfl⟩

end Go.Sl
namespace Go.Sl
open Go.Proofs
set_option linter.unusedVariables false
set_option linter.unusedSimpArgs false
set_option maxRecDepth 4000
section
variable {P : Program} {κ : Ctx} {N : Nat} {L : Env} {I J : List Item} {d : Option Tmp} {ty : TypeId} {ps : String} {af : Array Edge} {gd : Option (Nat × Bool)}
theorem vc.isSome {α : Type} [Enc α] {xs : List α} {e : TypeId} {ad : Option Addr} {n c : Nat} (h : vc e (.slice ad n c) xs ∈ I) : ∀ w, Sep κ w I → (0 < xs.length → ad ≠ none) := fun w hs hlt => by
  obtain ⟨b, o, cap, h0, _⟩ := ((Sl.vec (κ := κ) h) w hs).some hlt
  cases h0
  exact fun hh => by cases hh
/-- The address of an element; what lies there is not looked at. -/
theorem Runs.idxs (α : Type) [Enc α] {x y : Operand} {T E by' n c : Nat} {ag : Bool} {z : List Value} {ad : Option Addr} {i : Int} (ht : P.underlying T = some (.slice E)) (hE : tyF P E = some (Enc.sz α, ag, by', z)) (hx : evalO L x = some (.slice ad n c))
    (hy : evalO L y = some (I64 i)) (ha : ad ≠ none) (h0 : 0 ≤ i) (hn : i < n) : Runs P κ N ⟨d, .indexAddr T x y, ty, ps, af, gd⟩ L J (elemPtr (.slice ad n c) (i.toNat * Enc.sz α)) := by
  cases ad with
  | none => exact absurd rfl ha
  | some ad => exact fun a w ha hs => by simp [execOp, ha.eval hx, ha.eval hy, Instr.indexAt, asIntOf, run_underlying ht, h0, hn, run_sizeOf hE, elemPtr]
end

end Go.Sl
namespace Go.Sl
open Go.Proofs
set_option linter.unusedVariables false
set_option linter.unusedSimpArgs false
set_option maxRecDepth 4000
end Go.Sl
namespace Go.Sl
open Go.Proofs
set_option linter.unusedVariables false
set_option linter.unusedSimpArgs false
set_option maxRecDepth 4000
theorem Rem03_ok {κ : Ctx} {I : List Item} {nd : Int} {a0 : Option Addr} {c0 : Nat} {es : List Pt} (hl : Sl κ I (.slice a0 es.length c0) es) (u v : Int) (hb : es.length ≤ 10000) :
    CallS Tryd.prog κ 84 [.agg #[I64 (nd), .slice a0 es.length c0], I64 (u), I64 (v)] I (fun r J => (remG nd es u v ≠ 0 ∧ r = .tuple #[.agg #[I64 0, .slice none 0 0], I64 (remG nd es u v)] ∧ I = J) ∨ (∃ a c, remG nd es u v = 0 ∧ r = .tuple #[.agg #[I64 nd, .slice a (without es (edgeP u v)).length c], I64 0] ∧ J = vc 38 (.slice a (without es (edgeP u v)).length c) (without es (edgeP u v)) :: I)) := by
 refine CallS.enter (L := [(0, .agg #[I64 (nd), .slice a0 es.length c0]), (1, I64 (u)), (2, I64 (v))]) Tryd.func84 rfl rfl rfl rfl ?_
 refine W.sr ?_
 refine G.e (Eff.box (cs := [_, _]) rfl rfl rfl) ?_
 rintro _ _ ⟨b1, rfl, rfl⟩
 refine G.e (Eff.alloc ty25 rfl) ?_
 rintro _ _ ⟨b2, rfl, rfl⟩
 refine G.r (Runs.assign rfl) ?_
 refine G.nt ?_
 refine W.seq ?_
 refine W.sr ?_
 refine G.r (Runs.lds (vs := [_, _]) ty25) ?_
 refine G.e (Eff.call call70 rfl rfl (Check03G_ok (nd := nd) (Sl.f hl))) ?_
 rintro _ _ ⟨_, _, ⟨rfl, rfl⟩, rfl, rfl⟩
 refine G.r (Runs.assign rfl) ?_
 refine G.nt ?_
 refine W.sr ?_
 refine G.r (Runs.move rfl) ?_
 refine G.r (Runs.neq rfl rfl) ?_
 refine G.nt ?_
 refine W.ite rfl (fun c15 => ?_) (fun c15 => ?_)
 ·refine W.sr ?_
  refine G.r (Runs.build (cells := [_, _]) ty25 Tryd.underlying25 pl25 rfl rfl) ?_
  refine G.r (Runs.move rfl) ?_
  refine G.e (Eff.st (cs := [_, _]) (vs := [_, _]) (cs' := [_, _]) ty25) ?_
  rintro _ _ ⟨rfl, rfl⟩
  refine G.r (Runs.assign rfl) ?_
  refine G.nt ?_
  refine W.sub (L' := [(7, _), (6, _)]) (Sub.cons rfl (Sub.cons rfl Sub.nil)) ?_
  refine W.ret ?_
  refine V.then_ret ?_
  have hz : remG nd es u v = checkG nd es := by unfold remG changeG; rw [if_pos c15, if_pos c15]
  exact V.retc1 rfl ty25 rfl rfl (by repeat (first | exact List.mem_cons_self | apply List.mem_cons_of_mem)) rfl (I) Fit.m (.inl ⟨by rw [hz]; exact c15, by rw [hz], rfl⟩)
 ·refine W.skip ?_
  refine V.then ?_
  refine W.seq ?_
  refine W.sr ?_
  refine G.r (Runs.fieldAddr fld25_0 rfl) ?_
  refine G.r (Runs.ld ty3) ?_
  refine G.r (Runs.move rfl) ?_
  refine G.r (Runs.move rfl) ?_
  refine G.e (Eff.call call81 rfl rfl (Ends03_ok nd u v)) ?_
  rintro _ _ ⟨_, _, ⟨rfl, rfl⟩, rfl, rfl⟩
  refine G.r (Runs.notd rfl) ?_
  refine G.nt ?_
  refine W.sub (L' := [(23, _), (6, _), (3, _), (1, _), (2, _)]) (Sub.cons rfl (Sub.cons rfl (Sub.cons rfl (Sub.cons rfl (Sub.cons rfl Sub.nil))))) ?_
  refine W.ite rfl (fun c23 => ?_) (fun c23 => ?_)
  ·refine W.sr ?_
   refine G.r (Runs.build (cells := [_, _]) ty25 Tryd.underlying25 pl25 rfl rfl) ?_
   refine G.e (Eff.st (cs := [_, _]) (vs := [_, _]) (cs' := [_, _]) ty25) ?_
   rintro _ _ ⟨rfl, rfl⟩
   refine G.r (Runs.assign rfl) ?_
   refine G.nt ?_
   refine W.ret ?_
   refine V.then_ret ?_
   have hz : remG nd es u v = 6 := by unfold remG changeG; rw [if_neg (c15 : ¬ checkG nd es ≠ 0), if_neg c23, if_pos (by decide)]
   exact V.retc1 rfl ty25 rfl rfl (by repeat (first | exact List.mem_cons_self | apply List.mem_cons_of_mem)) rfl (I) Fit.m (.inl ⟨by rw [hz]; decide, by rw [hz], rfl⟩)
  ·refine W.skip ?_
   refine V.then ?_
   refine W.seq ?_
   refine W.sr ?_
   refine G.r (Runs.lds (vs := [_, _]) ty25) ?_
   refine G.r (Runs.move rfl) ?_
   refine G.r (Runs.move rfl) ?_
   refine G.e (Eff.call call17 rfl rfl (Find03_ok (nd := nd) (Sl.f hl) u v)) ?_
   rintro _ _ ⟨_, _, ⟨y3, rfl, hy3, rfl⟩, rfl, rfl⟩
   refine G.r (Runs.lss rfl rfl) ?_
   refine G.nt ?_
   refine W.ite rfl (fun c29 => ?_) (fun c29 => ?_)
   ·refine W.sr ?_
    refine G.r (Runs.build (cells := [_, _]) ty25 Tryd.underlying25 pl25 rfl rfl) ?_
    refine G.e (Eff.st (cs := [_, _]) (vs := [_, _]) (cs' := [_, _]) ty25) ?_
    rintro _ _ ⟨rfl, rfl⟩
    refine G.r (Runs.assign rfl) ?_
    refine G.nt ?_
    refine W.ret ?_
    refine V.then_ret ?_
    have hm : edgeP u v ∉ es := fun hm => absurd (hy3.2 ⟨Classical.not_not.1 c15, hm⟩) (by omega)
    have hz : remG nd es u v = 7 := by unfold remG; rw [if_neg (by rw [changeG_zero.2 ⟨checkG_ok.1 (Classical.not_not.1 c15), Classical.not_not.1 c23⟩]; decide), if_neg hm]
    exact V.retc1 rfl ty25 rfl rfl (by repeat (first | exact List.mem_cons_self | apply List.mem_cons_of_mem)) rfl (I) Fit.m (.inl ⟨by rw [hz]; decide, by rw [hz], rfl⟩)
   ·refine W.skip ?_
    refine V.then ?_
    refine W.sr ?_
    refine G.r (Runs.fieldAddr fld25_0 rfl) ?_
    refine G.r (Runs.ld ty3) ?_
    refine G.r (Runs.build (cells := [_, _]) ty25 Tryd.underlying25 pl25 rfl rfl) ?_
    refine G.e (Eff.alloc ty25 rfl) ?_
    rintro _ _ ⟨b4, rfl, rfl⟩
    refine G.e (Eff.st (cs := [_, _]) (vs := [_, _]) (cs' := [_, _]) ty25) ?_
    rintro _ _ ⟨rfl, rfl⟩
    refine G.nt ?_
    refine W.sub (L' := [(9, _), (6, _), (3, _), (1, _), (2, _)]) (Sub.cons rfl (Sub.cons rfl (Sub.cons rfl (Sub.cons rfl (Sub.cons rfl Sub.nil))))) ?_
    refine W.seq ?_
    refine W.sr ?_
    refine G.r (Runs.fieldAddr fld25_1 rfl) ?_
    refine G.r (Runs.ld ty23) ?_
    refine G.r (Runs.lens Tryd.underlying23 rfl) ?_
    refine G.r (Runs.move rfl) ?_
    refine G.nt ?_
    refine W.block ?_
    refine W.loop (σ := Nat × (Option Addr) × Nat × (List Pt)) (fun s => ([(1, I64 (u)), (2, I64 (v)), (6, .pointer (some ⟨b2, 0, none⟩)), (9, .pointer (some ⟨b4, 0, none⟩)), (35, .slice a0 es.length c0), (36, I64 (((es.length : Nat) : Int))), (37, I64 (((s.1 : Nat) : Int)))] : Env)) (fun s => vc 38 (.slice s.2.1 s.2.2.2.length s.2.2.1) (s.2.2.2) :: blk b4 [I64 (nd), .slice s.2.1 s.2.2.2.length s.2.2.1] 25 :: blk b2 [I64 (0), .slice none 0 0] 25 :: blk b1 [I64 (nd), .slice a0 es.length c0] 25 :: I) (fun s => (s.1 ≤ es.length) ∧ (s.2.2.2 = (es.take s.1).filter fun p => decide (p ≠ edgeP u v))) (fun s => es.length - s.1) (0, none, 0, []) (show ((0 : Nat) ≤ es.length) ∧ (([] : List Pt) = (es.take (0 : Nat)).filter fun p => decide (p ≠ edgeP u v)) from ⟨(by omega), rfl⟩) (Sub.cons rfl (Sub.cons rfl (Sub.cons rfl (Sub.cons rfl (Sub.cons rfl (Sub.cons rfl (Sub.cons lookO Sub.nil))))))) (show Fit κ _ (vc 38 (.slice (none) ([]).length (0)) (([])) :: blk b4 [I64 (nd), .slice (none) ([]).length (0)] 25 :: blk b2 [I64 (0), .slice none 0 0] 25 :: blk b1 [I64 (nd), .slice a0 es.length c0] 25 :: I) from (Fit.nilvc _ _)) ?_
    rintro ⟨k, a, c, out⟩ hp
    obtain ⟨hk, ho⟩ : (k ≤ es.length) ∧ (out = (es.take k).filter fun p => decide (p ≠ edgeP u v)) := hp
    show W Tryd.prog κ 54 _ _ ([(1, I64 (u)), (2, I64 (v)), (6, .pointer (some ⟨b2, 0, none⟩)), (9, .pointer (some ⟨b4, 0, none⟩)), (35, .slice a0 es.length c0), (36, I64 (((es.length : Nat) : Int))), (37, I64 (((k : Nat) : Int)))] : Env) (vc 38 (.slice a out.length c) (out) :: blk b4 [I64 (nd), .slice a out.length c] 25 :: blk b2 [I64 (0), .slice none 0 0] 25 :: blk b1 [I64 (nd), .slice a0 es.length c0] 25 :: I)
    have hol : out.length ≤ es.length := by rw [ho]; refine Nat.le_trans (List.length_filter_le _ _) ?_; simp only [List.length_take]; omega
    refine W.sr ?_
    refine G.r (Runs.lss rfl rfl) ?_
    refine G.nt ?_
    refine W.seq ?_
    refine W.ite rfl (fun c38 => ?_) (fun c38 => ?_)
    ·refine W.skip ?_
     refine V.then ?_
     refine W.seq ?_
     refine W.block ?_
     refine W.sr ?_
     refine G.r (Runs.idx (α := Pt) (xs := es) Tryd.underlying23 ty38 rfl rfl (Sl.f hl) (by omega) (by omega)) ?_
     refine G.r (Runs.gets (α := Pt) (xs := es) ty38 rfl (Sl.f hl) (by omega) (by omega)) ?_
     refine G.e (Eff.alloc ty38 rfl) ?_
     rintro _ _ ⟨b5, rfl, rfl⟩
     refine G.e (Eff.st (cs := [_, _]) (vs := [_, _]) (cs' := [_, _]) ty38) ?_
     rintro _ _ ⟨rfl, rfl⟩
     refine G.nt ?_
     refine W.seq ?_
     refine W.drawn mixed ?_
     refine A.hold (blk b5 [I64 ((at_ es ((k : Nat) : Int)).u), I64 ((at_ es ((k : Nat) : Int)).v)] 38 :: vc 38 (.slice a out.length c) (out) :: blk b4 [I64 (nd), .slice a out.length c] 25 :: blk b2 [I64 (0), .slice none 0 0] 25 :: blk b1 [I64 (nd), .slice a0 es.length c0] 25 :: I) 5 ?_
     refine D.r 0 rfl (Runs.lds (vs := [_, _]) ty38) ?_
     refine D.r 1 rfl (Runs.move rfl) ?_
     refine D.r 2 rfl (Runs.move rfl) ?_
     refine D.step (rs := [3]) (by kernel_rfl) rfl rfl (all1 ?_)
     refine Step.eff rfl (Wanted.plain rfl) (Eff.call call71 rfl rfl (Edge03_ok u v)) ?_
     rintro _ _ ⟨_, _, ⟨rfl, rfl⟩, rfl, rfl⟩
     refine ⟨Fit.m, ?_⟩
     refine D.r 4 rfl (Runs.neqT (α := Pt) (a := (at_ es ((k : Nat) : Int))) (b := (edgeP u v)) eqt38 rfl rfl) ?_
     refine D.done (by kernel_rfl) ?_
     refine V.then ?_
     refine W.sub (L' := [(45, _), (11, _), (1, _), (2, _), (6, _), (9, _), (35, _), (36, _), (37, _)]) (Sub.cons rfl (Sub.cons rfl (Sub.cons rfl (Sub.cons rfl (Sub.cons rfl (Sub.cons rfl (Sub.cons rfl (Sub.cons rfl (Sub.cons rfl Sub.nil))))))))) ?_
     refine W.ite rfl (fun c45 => ?_) (fun c45 => ?_)
     ·refine W.region ?_
      refine G.r (Runs.fieldAddr fld25_1 rfl) ?_
      refine G.r (Runs.ld ty23) ?_
      refine G.r (Runs.lds (vs := [_, _]) ty38) ?_
      refine G.e (Eff.bs (α := Pt) (cs := [_, _]) (xs := [⟨(at_ es ((k : Nat) : Int)).u, (at_ es ((k : Nat) : Int)).v⟩]) Tryd.underlying23 ty38 rfl rfl (by decide) (by decide) rfl rfl rfl rfl) ?_
      rintro _ _ ⟨ad6, rfl, rfl⟩
      refine G.e (Eff.app (α := Pt) (e := 38) (xs := out) (ys := ([⟨(at_ es ((k : Nat) : Int)).u, (at_ es ((k : Nat) : Int)).v⟩] : List Pt)) Tryd.underlying23 ty38 rfl rfl rfl (by repeat (first | exact List.mem_cons_self | apply List.mem_cons_of_mem)) Sl.o (by simp only [List.length_cons, List.length_nil]; omega) (by decide) rfl (fun _ _ => (by repeat (first | exact At.head _ _ _ | apply At.tail)))) ?_
      rintro _ _ ⟨ad7, cp8, rfl, rfl⟩
      refine G.r (Runs.fieldAddr fld25_1 rfl) ?_
      refine G.e (Eff.st (cs := [_, _]) (vs := [_]) (cs' := [_, _]) ty23) ?_
      rintro _ _ ⟨rfl, rfl⟩
      refine G.nil ?_
      refine V.block_normal ?_
      refine V.then ?_
      refine W.sub (L' := [(1, _), (2, _), (6, _), (9, _), (35, _), (36, _), (37, _)]) (Sub.cons rfl (Sub.cons rfl (Sub.cons rfl (Sub.cons rfl (Sub.cons rfl (Sub.cons rfl (Sub.cons rfl Sub.nil))))))) ?_
      refine W.region ?_
      refine G.r (Runs.add rfl rfl (by unfold InR; omega)) ?_
      refine G.r (Runs.move rfl) ?_
      refine G.nil ?_
      exact V.next ((k + 1), (ad7), (cp8), (out ++ ([⟨(at_ es ((k : Nat) : Int)).u, (at_ es ((k : Nat) : Int)).v⟩] : List Pt))) (show ((k + 1 : Nat) ≤ es.length) ∧ ((out ++ ([⟨(at_ es ((k : Nat) : Int)).u, (at_ es ((k : Nat) : Int)).v⟩] : List Pt) : List Pt) = (es.take (k + 1 : Nat)).filter fun p => decide (p ≠ edgeP u v)) from ⟨(by omega), (by first | rw [flt_yes (by omega) (decide_eq_true c45), ← ho] | rw [flt_no (by omega) (decide_eq_false c45), ← ho])⟩) (show es.length - (k + 1 : Nat) < es.length - k from (by omega)) (Sub.cons rfl (Sub.cons rfl (Sub.cons rfl (Sub.cons rfl (Sub.cons rfl (Sub.cons rfl (Sub.cons lookO Sub.nil))))))) (show Fit κ _ (vc 38 (.slice (ad7) (out ++ ([⟨(at_ es ((k : Nat) : Int)).u, (at_ es ((k : Nat) : Int)).v⟩] : List Pt)).length (cp8)) ((out ++ ([⟨(at_ es ((k : Nat) : Int)).u, (at_ es ((k : Nat) : Int)).v⟩] : List Pt))) :: blk b4 [I64 (nd), .slice (ad7) (out ++ ([⟨(at_ es ((k : Nat) : Int)).u, (at_ es ((k : Nat) : Int)).v⟩] : List Pt)).length (cp8)] 25 :: blk b2 [I64 (0), .slice none 0 0] 25 :: blk b1 [I64 (nd), .slice a0 es.length c0] 25 :: I) from Fit.sub)
     ·refine W.skip ?_
      refine V.block_normal ?_
      refine V.then ?_
      refine W.region ?_
      refine G.r (Runs.add rfl rfl (by unfold InR; omega)) ?_
      refine G.r (Runs.move rfl) ?_
      refine G.nil ?_
      exact V.next ((k + 1), (a), (c), (out)) (show ((k + 1 : Nat) ≤ es.length) ∧ ((out : List Pt) = (es.take (k + 1 : Nat)).filter fun p => decide (p ≠ edgeP u v)) from ⟨(by omega), (by first | rw [flt_yes (by omega) (decide_eq_true c45), ← ho] | rw [flt_no (by omega) (decide_eq_false c45), ← ho])⟩) (show es.length - (k + 1 : Nat) < es.length - k from (by omega)) (Sub.cons rfl (Sub.cons rfl (Sub.cons rfl (Sub.cons rfl (Sub.cons rfl (Sub.cons rfl (Sub.cons lookO Sub.nil))))))) (show Fit κ _ (vc 38 (.slice (a) (out).length (c)) ((out)) :: blk b4 [I64 (nd), .slice (a) (out).length (c)] 25 :: blk b2 [I64 (0), .slice none 0 0] 25 :: blk b1 [I64 (nd), .slice a0 es.length c0] 25 :: I) from Fit.sub)
    ·refine W.exit ?_
     refine V.then_exit ?_
     refine V.then_exit ?_
     refine V.block_hit ?_
     refine V.then ?_
     refine W.sr ?_
     refine G.r (Runs.lds (vs := [_, _]) ty25) ?_
     refine G.e (Eff.st (cs := [_, _]) (vs := [_, _]) (cs' := [_, _]) ty25) ?_
     rintro _ _ ⟨rfl, rfl⟩
     refine G.r (Runs.assign rfl) ?_
     refine G.nt ?_
     refine W.ret ?_
     have hm := hy3.1 (by omega)
     have hz : remG nd es u v = 0 := remG_zero.2 ⟨checkG_ok.1 hm.1, Classical.not_not.1 c23, hm.2⟩
     have hE : out = (without es (edgeP u v)) := by rw [ho, List.take_of_length_le (by omega)]; rfl
     subst hE
     exact V.retc1 rfl ty25 rfl rfl (by repeat (first | exact List.mem_cons_self | apply List.mem_cons_of_mem)) rfl (vc 38 (.slice a (without es (edgeP u v)).length c) (without es (edgeP u v)) :: I) Fit.sub (.inr ⟨a, c, hz, rfl, rfl⟩)

end Go.Sl
