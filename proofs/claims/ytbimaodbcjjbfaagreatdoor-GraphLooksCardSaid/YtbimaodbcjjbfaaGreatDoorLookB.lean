/- A part of the proofs of statements of this seat: contracts of functions, and the plain laws that they lean on. No conditions. -/
import Derived.Test.YtbimaodbcjjbfaaGreatDoorLookA
namespace Go.Sl
open Go.Proofs
set_option linter.unusedVariables false
set_option linter.unusedSimpArgs false
set_option maxRecDepth 4000
theorem nbL_len (es : List Pt) (v : Int) : (nbL es v).length ≤ 2 * es.length := by
  induction es with
  | nil => simp [nbL]
  | cons e es ih =>
    have e1 : nbL (e :: es) v = ((if e.u = v then [e.v] else []) ++ (if e.v = v then [e.u] else [])) ++ nbL es v := rfl
    rw [e1, List.length_append, List.length_append, List.length_cons]
    have h1 : (if e.u = v then [e.v] else ([] : List Int)).length ≤ 1 := by split <;> simp
    have h2 : (if e.v = v then [e.u] else ([] : List Int)).length ≤ 1 := by split <;> simp
    omega

theorem Neigh03_ok {κ : Ctx} {I : List Item} {nd : Int} {va : Value} {es : List Pt} (hl : Sl κ I va es) (v : Int) (hb : es.length ≤ 1000000) :
    CallS Tryz.prog κ 16 [.agg #[I64 (nd), va], I64 (v)] I (fun r J => ∃ a c, r = .slice a (nbG nd es v).length c ∧ J = vc 3 (.slice a (nbG nd es v).length c) (nbG nd es v) :: I) := by
 refine CallS.pull hl.le fun hmax => ?_
 refine CallS.enter (L := [(0, .agg #[I64 (nd), va]), (1, I64 (v))]) Tryz.func16 rfl rfl rfl rfl ?_
 refine W.sr ?_
 refine G.e (Eff.box (cs := [_, _]) rfl rfl rfl) ?_
 rintro _ _ ⟨b1, rfl, rfl⟩
 refine G.r (Runs.assign rfl) ?_
 refine G.nt ?_
 refine W.seq ?_
 refine W.sr ?_
 refine G.r (Runs.lds (vs := [_, _]) ty28) ?_
 refine G.e (Eff.call call35 rfl rfl (Check03G_ok (nd := nd) (Sl.f hl))) ?_
 rintro _ _ ⟨_, _, ⟨rfl, rfl⟩, rfl, rfl⟩
 refine G.r (Runs.neq rfl rfl) ?_
 refine G.nt ?_
 refine W.ite rfl (fun c10 => ?_) (fun c10 => ?_)
 ·refine W.sr ?_
  refine G.r (Runs.assign rfl) ?_
  refine G.nt ?_
  refine W.ret ?_
  refine V.then_ret ?_
  have hX : (nbG nd es v) = [] := if_pos c10
  exact V.ret1 rfl rfl (vc 3 (.slice none (nbG nd es v).length 0) (nbG nd es v) :: I) (by rw [hX]; exact Fit.trans (show Fit κ _ I from Fit.m) (Fit.nilvc (α := Int) _ _)) ⟨none, 0, by rw [hX]; rfl, rfl⟩
 ·refine W.skip ?_
  refine V.then ?_
  refine W.sr ?_
  refine G.r (Runs.assign rfl) ?_
  refine G.nt ?_
  refine W.seq ?_
  refine W.sr ?_
  refine G.r (Runs.fieldAddr fld28_1 rfl) ?_
  refine G.r (Runs.ld ty26) ?_
  refine G.r (Runs.lenT (α := Pt) (xs := es) Tryz.underlying26 rfl (Sl.f hl)) ?_
  refine G.r (Runs.move rfl) ?_
  refine G.nt ?_
  refine W.block ?_
  refine W.loop (σ := Nat × (Option Addr) × Nat × (List Int)) (fun s => ([(1, I64 (v)), (5, .slice s.2.1 s.2.2.2.length s.2.2.1), (12, va), (13, I64 (((es.length : Nat) : Int))), (14, I64 (((s.1 : Nat) : Int)))] : Env)) (fun s => vc 3 (.slice s.2.1 s.2.2.2.length s.2.2.1) (s.2.2.2) :: blk b1 [I64 (nd), va] 28 :: I) (fun s => (s.1 ≤ es.length) ∧ (s.2.2.2 = nbL (es.take s.1) v)) (fun s => es.length - s.1) (0, none, 0, []) (show ((0 : Nat) ≤ es.length) ∧ (([] : List Int) = nbL (es.take (0 : Nat)) v) from ⟨(by omega), rfl⟩) (Sub.cons rfl (Sub.cons (lookV rfl (by first | rfl | simp)) (Sub.cons rfl (Sub.cons rfl (Sub.cons lookO Sub.nil))))) (show Fit κ _ (vc 3 (.slice (none) ([]).length (0)) (([])) :: blk b1 [I64 (nd), va] 28 :: I) from (Fit.nilvc _ _)) ?_
  rintro ⟨k, a, c, out⟩ hp
  obtain ⟨hk, ho⟩ : (k ≤ es.length) ∧ (out = nbL (es.take k) v) := hp
  show W Tryz.prog κ 39 _ _ ([(1, I64 (v)), (5, .slice a out.length c), (12, va), (13, I64 (((es.length : Nat) : Int))), (14, I64 (((k : Nat) : Int)))] : Env) (vc 3 (.slice a out.length c) (out) :: blk b1 [I64 (nd), va] 28 :: I)
  have hol : out.length ≤ 2 * es.length := by rw [ho]; refine Nat.le_trans (nbL_len _ _) ?_; simp only [List.length_take]; omega
  refine W.sr ?_
  refine G.r (Runs.lss rfl rfl) ?_
  refine G.nt ?_
  refine W.seq ?_
  refine W.ite rfl (fun c15 => ?_) (fun c15 => ?_)
  ·refine W.skip ?_
   refine V.then ?_
   refine W.seq ?_
   refine W.block ?_
   refine W.sr ?_
   refine G.r (Runs.idx (α := Pt) (xs := es) Tryz.underlying26 ty52 rfl rfl (Sl.f hl) (by omega) (by omega)) ?_
   refine G.r (Runs.gets (α := Pt) (xs := es) ty52 rfl (Sl.f hl) (by omega) (by omega)) ?_
   refine G.e (Eff.alloc ty52 rfl) ?_
   rintro _ _ ⟨b2, rfl, rfl⟩
   refine G.e (Eff.st (cs := [_, _]) (vs := [_, _]) (cs' := [_, _]) ty52) ?_
   rintro _ _ ⟨rfl, rfl⟩
   refine G.nt ?_
   refine W.seq ?_
   refine W.sr ?_
   refine G.r (Runs.fieldAddr fld52_0 rfl) ?_
   refine G.r (Runs.ld ty3) ?_
   refine G.r (Runs.move rfl) ?_
   refine G.r (Runs.eql rfl rfl) ?_
   refine G.nt ?_
   refine W.ite rfl (fun c21 => ?_) (fun c21 => ?_)
   ·refine W.region ?_
    refine G.r (Runs.move rfl) ?_
    refine G.r (Runs.fieldAddr fld52_1 rfl) ?_
    refine G.r (Runs.ld ty3) ?_
    refine G.e (Eff.bs (α := Int) (cs := [_]) (xs := [(at_ es ((k : Nat) : Int)).v]) Tryz.underlying22 ty3 rfl rfl (by decide) (by decide) rfl rfl rfl rfl) ?_
    rintro _ _ ⟨ad3, rfl, rfl⟩
    refine G.e (Eff.app (α := Int) (e := 3) (xs := out) (ys := ([(at_ es ((k : Nat) : Int)).v] : List Int)) Tryz.underlying22 ty3 rfl rfl rfl (by repeat (first | exact List.mem_cons_self | apply List.mem_cons_of_mem)) Sl.o (by simp only [List.length_append, List.length_cons, List.length_nil]; omega) (by decide) rfl (fun _ _ => (by repeat (first | exact At.head _ _ _ | apply At.tail)))) ?_
    rintro _ _ ⟨ad4, cp5, rfl, rfl⟩
    refine G.r (Runs.assign rfl) ?_
    refine G.nt ?_
    refine W.sub (L' := [(5, _), (7, _), (1, _), (12, _), (13, _), (14, _)]) (Sub.cons rfl (Sub.cons rfl (Sub.cons rfl (Sub.cons rfl (Sub.cons rfl (Sub.cons rfl Sub.nil)))))) ?_
    refine W.sr ?_
    refine G.r (Runs.fieldAddr fld52_1 rfl) ?_
    refine G.r (Runs.ld ty3) ?_
    refine G.r (Runs.move rfl) ?_
    refine G.r (Runs.eql rfl rfl) ?_
    refine G.nt ?_
    refine W.ite rfl (fun c30 => ?_) (fun c30 => ?_)
    ·refine W.region ?_
     refine G.r (Runs.move rfl) ?_
     refine G.r (Runs.fieldAddr fld52_0 rfl) ?_
     refine G.r (Runs.ld ty3) ?_
     refine G.e (Eff.bs (α := Int) (cs := [_]) (xs := [(at_ es ((k : Nat) : Int)).u]) Tryz.underlying22 ty3 rfl rfl (by decide) (by decide) rfl rfl rfl rfl) ?_
     rintro _ _ ⟨ad6, rfl, rfl⟩
     refine G.e (Eff.app (α := Int) (e := 3) (xs := out ++ ([(at_ es ((k : Nat) : Int)).v] : List Int)) (ys := ([(at_ es ((k : Nat) : Int)).u] : List Int)) Tryz.underlying22 ty3 rfl rfl rfl (by repeat (first | exact List.mem_cons_self | apply List.mem_cons_of_mem)) Sl.o (by simp only [List.length_append, List.length_cons, List.length_nil]; omega) (by decide) rfl (fun _ _ => (by repeat (first | exact At.head _ _ _ | apply At.tail)))) ?_
     rintro _ _ ⟨ad7, cp8, rfl, rfl⟩
     refine G.r (Runs.assign rfl) ?_
     refine G.nil ?_
     refine V.block_normal ?_
     refine V.then ?_
     refine W.sub (L' := [(5, _), (1, _), (12, _), (13, _), (14, _)]) (Sub.cons rfl (Sub.cons rfl (Sub.cons rfl (Sub.cons rfl (Sub.cons rfl Sub.nil))))) ?_
     refine W.region ?_
     refine G.r (Runs.add rfl rfl (by unfold InR; omega)) ?_
     refine G.r (Runs.move rfl) ?_
     refine G.nil ?_
     exact V.next ((k + 1), (ad7), (cp8), ((out ++ ([(at_ es ((k : Nat) : Int)).v] : List Int)) ++ ([(at_ es ((k : Nat) : Int)).u] : List Int))) (show ((k + 1 : Nat) ≤ es.length) ∧ (((out ++ ([(at_ es ((k : Nat) : Int)).v] : List Int)) ++ ([(at_ es ((k : Nat) : Int)).u] : List Int) : List Int) = nbL (es.take (k + 1 : Nat)) v) from ⟨(by omega), (by rw [nbL_take (by omega), ← ho]; (first | rw [if_pos c21, if_pos c30] | rw [if_pos c21, if_neg c30] | rw [if_neg c21, if_pos c30] | rw [if_neg c21, if_neg c30]) <;> simp)⟩) (show es.length - (k + 1 : Nat) < es.length - k from (by omega)) (Sub.cons rfl (Sub.cons (lookV rfl (by first | rfl | simp)) (Sub.cons rfl (Sub.cons rfl (Sub.cons lookO Sub.nil))))) (show Fit κ _ (vc 3 (.slice (ad7) ((out ++ ([(at_ es ((k : Nat) : Int)).v] : List Int)) ++ ([(at_ es ((k : Nat) : Int)).u] : List Int)).length (cp8)) (((out ++ ([(at_ es ((k : Nat) : Int)).v] : List Int)) ++ ([(at_ es ((k : Nat) : Int)).u] : List Int))) :: blk b1 [I64 (nd), va] 28 :: I) from Fit.sub)
    ·refine W.skip ?_
     refine V.block_normal ?_
     refine V.then ?_
     refine W.region ?_
     refine G.r (Runs.add rfl rfl (by unfold InR; omega)) ?_
     refine G.r (Runs.move rfl) ?_
     refine G.nil ?_
     exact V.next ((k + 1), (ad4), (cp5), (out ++ ([(at_ es ((k : Nat) : Int)).v] : List Int))) (show ((k + 1 : Nat) ≤ es.length) ∧ ((out ++ ([(at_ es ((k : Nat) : Int)).v] : List Int) : List Int) = nbL (es.take (k + 1 : Nat)) v) from ⟨(by omega), (by rw [nbL_take (by omega), ← ho]; (first | rw [if_pos c21, if_pos c30] | rw [if_pos c21, if_neg c30] | rw [if_neg c21, if_pos c30] | rw [if_neg c21, if_neg c30]) <;> simp)⟩) (show es.length - (k + 1 : Nat) < es.length - k from (by omega)) (Sub.cons rfl (Sub.cons (lookV rfl (by first | rfl | simp)) (Sub.cons rfl (Sub.cons rfl (Sub.cons lookO Sub.nil))))) (show Fit κ _ (vc 3 (.slice (ad4) (out ++ ([(at_ es ((k : Nat) : Int)).v] : List Int)).length (cp5)) ((out ++ ([(at_ es ((k : Nat) : Int)).v] : List Int))) :: blk b1 [I64 (nd), va] 28 :: I) from Fit.sub)
   ·refine W.skip ?_
    refine V.then ?_
    refine W.sr ?_
    refine G.r (Runs.fieldAddr fld52_1 rfl) ?_
    refine G.r (Runs.ld ty3) ?_
    refine G.r (Runs.move rfl) ?_
    refine G.r (Runs.eql rfl rfl) ?_
    refine G.nt ?_
    refine W.sub (L' := [(30, _), (7, _), (1, _), (5, _), (12, _), (13, _), (14, _)]) (Sub.cons rfl (Sub.cons rfl (Sub.cons rfl (Sub.cons rfl (Sub.cons rfl (Sub.cons rfl (Sub.cons rfl Sub.nil))))))) ?_
    refine W.ite rfl (fun c30 => ?_) (fun c30 => ?_)
    ·refine W.region ?_
     refine G.r (Runs.move rfl) ?_
     refine G.r (Runs.fieldAddr fld52_0 rfl) ?_
     refine G.r (Runs.ld ty3) ?_
     refine G.e (Eff.bs (α := Int) (cs := [_]) (xs := [(at_ es ((k : Nat) : Int)).u]) Tryz.underlying22 ty3 rfl rfl (by decide) (by decide) rfl rfl rfl rfl) ?_
     rintro _ _ ⟨ad9, rfl, rfl⟩
     refine G.e (Eff.app (α := Int) (e := 3) (xs := out) (ys := ([(at_ es ((k : Nat) : Int)).u] : List Int)) Tryz.underlying22 ty3 rfl rfl rfl (by repeat (first | exact List.mem_cons_self | apply List.mem_cons_of_mem)) Sl.o (by simp only [List.length_append, List.length_cons, List.length_nil]; omega) (by decide) rfl (fun _ _ => (by repeat (first | exact At.head _ _ _ | apply At.tail)))) ?_
     rintro _ _ ⟨ad10, cp11, rfl, rfl⟩
     refine G.r (Runs.assign rfl) ?_
     refine G.nil ?_
     refine V.block_normal ?_
     refine V.then ?_
     refine W.region ?_
     refine G.r (Runs.add rfl rfl (by unfold InR; omega)) ?_
     refine G.r (Runs.move rfl) ?_
     refine G.nil ?_
     exact V.next ((k + 1), (ad10), (cp11), (out ++ ([(at_ es ((k : Nat) : Int)).u] : List Int))) (show ((k + 1 : Nat) ≤ es.length) ∧ ((out ++ ([(at_ es ((k : Nat) : Int)).u] : List Int) : List Int) = nbL (es.take (k + 1 : Nat)) v) from ⟨(by omega), (by rw [nbL_take (by omega), ← ho]; (first | rw [if_pos c21, if_pos c30] | rw [if_pos c21, if_neg c30] | rw [if_neg c21, if_pos c30] | rw [if_neg c21, if_neg c30]) <;> simp)⟩) (show es.length - (k + 1 : Nat) < es.length - k from (by omega)) (Sub.cons rfl (Sub.cons (lookV rfl (by first | rfl | simp)) (Sub.cons rfl (Sub.cons rfl (Sub.cons lookO Sub.nil))))) (show Fit κ _ (vc 3 (.slice (ad10) (out ++ ([(at_ es ((k : Nat) : Int)).u] : List Int)).length (cp11)) ((out ++ ([(at_ es ((k : Nat) : Int)).u] : List Int))) :: blk b1 [I64 (nd), va] 28 :: I) from Fit.sub)
    ·refine W.skip ?_
     refine V.block_normal ?_
     refine V.then ?_
     refine W.region ?_
     refine G.r (Runs.add rfl rfl (by unfold InR; omega)) ?_
     refine G.r (Runs.move rfl) ?_
     refine G.nil ?_
     exact V.next ((k + 1), (a), (c), (out)) (show ((k + 1 : Nat) ≤ es.length) ∧ ((out : List Int) = nbL (es.take (k + 1 : Nat)) v) from ⟨(by omega), (by rw [nbL_take (by omega), ← ho]; (first | rw [if_pos c21, if_pos c30] | rw [if_pos c21, if_neg c30] | rw [if_neg c21, if_pos c30] | rw [if_neg c21, if_neg c30]) <;> simp)⟩) (show es.length - (k + 1 : Nat) < es.length - k from (by omega)) (Sub.cons rfl (Sub.cons (lookV rfl (by first | rfl | simp)) (Sub.cons rfl (Sub.cons rfl (Sub.cons lookO Sub.nil))))) (show Fit κ _ (vc 3 (.slice (a) (out).length (c)) ((out)) :: blk b1 [I64 (nd), va] 28 :: I) from Fit.sub)
  ·refine W.exit ?_
   refine V.then_exit ?_
   refine V.then_exit ?_
   refine V.block_hit ?_
   refine V.then ?_
   refine W.sr ?_
   refine G.r (Runs.move rfl) ?_
   refine G.e (Eff.call call56 rfl rfl (Of_ok Sl.o (by omega))) ?_
   rintro _ _ ⟨_, _, ⟨ad12, cp13, rfl, rfl⟩, rfl, rfl⟩
   refine G.r (Runs.assign rfl) ?_
   refine G.nt ?_
   refine W.ret ?_
   have ho2 : out = nbL es v := by rw [ho, List.take_of_length_le (by omega)]
   subst ho2
   have hX : nbG nd es v = ofL (nbL es v) := if_neg c10
   exact V.ret1 rfl rfl (vc 3 (.slice ad12 (nbG nd es v).length cp13) (nbG nd es v) :: I) (by rw [hX]; exact Fit.sub) ⟨ad12, cp13, by rw [hX], rfl⟩

theorem Degree03_ok {κ : Ctx} {I : List Item} {nd : Int} {va : Value} {es : List Pt} (hl : Sl κ I va es) (v : Int) (hb : es.length ≤ 1000000) :
    CallS Tryz.prog κ 18 [.agg #[I64 (nd), va], I64 (v)] I (fun r J => r = I64 ((((nbG nd es v).length : Nat)) : Int) ∧ I = J) := by
 refine CallS.enter (L := [(0, .agg #[I64 (nd), va]), (1, I64 (v))]) Tryz.func18 rfl rfl rfl rfl ?_
 refine W.sr ?_
 refine G.e (Eff.box (cs := [_, _]) rfl rfl rfl) ?_
 rintro _ _ ⟨b1, rfl, rfl⟩
 refine G.r (Runs.assign rfl) ?_
 refine G.nt ?_
 refine W.sr ?_
 refine G.r (Runs.lds (vs := [_, _]) ty28) ?_
 refine G.r (Runs.move rfl) ?_
 refine G.e (Eff.call call16 rfl rfl (Neigh03_ok (nd := nd) (Sl.f hl) v (by omega))) ?_
 rintro _ _ ⟨_, _, ⟨ad2, cp3, rfl, rfl⟩, rfl, rfl⟩
 have hnl7 := nbG_len nd es v
 refine G.r (Runs.lens Tryz.underlying22 rfl) ?_
 refine G.r (Runs.assign rfl) ?_
 refine G.nt ?_
 refine W.ret ?_
 exact V.ret1 rfl rfl (I) Fit.m ⟨rfl, rfl⟩

theorem Common03_ok {κ : Ctx} {I : List Item} {nd : Int} {va : Value} {es : List Pt} (hl : Sl κ I va es) (u v : Int) (hb : es.length ≤ 1000000) :
    CallS Tryz.prog κ 20 [.agg #[I64 (nd), va], I64 (u), I64 (v)] I (fun r J => ∃ a c, r = .slice a (commonG nd es u v).length c ∧ J = vc 3 (.slice a (commonG nd es u v).length c) (commonG nd es u v) :: I) := by
 refine CallS.enter (L := [(0, .agg #[I64 (nd), va]), (1, I64 (u)), (2, I64 (v))]) Tryz.func20 rfl rfl rfl rfl ?_
 refine W.sr ?_
 refine G.e (Eff.box (cs := [_, _]) rfl rfl rfl) ?_
 rintro _ _ ⟨b1, rfl, rfl⟩
 refine G.r (Runs.assign rfl) ?_
 refine G.nt ?_
 refine W.seq ?_
 refine W.sr ?_
 refine G.r (Runs.move rfl) ?_
 refine G.r (Runs.move rfl) ?_
 refine G.r (Runs.eql rfl rfl) ?_
 refine G.nt ?_
 refine W.ite rfl (fun c9 => ?_) (fun c9 => ?_)
 ·refine W.sr ?_
  refine G.r (Runs.assign rfl) ?_
  refine G.nt ?_
  refine W.ret ?_
  refine V.then_ret ?_
  have hX : (commonG nd es u v) = [] := if_pos c9
  exact V.ret1 rfl rfl (vc 3 (.slice none (commonG nd es u v).length 0) (commonG nd es u v) :: I) (by rw [hX]; exact Fit.trans (show Fit κ _ I from Fit.m) (Fit.nilvc (α := Int) _ _)) ⟨none, 0, by rw [hX]; rfl, rfl⟩
 ·refine W.skip ?_
  refine V.then ?_
  refine W.seq ?_
  refine W.drawn mixed ?_
  refine A.hold (blk b1 [I64 (nd), va] 28 :: I) 8 ?_
  refine D.r 0 rfl (Runs.lds (vs := [_, _]) ty28) ?_ (hJ := Fit.sub)
  refine D.r 1 rfl (Runs.move rfl) ?_ (hJ := Fit.sub)
  refine D.r 3 rfl (Runs.lds (vs := [_, _]) ty28) ?_ (hJ := Fit.sub)
  refine D.r 4 rfl (Runs.move rfl) ?_ (hJ := Fit.sub)
  refine D.step (rs := [2]) (by kernel_rfl) rfl rfl (all1 ?_)
  refine Step.eff rfl (Wanted.plain rfl) (Eff.call call16 rfl rfl (Neigh03_ok (nd := nd) (Sl.f hl) u (by omega))) ?_
  rintro _ _ ⟨_, _, ⟨ad2, cp3, rfl, rfl⟩, rfl, rfl⟩
  refine ⟨Fit.sub, ?_⟩
  have hnl12 := nbG_len nd es u
  refine D.step (rs := [5]) (by kernel_rfl) rfl rfl (all1 ?_)
  refine Step.eff rfl (Wanted.plain rfl) (Eff.call call16 rfl rfl (Neigh03_ok (nd := nd) (Sl.f hl) v (by omega))) ?_
  rintro _ _ ⟨_, _, ⟨ad4, cp5, rfl, rfl⟩, rfl, rfl⟩
  refine ⟨Fit.sub, ?_⟩
  have hnl15 := nbG_len nd es v
  refine D.step (rs := [6]) (by kernel_rfl) rfl rfl (all1 ?_)
  refine Step.eff rfl (Wanted.plain rfl) (Eff.call call58 rfl rfl (Meet_ok Sl.o Sl.o (by have := nbG_len nd es u; omega))) ?_
  rintro _ _ ⟨_, _, ⟨ad6, cp7, rfl, rfl⟩, rfl, rfl⟩
  refine ⟨Fit.sub, ?_⟩
  refine D.r 7 rfl (Runs.assign rfl) ?_ (hJ := Fit.sub)
  refine D.done (by kernel_rfl) ?_
  refine V.then ?_
  refine W.sub (L' := [(6, _)]) (Sub.cons rfl Sub.nil) ?_
  refine W.ret ?_
  have hX : (commonG nd es u v) = _ := if_neg c9
  exact V.ret1 rfl rfl (vc 3 (.slice ad6 (commonG nd es u v).length cp7) (commonG nd es u v) :: I) (by rw [hX]; exact Fit.sub) ⟨ad6, cp7, by rw [hX], rfl⟩

theorem FindP03_ok {κ : Ctx} {I : List Item} {nd : Int} {va : Value} {es : List Pt} (hl : Sl κ I va es) (u v : Int) :
    CallS Tryz.prog κ 13 [.agg #[I64 (nd), va], I64 (u), I64 (v)] I (fun r J => ∃ y : Int, r = I64 y ∧ FindP nd es u v y ∧ I = J) := by
 refine CallS.pull hl.le fun hmax => ?_
 refine CallS.enter (L := [(0, .agg #[I64 (nd), va]), (1, I64 (u)), (2, I64 (v))]) Tryz.func13 rfl rfl rfl rfl ?_
 refine W.sr ?_
 refine G.e (Eff.box (cs := [_, _]) rfl rfl rfl) ?_
 rintro _ _ ⟨b1, rfl, rfl⟩
 refine G.r (Runs.assign rfl) ?_
 refine G.nt ?_
 refine W.seq ?_
 refine W.sr ?_
 refine G.r (Runs.lds (vs := [_, _]) ty28) ?_
 refine G.e (Eff.call call35 rfl rfl (Check03G_ok (nd := nd) (Sl.f hl))) ?_
 rintro _ _ ⟨_, _, ⟨rfl, rfl⟩, rfl, rfl⟩
 refine G.r (Runs.neq rfl rfl) ?_
 refine G.nt ?_
 refine W.ite rfl (fun c11 => ?_) (fun c11 => ?_)
 ·refine W.sr ?_
  refine G.r (Runs.assign rfl) ?_
  refine G.nt ?_
  refine W.ret ?_
  refine V.then_ret ?_
  exact V.ret1 rfl rfl (I) Fit.m ⟨_, rfl, .inr ⟨rfl, .inl c11⟩, rfl⟩
 ·refine W.skip ?_
  refine V.then ?_
  refine W.seq ?_
  refine W.sr ?_
  refine G.r (Runs.fieldAddr fld28_1 rfl) ?_
  refine G.r (Runs.ld ty26) ?_
  refine G.r (Runs.lenT (α := Pt) (xs := es) Tryz.underlying26 rfl (Sl.f hl)) ?_
  refine G.r (Runs.move rfl) ?_
  refine G.nt ?_
  refine W.block ?_
  refine W.loop (σ := Nat) (fun s => ([(1, I64 (u)), (2, I64 (v)), (13, va), (14, I64 (((es.length : Nat) : Int))), (15, I64 (((s : Nat) : Int)))] : Env)) (fun s => blk b1 [I64 (nd), va] 28 :: I) (fun s => (s ≤ es.length) ∧ (∀ j, j < s → at_ es (j : Int) ≠ edgeP u v)) (fun s => es.length - s) (0) (show ((0 : Nat) ≤ es.length) ∧ (∀ j, j < (0 : Nat) → at_ es (j : Int) ≠ edgeP u v) from ⟨(by omega), all_zero⟩) (Sub.cons rfl (Sub.cons rfl (Sub.cons rfl (Sub.cons rfl (Sub.cons lookO Sub.nil))))) (show Fit κ _ (blk b1 [I64 (nd), va] 28 :: I) from Fit.sub) ?_
  rintro k hp
  obtain ⟨hk, hn⟩ : (k ≤ es.length) ∧ (∀ j, j < k → at_ es (j : Int) ≠ edgeP u v) := hp
  show W Tryz.prog κ 27 _ _ ([(1, I64 (u)), (2, I64 (v)), (13, va), (14, I64 (((es.length : Nat) : Int))), (15, I64 (((k : Nat) : Int)))] : Env) (blk b1 [I64 (nd), va] 28 :: I)
  refine W.sr ?_
  refine G.r (Runs.lss rfl rfl) ?_
  refine G.nt ?_
  refine W.seq ?_
  refine W.ite rfl (fun c16 => ?_) (fun c16 => ?_)
  ·refine W.skip ?_
   refine V.then ?_
   refine W.seq ?_
   refine W.block ?_
   refine W.sr ?_
   refine G.r (Runs.move rfl) ?_
   refine G.r (Runs.idx (α := Pt) (xs := es) Tryz.underlying26 ty52 rfl rfl (Sl.f hl) (by omega) (by omega)) ?_
   refine G.r (Runs.gets (α := Pt) (xs := es) ty52 rfl (Sl.f hl) (by omega) (by omega)) ?_
   refine G.e (Eff.alloc ty52 rfl) ?_
   rintro _ _ ⟨b2, rfl, rfl⟩
   refine G.r (Runs.assign rfl) ?_
   refine G.e (Eff.st (cs := [_, _]) (vs := [_, _]) (cs' := [_, _]) ty52) ?_
   rintro _ _ ⟨rfl, rfl⟩
   refine G.nt ?_
   refine W.seq ?_
   refine W.drawn mixed ?_
   refine A.hold (blk b2 [I64 ((at_ es ((k : Nat) : Int)).u), I64 ((at_ es ((k : Nat) : Int)).v)] 52 :: blk b1 [I64 (nd), va] 28 :: I) 5 ?_
   refine D.r 0 rfl (Runs.lds (vs := [_, _]) ty52) ?_
   refine D.r 1 rfl (Runs.move rfl) ?_
   refine D.r 2 rfl (Runs.move rfl) ?_
   refine D.step (rs := [3]) (by kernel_rfl) rfl rfl (all1 ?_)
   refine Step.eff rfl (Wanted.plain rfl) (Eff.call call52 rfl rfl (Edge03_ok u v)) ?_
   rintro _ _ ⟨_, _, ⟨rfl, rfl⟩, rfl, rfl⟩
   refine ⟨Fit.m, ?_⟩
   refine D.r 4 rfl (Runs.eqlT (α := Pt) (a := (at_ es ((k : Nat) : Int))) (b := (edgeP u v)) eqt52 rfl rfl) ?_
   refine D.done (by kernel_rfl) ?_
   refine V.then ?_
   refine W.sub (L' := [(24, _), (7, _), (1, _), (2, _), (13, _), (14, _), (15, _)]) (Sub.cons rfl (Sub.cons rfl (Sub.cons rfl (Sub.cons rfl (Sub.cons rfl (Sub.cons rfl (Sub.cons rfl Sub.nil))))))) ?_
   refine W.ite rfl (fun c24 => ?_) (fun c24 => ?_)
   ·refine W.sr ?_
    refine G.r (Runs.move rfl) ?_
    refine G.r (Runs.assign rfl) ?_
    refine G.nt ?_
    refine W.ret ?_
    refine V.block_ret ?_
    refine V.then_ret ?_
    refine V.then_ret ?_
    refine V.block_ret ?_
    refine V.then_ret ?_
    exact V.ret1 rfl rfl (I) Fit.m ⟨_, rfl, .inl ⟨Classical.not_not.1 c11, k, rfl, by omega, c24⟩, rfl⟩
   ·refine W.skip ?_
    refine V.block_normal ?_
    refine V.then ?_
    refine W.region ?_
    refine G.r (Runs.add rfl rfl (by unfold InR; omega)) ?_
    refine G.r (Runs.move rfl) ?_
    refine G.nil ?_
    exact V.next ((k + 1)) (show ((k + 1 : Nat) ≤ es.length) ∧ (∀ j, j < (k + 1 : Nat) → at_ es (j : Int) ≠ edgeP u v) from ⟨(by omega), (all_succ hn c24)⟩) (show es.length - (k + 1 : Nat) < es.length - k from (by omega)) (Sub.cons rfl (Sub.cons rfl (Sub.cons rfl (Sub.cons rfl (Sub.cons lookO Sub.nil))))) (show Fit κ _ (blk b1 [I64 (nd), va] 28 :: I) from Fit.sub)
  ·refine W.exit ?_
   refine V.then_exit ?_
   refine V.then_exit ?_
   refine V.block_hit ?_
   refine V.then ?_
   refine W.sr ?_
   refine G.r (Runs.assign rfl) ?_
   refine G.nt ?_
   refine W.ret ?_
   have hm : edgeP u v ∉ es := not_mem_at hn (by omega)
   exact V.ret1 rfl rfl (I) Fit.m ⟨_, rfl, .inr ⟨rfl, .inr hm⟩, rfl⟩

theorem Induced03_ok {κ : Ctx} {I : List Item} {nd : Int} {va vb : Value} {es : List Pt} {set : List Int} (hl : Sl κ I va es) (hs : Sl κ I vb set) (hb : es.length ≤ 1000000) :
    CallS Tryz.prog κ 23 [.agg #[I64 (nd), va], vb] I (fun r J => ∃ a c, r = .tuple #[.agg #[I64 (indN nd es), .slice a (indG nd es set).length c], I64 (checkG nd es)] ∧ J = vc 52 (.slice a (indG nd es set).length c) (indG nd es set) :: I) := by
 refine CallS.pull hl.le fun hmax => ?_
 refine CallS.enter (L := [(0, .agg #[I64 (nd), va]), (1, vb)]) Tryz.func23 rfl rfl rfl rfl ?_
 refine W.sr ?_
 refine G.e (Eff.box (cs := [_, _]) rfl rfl rfl) ?_
 rintro _ _ ⟨b1, rfl, rfl⟩
 refine G.e (Eff.alloc ty28 rfl) ?_
 rintro _ _ ⟨b2, rfl, rfl⟩
 refine G.r (Runs.assign rfl) ?_
 refine G.nt ?_
 refine W.seq ?_
 refine W.sr ?_
 refine G.r (Runs.lds (vs := [_, _]) ty28) ?_
 refine G.e (Eff.call call35 rfl rfl (Check03G_ok (nd := nd) (Sl.f hl))) ?_
 rintro _ _ ⟨_, _, ⟨rfl, rfl⟩, rfl, rfl⟩
 refine G.r (Runs.assign rfl) ?_
 refine G.nt ?_
 refine W.sr ?_
 refine G.r (Runs.move rfl) ?_
 refine G.r (Runs.neq rfl rfl) ?_
 refine G.nt ?_
 refine W.ite rfl (fun c13 => ?_) (fun c13 => ?_)
 ·refine W.sr ?_
  refine G.r (Runs.build (cells := [_, _]) ty28 Tryz.underlying28 pl28 rfl rfl) ?_
  refine G.r (Runs.move rfl) ?_
  refine G.e (Eff.st (cs := [_, _]) (vs := [_, _]) (cs' := [_, _]) ty28) ?_
  rintro _ _ ⟨rfl, rfl⟩
  refine G.r (Runs.assign rfl) ?_
  refine G.nt ?_
  refine W.ret ?_
  refine V.then_ret ?_
  have hX : (indG nd es set) = [] := if_pos c13
  have hN : indN nd es = 0 := if_pos c13
  exact V.retc1 rfl ty28 rfl rfl (by repeat (first | exact List.mem_cons_self | apply List.mem_cons_of_mem)) rfl (vc 52 (.slice none (indG nd es set).length 0) (indG nd es set) :: I) (by rw [hX]; exact Fit.trans (show Fit κ _ I from Fit.m) (Fit.nilvc (α := Pt) _ _)) ⟨none, 0, by rw [hX, hN]; rfl, rfl⟩
 ·refine W.skip ?_
  refine V.then ?_
  refine W.sr ?_
  refine G.r (Runs.fieldAddr fld28_0 rfl) ?_
  refine G.r (Runs.ld ty3) ?_
  refine G.r (Runs.build (cells := [_, _]) ty28 Tryz.underlying28 pl28 rfl rfl) ?_
  refine G.e (Eff.alloc ty28 rfl) ?_
  rintro _ _ ⟨b3, rfl, rfl⟩
  refine G.e (Eff.st (cs := [_, _]) (vs := [_, _]) (cs' := [_, _]) ty28) ?_
  rintro _ _ ⟨rfl, rfl⟩
  refine G.nt ?_
  refine W.sub (L' := [(7, _), (4, _), (2, _), (1, _)]) (Sub.cons rfl (Sub.cons rfl (Sub.cons rfl (Sub.cons rfl Sub.nil)))) ?_
  refine W.seq ?_
  refine W.sr ?_
  refine G.r (Runs.fieldAddr fld28_1 rfl) ?_
  refine G.r (Runs.ld ty26) ?_
  refine G.r (Runs.lenT (α := Pt) (xs := es) Tryz.underlying26 rfl (Sl.f hl)) ?_
  refine G.r (Runs.move rfl) ?_
  refine G.nt ?_
  refine W.block ?_
  refine W.loop (σ := Nat × (Option Addr) × Nat × (List Pt)) (fun s => ([(1, vb), (4, .pointer (some ⟨b2, 0, none⟩)), (7, .pointer (some ⟨b3, 0, none⟩)), (20, va), (21, I64 (((es.length : Nat) : Int))), (22, I64 (((s.1 : Nat) : Int)))] : Env)) (fun s => vc 52 (.slice s.2.1 s.2.2.2.length s.2.2.1) (s.2.2.2) :: blk b3 [I64 (nd), .slice s.2.1 s.2.2.2.length s.2.2.1] 28 :: blk b2 [I64 (0), .slice none 0 0] 28 :: blk b1 [I64 (nd), va] 28 :: I) (fun s => (s.1 ≤ es.length) ∧ (s.2.2.2 = (es.take s.1).filter fun e => decide (e.u ∈ set ∧ e.v ∈ set))) (fun s => es.length - s.1) (0, none, 0, []) (show ((0 : Nat) ≤ es.length) ∧ (([] : List Pt) = (es.take (0 : Nat)).filter fun e => decide (e.u ∈ set ∧ e.v ∈ set)) from ⟨(by omega), rfl⟩) (Sub.cons rfl (Sub.cons rfl (Sub.cons rfl (Sub.cons rfl (Sub.cons rfl (Sub.cons lookO Sub.nil)))))) (show Fit κ _ (vc 52 (.slice (none) ([]).length (0)) (([])) :: blk b3 [I64 (nd), .slice (none) ([]).length (0)] 28 :: blk b2 [I64 (0), .slice none 0 0] 28 :: blk b1 [I64 (nd), va] 28 :: I) from (Fit.nilvc _ _)) ?_
  rintro ⟨k, a, c, out⟩ hp
  obtain ⟨hk, ho⟩ : (k ≤ es.length) ∧ (out = (es.take k).filter fun e => decide (e.u ∈ set ∧ e.v ∈ set)) := hp
  show W Tryz.prog κ 44 _ _ ([(1, vb), (4, .pointer (some ⟨b2, 0, none⟩)), (7, .pointer (some ⟨b3, 0, none⟩)), (20, va), (21, I64 (((es.length : Nat) : Int))), (22, I64 (((k : Nat) : Int)))] : Env) (vc 52 (.slice a out.length c) (out) :: blk b3 [I64 (nd), .slice a out.length c] 28 :: blk b2 [I64 (0), .slice none 0 0] 28 :: blk b1 [I64 (nd), va] 28 :: I)
  have hol : out.length ≤ es.length := by rw [ho]; refine Nat.le_trans (List.length_filter_le _ _) ?_; simp only [List.length_take]; omega
  refine W.sr ?_
  refine G.r (Runs.lss rfl rfl) ?_
  refine G.nt ?_
  refine W.seq ?_
  refine W.ite rfl (fun c23 => ?_) (fun c23 => ?_)
  ·refine W.skip ?_
   refine V.then ?_
   refine W.seq ?_
   refine W.block ?_
   refine W.sr ?_
   refine G.r (Runs.idx (α := Pt) (xs := es) Tryz.underlying26 ty52 rfl rfl (Sl.f hl) (by omega) (by omega)) ?_
   refine G.r (Runs.gets (α := Pt) (xs := es) ty52 rfl (Sl.f hl) (by omega) (by omega)) ?_
   refine G.e (Eff.alloc ty52 rfl) ?_
   rintro _ _ ⟨b4, rfl, rfl⟩
   refine G.e (Eff.st (cs := [_, _]) (vs := [_, _]) (cs' := [_, _]) ty52) ?_
   rintro _ _ ⟨rfl, rfl⟩
   refine G.nt ?_
   refine W.sr ?_
   refine G.r (Runs.move rfl) ?_
   refine G.r (Runs.fieldAddr fld52_0 rfl) ?_
   refine G.r (Runs.ld ty3) ?_
   refine G.e (Eff.call call60 rfl rfl (RHas_ok (Sl.f hs) ((at_ es ((k : Nat) : Int)).u))) ?_
   rintro _ _ ⟨_, _, ⟨rfl, rfl⟩, rfl, rfl⟩
   refine G.r (Runs.move rfl) ?_
   refine G.split (d := 30) rfl (fun g30 => ?_) (fun g30 => ?_)
   ·refine G.ro (Runs.move rfl) ?_
    refine G.ro (Runs.fieldAddr fld52_1 rfl) ?_
    refine G.ro (Runs.ld ty3) ?_
    refine G.eff (Wanted.on rfl rfl rfl) (Eff.call call60 rfl rfl (RHas_ok (Sl.f hs) ((at_ es ((k : Nat) : Int)).v))) ?_
    rintro _ _ ⟨_, _, ⟨rfl, rfl⟩, rfl, rfl⟩
    refine G.r (Runs.pickt rfl rfl) ?_
    refine G.nt ?_
    refine W.sub (L' := [(35, _), (9, _), (1, _), (4, _), (7, _), (20, _), (21, _), (22, _)]) (Sub.cons rfl (Sub.cons rfl (Sub.cons rfl (Sub.cons rfl (Sub.cons rfl (Sub.cons rfl (Sub.cons rfl (Sub.cons rfl Sub.nil)))))))) ?_
    refine W.ite rfl (fun c35 => ?_) (fun c35 => ?_)
    ·refine W.region ?_
     refine G.r (Runs.fieldAddr fld28_1 rfl) ?_
     refine G.r (Runs.ld ty26) ?_
     refine G.r (Runs.lds (vs := [_, _]) ty52) ?_
     refine G.e (Eff.bs (α := Pt) (cs := [_, _]) (xs := [⟨(at_ es ((k : Nat) : Int)).u, (at_ es ((k : Nat) : Int)).v⟩]) Tryz.underlying26 ty52 rfl rfl (by decide) (by decide) rfl rfl rfl rfl) ?_
     rintro _ _ ⟨ad5, rfl, rfl⟩
     refine G.e (Eff.app (α := Pt) (e := 52) (xs := out) (ys := ([⟨(at_ es ((k : Nat) : Int)).u, (at_ es ((k : Nat) : Int)).v⟩] : List Pt)) Tryz.underlying26 ty52 rfl rfl rfl (by repeat (first | exact List.mem_cons_self | apply List.mem_cons_of_mem)) Sl.o (by simp only [List.length_cons, List.length_nil]; omega) (by decide) rfl (fun _ _ => (by repeat (first | exact At.head _ _ _ | apply At.tail)))) ?_
     rintro _ _ ⟨ad6, cp7, rfl, rfl⟩
     refine G.r (Runs.fieldAddr fld28_1 rfl) ?_
     refine G.e (Eff.st (cs := [_, _]) (vs := [_]) (cs' := [_, _]) ty26) ?_
     rintro _ _ ⟨rfl, rfl⟩
     refine G.nil ?_
     refine V.block_normal ?_
     refine V.then ?_
     refine W.sub (L' := [(1, _), (4, _), (7, _), (20, _), (21, _), (22, _)]) (Sub.cons rfl (Sub.cons rfl (Sub.cons rfl (Sub.cons rfl (Sub.cons rfl (Sub.cons rfl Sub.nil)))))) ?_
     refine W.region ?_
     refine G.r (Runs.add rfl rfl (by unfold InR; omega)) ?_
     refine G.r (Runs.move rfl) ?_
     refine G.nil ?_
     exact V.next ((k + 1), (ad6), (cp7), (out ++ ([⟨(at_ es ((k : Nat) : Int)).u, (at_ es ((k : Nat) : Int)).v⟩] : List Pt))) (show ((k + 1 : Nat) ≤ es.length) ∧ ((out ++ ([⟨(at_ es ((k : Nat) : Int)).u, (at_ es ((k : Nat) : Int)).v⟩] : List Pt) : List Pt) = (es.take (k + 1 : Nat)).filter fun e => decide (e.u ∈ set ∧ e.v ∈ set)) from ⟨(by omega), (by first | rw [flt_yes (by omega) (decide_eq_true ⟨by assumption, by assumption⟩), ← ho] | rw [flt_no (by omega) (decide_eq_false (fun h => by first | exact absurd h.1 (by assumption) | exact absurd h.2 (by assumption))), ← ho])⟩) (show es.length - (k + 1 : Nat) < es.length - k from (by omega)) (Sub.cons rfl (Sub.cons rfl (Sub.cons rfl (Sub.cons rfl (Sub.cons rfl (Sub.cons lookO Sub.nil)))))) (show Fit κ _ (vc 52 (.slice (ad6) (out ++ ([⟨(at_ es ((k : Nat) : Int)).u, (at_ es ((k : Nat) : Int)).v⟩] : List Pt)).length (cp7)) ((out ++ ([⟨(at_ es ((k : Nat) : Int)).u, (at_ es ((k : Nat) : Int)).v⟩] : List Pt))) :: blk b3 [I64 (nd), .slice (ad6) (out ++ ([⟨(at_ es ((k : Nat) : Int)).u, (at_ es ((k : Nat) : Int)).v⟩] : List Pt)).length (cp7)] 28 :: blk b2 [I64 (0), .slice none 0 0] 28 :: blk b1 [I64 (nd), va] 28 :: I) from Fit.sub)
    ·refine W.skip ?_
     refine V.block_normal ?_
     refine V.then ?_
     refine W.region ?_
     refine G.r (Runs.add rfl rfl (by unfold InR; omega)) ?_
     refine G.r (Runs.move rfl) ?_
     refine G.nil ?_
     exact V.next ((k + 1), (a), (c), (out)) (show ((k + 1 : Nat) ≤ es.length) ∧ ((out : List Pt) = (es.take (k + 1 : Nat)).filter fun e => decide (e.u ∈ set ∧ e.v ∈ set)) from ⟨(by omega), (by first | rw [flt_yes (by omega) (decide_eq_true ⟨by assumption, by assumption⟩), ← ho] | rw [flt_no (by omega) (decide_eq_false (fun h => by first | exact absurd h.1 (by assumption) | exact absurd h.2 (by assumption))), ← ho])⟩) (show es.length - (k + 1 : Nat) < es.length - k from (by omega)) (Sub.cons rfl (Sub.cons rfl (Sub.cons rfl (Sub.cons rfl (Sub.cons rfl (Sub.cons lookO Sub.nil)))))) (show Fit κ _ (vc 52 (.slice (a) (out).length (c)) ((out)) :: blk b3 [I64 (nd), .slice (a) (out).length (c)] 28 :: blk b2 [I64 (0), .slice none 0 0] 28 :: blk b1 [I64 (nd), va] 28 :: I) from Fit.sub)
   ·refine G.po ?_
    refine G.po ?_
    refine G.po ?_
    refine G.po ?_
    refine G.r (Runs.pickf rfl rfl) ?_
    refine G.nt ?_
    refine W.sub (L' := [(35, _), (9, _), (1, _), (4, _), (7, _), (20, _), (21, _), (22, _)]) (Sub.cons rfl (Sub.cons rfl (Sub.cons rfl (Sub.cons rfl (Sub.cons rfl (Sub.cons rfl (Sub.cons rfl (Sub.cons rfl Sub.nil)))))))) ?_
    refine W.no rfl ?_
    refine W.skip ?_
    refine V.block_normal ?_
    refine V.then ?_
    refine W.region ?_
    refine G.r (Runs.add rfl rfl (by unfold InR; omega)) ?_
    refine G.r (Runs.move rfl) ?_
    refine G.nil ?_
    exact V.next ((k + 1), (a), (c), (out)) (show ((k + 1 : Nat) ≤ es.length) ∧ ((out : List Pt) = (es.take (k + 1 : Nat)).filter fun e => decide (e.u ∈ set ∧ e.v ∈ set)) from ⟨(by omega), (by first | rw [flt_yes (by omega) (decide_eq_true ⟨by assumption, by assumption⟩), ← ho] | rw [flt_no (by omega) (decide_eq_false (fun h => by first | exact absurd h.1 (by assumption) | exact absurd h.2 (by assumption))), ← ho])⟩) (show es.length - (k + 1 : Nat) < es.length - k from (by omega)) (Sub.cons rfl (Sub.cons rfl (Sub.cons rfl (Sub.cons rfl (Sub.cons rfl (Sub.cons lookO Sub.nil)))))) (show Fit κ _ (vc 52 (.slice (a) (out).length (c)) ((out)) :: blk b3 [I64 (nd), .slice (a) (out).length (c)] 28 :: blk b2 [I64 (0), .slice none 0 0] 28 :: blk b1 [I64 (nd), va] 28 :: I) from Fit.sub)
  ·refine W.exit ?_
   refine V.then_exit ?_
   refine V.then_exit ?_
   refine V.block_hit ?_
   refine V.then ?_
   refine W.sr ?_
   refine G.r (Runs.lds (vs := [_, _]) ty28) ?_
   refine G.e (Eff.st (cs := [_, _]) (vs := [_, _]) (cs' := [_, _]) ty28) ?_
   rintro _ _ ⟨rfl, rfl⟩
   refine G.r (Runs.assign rfl) ?_
   refine G.nt ?_
   refine W.ret ?_
   have ho2 : out = es.filter fun e => decide (e.u ∈ set ∧ e.v ∈ set) := by rw [ho, List.take_of_length_le (by omega)]
   have hX : indG nd es set = out := by rw [indG_ref set c13, ho2]
   have hN : indN nd es = nd := if_neg c13
   have hz : checkG nd es = 0 := Classical.not_not.1 c13
   exact V.retc1 rfl ty28 rfl rfl (by repeat (first | exact List.mem_cons_self | apply List.mem_cons_of_mem)) rfl (vc 52 (.slice a (indG nd es set).length c) (indG nd es set) :: I) (by rw [hX]; exact Fit.sub) ⟨a, c, by first | (rw [hX, hN, hz]; done) | (rw [hX, hN, hz]; rfl), rfl⟩

theorem Inside03_ok {κ : Ctx} {I : List Item} {nd : Int} {va vb : Value} {es : List Pt} {set : List Int} (hl : Sl κ I va es) (hs : Sl κ I vb set) (hb : es.length ≤ 1000000) :
    CallS Tryz.prog κ 28 [.agg #[I64 (nd), va], vb] I (fun r J => r = I64 ((insideN nd es set : Nat) : Int) ∧ I = J) := by
 refine CallS.enter (L := [(0, .agg #[I64 (nd), va]), (1, vb)]) Tryz.func28 rfl rfl rfl rfl ?_
 refine W.sr ?_
 refine G.e (Eff.box (cs := [_, _]) rfl rfl rfl) ?_
 rintro _ _ ⟨b1, rfl, rfl⟩
 refine G.r (Runs.assign rfl) ?_
 refine G.nt ?_
 refine W.sr ?_
 refine G.r (Runs.lds (vs := [_, _]) ty28) ?_
 refine G.r (Runs.move rfl) ?_
 refine G.e (Eff.call call23 rfl rfl (Induced03_ok (nd := nd) (Sl.f hl) (Sl.f hs) (by omega))) ?_
 rintro _ _ ⟨_, _, ⟨ad2, cp3, rfl, rfl⟩, rfl, rfl⟩
 refine G.r (Runs.move rfl) ?_
 refine G.r (Runs.extract rfl rfl) ?_
 refine G.r (Runs.extract rfl rfl) ?_
 refine G.e (Eff.alloc ty28 rfl) ?_
 rintro _ _ ⟨b4, rfl, rfl⟩
 refine G.e (Eff.st (cs := [_, _]) (vs := [_, _]) (cs' := [_, _]) ty28) ?_
 rintro _ _ ⟨rfl, rfl⟩
 refine G.r (Runs.assign rfl) ?_
 refine G.nt ?_
 refine W.sr ?_
 refine G.r (Runs.fieldAddr fld28_1 rfl) ?_
 refine G.r (Runs.ld ty26) ?_
 refine G.r (Runs.lens Tryz.underlying26 rfl) ?_
 refine G.r (Runs.assign rfl) ?_
 refine G.nt ?_
 refine W.sub (L' := [(4, _)]) (Sub.cons rfl Sub.nil) ?_
 refine W.ret ?_
 exact V.ret1 rfl rfl (I) Fit.m ⟨by rw [indG_len], rfl⟩

theorem Density03_ok {κ : Ctx} {I : List Item} {nd : Int} {va vb : Value} {es : List Pt} {set : List Int} (hl : Sl κ I va es) (hs : Sl κ I vb set) (hb : es.length ≤ 1000000) (hsb : set.length ≤ 1000000) :
    CallS Tryz.prog κ 25 [.agg #[I64 (nd), va], vb] I (fun r J => r = .tuple #[.agg #[I64 (densG nd es set).num, I64 (densG nd es set).den], I64 (checkG nd es)] ∧ I = J) := by
 refine CallS.enter (L := [(0, .agg #[I64 (nd), va]), (1, vb)]) Tryz.func25 rfl rfl rfl rfl ?_
 refine W.sr ?_
 refine G.e (Eff.box (cs := [_, _]) rfl rfl rfl) ?_
 rintro _ _ ⟨b1, rfl, rfl⟩
 refine G.e (Eff.alloc ty45 rfl) ?_
 rintro _ _ ⟨b2, rfl, rfl⟩
 refine G.r (Runs.assign rfl) ?_
 refine G.nt ?_
 refine W.seq ?_
 refine W.sr ?_
 refine G.r (Runs.lds (vs := [_, _]) ty28) ?_
 refine G.e (Eff.call call35 rfl rfl (Check03G_ok (nd := nd) (Sl.f hl))) ?_
 rintro _ _ ⟨_, _, ⟨rfl, rfl⟩, rfl, rfl⟩
 refine G.r (Runs.assign rfl) ?_
 refine G.nt ?_
 refine W.sr ?_
 refine G.r (Runs.move rfl) ?_
 refine G.r (Runs.neq rfl rfl) ?_
 refine G.nt ?_
 refine W.ite rfl (fun c11 => ?_) (fun c11 => ?_)
 ·refine W.sr ?_
  refine G.r (Runs.build (cells := [_, _]) ty45 Tryz.underlying45 pl45 rfl rfl) ?_
  refine G.r (Runs.move rfl) ?_
  refine G.e (Eff.st (cs := [_, _]) (vs := [_, _]) (cs' := [_, _]) ty45) ?_
  rintro _ _ ⟨rfl, rfl⟩
  refine G.r (Runs.assign rfl) ?_
  refine G.nt ?_
  refine W.ret ?_
  refine V.then_ret ?_
  have hX : (densG nd es set) = ⟨0, 0⟩ := if_pos c11
  exact V.retc1 rfl ty45 rfl rfl (by repeat (first | exact List.mem_cons_self | apply List.mem_cons_of_mem)) rfl (I) Fit.m ⟨by first | (rw [hX]; done) | (rw [hX]; rfl), rfl⟩
 ·refine W.skip ?_
  refine V.then ?_
  refine W.sr ?_
  refine G.r (Runs.move rfl) ?_
  refine G.r (Runs.fieldAddr fld28_0 rfl) ?_
  refine G.r (Runs.ld ty3) ?_
  refine G.e (Eff.call call64 rfl rfl (Range_ok nd)) ?_
  rintro _ _ ⟨_, _, ⟨ad3, cp4, rfl, rfl⟩, rfl, rfl⟩
  refine G.e (Eff.call call58 rfl rfl (Meet_ok (Sl.f hs) Sl.o (by omega))) ?_
  rintro _ _ ⟨_, _, ⟨ad5, cp6, rfl, rfl⟩, rfl, rfl⟩
  refine G.r (Runs.lens Tryz.underlying22 rfl) ?_
  refine G.r (Runs.assign rfl) ?_
  have hml : (meetL set (rangeI nd)).length ≤ set.length := by unfold meetL; exact Nat.le_trans (List.length_filter_le _ _) (ofL_len _)
  refine G.nt ?_
  refine W.sub (L' := [(7, _), (4, _), (2, _), (1, _)]) (Sub.cons rfl (Sub.cons rfl (Sub.cons rfl (Sub.cons rfl Sub.nil)))) ?_
  refine W.seq ?_
  refine W.sr ?_
  refine G.r (Runs.move rfl) ?_
  refine G.r (Runs.eql rfl rfl) ?_
  refine G.nt ?_
  refine W.ite rfl (fun c21 => ?_) (fun c21 => ?_)
  ·refine W.sr ?_
   refine G.r (Runs.build (cells := [_, _]) ty45 Tryz.underlying45 pl45 rfl rfl) ?_
   refine G.e (Eff.st (cs := [_, _]) (vs := [_, _]) (cs' := [_, _]) ty45) ?_
   rintro _ _ ⟨rfl, rfl⟩
   refine G.r (Runs.assign rfl) ?_
   refine G.nt ?_
   refine W.ret ?_
   refine V.then_ret ?_
   have hz : checkG nd es = 0 := Classical.not_not.1 c11
   have hX : (densG nd es set) = ⟨0, 1⟩ := by unfold densG; rw [if_neg c11, if_pos (by omega)]
   exact V.retc1 rfl ty45 rfl rfl (by repeat (first | exact List.mem_cons_self | apply List.mem_cons_of_mem)) rfl (I) Fit.m ⟨by first | (rw [hX, hz]; done) | (rw [hX, hz]; rfl), rfl⟩
  ·refine W.skip ?_
   refine V.then ?_
   refine W.sr ?_
   refine G.r (Runs.lds (vs := [_, _]) ty28) ?_
   refine G.r (Runs.move rfl) ?_
   refine G.e (Eff.call call28 rfl rfl (Inside03_ok (nd := nd) (Sl.f hl) (Sl.f hs) (by omega))) ?_
   rintro _ _ ⟨_, _, ⟨rfl, rfl⟩, rfl, rfl⟩
   have hin25 := insideN_le nd es set
   refine G.r (Runs.move rfl) ?_
   refine G.e (Eff.call call34 rfl rfl (RatOf_ok ((insideN nd es set : Nat) : Int) (((meetL set (rangeI nd)).length : Nat) : Int) (by omega) (by omega))) ?_
   rintro _ _ ⟨_, _, ⟨rfl, rfl⟩, rfl, rfl⟩
   refine G.e (Eff.st (cs := [_, _]) (vs := [_, _]) (cs' := [_, _]) ty45) ?_
   rintro _ _ ⟨rfl, rfl⟩
   refine G.r (Runs.assign rfl) ?_
   refine G.nt ?_
   refine W.ret ?_
   have hz : checkG nd es = 0 := Classical.not_not.1 c11
   have hX : (densG nd es set) = mkF ((insideN nd es set : Nat) : Int) ((((meetL set (rangeI nd)).length : Nat)) : Int) := by unfold densG; rw [if_neg c11, if_neg (by omega)]
   exact V.retc1 rfl ty45 rfl rfl (by repeat (first | exact List.mem_cons_self | apply List.mem_cons_of_mem)) rfl (I) Fit.m ⟨by first | (rw [hX, hz]; done) | (rw [hX, hz]; rfl), rfl⟩

end Go.Sl
