/- A part of the proofs of statements of this seat: contracts of functions, and the plain laws that they lean on. No conditions. -/
import Derived.Test.YtbimaodbcjjbfaaDoorLookA
namespace Go.Sl
open Go.Proofs
set_option linter.unusedVariables false
set_option linter.unusedSimpArgs false
set_option maxRecDepth 4000
theorem nbL_len (es : List Pt) (v : Int) : (nbL es v).length ≤ 2 * es.length := by
  induction es with
  | nil => simp [nbL]
  | cons e es ih =>
    have e1 : nbL (e :: es) v = ((if e.u = v then [e.v] else []) ++ (if e.v = v then [e.u] else [])) ++ nbL es v := rfl
    rw [e1, List.length_append, List.length_append, List.length_cons]
    have h1 : (if e.u = v then [e.v] else ([] : List Int)).length ≤ 1 := by split <;> simp
    have h2 : (if e.v = v then [e.u] else ([] : List Int)).length ≤ 1 := by split <;> simp
    omega

theorem Neigh03_ok {κ : Ctx} {I : List Item} {nd : Int} {va : Value} {es : List Pt} (hl : Sl κ I va es) (v : Int) (hb : es.length ≤ 1000000) :
    CallS Tryd.prog κ 26 [.agg #[I64 (nd), va], I64 (v)] I (fun r J => ∃ a c, r = .slice a (nbG nd es v).length c ∧ J = vc 3 (.slice a (nbG nd es v).length c) (nbG nd es v) :: I) := by
 refine CallS.pull hl.le fun hmax => ?_
 refine CallS.enter (L := [(0, .agg #[I64 (nd), va]), (1, I64 (v))]) Tryd.func26 rfl rfl rfl rfl ?_
 refine W.sr ?_
 refine G.e (Eff.box (cs := [_, _]) rfl rfl rfl) ?_
 rintro _ _ ⟨b1, rfl, rfl⟩
 refine G.r (Runs.assign rfl) ?_
 refine G.nt ?_
 refine W.seq ?_
 refine W.sr ?_
 refine G.r (Runs.lds (vs := [_, _]) ty25) ?_
 refine G.e (Eff.call call70 rfl rfl (Check03G_ok (nd := nd) (Sl.f hl))) ?_
 rintro _ _ ⟨_, _, ⟨rfl, rfl⟩, rfl, rfl⟩
 refine G.r (Runs.neq rfl rfl) ?_
 refine G.nt ?_
 refine W.ite rfl (fun c10 => ?_) (fun c10 => ?_)
 ·refine W.sr ?_
  refine G.r (Runs.assign rfl) ?_
  refine G.nt ?_
  refine W.ret ?_
  refine V.then_ret ?_
  have hX : (nbG nd es v) = [] := if_pos c10
  exact V.ret1 rfl rfl (vc 3 (.slice none (nbG nd es v).length 0) (nbG nd es v) :: I) (by rw [hX]; exact Fit.trans (show Fit κ _ I from Fit.m) (Fit.nilvc (α := Int) _ _)) ⟨none, 0, by rw [hX]; rfl, rfl⟩
 ·refine W.skip ?_
  refine V.then ?_
  refine W.sr ?_
  refine G.r (Runs.assign rfl) ?_
  refine G.nt ?_
  refine W.seq ?_
  refine W.sr ?_
  refine G.r (Runs.fieldAddr fld25_1 rfl) ?_
  refine G.r (Runs.ld ty23) ?_
  refine G.r (Runs.lenT (α := Pt) (xs := es) Tryd.underlying23 rfl (Sl.f hl)) ?_
  refine G.r (Runs.move rfl) ?_
  refine G.nt ?_
  refine W.block ?_
  refine W.loop (σ := Nat × (Option Addr) × Nat × (List Int)) (fun s => ([(1, I64 (v)), (5, .slice s.2.1 s.2.2.2.length s.2.2.1), (12, va), (13, I64 (((es.length : Nat) : Int))), (14, I64 (((s.1 : Nat) : Int)))] : Env)) (fun s => vc 3 (.slice s.2.1 s.2.2.2.length s.2.2.1) (s.2.2.2) :: blk b1 [I64 (nd), va] 25 :: I) (fun s => (s.1 ≤ es.length) ∧ (s.2.2.2 = nbL (es.take s.1) v)) (fun s => es.length - s.1) (0, none, 0, []) (show ((0 : Nat) ≤ es.length) ∧ (([] : List Int) = nbL (es.take (0 : Nat)) v) from ⟨(by omega), rfl⟩) (Sub.cons rfl (Sub.cons (lookV rfl (by first | rfl | simp)) (Sub.cons rfl (Sub.cons rfl (Sub.cons lookO Sub.nil))))) (show Fit κ _ (vc 3 (.slice (none) ([]).length (0)) (([])) :: blk b1 [I64 (nd), va] 25 :: I) from (Fit.nilvc _ _)) ?_
  rintro ⟨k, a, c, out⟩ hp
  obtain ⟨hk, ho⟩ : (k ≤ es.length) ∧ (out = nbL (es.take k) v) := hp
  show W Tryd.prog κ 39 _ _ ([(1, I64 (v)), (5, .slice a out.length c), (12, va), (13, I64 (((es.length : Nat) : Int))), (14, I64 (((k : Nat) : Int)))] : Env) (vc 3 (.slice a out.length c) (out) :: blk b1 [I64 (nd), va] 25 :: I)
  have hol : out.length ≤ 2 * es.length := by rw [ho]; refine Nat.le_trans (nbL_len _ _) ?_; simp only [List.length_take]; omega
  refine W.sr ?_
  refine G.r (Runs.lss rfl rfl) ?_
  refine G.nt ?_
  refine W.seq ?_
  refine W.ite rfl (fun c15 => ?_) (fun c15 => ?_)
  ·refine W.skip ?_
   refine V.then ?_
   refine W.seq ?_
   refine W.block ?_
   refine W.sr ?_
   refine G.r (Runs.idx (α := Pt) (xs := es) Tryd.underlying23 ty38 rfl rfl (Sl.f hl) (by omega) (by omega)) ?_
   refine G.r (Runs.gets (α := Pt) (xs := es) ty38 rfl (Sl.f hl) (by omega) (by omega)) ?_
   refine G.e (Eff.alloc ty38 rfl) ?_
   rintro _ _ ⟨b2, rfl, rfl⟩
   refine G.e (Eff.st (cs := [_, _]) (vs := [_, _]) (cs' := [_, _]) ty38) ?_
   rintro _ _ ⟨rfl, rfl⟩
   refine G.nt ?_
   refine W.seq ?_
   refine W.sr ?_
   refine G.r (Runs.fieldAddr fld38_0 rfl) ?_
   refine G.r (Runs.ld ty3) ?_
   refine G.r (Runs.move rfl) ?_
   refine G.r (Runs.eql rfl rfl) ?_
   refine G.nt ?_
   refine W.ite rfl (fun c21 => ?_) (fun c21 => ?_)
   ·refine W.region ?_
    refine G.r (Runs.move rfl) ?_
    refine G.r (Runs.fieldAddr fld38_1 rfl) ?_
    refine G.r (Runs.ld ty3) ?_
    refine G.e (Eff.bs (α := Int) (cs := [_]) (xs := [(at_ es ((k : Nat) : Int)).v]) Tryd.underlying22 ty3 rfl rfl (by decide) (by decide) rfl rfl rfl rfl) ?_
    rintro _ _ ⟨ad3, rfl, rfl⟩
    refine G.e (Eff.app (α := Int) (e := 3) (xs := out) (ys := ([(at_ es ((k : Nat) : Int)).v] : List Int)) Tryd.underlying22 ty3 rfl rfl rfl (by repeat (first | exact List.mem_cons_self | apply List.mem_cons_of_mem)) Sl.o (by simp only [List.length_append, List.length_cons, List.length_nil]; omega) (by decide) rfl (fun _ _ => (by repeat (first | exact At.head _ _ _ | apply At.tail)))) ?_
    rintro _ _ ⟨ad4, cp5, rfl, rfl⟩
    refine G.r (Runs.assign rfl) ?_
    refine G.nt ?_
    refine W.sub (L' := [(5, _), (7, _), (1, _), (12, _), (13, _), (14, _)]) (Sub.cons rfl (Sub.cons rfl (Sub.cons rfl (Sub.cons rfl (Sub.cons rfl (Sub.cons rfl Sub.nil)))))) ?_
    refine W.sr ?_
    refine G.r (Runs.fieldAddr fld38_1 rfl) ?_
    refine G.r (Runs.ld ty3) ?_
    refine G.r (Runs.move rfl) ?_
    refine G.r (Runs.eql rfl rfl) ?_
    refine G.nt ?_
    refine W.ite rfl (fun c30 => ?_) (fun c30 => ?_)
    ·refine W.region ?_
     refine G.r (Runs.move rfl) ?_
     refine G.r (Runs.fieldAddr fld38_0 rfl) ?_
     refine G.r (Runs.ld ty3) ?_
     refine G.e (Eff.bs (α := Int) (cs := [_]) (xs := [(at_ es ((k : Nat) : Int)).u]) Tryd.underlying22 ty3 rfl rfl (by decide) (by decide) rfl rfl rfl rfl) ?_
     rintro _ _ ⟨ad6, rfl, rfl⟩
     refine G.e (Eff.app (α := Int) (e := 3) (xs := out ++ ([(at_ es ((k : Nat) : Int)).v] : List Int)) (ys := ([(at_ es ((k : Nat) : Int)).u] : List Int)) Tryd.underlying22 ty3 rfl rfl rfl (by repeat (first | exact List.mem_cons_self | apply List.mem_cons_of_mem)) Sl.o (by simp only [List.length_append, List.length_cons, List.length_nil]; omega) (by decide) rfl (fun _ _ => (by repeat (first | exact At.head _ _ _ | apply At.tail)))) ?_
     rintro _ _ ⟨ad7, cp8, rfl, rfl⟩
     refine G.r (Runs.assign rfl) ?_
     refine G.nil ?_
     refine V.block_normal ?_
     refine V.then ?_
     refine W.sub (L' := [(5, _), (1, _), (12, _), (13, _), (14, _)]) (Sub.cons rfl (Sub.cons rfl (Sub.cons rfl (Sub.cons rfl (Sub.cons rfl Sub.nil))))) ?_
     refine W.region ?_
     refine G.r (Runs.add rfl rfl (by unfold InR; omega)) ?_
     refine G.r (Runs.move rfl) ?_
     refine G.nil ?_
     exact V.next ((k + 1), (ad7), (cp8), ((out ++ ([(at_ es ((k : Nat) : Int)).v] : List Int)) ++ ([(at_ es ((k : Nat) : Int)).u] : List Int))) (show ((k + 1 : Nat) ≤ es.length) ∧ (((out ++ ([(at_ es ((k : Nat) : Int)).v] : List Int)) ++ ([(at_ es ((k : Nat) : Int)).u] : List Int) : List Int) = nbL (es.take (k + 1 : Nat)) v) from ⟨(by omega), (by rw [nbL_take (by omega), ← ho]; (first | rw [if_pos c21, if_pos c30] | rw [if_pos c21, if_neg c30] | rw [if_neg c21, if_pos c30] | rw [if_neg c21, if_neg c30]) <;> simp)⟩) (show es.length - (k + 1 : Nat) < es.length - k from (by omega)) (Sub.cons rfl (Sub.cons (lookV rfl (by first | rfl | simp)) (Sub.cons rfl (Sub.cons rfl (Sub.cons lookO Sub.nil))))) (show Fit κ _ (vc 3 (.slice (ad7) ((out ++ ([(at_ es ((k : Nat) : Int)).v] : List Int)) ++ ([(at_ es ((k : Nat) : Int)).u] : List Int)).length (cp8)) (((out ++ ([(at_ es ((k : Nat) : Int)).v] : List Int)) ++ ([(at_ es ((k : Nat) : Int)).u] : List Int))) :: blk b1 [I64 (nd), va] 25 :: I) from Fit.sub)
    ·refine W.skip ?_
     refine V.block_normal ?_
     refine V.then ?_
     refine W.region ?_
     refine G.r (Runs.add rfl rfl (by unfold InR; omega)) ?_
     refine G.r (Runs.move rfl) ?_
     refine G.nil ?_
     exact V.next ((k + 1), (ad4), (cp5), (out ++ ([(at_ es ((k : Nat) : Int)).v] : List Int))) (show ((k + 1 : Nat) ≤ es.length) ∧ ((out ++ ([(at_ es ((k : Nat) : Int)).v] : List Int) : List Int) = nbL (es.take (k + 1 : Nat)) v) from ⟨(by omega), (by rw [nbL_take (by omega), ← ho]; (first | rw [if_pos c21, if_pos c30] | rw [if_pos c21, if_neg c30] | rw [if_neg c21, if_pos c30] | rw [if_neg c21, if_neg c30]) <;> simp)⟩) (show es.length - (k + 1 : Nat) < es.length - k from (by omega)) (Sub.cons rfl (Sub.cons (lookV rfl (by first | rfl | simp)) (Sub.cons rfl (Sub.cons rfl (Sub.cons lookO Sub.nil))))) (show Fit κ _ (vc 3 (.slice (ad4) (out ++ ([(at_ es ((k : Nat) : Int)).v] : List Int)).length (cp5)) ((out ++ ([(at_ es ((k : Nat) : Int)).v] : List Int))) :: blk b1 [I64 (nd), va] 25 :: I) from Fit.sub)
   ·refine W.skip ?_
    refine V.then ?_
    refine W.sr ?_
    refine G.r (Runs.fieldAddr fld38_1 rfl) ?_
    refine G.r (Runs.ld ty3) ?_
    refine G.r (Runs.move rfl) ?_
    refine G.r (Runs.eql rfl rfl) ?_
    refine G.nt ?_
    refine W.sub (L' := [(30, _), (7, _), (1, _), (5, _), (12, _), (13, _), (14, _)]) (Sub.cons rfl (Sub.cons rfl (Sub.cons rfl (Sub.cons rfl (Sub.cons rfl (Sub.cons rfl (Sub.cons rfl Sub.nil))))))) ?_
    refine W.ite rfl (fun c30 => ?_) (fun c30 => ?_)
    ·refine W.region ?_
     refine G.r (Runs.move rfl) ?_
     refine G.r (Runs.fieldAddr fld38_0 rfl) ?_
     refine G.r (Runs.ld ty3) ?_
     refine G.e (Eff.bs (α := Int) (cs := [_]) (xs := [(at_ es ((k : Nat) : Int)).u]) Tryd.underlying22 ty3 rfl rfl (by decide) (by decide) rfl rfl rfl rfl) ?_
     rintro _ _ ⟨ad9, rfl, rfl⟩
     refine G.e (Eff.app (α := Int) (e := 3) (xs := out) (ys := ([(at_ es ((k : Nat) : Int)).u] : List Int)) Tryd.underlying22 ty3 rfl rfl rfl (by repeat (first | exact List.mem_cons_self | apply List.mem_cons_of_mem)) Sl.o (by simp only [List.length_append, List.length_cons, List.length_nil]; omega) (by decide) rfl (fun _ _ => (by repeat (first | exact At.head _ _ _ | apply At.tail)))) ?_
     rintro _ _ ⟨ad10, cp11, rfl, rfl⟩
     refine G.r (Runs.assign rfl) ?_
     refine G.nil ?_
     refine V.block_normal ?_
     refine V.then ?_
     refine W.region ?_
     refine G.r (Runs.add rfl rfl (by unfold InR; omega)) ?_
     refine G.r (Runs.move rfl) ?_
     refine G.nil ?_
     exact V.next ((k + 1), (ad10), (cp11), (out ++ ([(at_ es ((k : Nat) : Int)).u] : List Int))) (show ((k + 1 : Nat) ≤ es.length) ∧ ((out ++ ([(at_ es ((k : Nat) : Int)).u] : List Int) : List Int) = nbL (es.take (k + 1 : Nat)) v) from ⟨(by omega), (by rw [nbL_take (by omega), ← ho]; (first | rw [if_pos c21, if_pos c30] | rw [if_pos c21, if_neg c30] | rw [if_neg c21, if_pos c30] | rw [if_neg c21, if_neg c30]) <;> simp)⟩) (show es.length - (k + 1 : Nat) < es.length - k from (by omega)) (Sub.cons rfl (Sub.cons (lookV rfl (by first | rfl | simp)) (Sub.cons rfl (Sub.cons rfl (Sub.cons lookO Sub.nil))))) (show Fit κ _ (vc 3 (.slice (ad10) (out ++ ([(at_ es ((k : Nat) : Int)).u] : List Int)).length (cp11)) ((out ++ ([(at_ es ((k : Nat) : Int)).u] : List Int))) :: blk b1 [I64 (nd), va] 25 :: I) from Fit.sub)
    ·refine W.skip ?_
     refine V.block_normal ?_
     refine V.then ?_
     refine W.region ?_
     refine G.r (Runs.add rfl rfl (by unfold InR; omega)) ?_
     refine G.r (Runs.move rfl) ?_
     refine G.nil ?_
     exact V.next ((k + 1), (a), (c), (out)) (show ((k + 1 : Nat) ≤ es.length) ∧ ((out : List Int) = nbL (es.take (k + 1 : Nat)) v) from ⟨(by omega), (by rw [nbL_take (by omega), ← ho]; (first | rw [if_pos c21, if_pos c30] | rw [if_pos c21, if_neg c30] | rw [if_neg c21, if_pos c30] | rw [if_neg c21, if_neg c30]) <;> simp)⟩) (show es.length - (k + 1 : Nat) < es.length - k from (by omega)) (Sub.cons rfl (Sub.cons (lookV rfl (by first | rfl | simp)) (Sub.cons rfl (Sub.cons rfl (Sub.cons lookO Sub.nil))))) (show Fit κ _ (vc 3 (.slice (a) (out).length (c)) ((out)) :: blk b1 [I64 (nd), va] 25 :: I) from Fit.sub)
  ·refine W.exit ?_
   refine V.then_exit ?_
   refine V.then_exit ?_
   refine V.block_hit ?_
   refine V.then ?_
   refine W.sr ?_
   refine G.r (Runs.move rfl) ?_
   refine G.e (Eff.call call18 rfl rfl (Of_ok Sl.o (by omega))) ?_
   rintro _ _ ⟨_, _, ⟨ad12, cp13, rfl, rfl⟩, rfl, rfl⟩
   refine G.r (Runs.assign rfl) ?_
   refine G.nt ?_
   refine W.ret ?_
   have ho2 : out = nbL es v := by rw [ho, List.take_of_length_le (by omega)]
   subst ho2
   have hX : nbG nd es v = ofL (nbL es v) := if_neg c10
   exact V.ret1 rfl rfl (vc 3 (.slice ad12 (nbG nd es v).length cp13) (nbG nd es v) :: I) (by rw [hX]; exact Fit.sub) ⟨ad12, cp13, by rw [hX], rfl⟩

theorem Induced03_ok {κ : Ctx} {I : List Item} {nd : Int} {va vb : Value} {es : List Pt} {set : List Int} (hl : Sl κ I va es) (hs : Sl κ I vb set) (hb : es.length ≤ 1000000) :
    CallS Tryd.prog κ 133 [.agg #[I64 (nd), va], vb] I (fun r J => ∃ a c, r = .tuple #[.agg #[I64 (indN nd es), .slice a (indG nd es set).length c], I64 (checkG nd es)] ∧ J = vc 38 (.slice a (indG nd es set).length c) (indG nd es set) :: I) := by
 refine CallS.pull hl.le fun hmax => ?_
 refine CallS.enter (L := [(0, .agg #[I64 (nd), va]), (1, vb)]) Tryd.func133 rfl rfl rfl rfl ?_
 refine W.sr ?_
 refine G.e (Eff.box (cs := [_, _]) rfl rfl rfl) ?_
 rintro _ _ ⟨b1, rfl, rfl⟩
 refine G.e (Eff.alloc ty25 rfl) ?_
 rintro _ _ ⟨b2, rfl, rfl⟩
 refine G.r (Runs.assign rfl) ?_
 refine G.nt ?_
 refine W.seq ?_
 refine W.sr ?_
 refine G.r (Runs.lds (vs := [_, _]) ty25) ?_
 refine G.e (Eff.call call70 rfl rfl (Check03G_ok (nd := nd) (Sl.f hl))) ?_
 rintro _ _ ⟨_, _, ⟨rfl, rfl⟩, rfl, rfl⟩
 refine G.r (Runs.assign rfl) ?_
 refine G.nt ?_
 refine W.sr ?_
 refine G.r (Runs.move rfl) ?_
 refine G.r (Runs.neq rfl rfl) ?_
 refine G.nt ?_
 refine W.ite rfl (fun c13 => ?_) (fun c13 => ?_)
 ·refine W.sr ?_
  refine G.r (Runs.build (cells := [_, _]) ty25 Tryd.underlying25 pl25 rfl rfl) ?_
  refine G.r (Runs.move rfl) ?_
  refine G.e (Eff.st (cs := [_, _]) (vs := [_, _]) (cs' := [_, _]) ty25) ?_
  rintro _ _ ⟨rfl, rfl⟩
  refine G.r (Runs.assign rfl) ?_
  refine G.nt ?_
  refine W.ret ?_
  refine V.then_ret ?_
  have hX : (indG nd es set) = [] := if_pos c13
  have hN : indN nd es = 0 := if_pos c13
  exact V.retc1 rfl ty25 rfl rfl (by repeat (first | exact List.mem_cons_self | apply List.mem_cons_of_mem)) rfl (vc 38 (.slice none (indG nd es set).length 0) (indG nd es set) :: I) (by rw [hX]; exact Fit.trans (show Fit κ _ I from Fit.m) (Fit.nilvc (α := Pt) _ _)) ⟨none, 0, by rw [hX, hN]; rfl, rfl⟩
 ·refine W.skip ?_
  refine V.then ?_
  refine W.sr ?_
  refine G.r (Runs.fieldAddr fld25_0 rfl) ?_
  refine G.r (Runs.ld ty3) ?_
  refine G.r (Runs.build (cells := [_, _]) ty25 Tryd.underlying25 pl25 rfl rfl) ?_
  refine G.e (Eff.alloc ty25 rfl) ?_
  rintro _ _ ⟨b3, rfl, rfl⟩
  refine G.e (Eff.st (cs := [_, _]) (vs := [_, _]) (cs' := [_, _]) ty25) ?_
  rintro _ _ ⟨rfl, rfl⟩
  refine G.nt ?_
  refine W.sub (L' := [(7, _), (4, _), (2, _), (1, _)]) (Sub.cons rfl (Sub.cons rfl (Sub.cons rfl (Sub.cons rfl Sub.nil)))) ?_
  refine W.seq ?_
  refine W.sr ?_
  refine G.r (Runs.fieldAddr fld25_1 rfl) ?_
  refine G.r (Runs.ld ty23) ?_
  refine G.r (Runs.lenT (α := Pt) (xs := es) Tryd.underlying23 rfl (Sl.f hl)) ?_
  refine G.r (Runs.move rfl) ?_
  refine G.nt ?_
  refine W.block ?_
  refine W.loop (σ := Nat × (Option Addr) × Nat × (List Pt)) (fun s => ([(1, vb), (4, .pointer (some ⟨b2, 0, none⟩)), (7, .pointer (some ⟨b3, 0, none⟩)), (20, va), (21, I64 (((es.length : Nat) : Int))), (22, I64 (((s.1 : Nat) : Int)))] : Env)) (fun s => vc 38 (.slice s.2.1 s.2.2.2.length s.2.2.1) (s.2.2.2) :: blk b3 [I64 (nd), .slice s.2.1 s.2.2.2.length s.2.2.1] 25 :: blk b2 [I64 (0), .slice none 0 0] 25 :: blk b1 [I64 (nd), va] 25 :: I) (fun s => (s.1 ≤ es.length) ∧ (s.2.2.2 = (es.take s.1).filter fun e => decide (e.u ∈ set ∧ e.v ∈ set))) (fun s => es.length - s.1) (0, none, 0, []) (show ((0 : Nat) ≤ es.length) ∧ (([] : List Pt) = (es.take (0 : Nat)).filter fun e => decide (e.u ∈ set ∧ e.v ∈ set)) from ⟨(by omega), rfl⟩) (Sub.cons rfl (Sub.cons rfl (Sub.cons rfl (Sub.cons rfl (Sub.cons rfl (Sub.cons lookO Sub.nil)))))) (show Fit κ _ (vc 38 (.slice (none) ([]).length (0)) (([])) :: blk b3 [I64 (nd), .slice (none) ([]).length (0)] 25 :: blk b2 [I64 (0), .slice none 0 0] 25 :: blk b1 [I64 (nd), va] 25 :: I) from (Fit.nilvc _ _)) ?_
  rintro ⟨k, a, c, out⟩ hp
  obtain ⟨hk, ho⟩ : (k ≤ es.length) ∧ (out = (es.take k).filter fun e => decide (e.u ∈ set ∧ e.v ∈ set)) := hp
  show W Tryd.prog κ 44 _ _ ([(1, vb), (4, .pointer (some ⟨b2, 0, none⟩)), (7, .pointer (some ⟨b3, 0, none⟩)), (20, va), (21, I64 (((es.length : Nat) : Int))), (22, I64 (((k : Nat) : Int)))] : Env) (vc 38 (.slice a out.length c) (out) :: blk b3 [I64 (nd), .slice a out.length c] 25 :: blk b2 [I64 (0), .slice none 0 0] 25 :: blk b1 [I64 (nd), va] 25 :: I)
  have hol : out.length ≤ es.length := by rw [ho]; refine Nat.le_trans (List.length_filter_le _ _) ?_; simp only [List.length_take]; omega
  refine W.sr ?_
  refine G.r (Runs.lss rfl rfl) ?_
  refine G.nt ?_
  refine W.seq ?_
  refine W.ite rfl (fun c23 => ?_) (fun c23 => ?_)
  ·refine W.skip ?_
   refine V.then ?_
   refine W.seq ?_
   refine W.block ?_
   refine W.sr ?_
   refine G.r (Runs.idx (α := Pt) (xs := es) Tryd.underlying23 ty38 rfl rfl (Sl.f hl) (by omega) (by omega)) ?_
   refine G.r (Runs.gets (α := Pt) (xs := es) ty38 rfl (Sl.f hl) (by omega) (by omega)) ?_
   refine G.e (Eff.alloc ty38 rfl) ?_
   rintro _ _ ⟨b4, rfl, rfl⟩
   refine G.e (Eff.st (cs := [_, _]) (vs := [_, _]) (cs' := [_, _]) ty38) ?_
   rintro _ _ ⟨rfl, rfl⟩
   refine G.nt ?_
   refine W.sr ?_
   refine G.r (Runs.move rfl) ?_
   refine G.r (Runs.fieldAddr fld38_0 rfl) ?_
   refine G.r (Runs.ld ty3) ?_
   refine G.e (Eff.call call19 rfl rfl (RHas_ok (Sl.f hs) ((at_ es ((k : Nat) : Int)).u))) ?_
   rintro _ _ ⟨_, _, ⟨rfl, rfl⟩, rfl, rfl⟩
   refine G.r (Runs.move rfl) ?_
   refine G.split (d := 30) rfl (fun g30 => ?_) (fun g30 => ?_)
   ·refine G.ro (Runs.move rfl) ?_
    refine G.ro (Runs.fieldAddr fld38_1 rfl) ?_
    refine G.ro (Runs.ld ty3) ?_
    refine G.eff (Wanted.on rfl rfl rfl) (Eff.call call19 rfl rfl (RHas_ok (Sl.f hs) ((at_ es ((k : Nat) : Int)).v))) ?_
    rintro _ _ ⟨_, _, ⟨rfl, rfl⟩, rfl, rfl⟩
    refine G.r (Runs.pickt rfl rfl) ?_
    refine G.nt ?_
    refine W.sub (L' := [(35, _), (9, _), (1, _), (4, _), (7, _), (20, _), (21, _), (22, _)]) (Sub.cons rfl (Sub.cons rfl (Sub.cons rfl (Sub.cons rfl (Sub.cons rfl (Sub.cons rfl (Sub.cons rfl (Sub.cons rfl Sub.nil)))))))) ?_
    refine W.ite rfl (fun c35 => ?_) (fun c35 => ?_)
    ·refine W.region ?_
     refine G.r (Runs.fieldAddr fld25_1 rfl) ?_
     refine G.r (Runs.ld ty23) ?_
     refine G.r (Runs.lds (vs := [_, _]) ty38) ?_
     refine G.e (Eff.bs (α := Pt) (cs := [_, _]) (xs := [⟨(at_ es ((k : Nat) : Int)).u, (at_ es ((k : Nat) : Int)).v⟩]) Tryd.underlying23 ty38 rfl rfl (by decide) (by decide) rfl rfl rfl rfl) ?_
     rintro _ _ ⟨ad5, rfl, rfl⟩
     refine G.e (Eff.app (α := Pt) (e := 38) (xs := out) (ys := ([⟨(at_ es ((k : Nat) : Int)).u, (at_ es ((k : Nat) : Int)).v⟩] : List Pt)) Tryd.underlying23 ty38 rfl rfl rfl (by repeat (first | exact List.mem_cons_self | apply List.mem_cons_of_mem)) Sl.o (by simp only [List.length_cons, List.length_nil]; omega) (by decide) rfl (fun _ _ => (by repeat (first | exact At.head _ _ _ | apply At.tail)))) ?_
     rintro _ _ ⟨ad6, cp7, rfl, rfl⟩
     refine G.r (Runs.fieldAddr fld25_1 rfl) ?_
     refine G.e (Eff.st (cs := [_, _]) (vs := [_]) (cs' := [_, _]) ty23) ?_
     rintro _ _ ⟨rfl, rfl⟩
     refine G.nil ?_
     refine V.block_normal ?_
     refine V.then ?_
     refine W.sub (L' := [(1, _), (4, _), (7, _), (20, _), (21, _), (22, _)]) (Sub.cons rfl (Sub.cons rfl (Sub.cons rfl (Sub.cons rfl (Sub.cons rfl (Sub.cons rfl Sub.nil)))))) ?_
     refine W.region ?_
     refine G.r (Runs.add rfl rfl (by unfold InR; omega)) ?_
     refine G.r (Runs.move rfl) ?_
     refine G.nil ?_
     exact V.next ((k + 1), (ad6), (cp7), (out ++ ([⟨(at_ es ((k : Nat) : Int)).u, (at_ es ((k : Nat) : Int)).v⟩] : List Pt))) (show ((k + 1 : Nat) ≤ es.length) ∧ ((out ++ ([⟨(at_ es ((k : Nat) : Int)).u, (at_ es ((k : Nat) : Int)).v⟩] : List Pt) : List Pt) = (es.take (k + 1 : Nat)).filter fun e => decide (e.u ∈ set ∧ e.v ∈ set)) from ⟨(by omega), (by first | rw [flt_yes (by omega) (decide_eq_true ⟨by assumption, by assumption⟩), ← ho] | rw [flt_no (by omega) (decide_eq_false (fun h => by first | exact absurd h.1 (by assumption) | exact absurd h.2 (by assumption))), ← ho])⟩) (show es.length - (k + 1 : Nat) < es.length - k from (by omega)) (Sub.cons rfl (Sub.cons rfl (Sub.cons rfl (Sub.cons rfl (Sub.cons rfl (Sub.cons lookO Sub.nil)))))) (show Fit κ _ (vc 38 (.slice (ad6) (out ++ ([⟨(at_ es ((k : Nat) : Int)).u, (at_ es ((k : Nat) : Int)).v⟩] : List Pt)).length (cp7)) ((out ++ ([⟨(at_ es ((k : Nat) : Int)).u, (at_ es ((k : Nat) : Int)).v⟩] : List Pt))) :: blk b3 [I64 (nd), .slice (ad6) (out ++ ([⟨(at_ es ((k : Nat) : Int)).u, (at_ es ((k : Nat) : Int)).v⟩] : List Pt)).length (cp7)] 25 :: blk b2 [I64 (0), .slice none 0 0] 25 :: blk b1 [I64 (nd), va] 25 :: I) from Fit.sub)
    ·refine W.skip ?_
     refine V.block_normal ?_
     refine V.then ?_
     refine W.region ?_
     refine G.r (Runs.add rfl rfl (by unfold InR; omega)) ?_
     refine G.r (Runs.move rfl) ?_
     refine G.nil ?_
     exact V.next ((k + 1), (a), (c), (out)) (show ((k + 1 : Nat) ≤ es.length) ∧ ((out : List Pt) = (es.take (k + 1 : Nat)).filter fun e => decide (e.u ∈ set ∧ e.v ∈ set)) from ⟨(by omega), (by first | rw [flt_yes (by omega) (decide_eq_true ⟨by assumption, by assumption⟩), ← ho] | rw [flt_no (by omega) (decide_eq_false (fun h => by first | exact absurd h.1 (by assumption) | exact absurd h.2 (by assumption))), ← ho])⟩) (show es.length - (k + 1 : Nat) < es.length - k from (by omega)) (Sub.cons rfl (Sub.cons rfl (Sub.cons rfl (Sub.cons rfl (Sub.cons rfl (Sub.cons lookO Sub.nil)))))) (show Fit κ _ (vc 38 (.slice (a) (out).length (c)) ((out)) :: blk b3 [I64 (nd), .slice (a) (out).length (c)] 25 :: blk b2 [I64 (0), .slice none 0 0] 25 :: blk b1 [I64 (nd), va] 25 :: I) from Fit.sub)
   ·refine G.po ?_
    refine G.po ?_
    refine G.po ?_
    refine G.po ?_
    refine G.r (Runs.pickf rfl rfl) ?_
    refine G.nt ?_
    refine W.sub (L' := [(35, _), (9, _), (1, _), (4, _), (7, _), (20, _), (21, _), (22, _)]) (Sub.cons rfl (Sub.cons rfl (Sub.cons rfl (Sub.cons rfl (Sub.cons rfl (Sub.cons rfl (Sub.cons rfl (Sub.cons rfl Sub.nil)))))))) ?_
    refine W.no rfl ?_
    refine W.skip ?_
    refine V.block_normal ?_
    refine V.then ?_
    refine W.region ?_
    refine G.r (Runs.add rfl rfl (by unfold InR; omega)) ?_
    refine G.r (Runs.move rfl) ?_
    refine G.nil ?_
    exact V.next ((k + 1), (a), (c), (out)) (show ((k + 1 : Nat) ≤ es.length) ∧ ((out : List Pt) = (es.take (k + 1 : Nat)).filter fun e => decide (e.u ∈ set ∧ e.v ∈ set)) from ⟨(by omega), (by first | rw [flt_yes (by omega) (decide_eq_true ⟨by assumption, by assumption⟩), ← ho] | rw [flt_no (by omega) (decide_eq_false (fun h => by first | exact absurd h.1 (by assumption) | exact absurd h.2 (by assumption))), ← ho])⟩) (show es.length - (k + 1 : Nat) < es.length - k from (by omega)) (Sub.cons rfl (Sub.cons rfl (Sub.cons rfl (Sub.cons rfl (Sub.cons rfl (Sub.cons lookO Sub.nil)))))) (show Fit κ _ (vc 38 (.slice (a) (out).length (c)) ((out)) :: blk b3 [I64 (nd), .slice (a) (out).length (c)] 25 :: blk b2 [I64 (0), .slice none 0 0] 25 :: blk b1 [I64 (nd), va] 25 :: I) from Fit.sub)
  ·refine W.exit ?_
   refine V.then_exit ?_
   refine V.then_exit ?_
   refine V.block_hit ?_
   refine V.then ?_
   refine W.sr ?_
   refine G.r (Runs.lds (vs := [_, _]) ty25) ?_
   refine G.e (Eff.st (cs := [_, _]) (vs := [_, _]) (cs' := [_, _]) ty25) ?_
   rintro _ _ ⟨rfl, rfl⟩
   refine G.r (Runs.assign rfl) ?_
   refine G.nt ?_
   refine W.ret ?_
   have ho2 : out = es.filter fun e => decide (e.u ∈ set ∧ e.v ∈ set) := by rw [ho, List.take_of_length_le (by omega)]
   have hX : indG nd es set = out := by rw [indG_ref set c13, ho2]
   have hN : indN nd es = nd := if_neg c13
   have hz : checkG nd es = 0 := Classical.not_not.1 c13
   exact V.retc1 rfl ty25 rfl rfl (by repeat (first | exact List.mem_cons_self | apply List.mem_cons_of_mem)) rfl (vc 38 (.slice a (indG nd es set).length c) (indG nd es set) :: I) (by rw [hX]; exact Fit.sub) ⟨a, c, by first | (rw [hX, hN, hz]; done) | (rw [hX, hN, hz]; rfl), rfl⟩

end Go.Sl
