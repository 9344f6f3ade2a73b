/- A part of the proofs of statements of this seat: contracts of functions, and the plain laws that they lean on. No conditions. -/
import Derived.Test.YtbimaodbcjjbfaaDoorLookA
namespace Go.Sl
open Go.Proofs
set_option linter.unusedVariables false
set_option linter.unusedSimpArgs false
set_option maxRecDepth 4000
theorem FindP03_ok {κ : Ctx} {I : List Item} {nd : Int} {va : Value} {es : List Pt} (hl : Sl κ I va es) (u v : Int) :
    CallS Tryd.prog κ 17 [.agg #[I64 (nd), va], I64 (u), I64 (v)] I (fun r J => ∃ y : Int, r = I64 y ∧ FindP nd es u v y ∧ I = J) := by
 refine CallS.pull hl.le fun hmax => ?_
 refine CallS.enter (L := [(0, .agg #[I64 (nd), va]), (1, I64 (u)), (2, I64 (v))]) Tryd.func17 rfl rfl rfl rfl ?_
 refine W.sr ?_
 refine G.e (Eff.box (cs := [_, _]) rfl rfl rfl) ?_
 rintro _ _ ⟨b1, rfl, rfl⟩
 refine G.r (Runs.assign rfl) ?_
 refine G.nt ?_
 refine W.seq ?_
 refine W.sr ?_
 refine G.r (Runs.lds (vs := [_, _]) ty25) ?_
 refine G.e (Eff.call call70 rfl rfl (Check03G_ok (nd := nd) (Sl.f hl))) ?_
 rintro _ _ ⟨_, _, ⟨rfl, rfl⟩, rfl, rfl⟩
 refine G.r (Runs.neq rfl rfl) ?_
 refine G.nt ?_
 refine W.ite rfl (fun c11 => ?_) (fun c11 => ?_)
 ·refine W.sr ?_
  refine G.r (Runs.assign rfl) ?_
  refine G.nt ?_
  refine W.ret ?_
  refine V.then_ret ?_
  exact V.ret1 rfl rfl (I) Fit.m ⟨_, rfl, .inr ⟨rfl, .inl c11⟩, rfl⟩
 ·refine W.skip ?_
  refine V.then ?_
  refine W.seq ?_
  refine W.sr ?_
  refine G.r (Runs.fieldAddr fld25_1 rfl) ?_
  refine G.r (Runs.ld ty23) ?_
  refine G.r (Runs.lenT (α := Pt) (xs := es) Tryd.underlying23 rfl (Sl.f hl)) ?_
  refine G.r (Runs.move rfl) ?_
  refine G.nt ?_
  refine W.block ?_
  refine W.loop (σ := Nat) (fun s => ([(1, I64 (u)), (2, I64 (v)), (13, va), (14, I64 (((es.length : Nat) : Int))), (15, I64 (((s : Nat) : Int)))] : Env)) (fun s => blk b1 [I64 (nd), va] 25 :: I) (fun s => (s ≤ es.length) ∧ (∀ j, j < s → at_ es (j : Int) ≠ edgeP u v)) (fun s => es.length - s) (0) (show ((0 : Nat) ≤ es.length) ∧ (∀ j, j < (0 : Nat) → at_ es (j : Int) ≠ edgeP u v) from ⟨(by omega), all_zero⟩) (Sub.cons rfl (Sub.cons rfl (Sub.cons rfl (Sub.cons rfl (Sub.cons lookO Sub.nil))))) (show Fit κ _ (blk b1 [I64 (nd), va] 25 :: I) from Fit.sub) ?_
  rintro k hp
  obtain ⟨hk, hn⟩ : (k ≤ es.length) ∧ (∀ j, j < k → at_ es (j : Int) ≠ edgeP u v) := hp
  show W Tryd.prog κ 27 _ _ ([(1, I64 (u)), (2, I64 (v)), (13, va), (14, I64 (((es.length : Nat) : Int))), (15, I64 (((k : Nat) : Int)))] : Env) (blk b1 [I64 (nd), va] 25 :: I)
  refine W.sr ?_
  refine G.r (Runs.lss rfl rfl) ?_
  refine G.nt ?_
  refine W.seq ?_
  refine W.ite rfl (fun c16 => ?_) (fun c16 => ?_)
  ·refine W.skip ?_
   refine V.then ?_
   refine W.seq ?_
   refine W.block ?_
   refine W.sr ?_
   refine G.r (Runs.move rfl) ?_
   refine G.r (Runs.idx (α := Pt) (xs := es) Tryd.underlying23 ty38 rfl rfl (Sl.f hl) (by omega) (by omega)) ?_
   refine G.r (Runs.gets (α := Pt) (xs := es) ty38 rfl (Sl.f hl) (by omega) (by omega)) ?_
   refine G.e (Eff.alloc ty38 rfl) ?_
   rintro _ _ ⟨b2, rfl, rfl⟩
   refine G.r (Runs.assign rfl) ?_
   refine G.e (Eff.st (cs := [_, _]) (vs := [_, _]) (cs' := [_, _]) ty38) ?_
   rintro _ _ ⟨rfl, rfl⟩
   refine G.nt ?_
   refine W.seq ?_
   refine W.drawn mixed ?_
   refine A.hold (blk b2 [I64 ((at_ es ((k : Nat) : Int)).u), I64 ((at_ es ((k : Nat) : Int)).v)] 38 :: blk b1 [I64 (nd), va] 25 :: I) 5 ?_
   refine D.r 0 rfl (Runs.lds (vs := [_, _]) ty38) ?_
   refine D.r 1 rfl (Runs.move rfl) ?_
   refine D.r 2 rfl (Runs.move rfl) ?_
   refine D.step (rs := [3]) (by kernel_rfl) rfl rfl (all1 ?_)
   refine Step.eff rfl (Wanted.plain rfl) (Eff.call call71 rfl rfl (Edge03_ok u v)) ?_
   rintro _ _ ⟨_, _, ⟨rfl, rfl⟩, rfl, rfl⟩
   refine ⟨Fit.m, ?_⟩
   refine D.r 4 rfl (Runs.eqlT (α := Pt) (a := (at_ es ((k : Nat) : Int))) (b := (edgeP u v)) eqt38 rfl rfl) ?_
   refine D.done (by kernel_rfl) ?_
   refine V.then ?_
   refine W.sub (L' := [(24, _), (7, _), (1, _), (2, _), (13, _), (14, _), (15, _)]) (Sub.cons rfl (Sub.cons rfl (Sub.cons rfl (Sub.cons rfl (Sub.cons rfl (Sub.cons rfl (Sub.cons rfl Sub.nil))))))) ?_
   refine W.ite rfl (fun c24 => ?_) (fun c24 => ?_)
   ·refine W.sr ?_
    refine G.r (Runs.move rfl) ?_
    refine G.r (Runs.assign rfl) ?_
    refine G.nt ?_
    refine W.ret ?_
    refine V.block_ret ?_
    refine V.then_ret ?_
    refine V.then_ret ?_
    refine V.block_ret ?_
    refine V.then_ret ?_
    exact V.ret1 rfl rfl (I) Fit.m ⟨_, rfl, .inl ⟨Classical.not_not.1 c11, k, rfl, by omega, c24⟩, rfl⟩
   ·refine W.skip ?_
    refine V.block_normal ?_
    refine V.then ?_
    refine W.region ?_
    refine G.r (Runs.add rfl rfl (by unfold InR; omega)) ?_
    refine G.r (Runs.move rfl) ?_
    refine G.nil ?_
    exact V.next ((k + 1)) (show ((k + 1 : Nat) ≤ es.length) ∧ (∀ j, j < (k + 1 : Nat) → at_ es (j : Int) ≠ edgeP u v) from ⟨(by omega), (all_succ hn c24)⟩) (show es.length - (k + 1 : Nat) < es.length - k from (by omega)) (Sub.cons rfl (Sub.cons rfl (Sub.cons rfl (Sub.cons rfl (Sub.cons lookO Sub.nil))))) (show Fit κ _ (blk b1 [I64 (nd), va] 25 :: I) from Fit.sub)
  ·refine W.exit ?_
   refine V.then_exit ?_
   refine V.then_exit ?_
   refine V.block_hit ?_
   refine V.then ?_
   refine W.sr ?_
   refine G.r (Runs.assign rfl) ?_
   refine G.nt ?_
   refine W.ret ?_
   have hm : edgeP u v ∉ es := not_mem_at hn (by omega)
   exact V.ret1 rfl rfl (I) Fit.m ⟨_, rfl, .inr ⟨rfl, .inr hm⟩, rfl⟩

end Go.Sl
