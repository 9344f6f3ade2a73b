/- A part of the proof of FlowProvesSaid: contracts of the functions that it reaches, and the plain laws that they lean on. No conditions. -/
import Derived.Test.YtbimaodbcjjbfaaPart06
import Derived.Test.YtbimaodbcjjbfaaPart05
import Derived.Test.YtbimaodbcjjbfaaPart04
namespace Go.Sl
open Go.Proofs
set_option linter.unusedVariables false
set_option linter.unusedSimpArgs false
set_option maxRecDepth 4000
theorem FProves_ok {κ : Ctx} {I : List Item} {n : Net} {v u w : Value} {f side : List Int} {val : Int} (hl : Sl κ I v n.arcs) (hu : Sl κ I u f) (hw : Sl κ I w side) :
    CallS Try.prog κ 28 [.agg #[I64 (n.nodes), I64 (n.source), I64 (n.sink), v], .agg #[u, I64 (val), w]] I (fun r J => r = I64 (provesE n f side val) ∧ I = J) := by
 refine CallS.pull hl.le fun hmax => ?_
 refine CallS.pull hu.le fun hmax2 => ?_
 refine CallS.enter (L := [(0, .agg #[I64 (n.nodes), I64 (n.source), I64 (n.sink), v]), (1, .agg #[u, I64 (val), w])]) Try.func28 rfl rfl rfl rfl ?_
 refine W.sr ?_
 refine G.e (Eff.box (cs := [_, _, _, _]) rfl rfl rfl) ?_
 rintro _ _ ⟨b1, rfl, rfl⟩
 refine G.e (Eff.box (cs := [_, _, _]) rfl rfl rfl) ?_
 rintro _ _ ⟨b2, rfl, rfl⟩
 refine G.r (Runs.assign rfl) ?_
 refine G.nt ?_
 refine W.seq ?_
 refine W.sr ?_
 refine G.r (Runs.lds (vs := [_, _, _, _]) ty30) ?_
 refine G.e (Eff.call call34 rfl rfl (FCheck_ok (n := n) (Sl.f hl))) ?_
 rintro _ _ ⟨_, _, ⟨rfl, rfl⟩, rfl, rfl⟩
 refine G.r (Runs.assign rfl) ?_
 refine G.nt ?_
 refine W.sr ?_
 refine G.r (Runs.move rfl) ?_
 refine G.r (Runs.neq rfl rfl) ?_
 refine G.nt ?_
 refine W.ite rfl (fun c13 => ?_) (fun c13 => ?_)
 ·refine W.sr ?_
  refine G.r (Runs.move rfl) ?_
  refine G.r (Runs.assign rfl) ?_
  refine G.nt ?_
  refine W.ret ?_
  refine V.then_ret ?_
  exact V.ret1 rfl rfl (I) Fit.m ⟨by rw [provesE_1 c13], rfl⟩
 ·refine W.skip ?_
  refine V.then ?_
  refine W.seq ?_
  refine W.sr ?_
  refine G.r (Runs.fieldAddr fld24_0 rfl) ?_
  refine G.r (Runs.ld ty22) ?_
  refine G.r (Runs.lenT (α := Int) (xs := f) Try.underlying22 rfl (Sl.f hu)) ?_
  refine G.r (Runs.fieldAddr fld30_3 rfl) ?_
  refine G.r (Runs.ld ty28) ?_
  refine G.r (Runs.lenT (α := Arc) (xs := n.arcs) Try.underlying28 rfl (Sl.f hl)) ?_
  refine G.r (Runs.neq rfl rfl) ?_
  refine G.r (Runs.move rfl) ?_
  refine G.split (d := 22) rfl (fun g22 => ?_) (fun g22 => ?_)
  ·refine G.po ?_
   refine G.po ?_
   refine G.po ?_
   refine G.po ?_
   refine G.po ?_
   refine G.po ?_
   refine G.r (Runs.pickt rfl rfl) ?_
   refine G.nt ?_
   refine W.sub (L' := [(29, _), (3, _), (2, _)]) (Sub.cons rfl (Sub.cons rfl (Sub.cons rfl Sub.nil))) ?_
   refine W.yes rfl ?_
   refine W.sr ?_
   refine G.r (Runs.assign rfl) ?_
   refine G.nt ?_
   refine W.ret ?_
   refine V.then_ret ?_
   have hbad : f.length ≠ n.arcs.length ∨ ¬ ValidP side n.nodes := by first | exact .inl (fun e => g22 (by omega)) | exact .inr c29
   exact V.ret1 rfl rfl (I) Fit.m ⟨by rw [provesE_4 (Decidable.of_not_not c13) hbad], rfl⟩
  ·refine G.ro (Runs.fieldAddr fld24_2 rfl) ?_
   refine G.ro (Runs.ld ty22) ?_
   refine G.ro (Runs.fieldAddr fld30_0 rfl) ?_
   refine G.ro (Runs.ld ty3) ?_
   refine G.eff (Wanted.on rfl rfl rfl) (Eff.call call96 rfl rfl (NValid_ok (Sl.f hw) n.nodes)) ?_
   rintro _ _ ⟨_, _, ⟨rfl, rfl⟩, rfl, rfl⟩
   refine G.ro (Runs.notd rfl) ?_
   refine G.r (Runs.pickf rfl rfl) ?_
   refine G.nt ?_
   refine W.sub (L' := [(29, _), (3, _), (2, _)]) (Sub.cons rfl (Sub.cons rfl (Sub.cons rfl Sub.nil))) ?_
   refine W.ite rfl (fun c29 => ?_) (fun c29 => ?_)
   ·refine W.sr ?_
    refine G.r (Runs.assign rfl) ?_
    refine G.nt ?_
    refine W.ret ?_
    refine V.then_ret ?_
    have hbad : f.length ≠ n.arcs.length ∨ ¬ ValidP side n.nodes := by first | exact .inl (fun e => g22 (by omega)) | exact .inr c29
    exact V.ret1 rfl rfl (I) Fit.m ⟨by rw [provesE_4 (Decidable.of_not_not c13) hbad], rfl⟩
   ·refine W.skip ?_
    refine V.then ?_
    refine W.sr ?_
    refine G.r (Runs.lds (vs := [_, _, _, _]) ty30) ?_
    have hc0 := Decidable.of_not_not c13
    have hok := checkN_ok.1 hc0
    have hfl : f.length = n.arcs.length := by omega
    have hvs := Decidable.of_not_not c29
    have hsrc := hok.src
    have hsnk := hok.snk
    have hlim := hok.lim
    refine G.r (Runs.fieldAddr fld24_0 rfl) ?_
    refine G.r (Runs.ld ty22) ?_
    refine G.e (Eff.call call97 rfl rfl (Balance_ok (n := n) (Sl.f hl) (Sl.f hu) (checkN_ok.1 hc0) hfl)) ?_
    rintro _ _ ⟨_, _, (⟨hcap, ad3, cp4, l, rfl, ⟨hll, hnet⟩, rfl⟩ | ⟨hcap, rfl, rfl⟩), rfl, rfl⟩
    ·show G Try.prog κ _ _ _ _ ([(34, .tuple #[.slice ad3 l.length cp4, .bool true]), (33, u), (32, .pointer (some ⟨b2, 0, none⟩)), (31, .agg #[I64 (n.nodes), I64 (n.source), I64 (n.sink), v]), (29, .bool (decide (¬ (ValidP side n.nodes)))), (3, .pointer (some ⟨b2, 0, none⟩)), (2, .pointer (some ⟨b1, 0, none⟩))] : Env) (vc 3 (.slice ad3 l.length cp4) (l) :: blk b2 [u, I64 (val), w] 24 :: blk b1 [I64 (n.nodes), I64 (n.source), I64 (n.sink), v] 30 :: I)
     refine G.r (Runs.move rfl) ?_
     refine G.r (Runs.extract rfl rfl) ?_
     refine G.r (Runs.extract rfl rfl) ?_
     refine G.r (Runs.assign rfl) ?_
     refine G.r (Runs.assign rfl) ?_
     refine G.nt ?_
     refine W.seq ?_
     refine W.seq ?_
     refine W.drawn mixed ?_
     refine A.hold (vc 3 (.slice ad3 l.length cp4) (l) :: blk b2 [u, I64 (val), w] 24 :: blk b1 [I64 (n.nodes), I64 (n.source), I64 (n.sink), v] 30 :: I) 36 ?_
     refine D.r 0 rfl (Runs.move rfl) ?_
     refine D.r 1 rfl (Runs.not rfl) ?_
     refine D.r 2 rfl (Runs.move rfl) ?_
     refine D.ro 3 rfl (Runs.move rfl) ?_
     refine D.ro 4 rfl (Runs.fieldAddr fld30_1 rfl) ?_
     refine D.ro 5 rfl (Runs.ld ty3) ?_
     refine D.ro 6 rfl (Runs.idx (α := Int) (xs := l) Try.underlying22 ty3 rfl rfl Sl.o (by omega) (by omega)) ?_
     refine D.ro 7 rfl (Runs.get (xs := l) ty3 rfl Sl.o (by omega) (by omega)) ?_
     refine D.ro 8 rfl (Runs.fieldAddr fld24_1 rfl) ?_
     refine D.ro 9 rfl (Runs.ld ty3) ?_
     refine D.ro 10 rfl (Runs.neq rfl rfl) ?_
     refine D.r 11 rfl (Runs.pickf rfl rfl) ?_
     refine D.r 12 rfl (Runs.move rfl) ?_
     refine D.split (d := 49) rfl (fun g49 => ?_) (fun g49 => ?_)
     ·refine D.po 13 rfl ?_
      refine D.po 14 rfl ?_
      refine D.po 15 rfl ?_
      refine D.po 17 rfl ?_
      refine D.po 18 rfl ?_
      refine D.po 16 rfl ?_
      refine D.po 19 rfl ?_
      refine D.r 20 rfl (Runs.pickt rfl rfl) ?_
      refine D.r 21 rfl (Runs.move rfl) ?_
      refine D.po 22 rfl ?_
      refine D.po 23 rfl ?_
      refine D.po 24 rfl ?_
      refine D.po 25 rfl ?_
      refine D.po 26 rfl ?_
      refine D.po 27 rfl ?_
      refine D.r 28 rfl (Runs.pickt rfl rfl) ?_
      refine D.r 29 rfl (Runs.move rfl) ?_
      refine D.po 30 rfl ?_
      refine D.po 31 rfl ?_
      refine D.po 32 rfl ?_
      refine D.po 33 rfl ?_
      refine D.po 34 rfl ?_
      refine D.r 35 rfl (Runs.pickt rfl rfl) ?_
      refine D.done (by kernel_rfl) ?_
      refine V.then ?_
      refine W.sub (L' := [(72, _), (6, _), (2, _)]) (Sub.cons rfl (Sub.cons rfl (Sub.cons rfl Sub.nil))) ?_
      refine W.yes rfl ?_
      refine W.sr ?_
      refine G.r (Runs.assign rfl) ?_
      refine G.nt ?_
      refine W.ret ?_
      refine V.then_ret ?_
      exact V.ret1 rfl rfl (I) Fit.m ⟨by rw [(provesE_12 hc0 hfl hvs (fun hp => by first | exact hcap hp.cap | exact g49 ((hnet _ (by omega) (by omega)).trans hp.value) | exact g58 hp.cut | exact g66 hp.src | exact hp.snk c72 | exact g82 ((hnet _ (by omega) (by omega)).trans (hp.cons _ (by omega) (by omega) g88 c93))))], rfl⟩
     ·refine D.ro 13 rfl (Runs.lds (vs := [_, _, _, _]) ty30) ?_
      refine D.ro 14 rfl (Runs.fieldAddr fld24_2 rfl) ?_
      refine D.ro 15 rfl (Runs.ld ty22) ?_
      refine D.ro 17 rfl (Runs.fieldAddr fld24_1 rfl) ?_
      refine D.ro 18 rfl (Runs.ld ty3) ?_
      refine D.step (rs := [16]) (by kernel_rfl) rfl rfl (all1 ?_)
      refine Step.eff rfl (Wanted.on rfl rfl rfl) (Eff.call call98 rfl rfl (Leaves_ok (n := n) (Sl.f hl) (Sl.f hw) (checkN_ok.1 hc0) hvs)) ?_
      rintro _ _ ⟨_, _, ⟨rfl, rfl⟩, rfl, rfl⟩
      refine ⟨Fit.m, ?_⟩
      refine D.ro 19 rfl (Runs.neq rfl rfl) ?_
      refine D.r 20 rfl (Runs.pickf rfl rfl) ?_
      refine D.r 21 rfl (Runs.move rfl) ?_
      refine D.split (d := 58) rfl (fun g58 => ?_) (fun g58 => ?_)
      ·refine D.po 22 rfl ?_
       refine D.po 23 rfl ?_
       refine D.po 24 rfl ?_
       refine D.po 25 rfl ?_
       refine D.po 26 rfl ?_
       refine D.po 27 rfl ?_
       refine D.r 28 rfl (Runs.pickt rfl rfl) ?_
       refine D.r 29 rfl (Runs.move rfl) ?_
       refine D.po 30 rfl ?_
       refine D.po 31 rfl ?_
       refine D.po 32 rfl ?_
       refine D.po 33 rfl ?_
       refine D.po 34 rfl ?_
       refine D.r 35 rfl (Runs.pickt rfl rfl) ?_
       refine D.done (by kernel_rfl) ?_
       refine V.then ?_
       refine W.sub (L' := [(72, _), (6, _), (2, _)]) (Sub.cons rfl (Sub.cons rfl (Sub.cons rfl Sub.nil))) ?_
       refine W.yes rfl ?_
       refine W.sr ?_
       refine G.r (Runs.assign rfl) ?_
       refine G.nt ?_
       refine W.ret ?_
       refine V.then_ret ?_
       exact V.ret1 rfl rfl (I) Fit.m ⟨by rw [(provesE_12 hc0 hfl hvs (fun hp => by first | exact hcap hp.cap | exact g49 ((hnet _ (by omega) (by omega)).trans hp.value) | exact g58 hp.cut | exact g66 hp.src | exact hp.snk c72 | exact g82 ((hnet _ (by omega) (by omega)).trans (hp.cons _ (by omega) (by omega) g88 c93))))], rfl⟩
      ·refine D.ro 22 rfl (Runs.fieldAddr fld24_2 rfl) ?_
       refine D.ro 23 rfl (Runs.ld ty22) ?_
       refine D.ro 24 rfl (Runs.fieldAddr fld30_1 rfl) ?_
       refine D.ro 25 rfl (Runs.ld ty3) ?_
       refine D.step (rs := [26]) (by kernel_rfl) rfl rfl (all1 ?_)
       refine Step.eff rfl (Wanted.on rfl rfl rfl) (Eff.call call99 rfl rfl (NHas_ok (Sl.f hw) n.source)) ?_
       rintro _ _ ⟨_, _, ⟨rfl, rfl⟩, rfl, rfl⟩
       refine ⟨Fit.m, ?_⟩
       refine D.ro 27 rfl (Runs.notd rfl) ?_
       refine D.r 28 rfl (Runs.pickf rfl rfl) ?_
       refine D.r 29 rfl (Runs.move rfl) ?_
       refine D.split (d := 66) rfl (fun g66 => ?_) (fun g66 => ?_)
       ·refine D.po 30 rfl ?_
        refine D.po 31 rfl ?_
        refine D.po 32 rfl ?_
        refine D.po 33 rfl ?_
        refine D.po 34 rfl ?_
        refine D.r 35 rfl (Runs.pickt rfl rfl) ?_
        refine D.done (by kernel_rfl) ?_
        refine V.then ?_
        refine W.sub (L' := [(72, _), (6, _), (2, _)]) (Sub.cons rfl (Sub.cons rfl (Sub.cons rfl Sub.nil))) ?_
        refine W.yes rfl ?_
        refine W.sr ?_
        refine G.r (Runs.assign rfl) ?_
        refine G.nt ?_
        refine W.ret ?_
        refine V.then_ret ?_
        exact V.ret1 rfl rfl (I) Fit.m ⟨by rw [(provesE_12 hc0 hfl hvs (fun hp => by first | exact hcap hp.cap | exact g49 ((hnet _ (by omega) (by omega)).trans hp.value) | exact g58 hp.cut | exact g66 hp.src | exact hp.snk c72 | exact g82 ((hnet _ (by omega) (by omega)).trans (hp.cons _ (by omega) (by omega) g88 c93))))], rfl⟩
       ·refine D.ro 30 rfl (Runs.fieldAddr fld24_2 rfl) ?_
        refine D.ro 31 rfl (Runs.ld ty22) ?_
        refine D.ro 32 rfl (Runs.fieldAddr fld30_2 rfl) ?_
        refine D.ro 33 rfl (Runs.ld ty3) ?_
        refine D.step (rs := [34]) (by kernel_rfl) rfl rfl (all1 ?_)
        refine Step.eff rfl (Wanted.on rfl rfl rfl) (Eff.call call99 rfl rfl (NHas_ok (Sl.f hw) n.sink)) ?_
        rintro _ _ ⟨_, _, ⟨rfl, rfl⟩, rfl, rfl⟩
        refine ⟨Fit.m, ?_⟩
        refine D.r 35 rfl (Runs.pickf rfl rfl) ?_
        refine D.done (by kernel_rfl) ?_
        refine V.then ?_
        refine W.sub (L' := [(72, _), (6, _), (2, _)]) (Sub.cons rfl (Sub.cons rfl (Sub.cons rfl Sub.nil))) ?_
        refine W.ite rfl (fun c72 => ?_) (fun c72 => ?_)
        ·refine W.sr ?_
         refine G.r (Runs.assign rfl) ?_
         refine G.nt ?_
         refine W.ret ?_
         refine V.then_ret ?_
         exact V.ret1 rfl rfl (I) Fit.m ⟨by rw [(provesE_12 hc0 hfl hvs (fun hp => by first | exact hcap hp.cap | exact g49 ((hnet _ (by omega) (by omega)).trans hp.value) | exact g58 hp.cut | exact g66 hp.src | exact hp.snk c72 | exact g82 ((hnet _ (by omega) (by omega)).trans (hp.cons _ (by omega) (by omega) g88 c93))))], rfl⟩
        ·refine W.skip ?_
         refine V.then ?_
         refine W.seq ?_
         refine W.sr ?_
         refine G.r (Runs.move rfl) ?_
         refine G.r (Runs.lens Try.underlying22 rfl) ?_
         refine G.r (Runs.move rfl) ?_
         refine G.nt ?_
         refine W.block ?_
         refine W.loop (σ := Nat) (fun s => ([(2, .pointer (some ⟨b1, 0, none⟩)), (73, .slice ad3 l.length cp4), (74, I64 (((l.length : Nat) : Int))), (75, I64 (((s : Nat) : Int)))] : Env)) (fun s => vc 3 (.slice ad3 l.length cp4) (l) :: blk b2 [u, I64 (val), w] 24 :: blk b1 [I64 (n.nodes), I64 (n.source), I64 (n.sink), v] 30 :: I) (fun s => (s ≤ l.length) ∧ (∀ j : Nat, j < s → at_ l (j : Int) = 0 ∨ (j : Int) = n.source ∨ (j : Int) = n.sink)) (fun s => l.length - s) (0) (show ((0 : Nat) ≤ l.length) ∧ (∀ j : Nat, j < (0 : Nat) → at_ l (j : Int) = 0 ∨ (j : Int) = n.source ∨ (j : Int) = n.sink) from ⟨(by omega), all_zero⟩) (Sub.cons rfl (Sub.cons rfl (Sub.cons rfl (Sub.cons (lookI rfl (by omega)) Sub.nil)))) (show Fit κ _ (vc 3 (.slice ad3 l.length cp4) (l) :: blk b2 [u, I64 (val), w] 24 :: blk b1 [I64 (n.nodes), I64 (n.source), I64 (n.sink), v] 30 :: I) from Fit.sub) ?_
         rintro k hp
         obtain ⟨hk, hz⟩ : (k ≤ l.length) ∧ (∀ j : Nat, j < k → at_ l (j : Int) = 0 ∨ (j : Int) = n.source ∨ (j : Int) = n.sink) := hp
         show W Try.prog κ 95 _ _ ([(2, .pointer (some ⟨b1, 0, none⟩)), (73, .slice ad3 l.length cp4), (74, I64 (((l.length : Nat) : Int))), (75, I64 (((k : Nat) : Int)))] : Env) (vc 3 (.slice ad3 l.length cp4) (l) :: blk b2 [u, I64 (val), w] 24 :: blk b1 [I64 (n.nodes), I64 (n.source), I64 (n.sink), v] 30 :: I)
         refine W.sr ?_
         refine G.r (Runs.lss rfl rfl) ?_
         refine G.nt ?_
         refine W.seq ?_
         refine W.ite rfl (fun c76 => ?_) (fun c76 => ?_)
         ·refine W.skip ?_
          refine V.then ?_
          refine W.seq ?_
          refine W.block ?_
          refine W.sr ?_
          refine G.r (Runs.move rfl) ?_
          refine G.r (Runs.idx (α := Int) (xs := l) Try.underlying22 ty3 rfl rfl Sl.o (by omega) (by omega)) ?_
          refine G.r (Runs.get (xs := l) ty3 rfl Sl.o (by omega) (by omega)) ?_
          refine G.r (Runs.assign rfl) ?_
          refine G.r (Runs.assign rfl) ?_
          refine G.nt ?_
          refine W.sr ?_
          refine G.r (Runs.move rfl) ?_
          refine G.r (Runs.neq rfl rfl) ?_
          refine G.r (Runs.move rfl) ?_
          refine G.split (d := 82) rfl (fun g82 => ?_) (fun g82 => ?_)
          ·refine G.ro (Runs.move rfl) ?_
           refine G.ro (Runs.fieldAddr fld30_1 rfl) ?_
           refine G.ro (Runs.ld ty3) ?_
           refine G.ro (Runs.neq rfl rfl) ?_
           refine G.r (Runs.pickt rfl rfl) ?_
           refine G.r (Runs.move rfl) ?_
           refine G.split (d := 88) rfl (fun g88 => ?_) (fun g88 => ?_)
           ·refine G.ro (Runs.move rfl) ?_
            refine G.ro (Runs.fieldAddr fld30_2 rfl) ?_
            refine G.ro (Runs.ld ty3) ?_
            refine G.ro (Runs.neq rfl rfl) ?_
            refine G.r (Runs.pickt rfl rfl) ?_
            refine G.nt ?_
            refine W.sub (L' := [(93, _), (2, _), (73, _), (74, _), (75, _)]) (Sub.cons rfl (Sub.cons rfl (Sub.cons rfl (Sub.cons rfl (Sub.cons rfl Sub.nil))))) ?_
            refine W.ite rfl (fun c93 => ?_) (fun c93 => ?_)
            ·refine W.sr ?_
             refine G.r (Runs.assign rfl) ?_
             refine G.nt ?_
             refine W.ret ?_
             refine V.block_ret ?_
             refine V.then_ret ?_
             refine V.then_ret ?_
             refine V.block_ret ?_
             refine V.then_ret ?_
             exact V.ret1 rfl rfl (I) Fit.m ⟨by rw [(provesE_12 hc0 hfl hvs (fun hp => by first | exact hcap hp.cap | exact g49 ((hnet _ (by omega) (by omega)).trans hp.value) | exact g58 hp.cut | exact g66 hp.src | exact hp.snk c72 | exact g82 ((hnet _ (by omega) (by omega)).trans (hp.cons _ (by omega) (by omega) g88 c93))))], rfl⟩
            ·refine W.skip ?_
             refine V.block_normal ?_
             refine V.then ?_
             refine W.region ?_
             refine G.r (Runs.add rfl rfl (by unfold InR; omega)) ?_
             refine G.r (Runs.move rfl) ?_
             refine G.nil ?_
             exact V.next ((k + 1)) (show ((k + 1 : Nat) ≤ l.length) ∧ (∀ j : Nat, j < (k + 1 : Nat) → at_ l (j : Int) = 0 ∨ (j : Int) = n.source ∨ (j : Int) = n.sink) from ⟨(by omega), (all_succ hz (by omega))⟩) (show l.length - (k + 1 : Nat) < l.length - k from (by omega)) (Sub.cons rfl (Sub.cons rfl (Sub.cons rfl (Sub.cons (lookI rfl (by omega)) Sub.nil)))) (show Fit κ _ (vc 3 (.slice ad3 l.length cp4) (l) :: blk b2 [u, I64 (val), w] 24 :: blk b1 [I64 (n.nodes), I64 (n.source), I64 (n.sink), v] 30 :: I) from Fit.sub)
           ·refine G.po ?_
            refine G.po ?_
            refine G.po ?_
            refine G.po ?_
            refine G.r (Runs.pickf rfl rfl) ?_
            refine G.nt ?_
            refine W.sub (L' := [(93, _), (2, _), (73, _), (74, _), (75, _)]) (Sub.cons rfl (Sub.cons rfl (Sub.cons rfl (Sub.cons rfl (Sub.cons rfl Sub.nil))))) ?_
            refine W.no rfl ?_
            refine W.skip ?_
            refine V.block_normal ?_
            refine V.then ?_
            refine W.region ?_
            refine G.r (Runs.add rfl rfl (by unfold InR; omega)) ?_
            refine G.r (Runs.move rfl) ?_
            refine G.nil ?_
            exact V.next ((k + 1)) (show ((k + 1 : Nat) ≤ l.length) ∧ (∀ j : Nat, j < (k + 1 : Nat) → at_ l (j : Int) = 0 ∨ (j : Int) = n.source ∨ (j : Int) = n.sink) from ⟨(by omega), (all_succ hz (by omega))⟩) (show l.length - (k + 1 : Nat) < l.length - k from (by omega)) (Sub.cons rfl (Sub.cons rfl (Sub.cons rfl (Sub.cons (lookI rfl (by omega)) Sub.nil)))) (show Fit κ _ (vc 3 (.slice ad3 l.length cp4) (l) :: blk b2 [u, I64 (val), w] 24 :: blk b1 [I64 (n.nodes), I64 (n.source), I64 (n.sink), v] 30 :: I) from Fit.sub)
          ·refine G.po ?_
           refine G.po ?_
           refine G.po ?_
           refine G.po ?_
           refine G.r (Runs.pickf rfl rfl) ?_
           refine G.r (Runs.move rfl) ?_
           refine G.po ?_
           refine G.po ?_
           refine G.po ?_
           refine G.po ?_
           refine G.r (Runs.pickf rfl rfl) ?_
           refine G.nt ?_
           refine W.sub (L' := [(93, _), (2, _), (73, _), (74, _), (75, _)]) (Sub.cons rfl (Sub.cons rfl (Sub.cons rfl (Sub.cons rfl (Sub.cons rfl Sub.nil))))) ?_
           refine W.no rfl ?_
           refine W.skip ?_
           refine V.block_normal ?_
           refine V.then ?_
           refine W.region ?_
           refine G.r (Runs.add rfl rfl (by unfold InR; omega)) ?_
           refine G.r (Runs.move rfl) ?_
           refine G.nil ?_
           exact V.next ((k + 1)) (show ((k + 1 : Nat) ≤ l.length) ∧ (∀ j : Nat, j < (k + 1 : Nat) → at_ l (j : Int) = 0 ∨ (j : Int) = n.source ∨ (j : Int) = n.sink) from ⟨(by omega), (all_succ hz (by omega))⟩) (show l.length - (k + 1 : Nat) < l.length - k from (by omega)) (Sub.cons rfl (Sub.cons rfl (Sub.cons rfl (Sub.cons (lookI rfl (by omega)) Sub.nil)))) (show Fit κ _ (vc 3 (.slice ad3 l.length cp4) (l) :: blk b2 [u, I64 (val), w] 24 :: blk b1 [I64 (n.nodes), I64 (n.source), I64 (n.sink), v] 30 :: I) from Fit.sub)
         ·refine W.exit ?_
          refine V.then_exit ?_
          refine V.then_exit ?_
          refine V.block_hit ?_
          refine V.then ?_
          refine W.sr ?_
          refine G.r (Runs.assign rfl) ?_
          refine G.nt ?_
          refine W.ret ?_
          exact V.ret1 rfl rfl (I) Fit.m ⟨by rw [provesE_0 hc0 hfl hvs ⟨hcap, fun z h0 h1 h2 h3 => by rw [← hnet z h0 h1]; have h4 := hz z.toNat (by omega); rw [show ((z.toNat : Nat) : Int) = z from by omega] at h4; omega, by rw [← hnet _ (by omega) (by omega)]; exact Decidable.of_not_not g49, Decidable.of_not_not g66, c72, Decidable.of_not_not g58⟩], rfl⟩
    ·show G Try.prog κ _ _ _ _ ([(34, .tuple #[.slice none 0 0, .bool false]), (33, u), (32, .pointer (some ⟨b2, 0, none⟩)), (31, .agg #[I64 (n.nodes), I64 (n.source), I64 (n.sink), v]), (29, .bool (decide (¬ (ValidP side n.nodes)))), (3, .pointer (some ⟨b2, 0, none⟩)), (2, .pointer (some ⟨b1, 0, none⟩))] : Env) (blk b2 [u, I64 (val), w] 24 :: blk b1 [I64 (n.nodes), I64 (n.source), I64 (n.sink), v] 30 :: I)
     refine G.r (Runs.move rfl) ?_
     refine G.r (Runs.extract rfl rfl) ?_
     refine G.r (Runs.extract rfl rfl) ?_
     refine G.r (Runs.assign rfl) ?_
     refine G.r (Runs.assign rfl) ?_
     refine G.nt ?_
     refine W.seq ?_
     refine W.seq ?_
     refine W.drawn mixed ?_
     refine A.hold (blk b2 [u, I64 (val), w] 24 :: blk b1 [I64 (n.nodes), I64 (n.source), I64 (n.sink), v] 30 :: I) 36 ?_
     refine D.r 0 rfl (Runs.move rfl) ?_
     refine D.r 1 rfl (Runs.not rfl) ?_
     refine D.r 2 rfl (Runs.move rfl) ?_
     refine D.po 3 rfl ?_
     refine D.po 4 rfl ?_
     refine D.po 5 rfl ?_
     refine D.po 6 rfl ?_
     refine D.po 7 rfl ?_
     refine D.po 8 rfl ?_
     refine D.po 9 rfl ?_
     refine D.po 10 rfl ?_
     refine D.r 11 rfl (Runs.pickt rfl rfl) ?_
     refine D.r 12 rfl (Runs.move rfl) ?_
     refine D.po 13 rfl ?_
     refine D.po 14 rfl ?_
     refine D.po 15 rfl ?_
     refine D.po 17 rfl ?_
     refine D.po 18 rfl ?_
     refine D.po 16 rfl ?_
     refine D.po 19 rfl ?_
     refine D.r 20 rfl (Runs.pickt rfl rfl) ?_
     refine D.r 21 rfl (Runs.move rfl) ?_
     refine D.po 22 rfl ?_
     refine D.po 23 rfl ?_
     refine D.po 24 rfl ?_
     refine D.po 25 rfl ?_
     refine D.po 26 rfl ?_
     refine D.po 27 rfl ?_
     refine D.r 28 rfl (Runs.pickt rfl rfl) ?_
     refine D.r 29 rfl (Runs.move rfl) ?_
     refine D.po 30 rfl ?_
     refine D.po 31 rfl ?_
     refine D.po 32 rfl ?_
     refine D.po 33 rfl ?_
     refine D.po 34 rfl ?_
     refine D.r 35 rfl (Runs.pickt rfl rfl) ?_
     refine D.done (by kernel_rfl) ?_
     refine V.then ?_
     refine W.sub (L' := [(72, _), (6, _), (2, _)]) (Sub.cons rfl (Sub.cons rfl (Sub.cons rfl Sub.nil))) ?_
     refine W.yes rfl ?_
     refine W.sr ?_
     refine G.r (Runs.assign rfl) ?_
     refine G.nt ?_
     refine W.ret ?_
     refine V.then_ret ?_
     exact V.ret1 rfl rfl (I) Fit.m ⟨by rw [(provesE_12 hc0 hfl hvs (fun hp => by first | exact hcap hp.cap | exact g49 ((hnet _ (by omega) (by omega)).trans hp.value) | exact g58 hp.cut | exact g66 hp.src | exact hp.snk c72 | exact g82 ((hnet _ (by omega) (by omega)).trans (hp.cons _ (by omega) (by omega) g88 c93))))], rfl⟩

theorem RProves_ok {κ : Ctx} {I : List Item} {n : Net} {v u w : Value} {f side : List Int} {val : Int} (hl : Sl κ I v n.arcs) (hu : Sl κ I u f) (hw : Sl κ I w side) :
    CallS Try.prog κ 29 [.agg #[I64 (n.nodes), I64 (n.source), I64 (n.sink), v], .agg #[u, I64 (val), w]] I (fun r J => r = I64 (provesE n f side val) ∧ I = J) := by
 refine CallS.pull hl.le fun hmax => ?_
 refine CallS.pull hu.le fun hmax2 => ?_
 refine CallS.enter (L := [(0, .agg #[I64 (n.nodes), I64 (n.source), I64 (n.sink), v]), (1, .agg #[u, I64 (val), w])]) Try.func29 rfl rfl rfl rfl ?_
 refine W.sr ?_
 refine G.e (Eff.box (cs := [_, _, _, _]) rfl rfl rfl) ?_
 rintro _ _ ⟨b1, rfl, rfl⟩
 refine G.e (Eff.box (cs := [_, _, _]) rfl rfl rfl) ?_
 rintro _ _ ⟨b2, rfl, rfl⟩
 refine G.r (Runs.assign rfl) ?_
 refine G.nt ?_
 refine W.seq ?_
 refine W.sr ?_
 refine G.r (Runs.lds (vs := [_, _, _, _]) ty30) ?_
 refine G.e (Eff.call call35 rfl rfl (RCheck_ok (n := n) (Sl.f hl))) ?_
 rintro _ _ ⟨_, _, ⟨rfl, rfl⟩, rfl, rfl⟩
 refine G.r (Runs.assign rfl) ?_
 refine G.nt ?_
 refine W.sr ?_
 refine G.r (Runs.move rfl) ?_
 refine G.r (Runs.neq rfl rfl) ?_
 refine G.nt ?_
 refine W.ite rfl (fun c14 => ?_) (fun c14 => ?_)
 ·refine W.sr ?_
  refine G.r (Runs.move rfl) ?_
  refine G.r (Runs.assign rfl) ?_
  refine G.nt ?_
  refine W.ret ?_
  refine V.then_ret ?_
  exact V.ret1 rfl rfl (I) Fit.m ⟨by rw [provesE_1 c14], rfl⟩
 ·refine W.skip ?_
  refine V.then ?_
  refine W.seq ?_
  refine W.sr ?_
  refine G.r (Runs.fieldAddr fld24_0 rfl) ?_
  refine G.r (Runs.ld ty22) ?_
  refine G.r (Runs.lenT (α := Int) (xs := f) Try.underlying22 rfl (Sl.f hu)) ?_
  refine G.r (Runs.fieldAddr fld30_3 rfl) ?_
  refine G.r (Runs.ld ty28) ?_
  refine G.r (Runs.lenT (α := Arc) (xs := n.arcs) Try.underlying28 rfl (Sl.f hl)) ?_
  refine G.r (Runs.neq rfl rfl) ?_
  refine G.r (Runs.move rfl) ?_
  refine G.split (d := 23) rfl (fun g23 => ?_) (fun g23 => ?_)
  ·refine G.po ?_
   refine G.po ?_
   refine G.po ?_
   refine G.po ?_
   refine G.po ?_
   refine G.po ?_
   refine G.r (Runs.pickt rfl rfl) ?_
   refine G.nt ?_
   refine W.sub (L' := [(30, _), (3, _), (2, _)]) (Sub.cons rfl (Sub.cons rfl (Sub.cons rfl Sub.nil))) ?_
   refine W.yes rfl ?_
   refine W.sr ?_
   refine G.r (Runs.assign rfl) ?_
   refine G.nt ?_
   refine W.ret ?_
   refine V.then_ret ?_
   have hbad : f.length ≠ n.arcs.length ∨ ¬ ValidP side n.nodes := by first | exact .inl (fun e => g23 (by omega)) | exact .inr c30
   exact V.ret1 rfl rfl (I) Fit.m ⟨by rw [provesE_4 (Decidable.of_not_not c14) hbad], rfl⟩
  ·refine G.ro (Runs.fieldAddr fld24_2 rfl) ?_
   refine G.ro (Runs.ld ty22) ?_
   refine G.ro (Runs.fieldAddr fld30_0 rfl) ?_
   refine G.ro (Runs.ld ty3) ?_
   refine G.eff (Wanted.on rfl rfl rfl) (Eff.call call100 rfl rfl (RValid_ok (Sl.f hw) n.nodes)) ?_
   rintro _ _ ⟨_, _, ⟨rfl, rfl⟩, rfl, rfl⟩
   refine G.ro (Runs.notd rfl) ?_
   refine G.r (Runs.pickf rfl rfl) ?_
   refine G.nt ?_
   refine W.sub (L' := [(30, _), (3, _), (2, _)]) (Sub.cons rfl (Sub.cons rfl (Sub.cons rfl Sub.nil))) ?_
   refine W.ite rfl (fun c30 => ?_) (fun c30 => ?_)
   ·refine W.sr ?_
    refine G.r (Runs.assign rfl) ?_
    refine G.nt ?_
    refine W.ret ?_
    refine V.then_ret ?_
    have hbad : f.length ≠ n.arcs.length ∨ ¬ ValidP side n.nodes := by first | exact .inl (fun e => g23 (by omega)) | exact .inr c30
    exact V.ret1 rfl rfl (I) Fit.m ⟨by rw [provesE_4 (Decidable.of_not_not c14) hbad], rfl⟩
   ·refine W.skip ?_
    refine V.then ?_
    refine W.sr ?_
    refine G.r (Runs.fieldAddr fld30_0 rfl) ?_
    have hc0 := Decidable.of_not_not c14
    have hok := checkN_ok.1 hc0
    have hfl : f.length = n.arcs.length := by omega
    have hvs := Decidable.of_not_not c30
    have hsrc := hok.src
    have hsnk := hok.snk
    have hlim := hok.lim
    have hrl : (List.replicate n.nodes.toNat (default : Int)).length = n.nodes.toNat := List.length_replicate
    refine G.r (Runs.ld ty3) ?_
    refine G.e (Eff.make (α := Int) (n := n.nodes.toNat) Try.underlying22 ty3 rfl rfl rfl (by omega) (by omega) (by decide) rfl) ?_
    rintro _ _ ⟨ad3, cp4, rfl, rfl⟩
    refine G.r (Runs.assign rfl) ?_
    refine G.nt ?_
    refine W.seq ?_
    refine W.sr ?_
    refine G.r (Runs.fieldAddr fld30_3 rfl) ?_
    refine G.r (Runs.ld ty28) ?_
    refine G.r (Runs.lenT (α := Arc) (xs := n.arcs) Try.underlying28 rfl (Sl.f hl)) ?_
    refine G.r (Runs.move rfl) ?_
    refine G.nt ?_
    refine W.block ?_
    refine W.loop (σ := Nat × (List Int)) (fun s => ([(2, .pointer (some ⟨b1, 0, none⟩)), (3, .pointer (some ⟨b2, 0, none⟩)), (6, .slice ad3 (List.replicate n.nodes.toNat (default : Int)).length cp4), (35, v), (36, I64 (((n.arcs.length : Nat) : Int))), (37, I64 (((s.1 : Nat) : Int)))] : Env)) (fun s => vc 3 (.slice ad3 (List.replicate n.nodes.toNat (default : Int)).length cp4) (s.2) :: blk b2 [u, I64 (val), w] 24 :: blk b1 [I64 (n.nodes), I64 (n.source), I64 (n.sink), v] 30 :: I) (fun s => (s.1 ≤ n.arcs.length) ∧ (s.2.length = n.nodes.toNat) ∧ (∀ z : Int, 0 ≤ z → z < n.nodes → at_ s.2 z = netK n f z s.1) ∧ (∀ j : Nat, j < s.1 → 0 ≤ at_ f (j : Int) ∧ at_ f (j : Int) ≤ (at_ n.arcs (j : Int)).cap)) (fun s => n.arcs.length - s.1) (0, List.replicate n.nodes.toNat (default : Int)) (show ((0 : Nat) ≤ n.arcs.length) ∧ ((List.replicate n.nodes.toNat (default : Int) : List Int).length = n.nodes.toNat) ∧ (∀ z : Int, 0 ≤ z → z < n.nodes → at_ (List.replicate n.nodes.toNat (default : Int) : List Int) z = netK n f z (0 : Nat)) ∧ (∀ j : Nat, j < (0 : Nat) → 0 ≤ at_ f (j : Int) ∧ at_ f (j : Int) ≤ (at_ n.arcs (j : Int)).cap) from ⟨(by omega), List.length_replicate, (bal_start (by omega)), all_zero⟩) (Sub.cons rfl (Sub.cons rfl (Sub.cons rfl (Sub.cons rfl (Sub.cons rfl (Sub.cons (lookI rfl (by omega)) Sub.nil)))))) (show Fit κ _ (vc 3 (.slice ad3 (List.replicate n.nodes.toNat (default : Int)).length cp4) ((List.replicate n.nodes.toNat (default : Int))) :: blk b2 [u, I64 (val), w] 24 :: blk b1 [I64 (n.nodes), I64 (n.source), I64 (n.sink), v] 30 :: I) from Fit.sub) ?_
    rintro ⟨k, l⟩ hp
    obtain ⟨hk, hll, hnet, hcap⟩ : (k ≤ n.arcs.length) ∧ (l.length = n.nodes.toNat) ∧ (∀ z : Int, 0 ≤ z → z < n.nodes → at_ l z = netK n f z k) ∧ (∀ j : Nat, j < k → 0 ≤ at_ f (j : Int) ∧ at_ f (j : Int) ≤ (at_ n.arcs (j : Int)).cap) := hp
    show W Try.prog κ 137 _ _ ([(2, .pointer (some ⟨b1, 0, none⟩)), (3, .pointer (some ⟨b2, 0, none⟩)), (6, .slice ad3 (List.replicate n.nodes.toNat (default : Int)).length cp4), (35, v), (36, I64 (((n.arcs.length : Nat) : Int))), (37, I64 (((k : Nat) : Int)))] : Env) (vc 3 (.slice ad3 (List.replicate n.nodes.toNat (default : Int)).length cp4) (l) :: blk b2 [u, I64 (val), w] 24 :: blk b1 [I64 (n.nodes), I64 (n.source), I64 (n.sink), v] 30 :: I)
    refine W.sr ?_
    refine G.r (Runs.lss rfl rfl) ?_
    refine G.nt ?_
    refine W.seq ?_
    refine W.ite rfl (fun c38 => ?_) (fun c38 => ?_)
    ·refine W.skip ?_
     refine V.then ?_
     refine W.seq ?_
     refine W.block ?_
     refine W.sr ?_
     refine G.r (Runs.move rfl) ?_
     refine G.r (Runs.idx (α := Arc) (xs := n.arcs) Try.underlying28 ty43 rfl rfl (Sl.f hl) (by omega) (by omega)) ?_
     have hb := hok.arc (at_ n.arcs ((k : Nat) : Int)) (at_mem (by omega) (by omega))
     have hn1 := hnet _ hb.1.1 hb.1.2
     have hn2 := hnet _ hb.2.1.1 hb.2.1.2
     have hd1 := netK_bd hok (at_ n.arcs ((k : Nat) : Int)).frm k hk hcap
     have hd2 := netK_bd hok (at_ n.arcs ((k : Nat) : Int)).dst k hk hcap
     refine G.r (Runs.gets (α := Arc) (xs := n.arcs) ty43 rfl (Sl.f hl) (by omega) (by omega)) ?_
     refine G.e (Eff.alloc ty43 rfl) ?_
     rintro _ _ ⟨b5, rfl, rfl⟩
     refine G.r (Runs.assign rfl) ?_
     refine G.e (Eff.st (cs := [_, _, _]) (vs := [_, _, _]) (cs' := [_, _, _]) ty43) ?_
     rintro _ _ ⟨rfl, rfl⟩
     refine G.nt ?_
     refine W.seq ?_
     refine W.seq ?_
     refine W.drawn mixed ?_
     refine A.hold (blk b5 [I64 ((at_ n.arcs ((k : Nat) : Int)).frm), I64 ((at_ n.arcs ((k : Nat) : Int)).dst), I64 ((at_ n.arcs ((k : Nat) : Int)).cap)] 43 :: vc 3 (.slice ad3 (List.replicate n.nodes.toNat (default : Int)).length cp4) (l) :: blk b2 [u, I64 (val), w] 24 :: blk b1 [I64 (n.nodes), I64 (n.source), I64 (n.sink), v] 30 :: I) 16 ?_
     refine D.r 0 rfl (Runs.fieldAddr fld24_0 rfl) ?_
     refine D.r 1 rfl (Runs.ld ty22) ?_
     refine D.r 2 rfl (Runs.move rfl) ?_
     refine D.r 3 rfl (Runs.idx (α := Int) (xs := f) Try.underlying22 ty3 rfl rfl (Sl.f hu) (by omega) (by omega)) ?_
     refine D.r 4 rfl (Runs.get (xs := f) ty3 rfl (Sl.f hu) (by omega) (by omega)) ?_
     refine D.r 5 rfl (Runs.lss rfl rfl) ?_
     refine D.r 6 rfl (Runs.move rfl) ?_
     refine D.split (d := 48) rfl (fun g48 => ?_) (fun g48 => ?_)
     ·refine D.po 7 rfl ?_
      refine D.po 8 rfl ?_
      refine D.po 9 rfl ?_
      refine D.po 10 rfl ?_
      refine D.po 11 rfl ?_
      refine D.po 12 rfl ?_
      refine D.po 13 rfl ?_
      refine D.po 14 rfl ?_
      refine D.r 15 rfl (Runs.pickt rfl rfl) ?_
      refine D.done (by kernel_rfl) ?_
      refine V.then ?_
      refine W.sub (L' := [(57, _), (7, _), (8, _), (2, _), (3, _), (6, _), (35, _), (36, _), (37, _)]) (Sub.cons rfl (Sub.cons rfl (Sub.cons rfl (Sub.cons rfl (Sub.cons rfl (Sub.cons rfl (Sub.cons rfl (Sub.cons rfl (Sub.cons rfl Sub.nil))))))))) ?_
      refine W.yes rfl ?_
      refine W.sr ?_
      refine G.r (Runs.assign rfl) ?_
      refine G.nt ?_
      refine W.ret ?_
      refine V.then_ret ?_
      refine V.block_ret ?_
      refine V.then_ret ?_
      refine V.then_ret ?_
      refine V.block_ret ?_
      refine V.then_ret ?_
      exact V.ret1 rfl rfl (I) Fit.m ⟨by rw [(provesE_12 hc0 hfl hvs (fun hp => by first | (have h9 := hp.cap k (by omega); omega) | exact g113 ((hnet _ (by omega) (by omega)).trans hp.value) | exact g121 hp.src | exact hp.snk g128 | exact c136 hp.cut | exact c103 ((hnet _ (by omega) (by omega)).trans (hp.cons _ (by omega) (by omega) g94 g100))))], rfl⟩
     ·refine D.ro 7 rfl (Runs.fieldAddr fld24_0 rfl) ?_
      refine D.ro 8 rfl (Runs.ld ty22) ?_
      refine D.ro 9 rfl (Runs.move rfl) ?_
      refine D.ro 10 rfl (Runs.idx (α := Int) (xs := f) Try.underlying22 ty3 rfl rfl (Sl.f hu) (by omega) (by omega)) ?_
      refine D.ro 11 rfl (Runs.get (xs := f) ty3 rfl (Sl.f hu) (by omega) (by omega)) ?_
      refine D.ro 12 rfl (Runs.fieldAddr fld43_2 rfl) ?_
      refine D.ro 13 rfl (Runs.ld ty3) ?_
      refine D.ro 14 rfl (Runs.gtr rfl rfl) ?_
      refine D.r 15 rfl (Runs.pickf rfl rfl) ?_
      refine D.done (by kernel_rfl) ?_
      refine V.then ?_
      refine W.sub (L' := [(57, _), (7, _), (8, _), (2, _), (3, _), (6, _), (35, _), (36, _), (37, _)]) (Sub.cons rfl (Sub.cons rfl (Sub.cons rfl (Sub.cons rfl (Sub.cons rfl (Sub.cons rfl (Sub.cons rfl (Sub.cons rfl (Sub.cons rfl Sub.nil))))))))) ?_
      refine W.ite rfl (fun c57 => ?_) (fun c57 => ?_)
      ·refine W.sr ?_
       refine G.r (Runs.assign rfl) ?_
       refine G.nt ?_
       refine W.ret ?_
       refine V.then_ret ?_
       refine V.block_ret ?_
       refine V.then_ret ?_
       refine V.then_ret ?_
       refine V.block_ret ?_
       refine V.then_ret ?_
       exact V.ret1 rfl rfl (I) Fit.m ⟨by rw [(provesE_12 hc0 hfl hvs (fun hp => by first | (have h9 := hp.cap k (by omega); omega) | exact g113 ((hnet _ (by omega) (by omega)).trans hp.value) | exact g121 hp.src | exact hp.snk g128 | exact c136 hp.cut | exact c103 ((hnet _ (by omega) (by omega)).trans (hp.cons _ (by omega) (by omega) g94 g100))))], rfl⟩
      ·refine W.skip ?_
       refine V.then ?_
       refine W.seq ?_
       refine W.drawn mixed ?_
       refine A.hold (blk b5 [I64 ((at_ n.arcs ((k : Nat) : Int)).frm), I64 ((at_ n.arcs ((k : Nat) : Int)).dst), I64 ((at_ n.arcs ((k : Nat) : Int)).cap)] 43 :: vc 3 (.slice ad3 (List.replicate n.nodes.toNat (default : Int)).length cp4) (l) :: blk b2 [u, I64 (val), w] 24 :: blk b1 [I64 (n.nodes), I64 (n.source), I64 (n.sink), v] 30 :: I) 12 ?_
       refine D.read 0 rfl (by kernel_rfl) (by kernel_rfl) (by kernel_rfl) rfl (by kernel_rfl) (fun _ _ _ _ h => h) (Wanted.plain rfl) rfl rfl Fit.sub (Runs.move rfl) ?_
       refine D.read 1 rfl (by kernel_rfl) (by kernel_rfl) (by kernel_rfl) rfl (by kernel_rfl) (fun _ _ _ _ h => h) (Wanted.plain rfl) rfl rfl Fit.sub (Runs.fieldAddr fld43_0 rfl) ?_
       refine D.read 2 rfl (by kernel_rfl) (by kernel_rfl) (by kernel_rfl) rfl (by kernel_rfl) (fun _ _ _ _ h => h) (Wanted.plain rfl) rfl rfl Fit.sub (Runs.ld ty3) ?_
       refine D.read 3 rfl (by kernel_rfl) (by kernel_rfl) (by kernel_rfl) rfl (by kernel_rfl) (fun _ _ _ _ h => h) (Wanted.plain rfl) rfl rfl Fit.sub (Runs.idx (α := Int) (xs := l) Try.underlying22 ty3 rfl rfl Sl.o (by omega) (by omega)) ?_
       refine D.read 4 rfl (by kernel_rfl) (by kernel_rfl) (by kernel_rfl) rfl (by kernel_rfl) (fun _ _ _ _ h => h) (Wanted.plain rfl) rfl rfl Fit.sub (Runs.get (xs := l) ty3 rfl Sl.o (by omega) (by omega)) ?_
       refine D.read 5 rfl (by kernel_rfl) (by kernel_rfl) (by kernel_rfl) rfl (by kernel_rfl) (fun _ _ _ _ h => h) (Wanted.plain rfl) rfl rfl Fit.sub (Runs.fieldAddr fld24_0 rfl) ?_
       refine D.read 6 rfl (by kernel_rfl) (by kernel_rfl) (by kernel_rfl) rfl (by kernel_rfl) (fun _ _ _ _ h => h) (Wanted.plain rfl) rfl rfl Fit.sub (Runs.ld ty22) ?_
       refine D.read 7 rfl (by kernel_rfl) (by kernel_rfl) (by kernel_rfl) rfl (by kernel_rfl) (fun _ _ _ _ h => h) (Wanted.plain rfl) rfl rfl Fit.sub (Runs.move rfl) ?_
       refine D.read 8 rfl (by kernel_rfl) (by kernel_rfl) (by kernel_rfl) rfl (by kernel_rfl) (fun _ _ _ _ h => h) (Wanted.plain rfl) rfl rfl Fit.sub (Runs.idx (α := Int) (xs := f) Try.underlying22 ty3 rfl rfl (Sl.f hu) (by omega) (by omega)) ?_
       refine D.read 9 rfl (by kernel_rfl) (by kernel_rfl) (by kernel_rfl) rfl (by kernel_rfl) (fun _ _ _ _ h => h) (Wanted.plain rfl) rfl rfl Fit.sub (Runs.get (xs := f) ty3 rfl (Sl.f hu) (by omega) (by omega)) ?_
       refine D.read 10 rfl (by kernel_rfl) (by kernel_rfl) (by kernel_rfl) rfl (by kernel_rfl) (fun _ _ _ _ h => h) (Wanted.plain rfl) rfl rfl Fit.sub (Runs.add rfl rfl (by unfold InR; omega)) ?_
       refine D.read 11 rfl (by kernel_rfl) (by kernel_rfl) (by kernel_rfl) rfl (by kernel_rfl) (fun _ _ _ _ h => h) (Wanted.plain rfl) rfl rfl Fit.sub (Runs.idx (α := Int) (xs := l) Try.underlying22 ty3 rfl rfl Sl.o (by omega) (by omega)) ?_
       refine D.stop (by kernel_rfl) ?_
       refine A.eff (i := 12) (by kernel_rfl) rfl (Wanted.plain rfl) (Eff.set (α := Int) (xs := l) (e := 3) (new := (at_ l ((at_ n.arcs ((k : Nat) : Int)).frm)) + (at_ f ((k : Nat) : Int))) ty3 rfl rfl rfl (by omega) (by omega) (by repeat (first | exact At.head _ _ _ | apply At.tail))) ?_
       rintro _ _ ⟨rfl, rfl⟩
       refine A.done (by kernel_rfl) ?_
       refine V.then ?_
       refine W.sub (L' := [(7, _), (8, _), (2, _), (3, _), (6, _), (35, _), (36, _), (37, _)]) (Sub.cons rfl (Sub.cons rfl (Sub.cons rfl (Sub.cons rfl (Sub.cons rfl (Sub.cons rfl (Sub.cons rfl (Sub.cons rfl Sub.nil)))))))) ?_
       refine W.drawn mixed ?_
       refine A.hold (blk b5 [I64 ((at_ n.arcs ((k : Nat) : Int)).frm), I64 ((at_ n.arcs ((k : Nat) : Int)).dst), I64 ((at_ n.arcs ((k : Nat) : Int)).cap)] 43 :: vc 3 (.slice ad3 (List.replicate n.nodes.toNat (default : Int)).length cp4) (List.set l ((at_ n.arcs ((k : Nat) : Int)).frm).toNat ((at_ l ((at_ n.arcs ((k : Nat) : Int)).frm)) + (at_ f ((k : Nat) : Int)))) :: blk b2 [u, I64 (val), w] 24 :: blk b1 [I64 (n.nodes), I64 (n.source), I64 (n.sink), v] 30 :: I) 12 ?_
       refine D.read 0 rfl (by kernel_rfl) (by kernel_rfl) (by kernel_rfl) rfl (by kernel_rfl) (fun _ _ _ _ h => h) (Wanted.plain rfl) rfl rfl Fit.sub (Runs.move rfl) ?_
       have hs1 := at_set l (at_ n.arcs ((k : Nat) : Int)).frm (at_ n.arcs ((k : Nat) : Int)).dst (at_ l (at_ n.arcs ((k : Nat) : Int)).frm + at_ f ((k : Nat) : Int)) hb.1.1 hb.2.1.1 (by omega)
       rw [if_neg hb.2.2.1] at hs1
       have hs2 : (List.set l (at_ n.arcs ((k : Nat) : Int)).frm.toNat (at_ l (at_ n.arcs ((k : Nat) : Int)).frm + at_ f ((k : Nat) : Int))).length = n.nodes.toNat := by rw [List.length_set]; exact hll
       refine D.read 1 rfl (by kernel_rfl) (by kernel_rfl) (by kernel_rfl) rfl (by kernel_rfl) (fun _ _ _ _ h => h) (Wanted.plain rfl) rfl rfl Fit.sub (Runs.fieldAddr fld43_1 rfl) ?_
       refine D.read 2 rfl (by kernel_rfl) (by kernel_rfl) (by kernel_rfl) rfl (by kernel_rfl) (fun _ _ _ _ h => h) (Wanted.plain rfl) rfl rfl Fit.sub (Runs.ld ty3) ?_
       refine D.read 3 rfl (by kernel_rfl) (by kernel_rfl) (by kernel_rfl) rfl (by kernel_rfl) (fun _ _ _ _ h => h) (Wanted.plain rfl) rfl rfl Fit.sub (Runs.idx (α := Int) (xs := List.set l ((at_ n.arcs ((k : Nat) : Int)).frm).toNat ((at_ l ((at_ n.arcs ((k : Nat) : Int)).frm)) + (at_ f ((k : Nat) : Int)))) Try.underlying22 ty3 rfl rfl Sl.o (by omega) (by omega)) ?_
       refine D.read 4 rfl (by kernel_rfl) (by kernel_rfl) (by kernel_rfl) rfl (by kernel_rfl) (fun _ _ _ _ h => h) (Wanted.plain rfl) rfl rfl Fit.sub (Runs.get (xs := List.set l ((at_ n.arcs ((k : Nat) : Int)).frm).toNat ((at_ l ((at_ n.arcs ((k : Nat) : Int)).frm)) + (at_ f ((k : Nat) : Int)))) ty3 rfl Sl.o (by omega) (by omega)) ?_
       refine D.read 5 rfl (by kernel_rfl) (by kernel_rfl) (by kernel_rfl) rfl (by kernel_rfl) (fun _ _ _ _ h => h) (Wanted.plain rfl) rfl rfl Fit.sub (Runs.fieldAddr fld24_0 rfl) ?_
       refine D.read 6 rfl (by kernel_rfl) (by kernel_rfl) (by kernel_rfl) rfl (by kernel_rfl) (fun _ _ _ _ h => h) (Wanted.plain rfl) rfl rfl Fit.sub (Runs.ld ty22) ?_
       refine D.read 7 rfl (by kernel_rfl) (by kernel_rfl) (by kernel_rfl) rfl (by kernel_rfl) (fun _ _ _ _ h => h) (Wanted.plain rfl) rfl rfl Fit.sub (Runs.move rfl) ?_
       refine D.read 8 rfl (by kernel_rfl) (by kernel_rfl) (by kernel_rfl) rfl (by kernel_rfl) (fun _ _ _ _ h => h) (Wanted.plain rfl) rfl rfl Fit.sub (Runs.idx (α := Int) (xs := f) Try.underlying22 ty3 rfl rfl (Sl.f hu) (by omega) (by omega)) ?_
       refine D.read 9 rfl (by kernel_rfl) (by kernel_rfl) (by kernel_rfl) rfl (by kernel_rfl) (fun _ _ _ _ h => h) (Wanted.plain rfl) rfl rfl Fit.sub (Runs.get (xs := f) ty3 rfl (Sl.f hu) (by omega) (by omega)) ?_
       refine D.read 10 rfl (by kernel_rfl) (by kernel_rfl) (by kernel_rfl) rfl (by kernel_rfl) (fun _ _ _ _ h => h) (Wanted.plain rfl) rfl rfl Fit.sub (Runs.sub rfl rfl (by unfold InR; omega)) ?_
       refine D.read 11 rfl (by kernel_rfl) (by kernel_rfl) (by kernel_rfl) rfl (by kernel_rfl) (fun _ _ _ _ h => h) (Wanted.plain rfl) rfl rfl Fit.sub (Runs.idx (α := Int) (xs := List.set l ((at_ n.arcs ((k : Nat) : Int)).frm).toNat ((at_ l ((at_ n.arcs ((k : Nat) : Int)).frm)) + (at_ f ((k : Nat) : Int)))) Try.underlying22 ty3 rfl rfl Sl.o (by omega) (by omega)) ?_
       refine D.stop (by kernel_rfl) ?_
       refine A.eff (i := 12) (by kernel_rfl) rfl (Wanted.plain rfl) (Eff.set (α := Int) (xs := List.set l ((at_ n.arcs ((k : Nat) : Int)).frm).toNat ((at_ l ((at_ n.arcs ((k : Nat) : Int)).frm)) + (at_ f ((k : Nat) : Int)))) (e := 3) (new := (at_ (List.set l ((at_ n.arcs ((k : Nat) : Int)).frm).toNat ((at_ l ((at_ n.arcs ((k : Nat) : Int)).frm)) + (at_ f ((k : Nat) : Int)))) ((at_ n.arcs ((k : Nat) : Int)).dst)) - (at_ f ((k : Nat) : Int))) ty3 rfl rfl rfl (by omega) (by omega) (by repeat (first | exact At.head _ _ _ | apply At.tail))) ?_
       rintro _ _ ⟨rfl, rfl⟩
       refine A.done (by kernel_rfl) ?_
       refine V.block_normal ?_
       refine V.then ?_
       refine W.sub (L' := [(2, _), (3, _), (6, _), (35, _), (36, _), (37, _)]) (Sub.cons rfl (Sub.cons rfl (Sub.cons rfl (Sub.cons rfl (Sub.cons rfl (Sub.cons rfl Sub.nil)))))) ?_
       refine W.region ?_
       refine G.r (Runs.add rfl rfl (by unfold InR; omega)) ?_
       refine G.r (Runs.move rfl) ?_
       refine G.nil ?_
       exact V.next ((k + 1), (List.set (List.set l ((at_ n.arcs ((k : Nat) : Int)).frm).toNat ((at_ l ((at_ n.arcs ((k : Nat) : Int)).frm)) + (at_ f ((k : Nat) : Int)))) ((at_ n.arcs ((k : Nat) : Int)).dst).toNat ((at_ (List.set l ((at_ n.arcs ((k : Nat) : Int)).frm).toNat ((at_ l ((at_ n.arcs ((k : Nat) : Int)).frm)) + (at_ f ((k : Nat) : Int)))) ((at_ n.arcs ((k : Nat) : Int)).dst)) - (at_ f ((k : Nat) : Int))))) (show ((k + 1 : Nat) ≤ n.arcs.length) ∧ ((List.set (List.set l ((at_ n.arcs ((k : Nat) : Int)).frm).toNat ((at_ l ((at_ n.arcs ((k : Nat) : Int)).frm)) + (at_ f ((k : Nat) : Int)))) ((at_ n.arcs ((k : Nat) : Int)).dst).toNat ((at_ (List.set l ((at_ n.arcs ((k : Nat) : Int)).frm).toNat ((at_ l ((at_ n.arcs ((k : Nat) : Int)).frm)) + (at_ f ((k : Nat) : Int)))) ((at_ n.arcs ((k : Nat) : Int)).dst)) - (at_ f ((k : Nat) : Int))) : List Int).length = n.nodes.toNat) ∧ (∀ z : Int, 0 ≤ z → z < n.nodes → at_ (List.set (List.set l ((at_ n.arcs ((k : Nat) : Int)).frm).toNat ((at_ l ((at_ n.arcs ((k : Nat) : Int)).frm)) + (at_ f ((k : Nat) : Int)))) ((at_ n.arcs ((k : Nat) : Int)).dst).toNat ((at_ (List.set l ((at_ n.arcs ((k : Nat) : Int)).frm).toNat ((at_ l ((at_ n.arcs ((k : Nat) : Int)).frm)) + (at_ f ((k : Nat) : Int)))) ((at_ n.arcs ((k : Nat) : Int)).dst)) - (at_ f ((k : Nat) : Int))) : List Int) z = netK n f z (k + 1 : Nat)) ∧ (∀ j : Nat, j < (k + 1 : Nat) → 0 ≤ at_ f (j : Int) ∧ at_ f (j : Int) ≤ (at_ n.arcs (j : Int)).cap) from ⟨(by omega), (by rw [List.length_set, List.length_set]; exact hll), (bal_step hok (by omega) hll hnet), (all_succ hcap (by omega))⟩) (show n.arcs.length - (k + 1 : Nat) < n.arcs.length - k from (by omega)) (Sub.cons rfl (Sub.cons rfl (Sub.cons rfl (Sub.cons rfl (Sub.cons rfl (Sub.cons (lookI rfl (by omega)) Sub.nil)))))) (show Fit κ _ (vc 3 (.slice ad3 (List.replicate n.nodes.toNat (default : Int)).length cp4) ((List.set (List.set l ((at_ n.arcs ((k : Nat) : Int)).frm).toNat ((at_ l ((at_ n.arcs ((k : Nat) : Int)).frm)) + (at_ f ((k : Nat) : Int)))) ((at_ n.arcs ((k : Nat) : Int)).dst).toNat ((at_ (List.set l ((at_ n.arcs ((k : Nat) : Int)).frm).toNat ((at_ l ((at_ n.arcs ((k : Nat) : Int)).frm)) + (at_ f ((k : Nat) : Int)))) ((at_ n.arcs ((k : Nat) : Int)).dst)) - (at_ f ((k : Nat) : Int))))) :: blk b2 [u, I64 (val), w] 24 :: blk b1 [I64 (n.nodes), I64 (n.source), I64 (n.sink), v] 30 :: I) from Fit.sub)
    ·refine W.exit ?_
     refine V.then_exit ?_
     refine V.then_exit ?_
     refine V.block_hit ?_
     refine V.then ?_
     refine W.seq ?_
     refine W.sr ?_
     refine G.r (Runs.move rfl) ?_
     have hkn : k = n.arcs.length := by omega
     subst hkn
     have hnet : ∀ z : Int, 0 ≤ z → z < n.nodes → at_ l z = netF n f z := hnet
     have hcap : CapOk n f := hcap
     refine G.r (Runs.lens Try.underlying22 rfl) ?_
     refine G.r (Runs.move rfl) ?_
     refine G.nt ?_
     refine W.block ?_
     refine W.loop (σ := Nat) (fun s => ([(2, .pointer (some ⟨b1, 0, none⟩)), (3, .pointer (some ⟨b2, 0, none⟩)), (6, .slice ad3 (List.replicate n.nodes.toNat (default : Int)).length cp4), (83, .slice ad3 (List.replicate n.nodes.toNat (default : Int)).length cp4), (84, I64 ((((List.replicate n.nodes.toNat (default : Int)).length : Nat) : Int))), (85, I64 (((s : Nat) : Int)))] : Env)) (fun s => vc 3 (.slice ad3 (List.replicate n.nodes.toNat (default : Int)).length cp4) (l) :: blk b2 [u, I64 (val), w] 24 :: blk b1 [I64 (n.nodes), I64 (n.source), I64 (n.sink), v] 30 :: I) (fun s => (s ≤ n.nodes.toNat) ∧ (∀ j : Nat, j < s → at_ l (j : Int) = 0 ∨ (j : Int) = n.source ∨ (j : Int) = n.sink)) (fun s => n.nodes.toNat - s) (0) (show ((0 : Nat) ≤ n.nodes.toNat) ∧ (∀ j : Nat, j < (0 : Nat) → at_ l (j : Int) = 0 ∨ (j : Int) = n.source ∨ (j : Int) = n.sink) from ⟨(by omega), all_zero⟩) (Sub.cons rfl (Sub.cons rfl (Sub.cons rfl (Sub.cons rfl (Sub.cons rfl (Sub.cons (lookI rfl (by omega)) Sub.nil)))))) (show Fit κ _ (vc 3 (.slice ad3 (List.replicate n.nodes.toNat (default : Int)).length cp4) (l) :: blk b2 [u, I64 (val), w] 24 :: blk b1 [I64 (n.nodes), I64 (n.source), I64 (n.sink), v] 30 :: I) from Fit.sub) ?_
     rintro k hp
     obtain ⟨hk2, hz⟩ : (k ≤ n.nodes.toNat) ∧ (∀ j : Nat, j < k → at_ l (j : Int) = 0 ∨ (j : Int) = n.source ∨ (j : Int) = n.sink) := hp
     show W Try.prog κ 137 _ _ ([(2, .pointer (some ⟨b1, 0, none⟩)), (3, .pointer (some ⟨b2, 0, none⟩)), (6, .slice ad3 (List.replicate n.nodes.toNat (default : Int)).length cp4), (83, .slice ad3 (List.replicate n.nodes.toNat (default : Int)).length cp4), (84, I64 ((((List.replicate n.nodes.toNat (default : Int)).length : Nat) : Int))), (85, I64 (((k : Nat) : Int)))] : Env) (vc 3 (.slice ad3 (List.replicate n.nodes.toNat (default : Int)).length cp4) (l) :: blk b2 [u, I64 (val), w] 24 :: blk b1 [I64 (n.nodes), I64 (n.source), I64 (n.sink), v] 30 :: I)
     refine W.sr ?_
     refine G.r (Runs.lss rfl rfl) ?_
     refine G.nt ?_
     refine W.seq ?_
     refine W.ite rfl (fun c86 => ?_) (fun c86 => ?_)
     ·refine W.skip ?_
      refine V.then ?_
      refine W.seq ?_
      refine W.block ?_
      refine W.sr ?_
      refine G.r (Runs.move rfl) ?_
      refine G.r (Runs.idx (α := Int) (xs := l) Try.underlying22 ty3 rfl rfl Sl.o (by omega) (by omega)) ?_
      refine G.r (Runs.get (xs := l) ty3 rfl Sl.o (by omega) (by omega)) ?_
      refine G.r (Runs.assign rfl) ?_
      refine G.r (Runs.assign rfl) ?_
      refine G.nt ?_
      refine W.sr ?_
      refine G.r (Runs.move rfl) ?_
      refine G.r (Runs.fieldAddr fld30_1 rfl) ?_
      refine G.r (Runs.ld ty3) ?_
      refine G.r (Runs.neq rfl rfl) ?_
      refine G.r (Runs.move rfl) ?_
      refine G.split (d := 94) rfl (fun g94 => ?_) (fun g94 => ?_)
      ·refine G.ro (Runs.move rfl) ?_
       refine G.ro (Runs.fieldAddr fld30_2 rfl) ?_
       refine G.ro (Runs.ld ty3) ?_
       refine G.ro (Runs.neq rfl rfl) ?_
       refine G.r (Runs.pickt rfl rfl) ?_
       refine G.r (Runs.move rfl) ?_
       refine G.split (d := 100) rfl (fun g100 => ?_) (fun g100 => ?_)
       ·refine G.ro (Runs.move rfl) ?_
        refine G.ro (Runs.neq rfl rfl) ?_
        refine G.r (Runs.pickt rfl rfl) ?_
        refine G.nt ?_
        refine W.sub (L' := [(103, _), (2, _), (3, _), (6, _), (83, _), (84, _), (85, _)]) (Sub.cons rfl (Sub.cons rfl (Sub.cons rfl (Sub.cons rfl (Sub.cons rfl (Sub.cons rfl (Sub.cons rfl Sub.nil))))))) ?_
        refine W.ite rfl (fun c103 => ?_) (fun c103 => ?_)
        ·refine W.sr ?_
         refine G.r (Runs.assign rfl) ?_
         refine G.nt ?_
         refine W.ret ?_
         refine V.block_ret ?_
         refine V.then_ret ?_
         refine V.then_ret ?_
         refine V.block_ret ?_
         refine V.then_ret ?_
         exact V.ret1 rfl rfl (I) Fit.m ⟨by rw [(provesE_12 hc0 hfl hvs (fun hp => by first | (have h9 := hp.cap k (by omega); omega) | exact g113 ((hnet _ (by omega) (by omega)).trans hp.value) | exact g121 hp.src | exact hp.snk g128 | exact c136 hp.cut | exact c103 ((hnet _ (by omega) (by omega)).trans (hp.cons _ (by omega) (by omega) g94 g100))))], rfl⟩
        ·refine W.skip ?_
         refine V.block_normal ?_
         refine V.then ?_
         refine W.region ?_
         refine G.r (Runs.add rfl rfl (by unfold InR; omega)) ?_
         refine G.r (Runs.move rfl) ?_
         refine G.nil ?_
         exact V.next ((k + 1)) (show ((k + 1 : Nat) ≤ n.nodes.toNat) ∧ (∀ j : Nat, j < (k + 1 : Nat) → at_ l (j : Int) = 0 ∨ (j : Int) = n.source ∨ (j : Int) = n.sink) from ⟨(by omega), (all_succ hz (by omega))⟩) (show n.nodes.toNat - (k + 1 : Nat) < n.nodes.toNat - k from (by omega)) (Sub.cons rfl (Sub.cons rfl (Sub.cons rfl (Sub.cons rfl (Sub.cons rfl (Sub.cons (lookI rfl (by omega)) Sub.nil)))))) (show Fit κ _ (vc 3 (.slice ad3 (List.replicate n.nodes.toNat (default : Int)).length cp4) (l) :: blk b2 [u, I64 (val), w] 24 :: blk b1 [I64 (n.nodes), I64 (n.source), I64 (n.sink), v] 30 :: I) from Fit.sub)
       ·refine G.po ?_
        refine G.po ?_
        refine G.r (Runs.pickf rfl rfl) ?_
        refine G.nt ?_
        refine W.sub (L' := [(103, _), (2, _), (3, _), (6, _), (83, _), (84, _), (85, _)]) (Sub.cons rfl (Sub.cons rfl (Sub.cons rfl (Sub.cons rfl (Sub.cons rfl (Sub.cons rfl (Sub.cons rfl Sub.nil))))))) ?_
        refine W.no rfl ?_
        refine W.skip ?_
        refine V.block_normal ?_
        refine V.then ?_
        refine W.region ?_
        refine G.r (Runs.add rfl rfl (by unfold InR; omega)) ?_
        refine G.r (Runs.move rfl) ?_
        refine G.nil ?_
        exact V.next ((k + 1)) (show ((k + 1 : Nat) ≤ n.nodes.toNat) ∧ (∀ j : Nat, j < (k + 1 : Nat) → at_ l (j : Int) = 0 ∨ (j : Int) = n.source ∨ (j : Int) = n.sink) from ⟨(by omega), (all_succ hz (by omega))⟩) (show n.nodes.toNat - (k + 1 : Nat) < n.nodes.toNat - k from (by omega)) (Sub.cons rfl (Sub.cons rfl (Sub.cons rfl (Sub.cons rfl (Sub.cons rfl (Sub.cons (lookI rfl (by omega)) Sub.nil)))))) (show Fit κ _ (vc 3 (.slice ad3 (List.replicate n.nodes.toNat (default : Int)).length cp4) (l) :: blk b2 [u, I64 (val), w] 24 :: blk b1 [I64 (n.nodes), I64 (n.source), I64 (n.sink), v] 30 :: I) from Fit.sub)
      ·refine G.po ?_
       refine G.po ?_
       refine G.po ?_
       refine G.po ?_
       refine G.r (Runs.pickf rfl rfl) ?_
       refine G.r (Runs.move rfl) ?_
       refine G.po ?_
       refine G.po ?_
       refine G.r (Runs.pickf rfl rfl) ?_
       refine G.nt ?_
       refine W.sub (L' := [(103, _), (2, _), (3, _), (6, _), (83, _), (84, _), (85, _)]) (Sub.cons rfl (Sub.cons rfl (Sub.cons rfl (Sub.cons rfl (Sub.cons rfl (Sub.cons rfl (Sub.cons rfl Sub.nil))))))) ?_
       refine W.no rfl ?_
       refine W.skip ?_
       refine V.block_normal ?_
       refine V.then ?_
       refine W.region ?_
       refine G.r (Runs.add rfl rfl (by unfold InR; omega)) ?_
       refine G.r (Runs.move rfl) ?_
       refine G.nil ?_
       exact V.next ((k + 1)) (show ((k + 1 : Nat) ≤ n.nodes.toNat) ∧ (∀ j : Nat, j < (k + 1 : Nat) → at_ l (j : Int) = 0 ∨ (j : Int) = n.source ∨ (j : Int) = n.sink) from ⟨(by omega), (all_succ hz (by omega))⟩) (show n.nodes.toNat - (k + 1 : Nat) < n.nodes.toNat - k from (by omega)) (Sub.cons rfl (Sub.cons rfl (Sub.cons rfl (Sub.cons rfl (Sub.cons rfl (Sub.cons (lookI rfl (by omega)) Sub.nil)))))) (show Fit κ _ (vc 3 (.slice ad3 (List.replicate n.nodes.toNat (default : Int)).length cp4) (l) :: blk b2 [u, I64 (val), w] 24 :: blk b1 [I64 (n.nodes), I64 (n.source), I64 (n.sink), v] 30 :: I) from Fit.sub)
     ·refine W.exit ?_
      refine V.then_exit ?_
      refine V.then_exit ?_
      refine V.block_hit ?_
      refine V.then ?_
      refine W.seq ?_
      refine W.seq ?_
      refine W.drawn mixed ?_
      refine A.hold (vc 3 (.slice ad3 (List.replicate n.nodes.toNat (default : Int)).length cp4) (l) :: blk b2 [u, I64 (val), w] 24 :: blk b1 [I64 (n.nodes), I64 (n.source), I64 (n.sink), v] 30 :: I) 32 ?_
      refine D.r 0 rfl (Runs.move rfl) ?_
      refine D.r 1 rfl (Runs.fieldAddr fld30_1 rfl) ?_
      refine D.r 2 rfl (Runs.ld ty3) ?_
      refine D.r 3 rfl (Runs.idx (α := Int) (xs := l) Try.underlying22 ty3 rfl rfl Sl.o (by omega) (by omega)) ?_
      refine D.r 4 rfl (Runs.get (xs := l) ty3 rfl Sl.o (by omega) (by omega)) ?_
      refine D.r 5 rfl (Runs.fieldAddr fld24_1 rfl) ?_
      refine D.r 6 rfl (Runs.ld ty3) ?_
      refine D.r 7 rfl (Runs.neq rfl rfl) ?_
      refine D.r 8 rfl (Runs.move rfl) ?_
      refine D.split (d := 113) rfl (fun g113 => ?_) (fun g113 => ?_)
      ·refine D.po 9 rfl ?_
       refine D.po 10 rfl ?_
       refine D.po 11 rfl ?_
       refine D.po 12 rfl ?_
       refine D.po 13 rfl ?_
       refine D.po 14 rfl ?_
       refine D.r 15 rfl (Runs.pickt rfl rfl) ?_
       refine D.r 16 rfl (Runs.move rfl) ?_
       refine D.po 17 rfl ?_
       refine D.po 18 rfl ?_
       refine D.po 19 rfl ?_
       refine D.po 20 rfl ?_
       refine D.po 21 rfl ?_
       refine D.r 22 rfl (Runs.pickt rfl rfl) ?_
       refine D.r 23 rfl (Runs.move rfl) ?_
       refine D.po 24 rfl ?_
       refine D.po 25 rfl ?_
       refine D.po 26 rfl ?_
       refine D.po 28 rfl ?_
       refine D.po 29 rfl ?_
       refine D.po 27 rfl ?_
       refine D.po 30 rfl ?_
       refine D.r 31 rfl (Runs.pickt rfl rfl) ?_
       refine D.done (by kernel_rfl) ?_
       refine V.then ?_
       refine W.sub (L' := [(136, _)]) (Sub.cons rfl Sub.nil) ?_
       refine W.yes rfl ?_
       refine W.sr ?_
       refine G.r (Runs.assign rfl) ?_
       refine G.nt ?_
       refine W.ret ?_
       refine V.then_ret ?_
       exact V.ret1 rfl rfl (I) Fit.m ⟨by rw [(provesE_12 hc0 hfl hvs (fun hp => by first | (have h9 := hp.cap k (by omega); omega) | exact g113 ((hnet _ (by omega) (by omega)).trans hp.value) | exact g121 hp.src | exact hp.snk g128 | exact c136 hp.cut | exact c103 ((hnet _ (by omega) (by omega)).trans (hp.cons _ (by omega) (by omega) g94 g100))))], rfl⟩
      ·refine D.ro 9 rfl (Runs.fieldAddr fld24_2 rfl) ?_
       refine D.ro 10 rfl (Runs.ld ty22) ?_
       refine D.ro 11 rfl (Runs.fieldAddr fld30_1 rfl) ?_
       refine D.ro 12 rfl (Runs.ld ty3) ?_
       refine D.step (rs := [13]) (by kernel_rfl) rfl rfl (all1 ?_)
       refine Step.eff rfl (Wanted.on rfl rfl rfl) (Eff.call call95 rfl rfl (RHas_ok (Sl.f hw) n.source)) ?_
       rintro _ _ ⟨_, _, ⟨rfl, rfl⟩, rfl, rfl⟩
       refine ⟨Fit.m, ?_⟩
       refine D.ro 14 rfl (Runs.notd rfl) ?_
       refine D.r 15 rfl (Runs.pickf rfl rfl) ?_
       refine D.r 16 rfl (Runs.move rfl) ?_
       refine D.split (d := 121) rfl (fun g121 => ?_) (fun g121 => ?_)
       ·refine D.po 17 rfl ?_
        refine D.po 18 rfl ?_
        refine D.po 19 rfl ?_
        refine D.po 20 rfl ?_
        refine D.po 21 rfl ?_
        refine D.r 22 rfl (Runs.pickt rfl rfl) ?_
        refine D.r 23 rfl (Runs.move rfl) ?_
        refine D.po 24 rfl ?_
        refine D.po 25 rfl ?_
        refine D.po 26 rfl ?_
        refine D.po 28 rfl ?_
        refine D.po 29 rfl ?_
        refine D.po 27 rfl ?_
        refine D.po 30 rfl ?_
        refine D.r 31 rfl (Runs.pickt rfl rfl) ?_
        refine D.done (by kernel_rfl) ?_
        refine V.then ?_
        refine W.sub (L' := [(136, _)]) (Sub.cons rfl Sub.nil) ?_
        refine W.yes rfl ?_
        refine W.sr ?_
        refine G.r (Runs.assign rfl) ?_
        refine G.nt ?_
        refine W.ret ?_
        refine V.then_ret ?_
        exact V.ret1 rfl rfl (I) Fit.m ⟨by rw [(provesE_12 hc0 hfl hvs (fun hp => by first | (have h9 := hp.cap k (by omega); omega) | exact g113 ((hnet _ (by omega) (by omega)).trans hp.value) | exact g121 hp.src | exact hp.snk g128 | exact c136 hp.cut | exact c103 ((hnet _ (by omega) (by omega)).trans (hp.cons _ (by omega) (by omega) g94 g100))))], rfl⟩
       ·refine D.ro 17 rfl (Runs.fieldAddr fld24_2 rfl) ?_
        refine D.ro 18 rfl (Runs.ld ty22) ?_
        refine D.ro 19 rfl (Runs.fieldAddr fld30_2 rfl) ?_
        refine D.ro 20 rfl (Runs.ld ty3) ?_
        refine D.step (rs := [21]) (by kernel_rfl) rfl rfl (all1 ?_)
        refine Step.eff rfl (Wanted.on rfl rfl rfl) (Eff.call call95 rfl rfl (RHas_ok (Sl.f hw) n.sink)) ?_
        rintro _ _ ⟨_, _, ⟨rfl, rfl⟩, rfl, rfl⟩
        refine ⟨Fit.m, ?_⟩
        refine D.r 22 rfl (Runs.pickf rfl rfl) ?_
        refine D.r 23 rfl (Runs.move rfl) ?_
        refine D.split (d := 128) rfl (fun g128 => ?_) (fun g128 => ?_)
        ·refine D.po 24 rfl ?_
         refine D.po 25 rfl ?_
         refine D.po 26 rfl ?_
         refine D.po 28 rfl ?_
         refine D.po 29 rfl ?_
         refine D.po 27 rfl ?_
         refine D.po 30 rfl ?_
         refine D.r 31 rfl (Runs.pickt rfl rfl) ?_
         refine D.done (by kernel_rfl) ?_
         refine V.then ?_
         refine W.sub (L' := [(136, _)]) (Sub.cons rfl Sub.nil) ?_
         refine W.yes rfl ?_
         refine W.sr ?_
         refine G.r (Runs.assign rfl) ?_
         refine G.nt ?_
         refine W.ret ?_
         refine V.then_ret ?_
         exact V.ret1 rfl rfl (I) Fit.m ⟨by rw [(provesE_12 hc0 hfl hvs (fun hp => by first | (have h9 := hp.cap k (by omega); omega) | exact g113 ((hnet _ (by omega) (by omega)).trans hp.value) | exact g121 hp.src | exact hp.snk g128 | exact c136 hp.cut | exact c103 ((hnet _ (by omega) (by omega)).trans (hp.cons _ (by omega) (by omega) g94 g100))))], rfl⟩
        ·refine D.ro 24 rfl (Runs.lds (vs := [_, _, _, _]) ty30) ?_
         refine D.ro 25 rfl (Runs.fieldAddr fld24_2 rfl) ?_
         refine D.ro 26 rfl (Runs.ld ty22) ?_
         refine D.ro 28 rfl (Runs.fieldAddr fld24_1 rfl) ?_
         refine D.ro 29 rfl (Runs.ld ty3) ?_
         refine D.step (rs := [27]) (by kernel_rfl) rfl rfl (all1 ?_)
         refine Step.eff rfl (Wanted.on rfl rfl rfl) (Eff.call call101 rfl rfl (ROutS_ok (n := n) (Sl.f hl) (Sl.f hw) hok)) ?_
         rintro _ _ ⟨_, _, ⟨rfl, rfl⟩, rfl, rfl⟩
         refine ⟨Fit.m, ?_⟩
         refine D.ro 30 rfl (Runs.neq rfl rfl) ?_
         refine D.r 31 rfl (Runs.pickf rfl rfl) ?_
         refine D.done (by kernel_rfl) ?_
         refine V.then ?_
         refine W.sub (L' := [(136, _)]) (Sub.cons rfl Sub.nil) ?_
         refine W.ite rfl (fun c136 => ?_) (fun c136 => ?_)
         ·refine W.sr ?_
          refine G.r (Runs.assign rfl) ?_
          refine G.nt ?_
          refine W.ret ?_
          refine V.then_ret ?_
          exact V.ret1 rfl rfl (I) Fit.m ⟨by rw [(provesE_12 hc0 hfl hvs (fun hp => by first | (have h9 := hp.cap k (by omega); omega) | exact g113 ((hnet _ (by omega) (by omega)).trans hp.value) | exact g121 hp.src | exact hp.snk g128 | exact c136 hp.cut | exact c103 ((hnet _ (by omega) (by omega)).trans (hp.cons _ (by omega) (by omega) g94 g100))))], rfl⟩
         ·refine W.skip ?_
          refine V.then ?_
          refine W.sr ?_
          refine G.r (Runs.assign rfl) ?_
          refine G.nt ?_
          refine W.ret ?_
          exact V.ret1 rfl rfl (I) Fit.m ⟨by rw [provesE_0 hc0 hfl hvs ⟨hcap, fun z h0 h1 h2 h3 => by rw [← hnet z h0 h1]; have h4 := hz z.toNat (by omega); rw [show ((z.toNat : Nat) : Int) = z from by omega] at h4; omega, by rw [← hnet _ (by omega) (by omega)]; exact Decidable.of_not_not g113, Decidable.of_not_not g121, g128, Decidable.of_not_not c136⟩], rfl⟩

end Go.Sl
namespace Go.Sl
open Go.Proofs
set_option linter.unusedVariables false
set_option linter.unusedSimpArgs false
set_option maxRecDepth 4000
/-- The example of chapter 16. -/
abbrev nA : Net := ⟨3, 0, 2, [⟨0, 1, 3⟩, ⟨1, 2, 2⟩]⟩
theorem nA_ok : nA.Ok := checkN_ok.1 (by decide)
theorem nA_max : MaxF nA [2, 2] [0, 1] 2 := by
  refine ⟨⟨rfl, ?_, ?_⟩, rfl, fun z => decide (z = 0 ∨ z = 1), ⟨rfl, rfl, ?_, ?_⟩, rfl⟩
  · intro k hk
    have : k = 0 ∨ k = 1 := by simp at hk; omega
    rcases this with rfl | rfl <;> decide
  · intro v h0 h1 h2 h3
    have h2 : v ≠ 0 := h2
    have h3 : v ≠ 2 := h3
    have h1 : v < 3 := h1
    obtain rfl : v = 1 := by omega
    decide
  · intro k hk
    have : k = 0 ∨ k = 1 := by simp at hk; omega
    rcases this with rfl | rfl <;> decide
  · intro S hS hs z hz
    have hz : z = 0 ∨ z = 1 := of_decide_eq_true hz
    rcases hz with rfl | rfl
    · exact hs
    · exact (hS 0 (by decide)).1 hs (by decide)
theorem nA_not : provesE nA [0, 0] [0] 0 = 12 := provesE_12 (by decide) rfl (by decide) fun h => by
  have := h.cut
  revert this
  decide

theorem Awake_ok {κ : Ctx} {I : List Item}  :
    CallS Try.prog κ 21 [] I (fun r J => r = .bool true ∧ I = J) := by
 refine CallS.enter (L := []) Try.func21 rfl rfl rfl rfl ?_
 refine W.sr ?_
 refine G.r (Runs.assign rfl) ?_
 refine G.nt ?_
 refine W.sr ?_
 refine G.r (Runs.build (cells := [_, _, _]) ty43 Try.underlying43 pl43 rfl rfl) ?_
 refine G.r (Runs.build (cells := [_, _, _]) ty43 Try.underlying43 pl43 rfl rfl) ?_
 refine G.e (Eff.bs (α := Arc) (cs := [I64 (0), I64 (1), I64 (3), I64 (1), I64 (2), I64 (2)]) (xs := [⟨0, 1, 3⟩, ⟨1, 2, 2⟩]) Try.underlying28 ty43 rfl rfl (by decide) (by decide) rfl (by kernel_rfl) rfl rfl) ?_
 rintro _ _ ⟨ad1, rfl, rfl⟩
 refine G.r (Runs.build (cells := [_, _, _, _]) ty30 Try.underlying30 pl30 rfl rfl) ?_
 refine G.e (Eff.alloc ty30 rfl) ?_
 rintro _ _ ⟨b2, rfl, rfl⟩
 refine G.e (Eff.st (cs := [_, _, _, _]) (vs := [_, _, _, _]) (cs' := [_, _, _, _]) ty30) ?_
 rintro _ _ ⟨rfl, rfl⟩
 refine G.nt ?_
 refine W.sr ?_
 refine G.r (Runs.lds (vs := [_, _, _, _]) ty30) ?_
 refine G.e (Eff.call call30 rfl rfl (FMax_ok (n := nA) Sl.o nA_ok)) ?_
 rintro _ _ ⟨_, _, ⟨ad3, cp4, f5, ad6, cp7, sd8, vl9, rfl, hf5, rfl⟩, rfl, rfl⟩
 have hu := MaxF.unique nA_ok hf5 nA_max
 have hpr := MaxF.proof nA_ok hf5
 refine G.r (Runs.move rfl) ?_
 refine G.r (Runs.extract rfl rfl) ?_
 refine G.r (Runs.extract rfl rfl) ?_
 refine G.e (Eff.alloc ty24 rfl) ?_
 rintro _ _ ⟨b10, rfl, rfl⟩
 refine G.e (Eff.st (cs := [_, _, _]) (vs := [_, _, _]) (cs' := [_, _, _]) ty24) ?_
 rintro _ _ ⟨rfl, rfl⟩
 refine G.r (Runs.assign rfl) ?_
 refine G.nt ?_
 refine W.sr ?_
 refine G.r (Runs.move rfl) ?_
 refine G.r (Runs.eql rfl rfl) ?_
 refine G.r (Runs.move rfl) ?_
 refine G.split (d := 15) rfl (fun g15 => ?_) (fun g15 => ?_)
 ·refine G.ro (Runs.fieldAddr fld24_1 rfl) ?_
  refine G.ro (Runs.ld ty3) ?_
  refine G.ro (Runs.eql rfl rfl) ?_
  refine G.r (Runs.pickt rfl rfl) ?_
  refine G.r (Runs.move rfl) ?_
  refine G.split (d := 20) rfl (fun g20 => ?_) (fun g20 => ?_)
  ·refine G.ro (Runs.fieldAddr fld24_2 rfl) ?_
   refine G.ro (Runs.ld ty22) ?_
   refine G.eff (Wanted.on rfl rfl rfl) (Eff.bs (α := Int) (cs := [_, _]) (xs := [0, 1]) Try.underlying22 ty3 rfl rfl (by decide) (by decide) rfl rfl rfl rfl) ?_
   rintro _ _ ⟨ad11, rfl, rfl⟩
   refine G.eff (Wanted.on rfl rfl rfl) (Eff.call call36 rfl rfl (Same_ok Sl.o Sl.o)) ?_
   rintro _ _ ⟨_, _, ⟨rfl, rfl⟩, rfl, rfl⟩
   refine G.r (Runs.pickt rfl rfl) ?_
   refine G.r (Runs.move rfl) ?_
   refine G.split (d := 26) rfl (fun g26 => ?_) (fun g26 => ?_)
   ·refine G.ro (Runs.lds (vs := [_, _, _, _]) ty30) ?_
    refine G.ro (Runs.lds (vs := [_, _, _]) ty24) ?_
    refine G.eff (Wanted.on rfl rfl rfl) (Eff.call call28 rfl rfl (FProves_ok (n := nA) Sl.o Sl.o Sl.o)) ?_
    rintro _ _ ⟨_, _, ⟨rfl, rfl⟩, rfl, rfl⟩
    refine G.ro (Runs.eql rfl rfl) ?_
    refine G.r (Runs.pickt rfl rfl) ?_
    refine G.r (Runs.move rfl) ?_
    refine G.split (d := 32) rfl (fun g32 => ?_) (fun g32 => ?_)
    ·refine G.ro (Runs.lds (vs := [_, _, _, _]) ty30) ?_
     refine G.eff (Wanted.on rfl rfl rfl) (Eff.bs (α := Int) (cs := [_, _]) (xs := [0, 0]) Try.underlying22 ty3 rfl rfl (by decide) (by decide) rfl rfl rfl rfl) ?_
     rintro _ _ ⟨ad12, rfl, rfl⟩
     refine G.eff (Wanted.on rfl rfl rfl) (Eff.bs (α := Int) (cs := [_]) (xs := [0]) Try.underlying22 ty3 rfl rfl (by decide) (by decide) rfl rfl rfl rfl) ?_
     rintro _ _ ⟨ad13, rfl, rfl⟩
     refine G.ro (Runs.build (cells := [_, _, _]) ty24 Try.underlying24 pl24 rfl rfl) ?_
     refine G.eff (Wanted.on rfl rfl rfl) (Eff.call call28 rfl rfl (FProves_ok (n := nA) Sl.o Sl.o Sl.o)) ?_
     rintro _ _ ⟨_, _, ⟨rfl, rfl⟩, rfl, rfl⟩
     refine G.ro (Runs.eql rfl rfl) ?_
     refine G.r (Runs.pickt rfl rfl) ?_
     refine G.r (Runs.assign rfl) ?_
     refine G.nt ?_
     refine W.sub (L' := [(0, _)]) (Sub.cons rfl Sub.nil) ?_
     refine W.ret ?_
     exact V.ret1 rfl rfl (I) Fit.m ⟨by first | rfl | (rw [decide_eq_true nA_not]) | (exfalso; omega) | (exfalso; exact absurd hu.2 (by assumption)) | (exfalso; exact absurd hpr (by assumption)), rfl⟩
    ·refine G.po ?_
     refine G.po ?_
     refine G.po ?_
     refine G.po ?_
     refine G.po ?_
     refine G.po ?_
     refine G.r (Runs.pickf rfl rfl) ?_
     refine G.r (Runs.assign rfl) ?_
     refine G.nt ?_
     refine W.sub (L' := [(0, _)]) (Sub.cons rfl Sub.nil) ?_
     refine W.ret ?_
     exact V.ret1 rfl rfl (I) Fit.m ⟨by first | rfl | (rw [decide_eq_true nA_not]) | (exfalso; omega) | (exfalso; exact absurd hu.2 (by assumption)) | (exfalso; exact absurd hpr (by assumption)), rfl⟩
   ·refine G.po ?_
    refine G.po ?_
    refine G.po ?_
    refine G.po ?_
    refine G.r (Runs.pickf rfl rfl) ?_
    refine G.r (Runs.move rfl) ?_
    refine G.po ?_
    refine G.po ?_
    refine G.po ?_
    refine G.po ?_
    refine G.po ?_
    refine G.po ?_
    refine G.r (Runs.pickf rfl rfl) ?_
    refine G.r (Runs.assign rfl) ?_
    refine G.nt ?_
    refine W.sub (L' := [(0, _)]) (Sub.cons rfl Sub.nil) ?_
    refine W.ret ?_
    exact V.ret1 rfl rfl (I) Fit.m ⟨by first | rfl | (rw [decide_eq_true nA_not]) | (exfalso; omega) | (exfalso; exact absurd hu.2 (by assumption)) | (exfalso; exact absurd hpr (by assumption)), rfl⟩
  ·refine G.po ?_
   refine G.po ?_
   refine G.po ?_
   refine G.po ?_
   refine G.r (Runs.pickf rfl rfl) ?_
   refine G.r (Runs.move rfl) ?_
   refine G.po ?_
   refine G.po ?_
   refine G.po ?_
   refine G.po ?_
   refine G.r (Runs.pickf rfl rfl) ?_
   refine G.r (Runs.move rfl) ?_
   refine G.po ?_
   refine G.po ?_
   refine G.po ?_
   refine G.po ?_
   refine G.po ?_
   refine G.po ?_
   refine G.r (Runs.pickf rfl rfl) ?_
   refine G.r (Runs.assign rfl) ?_
   refine G.nt ?_
   refine W.sub (L' := [(0, _)]) (Sub.cons rfl Sub.nil) ?_
   refine W.ret ?_
   exact V.ret1 rfl rfl (I) Fit.m ⟨by first | rfl | (rw [decide_eq_true nA_not]) | (exfalso; omega) | (exfalso; exact absurd hu.2 (by assumption)) | (exfalso; exact absurd hpr (by assumption)), rfl⟩
 ·refine G.po ?_
  refine G.po ?_
  refine G.po ?_
  refine G.r (Runs.pickf rfl rfl) ?_
  refine G.r (Runs.move rfl) ?_
  refine G.po ?_
  refine G.po ?_
  refine G.po ?_
  refine G.po ?_
  refine G.r (Runs.pickf rfl rfl) ?_
  refine G.r (Runs.move rfl) ?_
  refine G.po ?_
  refine G.po ?_
  refine G.po ?_
  refine G.po ?_
  refine G.r (Runs.pickf rfl rfl) ?_
  refine G.r (Runs.move rfl) ?_
  refine G.po ?_
  refine G.po ?_
  refine G.po ?_
  refine G.po ?_
  refine G.po ?_
  refine G.po ?_
  refine G.r (Runs.pickf rfl rfl) ?_
  refine G.r (Runs.assign rfl) ?_
  refine G.nt ?_
  refine W.sub (L' := [(0, _)]) (Sub.cons rfl Sub.nil) ?_
  refine W.ret ?_
  exact V.ret1 rfl rfl (I) Fit.m ⟨by first | rfl | (rw [decide_eq_true nA_not]) | (exfalso; omega) | (exfalso; exact absurd hu.2 (by assumption)) | (exfalso; exact absurd hpr (by assumption)), rfl⟩

theorem MaxF.bd {n : Net} (hok : n.Ok) {f side : List Int} {val : Int} (h : MaxF n f side val) : 0 ≤ val ∧ val ≤ 18014398509481984 := by
  obtain ⟨R, hR, _⟩ := h.side
  have hz := flow_zero n hok
  have h1 := hR.max hok h.flow hz.1
  have h2 := value_le hok h.flow R hR.src hR.snk
  have h3 := (cut_nonneg_le hok R).2
  have := h.val
  omega
theorem Network_at {κ : Ctx} {I : List Item} {F : Item → List Item} {b : Nat} {lv : Value} {ls : List Int} {i : Int} (hat : AtF I (deck b lv i) F) (hl : ∀ q, Sl κ (F (deck b lv q)) lv ls) (h0 : 0 ≤ i) :
    CallS Try.prog κ 23 [.pointer (some ⟨b, 0, none⟩)] I fun r J => ∃ (n : Net) (a : Option Addr) (c : Nat) (i' : Int), r = .agg #[I64 n.nodes, I64 n.source, I64 n.sink, .slice a n.arcs.length c] ∧ n.Made ∧ 0 ≤ i' ∧ J = vc 43 (.slice a n.arcs.length c) n.arcs :: F (deck b lv i') :=
  (CallS.at (Post := fun r (y : Net × Option Addr × Nat × Int) => r = .agg #[I64 y.1.nodes, I64 y.1.source, I64 y.1.sink, .slice y.2.1 y.1.arcs.length y.2.2.1] ∧ y.1.Made ∧ 0 ≤ y.2.2.2) (Z := fun y : Net × Option Addr × Nat × Int => [vc 43 (.slice y.2.1 y.1.arcs.length y.2.2.1) y.1.arcs]) (X := fun y : Net × Option Addr × Nat × Int => deck b lv y.2.2.2) hat fun J _ hF => Network_base (fun q => (hl q).fit (hF _)) h0).mono fun _ _ ⟨y, ⟨h1, h2, h3⟩, h5⟩ => ⟨y.1, y.2.1, y.2.2.1, y.2.2.2, h1, h2, h3, h5⟩
/-- A flow as an element, with what it holds. -/
structure FRow where
  fa : Option Addr
  fc : Nat
  fl : List Int
  val : Int
  sa : Option Addr
  sc : Nat
  sl : List Int
deriving Inhabited
instance : Enc FRow := ⟨fun r => [.slice r.fa r.fl.length r.fc, I64 r.val, .slice r.sa r.sl.length r.sc], 3, by omega, fun _ => rfl, fun r u hu => by
  simp only [List.mem_cons, List.not_mem_nil, or_false] at hu
  rcases hu with rfl | rfl | rfl <;> rfl⟩
def FRow.Held (κ : Ctx) (I : List Item) (r : FRow) : Prop := Sl κ I (.slice r.fa r.fl.length r.fc) r.fl ∧ Sl κ I (.slice r.sa r.sl.length r.sc) r.sl
theorem FRow.held_mk {κ : Ctx} {I : List Item} {fa sa : Option Addr} {fc sc : Nat} {fl sl : List Int} {val : Int} (a : Sl κ I (.slice fa fl.length fc) fl) (b : Sl κ I (.slice sa sl.length sc) sl) : FRow.Held κ I ⟨fa, fc, fl, val, sa, sc, sl⟩ := ⟨a, b⟩
theorem held4 {κ : Ctx} {I : List Item} {a b c d : FRow} (ha : a.Held κ I) (hb : b.Held κ I) (hc : c.Held κ I) (hd : d.Held κ I) : ∀ i : Int, 0 ≤ i → i < 4 → (at_ [a, b, c, d] i).Held κ I := fun i h0 h1 => by
  obtain ⟨k, rfl⟩ : ∃ k : Nat, i = (k : Int) := ⟨i.toNat, by omega⟩
  have : k = 0 ∨ k = 1 ∨ k = 2 ∨ k = 3 := by omega
  rcases this with rfl | rfl | rfl | rfl
  · exact ha
  · exact hb
  · exact hc
  · exact hd

end Go.Sl
