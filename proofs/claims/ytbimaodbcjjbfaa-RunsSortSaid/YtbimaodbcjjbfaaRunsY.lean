/- A part of the proofs of statements of this seat: contracts of functions, and the plain laws that they lean on. No conditions. -/
import Derived.Test.YtbimaodbcjjbfaaTy
import Derived.Test.YtbimaodbcjjbfaaRunsX
import Derived.Test.YtbimaodbcjjbfaaSets
namespace Go.Sl
open Go.Proofs
set_option linter.unusedVariables false
set_option linter.unusedSimpArgs false
set_option maxRecDepth 4000
theorem eqt60 : EqT Try.prog 60 Pt := ⟨fun x y w => by
  have hi : ∃ i, Try.prog.info? 3 = some i := ⟨_, rfl⟩
  obtain ⟨i, hi⟩ := hi
  have h2 : Try.prog.cellsOf 3 = 1 := by kernel_rfl
  rw [show (10000 : Nat) = 9999 + 1 from rfl, run_equalIn_array w 9999 _ _ Try.underlying60 hi, h2]
  have hu := Try.underlying3
  have hz : ∀ w, (isAgg 3).run Try.prog w = .ok false w := fun w => by simp [isAgg, run_underlying hu]
  simp [Op.eqItems, List.range, List.range.loop, part, hz, Enc.enc, run_equalIn_int _ _ _ _ _ _ _ hu, Pt.ext_iff']
  by_cases h1 : x.u = y.u <;> by_cases h2 : x.v = y.v <;> simp [h1, h2], by kernel_rfl⟩

end Go.Sl
namespace Go.Sl
open Go.Proofs
set_option linter.unusedVariables false
set_option linter.unusedSimpArgs false
set_option maxRecDepth 4000
theorem IsNaN_ok {κ : Ctx} {I : List Item} (n : Int) :
    CallS Try.prog κ 217 [I64 (n)] I (fun r J => r = .bool false ∧ I = J) := by
 refine CallS.enter (L := [(0, I64 (n))]) Try.func217 rfl rfl rfl rfl ?_
 refine W.sr ?_
 refine G.r (Runs.assign rfl) ?_
 refine G.nt ?_
 refine W.sr ?_
 refine G.r (Runs.move rfl) ?_
 refine G.r (Runs.move rfl) ?_
 refine G.r (Runs.neq rfl rfl) ?_
 refine G.r (Runs.assign rfl) ?_
 refine G.nt ?_
 refine W.ret ?_
 exact V.ret1 rfl rfl (I) Fit.m ⟨by simp, rfl⟩

theorem Compare_ok {κ : Ctx} {I : List Item} (m n : Int) :
    CallS Try.prog κ 173 [I64 (m), I64 (n)] I (fun r J => r = I64 (cmpI m n) ∧ I = J) := by
 refine CallS.enter (L := [(0, I64 (m)), (1, I64 (n))]) Try.func173 rfl rfl rfl rfl ?_
 refine W.sr ?_
 refine G.r (Runs.assign rfl) ?_
 refine G.nt ?_
 refine W.sr ?_
 refine G.r (Runs.move rfl) ?_
 refine G.e (Eff.call call217 rfl rfl (IsNaN_ok m)) ?_
 rintro _ _ ⟨_, _, ⟨rfl, rfl⟩, rfl, rfl⟩
 refine G.r (Runs.assign rfl) ?_
 refine G.nt ?_
 refine W.sr ?_
 refine G.r (Runs.move rfl) ?_
 refine G.e (Eff.call call217 rfl rfl (IsNaN_ok n)) ?_
 rintro _ _ ⟨_, _, ⟨rfl, rfl⟩, rfl, rfl⟩
 refine G.r (Runs.assign rfl) ?_
 refine G.nt ?_
 refine W.seq ?_
 refine W.sr ?_
 refine G.r (Runs.move rfl) ?_
 refine G.nt ?_
 refine W.no rfl ?_
 refine W.skip ?_
 refine V.then ?_
 refine W.seq ?_
 refine W.sr ?_
 refine G.r (Runs.move rfl) ?_
 refine G.nt ?_
 refine W.no rfl ?_
 refine W.skip ?_
 refine V.then ?_
 refine W.seq ?_
 refine W.sr ?_
 refine G.r (Runs.move rfl) ?_
 refine G.r (Runs.move rfl) ?_
 refine G.r (Runs.lss rfl rfl) ?_
 refine G.nt ?_
 refine W.sub (L' := [(16, _), (0, _), (1, _)]) (Sub.cons rfl (Sub.cons rfl (Sub.cons rfl Sub.nil))) ?_
 refine W.ite rfl (fun c16 => ?_) (fun c16 => ?_)
 ·refine W.sr ?_
  refine G.r (Runs.assign rfl) ?_
  refine G.nt ?_
  refine W.ret ?_
  refine V.then_ret ?_
  exact V.ret1 rfl rfl (I) Fit.m ⟨by unfold cmpI; rw [if_pos c16], rfl⟩
 ·refine W.skip ?_
  refine V.then ?_
  refine W.seq ?_
  refine W.sr ?_
  refine G.r (Runs.move rfl) ?_
  refine G.r (Runs.move rfl) ?_
  refine G.r (Runs.gtr rfl rfl) ?_
  refine G.nt ?_
  refine W.ite rfl (fun c19 => ?_) (fun c19 => ?_)
  ·refine W.sr ?_
   refine G.r (Runs.assign rfl) ?_
   refine G.nt ?_
   refine W.ret ?_
   refine V.then_ret ?_
   exact V.ret1 rfl rfl (I) Fit.m ⟨by unfold cmpI; rw [if_neg c16, if_pos c19], rfl⟩
  ·refine W.skip ?_
   refine V.then ?_
   refine W.sr ?_
   refine G.r (Runs.assign rfl) ?_
   refine G.nt ?_
   refine W.ret ?_
   exact V.ret1 rfl rfl (I) Fit.m ⟨by unfold cmpI; rw [if_neg c16, if_neg c19], rfl⟩

theorem Or_ok {κ : Ctx} {I : List Item} {v : Value} {xs : List Int} (hl : Sl κ I v xs) :
    CallS Try.prog κ 172 [v] I (fun r J => r = I64 (orL xs) ∧ I = J) := by
 refine CallS.pull hl.le fun hmax => ?_
 refine CallS.enter (L := [(0, v)]) Try.func172 rfl rfl rfl rfl ?_
 refine W.sr ?_
 refine G.r (Runs.assign rfl) ?_
 refine G.nt ?_
 refine W.sr ?_
 refine G.r (Runs.assign rfl) ?_
 refine G.nt ?_
 refine W.seq ?_
 refine W.sr ?_
 refine G.r (Runs.move rfl) ?_
 refine G.r (Runs.lenT (α := Int) (xs := xs) Try.underlying22 rfl (Sl.f hl)) ?_
 refine G.r (Runs.move rfl) ?_
 refine G.nt ?_
 refine W.block ?_
 refine W.loop (σ := Nat) (fun s => ([(3, I64 (0)), (6, v), (7, I64 (((xs.length : Nat) : Int))), (8, I64 (((s : Nat) : Int)))] : Env)) (fun s => I) (fun s => (s ≤ xs.length) ∧ (orL xs = orL (xs.drop s))) (fun s => xs.length - s) (0) (show ((0 : Nat) ≤ xs.length) ∧ (orL xs = orL (xs.drop (0 : Nat))) from ⟨(by omega), rfl⟩) (Sub.cons rfl (Sub.cons rfl (Sub.cons rfl (Sub.cons lookO Sub.nil)))) (show Fit κ _ (I) from Fit.sub) ?_
 rintro k hp
 obtain ⟨hk, ho⟩ : (k ≤ xs.length) ∧ (orL xs = orL (xs.drop k)) := hp
 show W Try.prog κ 18 _ _ ([(3, I64 (0)), (6, v), (7, I64 (((xs.length : Nat) : Int))), (8, I64 (((k : Nat) : Int)))] : Env) (I)
 refine W.sr ?_
 refine G.r (Runs.lss rfl rfl) ?_
 refine G.nt ?_
 refine W.seq ?_
 refine W.ite rfl (fun c9 => ?_) (fun c9 => ?_)
 ·refine W.skip ?_
  refine V.then ?_
  refine W.seq ?_
  refine W.block ?_
  refine W.sr ?_
  refine G.r (Runs.idx (α := Int) (xs := xs) Try.underlying22 ty3 rfl rfl (Sl.f hl) (by omega) (by omega)) ?_
  refine G.r (Runs.get (xs := xs) ty3 rfl (Sl.f hl) (by omega) (by omega)) ?_
  refine G.r (Runs.assign rfl) ?_
  refine G.nt ?_
  refine W.sr ?_
  refine G.r (Runs.move rfl) ?_
  refine G.r (Runs.move rfl) ?_
  refine G.r (Runs.neq rfl rfl) ?_
  refine G.nt ?_
  refine W.ite rfl (fun c14 => ?_) (fun c14 => ?_)
  ·refine W.sr ?_
   refine G.r (Runs.move rfl) ?_
   refine G.r (Runs.assign rfl) ?_
   refine G.nt ?_
   refine W.ret ?_
   refine V.block_ret ?_
   refine V.then_ret ?_
   refine V.then_ret ?_
   refine V.block_ret ?_
   refine V.then_ret ?_
   exact V.ret1 rfl rfl (I) Fit.m ⟨by rw [ho, orL_stop (by omega) c14], rfl⟩
  ·refine W.skip ?_
   refine V.block_normal ?_
   refine V.then ?_
   refine W.region ?_
   refine G.r (Runs.add rfl rfl (by unfold InR; omega)) ?_
   refine G.r (Runs.move rfl) ?_
   refine G.nil ?_
   exact V.next ((k + 1)) (show ((k + 1 : Nat) ≤ xs.length) ∧ (orL xs = orL (xs.drop (k + 1 : Nat))) from ⟨(by omega), (ho.trans (orL_step (by omega) (Decidable.of_not_not c14)))⟩) (show xs.length - (k + 1 : Nat) < xs.length - k from (by omega)) (Sub.cons rfl (Sub.cons rfl (Sub.cons rfl (Sub.cons lookO Sub.nil)))) (show Fit κ _ (I) from Fit.sub)
 ·refine W.exit ?_
  refine V.then_exit ?_
  refine V.then_exit ?_
  refine V.block_hit ?_
  refine V.then ?_
  refine W.sr ?_
  refine G.r (Runs.move rfl) ?_
  refine G.r (Runs.assign rfl) ?_
  refine G.nt ?_
  refine W.ret ?_
  exact V.ret1 rfl rfl (I) Fit.m ⟨by rw [ho, orL_end (by omega)], rfl⟩

theorem RCompare_ok {κ : Ctx} {I : List Item} (a c : Pt) :
    CallS Try.prog κ 111 [.agg #[I64 (a.u), I64 (a.v)], .agg #[I64 (c.u), I64 (c.v)]] I (fun r J => r = I64 (Pt.cmp a c) ∧ I = J) := by
 refine CallS.enter (L := [(0, .agg #[I64 (a.u), I64 (a.v)]), (1, .agg #[I64 (c.u), I64 (c.v)])]) Try.func111 rfl rfl rfl rfl ?_
 refine W.sr ?_
 refine G.e (Eff.box (cs := [_, _]) rfl rfl rfl) ?_
 rintro _ _ ⟨b1, rfl, rfl⟩
 refine G.e (Eff.box (cs := [_, _]) rfl rfl rfl) ?_
 rintro _ _ ⟨b2, rfl, rfl⟩
 refine G.r (Runs.assign rfl) ?_
 refine G.nt ?_
 refine W.seq ?_
 refine W.drawn mixed ?_
 refine A.hold (blk b2 [I64 (c.u), I64 (c.v)] 60 :: blk b1 [I64 (a.u), I64 (a.v)] 60 :: I) 12 ?_
 refine D.r 0 rfl (Runs.idxArr Try.underlying60 ty2 rfl rfl (by omega) (by omega)) ?_
 refine D.r 1 rfl (Runs.ld ty3) ?_
 refine D.r 2 rfl (Runs.idxArr Try.underlying60 ty2 rfl rfl (by omega) (by omega)) ?_
 refine D.r 3 rfl (Runs.ld ty3) ?_
 refine D.r 5 rfl (Runs.idxArr Try.underlying60 ty2 rfl rfl (by omega) (by omega)) ?_
 refine D.r 6 rfl (Runs.ld ty3) ?_
 refine D.r 7 rfl (Runs.idxArr Try.underlying60 ty2 rfl rfl (by omega) (by omega)) ?_
 refine D.r 8 rfl (Runs.ld ty3) ?_
 refine D.step (rs := [4]) (by kernel_rfl) rfl rfl (all1 ?_)
 refine Step.eff rfl (Wanted.plain rfl) (Eff.call call173 rfl rfl (Compare_ok a.u c.u)) ?_
 rintro _ _ ⟨_, _, ⟨rfl, rfl⟩, rfl, rfl⟩
 refine ⟨Fit.m, ?_⟩
 refine D.step (rs := [9]) (by kernel_rfl) rfl rfl (all1 ?_)
 refine Step.eff rfl (Wanted.plain rfl) (Eff.call call173 rfl rfl (Compare_ok a.v c.v)) ?_
 rintro _ _ ⟨_, _, ⟨rfl, rfl⟩, rfl, rfl⟩
 refine ⟨Fit.m, ?_⟩
 refine D.step (rs := [10]) (by kernel_rfl) rfl rfl (all1 ?_)
 refine Step.eff rfl (Wanted.plain rfl) (Eff.bs (α := Int) (cs := [_, _]) (xs := [cmpI a.u c.u, cmpI a.v c.v]) Try.underlying22 ty3 rfl rfl (by decide) (by decide) rfl rfl rfl rfl) ?_
 rintro _ _ ⟨ad3, rfl, rfl⟩
 refine ⟨Fit.m, ?_⟩
 refine D.step (rs := [11]) (by kernel_rfl) rfl rfl (all1 ?_)
 refine Step.eff rfl (Wanted.plain rfl) (Eff.call call172 rfl rfl (Or_ok Sl.o)) ?_
 rintro _ _ ⟨_, _, ⟨rfl, rfl⟩, rfl, rfl⟩
 refine ⟨Fit.m, ?_⟩
 refine D.stop (by kernel_rfl) ?_
 refine A.read (i := 12) (by kernel_rfl) rfl (Wanted.plain rfl) rfl rfl (Runs.assign rfl) ?_
 refine A.done (by kernel_rfl) ?_
 refine V.then ?_
 refine W.sub (L' := [(4, _)]) (Sub.cons rfl Sub.nil) ?_
 refine W.ret ?_
 exact V.ret1 rfl rfl (I) Fit.m ⟨by rw [← orL_cmp], rfl⟩

theorem Record_ok {κ : Ctx} {I : List Item} (p : Pt) :
    CallS Try.prog κ 127 [.agg #[I64 (p.u), I64 (p.v)]] I (fun r J => r = .bool (decide p.right) ∧ I = J) := by
 refine CallS.enter (L := [(0, .agg #[I64 (p.u), I64 (p.v)])]) Try.func127 rfl rfl rfl rfl ?_
 refine W.sr ?_
 refine G.e (Eff.box (cs := [_, _]) rfl rfl rfl) ?_
 rintro _ _ ⟨b1, rfl, rfl⟩
 refine G.r (Runs.assign rfl) ?_
 refine G.nt ?_
 refine W.sr ?_
 refine G.r (Runs.idxArr Try.underlying60 ty2 rfl rfl (by omega) (by omega)) ?_
 refine G.r (Runs.ld ty3) ?_
 refine G.r (Runs.idxArr Try.underlying60 ty2 rfl rfl (by omega) (by omega)) ?_
 refine G.r (Runs.ld ty3) ?_
 refine G.r (Runs.min rfl rfl) ?_
 refine G.r (Runs.geq rfl rfl) ?_
 refine G.r (Runs.move rfl) ?_
 refine G.split (d := 9) rfl (fun g9 => ?_) (fun g9 => ?_)
 ·refine G.ro (Runs.idxArr Try.underlying60 ty2 rfl rfl (by omega) (by omega)) ?_
  refine G.ro (Runs.ld ty3) ?_
  refine G.ro (Runs.idxArr Try.underlying60 ty2 rfl rfl (by omega) (by omega)) ?_
  refine G.ro (Runs.ld ty3) ?_
  refine G.ro (Runs.max rfl rfl) ?_
  refine G.ro (Runs.lss rfl rfl) ?_
  refine G.r (Runs.pickt rfl rfl) ?_
  refine G.r (Runs.move rfl) ?_
  refine G.split (d := 17) rfl (fun g17 => ?_) (fun g17 => ?_)
  ·refine G.ro (Runs.idxArr Try.underlying60 ty2 rfl rfl (by omega) (by omega)) ?_
   refine G.ro (Runs.ld ty3) ?_
   refine G.ro (Runs.idxArr Try.underlying60 ty2 rfl rfl (by omega) (by omega)) ?_
   refine G.ro (Runs.ld ty3) ?_
   refine G.ro (Runs.neq rfl rfl) ?_
   refine G.r (Runs.pickt rfl rfl) ?_
   refine G.r (Runs.assign rfl) ?_
   refine G.nt ?_
   refine W.sub (L' := [(2, _)]) (Sub.cons rfl Sub.nil) ?_
   refine W.ret ?_
   have hm1 := g9; have hm2 := g17
   have q1 : 0 ≤ p.u ∧ 0 ≤ p.v := by split at g9 <;> omega
   have q2 : p.u < 64 ∧ p.v < 64 := by split at g17 <;> omega
   exact V.ret1 rfl rfl (I) Fit.m ⟨by rw [decide_eq_decide.2 (show p.right ↔ p.u ≠ p.v from ⟨fun h => h.2.2, fun h => ⟨by omega, by omega, h⟩⟩)], rfl⟩
  ·refine G.po ?_
   refine G.po ?_
   refine G.po ?_
   refine G.po ?_
   refine G.po ?_
   refine G.r (Runs.pickf rfl rfl) ?_
   refine G.r (Runs.assign rfl) ?_
   refine G.nt ?_
   refine W.sub (L' := [(2, _)]) (Sub.cons rfl Sub.nil) ?_
   refine W.ret ?_
   exact V.ret1 rfl rfl (I) Fit.m ⟨by rw [decide_eq_false (show ¬ p.right from fun h => g17 (by have := h.1; have := h.2.1; split <;> omega))], rfl⟩
 ·refine G.po ?_
  refine G.po ?_
  refine G.po ?_
  refine G.po ?_
  refine G.po ?_
  refine G.po ?_
  refine G.r (Runs.pickf rfl rfl) ?_
  refine G.r (Runs.move rfl) ?_
  refine G.po ?_
  refine G.po ?_
  refine G.po ?_
  refine G.po ?_
  refine G.po ?_
  refine G.r (Runs.pickf rfl rfl) ?_
  refine G.r (Runs.assign rfl) ?_
  refine G.nt ?_
  refine W.sub (L' := [(2, _)]) (Sub.cons rfl Sub.nil) ?_
  refine W.ret ?_
  exact V.ret1 rfl rfl (I) Fit.m ⟨by rw [decide_eq_false (show ¬ p.right from fun h => g9 (by have := h.1; have := h.2.1; split <;> omega))], rfl⟩

theorem BlockSz_ok {κ : Ctx} {I : List Item} (n : Int) :
    CallS Try.prog κ 113 [I64 (n)] I (fun r J => r = .bool (decide (1 ≤ n ∧ n ≤ 1024)) ∧ I = J) := by
 refine CallS.enter (L := [(0, I64 (n))]) Try.func113 rfl rfl rfl rfl ?_
 refine W.sr ?_
 refine G.r (Runs.assign rfl) ?_
 refine G.nt ?_
 refine W.sr ?_
 refine G.r (Runs.move rfl) ?_
 refine G.r (Runs.geq rfl rfl) ?_
 refine G.r (Runs.move rfl) ?_
 refine G.split (d := 5) rfl (fun g5 => ?_) (fun g5 => ?_)
 ·refine G.ro (Runs.move rfl) ?_
  refine G.ro (Runs.leq rfl rfl) ?_
  refine G.r (Runs.pickt rfl rfl) ?_
  refine G.r (Runs.assign rfl) ?_
  refine G.nt ?_
  refine W.ret ?_
  exact V.ret1 rfl rfl (I) Fit.m ⟨by rw [decide_eq_decide.2 (show (1 ≤ n ∧ n ≤ 1024) ↔ n ≤ 1024 from ⟨fun h => h.2, fun h => ⟨g5, h⟩⟩)], rfl⟩
 ·refine G.po ?_
  refine G.po ?_
  refine G.r (Runs.pickf rfl rfl) ?_
  refine G.r (Runs.assign rfl) ?_
  refine G.nt ?_
  refine W.ret ?_
  exact V.ret1 rfl rfl (I) Fit.m ⟨by rw [decide_eq_false (show ¬ (1 ≤ n ∧ n ≤ 1024) from fun h => g5 h.1)], rfl⟩

theorem RunsCheck_ok {κ : Ctx} {I : List Item} {n : Int} {v : Value} {l : List Pt} (hl : Sl κ I v l) (hv : RunOk n l) :
    CallS Try.prog κ 65 [.agg #[I64 (n), v]] I (fun r J => r = I64 0 ∧ I = J) := by
 refine CallS.pull hl.le fun hmax => ?_
 refine CallS.enter (L := [(0, .agg #[I64 (n), v])]) Try.func65 rfl rfl rfl rfl ?_
 refine W.sr ?_
 refine G.e (Eff.box (cs := [_, _]) rfl rfl rfl) ?_
 rintro _ _ ⟨b1, rfl, rfl⟩
 refine G.r (Runs.assign rfl) ?_
 refine G.nt ?_
 refine W.seq ?_
 refine W.sr ?_
 refine G.r (Runs.fieldAddr fld57_0 rfl) ?_
 refine G.r (Runs.ld ty3) ?_
 refine G.e (Eff.call call113 rfl rfl (BlockSz_ok n)) ?_
 rintro _ _ ⟨_, _, ⟨rfl, rfl⟩, rfl, rfl⟩
 refine G.r (Runs.notd rfl) ?_
 refine G.nt ?_
 refine W.ite rfl (fun c8 => ?_) (fun c8 => ?_)
 ·exact absurd hv.size c8
 ·refine W.skip ?_
  refine V.then ?_
  refine W.seq ?_
  refine W.sr ?_
  refine G.r (Runs.fieldAddr fld57_1 rfl) ?_
  refine G.r (Runs.ld ty55) ?_
  refine G.r (Runs.lenT (α := Pt) (xs := l) Try.underlying55 rfl (Sl.f hl)) ?_
  refine G.r (Runs.move rfl) ?_
  refine G.nt ?_
  refine W.block ?_
  refine W.loop (σ := Nat) (fun s => ([(1, .pointer (some ⟨b1, 0, none⟩)), (10, v), (11, I64 (((l.length : Nat) : Int))), (12, I64 (((s : Nat) : Int)))] : Env)) (fun s => blk b1 [I64 (n), v] 57 :: I) (fun s => (s ≤ l.length)) (fun s => l.length - s) (0) (show ((0 : Nat) ≤ l.length) from (by omega)) (Sub.cons rfl (Sub.cons rfl (Sub.cons rfl (Sub.cons lookO Sub.nil)))) (show Fit κ _ (blk b1 [I64 (n), v] 57 :: I) from Fit.sub) ?_
  rintro k hp
  have hk : (k ≤ l.length) := hp
  show W Try.prog κ 34 _ _ ([(1, .pointer (some ⟨b1, 0, none⟩)), (10, v), (11, I64 (((l.length : Nat) : Int))), (12, I64 (((k : Nat) : Int)))] : Env) (blk b1 [I64 (n), v] 57 :: I)
  refine W.sr ?_
  refine G.r (Runs.lss rfl rfl) ?_
  refine G.nt ?_
  refine W.seq ?_
  refine W.ite rfl (fun c13 => ?_) (fun c13 => ?_)
  ·refine W.skip ?_
   refine V.then ?_
   refine W.seq ?_
   refine W.block ?_
   refine W.sr ?_
   refine G.r (Runs.move rfl) ?_
   refine G.r (Runs.idx (α := Pt) (xs := l) Try.underlying55 ty60 rfl rfl (Sl.f hl) (by omega) (by omega)) ?_
   refine G.r (Runs.gets (α := Pt) (xs := l) ty60 rfl (Sl.f hl) (by omega) (by omega)) ?_
   refine G.e (Eff.alloc ty60 rfl) ?_
   rintro _ _ ⟨b2, rfl, rfl⟩
   refine G.r (Runs.assign rfl) ?_
   refine G.e (Eff.st (cs := [_, _]) (vs := [_, _]) (cs' := [_, _]) ty60) ?_
   rintro _ _ ⟨rfl, rfl⟩
   refine G.nt ?_
   refine W.seq ?_
   refine W.sr ?_
   refine G.r (Runs.lds (vs := [_, _]) ty60) ?_
   refine G.e (Eff.call call127 rfl rfl (Record_ok (at_ l ((k : Nat) : Int)))) ?_
   rintro _ _ ⟨_, _, ⟨rfl, rfl⟩, rfl, rfl⟩
   refine G.r (Runs.notd rfl) ?_
   refine G.nt ?_
   refine W.ite rfl (fun c19 => ?_) (fun c19 => ?_)
   ·exact absurd (hv.at (k := k) (by omega)) c19
   ·refine W.skip ?_
    refine V.then ?_
    refine W.seq ?_
    refine W.drawn mixed ?_
    refine A.hold (blk b2 [I64 ((at_ l ((k : Nat) : Int)).u), I64 ((at_ l ((k : Nat) : Int)).v)] 60 :: blk b1 [I64 (n), v] 57 :: I) 13 ?_
    refine D.r 0 rfl (Runs.move rfl) ?_
    refine D.r 1 rfl (Runs.gtr rfl rfl) ?_
    refine D.r 2 rfl (Runs.move rfl) ?_
    refine D.split (d := 22) rfl (fun g22 => ?_) (fun g22 => ?_)
    ·refine D.ro 3 rfl (Runs.fieldAddr fld57_1 rfl) ?_
     refine D.ro 4 rfl (Runs.ld ty55) ?_
     refine D.ro 5 rfl (Runs.move rfl) ?_
     refine D.ro 6 rfl (Runs.sub rfl rfl (by unfold InR; omega)) ?_
     refine D.ro 7 rfl (Runs.idx (α := Pt) (xs := l) Try.underlying55 ty60 rfl rfl (Sl.f hl) (by omega) (by omega)) ?_
     refine D.ro 8 rfl (Runs.gets (α := Pt) (xs := l) ty60 rfl (Sl.f hl) (by omega) (by omega)) ?_
     refine D.ro 9 rfl (Runs.lds (vs := [_, _]) ty60) ?_
     refine D.step (rs := [10]) (by kernel_rfl) rfl rfl (all1 ?_)
     refine Step.eff rfl (Wanted.on rfl rfl rfl) (Eff.call call111 rfl rfl (RCompare_ok (at_ l (((k : Nat) : Int) - 1)) (at_ l ((k : Nat) : Int)))) ?_
     rintro _ _ ⟨_, _, ⟨rfl, rfl⟩, rfl, rfl⟩
     refine ⟨Fit.m, ?_⟩
     refine D.ro 11 rfl (Runs.geq rfl rfl) ?_
     refine D.r 12 rfl (Runs.pickt rfl rfl) ?_
     refine D.done (by kernel_rfl) ?_
     refine V.then ?_
     refine W.sub (L' := [(32, _), (1, _), (10, _), (11, _), (12, _)]) (Sub.cons rfl (Sub.cons rfl (Sub.cons rfl (Sub.cons rfl (Sub.cons rfl Sub.nil))))) ?_
     refine W.ite rfl (fun c32 => ?_) (fun c32 => ?_)
     ·exact absurd (hv.prev (k := k) (by omega) (by omega)) (by omega)
     ·refine W.skip ?_
      refine V.block_normal ?_
      refine V.then ?_
      refine W.region ?_
      refine G.r (Runs.add rfl rfl (by unfold InR; omega)) ?_
      refine G.r (Runs.move rfl) ?_
      refine G.nil ?_
      exact V.next ((k + 1)) (show ((k + 1 : Nat) ≤ l.length) from (by omega)) (show l.length - (k + 1 : Nat) < l.length - k from (by omega)) (Sub.cons rfl (Sub.cons rfl (Sub.cons rfl (Sub.cons lookO Sub.nil)))) (show Fit κ _ (blk b1 [I64 (n), v] 57 :: I) from Fit.sub)
    ·refine D.po 3 rfl ?_
     refine D.po 4 rfl ?_
     refine D.po 5 rfl ?_
     refine D.po 6 rfl ?_
     refine D.po 7 rfl ?_
     refine D.po 8 rfl ?_
     refine D.po 9 rfl ?_
     refine D.po 10 rfl ?_
     refine D.po 11 rfl ?_
     refine D.r 12 rfl (Runs.pickf rfl rfl) ?_
     refine D.done (by kernel_rfl) ?_
     refine V.then ?_
     refine W.sub (L' := [(32, _), (1, _), (10, _), (11, _), (12, _)]) (Sub.cons rfl (Sub.cons rfl (Sub.cons rfl (Sub.cons rfl (Sub.cons rfl Sub.nil))))) ?_
     refine W.no rfl ?_
     refine W.skip ?_
     refine V.block_normal ?_
     refine V.then ?_
     refine W.region ?_
     refine G.r (Runs.add rfl rfl (by unfold InR; omega)) ?_
     refine G.r (Runs.move rfl) ?_
     refine G.nil ?_
     exact V.next ((k + 1)) (show ((k + 1 : Nat) ≤ l.length) from (by omega)) (show l.length - (k + 1 : Nat) < l.length - k from (by omega)) (Sub.cons rfl (Sub.cons rfl (Sub.cons rfl (Sub.cons lookO Sub.nil)))) (show Fit κ _ (blk b1 [I64 (n), v] 57 :: I) from Fit.sub)
  ·refine W.exit ?_
   refine V.then_exit ?_
   refine V.then_exit ?_
   refine V.block_hit ?_
   refine V.then ?_
   refine W.sr ?_
   refine G.r (Runs.assign rfl) ?_
   refine G.nt ?_
   refine W.ret ?_
   exact V.ret1 rfl rfl (I) Fit.m ⟨rfl, rfl⟩

theorem IndexP_ok {κ : Ctx} {I : List Item} {v : Value} {xs : List Pt} (hl : Sl κ I v xs) (x : Pt) :
    CallS Try.prog κ 174 [v, .agg #[I64 (x.u), I64 (x.v)]] I (fun r J => ∃ y : Int, r = I64 y ∧ (0 ≤ y ↔ x ∈ xs) ∧ I = J) := by
 refine CallS.pull hl.le fun hmax => ?_
 refine CallS.enter (L := [(0, v), (1, .agg #[I64 (x.u), I64 (x.v)])]) Try.func174 rfl rfl rfl rfl ?_
 refine W.sr ?_
 refine G.e (Eff.box (cs := [_, _]) rfl rfl rfl) ?_
 rintro _ _ ⟨b1, rfl, rfl⟩
 refine G.r (Runs.assign rfl) ?_
 refine G.nt ?_
 refine W.seq ?_
 refine W.sr ?_
 refine G.r (Runs.move rfl) ?_
 refine G.r (Runs.lenT (α := Pt) (xs := xs) Try.underlying55 rfl (Sl.f hl)) ?_
 refine G.r (Runs.move rfl) ?_
 refine G.nt ?_
 refine W.block ?_
 refine W.loop (σ := Nat) (fun s => ([(0, v), (3, .pointer (some ⟨b1, 0, none⟩)), (7, I64 (((xs.length : Nat) : Int))), (8, I64 (((s : Nat) : Int)))] : Env)) (fun s => blk b1 [I64 (x.u), I64 (x.v)] 60 :: I) (fun s => (s ≤ xs.length) ∧ (∀ j, j < s → at_ xs (j : Int) ≠ x)) (fun s => xs.length - s) (0) (show ((0 : Nat) ≤ xs.length) ∧ (∀ j, j < (0 : Nat) → at_ xs (j : Int) ≠ x) from ⟨(by omega), all_zero⟩) (Sub.cons rfl (Sub.cons rfl (Sub.cons rfl (Sub.cons lookO Sub.nil)))) (show Fit κ _ (blk b1 [I64 (x.u), I64 (x.v)] 60 :: I) from Fit.sub) ?_
 rintro k hp
 obtain ⟨hk, hn⟩ : (k ≤ xs.length) ∧ (∀ j, j < k → at_ xs (j : Int) ≠ x) := hp
 show W Try.prog κ 19 _ _ ([(0, v), (3, .pointer (some ⟨b1, 0, none⟩)), (7, I64 (((xs.length : Nat) : Int))), (8, I64 (((k : Nat) : Int)))] : Env) (blk b1 [I64 (x.u), I64 (x.v)] 60 :: I)
 refine W.sr ?_
 refine G.r (Runs.lss rfl rfl) ?_
 refine G.nt ?_
 refine W.seq ?_
 refine W.ite rfl (fun c9 => ?_) (fun c9 => ?_)
 ·refine W.skip ?_
  refine V.then ?_
  refine W.seq ?_
  refine W.block ?_
  refine W.sr ?_
  refine G.r (Runs.move rfl) ?_
  refine G.r (Runs.assign rfl) ?_
  refine G.nt ?_
  refine W.seq ?_
  refine W.drawn mixed ?_
  refine A.hold (blk b1 [I64 (x.u), I64 (x.v)] 60 :: I) 6 ?_
  refine D.r 0 rfl (Runs.lds (vs := [_, _]) ty60) ?_
  refine D.r 1 rfl (Runs.move rfl) ?_
  refine D.r 2 rfl (Runs.move rfl) ?_
  refine D.r 3 rfl (Runs.idx (α := Pt) (xs := xs) Try.underlying55 ty60 rfl rfl (Sl.f hl) (by omega) (by omega)) ?_
  refine D.r 4 rfl (Runs.gets (α := Pt) (xs := xs) ty60 rfl (Sl.f hl) (by omega) (by omega)) ?_
  refine D.r 5 rfl (Runs.eqlT (α := Pt) (a := x) (b := (at_ xs ((k : Nat) : Int))) eqt60 rfl rfl) ?_
  refine D.done (by kernel_rfl) ?_
  refine V.then ?_
  refine W.ite rfl (fun c16 => ?_) (fun c16 => ?_)
  ·refine W.sr ?_
   refine G.r (Runs.move rfl) ?_
   refine G.r (Runs.assign rfl) ?_
   refine G.nt ?_
   refine W.sub (L' := [(4, _)]) (Sub.cons rfl Sub.nil) ?_
   refine W.ret ?_
   refine V.block_ret ?_
   refine V.then_ret ?_
   refine V.then_ret ?_
   refine V.block_ret ?_
   refine V.then_ret ?_
   have hm : x ∈ xs := by rw [c16]; exact at_mem (by omega) (by omega)
   exact V.ret1 rfl rfl (I) Fit.m ⟨_, rfl, ⟨fun _ => hm, fun _ => by omega⟩, rfl⟩
  ·refine W.skip ?_
   refine V.block_normal ?_
   refine V.then ?_
   refine W.region ?_
   refine G.r (Runs.add rfl rfl (by unfold InR; omega)) ?_
   refine G.r (Runs.move rfl) ?_
   refine G.nil ?_
   exact V.next ((k + 1)) (show ((k + 1 : Nat) ≤ xs.length) ∧ (∀ j, j < (k + 1 : Nat) → at_ xs (j : Int) ≠ x) from ⟨(by omega), (all_succ hn (fun e => c16 e.symm))⟩) (show xs.length - (k + 1 : Nat) < xs.length - k from (by omega)) (Sub.cons rfl (Sub.cons rfl (Sub.cons rfl (Sub.cons lookO Sub.nil)))) (show Fit κ _ (blk b1 [I64 (x.u), I64 (x.v)] 60 :: I) from Fit.sub)
 ·refine W.exit ?_
  refine V.then_exit ?_
  refine V.then_exit ?_
  refine V.block_hit ?_
  refine V.then ?_
  refine W.sr ?_
  refine G.r (Runs.assign rfl) ?_
  refine G.nt ?_
  refine W.ret ?_
  have hm : x ∉ xs := not_mem_at hn (by omega)
  exact V.ret1 rfl rfl (I) Fit.m ⟨_, rfl, ⟨fun h => absurd h (by decide), fun h => absurd h hm⟩, rfl⟩

theorem ContainsP_ok {κ : Ctx} {I : List Item} {v : Value} {xs : List Pt} (hl : Sl κ I v xs) (x : Pt) :
    CallS Try.prog κ 112 [v, .agg #[I64 (x.u), I64 (x.v)]] I (fun r J => r = .bool (decide (x ∈ xs)) ∧ I = J) := by
 refine CallS.enter (L := [(0, v), (1, .agg #[I64 (x.u), I64 (x.v)])]) Try.func112 rfl rfl rfl rfl ?_
 refine W.sr ?_
 refine G.e (Eff.box (cs := [_, _]) rfl rfl rfl) ?_
 rintro _ _ ⟨b1, rfl, rfl⟩
 refine G.r (Runs.assign rfl) ?_
 refine G.nt ?_
 refine W.sr ?_
 refine G.r (Runs.move rfl) ?_
 refine G.r (Runs.lds (vs := [_, _]) ty60) ?_
 refine G.e (Eff.call call174 rfl rfl (IndexP_ok (Sl.f hl) x)) ?_
 rintro _ _ ⟨_, _, ⟨y2, rfl, hy2, rfl⟩, rfl, rfl⟩
 refine G.r (Runs.geq rfl rfl) ?_
 refine G.r (Runs.assign rfl) ?_
 refine G.nt ?_
 refine W.ret ?_
 exact V.ret1 rfl rfl (I) Fit.m ⟨by rw [decide_eq_decide.2 (by assumption)], rfl⟩

end Go.Sl
namespace Go.Sl
open Go.Proofs
set_option linter.unusedVariables false
set_option linter.unusedSimpArgs false
set_option maxRecDepth 4000
theorem Blk_ok {κ : Ctx} {I : List Item} {n : Int} {la : Option Addr} {lc : Nat} {l : List Pt} (hl : Sl κ I (.slice la l.length lc) l) (hn : 1 ≤ n ∧ n ≤ 1024) (hb : l.length ≤ 1000000000) :
    CallS Try.prog κ 110 [.agg #[I64 (n), .slice la l.length lc]] I (fun r J => ∃ a c rs, r = .slice a rs.length c ∧ (rs.map RowG.xs = blocks n.toNat l ∧ HeldAll κ I rs) ∧ J = vc 55 (.slice a rs.length c) rs :: I) := by
 refine CallS.enter (L := [(0, .agg #[I64 (n), .slice la l.length lc])]) Try.func110 rfl rfl rfl rfl ?_
 refine W.sr ?_
 refine G.e (Eff.box (cs := [_, _]) rfl rfl rfl) ?_
 rintro _ _ ⟨b1, rfl, rfl⟩
 refine G.r (Runs.assign rfl) ?_
 refine G.nt ?_
 refine W.sr ?_
 refine G.r (Runs.assign rfl) ?_
 refine G.nt ?_
 refine W.seq ?_
 refine W.sr ?_
 refine G.r (Runs.fieldAddr fld57_1 rfl) ?_
 refine G.r (Runs.ld ty55) ?_
 refine G.r (Runs.assign rfl) ?_
 refine G.nt ?_
 refine W.block ?_
 refine W.loop (σ := Nat × (Option Addr) × Nat × (List Pt) × (Option Addr) × Nat × (List (RowG Pt))) (fun s => ([(1, .pointer (some ⟨b1, 0, none⟩)), (3, .slice s.2.2.2.2.1 s.2.2.2.2.2.2.length s.2.2.2.2.2.1), (4, .slice s.2.1 s.2.2.2.1.length s.2.2.1)] : Env)) (fun s => vc 55 (.slice s.2.2.2.2.1 s.2.2.2.2.2.2.length s.2.2.2.2.2.1) (s.2.2.2.2.2.2) :: blk b1 [I64 (n), .slice la l.length lc] 57 :: I) (fun s => (s.2.2.2.1 = l.drop (s.1 * n.toNat)) ∧ (Sl κ I (.slice s.2.1 s.2.2.2.1.length s.2.2.1) s.2.2.2.1) ∧ (s.2.2.2.2.2.2.map RowG.xs = (List.range s.1).map (block n.toNat l)) ∧ (HeldAll κ I s.2.2.2.2.2.2) ∧ (s.1 ≤ nblocks n.toNat l)) (fun s => s.2.2.2.1.length) (0, la, lc, l, none, 0, []) (show ((l : List Pt) = l.drop ((0 : Nat) * n.toNat)) ∧ (Sl κ I (.slice (la : Option Addr) (l : List Pt).length (lc : Nat)) (l : List Pt)) ∧ (([] : List (RowG Pt)).map RowG.xs = (List.range (0 : Nat)).map (block n.toNat l)) ∧ (HeldAll κ I ([] : List (RowG Pt))) ∧ ((0 : Nat) ≤ nblocks n.toNat l) from ⟨(by simp), hl, rfl, HeldAll.nil, (Nat.zero_le _)⟩) (Sub.cons rfl (Sub.cons (lookV rfl (by first | rfl | simp)) (Sub.cons (lookV rfl (by first | rfl | simp)) Sub.nil))) (show Fit κ _ (vc 55 (.slice (none) ([]).length (0)) (([])) :: blk b1 [I64 (n), .slice la l.length lc] 57 :: I) from (Fit.nilvc _ _)) ?_
 rintro ⟨j, a4, c4, rest, a, c, rs⟩ hp
 obtain ⟨hrest, hs4, hrs, hh, hj⟩ : (rest = l.drop (j * n.toNat)) ∧ (Sl κ I (.slice a4 rest.length c4) rest) ∧ (rs.map RowG.xs = (List.range j).map (block n.toNat l)) ∧ (HeldAll κ I rs) ∧ (j ≤ nblocks n.toNat l) := hp
 show W Try.prog κ 27 _ _ ([(1, .pointer (some ⟨b1, 0, none⟩)), (3, .slice a rs.length c), (4, .slice a4 rest.length c4)] : Env) (vc 55 (.slice a rs.length c) (rs) :: blk b1 [I64 (n), .slice la l.length lc] 57 :: I)
 have hrl : rs.length = j := by have := rows_len hrs; simpa using this
 have hnb := nblocks_le (n := n.toNat) (by omega) l
 refine W.seq ?_
 refine W.sr ?_
 refine G.r (Runs.move rfl) ?_
 refine G.r (Runs.lens Try.underlying55 rfl) ?_
 refine G.r (Runs.gtr rfl rfl) ?_
 refine G.nt ?_
 refine W.ite rfl (fun c10 => ?_) (fun c10 => ?_)
 ·refine W.skip ?_
  refine V.then ?_
  refine W.block ?_
  refine W.sr ?_
  refine G.r (Runs.fieldAddr fld57_0 rfl) ?_
  refine G.r (Runs.ld ty3) ?_
  refine G.r (Runs.move rfl) ?_
  refine G.r (Runs.lens Try.underlying55 rfl) ?_
  refine G.r (Runs.min rfl rfl) ?_
  have hmn : 0 < (if ((rest.length : Nat) : Int) < n then ((rest.length : Nat) : Int) else n) ∧ (if ((rest.length : Nat) : Int) < n then ((rest.length : Nat) : Int) else n) ≤ ((rest.length : Nat) : Int) ∧ (if ((rest.length : Nat) : Int) < n then ((rest.length : Nat) : Int) else n) ≤ n := by split <;> omega
  have hhm : (if ((rest.length : Nat) : Int) < n then ((rest.length : Nat) : Int) else n).toNat = min n.toNat rest.length := by split <;> omega
  refine G.r (Runs.assign rfl) ?_
  refine G.nt ?_
  refine W.sr ?_
  refine G.r (Runs.move rfl) ?_
  refine G.r (Runs.move rfl) ?_
  refine G.r (Runs.move rfl) ?_
  refine G.r (Runs.move rfl) ?_
  refine G.r (Runs.hi3 (α := Pt) (xs := rest) (h := (if ((rest.length : Nat) : Int) < n then ((rest.length : Nat) : Int) else n).toNat) Try.underlying55 ty60 rfl rfl rfl (by omega) (Sl.f hs4) (by omega) (by omega)) ?_
  refine G.e (Eff.bs (α := (RowG Pt)) (cs := [_]) (xs := [⟨a4, ((if ((rest.length : Nat) : Int) < n then ((rest.length : Nat) : Int) else n).toNat), List.take ((if ((rest.length : Nat) : Int) < n then ((rest.length : Nat) : Int) else n).toNat) rest⟩]) Try.underlying151 ty55 rfl rfl (by decide) (by decide) rfl rfl rfl rfl) ?_
  rintro _ _ ⟨ad2, rfl, rfl⟩
  refine G.e (Eff.app (α := (RowG Pt)) (e := 55) (xs := rs) (ys := ([⟨a4, ((if ((rest.length : Nat) : Int) < n then ((rest.length : Nat) : Int) else n).toNat), List.take ((if ((rest.length : Nat) : Int) < n then ((rest.length : Nat) : Int) else n).toNat) rest⟩] : List (RowG Pt))) Try.underlying151 ty55 rfl rfl rfl (by repeat (first | exact List.mem_cons_self | apply List.mem_cons_of_mem)) Sl.o (by simp only [List.length_cons, List.length_nil]; omega) (by decide) rfl (fun _ _ => (by repeat (first | exact At.head _ _ _ | apply At.tail)))) ?_
  rintro _ _ ⟨ad3, cp4, rfl, rfl⟩
  refine G.r (Runs.assign rfl) ?_
  refine G.nt ?_
  refine W.sub (L' := [(3, _), (5, _), (1, _), (4, _)]) (Sub.cons rfl (Sub.cons rfl (Sub.cons rfl (Sub.cons rfl Sub.nil)))) ?_
  refine W.region ?_
  refine G.r (Runs.move rfl) ?_
  refine G.r (Runs.move rfl) ?_
  refine G.r (Runs.lo (α := Pt) (xs := rest) (l := (if ((rest.length : Nat) : Int) < n then ((rest.length : Nat) : Int) else n).toNat) Try.underlying55 ty60 rfl rfl (by omega) (Sl.f hs4) (by omega)) ?_
  refine G.r (Runs.assign rfl) ?_
  refine G.nil ?_
  refine V.block_normal ?_
  exact V.next ((j + 1), ((adrop a4 c4 ((if ((rest.length : Nat) : Int) < n then ((rest.length : Nat) : Int) else n).toNat) (Enc.sz Pt))), ((c4 - ((if ((rest.length : Nat) : Int) < n then ((rest.length : Nat) : Int) else n).toNat))), ((List.drop ((if ((rest.length : Nat) : Int) < n then ((rest.length : Nat) : Int) else n).toNat) rest)), (ad3), (cp4), (rs ++ ([⟨a4, ((if ((rest.length : Nat) : Int) < n then ((rest.length : Nat) : Int) else n).toNat), List.take ((if ((rest.length : Nat) : Int) < n then ((rest.length : Nat) : Int) else n).toNat) rest⟩] : List (RowG Pt)))) (show (((List.drop ((if ((rest.length : Nat) : Int) < n then ((rest.length : Nat) : Int) else n).toNat) rest) : List Pt) = l.drop ((j + 1 : Nat) * n.toNat)) ∧ (Sl κ I (.slice ((adrop a4 c4 ((if ((rest.length : Nat) : Int) < n then ((rest.length : Nat) : Int) else n).toNat) (Enc.sz Pt)) : Option Addr) ((List.drop ((if ((rest.length : Nat) : Int) < n then ((rest.length : Nat) : Int) else n).toNat) rest) : List Pt).length ((c4 - ((if ((rest.length : Nat) : Int) < n then ((rest.length : Nat) : Int) else n).toNat)) : Nat)) ((List.drop ((if ((rest.length : Nat) : Int) < n then ((rest.length : Nat) : Int) else n).toNat) rest) : List Pt)) ∧ ((rs ++ ([⟨a4, ((if ((rest.length : Nat) : Int) < n then ((rest.length : Nat) : Int) else n).toNat), List.take ((if ((rest.length : Nat) : Int) < n then ((rest.length : Nat) : Int) else n).toNat) rest⟩] : List (RowG Pt)) : List (RowG Pt)).map RowG.xs = (List.range (j + 1 : Nat)).map (block n.toNat l)) ∧ (HeldAll κ I (rs ++ ([⟨a4, ((if ((rest.length : Nat) : Int) < n then ((rest.length : Nat) : Int) else n).toNat), List.take ((if ((rest.length : Nat) : Int) < n then ((rest.length : Nat) : Int) else n).toNat) rest⟩] : List (RowG Pt)) : List (RowG Pt))) ∧ ((j + 1 : Nat) ≤ nblocks n.toNat l) from ⟨(rest_drop hrest hhm), (Sl.drop hs4 (by omega)), (map_push hrs (rest_take hrest hhm)), (hh.push (Sl.take3 hs4 (by omega))), (rest_lt (by omega) hrest (by omega))⟩) (show ((List.drop ((if ((rest.length : Nat) : Int) < n then ((rest.length : Nat) : Int) else n).toNat) rest) : List Pt).length < rest.length from (by simp only [List.length_drop]; omega)) (Sub.cons rfl (Sub.cons (lookV rfl (by first | rfl | simp)) (Sub.cons (lookV rfl (by first | rfl | simp)) Sub.nil))) (show Fit κ _ (vc 55 (.slice (ad3) (rs ++ ([⟨a4, ((if ((rest.length : Nat) : Int) < n then ((rest.length : Nat) : Int) else n).toNat), List.take ((if ((rest.length : Nat) : Int) < n then ((rest.length : Nat) : Int) else n).toNat) rest⟩] : List (RowG Pt))).length (cp4)) ((rs ++ ([⟨a4, ((if ((rest.length : Nat) : Int) < n then ((rest.length : Nat) : Int) else n).toNat), List.take ((if ((rest.length : Nat) : Int) < n then ((rest.length : Nat) : Int) else n).toNat) rest⟩] : List (RowG Pt)))) :: blk b1 [I64 (n), .slice la l.length lc] 57 :: I) from Fit.sub)
 ·refine W.exit ?_
  refine V.then_exit ?_
  refine V.then_exit ?_
  refine V.block_hit ?_
  refine V.then ?_
  refine W.sr ?_
  refine G.r (Runs.move rfl) ?_
  refine G.r (Runs.assign rfl) ?_
  refine G.nt ?_
  refine W.ret ?_
  exact V.ret1 rfl rfl (vc 55 (.slice a rs.length c) (rs) :: I) Fit.sub ⟨a, c, rs, rfl, ⟨hrs.trans (rest_done (by omega) hrest (by omega) hj), hh⟩, rfl⟩

theorem Blocks_ok {κ : Ctx} {I : List Item} {n : Int} {la : Option Addr} {lc : Nat} {l : List Pt} (hl : Sl κ I (.slice la l.length lc) l) (hv : RunOk n l) (hb : l.length ≤ 1000000000) :
    CallS Try.prog κ 45 [.agg #[I64 (n), .slice la l.length lc]] I (fun r J => r = I64 (nblocks n.toNat l) ∧ I = J) := by
 refine CallS.enter (L := [(0, .agg #[I64 (n), .slice la l.length lc])]) Try.func45 rfl rfl rfl rfl ?_
 refine W.sr ?_
 refine G.e (Eff.box (cs := [_, _]) rfl rfl rfl) ?_
 rintro _ _ ⟨b1, rfl, rfl⟩
 refine G.r (Runs.assign rfl) ?_
 refine G.nt ?_
 refine W.seq ?_
 refine W.sr ?_
 refine G.r (Runs.lds (vs := [_, _]) ty57) ?_
 refine G.e (Eff.call call65 rfl rfl (RunsCheck_ok (Sl.f hl) hv)) ?_
 rintro _ _ ⟨_, _, ⟨rfl, rfl⟩, rfl, rfl⟩
 refine G.r (Runs.neq rfl rfl) ?_
 refine G.nt ?_
 refine W.ite rfl (fun c5 => ?_) (fun c5 => ?_)
 ·exact absurd rfl c5
 ·refine W.skip ?_
  refine V.then ?_
  refine W.sr ?_
  refine G.r (Runs.lds (vs := [_, _]) ty57) ?_
  refine G.e (Eff.call call110 rfl rfl (Blk_ok (Sl.f hl) hv.size hb)) ?_
  rintro _ _ ⟨_, _, ⟨ad2, cp3, rs4, rfl, ⟨hmrs4, hhrs4⟩, rfl⟩, rfl, rfl⟩
  have hlenrs4 : rs4.length = nblocks (n).toNat l := by rw [rows_len hmrs4, blocks_len]
  refine G.r (Runs.lens Try.underlying151 rfl) ?_
  refine G.r (Runs.assign rfl) ?_
  refine G.nt ?_
  refine W.ret ?_
  exact V.ret1 rfl rfl (I) Fit.m ⟨by rw [hlenrs4], rfl⟩

theorem Find_ok {κ : Ctx} {I : List Item} {n : Int} {la : Option Addr} {lc : Nat} {l : List Pt} (hl : Sl κ I (.slice la l.length lc) l) (hv : RunOk n l) (hb : l.length ≤ 1000000000) (x : Pt) :
    CallS Try.prog κ 46 [.agg #[I64 (n), .slice la l.length lc], I64 (x.u), I64 (x.v)] I (fun r J => r = .tuple #[.bool (findB n.toNat l x).1, I64 (findB n.toNat l x).2, I64 0] ∧ I = J) := by
 have hnb := nblocks_le (n := n.toNat) (by have := hv.size; omega) l
 have hsz := hv.size
 refine CallS.enter (L := [(0, .agg #[I64 (n), .slice la l.length lc]), (1, I64 (x.u)), (2, I64 (x.v))]) Try.func46 rfl rfl rfl rfl ?_
 refine W.sr ?_
 refine G.e (Eff.box (cs := [_, _]) rfl rfl rfl) ?_
 rintro _ _ ⟨b1, rfl, rfl⟩
 refine G.r (Runs.assign rfl) ?_
 refine G.r (Runs.assign rfl) ?_
 refine G.r (Runs.assign rfl) ?_
 refine G.nt ?_
 refine W.seq ?_
 refine W.sr ?_
 refine G.r (Runs.lds (vs := [_, _]) ty57) ?_
 refine G.e (Eff.call call65 rfl rfl (RunsCheck_ok (Sl.f hl) hv)) ?_
 rintro _ _ ⟨_, _, ⟨rfl, rfl⟩, rfl, rfl⟩
 refine G.r (Runs.assign rfl) ?_
 refine G.nt ?_
 refine W.sr ?_
 refine G.r (Runs.move rfl) ?_
 refine G.r (Runs.neq rfl rfl) ?_
 refine G.nt ?_
 refine W.ite rfl (fun c20 => ?_) (fun c20 => ?_)
 ·exact absurd rfl c20
 ·refine W.skip ?_
  refine V.then ?_
  refine W.sr ?_
  refine G.r (Runs.lds (vs := [_, _]) ty57) ?_
  refine G.e (Eff.call call110 rfl rfl (Blk_ok (Sl.f hl) hv.size hb)) ?_
  rintro _ _ ⟨_, _, ⟨ad2, cp3, rs4, rfl, ⟨hmrs4, hhrs4⟩, rfl⟩, rfl, rfl⟩
  have hlenrs4 : rs4.length = nblocks (n).toNat l := by rw [rows_len hmrs4, blocks_len]
  refine G.r (Runs.move rfl) ?_
  refine G.r (Runs.move rfl) ?_
  refine G.r (Runs.buildArr (cells := [_, _]) ty60 Try.underlying60 ty3 rfl rfl) ?_
  refine G.e (Eff.alloc ty60 rfl) ?_
  rintro _ _ ⟨b5, rfl, rfl⟩
  refine G.r (Runs.assign rfl) ?_
  refine G.e (Eff.st (cs := [_, _]) (vs := [_, _]) (cs' := [_, _]) ty60) ?_
  rintro _ _ ⟨rfl, rfl⟩
  refine G.nt ?_
  refine W.sub (L' := [(10, _), (11, _)]) (Sub.cons rfl (Sub.cons rfl Sub.nil)) ?_
  refine W.sr ?_
  refine G.r (Runs.assign rfl) ?_
  refine G.nt ?_
  refine W.seq ?_
  refine W.sr ?_
  refine G.r (Runs.move rfl) ?_
  refine G.r (Runs.lens Try.underlying151 rfl) ?_
  refine G.r (Runs.sub rfl rfl (by unfold InR; omega)) ?_
  refine G.r (Runs.assign rfl) ?_
  refine G.r (Runs.assign rfl) ?_
  refine G.nt ?_
  refine W.block ?_
  refine W.loop (σ := Nat × Int × Int × Int) (fun s => ([(10, .slice ad2 rs4.length cp3), (11, .pointer (some ⟨b5, 0, none⟩)), (12, I64 (s.2.2.2)), (13, I64 (s.2.1)), (14, I64 (s.2.2.1))] : Env)) (fun s => blk b5 [I64 (x.u), I64 (x.v)] 60 :: vc 55 (.slice ad2 rs4.length cp3) (rs4) :: blk b1 [I64 (n), .slice la l.length lc] 57 :: I) (fun s => (findB n.toNat l x = searchB (blocks n.toNat l) x s.1 s.2.1 s.2.2.1 s.2.2.2) ∧ (0 ≤ s.2.1) ∧ (s.2.2.1 < (nblocks n.toNat l : Nat)) ∧ (s.2.1 ≤ s.2.2.1 + 1) ∧ (s.2.2.1 - s.2.1 + 1 < s.1) ∧ (0 ≤ s.2.2.2 ∧ s.2.2.2 + s.1 ≤ nblocks n.toNat l + 1)) (fun s => s.1) (nblocks n.toNat l + 1, 0, ((nblocks n.toNat l : Nat) : Int) - 1, 0) (show (findB n.toNat l x = searchB (blocks n.toNat l) x (nblocks n.toNat l + 1 : Nat) (0 : Int) (((nblocks n.toNat l : Nat) : Int) - 1 : Int) (0 : Int)) ∧ (0 ≤ (0 : Int)) ∧ ((((nblocks n.toNat l : Nat) : Int) - 1 : Int) < (nblocks n.toNat l : Nat)) ∧ ((0 : Int) ≤ (((nblocks n.toNat l : Nat) : Int) - 1 : Int) + 1) ∧ ((((nblocks n.toNat l : Nat) : Int) - 1 : Int) - (0 : Int) + 1 < (nblocks n.toNat l + 1 : Nat)) ∧ (0 ≤ (0 : Int) ∧ (0 : Int) + (nblocks n.toNat l + 1 : Nat) ≤ nblocks n.toNat l + 1) from ⟨rfl, (by omega), (by omega), (by omega), (by omega), (by omega)⟩) (Sub.cons rfl (Sub.cons rfl (Sub.cons lookO (Sub.cons lookO (Sub.cons lookO Sub.nil))))) (show Fit κ _ (blk b5 [I64 (x.u), I64 (x.v)] 60 :: vc 55 (.slice ad2 rs4.length cp3) (rs4) :: blk b1 [I64 (n), .slice la l.length lc] 57 :: I) from Fit.sub) ?_
  rintro ⟨fu, fi, la_, rd⟩ hp
  obtain ⟨hf, h0, h1, h2, h3, h4⟩ : (findB n.toNat l x = searchB (blocks n.toNat l) x fu fi la_ rd) ∧ (0 ≤ fi) ∧ (la_ < (nblocks n.toNat l : Nat)) ∧ (fi ≤ la_ + 1) ∧ (la_ - fi + 1 < fu) ∧ (0 ≤ rd ∧ rd + fu ≤ nblocks n.toNat l + 1) := hp
  show W Try.prog κ 69 _ _ ([(10, .slice ad2 rs4.length cp3), (11, .pointer (some ⟨b5, 0, none⟩)), (12, I64 (rd)), (13, I64 (fi)), (14, I64 (la_))] : Env) (blk b5 [I64 (x.u), I64 (x.v)] 60 :: vc 55 (.slice ad2 rs4.length cp3) (rs4) :: blk b1 [I64 (n), .slice la l.length lc] 57 :: I)
  have hrl : rs4.length = nblocks n.toNat l := hlenrs4
  obtain ⟨f1, hf1⟩ : ∃ f1, fu = f1 + 1 := ⟨fu - 1, by omega⟩
  rw [hf1] at hf
  have hmx : fi ≤ la_ → (at_ rs4 ((fi + la_) / 2)).xs = at_ (blocks n.toNat l) ((fi + la_) / 2) := fun h => rows_at hmrs4 (by omega) (by omega)
  have hpos : fi ≤ la_ → 0 < (at_ (blocks n.toNat l) ((fi + la_) / 2)).length := fun h => block_pos (by omega) (by omega) (by omega)
  refine W.seq ?_
  refine W.sr ?_
  refine G.r (Runs.move rfl) ?_
  refine G.r (Runs.move rfl) ?_
  refine G.r (Runs.leq rfl rfl) ?_
  refine G.nt ?_
  refine W.ite rfl (fun c32 => ?_) (fun c32 => ?_)
  ·refine W.skip ?_
   refine V.then ?_
   refine W.block ?_
   refine W.sr ?_
   refine G.r (Runs.move rfl) ?_
   refine G.r (Runs.move rfl) ?_
   refine G.r (Runs.add rfl rfl (by unfold InR; omega)) ?_
   refine G.r (Runs.quo rfl rfl (by omega) (by omega) (by unfold InR; omega)) ?_
   refine G.r (Runs.assign rfl) ?_
   have hmx1 := hmx (by omega)
   have hpos1 := hpos (by omega)
   have hble := block_le (n := n.toNat) (l := l) (by omega) (i := (fi + la_) / 2) (by omega) (by omega)
   rw [← hmx1] at hble
   rw [← hmx1] at hpos1
   refine G.nt ?_
   refine W.sr ?_
   refine G.r (Runs.move rfl) ?_
   refine G.r (Runs.move rfl) ?_
   refine G.r (Runs.idx (α := (RowG Pt)) (xs := rs4) Try.underlying151 ty55 rfl rfl Sl.o (by omega) (by omega)) ?_
   refine G.r (Runs.getf0 (α := (RowG Pt)) (xs := rs4) (u := .slice (at_ rs4 ((fi + la_) / 2)).a (at_ rs4 ((fi + la_) / 2)).xs.length (at_ rs4 ((fi + la_) / 2)).c) ty55 rfl Sl.o (by omega) (by omega) rfl) ?_
   refine G.r (Runs.assign rfl) ?_
   refine G.nt ?_
   refine W.sub (L' := [(16, _), (15, _), (10, _), (11, _), (12, _), (13, _), (14, _)]) (Sub.cons rfl (Sub.cons rfl (Sub.cons rfl (Sub.cons rfl (Sub.cons rfl (Sub.cons rfl (Sub.cons rfl Sub.nil))))))) ?_
   refine W.sr ?_
   refine G.r (Runs.move rfl) ?_
   refine G.r (Runs.add rfl rfl (by unfold InR; omega)) ?_
   refine G.r (Runs.assign rfl) ?_
   refine G.nt ?_
   refine W.block ?_
   refine W.seq ?_
   refine W.drawn mixed ?_
   refine A.hold (blk b5 [I64 (x.u), I64 (x.v)] 60 :: vc 55 (.slice ad2 rs4.length cp3) (rs4) :: blk b1 [I64 (n), .slice la l.length lc] 57 :: I) 7 ?_
   refine D.r 0 rfl (Runs.lds (vs := [_, _]) ty60) ?_
   refine D.r 1 rfl (Runs.move rfl) ?_
   refine D.r 2 rfl (Runs.idx (α := Pt) (xs := (at_ rs4 ((fi + la_) / 2)).xs) Try.underlying55 ty60 rfl rfl (Sl.fit (HeldAll.at hhrs4 (i := ((fi + la_) / 2)) (by omega) (by omega)) Fit.m) (by omega) (by omega)) ?_
   refine D.r 3 rfl (Runs.gets (α := Pt) (xs := (at_ rs4 ((fi + la_) / 2)).xs) ty60 rfl (Sl.fit (HeldAll.at hhrs4 (i := ((fi + la_) / 2)) (by omega) (by omega)) Fit.m) (by omega) (by omega)) ?_
   refine D.step (rs := [4]) (by kernel_rfl) rfl rfl (all1 ?_)
   refine Step.eff rfl (Wanted.plain rfl) (Eff.call call111 rfl rfl (RCompare_ok x (at_ ((at_ rs4 ((fi + la_) / 2)).xs) 0))) ?_
   rintro _ _ ⟨_, _, ⟨rfl, rfl⟩, rfl, rfl⟩
   refine ⟨Fit.m, ?_⟩
   refine D.r 5 rfl (Runs.lss rfl rfl) ?_
   refine D.r 6 rfl (Runs.assign rfl) ?_
   refine D.done (by kernel_rfl) ?_
   refine V.then ?_
   refine W.sub (L' := [(47, _), (12, _), (16, _), (15, _), (10, _), (11, _), (13, _), (14, _)]) (Sub.cons rfl (Sub.cons rfl (Sub.cons rfl (Sub.cons rfl (Sub.cons rfl (Sub.cons rfl (Sub.cons rfl (Sub.cons rfl Sub.nil)))))))) ?_
   refine W.ite rfl (fun c47 => ?_) (fun c47 => ?_)
   ·refine W.region ?_
    refine G.r (Runs.move rfl) ?_
    refine G.r (Runs.sub rfl rfl (by unfold InR; omega)) ?_
    refine G.r (Runs.assign rfl) ?_
    refine G.nil ?_
    refine V.block_normal ?_
    refine V.block_normal ?_
    exact V.next ((f1), (fi), (((fi + la_) / 2) - 1), (rd + 1)) (show (findB n.toNat l x = searchB (blocks n.toNat l) x (f1 : Nat) (fi : Int) (((fi + la_) / 2) - 1 : Int) (rd + 1 : Int)) ∧ (0 ≤ (fi : Int)) ∧ ((((fi + la_) / 2) - 1 : Int) < (nblocks n.toNat l : Nat)) ∧ ((fi : Int) ≤ (((fi + la_) / 2) - 1 : Int) + 1) ∧ ((((fi + la_) / 2) - 1 : Int) - (fi : Int) + 1 < (f1 : Nat)) ∧ (0 ≤ (rd + 1 : Int) ∧ (rd + 1 : Int) + (f1 : Nat) ≤ nblocks n.toNat l + 1) from ⟨(by first | exact hf.trans (search_lo (by omega) rfl (by rw [← hmx1]; exact c47)) | exact hf.trans (search_hi (by omega) rfl (by rw [← hmx1]; exact c47) (by rw [← hmx1]; exact c56))), (by omega), (by omega), (by omega), (by omega), (by omega)⟩) (show (f1 : Nat) < fu from (by omega)) (Sub.cons rfl (Sub.cons rfl (Sub.cons lookO (Sub.cons lookO (Sub.cons lookO Sub.nil))))) (show Fit κ _ (blk b5 [I64 (x.u), I64 (x.v)] 60 :: vc 55 (.slice ad2 rs4.length cp3) (rs4) :: blk b1 [I64 (n), .slice la l.length lc] 57 :: I) from Fit.sub)
   ·refine W.seq ?_
    refine W.drawn mixed ?_
    refine A.hold (blk b5 [I64 (x.u), I64 (x.v)] 60 :: vc 55 (.slice ad2 rs4.length cp3) (rs4) :: blk b1 [I64 (n), .slice la l.length lc] 57 :: I) 10 ?_
    refine D.r 0 rfl (Runs.lds (vs := [_, _]) ty60) ?_
    refine D.r 1 rfl (Runs.move rfl) ?_
    refine D.r 2 rfl (Runs.move rfl) ?_
    refine D.r 3 rfl (Runs.lens Try.underlying55 rfl) ?_
    refine D.r 4 rfl (Runs.sub rfl rfl (by unfold InR; omega)) ?_
    refine D.r 5 rfl (Runs.idx (α := Pt) (xs := (at_ rs4 ((fi + la_) / 2)).xs) Try.underlying55 ty60 rfl rfl (Sl.fit (HeldAll.at hhrs4 (i := ((fi + la_) / 2)) (by omega) (by omega)) Fit.m) (by omega) (by omega)) ?_
    refine D.r 6 rfl (Runs.gets (α := Pt) (xs := (at_ rs4 ((fi + la_) / 2)).xs) ty60 rfl (Sl.fit (HeldAll.at hhrs4 (i := ((fi + la_) / 2)) (by omega) (by omega)) Fit.m) (by omega) (by omega)) ?_
    refine D.step (rs := [7]) (by kernel_rfl) rfl rfl (all1 ?_)
    refine Step.eff rfl (Wanted.plain rfl) (Eff.call call111 rfl rfl (RCompare_ok x (at_ ((at_ rs4 ((fi + la_) / 2)).xs) ((((at_ rs4 ((fi + la_) / 2)).xs.length : Nat) : Int) - 1)))) ?_
    rintro _ _ ⟨_, _, ⟨rfl, rfl⟩, rfl, rfl⟩
    refine ⟨Fit.m, ?_⟩
    refine D.r 8 rfl (Runs.gtr rfl rfl) ?_
    refine D.r 9 rfl (Runs.assign rfl) ?_
    refine D.done (by kernel_rfl) ?_
    refine V.then ?_
    refine W.sub (L' := [(56, _), (12, _), (16, _), (15, _), (10, _), (11, _), (14, _)]) (Sub.cons rfl (Sub.cons rfl (Sub.cons rfl (Sub.cons rfl (Sub.cons rfl (Sub.cons rfl (Sub.cons rfl Sub.nil))))))) ?_
    refine W.ite rfl (fun c56 => ?_) (fun c56 => ?_)
    ·refine W.region ?_
     refine G.r (Runs.move rfl) ?_
     refine G.r (Runs.add rfl rfl (by unfold InR; omega)) ?_
     refine G.r (Runs.assign rfl) ?_
     refine G.nil ?_
     refine V.block_normal ?_
     refine V.block_normal ?_
     exact V.next ((f1), (((fi + la_) / 2) + 1), (la_), (rd + 1)) (show (findB n.toNat l x = searchB (blocks n.toNat l) x (f1 : Nat) (((fi + la_) / 2) + 1 : Int) (la_ : Int) (rd + 1 : Int)) ∧ (0 ≤ (((fi + la_) / 2) + 1 : Int)) ∧ ((la_ : Int) < (nblocks n.toNat l : Nat)) ∧ ((((fi + la_) / 2) + 1 : Int) ≤ (la_ : Int) + 1) ∧ ((la_ : Int) - (((fi + la_) / 2) + 1 : Int) + 1 < (f1 : Nat)) ∧ (0 ≤ (rd + 1 : Int) ∧ (rd + 1 : Int) + (f1 : Nat) ≤ nblocks n.toNat l + 1) from ⟨(by first | exact hf.trans (search_lo (by omega) rfl (by rw [← hmx1]; exact c47)) | exact hf.trans (search_hi (by omega) rfl (by rw [← hmx1]; exact c47) (by rw [← hmx1]; exact c56))), (by omega), (by omega), (by omega), (by omega), (by omega)⟩) (show (f1 : Nat) < fu from (by omega)) (Sub.cons rfl (Sub.cons rfl (Sub.cons lookO (Sub.cons lookO (Sub.cons lookO Sub.nil))))) (show Fit κ _ (blk b5 [I64 (x.u), I64 (x.v)] 60 :: vc 55 (.slice ad2 rs4.length cp3) (rs4) :: blk b1 [I64 (n), .slice la l.length lc] 57 :: I) from Fit.sub)
    ·refine W.sr ?_
     refine G.r (Runs.move rfl) ?_
     refine G.r (Runs.lds (vs := [_, _]) ty60) ?_
     refine G.e (Eff.call call112 rfl rfl (ContainsP_ok (Sl.fit (HeldAll.at hhrs4 (i := ((fi + la_) / 2)) (by omega) (by omega)) Fit.m) x)) ?_
     rintro _ _ ⟨_, _, ⟨rfl, rfl⟩, rfl, rfl⟩
     refine G.r (Runs.move rfl) ?_
     refine G.r (Runs.assign rfl) ?_
     refine G.r (Runs.assign rfl) ?_
     refine G.r (Runs.assign rfl) ?_
     refine G.nt ?_
     refine W.sub (L' := [(8, _), (7, _), (6, _)]) (Sub.cons rfl (Sub.cons rfl (Sub.cons rfl Sub.nil))) ?_
     refine W.ret ?_
     refine V.block_ret ?_
     refine V.block_ret ?_
     refine V.then_ret ?_
     refine V.block_ret ?_
     refine V.then_ret ?_
     have hfin := hf.trans (search_in (by omega) rfl (by rw [← hmx1]; exact c47) (by rw [← hmx1]; exact c56))
     exact V.ret3 rfl rfl rfl rfl (I) Fit.m ⟨by rw [hfin, hmx1], rfl⟩
  ·refine W.exit ?_
   refine V.then_exit ?_
   refine V.then_exit ?_
   refine V.block_hit ?_
   refine V.then ?_
   refine W.sr ?_
   refine G.r (Runs.move rfl) ?_
   refine G.r (Runs.assign rfl) ?_
   refine G.r (Runs.assign rfl) ?_
   refine G.r (Runs.assign rfl) ?_
   refine G.nt ?_
   refine W.ret ?_
   have hfin := hf.trans (search_no (by omega))
   exact V.ret3 rfl rfl rfl rfl (I) Fit.m ⟨by rw [hfin], rfl⟩

end Go.Sl
namespace Go.Sl
open Go.Proofs
set_option linter.unusedVariables false
set_option linter.unusedSimpArgs false
set_option maxRecDepth 4000
end Go.Sl
namespace Go.Sl
open Go.Proofs
set_option linter.unusedVariables false
set_option linter.unusedSimpArgs false
set_option maxRecDepth 4000
end Go.Sl
namespace Go.Sl
open Go.Proofs
set_option linter.unusedVariables false
set_option linter.unusedSimpArgs false
set_option maxRecDepth 4000
end Go.Sl
namespace Go.Sl
open Go.Proofs
set_option linter.unusedVariables false
set_option linter.unusedSimpArgs false
set_option maxRecDepth 4000
end Go.Sl
