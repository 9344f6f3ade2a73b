/- A part of the proofs of statements of this seat: contracts of functions, and the plain laws that they lean on. No conditions. -/
import Derived.Test.YtbimaodbcjjbfaaTy
import Derived.Test.YtbimaodbcjjbfaaRunsX
import Derived.Test.YtbimaodbcjjbfaaSets
namespace Go.Sl
open Go.Proofs
set_option linter.unusedVariables false
set_option linter.unusedSimpArgs false
set_option maxRecDepth 4000
theorem eqt60 : EqT Try.prog 60 Pt := ⟨fun x y w => by
  have hi : ∃ i, Try.prog.info? 3 = some i := ⟨_, rfl⟩
  obtain ⟨i, hi⟩ := hi
  have h2 : Try.prog.cellsOf 3 = 1 := by kernel_rfl
  rw [show (10000 : Nat) = 9999 + 1 from rfl, run_equalIn_array w 9999 _ _ Try.underlying60 hi, h2]
  have hu := Try.underlying3
  have hz : ∀ w, (isAgg 3).run Try.prog w = .ok false w := fun w => by simp [isAgg, run_underlying hu]
  simp [Op.eqItems, List.range, List.range.loop, part, hz, Enc.enc, run_equalIn_int _ _ _ _ _ _ _ hu, Pt.ext_iff']
  by_cases h1 : x.u = y.u <;> by_cases h2 : x.v = y.v <;> simp [h1, h2], by kernel_rfl⟩

end Go.Sl
namespace Go.Sl
open Go.Proofs
set_option linter.unusedVariables false
set_option linter.unusedSimpArgs false
set_option maxRecDepth 4000
theorem IsNaN_ok {κ : Ctx} {I : List Item} (n : Int) :
    CallS Try.prog κ 217 [I64 (n)] I (fun r J => r = .bool false ∧ I = J) := by
 refine CallS.enter (L := [(0, I64 (n))]) Try.func217 rfl rfl rfl rfl ?_
 refine W.sr ?_
 refine G.r (Runs.assign rfl) ?_
 refine G.nt ?_
 refine W.sr ?_
 refine G.r (Runs.move rfl) ?_
 refine G.r (Runs.move rfl) ?_
 refine G.r (Runs.neq rfl rfl) ?_
 refine G.r (Runs.assign rfl) ?_
 refine G.nt ?_
 refine W.ret ?_
 exact V.ret1 rfl rfl (I) Fit.m ⟨by simp, rfl⟩

theorem Compare_ok {κ : Ctx} {I : List Item} (m n : Int) :
    CallS Try.prog κ 173 [I64 (m), I64 (n)] I (fun r J => r = I64 (cmpI m n) ∧ I = J) := by
 refine CallS.enter (L := [(0, I64 (m)), (1, I64 (n))]) Try.func173 rfl rfl rfl rfl ?_
 refine W.sr ?_
 refine G.r (Runs.assign rfl) ?_
 refine G.nt ?_
 refine W.sr ?_
 refine G.r (Runs.move rfl) ?_
 refine G.e (Eff.call call217 rfl rfl (IsNaN_ok m)) ?_
 rintro _ _ ⟨_, _, ⟨rfl, rfl⟩, rfl, rfl⟩
 refine G.r (Runs.assign rfl) ?_
 refine G.nt ?_
 refine W.sr ?_
 refine G.r (Runs.move rfl) ?_
 refine G.e (Eff.call call217 rfl rfl (IsNaN_ok n)) ?_
 rintro _ _ ⟨_, _, ⟨rfl, rfl⟩, rfl, rfl⟩
 refine G.r (Runs.assign rfl) ?_
 refine G.nt ?_
 refine W.seq ?_
 refine W.sr ?_
 refine G.r (Runs.move rfl) ?_
 refine G.nt ?_
 refine W.no rfl ?_
 refine W.skip ?_
 refine V.then ?_
 refine W.seq ?_
 refine W.sr ?_
 refine G.r (Runs.move rfl) ?_
 refine G.nt ?_
 refine W.no rfl ?_
 refine W.skip ?_
 refine V.then ?_
 refine W.seq ?_
 refine W.sr ?_
 refine G.r (Runs.move rfl) ?_
 refine G.r (Runs.move rfl) ?_
 refine G.r (Runs.lss rfl rfl) ?_
 refine G.nt ?_
 refine W.sub (L' := [(16, _), (0, _), (1, _)]) (Sub.cons rfl (Sub.cons rfl (Sub.cons rfl Sub.nil))) ?_
 refine W.ite rfl (fun c16 => ?_) (fun c16 => ?_)
 ·refine W.sr ?_
  refine G.r (Runs.assign rfl) ?_
  refine G.nt ?_
  refine W.ret ?_
  refine V.then_ret ?_
  exact V.ret1 rfl rfl (I) Fit.m ⟨by unfold cmpI; rw [if_pos c16], rfl⟩
 ·refine W.skip ?_
  refine V.then ?_
  refine W.seq ?_
  refine W.sr ?_
  refine G.r (Runs.move rfl) ?_
  refine G.r (Runs.move rfl) ?_
  refine G.r (Runs.gtr rfl rfl) ?_
  refine G.nt ?_
  refine W.ite rfl (fun c19 => ?_) (fun c19 => ?_)
  ·refine W.sr ?_
   refine G.r (Runs.assign rfl) ?_
   refine G.nt ?_
   refine W.ret ?_
   refine V.then_ret ?_
   exact V.ret1 rfl rfl (I) Fit.m ⟨by unfold cmpI; rw [if_neg c16, if_pos c19], rfl⟩
  ·refine W.skip ?_
   refine V.then ?_
   refine W.sr ?_
   refine G.r (Runs.assign rfl) ?_
   refine G.nt ?_
   refine W.ret ?_
   exact V.ret1 rfl rfl (I) Fit.m ⟨by unfold cmpI; rw [if_neg c16, if_neg c19], rfl⟩

theorem Or_ok {κ : Ctx} {I : List Item} {v : Value} {xs : List Int} (hl : Sl κ I v xs) :
    CallS Try.prog κ 172 [v] I (fun r J => r = I64 (orL xs) ∧ I = J) := by
 refine CallS.pull hl.le fun hmax => ?_
 refine CallS.enter (L := [(0, v)]) Try.func172 rfl rfl rfl rfl ?_
 refine W.sr ?_
 refine G.r (Runs.assign rfl) ?_
 refine G.nt ?_
 refine W.sr ?_
 refine G.r (Runs.assign rfl) ?_
 refine G.nt ?_
 refine W.seq ?_
 refine W.sr ?_
 refine G.r (Runs.move rfl) ?_
 refine G.r (Runs.lenT (α := Int) (xs := xs) Try.underlying22 rfl (Sl.f hl)) ?_
 refine G.r (Runs.move rfl) ?_
 refine G.nt ?_
 refine W.block ?_
 refine W.loop (σ := Nat) (fun s => ([(3, I64 (0)), (6, v), (7, I64 (((xs.length : Nat) : Int))), (8, I64 (((s : Nat) : Int)))] : Env)) (fun s => I) (fun s => (s ≤ xs.length) ∧ (orL xs = orL (xs.drop s))) (fun s => xs.length - s) (0) (show ((0 : Nat) ≤ xs.length) ∧ (orL xs = orL (xs.drop (0 : Nat))) from ⟨(by omega), rfl⟩) (Sub.cons rfl (Sub.cons rfl (Sub.cons rfl (Sub.cons lookO Sub.nil)))) (show Fit κ _ (I) from Fit.sub) ?_
 rintro k hp
 obtain ⟨hk, ho⟩ : (k ≤ xs.length) ∧ (orL xs = orL (xs.drop k)) := hp
 show W Try.prog κ 18 _ _ ([(3, I64 (0)), (6, v), (7, I64 (((xs.length : Nat) : Int))), (8, I64 (((k : Nat) : Int)))] : Env) (I)
 refine W.sr ?_
 refine G.r (Runs.lss rfl rfl) ?_
 refine G.nt ?_
 refine W.seq ?_
 refine W.ite rfl (fun c9 => ?_) (fun c9 => ?_)
 ·refine W.skip ?_
  refine V.then ?_
  refine W.seq ?_
  refine W.block ?_
  refine W.sr ?_
  refine G.r (Runs.idx (α := Int) (xs := xs) Try.underlying22 ty3 rfl rfl (Sl.f hl) (by omega) (by omega)) ?_
  refine G.r (Runs.get (xs := xs) ty3 rfl (Sl.f hl) (by omega) (by omega)) ?_
  refine G.r (Runs.assign rfl) ?_
  refine G.nt ?_
  refine W.sr ?_
  refine G.r (Runs.move rfl) ?_
  refine G.r (Runs.move rfl) ?_
  refine G.r (Runs.neq rfl rfl) ?_
  refine G.nt ?_
  refine W.ite rfl (fun c14 => ?_) (fun c14 => ?_)
  ·refine W.sr ?_
   refine G.r (Runs.move rfl) ?_
   refine G.r (Runs.assign rfl) ?_
   refine G.nt ?_
   refine W.ret ?_
   refine V.block_ret ?_
   refine V.then_ret ?_
   refine V.then_ret ?_
   refine V.block_ret ?_
   refine V.then_ret ?_
   exact V.ret1 rfl rfl (I) Fit.m ⟨by rw [ho, orL_stop (by omega) c14], rfl⟩
  ·refine W.skip ?_
   refine V.block_normal ?_
   refine V.then ?_
   refine W.region ?_
   refine G.r (Runs.add rfl rfl (by unfold InR; omega)) ?_
   refine G.r (Runs.move rfl) ?_
   refine G.nil ?_
   exact V.next ((k + 1)) (show ((k + 1 : Nat) ≤ xs.length) ∧ (orL xs = orL (xs.drop (k + 1 : Nat))) from ⟨(by omega), (ho.trans (orL_step (by omega) (Decidable.of_not_not c14)))⟩) (show xs.length - (k + 1 : Nat) < xs.length - k from (by omega)) (Sub.cons rfl (Sub.cons rfl (Sub.cons rfl (Sub.cons lookO Sub.nil)))) (show Fit κ _ (I) from Fit.sub)
 ·refine W.exit ?_
  refine V.then_exit ?_
  refine V.then_exit ?_
  refine V.block_hit ?_
  refine V.then ?_
  refine W.sr ?_
  refine G.r (Runs.move rfl) ?_
  refine G.r (Runs.assign rfl) ?_
  refine G.nt ?_
  refine W.ret ?_
  exact V.ret1 rfl rfl (I) Fit.m ⟨by rw [ho, orL_end (by omega)], rfl⟩

theorem RCompare_ok {κ : Ctx} {I : List Item} (a c : Pt) :
    CallS Try.prog κ 111 [.agg #[I64 (a.u), I64 (a.v)], .agg #[I64 (c.u), I64 (c.v)]] I (fun r J => r = I64 (Pt.cmp a c) ∧ I = J) := by
 refine CallS.enter (L := [(0, .agg #[I64 (a.u), I64 (a.v)]), (1, .agg #[I64 (c.u), I64 (c.v)])]) Try.func111 rfl rfl rfl rfl ?_
 refine W.sr ?_
 refine G.e (Eff.box (cs := [_, _]) rfl rfl rfl) ?_
 rintro _ _ ⟨b1, rfl, rfl⟩
 refine G.e (Eff.box (cs := [_, _]) rfl rfl rfl) ?_
 rintro _ _ ⟨b2, rfl, rfl⟩
 refine G.r (Runs.assign rfl) ?_
 refine G.nt ?_
 refine W.seq ?_
 refine W.drawn mixed ?_
 refine A.hold (blk b2 [I64 (c.u), I64 (c.v)] 60 :: blk b1 [I64 (a.u), I64 (a.v)] 60 :: I) 12 ?_
 refine D.r 0 rfl (Runs.idxArr Try.underlying60 ty2 rfl rfl (by omega) (by omega)) ?_
 refine D.r 1 rfl (Runs.ld ty3) ?_
 refine D.r 2 rfl (Runs.idxArr Try.underlying60 ty2 rfl rfl (by omega) (by omega)) ?_
 refine D.r 3 rfl (Runs.ld ty3) ?_
 refine D.r 5 rfl (Runs.idxArr Try.underlying60 ty2 rfl rfl (by omega) (by omega)) ?_
 refine D.r 6 rfl (Runs.ld ty3) ?_
 refine D.r 7 rfl (Runs.idxArr Try.underlying60 ty2 rfl rfl (by omega) (by omega)) ?_
 refine D.r 8 rfl (Runs.ld ty3) ?_
 refine D.step (rs := [4]) (by kernel_rfl) rfl rfl (all1 ?_)
 refine Step.eff rfl (Wanted.plain rfl) (Eff.call call173 rfl rfl (Compare_ok a.u c.u)) ?_
 rintro _ _ ⟨_, _, ⟨rfl, rfl⟩, rfl, rfl⟩
 refine ⟨Fit.m, ?_⟩
 refine D.step (rs := [9]) (by kernel_rfl) rfl rfl (all1 ?_)
 refine Step.eff rfl (Wanted.plain rfl) (Eff.call call173 rfl rfl (Compare_ok a.v c.v)) ?_
 rintro _ _ ⟨_, _, ⟨rfl, rfl⟩, rfl, rfl⟩
 refine ⟨Fit.m, ?_⟩
 refine D.step (rs := [10]) (by kernel_rfl) rfl rfl (all1 ?_)
 refine Step.eff rfl (Wanted.plain rfl) (Eff.bs (α := Int) (cs := [_, _]) (xs := [cmpI a.u c.u, cmpI a.v c.v]) Try.underlying22 ty3 rfl rfl (by decide) (by decide) rfl rfl rfl rfl) ?_
 rintro _ _ ⟨ad3, rfl, rfl⟩
 refine ⟨Fit.m, ?_⟩
 refine D.step (rs := [11]) (by kernel_rfl) rfl rfl (all1 ?_)
 refine Step.eff rfl (Wanted.plain rfl) (Eff.call call172 rfl rfl (Or_ok Sl.o)) ?_
 rintro _ _ ⟨_, _, ⟨rfl, rfl⟩, rfl, rfl⟩
 refine ⟨Fit.m, ?_⟩
 refine D.stop (by kernel_rfl) ?_
 refine A.read (i := 12) (by kernel_rfl) rfl (Wanted.plain rfl) rfl rfl (Runs.assign rfl) ?_
 refine A.done (by kernel_rfl) ?_
 refine V.then ?_
 refine W.sub (L' := [(4, _)]) (Sub.cons rfl Sub.nil) ?_
 refine W.ret ?_
 exact V.ret1 rfl rfl (I) Fit.m ⟨by rw [← orL_cmp], rfl⟩

theorem Record_ok {κ : Ctx} {I : List Item} (p : Pt) :
    CallS Try.prog κ 127 [.agg #[I64 (p.u), I64 (p.v)]] I (fun r J => r = .bool (decide p.right) ∧ I = J) := by
 refine CallS.enter (L := [(0, .agg #[I64 (p.u), I64 (p.v)])]) Try.func127 rfl rfl rfl rfl ?_
 refine W.sr ?_
 refine G.e (Eff.box (cs := [_, _]) rfl rfl rfl) ?_
 rintro _ _ ⟨b1, rfl, rfl⟩
 refine G.r (Runs.assign rfl) ?_
 refine G.nt ?_
 refine W.sr ?_
 refine G.r (Runs.idxArr Try.underlying60 ty2 rfl rfl (by omega) (by omega)) ?_
 refine G.r (Runs.ld ty3) ?_
 refine G.r (Runs.idxArr Try.underlying60 ty2 rfl rfl (by omega) (by omega)) ?_
 refine G.r (Runs.ld ty3) ?_
 refine G.r (Runs.min rfl rfl) ?_
 refine G.r (Runs.geq rfl rfl) ?_
 refine G.r (Runs.move rfl) ?_
 refine G.split (d := 9) rfl (fun g9 => ?_) (fun g9 => ?_)
 ·refine G.ro (Runs.idxArr Try.underlying60 ty2 rfl rfl (by omega) (by omega)) ?_
  refine G.ro (Runs.ld ty3) ?_
  refine G.ro (Runs.idxArr Try.underlying60 ty2 rfl rfl (by omega) (by omega)) ?_
  refine G.ro (Runs.ld ty3) ?_
  refine G.ro (Runs.max rfl rfl) ?_
  refine G.ro (Runs.lss rfl rfl) ?_
  refine G.r (Runs.pickt rfl rfl) ?_
  refine G.r (Runs.move rfl) ?_
  refine G.split (d := 17) rfl (fun g17 => ?_) (fun g17 => ?_)
  ·refine G.ro (Runs.idxArr Try.underlying60 ty2 rfl rfl (by omega) (by omega)) ?_
   refine G.ro (Runs.ld ty3) ?_
   refine G.ro (Runs.idxArr Try.underlying60 ty2 rfl rfl (by omega) (by omega)) ?_
   refine G.ro (Runs.ld ty3) ?_
   refine G.ro (Runs.neq rfl rfl) ?_
   refine G.r (Runs.pickt rfl rfl) ?_
   refine G.r (Runs.assign rfl) ?_
   refine G.nt ?_
   refine W.sub (L' := [(2, _)]) (Sub.cons rfl Sub.nil) ?_
   refine W.ret ?_
   have hm1 := g9; have hm2 := g17
   have q1 : 0 ≤ p.u ∧ 0 ≤ p.v := by split at g9 <;> omega
   have q2 : p.u < 64 ∧ p.v < 64 := by split at g17 <;> omega
   exact V.ret1 rfl rfl (I) Fit.m ⟨by rw [decide_eq_decide.2 (show p.right ↔ p.u ≠ p.v from ⟨fun h => h.2.2, fun h => ⟨by omega, by omega, h⟩⟩)], rfl⟩
  ·refine G.po ?_
   refine G.po ?_
   refine G.po ?_
   refine G.po ?_
   refine G.po ?_
   refine G.r (Runs.pickf rfl rfl) ?_
   refine G.r (Runs.assign rfl) ?_
   refine G.nt ?_
   refine W.sub (L' := [(2, _)]) (Sub.cons rfl Sub.nil) ?_
   refine W.ret ?_
   exact V.ret1 rfl rfl (I) Fit.m ⟨by rw [decide_eq_false (show ¬ p.right from fun h => g17 (by have := h.1; have := h.2.1; split <;> omega))], rfl⟩
 ·refine G.po ?_
  refine G.po ?_
  refine G.po ?_
  refine G.po ?_
  refine G.po ?_
  refine G.po ?_
  refine G.r (Runs.pickf rfl rfl) ?_
  refine G.r (Runs.move rfl) ?_
  refine G.po ?_
  refine G.po ?_
  refine G.po ?_
  refine G.po ?_
  refine G.po ?_
  refine G.r (Runs.pickf rfl rfl) ?_
  refine G.r (Runs.assign rfl) ?_
  refine G.nt ?_
  refine W.sub (L' := [(2, _)]) (Sub.cons rfl Sub.nil) ?_
  refine W.ret ?_
  exact V.ret1 rfl rfl (I) Fit.m ⟨by rw [decide_eq_false (show ¬ p.right from fun h => g9 (by have := h.1; have := h.2.1; split <;> omega))], rfl⟩

theorem BlockSz_ok {κ : Ctx} {I : List Item} (n : Int) :
    CallS Try.prog κ 113 [I64 (n)] I (fun r J => r = .bool (decide (1 ≤ n ∧ n ≤ 1024)) ∧ I = J) := by
 refine CallS.enter (L := [(0, I64 (n))]) Try.func113 rfl rfl rfl rfl ?_
 refine W.sr ?_
 refine G.r (Runs.assign rfl) ?_
 refine G.nt ?_
 refine W.sr ?_
 refine G.r (Runs.move rfl) ?_
 refine G.r (Runs.geq rfl rfl) ?_
 refine G.r (Runs.move rfl) ?_
 refine G.split (d := 5) rfl (fun g5 => ?_) (fun g5 => ?_)
 ·refine G.ro (Runs.move rfl) ?_
  refine G.ro (Runs.leq rfl rfl) ?_
  refine G.r (Runs.pickt rfl rfl) ?_
  refine G.r (Runs.assign rfl) ?_
  refine G.nt ?_
  refine W.ret ?_
  exact V.ret1 rfl rfl (I) Fit.m ⟨by rw [decide_eq_decide.2 (show (1 ≤ n ∧ n ≤ 1024) ↔ n ≤ 1024 from ⟨fun h => h.2, fun h => ⟨g5, h⟩⟩)], rfl⟩
 ·refine G.po ?_
  refine G.po ?_
  refine G.r (Runs.pickf rfl rfl) ?_
  refine G.r (Runs.assign rfl) ?_
  refine G.nt ?_
  refine W.ret ?_
  exact V.ret1 rfl rfl (I) Fit.m ⟨by rw [decide_eq_false (show ¬ (1 ≤ n ∧ n ≤ 1024) from fun h => g5 h.1)], rfl⟩

theorem RunsCheck_ok {κ : Ctx} {I : List Item} {n : Int} {v : Value} {l : List Pt} (hl : Sl κ I v l) (hv : RunOk n l) :
    CallS Try.prog κ 65 [.agg #[I64 (n), v]] I (fun r J => r = I64 0 ∧ I = J) := by
 refine CallS.pull hl.le fun hmax => ?_
 refine CallS.enter (L := [(0, .agg #[I64 (n), v])]) Try.func65 rfl rfl rfl rfl ?_
 refine W.sr ?_
 refine G.e (Eff.box (cs := [_, _]) rfl rfl rfl) ?_
 rintro _ _ ⟨b1, rfl, rfl⟩
 refine G.r (Runs.assign rfl) ?_
 refine G.nt ?_
 refine W.seq ?_
 refine W.sr ?_
 refine G.r (Runs.fieldAddr fld57_0 rfl) ?_
 refine G.r (Runs.ld ty3) ?_
 refine G.e (Eff.call call113 rfl rfl (BlockSz_ok n)) ?_
 rintro _ _ ⟨_, _, ⟨rfl, rfl⟩, rfl, rfl⟩
 refine G.r (Runs.notd rfl) ?_
 refine G.nt ?_
 refine W.ite rfl (fun c8 => ?_) (fun c8 => ?_)
 ·exact absurd hv.size c8
 ·refine W.skip ?_
  refine V.then ?_
  refine W.seq ?_
  refine W.sr ?_
  refine G.r (Runs.fieldAddr fld57_1 rfl) ?_
  refine G.r (Runs.ld ty55) ?_
  refine G.r (Runs.lenT (α := Pt) (xs := l) Try.underlying55 rfl (Sl.f hl)) ?_
  refine G.r (Runs.move rfl) ?_
  refine G.nt ?_
  refine W.block ?_
  refine W.loop (σ := Nat) (fun s => ([(1, .pointer (some ⟨b1, 0, none⟩)), (10, v), (11, I64 (((l.length : Nat) : Int))), (12, I64 (((s : Nat) : Int)))] : Env)) (fun s => blk b1 [I64 (n), v] 57 :: I) (fun s => (s ≤ l.length)) (fun s => l.length - s) (0) (show ((0 : Nat) ≤ l.length) from (by omega)) (Sub.cons rfl (Sub.cons rfl (Sub.cons rfl (Sub.cons lookO Sub.nil)))) (show Fit κ _ (blk b1 [I64 (n), v] 57 :: I) from Fit.sub) ?_
  rintro k hp
  have hk : (k ≤ l.length) := hp
  show W Try.prog κ 34 _ _ ([(1, .pointer (some ⟨b1, 0, none⟩)), (10, v), (11, I64 (((l.length : Nat) : Int))), (12, I64 (((k : Nat) : Int)))] : Env) (blk b1 [I64 (n), v] 57 :: I)
  refine W.sr ?_
  refine G.r (Runs.lss rfl rfl) ?_
  refine G.nt ?_
  refine W.seq ?_
  refine W.ite rfl (fun c13 => ?_) (fun c13 => ?_)
  ·refine W.skip ?_
   refine V.then ?_
   refine W.seq ?_
   refine W.block ?_
   refine W.sr ?_
   refine G.r (Runs.move rfl) ?_
   refine G.r (Runs.idx (α := Pt) (xs := l) Try.underlying55 ty60 rfl rfl (Sl.f hl) (by omega) (by omega)) ?_
   refine G.r (Runs.gets (α := Pt) (xs := l) ty60 rfl (Sl.f hl) (by omega) (by omega)) ?_
   refine G.e (Eff.alloc ty60 rfl) ?_
   rintro _ _ ⟨b2, rfl, rfl⟩
   refine G.r (Runs.assign rfl) ?_
   refine G.e (Eff.st (cs := [_, _]) (vs := [_, _]) (cs' := [_, _]) ty60) ?_
   rintro _ _ ⟨rfl, rfl⟩
   refine G.nt ?_
   refine W.seq ?_
   refine W.sr ?_
   refine G.r (Runs.lds (vs := [_, _]) ty60) ?_
   refine G.e (Eff.call call127 rfl rfl (Record_ok (at_ l ((k : Nat) : Int)))) ?_
   rintro _ _ ⟨_, _, ⟨rfl, rfl⟩, rfl, rfl⟩
   refine G.r (Runs.notd rfl) ?_
   refine G.nt ?_
   refine W.ite rfl (fun c19 => ?_) (fun c19 => ?_)
   ·exact absurd (hv.at (k := k) (by omega)) c19
   ·refine W.skip ?_
    refine V.then ?_
    refine W.seq ?_
    refine W.drawn mixed ?_
    refine A.hold (blk b2 [I64 ((at_ l ((k : Nat) : Int)).u), I64 ((at_ l ((k : Nat) : Int)).v)] 60 :: blk b1 [I64 (n), v] 57 :: I) 13 ?_
    refine D.r 0 rfl (Runs.move rfl) ?_
    refine D.r 1 rfl (Runs.gtr rfl rfl) ?_
    refine D.r 2 rfl (Runs.move rfl) ?_
    refine D.split (d := 22) rfl (fun g22 => ?_) (fun g22 => ?_)
    ·refine D.ro 3 rfl (Runs.fieldAddr fld57_1 rfl) ?_
     refine D.ro 4 rfl (Runs.ld ty55) ?_
     refine D.ro 5 rfl (Runs.move rfl) ?_
     refine D.ro 6 rfl (Runs.sub rfl rfl (by unfold InR; omega)) ?_
     refine D.ro 7 rfl (Runs.idx (α := Pt) (xs := l) Try.underlying55 ty60 rfl rfl (Sl.f hl) (by omega) (by omega)) ?_
     refine D.ro 8 rfl (Runs.gets (α := Pt) (xs := l) ty60 rfl (Sl.f hl) (by omega) (by omega)) ?_
     refine D.ro 9 rfl (Runs.lds (vs := [_, _]) ty60) ?_
     refine D.step (rs := [10]) (by kernel_rfl) rfl rfl (all1 ?_)
     refine Step.eff rfl (Wanted.on rfl rfl rfl) (Eff.call call111 rfl rfl (RCompare_ok (at_ l (((k : Nat) : Int) - 1)) (at_ l ((k : Nat) : Int)))) ?_
     rintro _ _ ⟨_, _, ⟨rfl, rfl⟩, rfl, rfl⟩
     refine ⟨Fit.m, ?_⟩
     refine D.ro 11 rfl (Runs.geq rfl rfl) ?_
     refine D.r 12 rfl (Runs.pickt rfl rfl) ?_
     refine D.done (by kernel_rfl) ?_
     refine V.then ?_
     refine W.sub (L' := [(32, _), (1, _), (10, _), (11, _), (12, _)]) (Sub.cons rfl (Sub.cons rfl (Sub.cons rfl (Sub.cons rfl (Sub.cons rfl Sub.nil))))) ?_
     refine W.ite rfl (fun c32 => ?_) (fun c32 => ?_)
     ·exact absurd (hv.prev (k := k) (by omega) (by omega)) (by omega)
     ·refine W.skip ?_
      refine V.block_normal ?_
      refine V.then ?_
      refine W.region ?_
      refine G.r (Runs.add rfl rfl (by unfold InR; omega)) ?_
      refine G.r (Runs.move rfl) ?_
      refine G.nil ?_
      exact V.next ((k + 1)) (show ((k + 1 : Nat) ≤ l.length) from (by omega)) (show l.length - (k + 1 : Nat) < l.length - k from (by omega)) (Sub.cons rfl (Sub.cons rfl (Sub.cons rfl (Sub.cons lookO Sub.nil)))) (show Fit κ _ (blk b1 [I64 (n), v] 57 :: I) from Fit.sub)
    ·refine D.po 3 rfl ?_
     refine D.po 4 rfl ?_
     refine D.po 5 rfl ?_
     refine D.po 6 rfl ?_
     refine D.po 7 rfl ?_
     refine D.po 8 rfl ?_
     refine D.po 9 rfl ?_
     refine D.po 10 rfl ?_
     refine D.po 11 rfl ?_
     refine D.r 12 rfl (Runs.pickf rfl rfl) ?_
     refine D.done (by kernel_rfl) ?_
     refine V.then ?_
     refine W.sub (L' := [(32, _), (1, _), (10, _), (11, _), (12, _)]) (Sub.cons rfl (Sub.cons rfl (Sub.cons rfl (Sub.cons rfl (Sub.cons rfl Sub.nil))))) ?_
     refine W.no rfl ?_
     refine W.skip ?_
     refine V.block_normal ?_
     refine V.then ?_
     refine W.region ?_
     refine G.r (Runs.add rfl rfl (by unfold InR; omega)) ?_
     refine G.r (Runs.move rfl) ?_
     refine G.nil ?_
     exact V.next ((k + 1)) (show ((k + 1 : Nat) ≤ l.length) from (by omega)) (show l.length - (k + 1 : Nat) < l.length - k from (by omega)) (Sub.cons rfl (Sub.cons rfl (Sub.cons rfl (Sub.cons lookO Sub.nil)))) (show Fit κ _ (blk b1 [I64 (n), v] 57 :: I) from Fit.sub)
  ·refine W.exit ?_
   refine V.then_exit ?_
   refine V.then_exit ?_
   refine V.block_hit ?_
   refine V.then ?_
   refine W.sr ?_
   refine G.r (Runs.assign rfl) ?_
   refine G.nt ?_
   refine W.ret ?_
   exact V.ret1 rfl rfl (I) Fit.m ⟨rfl, rfl⟩

theorem IndexP_ok {κ : Ctx} {I : List Item} {v : Value} {xs : List Pt} (hl : Sl κ I v xs) (x : Pt) :
    CallS Try.prog κ 174 [v, .agg #[I64 (x.u), I64 (x.v)]] I (fun r J => ∃ y : Int, r = I64 y ∧ (0 ≤ y ↔ x ∈ xs) ∧ I = J) := by
 refine CallS.pull hl.le fun hmax => ?_
 refine CallS.enter (L := [(0, v), (1, .agg #[I64 (x.u), I64 (x.v)])]) Try.func174 rfl rfl rfl rfl ?_
 refine W.sr ?_
 refine G.e (Eff.box (cs := [_, _]) rfl rfl rfl) ?_
 rintro _ _ ⟨b1, rfl, rfl⟩
 refine G.r (Runs.assign rfl) ?_
 refine G.nt ?_
 refine W.seq ?_
 refine W.sr ?_
 refine G.r (Runs.move rfl) ?_
 refine G.r (Runs.lenT (α := Pt) (xs := xs) Try.underlying55 rfl (Sl.f hl)) ?_
 refine G.r (Runs.move rfl) ?_
 refine G.nt ?_
 refine W.block ?_
 refine W.loop (σ := Nat) (fun s => ([(0, v), (3, .pointer (some ⟨b1, 0, none⟩)), (7, I64 (((xs.length : Nat) : Int))), (8, I64 (((s : Nat) : Int)))] : Env)) (fun s => blk b1 [I64 (x.u), I64 (x.v)] 60 :: I) (fun s => (s ≤ xs.length) ∧ (∀ j, j < s → at_ xs (j : Int) ≠ x)) (fun s => xs.length - s) (0) (show ((0 : Nat) ≤ xs.length) ∧ (∀ j, j < (0 : Nat) → at_ xs (j : Int) ≠ x) from ⟨(by omega), all_zero⟩) (Sub.cons rfl (Sub.cons rfl (Sub.cons rfl (Sub.cons lookO Sub.nil)))) (show Fit κ _ (blk b1 [I64 (x.u), I64 (x.v)] 60 :: I) from Fit.sub) ?_
 rintro k hp
 obtain ⟨hk, hn⟩ : (k ≤ xs.length) ∧ (∀ j, j < k → at_ xs (j : Int) ≠ x) := hp
 show W Try.prog κ 19 _ _ ([(0, v), (3, .pointer (some ⟨b1, 0, none⟩)), (7, I64 (((xs.length : Nat) : Int))), (8, I64 (((k : Nat) : Int)))] : Env) (blk b1 [I64 (x.u), I64 (x.v)] 60 :: I)
 refine W.sr ?_
 refine G.r (Runs.lss rfl rfl) ?_
 refine G.nt ?_
 refine W.seq ?_
 refine W.ite rfl (fun c9 => ?_) (fun c9 => ?_)
 ·refine W.skip ?_
  refine V.then ?_
  refine W.seq ?_
  refine W.block ?_
  refine W.sr ?_
  refine G.r (Runs.move rfl) ?_
  refine G.r (Runs.assign rfl) ?_
  refine G.nt ?_
  refine W.seq ?_
  refine W.drawn mixed ?_
  refine A.hold (blk b1 [I64 (x.u), I64 (x.v)] 60 :: I) 6 ?_
  refine D.r 0 rfl (Runs.lds (vs := [_, _]) ty60) ?_
  refine D.r 1 rfl (Runs.move rfl) ?_
  refine D.r 2 rfl (Runs.move rfl) ?_
  refine D.r 3 rfl (Runs.idx (α := Pt) (xs := xs) Try.underlying55 ty60 rfl rfl (Sl.f hl) (by omega) (by omega)) ?_
  refine D.r 4 rfl (Runs.gets (α := Pt) (xs := xs) ty60 rfl (Sl.f hl) (by omega) (by omega)) ?_
  refine D.r 5 rfl (Runs.eqlT (α := Pt) (a := x) (b := (at_ xs ((k : Nat) : Int))) eqt60 rfl rfl) ?_
  refine D.done (by kernel_rfl) ?_
  refine V.then ?_
  refine W.ite rfl (fun c16 => ?_) (fun c16 => ?_)
  ·refine W.sr ?_
   refine G.r (Runs.move rfl) ?_
   refine G.r (Runs.assign rfl) ?_
   refine G.nt ?_
   refine W.sub (L' := [(4, _)]) (Sub.cons rfl Sub.nil) ?_
   refine W.ret ?_
   refine V.block_ret ?_
   refine V.then_ret ?_
   refine V.then_ret ?_
   refine V.block_ret ?_
   refine V.then_ret ?_
   have hm : x ∈ xs := by rw [c16]; exact at_mem (by omega) (by omega)
   exact V.ret1 rfl rfl (I) Fit.m ⟨_, rfl, ⟨fun _ => hm, fun _ => by omega⟩, rfl⟩
  ·refine W.skip ?_
   refine V.block_normal ?_
   refine V.then ?_
   refine W.region ?_
   refine G.r (Runs.add rfl rfl (by unfold InR; omega)) ?_
   refine G.r (Runs.move rfl) ?_
   refine G.nil ?_
   exact V.next ((k + 1)) (show ((k + 1 : Nat) ≤ xs.length) ∧ (∀ j, j < (k + 1 : Nat) → at_ xs (j : Int) ≠ x) from ⟨(by omega), (all_succ hn (fun e => c16 e.symm))⟩) (show xs.length - (k + 1 : Nat) < xs.length - k from (by omega)) (Sub.cons rfl (Sub.cons rfl (Sub.cons rfl (Sub.cons lookO Sub.nil)))) (show Fit κ _ (blk b1 [I64 (x.u), I64 (x.v)] 60 :: I) from Fit.sub)
 ·refine W.exit ?_
  refine V.then_exit ?_
  refine V.then_exit ?_
  refine V.block_hit ?_
  refine V.then ?_
  refine W.sr ?_
  refine G.r (Runs.assign rfl) ?_
  refine G.nt ?_
  refine W.ret ?_
  have hm : x ∉ xs := not_mem_at hn (by omega)
  exact V.ret1 rfl rfl (I) Fit.m ⟨_, rfl, ⟨fun h => absurd h (by decide), fun h => absurd h hm⟩, rfl⟩

theorem ContainsP_ok {κ : Ctx} {I : List Item} {v : Value} {xs : List Pt} (hl : Sl κ I v xs) (x : Pt) :
    CallS Try.prog κ 112 [v, .agg #[I64 (x.u), I64 (x.v)]] I (fun r J => r = .bool (decide (x ∈ xs)) ∧ I = J) := by
 refine CallS.enter (L := [(0, v), (1, .agg #[I64 (x.u), I64 (x.v)])]) Try.func112 rfl rfl rfl rfl ?_
 refine W.sr ?_
 refine G.e (Eff.box (cs := [_, _]) rfl rfl rfl) ?_
 rintro _ _ ⟨b1, rfl, rfl⟩
 refine G.r (Runs.assign rfl) ?_
 refine G.nt ?_
 refine W.sr ?_
 refine G.r (Runs.move rfl) ?_
 refine G.r (Runs.lds (vs := [_, _]) ty60) ?_
 refine G.e (Eff.call call174 rfl rfl (IndexP_ok (Sl.f hl) x)) ?_
 rintro _ _ ⟨_, _, ⟨y2, rfl, hy2, rfl⟩, rfl, rfl⟩
 refine G.r (Runs.geq rfl rfl) ?_
 refine G.r (Runs.assign rfl) ?_
 refine G.nt ?_
 refine W.ret ?_
 exact V.ret1 rfl rfl (I) Fit.m ⟨by rw [decide_eq_decide.2 (by assumption)], rfl⟩

end Go.Sl
namespace Go.Sl
open Go.Proofs
set_option linter.unusedVariables false
set_option linter.unusedSimpArgs false
set_option maxRecDepth 4000
theorem Blk_ok {κ : Ctx} {I : List Item} {n : Int} {la : Option Addr} {lc : Nat} {l : List Pt} (hl : Sl κ I (.slice la l.length lc) l) (hn : 1 ≤ n ∧ n ≤ 1024) (hb : l.length ≤ 1000000000) :
    CallS Try.prog κ 110 [.agg #[I64 (n), .slice la l.length lc]] I (fun r J => ∃ a c rs, r = .slice a rs.length c ∧ (rs.map RowG.xs = blocks n.toNat l ∧ HeldAll κ I rs) ∧ J = vc 55 (.slice a rs.length c) rs :: I) := by
 refine CallS.enter (L := [(0, .agg #[I64 (n), .slice la l.length lc])]) Try.func110 rfl rfl rfl rfl ?_
 refine W.sr ?_
 refine G.e (Eff.box (cs := [_, _]) rfl rfl rfl) ?_
 rintro _ _ ⟨b1, rfl, rfl⟩
 refine G.r (Runs.assign rfl) ?_
 refine G.nt ?_
 refine W.sr ?_
 refine G.r (Runs.assign rfl) ?_
 refine G.nt ?_
 refine W.seq ?_
 refine W.sr ?_
 refine G.r (Runs.fieldAddr fld57_1 rfl) ?_
 refine G.r (Runs.ld ty55) ?_
 refine G.r (Runs.assign rfl) ?_
 refine G.nt ?_
 refine W.block ?_
 refine W.loop (σ := Nat × (Option Addr) × Nat × (List Pt) × (Option Addr) × Nat × (List (RowG Pt))) (fun s => ([(1, .pointer (some ⟨b1, 0, none⟩)), (3, .slice s.2.2.2.2.1 s.2.2.2.2.2.2.length s.2.2.2.2.2.1), (4, .slice s.2.1 s.2.2.2.1.length s.2.2.1)] : Env)) (fun s => vc 55 (.slice s.2.2.2.2.1 s.2.2.2.2.2.2.length s.2.2.2.2.2.1) (s.2.2.2.2.2.2) :: blk b1 [I64 (n), .slice la l.length lc] 57 :: I) (fun s => (s.2.2.2.1 = l.drop (s.1 * n.toNat)) ∧ (Sl κ I (.slice s.2.1 s.2.2.2.1.length s.2.2.1) s.2.2.2.1) ∧ (s.2.2.2.2.2.2.map RowG.xs = (List.range s.1).map (block n.toNat l)) ∧ (HeldAll κ I s.2.2.2.2.2.2) ∧ (s.1 ≤ nblocks n.toNat l)) (fun s => s.2.2.2.1.length) (0, la, lc, l, none, 0, []) (show ((l : List Pt) = l.drop ((0 : Nat) * n.toNat)) ∧ (Sl κ I (.slice (la : Option Addr) (l : List Pt).length (lc : Nat)) (l : List Pt)) ∧ (([] : List (RowG Pt)).map RowG.xs = (List.range (0 : Nat)).map (block n.toNat l)) ∧ (HeldAll κ I ([] : List (RowG Pt))) ∧ ((0 : Nat) ≤ nblocks n.toNat l) from ⟨(by simp), hl, rfl, HeldAll.nil, (Nat.zero_le _)⟩) (Sub.cons rfl (Sub.cons (lookV rfl (by first | rfl | simp)) (Sub.cons (lookV rfl (by first | rfl | simp)) Sub.nil))) (show Fit κ _ (vc 55 (.slice (none) ([]).length (0)) (([])) :: blk b1 [I64 (n), .slice la l.length lc] 57 :: I) from (Fit.nilvc _ _)) ?_
 rintro ⟨j, a4, c4, rest, a, c, rs⟩ hp
 obtain ⟨hrest, hs4, hrs, hh, hj⟩ : (rest = l.drop (j * n.toNat)) ∧ (Sl κ I (.slice a4 rest.length c4) rest) ∧ (rs.map RowG.xs = (List.range j).map (block n.toNat l)) ∧ (HeldAll κ I rs) ∧ (j ≤ nblocks n.toNat l) := hp
 show W Try.prog κ 27 _ _ ([(1, .pointer (some ⟨b1, 0, none⟩)), (3, .slice a rs.length c), (4, .slice a4 rest.length c4)] : Env) (vc 55 (.slice a rs.length c) (rs) :: blk b1 [I64 (n), .slice la l.length lc] 57 :: I)
 have hrl : rs.length = j := by have := rows_len hrs; simpa using this
 have hnb := nblocks_le (n := n.toNat) (by omega) l
 refine W.seq ?_
 refine W.sr ?_
 refine G.r (Runs.move rfl) ?_
 refine G.r (Runs.lens Try.underlying55 rfl) ?_
 refine G.r (Runs.gtr rfl rfl) ?_
 refine G.nt ?_
 refine W.ite rfl (fun c10 => ?_) (fun c10 => ?_)
 ·refine W.skip ?_
  refine V.then ?_
  refine W.block ?_
  refine W.sr ?_
  refine G.r (Runs.fieldAddr fld57_0 rfl) ?_
  refine G.r (Runs.ld ty3) ?_
  refine G.r (Runs.move rfl) ?_
  refine G.r (Runs.lens Try.underlying55 rfl) ?_
  refine G.r (Runs.min rfl rfl) ?_
  have hmn : 0 < (if ((rest.length : Nat) : Int) < n then ((rest.length : Nat) : Int) else n) ∧ (if ((rest.length : Nat) : Int) < n then ((rest.length : Nat) : Int) else n) ≤ ((rest.length : Nat) : Int) ∧ (if ((rest.length : Nat) : Int) < n then ((rest.length : Nat) : Int) else n) ≤ n := by split <;> omega
  have hhm : (if ((rest.length : Nat) : Int) < n then ((rest.length : Nat) : Int) else n).toNat = min n.toNat rest.length := by split <;> omega
  refine G.r (Runs.assign rfl) ?_
  refine G.nt ?_
  refine W.sr ?_
  refine G.r (Runs.move rfl) ?_
  refine G.r (Runs.move rfl) ?_
  refine G.r (Runs.move rfl) ?_
  refine G.r (Runs.move rfl) ?_
  refine G.r (Runs.hi3 (α := Pt) (xs := rest) (h := (if ((rest.length : Nat) : Int) < n then ((rest.length : Nat) : Int) else n).toNat) Try.underlying55 ty60 rfl rfl rfl (by omega) (Sl.f hs4) (by omega) (by omega)) ?_
  refine G.e (Eff.bs (α := (RowG Pt)) (cs := [_]) (xs := [⟨a4, ((if ((rest.length : Nat) : Int) < n then ((rest.length : Nat) : Int) else n).toNat), List.take ((if ((rest.length : Nat) : Int) < n then ((rest.length : Nat) : Int) else n).toNat) rest⟩]) Try.underlying151 ty55 rfl rfl (by decide) (by decide) rfl rfl rfl rfl) ?_
  rintro _ _ ⟨ad2, rfl, rfl⟩
  refine G.e (Eff.app (α := (RowG Pt)) (e := 55) (xs := rs) (ys := ([⟨a4, ((if ((rest.length : Nat) : Int) < n then ((rest.length : Nat) : Int) else n).toNat), List.take ((if ((rest.length : Nat) : Int) < n then ((rest.length : Nat) : Int) else n).toNat) rest⟩] : List (RowG Pt))) Try.underlying151 ty55 rfl rfl rfl (by repeat (first | exact List.mem_cons_self | apply List.mem_cons_of_mem)) Sl.o (by simp only [List.length_cons, List.length_nil]; omega) (by decide) rfl (fun _ _ => (by repeat (first | exact At.head _ _ _ | apply At.tail)))) ?_
  rintro _ _ ⟨ad3, cp4, rfl, rfl⟩
  refine G.r (Runs.assign rfl) ?_
  refine G.nt ?_
  refine W.sub (L' := [(3, _), (5, _), (1, _), (4, _)]) (Sub.cons rfl (Sub.cons rfl (Sub.cons rfl (Sub.cons rfl Sub.nil)))) ?_
  refine W.region ?_
  refine G.r (Runs.move rfl) ?_
  refine G.r (Runs.move rfl) ?_
  refine G.r (Runs.lo (α := Pt) (xs := rest) (l := (if ((rest.length : Nat) : Int) < n then ((rest.length : Nat) : Int) else n).toNat) Try.underlying55 ty60 rfl rfl (by omega) (Sl.f hs4) (by omega)) ?_
  refine G.r (Runs.assign rfl) ?_
  refine G.nil ?_
  refine V.block_normal ?_
  exact V.next ((j + 1), ((adrop a4 c4 ((if ((rest.length : Nat) : Int) < n then ((rest.length : Nat) : Int) else n).toNat) (Enc.sz Pt))), ((c4 - ((if ((rest.length : Nat) : Int) < n then ((rest.length : Nat) : Int) else n).toNat))), ((List.drop ((if ((rest.length : Nat) : Int) < n then ((rest.length : Nat) : Int) else n).toNat) rest)), (ad3), (cp4), (rs ++ ([⟨a4, ((if ((rest.length : Nat) : Int) < n then ((rest.length : Nat) : Int) else n).toNat), List.take ((if ((rest.length : Nat) : Int) < n then ((rest.length : Nat) : Int) else n).toNat) rest⟩] : List (RowG Pt)))) (show (((List.drop ((if ((rest.length : Nat) : Int) < n then ((rest.length : Nat) : Int) else n).toNat) rest) : List Pt) = l.drop ((j + 1 : Nat) * n.toNat)) ∧ (Sl κ I (.slice ((adrop a4 c4 ((if ((rest.length : Nat) : Int) < n then ((rest.length : Nat) : Int) else n).toNat) (Enc.sz Pt)) : Option Addr) ((List.drop ((if ((rest.length : Nat) : Int) < n then ((rest.length : Nat) : Int) else n).toNat) rest) : List Pt).length ((c4 - ((if ((rest.length : Nat) : Int) < n then ((rest.length : Nat) : Int) else n).toNat)) : Nat)) ((List.drop ((if ((rest.length : Nat) : Int) < n then ((rest.length : Nat) : Int) else n).toNat) rest) : List Pt)) ∧ ((rs ++ ([⟨a4, ((if ((rest.length : Nat) : Int) < n then ((rest.length : Nat) : Int) else n).toNat), List.take ((if ((rest.length : Nat) : Int) < n then ((rest.length : Nat) : Int) else n).toNat) rest⟩] : List (RowG Pt)) : List (RowG Pt)).map RowG.xs = (List.range (j + 1 : Nat)).map (block n.toNat l)) ∧ (HeldAll κ I (rs ++ ([⟨a4, ((if ((rest.length : Nat) : Int) < n then ((rest.length : Nat) : Int) else n).toNat), List.take ((if ((rest.length : Nat) : Int) < n then ((rest.length : Nat) : Int) else n).toNat) rest⟩] : List (RowG Pt)) : List (RowG Pt))) ∧ ((j + 1 : Nat) ≤ nblocks n.toNat l) from ⟨(rest_drop hrest hhm), (Sl.drop hs4 (by omega)), (map_push hrs (rest_take hrest hhm)), (hh.push (Sl.take3 hs4 (by omega))), (rest_lt (by omega) hrest (by omega))⟩) (show ((List.drop ((if ((rest.length : Nat) : Int) < n then ((rest.length : Nat) : Int) else n).toNat) rest) : List Pt).length < rest.length from (by simp only [List.length_drop]; omega)) (Sub.cons rfl (Sub.cons (lookV rfl (by first | rfl | simp)) (Sub.cons (lookV rfl (by first | rfl | simp)) Sub.nil))) (show Fit κ _ (vc 55 (.slice (ad3) (rs ++ ([⟨a4, ((if ((rest.length : Nat) : Int) < n then ((rest.length : Nat) : Int) else n).toNat), List.take ((if ((rest.length : Nat) : Int) < n then ((rest.length : Nat) : Int) else n).toNat) rest⟩] : List (RowG Pt))).length (cp4)) ((rs ++ ([⟨a4, ((if ((rest.length : Nat) : Int) < n then ((rest.length : Nat) : Int) else n).toNat), List.take ((if ((rest.length : Nat) : Int) < n then ((rest.length : Nat) : Int) else n).toNat) rest⟩] : List (RowG Pt)))) :: blk b1 [I64 (n), .slice la l.length lc] 57 :: I) from Fit.sub)
 ·refine W.exit ?_
  refine V.then_exit ?_
  refine V.then_exit ?_
  refine V.block_hit ?_
  refine V.then ?_
  refine W.sr ?_
  refine G.r (Runs.move rfl) ?_
  refine G.r (Runs.assign rfl) ?_
  refine G.nt ?_
  refine W.ret ?_
  exact V.ret1 rfl rfl (vc 55 (.slice a rs.length c) (rs) :: I) Fit.sub ⟨a, c, rs, rfl, ⟨hrs.trans (rest_done (by omega) hrest (by omega) hj), hh⟩, rfl⟩

theorem Blocks_ok {κ : Ctx} {I : List Item} {n : Int} {la : Option Addr} {lc : Nat} {l : List Pt} (hl : Sl κ I (.slice la l.length lc) l) (hv : RunOk n l) (hb : l.length ≤ 1000000000) :
    CallS Try.prog κ 45 [.agg #[I64 (n), .slice la l.length lc]] I (fun r J => r = I64 (nblocks n.toNat l) ∧ I = J) := by
 refine CallS.enter (L := [(0, .agg #[I64 (n), .slice la l.length lc])]) Try.func45 rfl rfl rfl rfl ?_
 refine W.sr ?_
 refine G.e (Eff.box (cs := [_, _]) rfl rfl rfl) ?_
 rintro _ _ ⟨b1, rfl, rfl⟩
 refine G.r (Runs.assign rfl) ?_
 refine G.nt ?_
 refine W.seq ?_
 refine W.sr ?_
 refine G.r (Runs.lds (vs := [_, _]) ty57) ?_
 refine G.e (Eff.call call65 rfl rfl (RunsCheck_ok (Sl.f hl) hv)) ?_
 rintro _ _ ⟨_, _, ⟨rfl, rfl⟩, rfl, rfl⟩
 refine G.r (Runs.neq rfl rfl) ?_
 refine G.nt ?_
 refine W.ite rfl (fun c5 => ?_) (fun c5 => ?_)
 ·exact absurd rfl c5
 ·refine W.skip ?_
  refine V.then ?_
  refine W.sr ?_
  refine G.r (Runs.lds (vs := [_, _]) ty57) ?_
  refine G.e (Eff.call call110 rfl rfl (Blk_ok (Sl.f hl) hv.size hb)) ?_
  rintro _ _ ⟨_, _, ⟨ad2, cp3, rs4, rfl, ⟨hmrs4, hhrs4⟩, rfl⟩, rfl, rfl⟩
  have hlenrs4 : rs4.length = nblocks (n).toNat l := by rw [rows_len hmrs4, blocks_len]
  refine G.r (Runs.lens Try.underlying151 rfl) ?_
  refine G.r (Runs.assign rfl) ?_
  refine G.nt ?_
  refine W.ret ?_
  exact V.ret1 rfl rfl (I) Fit.m ⟨by rw [hlenrs4], rfl⟩

theorem Find_ok {κ : Ctx} {I : List Item} {n : Int} {la : Option Addr} {lc : Nat} {l : List Pt} (hl : Sl κ I (.slice la l.length lc) l) (hv : RunOk n l) (hb : l.length ≤ 1000000000) (x : Pt) :
    CallS Try.prog κ 46 [.agg #[I64 (n), .slice la l.length lc], I64 (x.u), I64 (x.v)] I (fun r J => r = .tuple #[.bool (findB n.toNat l x).1, I64 (findB n.toNat l x).2, I64 0] ∧ I = J) := by
 have hnb := nblocks_le (n := n.toNat) (by have := hv.size; omega) l
 have hsz := hv.size
 refine CallS.enter (L := [(0, .agg #[I64 (n), .slice la l.length lc]), (1, I64 (x.u)), (2, I64 (x.v))]) Try.func46 rfl rfl rfl rfl ?_
 refine W.sr ?_
 refine G.e (Eff.box (cs := [_, _]) rfl rfl rfl) ?_
 rintro _ _ ⟨b1, rfl, rfl⟩
 refine G.r (Runs.assign rfl) ?_
 refine G.r (Runs.assign rfl) ?_
 refine G.r (Runs.assign rfl) ?_
 refine G.nt ?_
 refine W.seq ?_
 refine W.sr ?_
 refine G.r (Runs.lds (vs := [_, _]) ty57) ?_
 refine G.e (Eff.call call65 rfl rfl (RunsCheck_ok (Sl.f hl) hv)) ?_
 rintro _ _ ⟨_, _, ⟨rfl, rfl⟩, rfl, rfl⟩
 refine G.r (Runs.assign rfl) ?_
 refine G.nt ?_
 refine W.sr ?_
 refine G.r (Runs.move rfl) ?_
 refine G.r (Runs.neq rfl rfl) ?_
 refine G.nt ?_
 refine W.ite rfl (fun c20 => ?_) (fun c20 => ?_)
 ·exact absurd rfl c20
 ·refine W.skip ?_
  refine V.then ?_
  refine W.sr ?_
  refine G.r (Runs.lds (vs := [_, _]) ty57) ?_
  refine G.e (Eff.call call110 rfl rfl (Blk_ok (Sl.f hl) hv.size hb)) ?_
  rintro _ _ ⟨_, _, ⟨ad2, cp3, rs4, rfl, ⟨hmrs4, hhrs4⟩, rfl⟩, rfl, rfl⟩
  have hlenrs4 : rs4.length = nblocks (n).toNat l := by rw [rows_len hmrs4, blocks_len]
  refine G.r (Runs.move rfl) ?_
  refine G.r (Runs.move rfl) ?_
  refine G.r (Runs.buildArr (cells := [_, _]) ty60 Try.underlying60 ty3 rfl rfl) ?_
  refine G.e (Eff.alloc ty60 rfl) ?_
  rintro _ _ ⟨b5, rfl, rfl⟩
  refine G.r (Runs.assign rfl) ?_
  refine G.e (Eff.st (cs := [_, _]) (vs := [_, _]) (cs' := [_, _]) ty60) ?_
  rintro _ _ ⟨rfl, rfl⟩
  refine G.nt ?_
  refine W.sub (L' := [(10, _), (11, _)]) (Sub.cons rfl (Sub.cons rfl Sub.nil)) ?_
  refine W.sr ?_
  refine G.r (Runs.assign rfl) ?_
  refine G.nt ?_
  refine W.seq ?_
  refine W.sr ?_
  refine G.r (Runs.move rfl) ?_
  refine G.r (Runs.lens Try.underlying151 rfl) ?_
  refine G.r (Runs.sub rfl rfl (by unfold InR; omega)) ?_
  refine G.r (Runs.assign rfl) ?_
  refine G.r (Runs.assign rfl) ?_
  refine G.nt ?_
  refine W.block ?_
  refine W.loop (σ := Nat × Int × Int × Int) (fun s => ([(10, .slice ad2 rs4.length cp3), (11, .pointer (some ⟨b5, 0, none⟩)), (12, I64 (s.2.2.2)), (13, I64 (s.2.1)), (14, I64 (s.2.2.1))] : Env)) (fun s => blk b5 [I64 (x.u), I64 (x.v)] 60 :: vc 55 (.slice ad2 rs4.length cp3) (rs4) :: blk b1 [I64 (n), .slice la l.length lc] 57 :: I) (fun s => (findB n.toNat l x = searchB (blocks n.toNat l) x s.1 s.2.1 s.2.2.1 s.2.2.2) ∧ (0 ≤ s.2.1) ∧ (s.2.2.1 < (nblocks n.toNat l : Nat)) ∧ (s.2.1 ≤ s.2.2.1 + 1) ∧ (s.2.2.1 - s.2.1 + 1 < s.1) ∧ (0 ≤ s.2.2.2 ∧ s.2.2.2 + s.1 ≤ nblocks n.toNat l + 1)) (fun s => s.1) (nblocks n.toNat l + 1, 0, ((nblocks n.toNat l : Nat) : Int) - 1, 0) (show (findB n.toNat l x = searchB (blocks n.toNat l) x (nblocks n.toNat l + 1 : Nat) (0 : Int) (((nblocks n.toNat l : Nat) : Int) - 1 : Int) (0 : Int)) ∧ (0 ≤ (0 : Int)) ∧ ((((nblocks n.toNat l : Nat) : Int) - 1 : Int) < (nblocks n.toNat l : Nat)) ∧ ((0 : Int) ≤ (((nblocks n.toNat l : Nat) : Int) - 1 : Int) + 1) ∧ ((((nblocks n.toNat l : Nat) : Int) - 1 : Int) - (0 : Int) + 1 < (nblocks n.toNat l + 1 : Nat)) ∧ (0 ≤ (0 : Int) ∧ (0 : Int) + (nblocks n.toNat l + 1 : Nat) ≤ nblocks n.toNat l + 1) from ⟨rfl, (by omega), (by omega), (by omega), (by omega), (by omega)⟩) (Sub.cons rfl (Sub.cons rfl (Sub.cons lookO (Sub.cons lookO (Sub.cons lookO Sub.nil))))) (show Fit κ _ (blk b5 [I64 (x.u), I64 (x.v)] 60 :: vc 55 (.slice ad2 rs4.length cp3) (rs4) :: blk b1 [I64 (n), .slice la l.length lc] 57 :: I) from Fit.sub) ?_
  rintro ⟨fu, fi, la_, rd⟩ hp
  obtain ⟨hf, h0, h1, h2, h3, h4⟩ : (findB n.toNat l x = searchB (blocks n.toNat l) x fu fi la_ rd) ∧ (0 ≤ fi) ∧ (la_ < (nblocks n.toNat l : Nat)) ∧ (fi ≤ la_ + 1) ∧ (la_ - fi + 1 < fu) ∧ (0 ≤ rd ∧ rd + fu ≤ nblocks n.toNat l + 1) := hp
  show W Try.prog κ 69 _ _ ([(10, .slice ad2 rs4.length cp3), (11, .pointer (some ⟨b5, 0, none⟩)), (12, I64 (rd)), (13, I64 (fi)), (14, I64 (la_))] : Env) (blk b5 [I64 (x.u), I64 (x.v)] 60 :: vc 55 (.slice ad2 rs4.length cp3) (rs4) :: blk b1 [I64 (n), .slice la l.length lc] 57 :: I)
  have hrl : rs4.length = nblocks n.toNat l := hlenrs4
  obtain ⟨f1, hf1⟩ : ∃ f1, fu = f1 + 1 := ⟨fu - 1, by omega⟩
  rw [hf1] at hf
  have hmx : fi ≤ la_ → (at_ rs4 ((fi + la_) / 2)).xs = at_ (blocks n.toNat l) ((fi + la_) / 2) := fun h => rows_at hmrs4 (by omega) (by omega)
  have hpos : fi ≤ la_ → 0 < (at_ (blocks n.toNat l) ((fi + la_) / 2)).length := fun h => block_pos (by omega) (by omega) (by omega)
  refine W.seq ?_
  refine W.sr ?_
  refine G.r (Runs.move rfl) ?_
  refine G.r (Runs.move rfl) ?_
  refine G.r (Runs.leq rfl rfl) ?_
  refine G.nt ?_
  refine W.ite rfl (fun c32 => ?_) (fun c32 => ?_)
  ·refine W.skip ?_
   refine V.then ?_
   refine W.block ?_
   refine W.sr ?_
   refine G.r (Runs.move rfl) ?_
   refine G.r (Runs.move rfl) ?_
   refine G.r (Runs.add rfl rfl (by unfold InR; omega)) ?_
   refine G.r (Runs.quo rfl rfl (by omega) (by omega) (by unfold InR; omega)) ?_
   refine G.r (Runs.assign rfl) ?_
   have hmx1 := hmx (by omega)
   have hpos1 := hpos (by omega)
   have hble := block_le (n := n.toNat) (l := l) (by omega) (i := (fi + la_) / 2) (by omega) (by omega)
   rw [← hmx1] at hble
   rw [← hmx1] at hpos1
   refine G.nt ?_
   refine W.sr ?_
   refine G.r (Runs.move rfl) ?_
   refine G.r (Runs.move rfl) ?_
   refine G.r (Runs.idx (α := (RowG Pt)) (xs := rs4) Try.underlying151 ty55 rfl rfl Sl.o (by omega) (by omega)) ?_
   refine G.r (Runs.getf0 (α := (RowG Pt)) (xs := rs4) (u := .slice (at_ rs4 ((fi + la_) / 2)).a (at_ rs4 ((fi + la_) / 2)).xs.length (at_ rs4 ((fi + la_) / 2)).c) ty55 rfl Sl.o (by omega) (by omega) rfl) ?_
   refine G.r (Runs.assign rfl) ?_
   refine G.nt ?_
   refine W.sub (L' := [(16, _), (15, _), (10, _), (11, _), (12, _), (13, _), (14, _)]) (Sub.cons rfl (Sub.cons rfl (Sub.cons rfl (Sub.cons rfl (Sub.cons rfl (Sub.cons rfl (Sub.cons rfl Sub.nil))))))) ?_
   refine W.sr ?_
   refine G.r (Runs.move rfl) ?_
   refine G.r (Runs.add rfl rfl (by unfold InR; omega)) ?_
   refine G.r (Runs.assign rfl) ?_
   refine G.nt ?_
   refine W.block ?_
   refine W.seq ?_
   refine W.drawn mixed ?_
   refine A.hold (blk b5 [I64 (x.u), I64 (x.v)] 60 :: vc 55 (.slice ad2 rs4.length cp3) (rs4) :: blk b1 [I64 (n), .slice la l.length lc] 57 :: I) 7 ?_
   refine D.r 0 rfl (Runs.lds (vs := [_, _]) ty60) ?_
   refine D.r 1 rfl (Runs.move rfl) ?_
   refine D.r 2 rfl (Runs.idx (α := Pt) (xs := (at_ rs4 ((fi + la_) / 2)).xs) Try.underlying55 ty60 rfl rfl (Sl.fit (HeldAll.at hhrs4 (i := ((fi + la_) / 2)) (by omega) (by omega)) Fit.m) (by omega) (by omega)) ?_
   refine D.r 3 rfl (Runs.gets (α := Pt) (xs := (at_ rs4 ((fi + la_) / 2)).xs) ty60 rfl (Sl.fit (HeldAll.at hhrs4 (i := ((fi + la_) / 2)) (by omega) (by omega)) Fit.m) (by omega) (by omega)) ?_
   refine D.step (rs := [4]) (by kernel_rfl) rfl rfl (all1 ?_)
   refine Step.eff rfl (Wanted.plain rfl) (Eff.call call111 rfl rfl (RCompare_ok x (at_ ((at_ rs4 ((fi + la_) / 2)).xs) 0))) ?_
   rintro _ _ ⟨_, _, ⟨rfl, rfl⟩, rfl, rfl⟩
   refine ⟨Fit.m, ?_⟩
   refine D.r 5 rfl (Runs.lss rfl rfl) ?_
   refine D.r 6 rfl (Runs.assign rfl) ?_
   refine D.done (by kernel_rfl) ?_
   refine V.then ?_
   refine W.sub (L' := [(47, _), (12, _), (16, _), (15, _), (10, _), (11, _), (13, _), (14, _)]) (Sub.cons rfl (Sub.cons rfl (Sub.cons rfl (Sub.cons rfl (Sub.cons rfl (Sub.cons rfl (Sub.cons rfl (Sub.cons rfl Sub.nil)))))))) ?_
   refine W.ite rfl (fun c47 => ?_) (fun c47 => ?_)
   ·refine W.region ?_
    refine G.r (Runs.move rfl) ?_
    refine G.r (Runs.sub rfl rfl (by unfold InR; omega)) ?_
    refine G.r (Runs.assign rfl) ?_
    refine G.nil ?_
    refine V.block_normal ?_
    refine V.block_normal ?_
    exact V.next ((f1), (fi), (((fi + la_) / 2) - 1), (rd + 1)) (show (findB n.toNat l x = searchB (blocks n.toNat l) x (f1 : Nat) (fi : Int) (((fi + la_) / 2) - 1 : Int) (rd + 1 : Int)) ∧ (0 ≤ (fi : Int)) ∧ ((((fi + la_) / 2) - 1 : Int) < (nblocks n.toNat l : Nat)) ∧ ((fi : Int) ≤ (((fi + la_) / 2) - 1 : Int) + 1) ∧ ((((fi + la_) / 2) - 1 : Int) - (fi : Int) + 1 < (f1 : Nat)) ∧ (0 ≤ (rd + 1 : Int) ∧ (rd + 1 : Int) + (f1 : Nat) ≤ nblocks n.toNat l + 1) from ⟨(by first | exact hf.trans (search_lo (by omega) rfl (by rw [← hmx1]; exact c47)) | exact hf.trans (search_hi (by omega) rfl (by rw [← hmx1]; exact c47) (by rw [← hmx1]; exact c56))), (by omega), (by omega), (by omega), (by omega), (by omega)⟩) (show (f1 : Nat) < fu from (by omega)) (Sub.cons rfl (Sub.cons rfl (Sub.cons lookO (Sub.cons lookO (Sub.cons lookO Sub.nil))))) (show Fit κ _ (blk b5 [I64 (x.u), I64 (x.v)] 60 :: vc 55 (.slice ad2 rs4.length cp3) (rs4) :: blk b1 [I64 (n), .slice la l.length lc] 57 :: I) from Fit.sub)
   ·refine W.seq ?_
    refine W.drawn mixed ?_
    refine A.hold (blk b5 [I64 (x.u), I64 (x.v)] 60 :: vc 55 (.slice ad2 rs4.length cp3) (rs4) :: blk b1 [I64 (n), .slice la l.length lc] 57 :: I) 10 ?_
    refine D.r 0 rfl (Runs.lds (vs := [_, _]) ty60) ?_
    refine D.r 1 rfl (Runs.move rfl) ?_
    refine D.r 2 rfl (Runs.move rfl) ?_
    refine D.r 3 rfl (Runs.lens Try.underlying55 rfl) ?_
    refine D.r 4 rfl (Runs.sub rfl rfl (by unfold InR; omega)) ?_
    refine D.r 5 rfl (Runs.idx (α := Pt) (xs := (at_ rs4 ((fi + la_) / 2)).xs) Try.underlying55 ty60 rfl rfl (Sl.fit (HeldAll.at hhrs4 (i := ((fi + la_) / 2)) (by omega) (by omega)) Fit.m) (by omega) (by omega)) ?_
    refine D.r 6 rfl (Runs.gets (α := Pt) (xs := (at_ rs4 ((fi + la_) / 2)).xs) ty60 rfl (Sl.fit (HeldAll.at hhrs4 (i := ((fi + la_) / 2)) (by omega) (by omega)) Fit.m) (by omega) (by omega)) ?_
    refine D.step (rs := [7]) (by kernel_rfl) rfl rfl (all1 ?_)
    refine Step.eff rfl (Wanted.plain rfl) (Eff.call call111 rfl rfl (RCompare_ok x (at_ ((at_ rs4 ((fi + la_) / 2)).xs) ((((at_ rs4 ((fi + la_) / 2)).xs.length : Nat) : Int) - 1)))) ?_
    rintro _ _ ⟨_, _, ⟨rfl, rfl⟩, rfl, rfl⟩
    refine ⟨Fit.m, ?_⟩
    refine D.r 8 rfl (Runs.gtr rfl rfl) ?_
    refine D.r 9 rfl (Runs.assign rfl) ?_
    refine D.done (by kernel_rfl) ?_
    refine V.then ?_
    refine W.sub (L' := [(56, _), (12, _), (16, _), (15, _), (10, _), (11, _), (14, _)]) (Sub.cons rfl (Sub.cons rfl (Sub.cons rfl (Sub.cons rfl (Sub.cons rfl (Sub.cons rfl (Sub.cons rfl Sub.nil))))))) ?_
    refine W.ite rfl (fun c56 => ?_) (fun c56 => ?_)
    ·refine W.region ?_
     refine G.r (Runs.move rfl) ?_
     refine G.r (Runs.add rfl rfl (by unfold InR; omega)) ?_
     refine G.r (Runs.assign rfl) ?_
     refine G.nil ?_
     refine V.block_normal ?_
     refine V.block_normal ?_
     exact V.next ((f1), (((fi + la_) / 2) + 1), (la_), (rd + 1)) (show (findB n.toNat l x = searchB (blocks n.toNat l) x (f1 : Nat) (((fi + la_) / 2) + 1 : Int) (la_ : Int) (rd + 1 : Int)) ∧ (0 ≤ (((fi + la_) / 2) + 1 : Int)) ∧ ((la_ : Int) < (nblocks n.toNat l : Nat)) ∧ ((((fi + la_) / 2) + 1 : Int) ≤ (la_ : Int) + 1) ∧ ((la_ : Int) - (((fi + la_) / 2) + 1 : Int) + 1 < (f1 : Nat)) ∧ (0 ≤ (rd + 1 : Int) ∧ (rd + 1 : Int) + (f1 : Nat) ≤ nblocks n.toNat l + 1) from ⟨(by first | exact hf.trans (search_lo (by omega) rfl (by rw [← hmx1]; exact c47)) | exact hf.trans (search_hi (by omega) rfl (by rw [← hmx1]; exact c47) (by rw [← hmx1]; exact c56))), (by omega), (by omega), (by omega), (by omega), (by omega)⟩) (show (f1 : Nat) < fu from (by omega)) (Sub.cons rfl (Sub.cons rfl (Sub.cons lookO (Sub.cons lookO (Sub.cons lookO Sub.nil))))) (show Fit κ _ (blk b5 [I64 (x.u), I64 (x.v)] 60 :: vc 55 (.slice ad2 rs4.length cp3) (rs4) :: blk b1 [I64 (n), .slice la l.length lc] 57 :: I) from Fit.sub)
    ·refine W.sr ?_
     refine G.r (Runs.move rfl) ?_
     refine G.r (Runs.lds (vs := [_, _]) ty60) ?_
     refine G.e (Eff.call call112 rfl rfl (ContainsP_ok (Sl.fit (HeldAll.at hhrs4 (i := ((fi + la_) / 2)) (by omega) (by omega)) Fit.m) x)) ?_
     rintro _ _ ⟨_, _, ⟨rfl, rfl⟩, rfl, rfl⟩
     refine G.r (Runs.move rfl) ?_
     refine G.r (Runs.assign rfl) ?_
     refine G.r (Runs.assign rfl) ?_
     refine G.r (Runs.assign rfl) ?_
     refine G.nt ?_
     refine W.sub (L' := [(8, _), (7, _), (6, _)]) (Sub.cons rfl (Sub.cons rfl (Sub.cons rfl Sub.nil))) ?_
     refine W.ret ?_
     refine V.block_ret ?_
     refine V.block_ret ?_
     refine V.then_ret ?_
     refine V.block_ret ?_
     refine V.then_ret ?_
     have hfin := hf.trans (search_in (by omega) rfl (by rw [← hmx1]; exact c47) (by rw [← hmx1]; exact c56))
     exact V.ret3 rfl rfl rfl rfl (I) Fit.m ⟨by rw [hfin, hmx1], rfl⟩
  ·refine W.exit ?_
   refine V.then_exit ?_
   refine V.then_exit ?_
   refine V.block_hit ?_
   refine V.then ?_
   refine W.sr ?_
   refine G.r (Runs.move rfl) ?_
   refine G.r (Runs.assign rfl) ?_
   refine G.r (Runs.assign rfl) ?_
   refine G.r (Runs.assign rfl) ?_
   refine G.nt ?_
   refine W.ret ?_
   have hfin := hf.trans (search_no (by omega))
   exact V.ret3 rfl rfl rfl rfl (I) Fit.m ⟨by rw [hfin], rfl⟩

end Go.Sl
namespace Go.Sl
open Go.Proofs
set_option linter.unusedVariables false
set_option linter.unusedSimpArgs false
set_option maxRecDepth 4000
set_option maxHeartbeats 1000000 in
theorem Neighbours_ok {κ : Ctx} {I : List Item} {n : Int} {la : Option Addr} {lc : Nat} {l : List Pt} (hl : Sl κ I (.slice la l.length lc) l) (hv : RunOk n l) (hb : l.length ≤ 1000000000) (u : Int) :
    CallS Try.prog κ 47 [.agg #[I64 (n), .slice la l.length lc], I64 (u)] I (fun r J => ∃ a c, r = .tuple #[.slice a (nbr l u).length c, I64 (nreads (blocks n.toNat l) u), I64 0] ∧ J = vc 3 (.slice a (nbr l u).length c) (nbr l u) :: I) := by
 have hnb := nblocks_le (n := n.toNat) (by have := hv.size; omega) l
 have hsz := hv.size
 refine CallS.enter (L := [(0, .agg #[I64 (n), .slice la l.length lc]), (1, I64 (u))]) Try.func47 rfl rfl rfl rfl ?_
 refine W.sr ?_
 refine G.e (Eff.box (cs := [_, _]) rfl rfl rfl) ?_
 rintro _ _ ⟨b1, rfl, rfl⟩
 refine G.r (Runs.assign rfl) ?_
 refine G.r (Runs.assign rfl) ?_
 refine G.r (Runs.assign rfl) ?_
 refine G.nt ?_
 refine W.seq ?_
 refine W.sr ?_
 refine G.r (Runs.lds (vs := [_, _]) ty57) ?_
 refine G.e (Eff.call call65 rfl rfl (RunsCheck_ok (Sl.f hl) hv)) ?_
 rintro _ _ ⟨_, _, ⟨rfl, rfl⟩, rfl, rfl⟩
 refine G.r (Runs.assign rfl) ?_
 refine G.nt ?_
 refine W.sr ?_
 refine G.r (Runs.move rfl) ?_
 refine G.r (Runs.neq rfl rfl) ?_
 refine G.nt ?_
 refine W.ite rfl (fun c18 => ?_) (fun c18 => ?_)
 ·exact absurd rfl c18
 ·refine W.skip ?_
  refine V.then ?_
  refine W.sr ?_
  refine G.r (Runs.assign rfl) ?_
  refine G.nt ?_
  refine W.sr ?_
  refine G.r (Runs.assign rfl) ?_
  refine G.nt ?_
  refine W.seq ?_
  refine W.sr ?_
  refine G.r (Runs.lds (vs := [_, _]) ty57) ?_
  refine G.e (Eff.call call110 rfl rfl (Blk_ok (Sl.f hl) hv.size hb)) ?_
  rintro _ _ ⟨_, _, ⟨ad2, cp3, rs4, rfl, ⟨hmrs4, hhrs4⟩, rfl⟩, rfl, rfl⟩
  have hlenrs4 : rs4.length = nblocks (n).toNat l := by rw [rows_len hmrs4, blocks_len]
  refine G.r (Runs.lens Try.underlying151 rfl) ?_
  refine G.r (Runs.move rfl) ?_
  refine G.nt ?_
  refine W.sub (L' := [(23, _), (22, _), (21, _), (9, _), (8, _), (1, _)]) (Sub.cons rfl (Sub.cons rfl (Sub.cons rfl (Sub.cons rfl (Sub.cons rfl (Sub.cons rfl Sub.nil)))))) ?_
  refine W.block ?_
  refine W.loop (σ := Nat × Int × (Option Addr) × Nat × (List Int)) (fun s => ([(1, I64 (u)), (8, .slice s.2.2.1 s.2.2.2.2.length s.2.2.2.1), (9, I64 (s.2.1)), (21, .slice ad2 rs4.length cp3), (22, I64 (((rs4.length : Nat) : Int))), (23, I64 (((s.1 : Nat) : Int)))] : Env)) (fun s => vc 3 (.slice s.2.2.1 s.2.2.2.2.length s.2.2.2.1) (s.2.2.2.2) :: vc 55 (.slice ad2 rs4.length cp3) (rs4) :: blk b1 [I64 (n), .slice la l.length lc] 57 :: I) (fun s => (s.1 ≤ rs4.length) ∧ (s.2.1 = (nreads ((blocks n.toNat l).take s.1) u : Nat)) ∧ (0 ≤ s.2.1 ∧ s.2.1 ≤ s.1) ∧ (s.2.2.2.2 = nbr ((blocks n.toNat l).take s.1).flatten u)) (fun s => rs4.length - s.1) (0, 0, none, 0, []) (show ((0 : Nat) ≤ rs4.length) ∧ ((0 : Int) = (nreads ((blocks n.toNat l).take (0 : Nat)) u : Nat)) ∧ (0 ≤ (0 : Int) ∧ (0 : Int) ≤ (0 : Nat)) ∧ (([] : List Int) = nbr ((blocks n.toNat l).take (0 : Nat)).flatten u) from ⟨(by omega), (by simp [nreads]), (by omega), (by simp [nbr])⟩) (Sub.cons rfl (Sub.cons (lookV rfl (by first | rfl | simp)) (Sub.cons lookO (Sub.cons rfl (Sub.cons rfl (Sub.cons lookO Sub.nil)))))) (show Fit κ _ (vc 3 (.slice (none) ([]).length (0)) (([])) :: vc 55 (.slice ad2 rs4.length cp3) (rs4) :: blk b1 [I64 (n), .slice la l.length lc] 57 :: I) from (Fit.nilvc _ _)) ?_
  rintro ⟨k, rd, a, c, out⟩ hp
  obtain ⟨hk, hrd, hrdk, hout⟩ : (k ≤ rs4.length) ∧ (rd = (nreads ((blocks n.toNat l).take k) u : Nat)) ∧ (0 ≤ rd ∧ rd ≤ k) ∧ (out = nbr ((blocks n.toNat l).take k).flatten u) := hp
  show W Try.prog κ 54 _ _ ([(1, I64 (u)), (8, .slice a out.length c), (9, I64 (rd)), (21, .slice ad2 rs4.length cp3), (22, I64 (((rs4.length : Nat) : Int))), (23, I64 (((k : Nat) : Int)))] : Env) (vc 3 (.slice a out.length c) (out) :: vc 55 (.slice ad2 rs4.length cp3) (rs4) :: blk b1 [I64 (n), .slice la l.length lc] 57 :: I)
  have hbl : (blocks n.toNat l).length = nblocks n.toNat l := blocks_len _ _
  have hfl := flat_le (n := n.toNat) (by omega) l k u
  rw [← hout] at hfl
  refine W.sr ?_
  refine G.r (Runs.lss rfl rfl) ?_
  refine G.nt ?_
  refine W.seq ?_
  refine W.ite rfl (fun c24 => ?_) (fun c24 => ?_)
  ·refine W.skip ?_
   refine V.then ?_
   refine W.seq ?_
   refine W.block ?_
   refine W.sr ?_
   refine G.r (Runs.idx (α := (RowG Pt)) (xs := rs4) Try.underlying151 ty55 rfl rfl Sl.o (by omega) (by omega)) ?_
   refine G.r (Runs.getf0 (α := (RowG Pt)) (xs := rs4) (u := .slice (at_ rs4 ((k : Nat) : Int)).a (at_ rs4 ((k : Nat) : Int)).xs.length (at_ rs4 ((k : Nat) : Int)).c) ty55 rfl Sl.o (by omega) (by omega) rfl) ?_
   refine G.r (Runs.assign rfl) ?_
   have hxs := rows_at hmrs4 (i := ((k : Nat) : Int)) (by omega) (by omega)
   have hble := block_le (n := n.toNat) (l := l) (by omega) (i := ((k : Nat) : Int)) (by omega) (by omega)
   rw [← hxs] at hble
   have hout0 := hout
   refine G.nt ?_
   refine W.sr ?_
   refine G.r (Runs.move rfl) ?_
   refine G.r (Runs.lens Try.underlying22 rfl) ?_
   refine G.r (Runs.assign rfl) ?_
   refine G.nt ?_
   refine W.seq ?_
   refine W.sr ?_
   refine G.r (Runs.move rfl) ?_
   refine G.r (Runs.lens Try.underlying55 rfl) ?_
   refine G.r (Runs.move rfl) ?_
   refine G.nt ?_
   refine W.sub (L' := [(31, _), (30, _), (29, _), (12, _), (1, _), (8, _), (9, _), (21, _), (22, _), (23, _)]) (Sub.cons rfl (Sub.cons rfl (Sub.cons rfl (Sub.cons rfl (Sub.cons rfl (Sub.cons rfl (Sub.cons rfl (Sub.cons rfl (Sub.cons rfl (Sub.cons rfl Sub.nil)))))))))) ?_
   refine W.block ?_
   refine W.loop (σ := Nat × (Option Addr) × Nat × (List Int)) (fun s => ([(1, I64 (u)), (8, .slice s.2.1 s.2.2.2.length s.2.2.1), (9, I64 (rd)), (12, I64 (((out.length : Nat) : Int))), (21, .slice ad2 rs4.length cp3), (22, I64 (((rs4.length : Nat) : Int))), (23, I64 (((k : Nat) : Int))), (29, .slice (at_ rs4 ((k : Nat) : Int)).a (at_ rs4 ((k : Nat) : Int)).xs.length (at_ rs4 ((k : Nat) : Int)).c), (30, I64 ((((at_ rs4 ((k : Nat) : Int)).xs.length : Nat) : Int))), (31, I64 (((s.1 : Nat) : Int)))] : Env)) (fun s => vc 3 (.slice s.2.1 s.2.2.2.length s.2.2.1) (s.2.2.2) :: vc 55 (.slice ad2 rs4.length cp3) (rs4) :: blk b1 [I64 (n), .slice la l.length lc] 57 :: I) (fun s => (s.1 ≤ (at_ rs4 ((k : Nat) : Int)).xs.length) ∧ (s.2.2.2 = out ++ nbr ((at_ rs4 ((k : Nat) : Int)).xs.take s.1) u)) (fun s => (at_ rs4 ((k : Nat) : Int)).xs.length - s.1) (0, a, c, out) (show ((0 : Nat) ≤ (at_ rs4 ((k : Nat) : Int)).xs.length) ∧ ((out : List Int) = out ++ nbr ((at_ rs4 ((k : Nat) : Int)).xs.take (0 : Nat)) u) from ⟨(by omega), (by simp [nbr])⟩) (Sub.cons rfl (Sub.cons (lookV rfl (by first | rfl | simp)) (Sub.cons rfl (Sub.cons rfl (Sub.cons rfl (Sub.cons rfl (Sub.cons rfl (Sub.cons rfl (Sub.cons rfl (Sub.cons lookO Sub.nil)))))))))) (show Fit κ _ (vc 3 (.slice (a) (out).length (c)) ((out)) :: vc 55 (.slice ad2 rs4.length cp3) (rs4) :: blk b1 [I64 (n), .slice la l.length lc] 57 :: I) from Fit.sub) ?_
   rintro ⟨j, a, c, out2⟩ hp
   obtain ⟨hj, hin⟩ : (j ≤ (at_ rs4 ((k : Nat) : Int)).xs.length) ∧ (out2 = out ++ nbr ((at_ rs4 ((k : Nat) : Int)).xs.take j) u) := hp
   show W Try.prog κ 54 _ _ ([(1, I64 (u)), (8, .slice a out2.length c), (9, I64 (rd)), (12, I64 (((out.length : Nat) : Int))), (21, .slice ad2 rs4.length cp3), (22, I64 (((rs4.length : Nat) : Int))), (23, I64 (((k : Nat) : Int))), (29, .slice (at_ rs4 ((k : Nat) : Int)).a (at_ rs4 ((k : Nat) : Int)).xs.length (at_ rs4 ((k : Nat) : Int)).c), (30, I64 ((((at_ rs4 ((k : Nat) : Int)).xs.length : Nat) : Int))), (31, I64 (((j : Nat) : Int)))] : Env) (vc 3 (.slice a out2.length c) (out2) :: vc 55 (.slice ad2 rs4.length cp3) (rs4) :: blk b1 [I64 (n), .slice la l.length lc] 57 :: I)
   have hol : out2.length ≤ out.length + j := by rw [hin, List.length_append]; have := nbr_len ((at_ rs4 ((k : Nat) : Int)).xs.take j) u; have := List.length_take_le j (at_ rs4 ((k : Nat) : Int)).xs; omega
   refine W.sr ?_
   refine G.r (Runs.lss rfl rfl) ?_
   refine G.nt ?_
   refine W.seq ?_
   refine W.ite rfl (fun c32 => ?_) (fun c32 => ?_)
   ·refine W.skip ?_
    refine V.then ?_
    refine W.seq ?_
    refine W.block ?_
    refine W.sr ?_
    refine G.r (Runs.idx (α := Pt) (xs := (at_ rs4 ((k : Nat) : Int)).xs) Try.underlying55 ty60 rfl rfl (Sl.fit (HeldAll.at hhrs4 (i := ((k : Nat) : Int)) (by omega) (by omega)) Fit.m) (by omega) (by omega)) ?_
    refine G.r (Runs.gets (α := Pt) (xs := (at_ rs4 ((k : Nat) : Int)).xs) ty60 rfl (Sl.fit (HeldAll.at hhrs4 (i := ((k : Nat) : Int)) (by omega) (by omega)) Fit.m) (by omega) (by omega)) ?_
    refine G.e (Eff.alloc ty60 rfl) ?_
    rintro _ _ ⟨b5, rfl, rfl⟩
    refine G.e (Eff.st (cs := [_, _]) (vs := [_, _]) (cs' := [_, _]) ty60) ?_
    rintro _ _ ⟨rfl, rfl⟩
    refine G.nt ?_
    refine W.sub (L' := [(14, _), (1, _), (8, _), (9, _), (12, _), (21, _), (22, _), (23, _), (29, _), (30, _), (31, _)]) (Sub.cons rfl (Sub.cons rfl (Sub.cons rfl (Sub.cons rfl (Sub.cons rfl (Sub.cons rfl (Sub.cons rfl (Sub.cons rfl (Sub.cons rfl (Sub.cons rfl (Sub.cons rfl Sub.nil))))))))))) ?_
    refine W.sr ?_
    refine G.r (Runs.idxArr Try.underlying60 ty2 rfl rfl (by omega) (by omega)) ?_
    refine G.r (Runs.ld ty3) ?_
    refine G.r (Runs.move rfl) ?_
    refine G.r (Runs.eql rfl rfl) ?_
    refine G.nt ?_
    refine W.sub (L' := [(38, _), (14, _), (1, _), (8, _), (9, _), (12, _), (21, _), (22, _), (23, _), (29, _), (30, _), (31, _)]) (Sub.cons rfl (Sub.cons rfl (Sub.cons rfl (Sub.cons rfl (Sub.cons rfl (Sub.cons rfl (Sub.cons rfl (Sub.cons rfl (Sub.cons rfl (Sub.cons rfl (Sub.cons rfl (Sub.cons rfl Sub.nil)))))))))))) ?_
    refine W.ite rfl (fun c38 => ?_) (fun c38 => ?_)
    ·refine W.region ?_
     refine G.r (Runs.move rfl) ?_
     refine G.r (Runs.idxArr Try.underlying60 ty2 rfl rfl (by omega) (by omega)) ?_
     refine G.r (Runs.ld ty3) ?_
     refine G.e (Eff.bs (α := Int) (cs := [_]) (xs := [(at_ ((at_ rs4 ((k : Nat) : Int)).xs) ((j : Nat) : Int)).v]) Try.underlying22 ty3 rfl rfl (by decide) (by decide) rfl rfl rfl rfl) ?_
     rintro _ _ ⟨ad6, rfl, rfl⟩
     refine G.e (Eff.app (α := Int) (e := 3) (xs := out2) (ys := ([(at_ ((at_ rs4 ((k : Nat) : Int)).xs) ((j : Nat) : Int)).v] : List Int)) Try.underlying22 ty3 rfl rfl rfl (by repeat (first | exact List.mem_cons_self | apply List.mem_cons_of_mem)) Sl.o (by simp only [List.length_cons, List.length_nil]; omega) (by decide) rfl (fun _ _ => (by repeat (first | exact At.head _ _ _ | apply At.tail)))) ?_
     rintro _ _ ⟨ad7, cp8, rfl, rfl⟩
     refine G.r (Runs.assign rfl) ?_
     refine G.nil ?_
     refine V.block_normal ?_
     refine V.then ?_
     refine W.sub (L' := [(8, _), (1, _), (9, _), (12, _), (21, _), (22, _), (23, _), (29, _), (30, _), (31, _)]) (Sub.cons rfl (Sub.cons rfl (Sub.cons rfl (Sub.cons rfl (Sub.cons rfl (Sub.cons rfl (Sub.cons rfl (Sub.cons rfl (Sub.cons rfl (Sub.cons rfl Sub.nil)))))))))) ?_
     refine W.region ?_
     refine G.r (Runs.add rfl rfl (by unfold InR; omega)) ?_
     refine G.r (Runs.move rfl) ?_
     refine G.nil ?_
     exact V.next ((j + 1), (ad7), (cp8), (out2 ++ ([(at_ ((at_ rs4 ((k : Nat) : Int)).xs) ((j : Nat) : Int)).v] : List Int))) (show ((j + 1 : Nat) ≤ (at_ rs4 ((k : Nat) : Int)).xs.length) ∧ ((out2 ++ ([(at_ ((at_ rs4 ((k : Nat) : Int)).xs) ((j : Nat) : Int)).v] : List Int) : List Int) = out ++ nbr ((at_ rs4 ((k : Nat) : Int)).xs.take (j + 1 : Nat)) u) from ⟨(by omega), (by first | exact nbr_yes (by omega) hin c38 | exact nbr_no (by omega) hin c38)⟩) (show (at_ rs4 ((k : Nat) : Int)).xs.length - (j + 1 : Nat) < (at_ rs4 ((k : Nat) : Int)).xs.length - j from (by omega)) (Sub.cons rfl (Sub.cons (lookV rfl (by first | rfl | simp)) (Sub.cons rfl (Sub.cons rfl (Sub.cons rfl (Sub.cons rfl (Sub.cons rfl (Sub.cons rfl (Sub.cons rfl (Sub.cons lookO Sub.nil)))))))))) (show Fit κ _ (vc 3 (.slice (ad7) (out2 ++ ([(at_ ((at_ rs4 ((k : Nat) : Int)).xs) ((j : Nat) : Int)).v] : List Int)).length (cp8)) ((out2 ++ ([(at_ ((at_ rs4 ((k : Nat) : Int)).xs) ((j : Nat) : Int)).v] : List Int))) :: vc 55 (.slice ad2 rs4.length cp3) (rs4) :: blk b1 [I64 (n), .slice la l.length lc] 57 :: I) from Fit.sub)
    ·refine W.skip ?_
     refine V.block_normal ?_
     refine V.then ?_
     refine W.region ?_
     refine G.r (Runs.add rfl rfl (by unfold InR; omega)) ?_
     refine G.r (Runs.move rfl) ?_
     refine G.nil ?_
     exact V.next ((j + 1), (a), (c), (out2)) (show ((j + 1 : Nat) ≤ (at_ rs4 ((k : Nat) : Int)).xs.length) ∧ ((out2 : List Int) = out ++ nbr ((at_ rs4 ((k : Nat) : Int)).xs.take (j + 1 : Nat)) u) from ⟨(by omega), (by first | exact nbr_yes (by omega) hin c38 | exact nbr_no (by omega) hin c38)⟩) (show (at_ rs4 ((k : Nat) : Int)).xs.length - (j + 1 : Nat) < (at_ rs4 ((k : Nat) : Int)).xs.length - j from (by omega)) (Sub.cons rfl (Sub.cons (lookV rfl (by first | rfl | simp)) (Sub.cons rfl (Sub.cons rfl (Sub.cons rfl (Sub.cons rfl (Sub.cons rfl (Sub.cons rfl (Sub.cons rfl (Sub.cons lookO Sub.nil)))))))))) (show Fit κ _ (vc 3 (.slice (a) (out2).length (c)) ((out2)) :: vc 55 (.slice ad2 rs4.length cp3) (rs4) :: blk b1 [I64 (n), .slice la l.length lc] 57 :: I) from Fit.sub)
   ·refine W.exit ?_
    refine V.then_exit ?_
    refine V.then_exit ?_
    refine V.block_hit ?_
    refine V.then ?_
    refine W.sr ?_
    refine G.r (Runs.move rfl) ?_
    refine G.r (Runs.lens Try.underlying22 rfl) ?_
    have hin2 : out2 = out ++ nbr (at_ (blocks n.toNat l) ((k : Nat) : Int)) u := by rw [hin, List.take_of_length_le (by omega), hxs]
    have hhas : (out.length < out2.length → hasU u (at_ (blocks n.toNat l) ((k : Nat) : Int)) = true) ∧ (hasU u (at_ (blocks n.toNat l) ((k : Nat) : Int)) = true → out.length < out2.length) := has_len hin2
    refine G.r (Runs.move rfl) ?_
    refine G.r (Runs.gtr rfl rfl) ?_
    refine G.nt ?_
    refine W.sub (L' := [(48, _), (1, _), (8, _), (9, _), (21, _), (22, _), (23, _)]) (Sub.cons rfl (Sub.cons rfl (Sub.cons rfl (Sub.cons rfl (Sub.cons rfl (Sub.cons rfl (Sub.cons rfl Sub.nil))))))) ?_
    refine W.ite rfl (fun c48 => ?_) (fun c48 => ?_)
    ·refine W.region ?_
     refine G.r (Runs.move rfl) ?_
     refine G.r (Runs.add rfl rfl (by unfold InR; omega)) ?_
     refine G.r (Runs.assign rfl) ?_
     refine G.nil ?_
     refine V.block_normal ?_
     refine V.then ?_
     refine W.region ?_
     refine G.r (Runs.add rfl rfl (by unfold InR; omega)) ?_
     refine G.r (Runs.move rfl) ?_
     refine G.nil ?_
     exact V.next ((k + 1), (rd + 1), (a), (c), (out2)) (show ((k + 1 : Nat) ≤ rs4.length) ∧ ((rd + 1 : Int) = (nreads ((blocks n.toNat l).take (k + 1 : Nat)) u : Nat)) ∧ (0 ≤ (rd + 1 : Int) ∧ (rd + 1 : Int) ≤ (k + 1 : Nat)) ∧ ((out2 : List Int) = nbr ((blocks n.toNat l).take (k + 1 : Nat)).flatten u) from ⟨(by omega), (by rw [nreads_take (by omega)]; first | (rw [if_pos (hhas.1 (by omega))]; omega) | (rw [if_neg (fun hh => absurd (hhas.2 hh) (by omega))]; omega)), (by omega), (by rw [hin2, flat_take (by omega), nbr_append, ← hout0])⟩) (show rs4.length - (k + 1 : Nat) < rs4.length - k from (by omega)) (Sub.cons rfl (Sub.cons (lookV rfl (by first | rfl | simp)) (Sub.cons lookO (Sub.cons rfl (Sub.cons rfl (Sub.cons lookO Sub.nil)))))) (show Fit κ _ (vc 3 (.slice (a) (out2).length (c)) ((out2)) :: vc 55 (.slice ad2 rs4.length cp3) (rs4) :: blk b1 [I64 (n), .slice la l.length lc] 57 :: I) from Fit.sub)
    ·refine W.skip ?_
     refine V.block_normal ?_
     refine V.then ?_
     refine W.region ?_
     refine G.r (Runs.add rfl rfl (by unfold InR; omega)) ?_
     refine G.r (Runs.move rfl) ?_
     refine G.nil ?_
     exact V.next ((k + 1), (rd), (a), (c), (out2)) (show ((k + 1 : Nat) ≤ rs4.length) ∧ ((rd : Int) = (nreads ((blocks n.toNat l).take (k + 1 : Nat)) u : Nat)) ∧ (0 ≤ (rd : Int) ∧ (rd : Int) ≤ (k + 1 : Nat)) ∧ ((out2 : List Int) = nbr ((blocks n.toNat l).take (k + 1 : Nat)).flatten u) from ⟨(by omega), (by rw [nreads_take (by omega)]; first | (rw [if_pos (hhas.1 (by omega))]; omega) | (rw [if_neg (fun hh => absurd (hhas.2 hh) (by omega))]; omega)), (by omega), (by rw [hin2, flat_take (by omega), nbr_append, ← hout0])⟩) (show rs4.length - (k + 1 : Nat) < rs4.length - k from (by omega)) (Sub.cons rfl (Sub.cons (lookV rfl (by first | rfl | simp)) (Sub.cons lookO (Sub.cons rfl (Sub.cons rfl (Sub.cons lookO Sub.nil)))))) (show Fit κ _ (vc 3 (.slice (a) (out2).length (c)) ((out2)) :: vc 55 (.slice ad2 rs4.length cp3) (rs4) :: blk b1 [I64 (n), .slice la l.length lc] 57 :: I) from Fit.sub)
  ·refine W.exit ?_
   refine V.then_exit ?_
   refine V.then_exit ?_
   refine V.block_hit ?_
   refine V.then ?_
   refine W.sr ?_
   refine G.r (Runs.move rfl) ?_
   refine G.r (Runs.move rfl) ?_
   refine G.r (Runs.assign rfl) ?_
   refine G.r (Runs.assign rfl) ?_
   refine G.r (Runs.assign rfl) ?_
   refine G.nt ?_
   refine W.ret ?_
   have hke : (blocks n.toNat l).take k = blocks n.toNat l := List.take_of_length_le (by omega)
   rw [hke, blocks_flatten (by omega)] at hout
   rw [hke] at hrd
   subst hout
   subst hrd
   exact V.ret3 rfl rfl rfl rfl (vc 3 (.slice a (nbr l u).length c) (nbr l u) :: I) Fit.sub ⟨a, c, rfl, rfl⟩

end Go.Sl
namespace Go.Sl
open Go.Proofs
set_option linter.unusedVariables false
set_option linter.unusedSimpArgs false
set_option maxRecDepth 4000
theorem Before34_ok {κ : Ctx} {I : List Item} (a c : Pt) :
    CallS Try.prog κ 215 [.agg #[I64 (a.u), I64 (a.v)], .agg #[I64 (c.u), I64 (c.v)]] I (fun r J => r = .bool (decide (Pt.lt a c)) ∧ I = J) := by
 refine CallS.enter (L := [(0, .agg #[I64 (a.u), I64 (a.v)]), (1, .agg #[I64 (c.u), I64 (c.v)])]) Try.func215 rfl rfl rfl rfl ?_
 refine W.sr ?_
 refine G.e (Eff.box (cs := [_, _]) rfl rfl rfl) ?_
 rintro _ _ ⟨b1, rfl, rfl⟩
 refine G.e (Eff.box (cs := [_, _]) rfl rfl rfl) ?_
 rintro _ _ ⟨b2, rfl, rfl⟩
 refine G.r (Runs.assign rfl) ?_
 refine G.nt ?_
 refine W.sr ?_
 refine G.r (Runs.idxArr Try.underlying60 ty2 rfl rfl (by omega) (by omega)) ?_
 refine G.r (Runs.ld ty3) ?_
 refine G.r (Runs.idxArr Try.underlying60 ty2 rfl rfl (by omega) (by omega)) ?_
 refine G.r (Runs.ld ty3) ?_
 refine G.r (Runs.lss rfl rfl) ?_
 refine G.r (Runs.move rfl) ?_
 refine G.split (d := 10) rfl (fun g10 => ?_) (fun g10 => ?_)
 ·refine G.po ?_
  refine G.po ?_
  refine G.po ?_
  refine G.po ?_
  refine G.po ?_
  refine G.po ?_
  refine G.pu ?_
  refine G.pu ?_
  refine G.pu ?_
  refine G.pu ?_
  refine G.pu ?_
  refine G.po ?_
  refine G.r (Runs.pickt rfl rfl) ?_
  refine G.r (Runs.assign rfl) ?_
  refine G.nt ?_
  refine W.sub (L' := [(4, _)]) (Sub.cons rfl Sub.nil) ?_
  refine W.ret ?_
  exact V.ret1 rfl rfl (I) Fit.m ⟨(by first | exact congrArg Value.bool (decide_eq_decide.2 (by unfold Pt.lt; omega)) | exact congrArg Value.bool (decide_eq_true (by unfold Pt.lt; omega)).symm | exact congrArg Value.bool (decide_eq_false (by unfold Pt.lt; omega)).symm), rfl⟩
 ·refine G.ro (Runs.idxArr Try.underlying60 ty2 rfl rfl (by omega) (by omega)) ?_
  refine G.ro (Runs.ld ty3) ?_
  refine G.ro (Runs.idxArr Try.underlying60 ty2 rfl rfl (by omega) (by omega)) ?_
  refine G.ro (Runs.ld ty3) ?_
  refine G.ro (Runs.eql rfl rfl) ?_
  refine G.ro (Runs.move rfl) ?_
  refine G.split (d := 16) rfl (fun g16 => ?_) (fun g16 => ?_)
  ·refine G.ro (Runs.idxArr Try.underlying60 ty2 rfl rfl (by omega) (by omega)) ?_
   refine G.ro (Runs.ld ty3) ?_
   refine G.ro (Runs.idxArr Try.underlying60 ty2 rfl rfl (by omega) (by omega)) ?_
   refine G.ro (Runs.ld ty3) ?_
   refine G.ro (Runs.lss rfl rfl) ?_
   refine G.ro (Runs.pickt rfl rfl) ?_
   refine G.r (Runs.pickf rfl rfl) ?_
   refine G.r (Runs.assign rfl) ?_
   refine G.nt ?_
   refine W.sub (L' := [(4, _)]) (Sub.cons rfl Sub.nil) ?_
   refine W.ret ?_
   exact V.ret1 rfl rfl (I) Fit.m ⟨(by first | exact congrArg Value.bool (decide_eq_decide.2 (by unfold Pt.lt; omega)) | exact congrArg Value.bool (decide_eq_true (by unfold Pt.lt; omega)).symm | exact congrArg Value.bool (decide_eq_false (by unfold Pt.lt; omega)).symm), rfl⟩
  ·refine G.po ?_
   refine G.po ?_
   refine G.po ?_
   refine G.po ?_
   refine G.po ?_
   refine G.ro (Runs.pickf rfl rfl) ?_
   refine G.r (Runs.pickf rfl rfl) ?_
   refine G.r (Runs.assign rfl) ?_
   refine G.nt ?_
   refine W.sub (L' := [(4, _)]) (Sub.cons rfl Sub.nil) ?_
   refine W.ret ?_
   exact V.ret1 rfl rfl (I) Fit.m ⟨(by first | exact congrArg Value.bool (decide_eq_decide.2 (by unfold Pt.lt; omega)) | exact congrArg Value.bool (decide_eq_true (by unfold Pt.lt; omega)).symm | exact congrArg Value.bool (decide_eq_false (by unfold Pt.lt; omega)).symm), rfl⟩

theorem Before03_ok {κ : Ctx} {I : List Item} (a c : Pt) :
    CallS Try.prog κ 136 [.agg #[I64 (a.u), I64 (a.v)], .agg #[I64 (c.u), I64 (c.v)]] I (fun r J => r = .bool (decide (Pt.lt a c)) ∧ I = J) := by
 refine CallS.enter (L := [(0, .agg #[I64 (a.u), I64 (a.v)]), (1, .agg #[I64 (c.u), I64 (c.v)])]) Try.func136 rfl rfl rfl rfl ?_
 refine W.sr ?_
 refine G.e (Eff.box (cs := [_, _]) rfl rfl rfl) ?_
 rintro _ _ ⟨b1, rfl, rfl⟩
 refine G.e (Eff.box (cs := [_, _]) rfl rfl rfl) ?_
 rintro _ _ ⟨b2, rfl, rfl⟩
 refine G.r (Runs.assign rfl) ?_
 refine G.nt ?_
 refine W.sr ?_
 refine G.r (Runs.fieldAddr fld150_0 rfl) ?_
 refine G.r (Runs.ld ty3) ?_
 refine G.r (Runs.fieldAddr fld150_0 rfl) ?_
 refine G.r (Runs.ld ty3) ?_
 refine G.r (Runs.lss rfl rfl) ?_
 refine G.r (Runs.move rfl) ?_
 refine G.split (d := 10) rfl (fun g10 => ?_) (fun g10 => ?_)
 ·refine G.po ?_
  refine G.po ?_
  refine G.po ?_
  refine G.po ?_
  refine G.po ?_
  refine G.po ?_
  refine G.pu ?_
  refine G.pu ?_
  refine G.pu ?_
  refine G.pu ?_
  refine G.pu ?_
  refine G.po ?_
  refine G.r (Runs.pickt rfl rfl) ?_
  refine G.r (Runs.assign rfl) ?_
  refine G.nt ?_
  refine W.sub (L' := [(4, _)]) (Sub.cons rfl Sub.nil) ?_
  refine W.ret ?_
  exact V.ret1 rfl rfl (I) Fit.m ⟨(by first | exact congrArg Value.bool (decide_eq_decide.2 (by unfold Pt.lt; omega)) | exact congrArg Value.bool (decide_eq_true (by unfold Pt.lt; omega)).symm | exact congrArg Value.bool (decide_eq_false (by unfold Pt.lt; omega)).symm), rfl⟩
 ·refine G.ro (Runs.fieldAddr fld150_0 rfl) ?_
  refine G.ro (Runs.ld ty3) ?_
  refine G.ro (Runs.fieldAddr fld150_0 rfl) ?_
  refine G.ro (Runs.ld ty3) ?_
  refine G.ro (Runs.eql rfl rfl) ?_
  refine G.ro (Runs.move rfl) ?_
  refine G.split (d := 16) rfl (fun g16 => ?_) (fun g16 => ?_)
  ·refine G.ro (Runs.fieldAddr fld150_1 rfl) ?_
   refine G.ro (Runs.ld ty3) ?_
   refine G.ro (Runs.fieldAddr fld150_1 rfl) ?_
   refine G.ro (Runs.ld ty3) ?_
   refine G.ro (Runs.lss rfl rfl) ?_
   refine G.ro (Runs.pickt rfl rfl) ?_
   refine G.r (Runs.pickf rfl rfl) ?_
   refine G.r (Runs.assign rfl) ?_
   refine G.nt ?_
   refine W.sub (L' := [(4, _)]) (Sub.cons rfl Sub.nil) ?_
   refine W.ret ?_
   exact V.ret1 rfl rfl (I) Fit.m ⟨(by first | exact congrArg Value.bool (decide_eq_decide.2 (by unfold Pt.lt; omega)) | exact congrArg Value.bool (decide_eq_true (by unfold Pt.lt; omega)).symm | exact congrArg Value.bool (decide_eq_false (by unfold Pt.lt; omega)).symm), rfl⟩
  ·refine G.po ?_
   refine G.po ?_
   refine G.po ?_
   refine G.po ?_
   refine G.po ?_
   refine G.ro (Runs.pickf rfl rfl) ?_
   refine G.r (Runs.pickf rfl rfl) ?_
   refine G.r (Runs.assign rfl) ?_
   refine G.nt ?_
   refine W.sub (L' := [(4, _)]) (Sub.cons rfl Sub.nil) ?_
   refine W.ret ?_
   exact V.ret1 rfl rfl (I) Fit.m ⟨(by first | exact congrArg Value.bool (decide_eq_decide.2 (by unfold Pt.lt; omega)) | exact congrArg Value.bool (decide_eq_true (by unfold Pt.lt; omega)).symm | exact congrArg Value.bool (decide_eq_false (by unfold Pt.lt; omega)).symm), rfl⟩

theorem Node34_ok {κ : Ctx} {I : List Item} (n : Int) :
    CallS Try.prog κ 216 [I64 (n)] I (fun r J => r = .bool (decide (0 ≤ n ∧ n < 64)) ∧ I = J) := by
 refine CallS.enter (L := [(0, I64 (n))]) Try.func216 rfl rfl rfl rfl ?_
 refine W.sr ?_
 refine G.r (Runs.assign rfl) ?_
 refine G.nt ?_
 refine W.sr ?_
 refine G.r (Runs.move rfl) ?_
 refine G.r (Runs.geq rfl rfl) ?_
 refine G.r (Runs.move rfl) ?_
 refine G.split (d := 5) rfl (fun g5 => ?_) (fun g5 => ?_)
 ·refine G.ro (Runs.move rfl) ?_
  refine G.ro (Runs.lss rfl rfl) ?_
  refine G.r (Runs.pickt rfl rfl) ?_
  refine G.r (Runs.assign rfl) ?_
  refine G.nt ?_
  refine W.ret ?_
  exact V.ret1 rfl rfl (I) Fit.m ⟨(by first | exact congrArg Value.bool (decide_eq_decide.2 (by skip; omega)) | exact congrArg Value.bool (decide_eq_true (by skip; omega)).symm | exact congrArg Value.bool (decide_eq_false (by skip; omega)).symm), rfl⟩
 ·refine G.po ?_
  refine G.po ?_
  refine G.r (Runs.pickf rfl rfl) ?_
  refine G.r (Runs.assign rfl) ?_
  refine G.nt ?_
  refine W.ret ?_
  exact V.ret1 rfl rfl (I) Fit.m ⟨(by first | exact congrArg Value.bool (decide_eq_decide.2 (by skip; omega)) | exact congrArg Value.bool (decide_eq_true (by skip; omega)).symm | exact congrArg Value.bool (decide_eq_false (by skip; omega)).symm), rfl⟩

theorem Right34_ok {κ : Ctx} {I : List Item} (p : Pt) :
    CallS Try.prog κ 170 [.agg #[I64 (p.u), I64 (p.v)]] I (fun r J => r = .bool (decide p.right) ∧ I = J) := by
 refine CallS.enter (L := [(0, .agg #[I64 (p.u), I64 (p.v)])]) Try.func170 rfl rfl rfl rfl ?_
 refine W.sr ?_
 refine G.e (Eff.box (cs := [_, _]) rfl rfl rfl) ?_
 rintro _ _ ⟨b1, rfl, rfl⟩
 refine G.r (Runs.assign rfl) ?_
 refine G.nt ?_
 refine W.sr ?_
 refine G.r (Runs.idxArr Try.underlying60 ty2 rfl rfl (by omega) (by omega)) ?_
 refine G.r (Runs.ld ty3) ?_
 refine G.e (Eff.call call216 rfl rfl (Node34_ok p.u)) ?_
 rintro _ _ ⟨_, _, ⟨rfl, rfl⟩, rfl, rfl⟩
 refine G.r (Runs.move rfl) ?_
 refine G.split (d := 6) rfl (fun g6 => ?_) (fun g6 => ?_)
 ·refine G.ro (Runs.idxArr Try.underlying60 ty2 rfl rfl (by omega) (by omega)) ?_
  refine G.ro (Runs.ld ty3) ?_
  refine G.eff (Wanted.on rfl rfl rfl) (Eff.call call216 rfl rfl (Node34_ok p.v)) ?_
  rintro _ _ ⟨_, _, ⟨rfl, rfl⟩, rfl, rfl⟩
  refine G.r (Runs.pickt rfl rfl) ?_
  refine G.r (Runs.move rfl) ?_
  refine G.split (d := 11) rfl (fun g11 => ?_) (fun g11 => ?_)
  ·refine G.ro (Runs.idxArr Try.underlying60 ty2 rfl rfl (by omega) (by omega)) ?_
   refine G.ro (Runs.ld ty3) ?_
   refine G.ro (Runs.idxArr Try.underlying60 ty2 rfl rfl (by omega) (by omega)) ?_
   refine G.ro (Runs.ld ty3) ?_
   refine G.ro (Runs.neq rfl rfl) ?_
   refine G.r (Runs.pickt rfl rfl) ?_
   refine G.r (Runs.assign rfl) ?_
   refine G.nt ?_
   refine W.sub (L' := [(2, _)]) (Sub.cons rfl Sub.nil) ?_
   refine W.ret ?_
   exact V.ret1 rfl rfl (I) Fit.m ⟨(by first | exact congrArg Value.bool (decide_eq_decide.2 (by unfold Pt.right; omega)) | exact congrArg Value.bool (decide_eq_true (by unfold Pt.right; omega)).symm | exact congrArg Value.bool (decide_eq_false (by unfold Pt.right; omega)).symm), rfl⟩
  ·refine G.po ?_
   refine G.po ?_
   refine G.po ?_
   refine G.po ?_
   refine G.po ?_
   refine G.r (Runs.pickf rfl rfl) ?_
   refine G.r (Runs.assign rfl) ?_
   refine G.nt ?_
   refine W.sub (L' := [(2, _)]) (Sub.cons rfl Sub.nil) ?_
   refine W.ret ?_
   exact V.ret1 rfl rfl (I) Fit.m ⟨(by first | exact congrArg Value.bool (decide_eq_decide.2 (by unfold Pt.right; omega)) | exact congrArg Value.bool (decide_eq_true (by unfold Pt.right; omega)).symm | exact congrArg Value.bool (decide_eq_false (by unfold Pt.right; omega)).symm), rfl⟩
 ·refine G.po ?_
  refine G.po ?_
  refine G.po ?_
  refine G.r (Runs.pickf rfl rfl) ?_
  refine G.r (Runs.move rfl) ?_
  refine G.po ?_
  refine G.po ?_
  refine G.po ?_
  refine G.po ?_
  refine G.po ?_
  refine G.r (Runs.pickf rfl rfl) ?_
  refine G.r (Runs.assign rfl) ?_
  refine G.nt ?_
  refine W.sub (L' := [(2, _)]) (Sub.cons rfl Sub.nil) ?_
  refine W.ret ?_
  exact V.ret1 rfl rfl (I) Fit.m ⟨(by first | exact congrArg Value.bool (decide_eq_decide.2 (by unfold Pt.right; omega)) | exact congrArg Value.bool (decide_eq_true (by unfold Pt.right; omega)).symm | exact congrArg Value.bool (decide_eq_false (by unfold Pt.right; omega)).symm), rfl⟩

theorem Has34_ok {κ : Ctx} {I : List Item} {v : Value} {xs : List Pt} (hl : Sl κ I v xs) (x : Pt) :
    CallS Try.prog κ 171 [v, .agg #[I64 (x.u), I64 (x.v)]] I (fun r J => r = .bool (decide (x ∈ xs)) ∧ I = J) := by
 refine CallS.pull hl.le fun hmax => ?_
 refine CallS.enter (L := [(0, v), (1, .agg #[I64 (x.u), I64 (x.v)])]) Try.func171 rfl rfl rfl rfl ?_
 refine W.sr ?_
 refine G.e (Eff.box (cs := [_, _]) rfl rfl rfl) ?_
 rintro _ _ ⟨b1, rfl, rfl⟩
 refine G.r (Runs.assign rfl) ?_
 refine G.nt ?_
 refine W.seq ?_
 refine W.sr ?_
 refine G.r (Runs.assign rfl) ?_
 refine G.nt ?_
 refine W.block ?_
 refine W.loop (σ := Nat) (fun s => ([(0, v), (3, .pointer (some ⟨b1, 0, none⟩)), (5, I64 (((s : Nat) : Int)))] : Env)) (fun s => blk b1 [I64 (x.u), I64 (x.v)] 60 :: I) (fun s => (s ≤ xs.length) ∧ (∀ j, j < s → at_ xs (j : Int) ≠ x)) (fun s => xs.length - s) (0) (show ((0 : Nat) ≤ xs.length) ∧ (∀ j, j < (0 : Nat) → at_ xs (j : Int) ≠ x) from ⟨(by omega), all_zero⟩) (Sub.cons rfl (Sub.cons rfl (Sub.cons lookO Sub.nil))) (show Fit κ _ (blk b1 [I64 (x.u), I64 (x.v)] 60 :: I) from Fit.sub) ?_
 rintro k hp
 obtain ⟨hk, hn⟩ : (k ≤ xs.length) ∧ (∀ j, j < k → at_ xs (j : Int) ≠ x) := hp
 show W Try.prog κ 18 _ _ ([(0, v), (3, .pointer (some ⟨b1, 0, none⟩)), (5, I64 (((k : Nat) : Int)))] : Env) (blk b1 [I64 (x.u), I64 (x.v)] 60 :: I)
 refine W.seq ?_
 refine W.sr ?_
 refine G.r (Runs.move rfl) ?_
 refine G.r (Runs.move rfl) ?_
 refine G.r (Runs.lenT (α := Pt) (xs := xs) Try.underlying55 rfl (Sl.f hl)) ?_
 refine G.r (Runs.lss rfl rfl) ?_
 refine G.nt ?_
 refine W.ite rfl (fun c9 => ?_) (fun c9 => ?_)
 ·refine W.skip ?_
  refine V.then ?_
  refine W.seq ?_
  refine W.block ?_
  refine W.seq ?_
  refine W.drawn mixed ?_
  refine A.hold (blk b1 [I64 (x.u), I64 (x.v)] 60 :: I) 6 ?_
  refine D.r 0 rfl (Runs.move rfl) ?_
  refine D.r 1 rfl (Runs.move rfl) ?_
  refine D.r 2 rfl (Runs.idx (α := Pt) (xs := xs) Try.underlying55 ty60 rfl rfl (Sl.f hl) (by omega) (by omega)) ?_
  refine D.r 3 rfl (Runs.gets (α := Pt) (xs := xs) ty60 rfl (Sl.f hl) (by omega) (by omega)) ?_
  refine D.r 4 rfl (Runs.lds (vs := [_, _]) ty60) ?_
  refine D.r 5 rfl (Runs.eqlT (α := Pt) (a := (at_ xs ((k : Nat) : Int))) (b := x) eqt60 rfl rfl) ?_
  refine D.done (by kernel_rfl) ?_
  refine V.then ?_
  refine W.ite rfl (fun c17 => ?_) (fun c17 => ?_)
  ·refine W.sr ?_
   refine G.r (Runs.assign rfl) ?_
   refine G.nt ?_
   refine W.sub (L' := [(4, _)]) (Sub.cons rfl Sub.nil) ?_
   refine W.ret ?_
   refine V.block_ret ?_
   refine V.then_ret ?_
   refine V.then_ret ?_
   refine V.block_ret ?_
   refine V.then_ret ?_
   have hm : x ∈ xs := by rw [← c17]; exact at_mem (by omega) (by omega)
   exact V.ret1 rfl rfl (I) Fit.m ⟨by rw [decide_eq_true hm], rfl⟩
  ·refine W.skip ?_
   refine V.block_normal ?_
   refine V.then ?_
   refine W.region ?_
   refine G.r (Runs.move rfl) ?_
   refine G.r (Runs.add rfl rfl (by unfold InR; omega)) ?_
   refine G.r (Runs.assign rfl) ?_
   refine G.nil ?_
   exact V.next ((k + 1)) (show ((k + 1 : Nat) ≤ xs.length) ∧ (∀ j, j < (k + 1 : Nat) → at_ xs (j : Int) ≠ x) from ⟨(by omega), (all_succ hn c17)⟩) (show xs.length - (k + 1 : Nat) < xs.length - k from (by omega)) (Sub.cons rfl (Sub.cons rfl (Sub.cons lookO Sub.nil))) (show Fit κ _ (blk b1 [I64 (x.u), I64 (x.v)] 60 :: I) from Fit.sub)
 ·refine W.exit ?_
  refine V.then_exit ?_
  refine V.then_exit ?_
  refine V.block_hit ?_
  refine V.then ?_
  refine W.sr ?_
  refine G.r (Runs.assign rfl) ?_
  refine G.nt ?_
  refine W.ret ?_
  have hm : x ∉ xs := not_mem_at hn (by omega)
  exact V.ret1 rfl rfl (I) Fit.m ⟨by rw [decide_eq_false hm], rfl⟩

theorem Check34_ok {κ : Ctx} {I : List Item} {n : Int} {v : Value} {l : List Pt} (hl : Sl κ I v l) (hv : RunOk n l) :
    CallS Try.prog κ 169 [.agg #[I64 (n), v]] I (fun r J => r = I64 0 ∧ I = J) := by
 refine CallS.pull hl.le fun hmax => ?_
 refine CallS.enter (L := [(0, .agg #[I64 (n), v])]) Try.func169 rfl rfl rfl rfl ?_
 refine W.sr ?_
 refine G.e (Eff.box (cs := [_, _]) rfl rfl rfl) ?_
 rintro _ _ ⟨b1, rfl, rfl⟩
 refine G.r (Runs.assign rfl) ?_
 refine G.nt ?_
 refine W.seq ?_
 refine W.sr ?_
 refine G.r (Runs.fieldAddr fld57_0 rfl) ?_
 refine G.r (Runs.ld ty3) ?_
 refine G.r (Runs.lss rfl rfl) ?_
 refine G.r (Runs.move rfl) ?_
 refine G.split (d := 7) rfl (fun g7 => ?_) (fun g7 => ?_)
 ·exact absurd hv.size (by omega)
 ·refine G.ro (Runs.fieldAddr fld57_0 rfl) ?_
  refine G.ro (Runs.ld ty3) ?_
  refine G.ro (Runs.gtr rfl rfl) ?_
  refine G.r (Runs.pickf rfl rfl) ?_
  refine G.nt ?_
  refine W.ite rfl (fun c11 => ?_) (fun c11 => ?_)
  ·exact absurd hv.size (by omega)
  ·refine W.skip ?_
   refine V.then ?_
   refine W.seq ?_
   refine W.sr ?_
   refine G.r (Runs.assign rfl) ?_
   refine G.nt ?_
   refine W.block ?_
   refine W.loop (σ := Nat) (fun s => ([(1, .pointer (some ⟨b1, 0, none⟩)), (3, I64 (((s : Nat) : Int)))] : Env)) (fun s => blk b1 [I64 (n), v] 57 :: I) (fun s => (s ≤ l.length)) (fun s => l.length - s) (0) (show ((0 : Nat) ≤ l.length) from (by omega)) (Sub.cons rfl (Sub.cons lookO Sub.nil)) (show Fit κ _ (blk b1 [I64 (n), v] 57 :: I) from Fit.sub) ?_
   rintro k hp
   have hk : (k ≤ l.length) := hp
   show W Try.prog κ 43 _ _ ([(1, .pointer (some ⟨b1, 0, none⟩)), (3, I64 (((k : Nat) : Int)))] : Env) (blk b1 [I64 (n), v] 57 :: I)
   refine W.seq ?_
   refine W.sr ?_
   refine G.r (Runs.move rfl) ?_
   refine G.r (Runs.fieldAddr fld57_1 rfl) ?_
   refine G.r (Runs.ld ty55) ?_
   refine G.r (Runs.lenT (α := Pt) (xs := l) Try.underlying55 rfl (Sl.f hl)) ?_
   refine G.r (Runs.lss rfl rfl) ?_
   refine G.nt ?_
   refine W.ite rfl (fun c16 => ?_) (fun c16 => ?_)
   ·refine W.skip ?_
    refine V.then ?_
    refine W.seq ?_
    refine W.block ?_
    refine W.seq ?_
    refine W.sr ?_
    refine G.r (Runs.fieldAddr fld57_1 rfl) ?_
    refine G.r (Runs.ld ty55) ?_
    refine G.r (Runs.move rfl) ?_
    refine G.r (Runs.idx (α := Pt) (xs := l) Try.underlying55 ty60 rfl rfl (Sl.f hl) (by omega) (by omega)) ?_
    refine G.r (Runs.gets (α := Pt) (xs := l) ty60 rfl (Sl.f hl) (by omega) (by omega)) ?_
    refine G.e (Eff.call call170 rfl rfl (Right34_ok (at_ l ((k : Nat) : Int)))) ?_
    rintro _ _ ⟨_, _, ⟨rfl, rfl⟩, rfl, rfl⟩
    refine G.r (Runs.notd rfl) ?_
    refine G.nt ?_
    refine W.sub (L' := [(25, _), (1, _), (3, _)]) (Sub.cons rfl (Sub.cons rfl (Sub.cons rfl Sub.nil))) ?_
    refine W.ite rfl (fun c25 => ?_) (fun c25 => ?_)
    ·exact absurd (hv.at (k := k) (by omega)) c25
    ·refine W.skip ?_
     refine V.then ?_
     refine W.seq ?_
     refine W.drawn mixed ?_
     refine A.hold (blk b1 [I64 (n), v] 57 :: I) 17 ?_
     refine D.r 0 rfl (Runs.move rfl) ?_
     refine D.r 1 rfl (Runs.gtr rfl rfl) ?_
     refine D.r 2 rfl (Runs.move rfl) ?_
     refine D.split (d := 28) rfl (fun g28 => ?_) (fun g28 => ?_)
     ·refine D.ro 3 rfl (Runs.fieldAddr fld57_1 rfl) ?_
      refine D.ro 4 rfl (Runs.ld ty55) ?_
      refine D.ro 5 rfl (Runs.move rfl) ?_
      refine D.ro 6 rfl (Runs.sub rfl rfl (by unfold InR; omega)) ?_
      refine D.ro 7 rfl (Runs.idx (α := Pt) (xs := l) Try.underlying55 ty60 rfl rfl (Sl.f hl) (by omega) (by omega)) ?_
      refine D.ro 8 rfl (Runs.gets (α := Pt) (xs := l) ty60 rfl (Sl.f hl) (by omega) (by omega)) ?_
      refine D.ro 9 rfl (Runs.fieldAddr fld57_1 rfl) ?_
      refine D.ro 10 rfl (Runs.ld ty55) ?_
      refine D.ro 11 rfl (Runs.move rfl) ?_
      refine D.ro 12 rfl (Runs.idx (α := Pt) (xs := l) Try.underlying55 ty60 rfl rfl (Sl.f hl) (by omega) (by omega)) ?_
      refine D.ro 13 rfl (Runs.gets (α := Pt) (xs := l) ty60 rfl (Sl.f hl) (by omega) (by omega)) ?_
      refine D.step (rs := [14]) (by kernel_rfl) rfl rfl (all1 ?_)
      refine Step.eff rfl (Wanted.on rfl rfl rfl) (Eff.call call215 rfl rfl (Before34_ok (at_ l (((k : Nat) : Int) - 1)) (at_ l ((k : Nat) : Int)))) ?_
      rintro _ _ ⟨_, _, ⟨rfl, rfl⟩, rfl, rfl⟩
      refine ⟨Fit.m, ?_⟩
      refine D.ro 15 rfl (Runs.notd rfl) ?_
      refine D.r 16 rfl (Runs.pickt rfl rfl) ?_
      refine D.done (by kernel_rfl) ?_
      refine V.then ?_
      refine W.sub (L' := [(42, _), (1, _), (3, _)]) (Sub.cons rfl (Sub.cons rfl (Sub.cons rfl Sub.nil))) ?_
      refine W.ite rfl (fun c42 => ?_) (fun c42 => ?_)
      ·exact absurd ((Pt.cmp_lt _ _).1 (hv.prev (k := k) (by omega) (by omega))) c42
      ·refine W.skip ?_
       refine V.block_normal ?_
       refine V.then ?_
       refine W.region ?_
       refine G.r (Runs.move rfl) ?_
       refine G.r (Runs.add rfl rfl (by unfold InR; omega)) ?_
       refine G.r (Runs.assign rfl) ?_
       refine G.nil ?_
       exact V.next ((k + 1)) (show ((k + 1 : Nat) ≤ l.length) from (by omega)) (show l.length - (k + 1 : Nat) < l.length - k from (by omega)) (Sub.cons rfl (Sub.cons lookO Sub.nil)) (show Fit κ _ (blk b1 [I64 (n), v] 57 :: I) from Fit.sub)
     ·refine D.po 3 rfl ?_
      refine D.po 4 rfl ?_
      refine D.po 5 rfl ?_
      refine D.po 6 rfl ?_
      refine D.po 7 rfl ?_
      refine D.po 8 rfl ?_
      refine D.po 9 rfl ?_
      refine D.po 10 rfl ?_
      refine D.po 11 rfl ?_
      refine D.po 12 rfl ?_
      refine D.po 13 rfl ?_
      refine D.po 14 rfl ?_
      refine D.po 15 rfl ?_
      refine D.r 16 rfl (Runs.pickf rfl rfl) ?_
      refine D.done (by kernel_rfl) ?_
      refine V.then ?_
      refine W.sub (L' := [(42, _), (1, _), (3, _)]) (Sub.cons rfl (Sub.cons rfl (Sub.cons rfl Sub.nil))) ?_
      refine W.no rfl ?_
      refine W.skip ?_
      refine V.block_normal ?_
      refine V.then ?_
      refine W.region ?_
      refine G.r (Runs.move rfl) ?_
      refine G.r (Runs.add rfl rfl (by unfold InR; omega)) ?_
      refine G.r (Runs.assign rfl) ?_
      refine G.nil ?_
      exact V.next ((k + 1)) (show ((k + 1 : Nat) ≤ l.length) from (by omega)) (show l.length - (k + 1 : Nat) < l.length - k from (by omega)) (Sub.cons rfl (Sub.cons lookO Sub.nil)) (show Fit κ _ (blk b1 [I64 (n), v] 57 :: I) from Fit.sub)
   ·refine W.exit ?_
    refine V.then_exit ?_
    refine V.then_exit ?_
    refine V.block_hit ?_
    refine V.then ?_
    refine W.sr ?_
    refine G.r (Runs.assign rfl) ?_
    refine G.nt ?_
    refine W.ret ?_
    exact V.ret1 rfl rfl (I) Fit.m ⟨rfl, rfl⟩

theorem Check03_ok {κ : Ctx} {I : List Item} {nd : Int} {v : Value} {es : List Pt} (hl : Sl κ I v es) (hG : GrOk nd es) :
    CallS Try.prog κ 73 [.agg #[I64 (nd), v]] I (fun r J => r = I64 0 ∧ I = J) := by
 refine CallS.pull hl.le fun hmax => ?_
 refine CallS.enter (L := [(0, .agg #[I64 (nd), v])]) Try.func73 rfl rfl rfl rfl ?_
 refine W.sr ?_
 refine G.e (Eff.box (cs := [_, _]) rfl rfl rfl) ?_
 rintro _ _ ⟨b1, rfl, rfl⟩
 refine G.r (Runs.assign rfl) ?_
 refine G.nt ?_
 refine W.seq ?_
 refine W.sr ?_
 refine G.r (Runs.fieldAddr fld99_0 rfl) ?_
 refine G.r (Runs.ld ty3) ?_
 refine G.r (Runs.lss rfl rfl) ?_
 refine G.r (Runs.move rfl) ?_
 refine G.split (d := 8) rfl (fun g8 => ?_) (fun g8 => ?_)
 ·exact absurd hG.rng (by omega)
 ·refine G.ro (Runs.fieldAddr fld99_0 rfl) ?_
  refine G.ro (Runs.ld ty3) ?_
  refine G.ro (Runs.gtr rfl rfl) ?_
  refine G.r (Runs.pickf rfl rfl) ?_
  refine G.nt ?_
  refine W.ite rfl (fun c12 => ?_) (fun c12 => ?_)
  ·exact absurd hG.rng (by omega)
  ·refine W.skip ?_
   refine V.then ?_
   refine W.seq ?_
   refine W.sr ?_
   refine G.r (Runs.fieldAddr fld99_1 rfl) ?_
   refine G.r (Runs.ld ty97) ?_
   refine G.r (Runs.lenT (α := Pt) (xs := es) Try.underlying97 rfl (Sl.f hl)) ?_
   refine G.r (Runs.move rfl) ?_
   refine G.nt ?_
   refine W.sub (L' := [(16, _), (15, _), (14, _), (1, _)]) (Sub.cons rfl (Sub.cons rfl (Sub.cons rfl (Sub.cons rfl Sub.nil)))) ?_
   refine W.block ?_
   refine W.loop (σ := Nat) (fun s => ([(1, .pointer (some ⟨b1, 0, none⟩)), (14, v), (15, I64 (((es.length : Nat) : Int))), (16, I64 (((s : Nat) : Int)))] : Env)) (fun s => blk b1 [I64 (nd), v] 99 :: I) (fun s => (s ≤ es.length)) (fun s => es.length - s) (0) (show ((0 : Nat) ≤ es.length) from (by omega)) (Sub.cons rfl (Sub.cons rfl (Sub.cons rfl (Sub.cons lookO Sub.nil)))) (show Fit κ _ (blk b1 [I64 (nd), v] 99 :: I) from Fit.sub) ?_
   rintro k hp
   have hk : (k ≤ es.length) := hp
   show W Try.prog κ 52 _ _ ([(1, .pointer (some ⟨b1, 0, none⟩)), (14, v), (15, I64 (((es.length : Nat) : Int))), (16, I64 (((k : Nat) : Int)))] : Env) (blk b1 [I64 (nd), v] 99 :: I)
   refine W.sr ?_
   refine G.r (Runs.lss rfl rfl) ?_
   refine G.nt ?_
   refine W.seq ?_
   refine W.ite rfl (fun c17 => ?_) (fun c17 => ?_)
   ·refine W.skip ?_
    refine V.then ?_
    refine W.seq ?_
    refine W.block ?_
    refine W.sr ?_
    refine G.r (Runs.move rfl) ?_
    refine G.r (Runs.idx (α := Pt) (xs := es) Try.underlying97 ty150 rfl rfl (Sl.f hl) (by omega) (by omega)) ?_
    refine G.r (Runs.gets (α := Pt) (xs := es) ty150 rfl (Sl.f hl) (by omega) (by omega)) ?_
    refine G.e (Eff.alloc ty150 rfl) ?_
    rintro _ _ ⟨b2, rfl, rfl⟩
    refine G.r (Runs.assign rfl) ?_
    refine G.e (Eff.st (cs := [_, _]) (vs := [_, _]) (cs' := [_, _]) ty150) ?_
    rintro _ _ ⟨rfl, rfl⟩
    refine G.nt ?_
    refine W.seq ?_
    refine W.sr ?_
    refine G.r (Runs.fieldAddr fld150_0 rfl) ?_
    refine G.r (Runs.ld ty3) ?_
    refine G.r (Runs.lss rfl rfl) ?_
    refine G.r (Runs.move rfl) ?_
    refine G.split (d := 24) rfl (fun g24 => ?_) (fun g24 => ?_)
    ·exact absurd (hG.at (k := k) (by omega)) (by omega)
    ·refine G.ro (Runs.fieldAddr fld150_0 rfl) ?_
     refine G.ro (Runs.ld ty3) ?_
     refine G.ro (Runs.fieldAddr fld150_1 rfl) ?_
     refine G.ro (Runs.ld ty3) ?_
     refine G.ro (Runs.geq rfl rfl) ?_
     refine G.r (Runs.pickf rfl rfl) ?_
     refine G.r (Runs.move rfl) ?_
     refine G.split (d := 31) rfl (fun g31 => ?_) (fun g31 => ?_)
     ·exact absurd (hG.at (k := k) (by omega)) (by omega)
     ·refine G.ro (Runs.fieldAddr fld150_1 rfl) ?_
      refine G.ro (Runs.ld ty3) ?_
      refine G.ro (Runs.fieldAddr fld99_0 rfl) ?_
      refine G.ro (Runs.ld ty3) ?_
      refine G.ro (Runs.geq rfl rfl) ?_
      refine G.r (Runs.pickf rfl rfl) ?_
      refine G.nt ?_
      refine W.sub (L' := [(37, _), (3, _), (4, _), (1, _), (14, _), (15, _), (16, _)]) (Sub.cons rfl (Sub.cons rfl (Sub.cons rfl (Sub.cons rfl (Sub.cons rfl (Sub.cons rfl (Sub.cons rfl Sub.nil))))))) ?_
      refine W.ite rfl (fun c37 => ?_) (fun c37 => ?_)
      ·exact absurd (hG.at (k := k) (by omega)) (by omega)
      ·refine W.skip ?_
       refine V.then ?_
       refine W.seq ?_
       refine W.drawn mixed ?_
       refine A.hold (blk b2 [I64 ((at_ es ((k : Nat) : Int)).u), I64 ((at_ es ((k : Nat) : Int)).v)] 150 :: blk b1 [I64 (nd), v] 99 :: I) 13 ?_
       refine D.r 0 rfl (Runs.move rfl) ?_
       refine D.r 1 rfl (Runs.gtr rfl rfl) ?_
       refine D.r 2 rfl (Runs.move rfl) ?_
       refine D.split (d := 40) rfl (fun g40 => ?_) (fun g40 => ?_)
       ·refine D.ro 3 rfl (Runs.fieldAddr fld99_1 rfl) ?_
        refine D.ro 4 rfl (Runs.ld ty97) ?_
        refine D.ro 5 rfl (Runs.move rfl) ?_
        refine D.ro 6 rfl (Runs.sub rfl rfl (by unfold InR; omega)) ?_
        refine D.ro 7 rfl (Runs.idx (α := Pt) (xs := es) Try.underlying97 ty150 rfl rfl (Sl.f hl) (by omega) (by omega)) ?_
        refine D.ro 8 rfl (Runs.gets (α := Pt) (xs := es) ty150 rfl (Sl.f hl) (by omega) (by omega)) ?_
        refine D.ro 9 rfl (Runs.lds (vs := [_, _]) ty150) ?_
        refine D.step (rs := [10]) (by kernel_rfl) rfl rfl (all1 ?_)
        refine Step.eff rfl (Wanted.on rfl rfl rfl) (Eff.call call136 rfl rfl (Before03_ok (at_ es (((k : Nat) : Int) - 1)) (at_ es ((k : Nat) : Int)))) ?_
        rintro _ _ ⟨_, _, ⟨rfl, rfl⟩, rfl, rfl⟩
        refine ⟨Fit.m, ?_⟩
        refine D.ro 11 rfl (Runs.notd rfl) ?_
        refine D.r 12 rfl (Runs.pickt rfl rfl) ?_
        refine D.done (by kernel_rfl) ?_
        refine V.then ?_
        refine W.sub (L' := [(50, _), (1, _), (14, _), (15, _), (16, _)]) (Sub.cons rfl (Sub.cons rfl (Sub.cons rfl (Sub.cons rfl (Sub.cons rfl Sub.nil))))) ?_
        refine W.ite rfl (fun c50 => ?_) (fun c50 => ?_)
        ·exact absurd (hG.prev (k := k) (by omega) (by omega)) c50
        ·refine W.skip ?_
         refine V.block_normal ?_
         refine V.then ?_
         refine W.region ?_
         refine G.r (Runs.add rfl rfl (by unfold InR; omega)) ?_
         refine G.r (Runs.move rfl) ?_
         refine G.nil ?_
         exact V.next ((k + 1)) (show ((k + 1 : Nat) ≤ es.length) from (by omega)) (show es.length - (k + 1 : Nat) < es.length - k from (by omega)) (Sub.cons rfl (Sub.cons rfl (Sub.cons rfl (Sub.cons lookO Sub.nil)))) (show Fit κ _ (blk b1 [I64 (nd), v] 99 :: I) from Fit.sub)
       ·refine D.po 3 rfl ?_
        refine D.po 4 rfl ?_
        refine D.po 5 rfl ?_
        refine D.po 6 rfl ?_
        refine D.po 7 rfl ?_
        refine D.po 8 rfl ?_
        refine D.po 9 rfl ?_
        refine D.po 10 rfl ?_
        refine D.po 11 rfl ?_
        refine D.r 12 rfl (Runs.pickf rfl rfl) ?_
        refine D.done (by kernel_rfl) ?_
        refine V.then ?_
        refine W.sub (L' := [(50, _), (1, _), (14, _), (15, _), (16, _)]) (Sub.cons rfl (Sub.cons rfl (Sub.cons rfl (Sub.cons rfl (Sub.cons rfl Sub.nil))))) ?_
        refine W.no rfl ?_
        refine W.skip ?_
        refine V.block_normal ?_
        refine V.then ?_
        refine W.region ?_
        refine G.r (Runs.add rfl rfl (by unfold InR; omega)) ?_
        refine G.r (Runs.move rfl) ?_
        refine G.nil ?_
        exact V.next ((k + 1)) (show ((k + 1 : Nat) ≤ es.length) from (by omega)) (show es.length - (k + 1 : Nat) < es.length - k from (by omega)) (Sub.cons rfl (Sub.cons rfl (Sub.cons rfl (Sub.cons lookO Sub.nil)))) (show Fit κ _ (blk b1 [I64 (nd), v] 99 :: I) from Fit.sub)
   ·refine W.exit ?_
    refine V.then_exit ?_
    refine V.then_exit ?_
    refine V.block_hit ?_
    refine V.then ?_
    refine W.sr ?_
    refine G.r (Runs.assign rfl) ?_
    refine G.nt ?_
    refine W.ret ?_
    exact V.ret1 rfl rfl (I) Fit.m ⟨rfl, rfl⟩

end Go.Sl
namespace Go.Sl
open Go.Proofs
set_option linter.unusedVariables false
set_option linter.unusedSimpArgs false
set_option maxRecDepth 4000
theorem PutP_ok {κ : Ctx} {I : List Item} {a : Option Addr} {c : Nat} {xs : List Pt} (hb : xs.length < 1000000000) (x : Pt) :
    CallS Try.prog κ 214 [.slice a xs.length c, .agg #[I64 (x.u), I64 (x.v)]] (vc 60 (.slice a xs.length c) (xs) :: I) (fun r J => ∃ a' c', r = .slice a' (insB Pt.lt xs x).length c' ∧ J = vc 60 (.slice a' (insB Pt.lt xs x).length c') (insB Pt.lt xs x) :: I) := by
 refine CallS.pull (fun w hs => (Sl.vec (κ := κ) (List.mem_cons_self)).le w hs) fun hmax => ?_
 refine CallS.enter (L := [(0, .slice a xs.length c), (1, .agg #[I64 (x.u), I64 (x.v)])]) Try.func214 rfl rfl rfl rfl ?_
 refine W.sr ?_
 refine G.e (Eff.box (cs := [_, _]) rfl rfl rfl) ?_
 rintro _ _ ⟨b1, rfl, rfl⟩
 refine G.r (Runs.assign rfl) ?_
 refine G.nt ?_
 refine W.sr ?_
 refine G.r (Runs.assign rfl) ?_
 refine G.nt ?_
 refine W.cut (σ := Nat) (fun s => ([(0, .slice a xs.length c), (3, .pointer (some ⟨b1, 0, none⟩)), (5, I64 (((s : Nat) : Int)))] : Env)) (fun s => blk b1 [I64 (x.u), I64 (x.v)] 60 :: vc 60 (.slice a xs.length c) (xs) :: I) (fun s => (s ≤ xs.length) ∧ (∀ j, j < s → Pt.lt (at_ xs (j : Int)) x) ∧ (s = xs.length ∨ (s < xs.length ∧ ¬ Pt.lt (at_ xs (s : Int)) x))) ?_ ?_
 ·refine W.block ?_
  refine W.loop (σ := Nat) (fun s => ([(0, .slice a xs.length c), (3, .pointer (some ⟨b1, 0, none⟩)), (5, I64 (((s : Nat) : Int)))] : Env)) (fun s => blk b1 [I64 (x.u), I64 (x.v)] 60 :: vc 60 (.slice a xs.length c) (xs) :: I) (fun s => (s ≤ xs.length) ∧ (∀ j, j < s → Pt.lt (at_ xs (j : Int)) x)) (fun s => xs.length - s) (0) (show ((0 : Nat) ≤ xs.length) ∧ (∀ j, j < (0 : Nat) → Pt.lt (at_ xs (j : Int)) x) from ⟨(by omega), all_zero⟩) (Sub.cons rfl (Sub.cons rfl (Sub.cons lookO Sub.nil))) (show Fit κ _ (blk b1 [I64 (x.u), I64 (x.v)] 60 :: vc 60 (.slice a xs.length c) (xs) :: I) from Fit.sub) ?_
  rintro i hp
  obtain ⟨hi, hlt⟩ : (i ≤ xs.length) ∧ (∀ j, j < i → Pt.lt (at_ xs (j : Int)) x) := hp
  show W Try.prog κ 46 _ _ ([(0, .slice a xs.length c), (3, .pointer (some ⟨b1, 0, none⟩)), (5, I64 (((i : Nat) : Int)))] : Env) (blk b1 [I64 (x.u), I64 (x.v)] 60 :: vc 60 (.slice a xs.length c) (xs) :: I)
  refine W.seq ?_
  refine W.seq ?_
  refine W.drawn mixed ?_
  refine A.hold (blk b1 [I64 (x.u), I64 (x.v)] 60 :: vc 60 (.slice a xs.length c) (xs) :: I) 12 ?_
  refine D.r 0 rfl (Runs.move rfl) ?_
  refine D.r 1 rfl (Runs.move rfl) ?_
  refine D.r 2 rfl (Runs.lens Try.underlying55 rfl) ?_
  refine D.r 3 rfl (Runs.lss rfl rfl) ?_
  refine D.r 4 rfl (Runs.move rfl) ?_
  refine D.split (d := 11) rfl (fun g11 => ?_) (fun g11 => ?_)
  ·refine D.ro 5 rfl (Runs.move rfl) ?_
   refine D.ro 6 rfl (Runs.move rfl) ?_
   refine D.ro 7 rfl (Runs.idx (α := Pt) (xs := xs) Try.underlying55 ty60 rfl rfl Sl.o (by omega) (by omega)) ?_
   refine D.ro 8 rfl (Runs.gets (α := Pt) (xs := xs) ty60 rfl Sl.o (by omega) (by omega)) ?_
   refine D.ro 9 rfl (Runs.lds (vs := [_, _]) ty60) ?_
   refine D.step (rs := [10]) (by kernel_rfl) rfl rfl (all1 ?_)
   refine Step.eff rfl (Wanted.on rfl rfl rfl) (Eff.call call215 rfl rfl (Before34_ok (at_ xs ((i : Nat) : Int)) x)) ?_
   rintro _ _ ⟨_, _, ⟨rfl, rfl⟩, rfl, rfl⟩
   refine ⟨Fit.m, ?_⟩
   refine D.r 11 rfl (Runs.pickt rfl rfl) ?_
   refine D.done (by kernel_rfl) ?_
   refine V.then ?_
   refine W.sub (L' := [(18, _), (0, _), (3, _), (5, _)]) (Sub.cons rfl (Sub.cons rfl (Sub.cons rfl (Sub.cons rfl Sub.nil)))) ?_
   refine W.ite rfl (fun c18 => ?_) (fun c18 => ?_)
   ·refine W.skip ?_
    refine V.then ?_
    refine W.block ?_
    refine W.region ?_
    refine G.r (Runs.move rfl) ?_
    refine G.r (Runs.add rfl rfl (by unfold InR; omega)) ?_
    refine G.r (Runs.assign rfl) ?_
    refine G.nil ?_
    refine V.block_normal ?_
    exact V.next ((i + 1)) (show ((i + 1 : Nat) ≤ xs.length) ∧ (∀ j, j < (i + 1 : Nat) → Pt.lt (at_ xs (j : Int)) x) from ⟨(by omega), (all_succ hlt (by assumption))⟩) (show xs.length - (i + 1 : Nat) < xs.length - i from (by omega)) (Sub.cons rfl (Sub.cons rfl (Sub.cons lookO Sub.nil))) (show Fit κ _ (blk b1 [I64 (x.u), I64 (x.v)] 60 :: vc 60 (.slice a xs.length c) (xs) :: I) from Fit.sub)
   ·refine W.exit ?_
    refine V.then_exit ?_
    refine V.then_exit ?_
    refine V.block_hit ?_
    exact V.mid ((i)) (show ((i : Nat) ≤ xs.length) ∧ (∀ j, j < (i : Nat) → Pt.lt (at_ xs (j : Int)) x) ∧ ((i : Nat) = xs.length ∨ ((i : Nat) < xs.length ∧ ¬ Pt.lt (at_ xs ((i : Nat) : Int)) x)) from ⟨(by omega), hlt, (by first | exact .inl (by omega) | exact .inr ⟨by omega, by assumption⟩)⟩) (Sub.cons rfl (Sub.cons rfl (Sub.cons lookO Sub.nil))) (show Fit κ _ (blk b1 [I64 (x.u), I64 (x.v)] 60 :: vc 60 (.slice a xs.length c) (xs) :: I) from Fit.sub)
  ·refine D.po 5 rfl ?_
   refine D.po 6 rfl ?_
   refine D.po 7 rfl ?_
   refine D.po 8 rfl ?_
   refine D.po 9 rfl ?_
   refine D.po 10 rfl ?_
   refine D.r 11 rfl (Runs.pickf rfl rfl) ?_
   refine D.done (by kernel_rfl) ?_
   refine V.then ?_
   refine W.sub (L' := [(18, _), (0, _), (3, _), (5, _)]) (Sub.cons rfl (Sub.cons rfl (Sub.cons rfl (Sub.cons rfl Sub.nil)))) ?_
   refine W.no rfl ?_
   refine W.exit ?_
   refine V.then_exit ?_
   refine V.then_exit ?_
   refine V.block_hit ?_
   exact V.mid ((i)) (show ((i : Nat) ≤ xs.length) ∧ (∀ j, j < (i : Nat) → Pt.lt (at_ xs (j : Int)) x) ∧ ((i : Nat) = xs.length ∨ ((i : Nat) < xs.length ∧ ¬ Pt.lt (at_ xs ((i : Nat) : Int)) x)) from ⟨(by omega), hlt, (by first | exact .inl (by omega) | exact .inr ⟨by omega, by assumption⟩)⟩) (Sub.cons rfl (Sub.cons rfl (Sub.cons lookO Sub.nil))) (show Fit κ _ (blk b1 [I64 (x.u), I64 (x.v)] 60 :: vc 60 (.slice a xs.length c) (xs) :: I) from Fit.sub)
 ·rintro i hp
  obtain ⟨hi, hlt, hst⟩ : (i ≤ xs.length) ∧ (∀ j, j < i → Pt.lt (at_ xs (j : Int)) x) ∧ (i = xs.length ∨ (i < xs.length ∧ ¬ Pt.lt (at_ xs (i : Int)) x)) := hp
  show W Try.prog κ 46 _ _ ([(0, .slice a xs.length c), (3, .pointer (some ⟨b1, 0, none⟩)), (5, I64 (((i : Nat) : Int)))] : Env) (blk b1 [I64 (x.u), I64 (x.v)] 60 :: vc 60 (.slice a xs.length c) (xs) :: I)
  refine W.seq ?_
  refine W.seq ?_
  refine W.drawn mixed ?_
  refine A.hold (blk b1 [I64 (x.u), I64 (x.v)] 60 :: vc 60 (.slice a xs.length c) (xs) :: I) 12 ?_
  refine D.r 0 rfl (Runs.move rfl) ?_
  refine D.r 1 rfl (Runs.move rfl) ?_
  refine D.r 2 rfl (Runs.lens Try.underlying55 rfl) ?_
  refine D.r 3 rfl (Runs.lss rfl rfl) ?_
  refine D.r 4 rfl (Runs.move rfl) ?_
  refine D.split (d := 25) rfl (fun g25 => ?_) (fun g25 => ?_)
  ·refine D.ro 5 rfl (Runs.move rfl) ?_
   refine D.ro 6 rfl (Runs.move rfl) ?_
   refine D.ro 7 rfl (Runs.idx (α := Pt) (xs := xs) Try.underlying55 ty60 rfl rfl Sl.o (by omega) (by omega)) ?_
   refine D.ro 8 rfl (Runs.gets (α := Pt) (xs := xs) ty60 rfl Sl.o (by omega) (by omega)) ?_
   refine D.ro 9 rfl (Runs.lds (vs := [_, _]) ty60) ?_
   refine D.ro 10 rfl (Runs.eqlT (α := Pt) (a := (at_ xs ((i : Nat) : Int))) (b := x) eqt60 rfl rfl) ?_
   refine D.r 11 rfl (Runs.pickt rfl rfl) ?_
   refine D.done (by kernel_rfl) ?_
   refine V.then ?_
   refine W.sub (L' := [(32, _), (0, _), (3, _), (5, _)]) (Sub.cons rfl (Sub.cons rfl (Sub.cons rfl (Sub.cons rfl Sub.nil)))) ?_
   refine W.ite rfl (fun c32 => ?_) (fun c32 => ?_)
   ·refine W.sr ?_
    refine G.r (Runs.move rfl) ?_
    refine G.r (Runs.assign rfl) ?_
    refine G.nt ?_
    refine W.ret ?_
    refine V.then_ret ?_
    have hp := (insB_at xs i x hi hlt).1 (by omega) (hst.resolve_left (by omega)).2 (by assumption)
    exact V.ret1 rfl rfl (vc 60 (.slice a (insB Pt.lt xs x).length c) (insB Pt.lt xs x) :: I) (by rw [hp]; exact Fit.sub) ⟨a, c, by rw [hp], rfl⟩
   ·refine W.skip ?_
    refine V.then ?_
    refine W.seq ?_
    refine W.drawn mixed ?_
    refine A.hold (blk b1 [I64 (x.u), I64 (x.v)] 60 :: vc 60 (.slice a xs.length c) (xs) :: I) 8 ?_
    refine D.r 0 rfl (Runs.move rfl) ?_ (hJ := Fit.sub)
    refine D.r 1 rfl (Runs.move rfl) ?_ (hJ := Fit.sub)
    refine D.r 2 rfl (Runs.hi (α := Pt) (xs := xs) (h := i) Try.underlying55 ty60 rfl rfl (by omega) Sl.o (by omega)) ?_ (hJ := Fit.sub)
    refine D.r 4 rfl (Runs.lds (vs := [_, _]) ty60) ?_ (hJ := Fit.sub)
    refine D.step (rs := [3, 5]) (by kernel_rfl) rfl rfl (all2 ?_ (all1 ?_))
    ·refine Step.eff rfl (Wanted.plain rfl) (Eff.clone (α := Pt) (ys := List.take i xs) Try.underlying55 ty60 rfl rfl rfl (Sl.take Sl.o (by omega)) (by simp only [List.length_append, List.length_cons, List.length_nil, List.length_take, List.length_drop]; omega) (by decide) rfl) ?_
     rintro _ _ ⟨ad2, cp3, rfl, rfl⟩
     refine ⟨Fit.sub, ?_⟩
     refine D.step (rs := [5]) (by kernel_rfl) rfl rfl (all1 ?_)
     refine Step.eff rfl (Wanted.plain rfl) (Eff.bs (α := Pt) (cs := [_, _]) (xs := [⟨x.u, x.v⟩]) Try.underlying55 ty60 rfl rfl (by decide) (by decide) rfl rfl rfl rfl) ?_
     rintro _ _ ⟨ad4, rfl, rfl⟩
     refine ⟨Fit.sub, ?_⟩
     refine D.step (rs := [6]) (by kernel_rfl) rfl rfl (all1 ?_)
     refine Step.eff rfl (Wanted.plain rfl) (Eff.app (α := Pt) (e := 60) (xs := List.take i xs) (ys := ([⟨x.u, x.v⟩] : List Pt)) Try.underlying55 ty60 rfl rfl rfl (by repeat (first | exact List.mem_cons_self | apply List.mem_cons_of_mem)) Sl.o (by simp only [List.length_append, List.length_cons, List.length_nil, List.length_take, List.length_drop]; omega) (by decide) rfl (fun _ _ => (by repeat (first | exact At.head _ _ _ | apply At.tail)))) ?_
     rintro _ _ ⟨ad5, cp6, rfl, rfl⟩
     refine ⟨Fit.sub, ?_⟩
     refine D.r 7 rfl (Runs.assign rfl) ?_ (hJ := Fit.sub)
     refine D.done (by kernel_rfl) ?_
     refine V.then ?_
     refine W.sr ?_
     refine G.r (Runs.move rfl) ?_
     refine G.r (Runs.move rfl) ?_
     refine G.r (Runs.move rfl) ?_
     refine G.r (Runs.lo (α := Pt) (xs := xs) (l := i) Try.underlying55 ty60 rfl rfl (by omega) Sl.o (by omega)) ?_
     refine G.e (Eff.app (α := Pt) (e := 60) (xs := (List.take i xs) ++ ([⟨x.u, x.v⟩] : List Pt)) (ys := List.drop i xs) Try.underlying55 ty60 rfl rfl rfl (by repeat (first | exact List.mem_cons_self | apply List.mem_cons_of_mem)) (Sl.drop Sl.o (by omega)) (by simp only [List.length_append, List.length_cons, List.length_nil, List.length_take, List.length_drop]; omega) (by decide) rfl (fun _ _ => (by repeat (first | exact At.head _ _ _ | apply At.tail)))) ?_
     rintro _ _ ⟨ad7, cp8, rfl, rfl⟩
     refine G.r (Runs.assign rfl) ?_
     refine G.nt ?_
     refine W.sub (L' := [(4, _)]) (Sub.cons rfl Sub.nil) ?_
     refine W.ret ?_
     have hp := (insB_at xs i x hi hlt).2 (by first | exact .inl (by omega) | exact .inr ⟨by omega, (hst.resolve_left (by omega)).2, by assumption⟩)
     exact V.ret1 rfl rfl (vc 60 (.slice ad7 (insB Pt.lt xs x).length cp8) (insB Pt.lt xs x) :: I) (by rw [hp]; exact Fit.sub) ⟨ad7, cp8, by rw [hp], rfl⟩
    ·refine Step.eff rfl (Wanted.plain rfl) (Eff.bs (α := Pt) (cs := [_, _]) (xs := [⟨x.u, x.v⟩]) Try.underlying55 ty60 rfl rfl (by decide) (by decide) rfl rfl rfl rfl) ?_
     rintro _ _ ⟨ad9, rfl, rfl⟩
     refine ⟨Fit.sub, ?_⟩
     refine D.step (rs := [3]) (by kernel_rfl) rfl rfl (all1 ?_)
     refine Step.eff rfl (Wanted.plain rfl) (Eff.clone (α := Pt) (ys := List.take i xs) Try.underlying55 ty60 rfl rfl rfl (Sl.take Sl.o (by omega)) (by simp only [List.length_append, List.length_cons, List.length_nil, List.length_take, List.length_drop]; omega) (by decide) rfl) ?_
     rintro _ _ ⟨ad10, cp11, rfl, rfl⟩
     refine ⟨Fit.sub, ?_⟩
     refine D.step (rs := [6]) (by kernel_rfl) rfl rfl (all1 ?_)
     refine Step.eff rfl (Wanted.plain rfl) (Eff.app (α := Pt) (e := 60) (xs := List.take i xs) (ys := ([⟨x.u, x.v⟩] : List Pt)) Try.underlying55 ty60 rfl rfl rfl (by repeat (first | exact List.mem_cons_self | apply List.mem_cons_of_mem)) Sl.o (by simp only [List.length_append, List.length_cons, List.length_nil, List.length_take, List.length_drop]; omega) (by decide) rfl (fun _ _ => (by repeat (first | exact At.head _ _ _ | apply At.tail)))) ?_
     rintro _ _ ⟨ad12, cp13, rfl, rfl⟩
     refine ⟨Fit.sub, ?_⟩
     refine D.r 7 rfl (Runs.assign rfl) ?_ (hJ := Fit.sub)
     refine D.done (by kernel_rfl) ?_
     refine V.then ?_
     refine W.sr ?_
     refine G.r (Runs.move rfl) ?_
     refine G.r (Runs.move rfl) ?_
     refine G.r (Runs.move rfl) ?_
     refine G.r (Runs.lo (α := Pt) (xs := xs) (l := i) Try.underlying55 ty60 rfl rfl (by omega) Sl.o (by omega)) ?_
     refine G.e (Eff.app (α := Pt) (e := 60) (xs := (List.take i xs) ++ ([⟨x.u, x.v⟩] : List Pt)) (ys := List.drop i xs) Try.underlying55 ty60 rfl rfl rfl (by repeat (first | exact List.mem_cons_self | apply List.mem_cons_of_mem)) (Sl.drop Sl.o (by omega)) (by simp only [List.length_append, List.length_cons, List.length_nil, List.length_take, List.length_drop]; omega) (by decide) rfl (fun _ _ => (by repeat (first | exact At.head _ _ _ | apply At.tail)))) ?_
     rintro _ _ ⟨ad14, cp15, rfl, rfl⟩
     refine G.r (Runs.assign rfl) ?_
     refine G.nt ?_
     refine W.sub (L' := [(4, _)]) (Sub.cons rfl Sub.nil) ?_
     refine W.ret ?_
     have hp := (insB_at xs i x hi hlt).2 (by first | exact .inl (by omega) | exact .inr ⟨by omega, (hst.resolve_left (by omega)).2, by assumption⟩)
     exact V.ret1 rfl rfl (vc 60 (.slice ad14 (insB Pt.lt xs x).length cp15) (insB Pt.lt xs x) :: I) (by rw [hp]; exact Fit.sub) ⟨ad14, cp15, by rw [hp], rfl⟩
  ·refine D.po 5 rfl ?_
   refine D.po 6 rfl ?_
   refine D.po 7 rfl ?_
   refine D.po 8 rfl ?_
   refine D.po 9 rfl ?_
   refine D.po 10 rfl ?_
   refine D.r 11 rfl (Runs.pickf rfl rfl) ?_
   refine D.done (by kernel_rfl) ?_
   refine V.then ?_
   refine W.sub (L' := [(32, _), (0, _), (3, _), (5, _)]) (Sub.cons rfl (Sub.cons rfl (Sub.cons rfl (Sub.cons rfl Sub.nil)))) ?_
   refine W.no rfl ?_
   refine W.skip ?_
   refine V.then ?_
   refine W.seq ?_
   refine W.drawn mixed ?_
   refine A.hold (blk b1 [I64 (x.u), I64 (x.v)] 60 :: vc 60 (.slice a xs.length c) (xs) :: I) 8 ?_
   refine D.r 0 rfl (Runs.move rfl) ?_ (hJ := Fit.sub)
   refine D.r 1 rfl (Runs.move rfl) ?_ (hJ := Fit.sub)
   refine D.r 2 rfl (Runs.hi (α := Pt) (xs := xs) (h := i) Try.underlying55 ty60 rfl rfl (by omega) Sl.o (by omega)) ?_ (hJ := Fit.sub)
   refine D.r 4 rfl (Runs.lds (vs := [_, _]) ty60) ?_ (hJ := Fit.sub)
   refine D.step (rs := [3, 5]) (by kernel_rfl) rfl rfl (all2 ?_ (all1 ?_))
   ·refine Step.eff rfl (Wanted.plain rfl) (Eff.clone (α := Pt) (ys := List.take i xs) Try.underlying55 ty60 rfl rfl rfl (Sl.take Sl.o (by omega)) (by simp only [List.length_append, List.length_cons, List.length_nil, List.length_take, List.length_drop]; omega) (by decide) rfl) ?_
    rintro _ _ ⟨ad16, cp17, rfl, rfl⟩
    refine ⟨Fit.sub, ?_⟩
    refine D.step (rs := [5]) (by kernel_rfl) rfl rfl (all1 ?_)
    refine Step.eff rfl (Wanted.plain rfl) (Eff.bs (α := Pt) (cs := [_, _]) (xs := [⟨x.u, x.v⟩]) Try.underlying55 ty60 rfl rfl (by decide) (by decide) rfl rfl rfl rfl) ?_
    rintro _ _ ⟨ad18, rfl, rfl⟩
    refine ⟨Fit.sub, ?_⟩
    refine D.step (rs := [6]) (by kernel_rfl) rfl rfl (all1 ?_)
    refine Step.eff rfl (Wanted.plain rfl) (Eff.app (α := Pt) (e := 60) (xs := List.take i xs) (ys := ([⟨x.u, x.v⟩] : List Pt)) Try.underlying55 ty60 rfl rfl rfl (by repeat (first | exact List.mem_cons_self | apply List.mem_cons_of_mem)) Sl.o (by simp only [List.length_append, List.length_cons, List.length_nil, List.length_take, List.length_drop]; omega) (by decide) rfl (fun _ _ => (by repeat (first | exact At.head _ _ _ | apply At.tail)))) ?_
    rintro _ _ ⟨ad19, cp20, rfl, rfl⟩
    refine ⟨Fit.sub, ?_⟩
    refine D.r 7 rfl (Runs.assign rfl) ?_ (hJ := Fit.sub)
    refine D.done (by kernel_rfl) ?_
    refine V.then ?_
    refine W.sr ?_
    refine G.r (Runs.move rfl) ?_
    refine G.r (Runs.move rfl) ?_
    refine G.r (Runs.move rfl) ?_
    refine G.r (Runs.lo (α := Pt) (xs := xs) (l := i) Try.underlying55 ty60 rfl rfl (by omega) Sl.o (by omega)) ?_
    refine G.e (Eff.app (α := Pt) (e := 60) (xs := (List.take i xs) ++ ([⟨x.u, x.v⟩] : List Pt)) (ys := List.drop i xs) Try.underlying55 ty60 rfl rfl rfl (by repeat (first | exact List.mem_cons_self | apply List.mem_cons_of_mem)) (Sl.drop Sl.o (by omega)) (by simp only [List.length_append, List.length_cons, List.length_nil, List.length_take, List.length_drop]; omega) (by decide) rfl (fun _ _ => (by repeat (first | exact At.head _ _ _ | apply At.tail)))) ?_
    rintro _ _ ⟨ad21, cp22, rfl, rfl⟩
    refine G.r (Runs.assign rfl) ?_
    refine G.nt ?_
    refine W.sub (L' := [(4, _)]) (Sub.cons rfl Sub.nil) ?_
    refine W.ret ?_
    have hp := (insB_at xs i x hi hlt).2 (by first | exact .inl (by omega) | exact .inr ⟨by omega, (hst.resolve_left (by omega)).2, by assumption⟩)
    exact V.ret1 rfl rfl (vc 60 (.slice ad21 (insB Pt.lt xs x).length cp22) (insB Pt.lt xs x) :: I) (by rw [hp]; exact Fit.sub) ⟨ad21, cp22, by rw [hp], rfl⟩
   ·refine Step.eff rfl (Wanted.plain rfl) (Eff.bs (α := Pt) (cs := [_, _]) (xs := [⟨x.u, x.v⟩]) Try.underlying55 ty60 rfl rfl (by decide) (by decide) rfl rfl rfl rfl) ?_
    rintro _ _ ⟨ad23, rfl, rfl⟩
    refine ⟨Fit.sub, ?_⟩
    refine D.step (rs := [3]) (by kernel_rfl) rfl rfl (all1 ?_)
    refine Step.eff rfl (Wanted.plain rfl) (Eff.clone (α := Pt) (ys := List.take i xs) Try.underlying55 ty60 rfl rfl rfl (Sl.take Sl.o (by omega)) (by simp only [List.length_append, List.length_cons, List.length_nil, List.length_take, List.length_drop]; omega) (by decide) rfl) ?_
    rintro _ _ ⟨ad24, cp25, rfl, rfl⟩
    refine ⟨Fit.sub, ?_⟩
    refine D.step (rs := [6]) (by kernel_rfl) rfl rfl (all1 ?_)
    refine Step.eff rfl (Wanted.plain rfl) (Eff.app (α := Pt) (e := 60) (xs := List.take i xs) (ys := ([⟨x.u, x.v⟩] : List Pt)) Try.underlying55 ty60 rfl rfl rfl (by repeat (first | exact List.mem_cons_self | apply List.mem_cons_of_mem)) Sl.o (by simp only [List.length_append, List.length_cons, List.length_nil, List.length_take, List.length_drop]; omega) (by decide) rfl (fun _ _ => (by repeat (first | exact At.head _ _ _ | apply At.tail)))) ?_
    rintro _ _ ⟨ad26, cp27, rfl, rfl⟩
    refine ⟨Fit.sub, ?_⟩
    refine D.r 7 rfl (Runs.assign rfl) ?_ (hJ := Fit.sub)
    refine D.done (by kernel_rfl) ?_
    refine V.then ?_
    refine W.sr ?_
    refine G.r (Runs.move rfl) ?_
    refine G.r (Runs.move rfl) ?_
    refine G.r (Runs.move rfl) ?_
    refine G.r (Runs.lo (α := Pt) (xs := xs) (l := i) Try.underlying55 ty60 rfl rfl (by omega) Sl.o (by omega)) ?_
    refine G.e (Eff.app (α := Pt) (e := 60) (xs := (List.take i xs) ++ ([⟨x.u, x.v⟩] : List Pt)) (ys := List.drop i xs) Try.underlying55 ty60 rfl rfl rfl (by repeat (first | exact List.mem_cons_self | apply List.mem_cons_of_mem)) (Sl.drop Sl.o (by omega)) (by simp only [List.length_append, List.length_cons, List.length_nil, List.length_take, List.length_drop]; omega) (by decide) rfl (fun _ _ => (by repeat (first | exact At.head _ _ _ | apply At.tail)))) ?_
    rintro _ _ ⟨ad28, cp29, rfl, rfl⟩
    refine G.r (Runs.assign rfl) ?_
    refine G.nt ?_
    refine W.sub (L' := [(4, _)]) (Sub.cons rfl Sub.nil) ?_
    refine W.ret ?_
    have hp := (insB_at xs i x hi hlt).2 (by first | exact .inl (by omega) | exact .inr ⟨by omega, (hst.resolve_left (by omega)).2, by assumption⟩)
    exact V.ret1 rfl rfl (vc 60 (.slice ad28 (insB Pt.lt xs x).length cp29) (insB Pt.lt xs x) :: I) (by rw [hp]; exact Fit.sub) ⟨ad28, cp29, by rw [hp], rfl⟩

theorem PutP_at {κ : Ctx} {I : List Item} {F : Item → List Item} {a : Option Addr} {c : Nat} {xs : List Pt} (hat : AtF I (vc 60 (.slice a xs.length c) xs) F) (hb : xs.length < 1000000000) (x : Pt) :
    CallS Try.prog κ 214 [.slice a xs.length c, .agg #[I64 x.u, I64 x.v]] I fun r J => ∃ a' c', r = .slice a' (insB Pt.lt xs x).length c' ∧ J = F (vc 60 (.slice a' (insB Pt.lt xs x).length c') (insB Pt.lt xs x)) :=
  (CallS.at (Z := fun _ => []) (X := fun y : Option Addr × Nat => vc 60 (.slice y.1 (insB Pt.lt xs x).length y.2) (insB Pt.lt xs x)) (Post := fun r y => r = .slice y.1 (insB Pt.lt xs x).length y.2) hat fun J _ _ => (PutP_ok (a := a) (c := c) hb x).mono fun r J' ⟨a', c', h1, h2⟩ => ⟨(a', c'), h1, h2⟩).mono fun _ _ ⟨y, h1, h2⟩ => ⟨y.1, y.2, h1, h2⟩

theorem Sorted34_ok {κ : Ctx} {I : List Item} {v : Value} {xs : List Pt} (hl : Sl κ I v xs) (hb : xs.length < 1000000000) :
    CallS Try.prog κ 168 [v] I (fun r J => ∃ a c, r = .slice a (sortB Pt.lt xs).length c ∧ J = vc 60 (.slice a (sortB Pt.lt xs).length c) (sortB Pt.lt xs) :: I) := by
 refine CallS.pull hl.le fun hmax => ?_
 refine CallS.enter (L := [(0, v)]) Try.func168 rfl rfl rfl rfl ?_
 refine W.sr ?_
 refine G.r (Runs.assign rfl) ?_
 refine G.nt ?_
 refine W.sr ?_
 refine G.r (Runs.assign rfl) ?_
 refine G.nt ?_
 refine W.seq ?_
 refine W.sr ?_
 refine G.r (Runs.assign rfl) ?_
 refine G.nt ?_
 refine W.block ?_
 refine W.loop (σ := Nat × (Option Addr) × Nat × (List Pt)) (fun s => ([(0, v), (3, .slice s.2.1 s.2.2.2.length s.2.2.1), (4, I64 (((s.1 : Nat) : Int)))] : Env)) (fun s => vc 60 (.slice s.2.1 s.2.2.2.length s.2.2.1) (s.2.2.2) :: I) (fun s => (s.1 ≤ xs.length) ∧ (s.2.2.2 = sortB Pt.lt (xs.take s.1))) (fun s => xs.length - s.1) (0, none, 0, []) (show ((0 : Nat) ≤ xs.length) ∧ (([] : List Pt) = sortB Pt.lt (xs.take (0 : Nat))) from ⟨(by omega), rfl⟩) (Sub.cons rfl (Sub.cons (lookV rfl (by first | rfl | simp)) (Sub.cons lookO Sub.nil))) (show Fit κ _ (vc 60 (.slice (none) ([]).length (0)) (([])) :: I) from (Fit.nilvc _ _)) ?_
 rintro ⟨k, a, c, out⟩ hp
 obtain ⟨hk, ho⟩ : (k ≤ xs.length) ∧ (out = sortB Pt.lt (xs.take k)) := hp
 show W Try.prog κ 18 _ _ ([(0, v), (3, .slice a out.length c), (4, I64 (((k : Nat) : Int)))] : Env) (vc 60 (.slice a out.length c) (out) :: I)
 refine W.seq ?_
 refine W.sr ?_
 refine G.r (Runs.move rfl) ?_
 refine G.r (Runs.move rfl) ?_
 refine G.r (Runs.lenT (α := Pt) (xs := xs) Try.underlying55 rfl (Sl.f hl)) ?_
 refine G.r (Runs.lss rfl rfl) ?_
 refine G.nt ?_
 refine W.ite rfl (fun c8 => ?_) (fun c8 => ?_)
 ·refine W.skip ?_
  refine V.then ?_
  refine W.seq ?_
  refine W.block ?_
  refine W.region ?_
  refine G.r (Runs.move rfl) ?_
  refine G.r (Runs.move rfl) ?_
  refine G.r (Runs.move rfl) ?_
  refine G.r (Runs.idx (α := Pt) (xs := xs) Try.underlying55 ty60 rfl rfl (Sl.f hl) (by omega) (by omega)) ?_
  refine G.r (Runs.gets (α := Pt) (xs := xs) ty60 rfl (Sl.f hl) (by omega) (by omega)) ?_
  refine G.e (Eff.call call214 rfl rfl (PutP_at (by repeat (first | exact AtF.head _ _ | apply AtF.tail)) (by rw [ho]; have := sortB_len (lt := Pt.lt) (xs.take k); simp only [List.length_take] at this; omega) (at_ xs ((k : Nat) : Int)))) ?_
  rintro _ _ ⟨_, _, ⟨ad1, cp2, rfl, rfl⟩, rfl, rfl⟩
  show G Try.prog κ _ _ _ _ ([(16, .slice ad1 (insB Pt.lt out (at_ xs ((k : Nat) : Int))).length cp2), (15, .agg #[I64 ((at_ xs ((k : Nat) : Int)).u), I64 ((at_ xs ((k : Nat) : Int)).v)]), (14, elemPtr (v) ((((k : Nat) : Int)).toNat * Enc.sz Pt)), (13, I64 (((k : Nat) : Int))), (12, v), (11, .slice a out.length c), (8, .bool (decide (((k : Nat) : Int) < ((xs.length : Nat) : Int)))), (7, I64 (((xs.length : Nat) : Int))), (6, v), (5, I64 (((k : Nat) : Int))), (0, v), (3, .slice a out.length c), (4, I64 (((k : Nat) : Int)))] : Env) (vc 60 (.slice ad1 (insB Pt.lt out (at_ xs ((k : Nat) : Int))).length cp2) (insB Pt.lt out (at_ xs ((k : Nat) : Int))) :: I)
  refine G.r (Runs.assign rfl) ?_
  refine G.nil ?_
  refine V.block_normal ?_
  refine V.then ?_
  refine W.sub (L' := [(3, _), (0, _), (4, _)]) (Sub.cons rfl (Sub.cons rfl (Sub.cons rfl Sub.nil))) ?_
  refine W.region ?_
  refine G.r (Runs.move rfl) ?_
  refine G.r (Runs.add rfl rfl (by unfold InR; omega)) ?_
  refine G.r (Runs.assign rfl) ?_
  refine G.nil ?_
  exact V.next ((k + 1), (ad1), (cp2), (insB Pt.lt out (at_ xs ((k : Nat) : Int)))) (show ((k + 1 : Nat) ≤ xs.length) ∧ ((insB Pt.lt out (at_ xs ((k : Nat) : Int)) : List Pt) = sortB Pt.lt (xs.take (k + 1 : Nat))) from ⟨(by omega), (by rw [sortB_take xs k (by omega), ← ho])⟩) (show xs.length - (k + 1 : Nat) < xs.length - k from (by omega)) (Sub.cons rfl (Sub.cons (lookV rfl (by first | rfl | simp)) (Sub.cons lookO Sub.nil))) (show Fit κ _ (vc 60 (.slice (ad1) (insB Pt.lt out (at_ xs ((k : Nat) : Int))).length (cp2)) ((insB Pt.lt out (at_ xs ((k : Nat) : Int)))) :: I) from Fit.sub)
 ·refine W.exit ?_
  refine V.then_exit ?_
  refine V.then_exit ?_
  refine V.block_hit ?_
  refine V.then ?_
  refine W.sr ?_
  refine G.r (Runs.move rfl) ?_
  refine G.r (Runs.assign rfl) ?_
  refine G.nt ?_
  refine W.ret ?_
  have hk2 : xs.take k = xs := List.take_of_length_le (by omega)
  rw [hk2] at ho
  subst ho
  exact V.ret1 rfl rfl (_) Fit.m ⟨a, c, rfl, rfl⟩

end Go.Sl
namespace Go.Sl
open Go.Proofs
set_option linter.unusedVariables false
set_option linter.unusedSimpArgs false
set_option maxRecDepth 4000
theorem MkGraph_base {κ : Ctx} {I : List Item} {b : Nat} {lv : Value} {ls : List Int} {i : Int} {most : Int} (hl : ∀ q, Sl κ (deck b lv q :: I) lv ls) (h0 : 0 ≤ i)  (hm : 0 ≤ most ∧ most ≤ 20) :
    CallS Try.prog κ 69 [.pointer (some ⟨b, 0, none⟩), I64 (most)] (blk b [lv, I64 (i)] 129 :: I) (fun r J => ∃ y : Int × (Option Addr) × Nat × (List Pt) × Int, ((r = .agg #[I64 y.1, .slice y.2.1 y.2.2.2.1.length y.2.2.1] ∧ (y.1 ≤ most ∧ GrOk y.1 y.2.2.2.1 ∧ y.2.2.2.1.length ≤ 400)) ∧ 0 ≤ y.2.2.2.2) ∧ J = [vc 150 (.slice y.2.1 y.2.2.2.1.length y.2.2.1) y.2.2.2.1] ++ deck b lv y.2.2.2.2 :: I) := by
 refine CallS.enter (L := [(0, .pointer (some ⟨b, 0, none⟩)), (1, I64 (most))]) Try.func69 rfl rfl rfl rfl ?_
 refine W.sr ?_
 refine G.e (Eff.alloc ty99 rfl) ?_
 rintro _ _ ⟨b1, rfl, rfl⟩
 refine G.nt ?_
 refine W.sr ?_
 refine G.r (Runs.move rfl) ?_
 refine G.r (Runs.move rfl) ?_
 refine G.r (Runs.add rfl rfl (by unfold InR; omega)) ?_
 refine G.e (Eff.call call25 rfl rfl (Next_ok (by repeat (first | exact AtF.head _ _ | apply AtF.tail)) (Sl.fit (hl _) Fit.m) (by omega) (by omega))) ?_
 rintro _ _ ⟨_, _, ⟨x2, i3, rfl, hx2, hi3, rfl⟩, rfl, rfl⟩
 show G Try.prog κ _ _ _ _ ([(12, I64 (x2)), (11, I64 (most + 1)), (10, I64 (most)), (9, .pointer (some ⟨b, 0, none⟩)), (4, .pointer (some ⟨b1, 0, none⟩)), (0, .pointer (some ⟨b, 0, none⟩)), (1, I64 (most))] : Env) (blk b1 [I64 (0), .slice none 0 0] 99 :: blk b [lv, I64 (i3)] 129 :: I)
 refine G.r (Runs.build (cells := [_, _]) ty99 Try.underlying99 pl99 rfl rfl) ?_
 refine G.e (Eff.alloc ty99 rfl) ?_
 rintro _ _ ⟨b4, rfl, rfl⟩
 refine G.e (Eff.st (cs := [_, _]) (vs := [_, _]) (cs' := [_, _]) ty99) ?_
 rintro _ _ ⟨rfl, rfl⟩
 refine G.nt ?_
 refine W.cut (σ := Int × Int) (fun s => ([(0, .pointer (some ⟨b, 0, none⟩)), (4, .pointer (some ⟨b1, 0, none⟩)), (5, .pointer (some ⟨b4, 0, none⟩))] : Env)) (fun s => blk b4 [I64 (s.1), .slice none 0 0] 99 :: blk b1 [I64 (0), .slice none 0 0] 99 :: blk b [lv, I64 (s.2)] 129 :: I) (fun s => (0 ≤ s.1 ∧ s.1 ≤ most) ∧ (0 ≤ s.2)) ?_ ?_
 ·refine W.sr ?_
  refine G.r (Runs.fieldAddr fld99_0 rfl) ?_
  refine G.r (Runs.ld ty3) ?_
  refine G.r (Runs.lss rfl rfl) ?_
  refine G.nt ?_
  refine W.ite rfl (fun c16 => ?_) (fun c16 => ?_)
  ·refine W.drawn mixed ?_
   refine A.hold (blk b4 [I64 (x2), .slice none 0 0] 99 :: blk b1 [I64 (0), .slice none 0 0] 99 :: I) 10 ?_
   refine D.r 0 rfl (Runs.move rfl) ?_ (hJ := Fit.sub)
   refine D.r 1 rfl (Runs.fieldAddr fld99_0 rfl) ?_ (hJ := Fit.sub)
   refine D.r 2 rfl (Runs.ld ty3) ?_ (hJ := Fit.sub)
   refine D.r 3 rfl (Runs.move rfl) ?_ (hJ := Fit.sub)
   refine D.r 4 rfl (Runs.move rfl) ?_ (hJ := Fit.sub)
   refine D.r 5 rfl (Runs.add rfl rfl (by unfold InR; omega)) ?_ (hJ := Fit.sub)
   refine D.step (rs := [6]) (by kernel_rfl) rfl rfl (all1 ?_)
   refine Step.eff rfl (Wanted.plain rfl) (Eff.call call25 rfl rfl (Next_ok (by repeat (first | exact AtF.head _ _ | apply AtF.tail)) (Sl.fit (hl _) Fit.m) (by omega) (by omega))) ?_
   rintro _ _ ⟨_, _, ⟨x5, i6, rfl, hx5, hi6, rfl⟩, rfl, rfl⟩
   refine ⟨Fit.sub, ?_⟩
   show D Try.prog κ _ _ _ _ _ _ _ ([(23, I64 (x5)), (22, I64 (most + 1)), (21, I64 (most)), (20, .pointer (some ⟨b, 0, none⟩)), (19, I64 (x2)), (18, .pointer (some ⟨b4, 0, none⟩)), (17, I64 (most)), (16, .bool (decide (x2 < 4))), (15, I64 (x2)), (14, .pointer (some ⟨b4, 0, none⟩)), (5, .pointer (some ⟨b4, 0, none⟩)), (13, .agg #[I64 (x2), .slice none 0 0]), (12, I64 (x2)), (11, I64 (most + 1)), (10, I64 (most)), (9, .pointer (some ⟨b, 0, none⟩)), (4, .pointer (some ⟨b1, 0, none⟩)), (0, .pointer (some ⟨b, 0, none⟩)), (1, I64 (most))] : Env) (blk b4 [I64 (x2), .slice none 0 0] 99 :: blk b1 [I64 (0), .slice none 0 0] 99 :: blk b [lv, I64 (i6)] 129 :: I)
   refine D.r 7 rfl (Runs.add rfl rfl (by unfold InR; omega)) ?_ (hJ := Fit.sub)
   refine D.r 8 rfl (Runs.min rfl rfl) ?_ (hJ := Fit.sub)
   refine D.r 9 rfl (Runs.fieldAddr fld99_0 rfl) ?_ (hJ := Fit.sub)
   refine D.stop (by kernel_rfl) ?_
   refine A.eff (i := 10) (by kernel_rfl) rfl (Wanted.plain rfl) (Eff.st (cs := [_, _]) (vs := [_]) (cs' := [_, _]) ty3) ?_
   rintro _ _ ⟨rfl, rfl⟩
   refine A.done (by kernel_rfl) ?_
   exact V.mid ((if (x2 + x5) < most then (x2 + x5) else most), (i6)) (show (0 ≤ (if (x2 + x5) < most then (x2 + x5) else most : Int) ∧ (if (x2 + x5) < most then (x2 + x5) else most : Int) ≤ most) ∧ (0 ≤ (i6 : Int)) from ⟨(by refine ⟨?_, ?_⟩ <;> first | omega | (split <;> omega)), (by omega)⟩) (Sub.cons rfl (Sub.cons rfl (Sub.cons rfl Sub.nil))) (show Fit κ _ (blk b4 [I64 ((if (x2 + x5) < most then (x2 + x5) else most)), .slice none 0 0] 99 :: blk b1 [I64 (0), .slice none 0 0] 99 :: blk b [lv, I64 ((i6))] 129 :: I) from Fit.s)
  ·refine W.skip ?_
   exact V.mid ((x2), (i3)) (show (0 ≤ (x2 : Int) ∧ (x2 : Int) ≤ most) ∧ (0 ≤ (i3 : Int)) from ⟨(by refine ⟨?_, ?_⟩ <;> first | omega | (split <;> omega)), (by omega)⟩) (Sub.cons rfl (Sub.cons rfl (Sub.cons rfl Sub.nil))) (show Fit κ _ (blk b4 [I64 ((x2)), .slice none 0 0] 99 :: blk b1 [I64 (0), .slice none 0 0] 99 :: blk b [lv, I64 ((i3))] 129 :: I) from Fit.s)
 ·rintro ⟨nd, iqz⟩ hp
  obtain ⟨hnd, hiqz⟩ : (0 ≤ nd ∧ nd ≤ most) ∧ (0 ≤ iqz) := hp
  show W Try.prog κ 58 _ _ ([(0, .pointer (some ⟨b, 0, none⟩)), (4, .pointer (some ⟨b1, 0, none⟩)), (5, .pointer (some ⟨b4, 0, none⟩))] : Env) (blk b4 [I64 (nd), .slice none 0 0] 99 :: blk b1 [I64 (0), .slice none 0 0] 99 :: blk b [lv, I64 (iqz)] 129 :: I)
  refine W.sr ?_
  refine G.r (Runs.move rfl) ?_
  refine G.e (Eff.call call25 rfl rfl (Next_ok (by repeat (first | exact AtF.head _ _ | apply AtF.tail)) (Sl.fit (hl _) Fit.m) (by omega) (by omega))) ?_
  rintro _ _ ⟨_, _, ⟨x7, i8, rfl, hx7, hi8, rfl⟩, rfl, rfl⟩
  show G Try.prog κ _ _ _ _ ([(28, I64 (x7)), (27, .pointer (some ⟨b, 0, none⟩)), (0, .pointer (some ⟨b, 0, none⟩)), (4, .pointer (some ⟨b1, 0, none⟩)), (5, .pointer (some ⟨b4, 0, none⟩))] : Env) (blk b4 [I64 (nd), .slice none 0 0] 99 :: blk b1 [I64 (0), .slice none 0 0] 99 :: blk b [lv, I64 (i8)] 129 :: I)
  refine G.r (Runs.add rfl rfl (by unfold InR; omega)) ?_
  refine G.r (Runs.assign rfl) ?_
  refine G.nt ?_
  refine W.seq ?_
  refine W.sr ?_
  refine G.r (Runs.assign rfl) ?_
  refine G.nt ?_
  refine W.block ?_
  refine W.loop (σ := Int × Int × (Option Addr) × Nat × (List Pt)) (fun s => ([(0, .pointer (some ⟨b, 0, none⟩)), (4, .pointer (some ⟨b1, 0, none⟩)), (5, .pointer (some ⟨b4, 0, none⟩)), (6, I64 (1 + x7)), (7, I64 (s.1))] : Env)) (fun s => vc 150 (.slice s.2.2.1 s.2.2.2.2.length s.2.2.2.1) (s.2.2.2.2) :: blk b4 [I64 (nd), .slice s.2.2.1 s.2.2.2.2.length s.2.2.2.1] 99 :: blk b1 [I64 (0), .slice none 0 0] 99 :: blk b [lv, I64 (s.2.1)] 129 :: I) (fun s => (0 ≤ s.1 ∧ s.1 ≤ nd) ∧ (0 ≤ s.2.1) ∧ (GI nd s.2.2.2.2 s.1 0) ∧ ((s.2.2.2.2.length : Int) ≤ s.1 * 20)) (fun s => (nd - s.1).toNat) (0, i8, none, 0, []) (show (0 ≤ (0 : Int) ∧ (0 : Int) ≤ nd) ∧ (0 ≤ (i8 : Int)) ∧ (GI nd ([] : List Pt) (0 : Int) 0) ∧ ((([] : List Pt).length : Int) ≤ (0 : Int) * 20) from ⟨(by omega), (by omega), GI.start, (by simp)⟩) (Sub.cons rfl (Sub.cons rfl (Sub.cons rfl (Sub.cons rfl (Sub.cons lookO Sub.nil))))) (show Fit κ _ (vc 150 (.slice (none) ([]).length (0)) (([])) :: blk b4 [I64 (nd), .slice (none) ([]).length (0)] 99 :: blk b1 [I64 (0), .slice none 0 0] 99 :: blk b [lv, I64 ((i8))] 129 :: I) from (Fit.nilvc _ _)) ?_
  rintro ⟨u, iqa, a, c, es⟩ hp
  obtain ⟨hu, hiqa, hG, hlen⟩ : (0 ≤ u ∧ u ≤ nd) ∧ (0 ≤ iqa) ∧ (GI nd es u 0) ∧ ((es.length : Int) ≤ u * 20) := hp
  show W Try.prog κ 58 _ _ ([(0, .pointer (some ⟨b, 0, none⟩)), (4, .pointer (some ⟨b1, 0, none⟩)), (5, .pointer (some ⟨b4, 0, none⟩)), (6, I64 (1 + x7)), (7, I64 (u))] : Env) (vc 150 (.slice a es.length c) (es) :: blk b4 [I64 (nd), .slice a es.length c] 99 :: blk b1 [I64 (0), .slice none 0 0] 99 :: blk b [lv, I64 (iqa)] 129 :: I)
  refine W.seq ?_
  refine W.sr ?_
  refine G.r (Runs.move rfl) ?_
  refine G.r (Runs.fieldAddr fld99_0 rfl) ?_
  refine G.r (Runs.ld ty3) ?_
  refine G.r (Runs.lss rfl rfl) ?_
  refine G.nt ?_
  refine W.ite rfl (fun c33 => ?_) (fun c33 => ?_)
  ·refine W.skip ?_
   refine V.then ?_
   refine W.seq ?_
   refine W.block ?_
   refine W.sr ?_
   refine G.r (Runs.move rfl) ?_
   refine G.r (Runs.add rfl rfl (by unfold InR; omega)) ?_
   refine G.r (Runs.assign rfl) ?_
   refine G.nt ?_
   refine W.block ?_
   refine W.loop (σ := Int × Int × (Option Addr) × Nat × (List Pt)) (fun s => ([(0, .pointer (some ⟨b, 0, none⟩)), (4, .pointer (some ⟨b1, 0, none⟩)), (5, .pointer (some ⟨b4, 0, none⟩)), (6, I64 (1 + x7)), (7, I64 (u)), (8, I64 (s.1))] : Env)) (fun s => vc 150 (.slice s.2.2.1 s.2.2.2.2.length s.2.2.2.1) (s.2.2.2.2) :: blk b4 [I64 (nd), .slice s.2.2.1 s.2.2.2.2.length s.2.2.2.1] 99 :: blk b1 [I64 (0), .slice none 0 0] 99 :: blk b [lv, I64 (s.2.1)] 129 :: I) (fun s => (u + 1 ≤ s.1 ∧ s.1 ≤ nd) ∧ (0 ≤ s.2.1) ∧ (GI nd s.2.2.2.2 u s.1) ∧ ((s.2.2.2.2.length : Int) ≤ u * 20 + s.1)) (fun s => (nd - s.1).toNat) (u + 1, iqa, a, c, es) (show (u + 1 ≤ (u + 1 : Int) ∧ (u + 1 : Int) ≤ nd) ∧ (0 ≤ (iqa : Int)) ∧ (GI nd (es : List Pt) u (u + 1 : Int)) ∧ (((es : List Pt).length : Int) ≤ u * 20 + (u + 1 : Int)) from ⟨(by omega), (by omega), (hG.mono (by omega)), (by omega)⟩) (Sub.cons rfl (Sub.cons rfl (Sub.cons rfl (Sub.cons rfl (Sub.cons rfl (Sub.cons lookO Sub.nil)))))) (show Fit κ _ (vc 150 (.slice (a) (es).length (c)) ((es)) :: blk b4 [I64 (nd), .slice (a) (es).length (c)] 99 :: blk b1 [I64 (0), .slice none 0 0] 99 :: blk b [lv, I64 ((iqa))] 129 :: I) from Fit.sub) ?_
   rintro ⟨v, iqb, a2, c2, es2⟩ hp
   obtain ⟨hw, hiqb, hG2, hlen2⟩ : (u + 1 ≤ v ∧ v ≤ nd) ∧ (0 ≤ iqb) ∧ (GI nd es2 u v) ∧ ((es2.length : Int) ≤ u * 20 + v) := hp
   show W Try.prog κ 58 _ _ ([(0, .pointer (some ⟨b, 0, none⟩)), (4, .pointer (some ⟨b1, 0, none⟩)), (5, .pointer (some ⟨b4, 0, none⟩)), (6, I64 (1 + x7)), (7, I64 (u)), (8, I64 (v))] : Env) (vc 150 (.slice a2 es2.length c2) (es2) :: blk b4 [I64 (nd), .slice a2 es2.length c2] 99 :: blk b1 [I64 (0), .slice none 0 0] 99 :: blk b [lv, I64 (iqb)] 129 :: I)
   refine W.seq ?_
   refine W.sr ?_
   refine G.r (Runs.move rfl) ?_
   refine G.r (Runs.fieldAddr fld99_0 rfl) ?_
   refine G.r (Runs.ld ty3) ?_
   refine G.r (Runs.lss rfl rfl) ?_
   refine G.nt ?_
   refine W.ite rfl (fun c41 => ?_) (fun c41 => ?_)
   ·refine W.skip ?_
    refine V.then ?_
    refine W.seq ?_
    refine W.block ?_
    refine W.sr ?_
    refine G.r (Runs.move rfl) ?_
    refine G.e (Eff.call call25 rfl rfl (Next_ok (by repeat (first | exact AtF.head _ _ | apply AtF.tail)) (Sl.fit (hl _) Fit.m) (by omega) (by omega))) ?_
    rintro _ _ ⟨_, _, ⟨x9, i10, rfl, hx9, hi10, rfl⟩, rfl, rfl⟩
    show G Try.prog κ _ _ _ _ ([(45, I64 (x9)), (44, .pointer (some ⟨b, 0, none⟩)), (41, .bool (decide (v < nd))), (40, I64 (nd)), (39, .pointer (some ⟨b4, 0, none⟩)), (38, I64 (v)), (0, .pointer (some ⟨b, 0, none⟩)), (4, .pointer (some ⟨b1, 0, none⟩)), (5, .pointer (some ⟨b4, 0, none⟩)), (6, I64 (1 + x7)), (7, I64 (u)), (8, I64 (v))] : Env) (vc 150 (.slice a2 es2.length c2) (es2) :: blk b4 [I64 (nd), .slice a2 es2.length c2] 99 :: blk b1 [I64 (0), .slice none 0 0] 99 :: blk b [lv, I64 (i10)] 129 :: I)
    refine G.r (Runs.move rfl) ?_
    refine G.r (Runs.sub rfl rfl (by unfold InR; omega)) ?_
    refine G.r (Runs.geq rfl rfl) ?_
    refine G.nt ?_
    refine W.sub (L' := [(48, _), (0, _), (4, _), (5, _), (6, _), (7, _), (8, _)]) (Sub.cons rfl (Sub.cons rfl (Sub.cons rfl (Sub.cons rfl (Sub.cons rfl (Sub.cons rfl (Sub.cons rfl Sub.nil))))))) ?_
    refine W.ite rfl (fun c48 => ?_) (fun c48 => ?_)
    ·refine W.region ?_
     refine G.r (Runs.fieldAddr fld99_1 rfl) ?_
     refine G.r (Runs.ld ty97) ?_
     refine G.r (Runs.move rfl) ?_
     refine G.r (Runs.move rfl) ?_
     refine G.r (Runs.build (cells := [_, _]) ty150 Try.underlying150 pl150 rfl rfl) ?_
     refine G.e (Eff.bs (α := Pt) (cs := [_, _]) (xs := [⟨u, v⟩]) Try.underlying97 ty150 rfl rfl (by decide) (by decide) rfl rfl rfl rfl) ?_
     rintro _ _ ⟨ad11, rfl, rfl⟩
     refine G.e (Eff.app (α := Pt) (e := 150) (xs := es2) (ys := ([⟨u, v⟩] : List Pt)) Try.underlying97 ty150 rfl rfl rfl (by repeat (first | exact List.mem_cons_self | apply List.mem_cons_of_mem)) Sl.o (by simp only [List.length_cons, List.length_nil]; omega) (by decide) rfl (fun _ _ => (by repeat (first | exact At.head _ _ _ | apply At.tail)))) ?_
     rintro _ _ ⟨ad12, cp13, rfl, rfl⟩
     refine G.r (Runs.fieldAddr fld99_1 rfl) ?_
     refine G.e (Eff.st (cs := [_, _]) (vs := [_]) (cs' := [_, _]) ty97) ?_
     rintro _ _ ⟨rfl, rfl⟩
     refine G.nil ?_
     refine V.block_normal ?_
     refine V.then ?_
     refine W.sub (L' := [(0, _), (4, _), (5, _), (6, _), (7, _), (8, _)]) (Sub.cons rfl (Sub.cons rfl (Sub.cons rfl (Sub.cons rfl (Sub.cons rfl (Sub.cons rfl Sub.nil)))))) ?_
     refine W.region ?_
     refine G.r (Runs.move rfl) ?_
     refine G.r (Runs.add rfl rfl (by unfold InR; omega)) ?_
     refine G.r (Runs.assign rfl) ?_
     refine G.nil ?_
     exact V.next ((v + 1), (i10), (ad12), (cp13), (es2 ++ ([⟨u, v⟩] : List Pt))) (show (u + 1 ≤ (v + 1 : Int) ∧ (v + 1 : Int) ≤ nd) ∧ (0 ≤ (i10 : Int)) ∧ (GI nd (es2 ++ ([⟨u, v⟩] : List Pt) : List Pt) u (v + 1 : Int)) ∧ (((es2 ++ ([⟨u, v⟩] : List Pt) : List Pt).length : Int) ≤ u * 20 + (v + 1 : Int)) from ⟨(by omega), (by omega), (by first | exact hG2.push (by omega) (by omega) (by omega) | exact hG2.mono (by omega)), (by first | omega | (simp only [List.length_append, List.length_cons, List.length_nil]; omega))⟩) (show (nd - (v + 1 : Int)).toNat < (nd - v).toNat from (by omega)) (Sub.cons rfl (Sub.cons rfl (Sub.cons rfl (Sub.cons rfl (Sub.cons rfl (Sub.cons lookO Sub.nil)))))) (show Fit κ _ (vc 150 (.slice (ad12) (es2 ++ ([⟨u, v⟩] : List Pt)).length (cp13)) ((es2 ++ ([⟨u, v⟩] : List Pt))) :: blk b4 [I64 (nd), .slice (ad12) (es2 ++ ([⟨u, v⟩] : List Pt)).length (cp13)] 99 :: blk b1 [I64 (0), .slice none 0 0] 99 :: blk b [lv, I64 ((i10))] 129 :: I) from Fit.sub)
    ·refine W.skip ?_
     refine V.block_normal ?_
     refine V.then ?_
     refine W.region ?_
     refine G.r (Runs.move rfl) ?_
     refine G.r (Runs.add rfl rfl (by unfold InR; omega)) ?_
     refine G.r (Runs.assign rfl) ?_
     refine G.nil ?_
     exact V.next ((v + 1), (i10), (a2), (c2), (es2)) (show (u + 1 ≤ (v + 1 : Int) ∧ (v + 1 : Int) ≤ nd) ∧ (0 ≤ (i10 : Int)) ∧ (GI nd (es2 : List Pt) u (v + 1 : Int)) ∧ (((es2 : List Pt).length : Int) ≤ u * 20 + (v + 1 : Int)) from ⟨(by omega), (by omega), (by first | exact hG2.push (by omega) (by omega) (by omega) | exact hG2.mono (by omega)), (by first | omega | (simp only [List.length_append, List.length_cons, List.length_nil]; omega))⟩) (show (nd - (v + 1 : Int)).toNat < (nd - v).toNat from (by omega)) (Sub.cons rfl (Sub.cons rfl (Sub.cons rfl (Sub.cons rfl (Sub.cons rfl (Sub.cons lookO Sub.nil)))))) (show Fit κ _ (vc 150 (.slice (a2) (es2).length (c2)) ((es2)) :: blk b4 [I64 (nd), .slice (a2) (es2).length (c2)] 99 :: blk b1 [I64 (0), .slice none 0 0] 99 :: blk b [lv, I64 ((i10))] 129 :: I) from Fit.sub)
   ·refine W.exit ?_
    refine V.then_exit ?_
    refine V.then_exit ?_
    refine V.block_hit ?_
    refine V.block_normal ?_
    refine V.then ?_
    refine W.region ?_
    refine G.r (Runs.move rfl) ?_
    refine G.r (Runs.add rfl rfl (by unfold InR; omega)) ?_
    refine G.r (Runs.assign rfl) ?_
    refine G.nil ?_
    exact V.next ((u + 1), (iqb), (a2), (c2), (es2)) (show (0 ≤ (u + 1 : Int) ∧ (u + 1 : Int) ≤ nd) ∧ (0 ≤ (iqb : Int)) ∧ (GI nd (es2 : List Pt) (u + 1 : Int) 0) ∧ (((es2 : List Pt).length : Int) ≤ (u + 1 : Int) * 20) from ⟨(by omega), (by omega), hG2.row, (by omega)⟩) (show (nd - (u + 1 : Int)).toNat < (nd - u).toNat from (by omega)) (Sub.cons rfl (Sub.cons rfl (Sub.cons rfl (Sub.cons rfl (Sub.cons lookO Sub.nil))))) (show Fit κ _ (vc 150 (.slice (a2) (es2).length (c2)) ((es2)) :: blk b4 [I64 (nd), .slice (a2) (es2).length (c2)] 99 :: blk b1 [I64 (0), .slice none 0 0] 99 :: blk b [lv, I64 ((iqb))] 129 :: I) from Fit.sub)
  ·refine W.exit ?_
   refine V.then_exit ?_
   refine V.then_exit ?_
   refine V.block_hit ?_
   refine V.then ?_
   refine W.sr ?_
   refine G.r (Runs.lds (vs := [_, _]) ty99) ?_
   refine G.e (Eff.st (cs := [_, _]) (vs := [_, _]) (cs' := [_, _]) ty99) ?_
   rintro _ _ ⟨rfl, rfl⟩
   refine G.nt ?_
   refine W.ret ?_
   exact V.retc rfl ty99 rfl (by repeat (first | exact List.mem_cons_self | apply List.mem_cons_of_mem)) rfl (vc 150 (.slice a es.length c) (es) :: blk b [lv, I64 (iqa)] 129 :: I) Fit.s ⟨(nd, a, c, es, iqa), ⟨⟨rfl, hnd.2, hG.ok (by omega), by show es.length ≤ 400; omega⟩, hiqa⟩, rfl⟩

theorem MkGraph_at {κ : Ctx} {I : List Item} {F : Item → List Item} {b : Nat} {lv : Value} {ls : List Int} {i : Int} {most : Int} (hat : AtF I (deck b lv i) F) (hl : ∀ q, Sl κ (F (deck b lv q)) lv ls) (h0 : 0 ≤ i)  (hm : 0 ≤ most ∧ most ≤ 20) :
    CallS Try.prog κ 69 [.pointer (some ⟨b, 0, none⟩), I64 (most)] I fun r J => ∃ y : Int × (Option Addr) × Nat × (List Pt) × Int, ((r = .agg #[I64 y.1, .slice y.2.1 y.2.2.2.1.length y.2.2.1] ∧ (y.1 ≤ most ∧ GrOk y.1 y.2.2.2.1 ∧ y.2.2.2.1.length ≤ 400)) ∧ 0 ≤ y.2.2.2.2) ∧ J = [vc 150 (.slice y.2.1 y.2.2.2.1.length y.2.2.1) y.2.2.2.1] ++ F (deck b lv y.2.2.2.2) :=
  CallS.at (Post := fun r (y : Int × (Option Addr) × Nat × (List Pt) × Int) => (r = .agg #[I64 y.1, .slice y.2.1 y.2.2.2.1.length y.2.2.1] ∧ (y.1 ≤ most ∧ GrOk y.1 y.2.2.2.1 ∧ y.2.2.2.1.length ≤ 400)) ∧ 0 ≤ y.2.2.2.2) (Z := fun y : Int × (Option Addr) × Nat × (List Pt) × Int => [vc 150 (.slice y.2.1 y.2.2.2.1.length y.2.2.1) y.2.2.2.1]) (X := fun y : Int × (Option Addr) × Nat × (List Pt) × Int => deck b lv y.2.2.2.2) hat fun J _ hF => MkGraph_base (fun q => (hl q).fit (hF _)) h0  hm

end Go.Sl
