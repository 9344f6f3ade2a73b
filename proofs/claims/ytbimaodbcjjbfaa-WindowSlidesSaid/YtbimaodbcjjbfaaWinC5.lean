/- A part of the proofs of statements of this seat: contracts of functions, and the plain laws that they lean on. No conditions. -/
import Derived.Test.YtbimaodbcjjbfaaWinB5
import Derived.Test.YtbimaodbcjjbfaaWinA5
import Derived.Test.YtbimaodbcjjbfaaRunsY
namespace Go.Sl
open Go.Proofs
set_option linter.unusedVariables false
set_option linter.unusedSimpArgs false
set_option maxRecDepth 4000
theorem checkW_wd {kd wd mo : Int} (h : checkW kd wd mo = 0) : 0 ≤ wd ∧ wd ≤ 1048576 := by
  unfold checkW at h
  split at h
  · cases h
  · split at h
    · cases h
    · omega
theorem checkS_tm {nd : Int} {xs : List Lk} (h : checkS nd xs = 0) : ∀ i : Int, 0 ≤ i → i < xs.length → 0 ≤ (at_ xs i).tm ∧ (at_ xs i).tm ≤ 1048576 := fun i h0 h1 => badL_tm ((checkS_ok h).2.1 _ (at_mem h0 h1))
def uErr (nd : Int) (xs : List Lk) (kd wd mo : Int) : Int := if checkW kd wd mo ≠ 0 then checkW kd wd mo else checkS nd xs
/-- Until when: the first time at which a link is too old. -/
def untilC (nd : Int) (xs : List Lk) (kd wd mo : Int) : Prop := uErr nd xs kd wd mo = 0 ∧ kd = 2 ∧ xs ≠ []
instance (nd : Int) (xs : List Lk) (kd wd mo : Int) : Decidable (untilC nd xs kd wd mo) := by unfold untilC; infer_instance
structure UntilP (nd : Int) (xs : List Lk) (kd wd mo z : Int) : Prop where
  yes : untilC nd xs kd wd mo → (∃ x ∈ xs, z = x.tm + wd) ∧ ∀ y ∈ xs, z ≤ y.tm + wd
  no : ¬ untilC nd xs kd wd mo → z = 0
def tmC (a c : Lk) : Int := cmpI a.tm c.tm
theorem tmC_lt (a c : Lk) : tmC a c < 0 ↔ a.tm < c.tm := by unfold tmC cmpI; split <;> (try split) <;> omega

theorem FirstC_ok {κ : Ctx} {I : List Item} (a c : Lk) :
    CallS Try.prog κ 190 [.agg #[I64 (a.u), I64 (a.v), I64 (a.w), I64 (a.lb), I64 (a.sg), I64 (a.tm)], .agg #[I64 (c.u), I64 (c.v), I64 (c.w), I64 (c.lb), I64 (c.sg), I64 (c.tm)]] I (fun r J => r = I64 (tmC a c) ∧ I = J) := by
 refine CallS.enter (L := [(0, .agg #[I64 (a.u), I64 (a.v), I64 (a.w), I64 (a.lb), I64 (a.sg), I64 (a.tm)]), (1, .agg #[I64 (c.u), I64 (c.v), I64 (c.w), I64 (c.lb), I64 (c.sg), I64 (c.tm)])]) Try.func190 rfl rfl rfl rfl ?_
 refine W.sr ?_
 refine G.e (Eff.box (cs := [_, _, _, _, _, _]) rfl rfl rfl) ?_
 rintro _ _ ⟨b1, rfl, rfl⟩
 refine G.e (Eff.box (cs := [_, _, _, _, _, _]) rfl rfl rfl) ?_
 rintro _ _ ⟨b2, rfl, rfl⟩
 refine G.r (Runs.assign rfl) ?_
 refine G.nt ?_
 refine W.sr ?_
 refine G.r (Runs.fieldAddr fld158_5 rfl) ?_
 refine G.r (Runs.ld ty3) ?_
 refine G.r (Runs.fieldAddr fld158_5 rfl) ?_
 refine G.r (Runs.ld ty3) ?_
 refine G.e (Eff.call call173 rfl rfl (Compare_ok a.tm c.tm)) ?_
 rintro _ _ ⟨_, _, ⟨rfl, rfl⟩, rfl, rfl⟩
 refine G.r (Runs.assign rfl) ?_
 refine G.nt ?_
 refine W.ret ?_
 exact V.ret1 rfl rfl (I) Fit.m ⟨rfl, rfl⟩

theorem FirstC_cmps {κ : Ctx} {I : List Item} : Cmps Try.prog κ I 190 [] tmC := ⟨call190, fun x y J hf => FirstC_ok x y⟩

theorem MinF_ok {κ : Ctx} {I : List Item} {v : Value} {xs : List Lk} (hl : Sl κ I v xs) (hne : 0 < xs.length) {g : FuncId} {cp_ : List Value} (hcb : Cmps Try.prog κ I g cp_ tmC) :
    CallS Try.prog κ 189 [v, .func (.func g) #[] cp_.toArray] I (fun r J => ∃ x : Lk, r = .agg #[I64 x.u, I64 x.v, I64 x.w, I64 x.lb, I64 x.sg, I64 x.tm] ∧ (x ∈ xs ∧ ∀ y ∈ xs, x.tm ≤ y.tm) ∧ I = J) := by
 refine CallS.pull hl.le fun hmax => ?_
 refine CallS.enter (L := [(0, v), (1, .func (.func g) #[] cp_.toArray)]) Try.func189 rfl rfl rfl rfl ?_
 refine W.sr ?_
 refine G.e (Eff.alloc ty158 rfl) ?_
 rintro _ _ ⟨b1, rfl, rfl⟩
 refine G.nt ?_
 refine W.seq ?_
 refine W.sr ?_
 refine G.r (Runs.move rfl) ?_
 refine G.r (Runs.lenT (α := Lk) (xs := xs) Try.underlying69 rfl (Sl.f hl)) ?_
 refine G.r (Runs.lss rfl rfl) ?_
 refine G.nt ?_
 refine W.ite rfl (fun c9 => ?_) (fun c9 => ?_)
 ·exact absurd hne (by omega)
 ·refine W.skip ?_
  refine V.then ?_
  refine W.sr ?_
  refine G.r (Runs.move rfl) ?_
  refine G.r (Runs.idx (α := Lk) (xs := xs) Try.underlying69 ty158 rfl rfl (Sl.f hl) (by omega) (by omega)) ?_
  refine G.r (Runs.gets (α := Lk) (xs := xs) ty158 rfl (Sl.f hl) (by omega) (by omega)) ?_
  refine G.e (Eff.alloc ty158 rfl) ?_
  rintro _ _ ⟨b2, rfl, rfl⟩
  refine G.e (Eff.st (cs := [_, _, _, _, _, _]) (vs := [_, _, _, _, _, _]) (cs' := [_, _, _, _, _, _]) ty158) ?_
  rintro _ _ ⟨rfl, rfl⟩
  refine G.nt ?_
  refine W.seq ?_
  refine W.sr ?_
  refine G.r (Runs.assign rfl) ?_
  refine G.nt ?_
  refine W.block ?_
  refine W.loop (σ := Nat × Lk) (fun s => ([(0, v), (1, .func (.func g) #[] cp_.toArray), (4, .pointer (some ⟨b1, 0, none⟩)), (5, .pointer (some ⟨b2, 0, none⟩)), (6, I64 (((s.1 : Nat) : Int)))] : Env)) (fun s => blk b2 [I64 (s.2.u), I64 (s.2.v), I64 (s.2.w), I64 (s.2.lb), I64 (s.2.sg), I64 (s.2.tm)] 158 :: blk b1 [I64 (0), I64 (0), I64 (0), I64 (0), I64 (0), I64 (0)] 158 :: I) (fun s => (1 ≤ s.1 ∧ s.1 ≤ xs.length) ∧ (s.2 ∈ xs) ∧ (∀ j, j < s.1 → s.2.tm ≤ (at_ xs (j : Int)).tm)) (fun s => xs.length - s.1) (1, at_ xs (0 : Int)) (show (1 ≤ (1 : Nat) ∧ (1 : Nat) ≤ xs.length) ∧ ((at_ xs (0 : Int) : Lk) ∈ xs) ∧ (∀ j, j < (1 : Nat) → (at_ xs (0 : Int) : Lk).tm ≤ (at_ xs (j : Int)).tm) from ⟨(by omega), (at_mem (by omega) (by omega)), (fun j hj => by rw [show j = 0 by omega]; exact Int.le_refl _)⟩) (Sub.cons rfl (Sub.cons rfl (Sub.cons rfl (Sub.cons rfl (Sub.cons lookO Sub.nil))))) (show Fit κ _ (blk b2 [I64 ((at_ xs (0 : Int)).u), I64 ((at_ xs (0 : Int)).v), I64 ((at_ xs (0 : Int)).w), I64 ((at_ xs (0 : Int)).lb), I64 ((at_ xs (0 : Int)).sg), I64 ((at_ xs (0 : Int)).tm)] 158 :: blk b1 [I64 (0), I64 (0), I64 (0), I64 (0), I64 (0), I64 (0)] 158 :: I) from Fit.sub) ?_
  rintro ⟨k, m⟩ hp
  obtain ⟨hk, hm, hn⟩ : (1 ≤ k ∧ k ≤ xs.length) ∧ (m ∈ xs) ∧ (∀ j, j < k → m.tm ≤ (at_ xs (j : Int)).tm) := hp
  show W Try.prog κ 33 _ _ ([(0, v), (1, .func (.func g) #[] cp_.toArray), (4, .pointer (some ⟨b1, 0, none⟩)), (5, .pointer (some ⟨b2, 0, none⟩)), (6, I64 (((k : Nat) : Int)))] : Env) (blk b2 [I64 (m.u), I64 (m.v), I64 (m.w), I64 (m.lb), I64 (m.sg), I64 (m.tm)] 158 :: blk b1 [I64 (0), I64 (0), I64 (0), I64 (0), I64 (0), I64 (0)] 158 :: I)
  refine W.seq ?_
  refine W.sr ?_
  refine G.r (Runs.move rfl) ?_
  refine G.r (Runs.move rfl) ?_
  refine G.r (Runs.lenT (α := Lk) (xs := xs) Try.underlying69 rfl (Sl.f hl)) ?_
  refine G.r (Runs.lss rfl rfl) ?_
  refine G.nt ?_
  refine W.ite rfl (fun c17 => ?_) (fun c17 => ?_)
  ·refine W.skip ?_
   refine V.then ?_
   refine W.seq ?_
   refine W.block ?_
   refine W.seq ?_
   refine W.drawn mixed ?_
   refine A.hold (blk b2 [I64 (m.u), I64 (m.v), I64 (m.w), I64 (m.lb), I64 (m.sg), I64 (m.tm)] 158 :: blk b1 [I64 (0), I64 (0), I64 (0), I64 (0), I64 (0), I64 (0)] 158 :: I) 8 ?_
   refine D.r 0 rfl (Runs.move rfl) ?_ (hJ := Fit.sub)
   refine D.r 1 rfl (Runs.move rfl) ?_ (hJ := Fit.sub)
   refine D.r 2 rfl (Runs.move rfl) ?_ (hJ := Fit.sub)
   refine D.r 3 rfl (Runs.idx (α := Lk) (xs := xs) Try.underlying69 ty158 rfl rfl (Sl.f hl) (by omega) (by omega)) ?_ (hJ := Fit.sub)
   refine D.r 4 rfl (Runs.gets (α := Lk) (xs := xs) ty158 rfl (Sl.f hl) (by omega) (by omega)) ?_ (hJ := Fit.sub)
   refine D.r 5 rfl (Runs.lds (vs := [_, _, _, _, _, _]) ty158) ?_ (hJ := Fit.sub)
   refine D.step (rs := [6]) (by kernel_rfl) rfl rfl (all1 ?_)
   refine Step.eff rfl (Wanted.plain rfl) (Eff.callv hcb.1 (first := []) (caps := cp_) rfl rfl rfl (hcb.2 (at_ xs ((k : Nat) : Int)) m _ Fit.m)) ?_
   rintro _ _ ⟨_, _, ⟨rfl, rfl⟩, rfl, rfl⟩
   refine ⟨Fit.sub, ?_⟩
   refine D.r 7 rfl (Runs.lss rfl rfl) ?_ (hJ := Fit.sub)
   refine D.done (by kernel_rfl) ?_
   refine V.then ?_
   refine W.sub (L' := [(27, _), (0, _), (1, _), (4, _), (5, _), (6, _)]) (Sub.cons rfl (Sub.cons rfl (Sub.cons rfl (Sub.cons rfl (Sub.cons rfl (Sub.cons rfl Sub.nil)))))) ?_
   refine W.ite rfl (fun c27 => ?_) (fun c27 => ?_)
   ·refine W.region ?_
    refine G.r (Runs.move rfl) ?_
    refine G.r (Runs.move rfl) ?_
    refine G.r (Runs.idx (α := Lk) (xs := xs) Try.underlying69 ty158 rfl rfl (Sl.f hl) (by omega) (by omega)) ?_
    refine G.r (Runs.gets (α := Lk) (xs := xs) ty158 rfl (Sl.f hl) (by omega) (by omega)) ?_
    refine G.e (Eff.st (cs := [_, _, _, _, _, _]) (vs := [_, _, _, _, _, _]) (cs' := [_, _, _, _, _, _]) ty158) ?_
    rintro _ _ ⟨rfl, rfl⟩
    refine G.nil ?_
    refine V.block_normal ?_
    refine V.then ?_
    refine W.region ?_
    refine G.r (Runs.move rfl) ?_
    refine G.r (Runs.add rfl rfl (by unfold InR; omega)) ?_
    refine G.r (Runs.assign rfl) ?_
    refine G.nil ?_
    exact V.next ((k + 1), (at_ xs ((k : Nat) : Int))) (show (1 ≤ (k + 1 : Nat) ∧ (k + 1 : Nat) ≤ xs.length) ∧ ((at_ xs ((k : Nat) : Int) : Lk) ∈ xs) ∧ (∀ j, j < (k + 1 : Nat) → (at_ xs ((k : Nat) : Int) : Lk).tm ≤ (at_ xs (j : Int)).tm) from ⟨(by omega), (by first | exact hm | exact at_mem (by omega) (by omega)), (all_succ (fun j hj => by have hnj := hn j hj; first | exact hnj | (have hlt := (tmC_lt _ _).1 c27; omega)) (by first | exact Int.le_refl _ | (have hge := mt (tmC_lt (at_ xs ((k : Nat) : Int)) m).2 c27; omega)))⟩) (show xs.length - (k + 1 : Nat) < xs.length - k from (by omega)) (Sub.cons rfl (Sub.cons rfl (Sub.cons rfl (Sub.cons rfl (Sub.cons lookO Sub.nil))))) (show Fit κ _ (blk b2 [I64 ((at_ xs ((k : Nat) : Int)).u), I64 ((at_ xs ((k : Nat) : Int)).v), I64 ((at_ xs ((k : Nat) : Int)).w), I64 ((at_ xs ((k : Nat) : Int)).lb), I64 ((at_ xs ((k : Nat) : Int)).sg), I64 ((at_ xs ((k : Nat) : Int)).tm)] 158 :: blk b1 [I64 (0), I64 (0), I64 (0), I64 (0), I64 (0), I64 (0)] 158 :: I) from Fit.sub)
   ·refine W.skip ?_
    refine V.block_normal ?_
    refine V.then ?_
    refine W.region ?_
    refine G.r (Runs.move rfl) ?_
    refine G.r (Runs.add rfl rfl (by unfold InR; omega)) ?_
    refine G.r (Runs.assign rfl) ?_
    refine G.nil ?_
    exact V.next ((k + 1), (m)) (show (1 ≤ (k + 1 : Nat) ∧ (k + 1 : Nat) ≤ xs.length) ∧ ((m : Lk) ∈ xs) ∧ (∀ j, j < (k + 1 : Nat) → (m : Lk).tm ≤ (at_ xs (j : Int)).tm) from ⟨(by omega), (by first | exact hm | exact at_mem (by omega) (by omega)), (all_succ (fun j hj => by have hnj := hn j hj; first | exact hnj | (have hlt := (tmC_lt _ _).1 c27; omega)) (by first | exact Int.le_refl _ | (have hge := mt (tmC_lt (at_ xs ((k : Nat) : Int)) m).2 c27; omega)))⟩) (show xs.length - (k + 1 : Nat) < xs.length - k from (by omega)) (Sub.cons rfl (Sub.cons rfl (Sub.cons rfl (Sub.cons rfl (Sub.cons lookO Sub.nil))))) (show Fit κ _ (blk b2 [I64 ((m).u), I64 ((m).v), I64 ((m).w), I64 ((m).lb), I64 ((m).sg), I64 ((m).tm)] 158 :: blk b1 [I64 (0), I64 (0), I64 (0), I64 (0), I64 (0), I64 (0)] 158 :: I) from Fit.sub)
  ·refine W.exit ?_
   refine V.then_exit ?_
   refine V.then_exit ?_
   refine V.block_hit ?_
   refine V.then ?_
   refine W.sr ?_
   refine G.r (Runs.lds (vs := [_, _, _, _, _, _]) ty158) ?_
   refine G.e (Eff.st (cs := [_, _, _, _, _, _]) (vs := [_, _, _, _, _, _]) (cs' := [_, _, _, _, _, _]) ty158) ?_
   rintro _ _ ⟨rfl, rfl⟩
   refine G.nt ?_
   refine W.ret ?_
   exact V.retc rfl ty158 rfl (by repeat (first | exact List.mem_cons_self | apply List.mem_cons_of_mem)) rfl (I) Fit.m ⟨m, rfl, ⟨hm, fun y hy => by obtain ⟨j, hj, rfl⟩ := mem_at hy; exact hn j (by omega)⟩, rfl⟩

end Go.Sl
namespace Go.Sl
open Go.Proofs
set_option linter.unusedVariables false
set_option linter.unusedSimpArgs false
set_option maxRecDepth 4000
theorem UntilP.none {nd : Int} {xs : List Lk} {kd wd mo : Int} (h : ¬ untilC nd xs kd wd mo) : UntilP nd xs kd wd mo 0 := ⟨fun hc => absurd hc h, fun _ => rfl⟩
theorem checkS_tm' {nd : Int} {xs : List Lk} (h : checkS nd xs = 0) : ∀ x ∈ xs, 0 ≤ x.tm ∧ x.tm ≤ 1048576 := fun x hx => badL_tm ((checkS_ok h).2.1 x hx)
theorem uErr_zero {nd : Int} {xs : List Lk} {kd wd mo : Int} (h1 : ¬ checkW kd wd mo ≠ 0) (h2 : ¬ checkS nd xs ≠ 0) : uErr nd xs kd wd mo = 0 := by unfold uErr; rw [if_neg h1]; exact Classical.not_not.1 h2

theorem First_ok {κ : Ctx} {I : List Item} {nd wd : Int} {va : Value} {xs : List Lk} (hl : Sl κ I va xs) (hb : ∀ x ∈ xs, 0 ≤ x.tm ∧ x.tm ≤ 1048576) (hw : 0 ≤ wd ∧ wd ≤ 1048576) :
    CallS Try.prog κ 123 [.agg #[I64 (nd), va], I64 (wd)] I (fun r J => ∃ z : Int, r = .tuple #[I64 z, .bool (decide (0 < xs.length))] ∧ ((0 < xs.length → (∃ x ∈ xs, z = x.tm + wd) ∧ ∀ y ∈ xs, z ≤ y.tm + wd) ∧ (xs.length = 0 → z = 0)) ∧ I = J) := by
 refine CallS.pull hl.le fun hmax => ?_
 refine CallS.enter (L := [(0, .agg #[I64 (nd), va]), (1, I64 (wd))]) Try.func123 rfl rfl rfl rfl ?_
 refine W.sr ?_
 refine G.e (Eff.box (cs := [_, _]) rfl rfl rfl) ?_
 rintro _ _ ⟨b1, rfl, rfl⟩
 refine G.r (Runs.assign rfl) ?_
 refine G.r (Runs.assign rfl) ?_
 refine G.nt ?_
 refine W.seq ?_
 refine W.sr ?_
 refine G.r (Runs.fieldAddr fld71_1 rfl) ?_
 refine G.r (Runs.ld ty69) ?_
 refine G.r (Runs.lenT (α := Lk) (xs := xs) Try.underlying69 rfl (Sl.f hl)) ?_
 refine G.r (Runs.eql rfl rfl) ?_
 refine G.nt ?_
 refine W.ite rfl (fun c10 => ?_) (fun c10 => ?_)
 ·refine W.sr ?_
  refine G.r (Runs.assign rfl) ?_
  refine G.r (Runs.assign rfl) ?_
  refine G.nt ?_
  refine W.ret ?_
  refine V.then_ret ?_
  exact V.ret2 rfl rfl rfl (I) Fit.m ⟨0, by rw [decide_eq_false (by omega)], ⟨fun h => by omega, fun _ => rfl⟩, rfl⟩
 ·refine W.skip ?_
  refine V.then ?_
  refine W.sr ?_
  refine G.r (Runs.fieldAddr fld71_1 rfl) ?_
  refine G.r (Runs.ld ty69) ?_
  refine G.e (Eff.call call189 rfl rfl (MinF_ok (Sl.f hl) (by omega) FirstC_cmps)) ?_
  rintro _ _ ⟨_, _, ⟨xm2, rfl, hmxm2, rfl⟩, rfl, rfl⟩
  have hxb := hb _ hmxm2.1
  refine G.e (Eff.alloc ty158 rfl) ?_
  rintro _ _ ⟨b3, rfl, rfl⟩
  refine G.e (Eff.st (cs := [_, _, _, _, _, _]) (vs := [_, _, _, _, _, _]) (cs' := [_, _, _, _, _, _]) ty158) ?_
  rintro _ _ ⟨rfl, rfl⟩
  refine G.nt ?_
  refine W.sr ?_
  refine G.r (Runs.fieldAddr fld158_5 rfl) ?_
  refine G.r (Runs.ld ty3) ?_
  refine G.r (Runs.move rfl) ?_
  refine G.r (Runs.add rfl rfl (by unfold InR; omega)) ?_
  refine G.r (Runs.assign rfl) ?_
  refine G.r (Runs.assign rfl) ?_
  refine G.nt ?_
  refine W.sub (L' := [(5, _), (4, _)]) (Sub.cons rfl (Sub.cons rfl Sub.nil)) ?_
  refine W.ret ?_
  exact V.ret2 rfl rfl rfl (I) Fit.m ⟨_, by rw [decide_eq_true (by omega)], ⟨fun _ => ⟨⟨xm2, hmxm2.1, rfl⟩, fun y hy => by have := hmxm2.2 y hy; omega⟩, fun h => by omega⟩, rfl⟩

end Go.Sl
namespace Go.Sl
open Go.Proofs
set_option linter.unusedVariables false
set_option linter.unusedSimpArgs false
set_option maxRecDepth 4000
theorem qnot_t {q : Bool} {p : Prop} [Decidable p] (h : (!q) = true) (hq : q = decide p) : ¬ p := fun hp => by rw [hq, decide_eq_true hp] at h; cases h
theorem qnot_f {q : Bool} {p : Prop} [Decidable p] (h : (!q) = false) (hq : q = decide p) : p := Classical.byContradiction fun hp => by rw [hq, decide_eq_false hp] at h; cases h

theorem Until7_ok {κ : Ctx} {I : List Item} {nd kd wd mo : Int} {va : Value} {xs : List Lk} (hl : Sl κ I va xs) :
    CallS Try.prog κ 60 [.agg #[I64 (nd), va], .agg #[I64 (kd), I64 (wd), I64 (mo)]] I (fun r J => ∃ z : Int, r = .tuple #[I64 z, .bool (decide (untilC nd xs kd wd mo)), I64 (uErr nd xs kd wd mo)] ∧ UntilP nd xs kd wd mo z ∧ I = J) := by
 refine CallS.pull hl.le fun hmax => ?_
 refine CallS.enter (L := [(0, .agg #[I64 (nd), va]), (1, .agg #[I64 (kd), I64 (wd), I64 (mo)])]) Try.func60 rfl rfl rfl rfl ?_
 refine W.sr ?_
 refine G.e (Eff.box (cs := [_, _]) rfl rfl rfl) ?_
 rintro _ _ ⟨b1, rfl, rfl⟩
 refine G.e (Eff.box (cs := [_, _, _]) rfl rfl rfl) ?_
 rintro _ _ ⟨b2, rfl, rfl⟩
 refine G.r (Runs.assign rfl) ?_
 refine G.r (Runs.assign rfl) ?_
 refine G.r (Runs.assign rfl) ?_
 refine G.nt ?_
 refine W.seq ?_
 refine W.sr ?_
 refine G.r (Runs.lds (vs := [_, _, _]) ty73) ?_
 refine G.e (Eff.call call62 rfl rfl (CheckW7_ok kd wd mo)) ?_
 rintro _ _ ⟨_, _, ⟨rfl, rfl⟩, rfl, rfl⟩
 refine G.r (Runs.assign rfl) ?_
 refine G.nt ?_
 refine W.sr ?_
 refine G.r (Runs.move rfl) ?_
 refine G.r (Runs.neq rfl rfl) ?_
 refine G.nt ?_
 refine W.ite rfl (fun c17 => ?_) (fun c17 => ?_)
 ·refine W.sr ?_
  refine G.r (Runs.move rfl) ?_
  refine G.r (Runs.assign rfl) ?_
  refine G.r (Runs.assign rfl) ?_
  refine G.r (Runs.assign rfl) ?_
  refine G.nt ?_
  refine W.sub (L' := [(6, _), (5, _), (4, _)]) (Sub.cons rfl (Sub.cons rfl (Sub.cons rfl Sub.nil))) ?_
  refine W.ret ?_
  refine V.then_ret ?_
  have hu : uErr nd xs kd wd mo = checkW kd wd mo := by unfold uErr; rw [if_pos c17]
  have hn : ¬ untilC nd xs kd wd mo := fun h => c17 (hu ▸ h.1)
  exact V.ret3 rfl rfl rfl rfl (I) Fit.m ⟨0, by rw [decide_eq_false hn, hu], .none hn, rfl⟩
 ·refine W.skip ?_
  refine V.then ?_
  refine W.seq ?_
  refine W.sr ?_
  refine G.r (Runs.lds (vs := [_, _]) ty71) ?_
  refine G.e (Eff.call call124 rfl rfl (CheckS5_ok (nd := nd) (Sl.f hl))) ?_
  rintro _ _ ⟨_, _, ⟨rfl, rfl⟩, rfl, rfl⟩
  refine G.r (Runs.assign rfl) ?_
  refine G.nt ?_
  refine W.sub (L' := [(8, _), (3, _), (2, _)]) (Sub.cons rfl (Sub.cons rfl (Sub.cons rfl Sub.nil))) ?_
  refine W.sr ?_
  refine G.r (Runs.move rfl) ?_
  refine G.r (Runs.neq rfl rfl) ?_
  refine G.nt ?_
  refine W.ite rfl (fun c22 => ?_) (fun c22 => ?_)
  ·refine W.sr ?_
   refine G.r (Runs.move rfl) ?_
   refine G.r (Runs.assign rfl) ?_
   refine G.r (Runs.assign rfl) ?_
   refine G.r (Runs.assign rfl) ?_
   refine G.nt ?_
   refine W.ret ?_
   refine V.then_ret ?_
   have hu : uErr nd xs kd wd mo = checkS nd xs := by unfold uErr; rw [if_neg c17]
   have hn : ¬ untilC nd xs kd wd mo := fun h => c22 (hu ▸ h.1)
   exact V.ret3 rfl rfl rfl rfl (I) Fit.m ⟨0, by rw [decide_eq_false hn, hu], .none hn, rfl⟩
  ·refine W.skip ?_
   refine V.then ?_
   refine W.sr ?_
   refine G.r (Runs.assign rfl) ?_
   refine G.r (Runs.assign rfl) ?_
   refine G.nt ?_
   refine W.seq ?_
   refine W.sr ?_
   refine G.r (Runs.fieldAddr fld71_1 rfl) ?_
   refine G.r (Runs.ld ty69) ?_
   refine G.r (Runs.lenT (α := Lk) (xs := xs) Try.underlying69 rfl (Sl.f hl)) ?_
   refine G.r (Runs.move rfl) ?_
   refine G.nt ?_
   refine W.block ?_
   refine W.loop (σ := Nat × Int × Bool) (fun s => ([(3, .pointer (some ⟨b2, 0, none⟩)), (9, I64 (s.2.1)), (10, .bool (s.2.2)), (25, va), (26, I64 (((xs.length : Nat) : Int))), (27, I64 (((s.1 : Nat) : Int)))] : Env)) (fun s => blk b2 [I64 (kd), I64 (wd), I64 (mo)] 73 :: blk b1 [I64 (nd), va] 71 :: I) (fun s => (s.1 ≤ xs.length) ∧ (s.2.2 = decide (kd = 2 ∧ 0 < s.1)) ∧ (¬ (kd = 2 ∧ 0 < s.1) → s.2.1 = 0) ∧ (kd = 2 ∧ 0 < s.1 → ∃ x ∈ xs, s.2.1 = x.tm + wd) ∧ (kd = 2 → ∀ j, j < s.1 → s.2.1 ≤ (at_ xs (j : Int)).tm + wd)) (fun s => xs.length - s.1) (0, 0, false) (show ((0 : Nat) ≤ xs.length) ∧ ((false : Bool) = decide (kd = 2 ∧ 0 < (0 : Nat))) ∧ (¬ (kd = 2 ∧ 0 < (0 : Nat)) → (0 : Int) = 0) ∧ (kd = 2 ∧ 0 < (0 : Nat) → ∃ x ∈ xs, (0 : Int) = x.tm + wd) ∧ (kd = 2 → ∀ j, j < (0 : Nat) → (0 : Int) ≤ (at_ xs (j : Int)).tm + wd) from ⟨(by omega), (decide_eq_false (fun h => absurd h.2 (by omega))).symm, (fun _ => rfl), (fun h => absurd h.2 (by omega)), (fun _ j hj => absurd hj (by omega))⟩) (Sub.cons rfl (Sub.cons lookO (Sub.cons (lookV rfl (by first | rfl | simp)) (Sub.cons rfl (Sub.cons rfl (Sub.cons lookO Sub.nil)))))) (show Fit κ _ (blk b2 [I64 (kd), I64 (wd), I64 (mo)] 73 :: blk b1 [I64 (nd), va] 71 :: I) from Fit.sub) ?_
   rintro ⟨k, z, q⟩ hp
   obtain ⟨hk, hq, hz0, hz1, hz2⟩ : (k ≤ xs.length) ∧ (q = decide (kd = 2 ∧ 0 < k)) ∧ (¬ (kd = 2 ∧ 0 < k) → z = 0) ∧ (kd = 2 ∧ 0 < k → ∃ x ∈ xs, z = x.tm + wd) ∧ (kd = 2 → ∀ j, j < k → z ≤ (at_ xs (j : Int)).tm + wd) := hp
   show W Try.prog κ 52 _ _ ([(3, .pointer (some ⟨b2, 0, none⟩)), (9, I64 (z)), (10, .bool (q)), (25, va), (26, I64 (((xs.length : Nat) : Int))), (27, I64 (((k : Nat) : Int)))] : Env) (blk b2 [I64 (kd), I64 (wd), I64 (mo)] 73 :: blk b1 [I64 (nd), va] 71 :: I)
   refine W.sr ?_
   refine G.r (Runs.lss rfl rfl) ?_
   refine G.nt ?_
   refine W.seq ?_
   refine W.ite rfl (fun c28 => ?_) (fun c28 => ?_)
   ·refine W.skip ?_
    refine V.then ?_
    refine W.seq ?_
    refine W.block ?_
    refine W.sr ?_
    refine G.r (Runs.idx (α := Lk) (xs := xs) Try.underlying69 ty158 rfl rfl (Sl.f hl) (by omega) (by omega)) ?_
    refine G.r (Runs.gets (α := Lk) (xs := xs) ty158 rfl (Sl.f hl) (by omega) (by omega)) ?_
    refine G.e (Eff.alloc ty158 rfl) ?_
    rintro _ _ ⟨b3, rfl, rfl⟩
    refine G.e (Eff.st (cs := [_, _, _, _, _, _]) (vs := [_, _, _, _, _, _]) (cs' := [_, _, _, _, _, _]) ty158) ?_
    rintro _ _ ⟨rfl, rfl⟩
    have htk := checkS_tm (Classical.not_not.1 c22) ((k : Nat) : Int) (by omega) (by omega)
    have hwk := checkW_wd (Classical.not_not.1 c17)
    refine G.nt ?_
    refine W.sr ?_
    refine G.r (Runs.fieldAddr fld158_5 rfl) ?_
    refine G.r (Runs.ld ty3) ?_
    refine G.r (Runs.fieldAddr fld73_1 rfl) ?_
    refine G.r (Runs.ld ty3) ?_
    refine G.r (Runs.add rfl rfl (by unfold InR; omega)) ?_
    refine G.r (Runs.assign rfl) ?_
    refine G.nt ?_
    refine W.sub (L' := [(13, _), (3, _), (9, _), (10, _), (25, _), (26, _), (27, _)]) (Sub.cons rfl (Sub.cons rfl (Sub.cons rfl (Sub.cons rfl (Sub.cons rfl (Sub.cons rfl (Sub.cons rfl Sub.nil))))))) ?_
    refine W.sr ?_
    refine G.r (Runs.fieldAddr fld73_0 rfl) ?_
    refine G.r (Runs.ld ty3) ?_
    refine G.r (Runs.eql rfl rfl) ?_
    refine G.r (Runs.move rfl) ?_
    refine G.split (d := 39) rfl (fun g39 => ?_) (fun g39 => ?_)
    ·refine G.ro (Runs.move rfl) ?_
     refine G.ro (Runs.not rfl) ?_
     refine G.ro (Runs.move rfl) ?_
     refine G.splitb (d := 42) rfl (fun g42 => ?_) (fun g42 => ?_)
     ·refine G.po ?_
      refine G.po ?_
      refine G.po ?_
      refine G.ro (Runs.pickt rfl rfl) ?_
      refine G.r (Runs.pickt rfl rfl) ?_
      refine G.nt ?_
      refine W.sub (L' := [(47, _), (13, _), (3, _), (9, _), (10, _), (25, _), (26, _), (27, _)]) (Sub.cons rfl (Sub.cons rfl (Sub.cons rfl (Sub.cons rfl (Sub.cons rfl (Sub.cons rfl (Sub.cons rfl (Sub.cons rfl Sub.nil)))))))) ?_
      refine W.yes rfl ?_
      refine W.region ?_
      refine G.r (Runs.move rfl) ?_
      refine G.r (Runs.assign rfl) ?_
      refine G.r (Runs.assign rfl) ?_
      refine G.nil ?_
      refine V.block_normal ?_
      refine V.then ?_
      refine W.region ?_
      refine G.r (Runs.add rfl rfl (by unfold InR; omega)) ?_
      refine G.r (Runs.move rfl) ?_
      refine G.nil ?_
      exact V.next ((k + 1), (((at_ xs ((k : Nat) : Int)).tm) + wd), (true)) (show ((k + 1 : Nat) ≤ xs.length) ∧ ((true : Bool) = decide (kd = 2 ∧ 0 < (k + 1 : Nat))) ∧ (¬ (kd = 2 ∧ 0 < (k + 1 : Nat)) → (((at_ xs ((k : Nat) : Int)).tm) + wd : Int) = 0) ∧ (kd = 2 ∧ 0 < (k + 1 : Nat) → ∃ x ∈ xs, (((at_ xs ((k : Nat) : Int)).tm) + wd : Int) = x.tm + wd) ∧ (kd = 2 → ∀ j, j < (k + 1 : Nat) → (((at_ xs ((k : Nat) : Int)).tm) + wd : Int) ≤ (at_ xs (j : Int)).tm + wd) from ⟨(by omega), (by first | exact (decide_eq_true (by omega)).symm | (rw [hq, decide_eq_decide]; omega) | (rw [hq, decide_eq_decide]; have hP := qnot_f g42 hq; omega)), (fun h => by first | omega | exact hz0 (by omega)), (fun h => by first | exact ⟨_, at_mem (i := ((k : Nat) : Int)) (by omega) (by omega), rfl⟩ | exact hz1 (by omega) | (have hP := qnot_f g42 hq; exact hz1 hP)), (fun hk2 => by first | omega | exact all_succ (fun j hj => by first | (have hP := qnot_t g42 hq; omega) | (have h5 := hz2 hk2 j hj; omega)) (Int.le_refl _) | exact all_succ (hz2 hk2) (by omega))⟩) (show xs.length - (k + 1 : Nat) < xs.length - k from (by omega)) (Sub.cons rfl (Sub.cons lookO (Sub.cons (lookV rfl (by first | rfl | simp)) (Sub.cons rfl (Sub.cons rfl (Sub.cons lookO Sub.nil)))))) (show Fit κ _ (blk b2 [I64 (kd), I64 (wd), I64 (mo)] 73 :: blk b1 [I64 (nd), va] 71 :: I) from Fit.sub)
     ·refine G.ro (Runs.move rfl) ?_
      refine G.ro (Runs.move rfl) ?_
      refine G.ro (Runs.lss rfl rfl) ?_
      refine G.ro (Runs.pickf rfl rfl) ?_
      refine G.r (Runs.pickt rfl rfl) ?_
      refine G.nt ?_
      refine W.sub (L' := [(47, _), (13, _), (3, _), (9, _), (10, _), (25, _), (26, _), (27, _)]) (Sub.cons rfl (Sub.cons rfl (Sub.cons rfl (Sub.cons rfl (Sub.cons rfl (Sub.cons rfl (Sub.cons rfl (Sub.cons rfl Sub.nil)))))))) ?_
      refine W.ite rfl (fun c47 => ?_) (fun c47 => ?_)
      ·refine W.region ?_
       refine G.r (Runs.move rfl) ?_
       refine G.r (Runs.assign rfl) ?_
       refine G.r (Runs.assign rfl) ?_
       refine G.nil ?_
       refine V.block_normal ?_
       refine V.then ?_
       refine W.region ?_
       refine G.r (Runs.add rfl rfl (by unfold InR; omega)) ?_
       refine G.r (Runs.move rfl) ?_
       refine G.nil ?_
       exact V.next ((k + 1), (((at_ xs ((k : Nat) : Int)).tm) + wd), (true)) (show ((k + 1 : Nat) ≤ xs.length) ∧ ((true : Bool) = decide (kd = 2 ∧ 0 < (k + 1 : Nat))) ∧ (¬ (kd = 2 ∧ 0 < (k + 1 : Nat)) → (((at_ xs ((k : Nat) : Int)).tm) + wd : Int) = 0) ∧ (kd = 2 ∧ 0 < (k + 1 : Nat) → ∃ x ∈ xs, (((at_ xs ((k : Nat) : Int)).tm) + wd : Int) = x.tm + wd) ∧ (kd = 2 → ∀ j, j < (k + 1 : Nat) → (((at_ xs ((k : Nat) : Int)).tm) + wd : Int) ≤ (at_ xs (j : Int)).tm + wd) from ⟨(by omega), (by first | exact (decide_eq_true (by omega)).symm | (rw [hq, decide_eq_decide]; omega) | (rw [hq, decide_eq_decide]; have hP := qnot_f g42 hq; omega)), (fun h => by first | omega | exact hz0 (by omega)), (fun h => by first | exact ⟨_, at_mem (i := ((k : Nat) : Int)) (by omega) (by omega), rfl⟩ | exact hz1 (by omega) | (have hP := qnot_f g42 hq; exact hz1 hP)), (fun hk2 => by first | omega | exact all_succ (fun j hj => by first | (have hP := qnot_t g42 hq; omega) | (have h5 := hz2 hk2 j hj; omega)) (Int.le_refl _) | exact all_succ (hz2 hk2) (by omega))⟩) (show xs.length - (k + 1 : Nat) < xs.length - k from (by omega)) (Sub.cons rfl (Sub.cons lookO (Sub.cons (lookV rfl (by first | rfl | simp)) (Sub.cons rfl (Sub.cons rfl (Sub.cons lookO Sub.nil)))))) (show Fit κ _ (blk b2 [I64 (kd), I64 (wd), I64 (mo)] 73 :: blk b1 [I64 (nd), va] 71 :: I) from Fit.sub)
      ·refine W.skip ?_
       refine V.block_normal ?_
       refine V.then ?_
       refine W.region ?_
       refine G.r (Runs.add rfl rfl (by unfold InR; omega)) ?_
       refine G.r (Runs.move rfl) ?_
       refine G.nil ?_
       exact V.next ((k + 1), (z), (q)) (show ((k + 1 : Nat) ≤ xs.length) ∧ ((q : Bool) = decide (kd = 2 ∧ 0 < (k + 1 : Nat))) ∧ (¬ (kd = 2 ∧ 0 < (k + 1 : Nat)) → (z : Int) = 0) ∧ (kd = 2 ∧ 0 < (k + 1 : Nat) → ∃ x ∈ xs, (z : Int) = x.tm + wd) ∧ (kd = 2 → ∀ j, j < (k + 1 : Nat) → (z : Int) ≤ (at_ xs (j : Int)).tm + wd) from ⟨(by omega), (by first | exact (decide_eq_true (by omega)).symm | (rw [hq, decide_eq_decide]; omega) | (rw [hq, decide_eq_decide]; have hP := qnot_f g42 hq; omega)), (fun h => by first | omega | exact hz0 (by omega)), (fun h => by first | exact ⟨_, at_mem (i := ((k : Nat) : Int)) (by omega) (by omega), rfl⟩ | exact hz1 (by omega) | (have hP := qnot_f g42 hq; exact hz1 hP)), (fun hk2 => by first | omega | exact all_succ (fun j hj => by first | (have hP := qnot_t g42 hq; omega) | (have h5 := hz2 hk2 j hj; omega)) (Int.le_refl _) | exact all_succ (hz2 hk2) (by omega))⟩) (show xs.length - (k + 1 : Nat) < xs.length - k from (by omega)) (Sub.cons rfl (Sub.cons lookO (Sub.cons (lookV rfl (by first | rfl | simp)) (Sub.cons rfl (Sub.cons rfl (Sub.cons lookO Sub.nil)))))) (show Fit κ _ (blk b2 [I64 (kd), I64 (wd), I64 (mo)] 73 :: blk b1 [I64 (nd), va] 71 :: I) from Fit.sub)
    ·refine G.po ?_
     refine G.po ?_
     refine G.po ?_
     refine G.pu ?_
     refine G.pu ?_
     refine G.pu ?_
     refine G.po ?_
     refine G.r (Runs.pickf rfl rfl) ?_
     refine G.nt ?_
     refine W.sub (L' := [(47, _), (13, _), (3, _), (9, _), (10, _), (25, _), (26, _), (27, _)]) (Sub.cons rfl (Sub.cons rfl (Sub.cons rfl (Sub.cons rfl (Sub.cons rfl (Sub.cons rfl (Sub.cons rfl (Sub.cons rfl Sub.nil)))))))) ?_
     refine W.no rfl ?_
     refine W.skip ?_
     refine V.block_normal ?_
     refine V.then ?_
     refine W.region ?_
     refine G.r (Runs.add rfl rfl (by unfold InR; omega)) ?_
     refine G.r (Runs.move rfl) ?_
     refine G.nil ?_
     exact V.next ((k + 1), (z), (q)) (show ((k + 1 : Nat) ≤ xs.length) ∧ ((q : Bool) = decide (kd = 2 ∧ 0 < (k + 1 : Nat))) ∧ (¬ (kd = 2 ∧ 0 < (k + 1 : Nat)) → (z : Int) = 0) ∧ (kd = 2 ∧ 0 < (k + 1 : Nat) → ∃ x ∈ xs, (z : Int) = x.tm + wd) ∧ (kd = 2 → ∀ j, j < (k + 1 : Nat) → (z : Int) ≤ (at_ xs (j : Int)).tm + wd) from ⟨(by omega), (by first | exact (decide_eq_true (by omega)).symm | (rw [hq, decide_eq_decide]; omega) | (rw [hq, decide_eq_decide]; have hP := qnot_f g42 hq; omega)), (fun h => by first | omega | exact hz0 (by omega)), (fun h => by first | exact ⟨_, at_mem (i := ((k : Nat) : Int)) (by omega) (by omega), rfl⟩ | exact hz1 (by omega) | (have hP := qnot_f g42 hq; exact hz1 hP)), (fun hk2 => by first | omega | exact all_succ (fun j hj => by first | (have hP := qnot_t g42 hq; omega) | (have h5 := hz2 hk2 j hj; omega)) (Int.le_refl _) | exact all_succ (hz2 hk2) (by omega))⟩) (show xs.length - (k + 1 : Nat) < xs.length - k from (by omega)) (Sub.cons rfl (Sub.cons lookO (Sub.cons (lookV rfl (by first | rfl | simp)) (Sub.cons rfl (Sub.cons rfl (Sub.cons lookO Sub.nil)))))) (show Fit κ _ (blk b2 [I64 (kd), I64 (wd), I64 (mo)] 73 :: blk b1 [I64 (nd), va] 71 :: I) from Fit.sub)
   ·refine W.exit ?_
    refine V.then_exit ?_
    refine V.then_exit ?_
    refine V.block_hit ?_
    refine V.then ?_
    refine W.sr ?_
    refine G.r (Runs.move rfl) ?_
    refine G.r (Runs.move rfl) ?_
    refine G.r (Runs.assign rfl) ?_
    refine G.r (Runs.assign rfl) ?_
    refine G.r (Runs.assign rfl) ?_
    refine G.nt ?_
    refine W.ret ?_
    have hu : uErr nd xs kd wd mo = 0 := uErr_zero c17 c22
    have hc : untilC nd xs kd wd mo ↔ (kd = 2 ∧ 0 < k) := ⟨fun h => ⟨h.2.1, by have := List.length_pos_iff.2 h.2.2; omega⟩, fun h => ⟨hu, h.1, List.length_pos_iff.1 (by omega)⟩⟩
    exact V.ret3 rfl rfl rfl rfl (I) Fit.m ⟨z, by rw [hq, show decide (untilC nd xs kd wd mo) = decide (kd = 2 ∧ 0 < k) from decide_eq_decide.2 hc, hu], ⟨fun h => ⟨hz1 (hc.1 h), fun y hy => by obtain ⟨j, hj, rfl⟩ := mem_at hy; exact hz2 (hc.1 h).1 j (by omega)⟩, fun h => hz0 (fun h2 => h (hc.2 h2))⟩, rfl⟩

end Go.Sl
namespace Go.Sl
open Go.Proofs
set_option linter.unusedVariables false
set_option linter.unusedSimpArgs false
set_option maxRecDepth 4000
theorem MkWindow_base {κ : Ctx} {I : List Item} {b : Nat} {lv : Value} {ls : List Int} {i : Int}  (hl : ∀ q, Sl κ (deck b lv q :: I) lv ls) (h0 : 0 ≤ i)   :
    CallS Try.prog κ 51 [.pointer (some ⟨b, 0, none⟩)] (blk b [lv, I64 (i)] 129 :: I) (fun r J => ∃ y : Int × Int × Int × Int, ((r = .agg #[I64 y.1, I64 y.2.1, I64 y.2.2.1]) ∧ 0 ≤ y.2.2.2) ∧ J = [] ++ deck b lv y.2.2.2 :: I) := by
 refine CallS.enter (L := [(0, .pointer (some ⟨b, 0, none⟩))]) Try.func51 rfl rfl rfl rfl ?_
 refine W.sr ?_
 refine G.e (Eff.alloc ty73 rfl) ?_
 rintro _ _ ⟨b1, rfl, rfl⟩
 refine G.nt ?_
 refine W.seq ?_
 refine W.sr ?_
 refine G.r (Runs.move rfl) ?_
 refine G.e (Eff.call call25 rfl rfl (Next_ok (by repeat (first | exact AtF.head _ _ | apply AtF.tail)) (Sl.fit (hl _) Fit.m) (by omega) (by omega))) ?_
 rintro _ _ ⟨_, _, ⟨x2, i3, rfl, hx2, hi3, rfl⟩, rfl, rfl⟩
 show G Try.prog κ _ _ _ _ ([(4, I64 (x2)), (3, .pointer (some ⟨b, 0, none⟩)), (2, .pointer (some ⟨b1, 0, none⟩)), (0, .pointer (some ⟨b, 0, none⟩))] : Env) (blk b1 [I64 (0), I64 (0), I64 (0)] 73 :: blk b [lv, I64 (i3)] 129 :: I)
 refine G.nt ?_
 refine W.block ?_
 refine W.sr ?_
 refine G.r (Runs.eql rfl rfl) ?_
 refine G.r (Runs.assign rfl) ?_
 refine G.nt ?_
 refine W.ite rfl (fun c5 => ?_) (fun c5 => ?_)
 ·refine W.sr ?_
  refine G.r (Runs.move rfl) ?_
  refine G.e (Eff.call call25 rfl rfl (Next_ok (by repeat (first | exact AtF.head _ _ | apply AtF.tail)) (Sl.fit (hl _) Fit.m) (by omega) (by omega))) ?_
  rintro _ _ ⟨_, _, ⟨x4, i5, rfl, hx4, hi5, rfl⟩, rfl, rfl⟩
  show G Try.prog κ _ _ _ _ ([(8, I64 (x4)), (7, .pointer (some ⟨b, 0, none⟩)), (5, .bool (decide (x2 = 1))), (6, .bool (decide (x2 = 1))), (4, I64 (x2)), (3, .pointer (some ⟨b, 0, none⟩)), (2, .pointer (some ⟨b1, 0, none⟩)), (0, .pointer (some ⟨b, 0, none⟩))] : Env) (blk b1 [I64 (0), I64 (0), I64 (0)] 73 :: blk b [lv, I64 (i5)] 129 :: I)
  refine G.r (Runs.add rfl rfl (by unfold InR; omega)) ?_
  refine G.r (Runs.build (cells := [_, _, _]) ty73 Try.underlying73 pl73 rfl rfl) ?_
  refine G.e (Eff.st (cs := [_, _, _]) (vs := [_, _, _]) (cs' := [_, _, _]) ty73) ?_
  rintro _ _ ⟨rfl, rfl⟩
  refine G.nt ?_
  refine W.ret ?_
  refine V.block_ret ?_
  refine V.then_ret ?_
  exact V.retc rfl ty73 rfl (by repeat (first | exact List.mem_cons_self | apply List.mem_cons_of_mem)) rfl (blk b [lv, I64 (i5)] 129 :: I) Fit.sub ⟨(2, 1 + x4, 0, i5), ⟨rfl, by show 0 ≤ i5; omega⟩, rfl⟩
 ·refine W.sr ?_
  refine G.r (Runs.eql rfl rfl) ?_
  refine G.r (Runs.assign rfl) ?_
  refine G.nt ?_
  refine W.ite rfl (fun c11 => ?_) (fun c11 => ?_)
  ·refine W.sr ?_
   refine G.r (Runs.move rfl) ?_
   refine G.e (Eff.call call25 rfl rfl (Next_ok (by repeat (first | exact AtF.head _ _ | apply AtF.tail)) (Sl.fit (hl _) Fit.m) (by omega) (by omega))) ?_
   rintro _ _ ⟨_, _, ⟨x6, i7, rfl, hx6, hi7, rfl⟩, rfl, rfl⟩
   show G Try.prog κ _ _ _ _ ([(14, I64 (x6)), (13, .pointer (some ⟨b, 0, none⟩)), (11, .bool (decide (x2 = 2))), (12, .bool (decide (x2 = 2))), (5, .bool (decide (x2 = 1))), (6, .bool (decide (x2 = 1))), (4, I64 (x2)), (3, .pointer (some ⟨b, 0, none⟩)), (2, .pointer (some ⟨b1, 0, none⟩)), (0, .pointer (some ⟨b, 0, none⟩))] : Env) (blk b1 [I64 (0), I64 (0), I64 (0)] 73 :: blk b [lv, I64 (i7)] 129 :: I)
   refine G.r (Runs.build (cells := [_, _, _]) ty73 Try.underlying73 pl73 rfl rfl) ?_
   refine G.e (Eff.st (cs := [_, _, _]) (vs := [_, _, _]) (cs' := [_, _, _]) ty73) ?_
   rintro _ _ ⟨rfl, rfl⟩
   refine G.nt ?_
   refine W.ret ?_
   refine V.block_ret ?_
   refine V.then_ret ?_
   exact V.retc rfl ty73 rfl (by repeat (first | exact List.mem_cons_self | apply List.mem_cons_of_mem)) rfl (blk b [lv, I64 (i7)] 129 :: I) Fit.sub ⟨(3, 0, x6, i7), ⟨rfl, by show 0 ≤ i7; omega⟩, rfl⟩
  ·refine W.skip ?_
   refine V.block_normal ?_
   refine V.then ?_
   refine W.sr ?_
   refine G.r (Runs.build (cells := [_, _, _]) ty73 Try.underlying73 pl73 rfl rfl) ?_
   refine G.e (Eff.st (cs := [_, _, _]) (vs := [_, _, _]) (cs' := [_, _, _]) ty73) ?_
   rintro _ _ ⟨rfl, rfl⟩
   refine G.nt ?_
   refine W.ret ?_
   exact V.retc rfl ty73 rfl (by repeat (first | exact List.mem_cons_self | apply List.mem_cons_of_mem)) rfl (blk b [lv, I64 (i3)] 129 :: I) Fit.sub ⟨(1, 0, 0, i3), ⟨rfl, by show 0 ≤ i3; omega⟩, rfl⟩

theorem MkWindow_at {κ : Ctx} {I : List Item} {F : Item → List Item} {b : Nat} {lv : Value} {ls : List Int} {i : Int}  (hat : AtF I (deck b lv i) F) (hl : ∀ q, Sl κ (F (deck b lv q)) lv ls) (h0 : 0 ≤ i)   :
    CallS Try.prog κ 51 [.pointer (some ⟨b, 0, none⟩)] I fun r J => ∃ y : Int × Int × Int × Int, ((r = .agg #[I64 y.1, I64 y.2.1, I64 y.2.2.1]) ∧ 0 ≤ y.2.2.2) ∧ J = [] ++ F (deck b lv y.2.2.2) :=
  CallS.at (Post := fun r (y : Int × Int × Int × Int) => (r = .agg #[I64 y.1, I64 y.2.1, I64 y.2.2.1]) ∧ 0 ≤ y.2.2.2) (Z := fun y : Int × Int × Int × Int => []) (X := fun y : Int × Int × Int × Int => deck b lv y.2.2.2) hat fun J _ hF => MkWindow_base (fun q => (hl q).fit (hF _)) h0  

theorem Odd7_base {κ : Ctx} {I : List Item} {b : Nat} {lv : Value} {ls : List Int} {i : Int} {k0 w0 m0 : Int} (hl : ∀ q, Sl κ (deck b lv q :: I) lv ls) (h0 : 0 ≤ i)   :
    CallS Try.prog κ 52 [.pointer (some ⟨b, 0, none⟩), .agg #[I64 (k0), I64 (w0), I64 (m0)]] (blk b [lv, I64 (i)] 129 :: I) (fun r J => ∃ y : Int × Int × Int × Int, ((r = .agg #[I64 y.1, I64 y.2.1, I64 y.2.2.1]) ∧ 0 ≤ y.2.2.2) ∧ J = [] ++ deck b lv y.2.2.2 :: I) := by
 refine CallS.enter (L := [(0, .pointer (some ⟨b, 0, none⟩)), (1, .agg #[I64 (k0), I64 (w0), I64 (m0)])]) Try.func52 rfl rfl rfl rfl ?_
 refine W.sr ?_
 refine G.e (Eff.box (cs := [_, _, _]) rfl rfl rfl) ?_
 rintro _ _ ⟨b1, rfl, rfl⟩
 refine G.e (Eff.alloc ty73 rfl) ?_
 rintro _ _ ⟨b2, rfl, rfl⟩
 refine G.nt ?_
 refine W.seq ?_
 refine W.sr ?_
 refine G.r (Runs.move rfl) ?_
 refine G.e (Eff.call call25 rfl rfl (Next_ok (by repeat (first | exact AtF.head _ _ | apply AtF.tail)) (Sl.fit (hl _) Fit.m) (by omega) (by omega))) ?_
 rintro _ _ ⟨_, _, ⟨x3, i4, rfl, hx3, hi4, rfl⟩, rfl, rfl⟩
 show G Try.prog κ _ _ _ _ ([(6, I64 (x3)), (5, .pointer (some ⟨b, 0, none⟩)), (4, .pointer (some ⟨b2, 0, none⟩)), (3, .pointer (some ⟨b1, 0, none⟩)), (0, .pointer (some ⟨b, 0, none⟩)), (1, .agg #[I64 (k0), I64 (w0), I64 (m0)])] : Env) (blk b2 [I64 (0), I64 (0), I64 (0)] 73 :: blk b1 [I64 (k0), I64 (w0), I64 (m0)] 73 :: blk b [lv, I64 (i4)] 129 :: I)
 refine G.nt ?_
 refine W.block ?_
 refine W.sr ?_
 refine G.r (Runs.eql rfl rfl) ?_
 refine G.r (Runs.assign rfl) ?_
 refine G.nt ?_
 refine W.ite rfl (fun c7 => ?_) (fun c7 => ?_)
 ·refine W.region ?_
  refine G.r (Runs.move rfl) ?_
  refine G.e (Eff.call call25 rfl rfl (Next_ok (by repeat (first | exact AtF.head _ _ | apply AtF.tail)) (Sl.fit (hl _) Fit.m) (by omega) (by omega))) ?_
  rintro _ _ ⟨_, _, ⟨x5, i6, rfl, hx5, hi6, rfl⟩, rfl, rfl⟩
  show G Try.prog κ _ _ _ _ ([(10, I64 (x5)), (9, .pointer (some ⟨b, 0, none⟩)), (7, .bool (decide (x3 = 0))), (8, .bool (decide (x3 = 0))), (6, I64 (x3)), (5, .pointer (some ⟨b, 0, none⟩)), (4, .pointer (some ⟨b2, 0, none⟩)), (3, .pointer (some ⟨b1, 0, none⟩)), (0, .pointer (some ⟨b, 0, none⟩)), (1, .agg #[I64 (k0), I64 (w0), I64 (m0)])] : Env) (blk b2 [I64 (0), I64 (0), I64 (0)] 73 :: blk b1 [I64 (k0), I64 (w0), I64 (m0)] 73 :: blk b [lv, I64 (i6)] 129 :: I)
  refine G.r (Runs.sub rfl rfl (by unfold InR; omega)) ?_
  refine G.r (Runs.fieldAddr fld73_0 rfl) ?_
  refine G.e (Eff.st (cs := [_, _, _]) (vs := [_]) (cs' := [_, _, _]) ty3) ?_
  rintro _ _ ⟨rfl, rfl⟩
  refine G.nil ?_
  refine V.block_normal ?_
  refine V.then ?_
  refine W.sr ?_
  refine G.r (Runs.lds (vs := [_, _, _]) ty73) ?_
  refine G.e (Eff.st (cs := [_, _, _]) (vs := [_, _, _]) (cs' := [_, _, _]) ty73) ?_
  rintro _ _ ⟨rfl, rfl⟩
  refine G.nt ?_
  refine W.ret ?_
  exact V.retc rfl ty73 rfl (by repeat (first | exact List.mem_cons_self | apply List.mem_cons_of_mem)) rfl (blk b [lv, I64 (i6)] 129 :: I) Fit.sub ⟨(x5 - 1, w0, m0, i6), ⟨rfl, by show 0 ≤ i6; omega⟩, rfl⟩
 ·refine W.sr ?_
  refine G.r (Runs.eql rfl rfl) ?_
  refine G.r (Runs.assign rfl) ?_
  refine G.nt ?_
  refine W.ite rfl (fun c13 => ?_) (fun c13 => ?_)
  ·refine W.region ?_
   refine G.e (Eff.bs (α := Int) (cs := [_, _, _, _]) (xs := [-1, 0, 1048576, 1048577]) Try.underlying22 ty3 rfl rfl (by decide) (by decide) rfl rfl rfl rfl) ?_
   rintro _ _ ⟨ad7, rfl, rfl⟩
   refine G.r (Runs.move rfl) ?_
   refine G.e (Eff.call call25 rfl rfl (Next_ok (by repeat (first | exact AtF.head _ _ | apply AtF.tail)) (Sl.fit (hl _) Fit.m) (by omega) (by omega))) ?_
   rintro _ _ ⟨_, _, ⟨x8, i9, rfl, hx8, hi9, rfl⟩, rfl, rfl⟩
   show G Try.prog κ _ _ _ _ ([(17, I64 (x8)), (16, .pointer (some ⟨b, 0, none⟩)), (15, .slice ad7 4 4), (13, .bool (decide (x3 = 1))), (14, .bool (decide (x3 = 1))), (7, .bool (decide (x3 = 0))), (8, .bool (decide (x3 = 0))), (6, I64 (x3)), (5, .pointer (some ⟨b, 0, none⟩)), (4, .pointer (some ⟨b2, 0, none⟩)), (3, .pointer (some ⟨b1, 0, none⟩)), (0, .pointer (some ⟨b, 0, none⟩)), (1, .agg #[I64 (k0), I64 (w0), I64 (m0)])] : Env) (vc 3 (.slice ad7 4 4) (([-1, 0, 1048576, 1048577] : List Int)) :: blk b2 [I64 (0), I64 (0), I64 (0)] 73 :: blk b1 [I64 (k0), I64 (w0), I64 (m0)] 73 :: blk b [lv, I64 (i9)] 129 :: I)
   refine G.r (Runs.idx (α := Int) (xs := ([-1, 0, 1048576, 1048577] : List Int)) Try.underlying22 ty3 rfl rfl Sl.o (by omega) (by first | omega | (simp only [List.length_cons, List.length_nil]; omega))) ?_
   refine G.r (Runs.get (xs := ([-1, 0, 1048576, 1048577] : List Int)) ty3 rfl Sl.o (by omega) (by first | omega | (simp only [List.length_cons, List.length_nil]; omega))) ?_
   refine G.r (Runs.fieldAddr fld73_1 rfl) ?_
   refine G.e (Eff.st (cs := [_, _, _]) (vs := [_]) (cs' := [_, _, _]) ty3) ?_
   rintro _ _ ⟨rfl, rfl⟩
   refine G.nil ?_
   refine V.block_normal ?_
   refine V.then ?_
   refine W.sub (L' := [(4, _), (3, _)]) (Sub.cons rfl (Sub.cons rfl Sub.nil)) ?_
   refine W.sr ?_
   refine G.r (Runs.lds (vs := [_, _, _]) ty73) ?_
   refine G.e (Eff.st (cs := [_, _, _]) (vs := [_, _, _]) (cs' := [_, _, _]) ty73) ?_
   rintro _ _ ⟨rfl, rfl⟩
   refine G.nt ?_
   refine W.ret ?_
   exact V.retc rfl ty73 rfl (by repeat (first | exact List.mem_cons_self | apply List.mem_cons_of_mem)) rfl (blk b [lv, I64 (i9)] 129 :: I) Fit.sub ⟨(k0, at_ ([-1, 0, 1048576, 1048577] : List Int) x8, m0, i9), ⟨rfl, by show 0 ≤ i9; omega⟩, rfl⟩
  ·refine W.sr ?_
   refine G.r (Runs.eql rfl rfl) ?_
   refine G.r (Runs.assign rfl) ?_
   refine G.nt ?_
   refine W.ite rfl (fun c21 => ?_) (fun c21 => ?_)
   ·refine W.region ?_
    refine G.e (Eff.bs (α := Int) (cs := [_, _, _, _]) (xs := [-1, 0, 2016, 2017]) Try.underlying22 ty3 rfl rfl (by decide) (by decide) rfl rfl rfl rfl) ?_
    rintro _ _ ⟨ad10, rfl, rfl⟩
    refine G.r (Runs.move rfl) ?_
    refine G.e (Eff.call call25 rfl rfl (Next_ok (by repeat (first | exact AtF.head _ _ | apply AtF.tail)) (Sl.fit (hl _) Fit.m) (by omega) (by omega))) ?_
    rintro _ _ ⟨_, _, ⟨x11, i12, rfl, hx11, hi12, rfl⟩, rfl, rfl⟩
    show G Try.prog κ _ _ _ _ ([(25, I64 (x11)), (24, .pointer (some ⟨b, 0, none⟩)), (23, .slice ad10 4 4), (21, .bool (decide (x3 = 2))), (22, .bool (decide (x3 = 2))), (13, .bool (decide (x3 = 1))), (14, .bool (decide (x3 = 1))), (7, .bool (decide (x3 = 0))), (8, .bool (decide (x3 = 0))), (6, I64 (x3)), (5, .pointer (some ⟨b, 0, none⟩)), (4, .pointer (some ⟨b2, 0, none⟩)), (3, .pointer (some ⟨b1, 0, none⟩)), (0, .pointer (some ⟨b, 0, none⟩)), (1, .agg #[I64 (k0), I64 (w0), I64 (m0)])] : Env) (vc 3 (.slice ad10 4 4) (([-1, 0, 2016, 2017] : List Int)) :: blk b2 [I64 (0), I64 (0), I64 (0)] 73 :: blk b1 [I64 (k0), I64 (w0), I64 (m0)] 73 :: blk b [lv, I64 (i12)] 129 :: I)
    refine G.r (Runs.idx (α := Int) (xs := ([-1, 0, 2016, 2017] : List Int)) Try.underlying22 ty3 rfl rfl Sl.o (by omega) (by first | omega | (simp only [List.length_cons, List.length_nil]; omega))) ?_
    refine G.r (Runs.get (xs := ([-1, 0, 2016, 2017] : List Int)) ty3 rfl Sl.o (by omega) (by first | omega | (simp only [List.length_cons, List.length_nil]; omega))) ?_
    refine G.r (Runs.fieldAddr fld73_2 rfl) ?_
    refine G.e (Eff.st (cs := [_, _, _]) (vs := [_]) (cs' := [_, _, _]) ty3) ?_
    rintro _ _ ⟨rfl, rfl⟩
    refine G.nil ?_
    refine V.block_normal ?_
    refine V.then ?_
    refine W.sub (L' := [(4, _), (3, _)]) (Sub.cons rfl (Sub.cons rfl Sub.nil)) ?_
    refine W.sr ?_
    refine G.r (Runs.lds (vs := [_, _, _]) ty73) ?_
    refine G.e (Eff.st (cs := [_, _, _]) (vs := [_, _, _]) (cs' := [_, _, _]) ty73) ?_
    rintro _ _ ⟨rfl, rfl⟩
    refine G.nt ?_
    refine W.ret ?_
    exact V.retc rfl ty73 rfl (by repeat (first | exact List.mem_cons_self | apply List.mem_cons_of_mem)) rfl (blk b [lv, I64 (i12)] 129 :: I) Fit.sub ⟨(k0, w0, at_ ([-1, 0, 2016, 2017] : List Int) x11, i12), ⟨rfl, by show 0 ≤ i12; omega⟩, rfl⟩
   ·refine W.skip ?_
    refine V.block_normal ?_
    refine V.then ?_
    refine W.sr ?_
    refine G.r (Runs.lds (vs := [_, _, _]) ty73) ?_
    refine G.e (Eff.st (cs := [_, _, _]) (vs := [_, _, _]) (cs' := [_, _, _]) ty73) ?_
    rintro _ _ ⟨rfl, rfl⟩
    refine G.nt ?_
    refine W.ret ?_
    exact V.retc rfl ty73 rfl (by repeat (first | exact List.mem_cons_self | apply List.mem_cons_of_mem)) rfl (blk b [lv, I64 (i4)] 129 :: I) Fit.sub ⟨(k0, w0, m0, i4), ⟨rfl, by show 0 ≤ i4; omega⟩, rfl⟩

theorem Odd7_at {κ : Ctx} {I : List Item} {F : Item → List Item} {b : Nat} {lv : Value} {ls : List Int} {i : Int} {k0 w0 m0 : Int} (hat : AtF I (deck b lv i) F) (hl : ∀ q, Sl κ (F (deck b lv q)) lv ls) (h0 : 0 ≤ i)   :
    CallS Try.prog κ 52 [.pointer (some ⟨b, 0, none⟩), .agg #[I64 (k0), I64 (w0), I64 (m0)]] I fun r J => ∃ y : Int × Int × Int × Int, ((r = .agg #[I64 y.1, I64 y.2.1, I64 y.2.2.1]) ∧ 0 ≤ y.2.2.2) ∧ J = [] ++ F (deck b lv y.2.2.2) :=
  CallS.at (Post := fun r (y : Int × Int × Int × Int) => (r = .agg #[I64 y.1, I64 y.2.1, I64 y.2.2.1]) ∧ 0 ≤ y.2.2.2) (Z := fun y : Int × Int × Int × Int => []) (X := fun y : Int × Int × Int × Int => deck b lv y.2.2.2) hat fun J _ hF => Odd7_base (fun q => (hl q).fit (hF _)) h0  

end Go.Sl
namespace Go.Sl
open Go.Proofs
set_option linter.unusedVariables false
set_option linter.unusedSimpArgs false
set_option maxRecDepth 4000
theorem aw7_ask : askE 2 [(⟨0, 1, 1, 0, 1, 5⟩ : Lk)] 2 3 0 7 = 0 := by decide +kernel
theorem aw8_ask : askE 2 [(⟨0, 1, 1, 0, 1, 5⟩ : Lk)] 2 3 0 8 = 0 := by decide +kernel
theorem aw_chk : checkW 2 3 0 = 0 := by decide +kernel
theorem aw7_len : (List.filter (inW 2 3 0 7 [(⟨0, 1, 1, 0, 1, 5⟩ : Lk)]) [(⟨0, 1, 1, 0, 1, 5⟩ : Lk)]).length = 1 := by decide +kernel
theorem aw8_len : (List.filter (inW 2 3 0 8 [(⟨0, 1, 1, 0, 1, 5⟩ : Lk)]) [(⟨0, 1, 1, 0, 1, 5⟩ : Lk)]).length = 0 := by decide +kernel

set_option maxHeartbeats 2000000 in
theorem Awake7_ok {κ : Ctx} {I : List Item}  :
    CallS Try.prog κ 49 [] I (fun r J => r = .bool true ∧ I = J) := by
 refine CallS.enter (L := []) Try.func49 rfl rfl rfl rfl ?_
 refine W.sr ?_
 refine G.r (Runs.assign rfl) ?_
 refine G.nt ?_
 refine W.sr ?_
 refine G.r (Runs.build (cells := [_, _, _, _, _, _]) ty158 Try.underlying158 pl158 rfl rfl) ?_
 refine G.e (Eff.bs (α := Lk) (cs := [I64 (0), I64 (1), I64 (1), I64 (0), I64 (1), I64 (5)]) (xs := [⟨0, 1, 1, 0, 1, 5⟩]) Try.underlying69 ty158 rfl rfl (by decide) (by decide) rfl (by kernel_rfl) rfl rfl) ?_
 rintro _ _ ⟨ad1, rfl, rfl⟩
 refine G.r (Runs.build (cells := [_, _]) ty71 Try.underlying71 pl71 rfl rfl) ?_
 refine G.e (Eff.alloc ty71 rfl) ?_
 rintro _ _ ⟨b2, rfl, rfl⟩
 refine G.e (Eff.st (cs := [_, _]) (vs := [_, _]) (cs' := [_, _]) ty71) ?_
 rintro _ _ ⟨rfl, rfl⟩
 refine G.nt ?_
 refine W.sr ?_
 refine G.r (Runs.build (cells := [_, _, _]) ty73 Try.underlying73 pl73 rfl rfl) ?_
 refine G.e (Eff.alloc ty73 rfl) ?_
 rintro _ _ ⟨b3, rfl, rfl⟩
 refine G.e (Eff.st (cs := [_, _, _]) (vs := [_, _, _]) (cs' := [_, _, _]) ty73) ?_
 rintro _ _ ⟨rfl, rfl⟩
 refine G.nt ?_
 refine W.sr ?_
 refine G.r (Runs.lds (vs := [_, _]) ty71) ?_
 refine G.r (Runs.lds (vs := [_, _, _]) ty73) ?_
 refine G.e (Eff.call call53 rfl rfl (PresentP_ok (nd := 2) (kd := 2) (wd := 3) (mo := 0) (nw := 7) (xs := ([⟨0, 1, 1, 0, 1, 5⟩] : List Lk)) Sl.o (by decide))) ?_
 rintro _ _ ⟨_, _, (⟨hnead4, rfl, rfl⟩ | ⟨ad4, cp5, hzad4, rfl, rfl⟩), rfl, rfl⟩
 ·exact absurd aw7_ask hnead4
 ·show G Try.prog κ _ _ _ _ ([(14, .tuple #[.agg #[I64 (2), .slice ad4 (List.filter (inW 2 3 0 7 ([⟨0, 1, 1, 0, 1, 5⟩] : List Lk)) ([⟨0, 1, 1, 0, 1, 5⟩] : List Lk)).length cp5], I64 (0)]), (13, .agg #[I64 (2), I64 (3), I64 (0)]), (12, .agg #[I64 (2), .slice ad1 1 1]), (2, .pointer (some ⟨b3, 0, none⟩)), (10, .agg #[I64 (2), I64 (3), I64 (0)]), (1, .pointer (some ⟨b2, 0, none⟩)), (9, .agg #[I64 (2), .slice ad1 1 1]), (8, .slice ad1 1 1), (7, .agg #[I64 (0), I64 (1), I64 (1), I64 (0), I64 (1), I64 (5)]), (0, .bool false)] : Env) (vc 158 (.slice ad4 (List.filter (inW 2 3 0 7 ([⟨0, 1, 1, 0, 1, 5⟩] : List Lk)) ([⟨0, 1, 1, 0, 1, 5⟩] : List Lk)).length cp5) (List.filter (inW 2 3 0 7 ([⟨0, 1, 1, 0, 1, 5⟩] : List Lk)) ([⟨0, 1, 1, 0, 1, 5⟩] : List Lk)) :: blk b3 [I64 (2), I64 (3), I64 (0)] 73 :: blk b2 [I64 (2), .slice ad1 1 1] 71 :: vc 158 (.slice ad1 1 1) (([⟨0, 1, 1, 0, 1, 5⟩] : List Lk)) :: I)
  refine G.r (Runs.move rfl) ?_
  refine G.r (Runs.extract rfl rfl) ?_
  refine G.r (Runs.extract rfl rfl) ?_
  refine G.e (Eff.alloc ty71 rfl) ?_
  rintro _ _ ⟨b6, rfl, rfl⟩
  refine G.e (Eff.st (cs := [_, _]) (vs := [_, _]) (cs' := [_, _]) ty71) ?_
  rintro _ _ ⟨rfl, rfl⟩
  refine G.r (Runs.assign rfl) ?_
  refine G.nt ?_
  refine W.sub (L' := [(4, _), (3, _), (2, _), (1, _)]) (Sub.cons rfl (Sub.cons rfl (Sub.cons rfl (Sub.cons rfl Sub.nil)))) ?_
  refine W.sr ?_
  refine G.r (Runs.lds (vs := [_, _]) ty71) ?_
  refine G.r (Runs.lds (vs := [_, _, _]) ty73) ?_
  refine G.e (Eff.call call53 rfl rfl (PresentP_ok (nd := 2) (kd := 2) (wd := 3) (mo := 0) (nw := 8) (xs := ([⟨0, 1, 1, 0, 1, 5⟩] : List Lk)) Sl.o (by decide))) ?_
  rintro _ _ ⟨_, _, (⟨hnead7, rfl, rfl⟩ | ⟨ad7, cp8, hzad7, rfl, rfl⟩), rfl, rfl⟩
  ·exact absurd aw8_ask hnead7
  ·show G Try.prog κ _ _ _ _ ([(20, .tuple #[.agg #[I64 (2), .slice ad7 (List.filter (inW 2 3 0 8 ([⟨0, 1, 1, 0, 1, 5⟩] : List Lk)) ([⟨0, 1, 1, 0, 1, 5⟩] : List Lk)).length cp8], I64 (0)]), (19, .agg #[I64 (2), I64 (3), I64 (0)]), (18, .agg #[I64 (2), .slice ad1 1 1]), (4, I64 (0)), (3, .pointer (some ⟨b6, 0, none⟩)), (2, .pointer (some ⟨b3, 0, none⟩)), (1, .pointer (some ⟨b2, 0, none⟩))] : Env) (vc 158 (.slice ad7 (List.filter (inW 2 3 0 8 ([⟨0, 1, 1, 0, 1, 5⟩] : List Lk)) ([⟨0, 1, 1, 0, 1, 5⟩] : List Lk)).length cp8) (List.filter (inW 2 3 0 8 ([⟨0, 1, 1, 0, 1, 5⟩] : List Lk)) ([⟨0, 1, 1, 0, 1, 5⟩] : List Lk)) :: blk b6 [I64 (2), .slice ad4 (List.filter (inW 2 3 0 7 ([⟨0, 1, 1, 0, 1, 5⟩] : List Lk)) ([⟨0, 1, 1, 0, 1, 5⟩] : List Lk)).length cp5] 71 :: vc 158 (.slice ad4 (List.filter (inW 2 3 0 7 ([⟨0, 1, 1, 0, 1, 5⟩] : List Lk)) ([⟨0, 1, 1, 0, 1, 5⟩] : List Lk)).length cp5) (List.filter (inW 2 3 0 7 ([⟨0, 1, 1, 0, 1, 5⟩] : List Lk)) ([⟨0, 1, 1, 0, 1, 5⟩] : List Lk)) :: blk b3 [I64 (2), I64 (3), I64 (0)] 73 :: blk b2 [I64 (2), .slice ad1 1 1] 71 :: vc 158 (.slice ad1 1 1) (([⟨0, 1, 1, 0, 1, 5⟩] : List Lk)) :: I)
   refine G.r (Runs.move rfl) ?_
   refine G.r (Runs.extract rfl rfl) ?_
   refine G.r (Runs.extract rfl rfl) ?_
   refine G.e (Eff.alloc ty71 rfl) ?_
   rintro _ _ ⟨b9, rfl, rfl⟩
   refine G.e (Eff.st (cs := [_, _]) (vs := [_, _]) (cs' := [_, _]) ty71) ?_
   rintro _ _ ⟨rfl, rfl⟩
   refine G.r (Runs.assign rfl) ?_
   refine G.nt ?_
   refine W.sr ?_
   refine G.r (Runs.move rfl) ?_
   refine G.r (Runs.eql rfl rfl) ?_
   refine G.r (Runs.move rfl) ?_
   refine G.split (d := 25) rfl (fun g25 => ?_) (fun g25 => ?_)
   ·refine G.ro (Runs.move rfl) ?_
    refine G.ro (Runs.eql rfl rfl) ?_
    refine G.r (Runs.pickt rfl rfl) ?_
    refine G.r (Runs.move rfl) ?_
    refine G.split (d := 29) rfl (fun g29 => ?_) (fun g29 => ?_)
    ·refine G.ro (Runs.fieldAddr fld71_1 rfl) ?_
     refine G.ro (Runs.ld ty69) ?_
     refine G.ro (Runs.lens Try.underlying69 rfl) ?_
     refine G.ro (Runs.eql rfl rfl) ?_
     refine G.r (Runs.pickt rfl rfl) ?_
     refine G.r (Runs.move rfl) ?_
     refine G.split (d := 35) rfl (fun g35 => ?_) (fun g35 => ?_)
     ·refine G.ro (Runs.fieldAddr fld71_1 rfl) ?_
      refine G.ro (Runs.ld ty69) ?_
      refine G.ro (Runs.lens Try.underlying69 rfl) ?_
      refine G.ro (Runs.eql rfl rfl) ?_
      refine G.r (Runs.pickt rfl rfl) ?_
      refine G.r (Runs.move rfl) ?_
      refine G.split (d := 41) rfl (fun g41 => ?_) (fun g41 => ?_)
      ·refine G.ro (Runs.lds (vs := [_, _, _]) ty73) ?_
       refine G.eff (Wanted.on rfl rfl rfl) (Eff.call call61 rfl rfl (CheckW_ok 2 3 0)) ?_
       rintro _ _ ⟨_, _, ⟨rfl, rfl⟩, rfl, rfl⟩
       refine G.ro (Runs.eql rfl rfl) ?_
       refine G.r (Runs.pickt rfl rfl) ?_
       refine G.r (Runs.assign rfl) ?_
       refine G.nt ?_
       refine W.sub (L' := [(0, _)]) (Sub.cons rfl Sub.nil) ?_
       refine W.ret ?_
       exact V.ret1 rfl rfl (I) Fit.m ⟨by rw [decide_eq_true (show checkW 2 3 0 = 0 from aw_chk)], rfl⟩
      ·exact absurd (congrArg (fun n : Nat => (n : Int)) aw8_len) g41
     ·exact absurd (congrArg (fun n : Nat => (n : Int)) aw7_len) g35
    ·exact absurd rfl g29
   ·exact absurd rfl g25

end Go.Sl
namespace Go.Sl
open Go.Proofs
set_option linter.unusedVariables false
set_option linter.unusedSimpArgs false
set_option maxRecDepth 4000
structure StV where
  n : Int
  a : Option Addr
  c : Nat
  xs : List Lk
instance : Inhabited StV := ⟨⟨0, none, 0, []⟩⟩
instance : Enc StV := ⟨fun r => [I64 r.n, .slice r.a r.xs.length r.c], 2, by omega, fun _ => rfl, fun r u hu => by
  simp only [List.mem_cons, List.not_mem_nil, or_false] at hu
  rcases hu with rfl | rfl <;> rfl⟩
def StV.Held (κ : Ctx) (I : List Item) (r : StV) : Prop := Sl κ I (.slice r.a r.xs.length r.c) r.xs ∧ r.xs.length ≤ 1000000
def HeldSts (κ : Ctx) (I : List Item) (rs : List StV) : Prop := ∀ r ∈ rs, StV.Held κ I r
theorem HeldSts.nil {κ : Ctx} {I : List Item} : HeldSts κ I [] := fun r hr => by cases hr
theorem HeldSts.cons {κ : Ctx} {I : List Item} {r : StV} {rs : List StV} (hr : StV.Held κ I r) (h : HeldSts κ I rs) : HeldSts κ I (r :: rs) := fun x hx => by
  rcases List.mem_cons.1 hx with rfl | hx
  · exact hr
  · exact h x hx
theorem HeldSts.at {κ : Ctx} {I : List Item} {rs : List StV} (h : HeldSts κ I rs) {i : Int} (h0 : 0 ≤ i) (hn : i < rs.length) : Sl κ I (.slice (at_ rs i).a (at_ rs i).xs.length (at_ rs i).c) (at_ rs i).xs := (h _ (at_mem h0 hn)).1
theorem HeldSts.len {κ : Ctx} {I : List Item} {rs : List StV} (h : HeldSts κ I rs) {i : Int} (h0 : 0 ≤ i) (hn : i < rs.length) : (at_ rs i).xs.length ≤ 1000000 := (h _ (at_mem h0 hn)).2
theorem HeldSts.fit {κ : Ctx} {I J : List Item} {rs : List StV} (h : HeldSts κ I rs) (hf : Fit κ J I) : HeldSts κ J rs := fun r hr => ⟨Sl.fit (h r hr).1 hf, (h r hr).2⟩
structure Wn where
  kd : Int
  wd : Int
  mo : Int
deriving DecidableEq, Inhabited
instance : Enc Wn := ⟨fun x => [I64 x.kd, I64 x.wd, I64 x.mo], 3, by omega, fun _ => rfl, fun x u h => by
  simp only [List.mem_cons, List.not_mem_nil, or_false] at h
  rcases h with rfl | rfl | rfl <;> rfl⟩
end Go.Sl
