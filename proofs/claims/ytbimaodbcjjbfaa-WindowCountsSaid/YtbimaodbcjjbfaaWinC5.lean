/- A part of the proofs of statements of this seat: contracts of functions, and the plain laws that they lean on. No conditions. -/
import Derived.Test.YtbimaodbcjjbfaaWinB5
import Derived.Test.YtbimaodbcjjbfaaWinA5
import Derived.Test.YtbimaodbcjjbfaaRunsY
namespace Go.Sl
open Go.Proofs
set_option linter.unusedVariables false
set_option linter.unusedSimpArgs false
set_option maxRecDepth 4000
theorem checkW_wd {kd wd mo : Int} (h : checkW kd wd mo = 0) : 0 ≤ wd ∧ wd ≤ 1048576 := by
  unfold checkW at h
  split at h
  · cases h
  · split at h
    · cases h
    · omega
def uErr (nd : Int) (xs : List Lk) (kd wd mo : Int) : Int := if checkW kd wd mo ≠ 0 then checkW kd wd mo else checkS nd xs
/-- Until when: the first time at which a link is too old. -/
def untilC (nd : Int) (xs : List Lk) (kd wd mo : Int) : Prop := uErr nd xs kd wd mo = 0 ∧ kd = 2 ∧ xs ≠ []
instance (nd : Int) (xs : List Lk) (kd wd mo : Int) : Decidable (untilC nd xs kd wd mo) := by unfold untilC; infer_instance
structure UntilP (nd : Int) (xs : List Lk) (kd wd mo z : Int) : Prop where
  yes : untilC nd xs kd wd mo → (∃ x ∈ xs, z = x.tm + wd) ∧ ∀ y ∈ xs, z ≤ y.tm + wd
  no : ¬ untilC nd xs kd wd mo → z = 0
def tmC (a c : Lk) : Int := cmpI a.tm c.tm
theorem tmC_lt (a c : Lk) : tmC a c < 0 ↔ a.tm < c.tm := by unfold tmC cmpI; split <;> (try split) <;> omega

theorem FirstC_ok {κ : Ctx} {I : List Item} (a c : Lk) :
    CallS Try.prog κ 190 [.agg #[I64 (a.u), I64 (a.v), I64 (a.w), I64 (a.lb), I64 (a.sg), I64 (a.tm)], .agg #[I64 (c.u), I64 (c.v), I64 (c.w), I64 (c.lb), I64 (c.sg), I64 (c.tm)]] I (fun r J => r = I64 (tmC a c) ∧ I = J) := by
 refine CallS.enter (L := [(0, .agg #[I64 (a.u), I64 (a.v), I64 (a.w), I64 (a.lb), I64 (a.sg), I64 (a.tm)]), (1, .agg #[I64 (c.u), I64 (c.v), I64 (c.w), I64 (c.lb), I64 (c.sg), I64 (c.tm)])]) Try.func190 rfl rfl rfl rfl ?_
 refine W.sr ?_
 refine G.e (Eff.box (cs := [_, _, _, _, _, _]) rfl rfl rfl) ?_
 rintro _ _ ⟨b1, rfl, rfl⟩
 refine G.e (Eff.box (cs := [_, _, _, _, _, _]) rfl rfl rfl) ?_
 rintro _ _ ⟨b2, rfl, rfl⟩
 refine G.r (Runs.assign rfl) ?_
 refine G.nt ?_
 refine W.sr ?_
 refine G.r (Runs.fieldAddr fld158_5 rfl) ?_
 refine G.r (Runs.ld ty3) ?_
 refine G.r (Runs.fieldAddr fld158_5 rfl) ?_
 refine G.r (Runs.ld ty3) ?_
 refine G.e (Eff.call call173 rfl rfl (Compare_ok a.tm c.tm)) ?_
 rintro _ _ ⟨_, _, ⟨rfl, rfl⟩, rfl, rfl⟩
 refine G.r (Runs.assign rfl) ?_
 refine G.nt ?_
 refine W.ret ?_
 exact V.ret1 rfl rfl (I) Fit.m ⟨rfl, rfl⟩

theorem FirstC_cmps {κ : Ctx} {I : List Item} : Cmps Try.prog κ I 190 [] tmC := ⟨call190, fun x y J hf => FirstC_ok x y⟩

theorem MinF_ok {κ : Ctx} {I : List Item} {v : Value} {xs : List Lk} (hl : Sl κ I v xs) (hne : 0 < xs.length) {g : FuncId} {cp_ : List Value} (hcb : Cmps Try.prog κ I g cp_ tmC) :
    CallS Try.prog κ 189 [v, .func (.func g) #[] cp_.toArray] I (fun r J => ∃ x : Lk, r = .agg #[I64 x.u, I64 x.v, I64 x.w, I64 x.lb, I64 x.sg, I64 x.tm] ∧ (x ∈ xs ∧ ∀ y ∈ xs, x.tm ≤ y.tm) ∧ I = J) := by
 refine CallS.pull hl.le fun hmax => ?_
 refine CallS.enter (L := [(0, v), (1, .func (.func g) #[] cp_.toArray)]) Try.func189 rfl rfl rfl rfl ?_
 refine W.sr ?_
 refine G.e (Eff.alloc ty158 rfl) ?_
 rintro _ _ ⟨b1, rfl, rfl⟩
 refine G.nt ?_
 refine W.seq ?_
 refine W.sr ?_
 refine G.r (Runs.move rfl) ?_
 refine G.r (Runs.lenT (α := Lk) (xs := xs) Try.underlying69 rfl (Sl.f hl)) ?_
 refine G.r (Runs.lss rfl rfl) ?_
 refine G.nt ?_
 refine W.ite rfl (fun c9 => ?_) (fun c9 => ?_)
 ·exact absurd hne (by omega)
 ·refine W.skip ?_
  refine V.then ?_
  refine W.sr ?_
  refine G.r (Runs.move rfl) ?_
  refine G.r (Runs.idx (α := Lk) (xs := xs) Try.underlying69 ty158 rfl rfl (Sl.f hl) (by omega) (by omega)) ?_
  refine G.r (Runs.gets (α := Lk) (xs := xs) ty158 rfl (Sl.f hl) (by omega) (by omega)) ?_
  refine G.e (Eff.alloc ty158 rfl) ?_
  rintro _ _ ⟨b2, rfl, rfl⟩
  refine G.e (Eff.st (cs := [_, _, _, _, _, _]) (vs := [_, _, _, _, _, _]) (cs' := [_, _, _, _, _, _]) ty158) ?_
  rintro _ _ ⟨rfl, rfl⟩
  refine G.nt ?_
  refine W.seq ?_
  refine W.sr ?_
  refine G.r (Runs.assign rfl) ?_
  refine G.nt ?_
  refine W.block ?_
  refine W.loop (σ := Nat × Lk) (fun s => ([(0, v), (1, .func (.func g) #[] cp_.toArray), (4, .pointer (some ⟨b1, 0, none⟩)), (5, .pointer (some ⟨b2, 0, none⟩)), (6, I64 (((s.1 : Nat) : Int)))] : Env)) (fun s => blk b2 [I64 (s.2.u), I64 (s.2.v), I64 (s.2.w), I64 (s.2.lb), I64 (s.2.sg), I64 (s.2.tm)] 158 :: blk b1 [I64 (0), I64 (0), I64 (0), I64 (0), I64 (0), I64 (0)] 158 :: I) (fun s => (1 ≤ s.1 ∧ s.1 ≤ xs.length) ∧ (s.2 ∈ xs) ∧ (∀ j, j < s.1 → s.2.tm ≤ (at_ xs (j : Int)).tm)) (fun s => xs.length - s.1) (1, at_ xs (0 : Int)) (show (1 ≤ (1 : Nat) ∧ (1 : Nat) ≤ xs.length) ∧ ((at_ xs (0 : Int) : Lk) ∈ xs) ∧ (∀ j, j < (1 : Nat) → (at_ xs (0 : Int) : Lk).tm ≤ (at_ xs (j : Int)).tm) from ⟨(by omega), (at_mem (by omega) (by omega)), (fun j hj => by rw [show j = 0 by omega]; exact Int.le_refl _)⟩) (Sub.cons rfl (Sub.cons rfl (Sub.cons rfl (Sub.cons rfl (Sub.cons lookO Sub.nil))))) (show Fit κ _ (blk b2 [I64 ((at_ xs (0 : Int)).u), I64 ((at_ xs (0 : Int)).v), I64 ((at_ xs (0 : Int)).w), I64 ((at_ xs (0 : Int)).lb), I64 ((at_ xs (0 : Int)).sg), I64 ((at_ xs (0 : Int)).tm)] 158 :: blk b1 [I64 (0), I64 (0), I64 (0), I64 (0), I64 (0), I64 (0)] 158 :: I) from Fit.sub) ?_
  rintro ⟨k, m⟩ hp
  obtain ⟨hk, hm, hn⟩ : (1 ≤ k ∧ k ≤ xs.length) ∧ (m ∈ xs) ∧ (∀ j, j < k → m.tm ≤ (at_ xs (j : Int)).tm) := hp
  show W Try.prog κ 33 _ _ ([(0, v), (1, .func (.func g) #[] cp_.toArray), (4, .pointer (some ⟨b1, 0, none⟩)), (5, .pointer (some ⟨b2, 0, none⟩)), (6, I64 (((k : Nat) : Int)))] : Env) (blk b2 [I64 (m.u), I64 (m.v), I64 (m.w), I64 (m.lb), I64 (m.sg), I64 (m.tm)] 158 :: blk b1 [I64 (0), I64 (0), I64 (0), I64 (0), I64 (0), I64 (0)] 158 :: I)
  refine W.seq ?_
  refine W.sr ?_
  refine G.r (Runs.move rfl) ?_
  refine G.r (Runs.move rfl) ?_
  refine G.r (Runs.lenT (α := Lk) (xs := xs) Try.underlying69 rfl (Sl.f hl)) ?_
  refine G.r (Runs.lss rfl rfl) ?_
  refine G.nt ?_
  refine W.ite rfl (fun c17 => ?_) (fun c17 => ?_)
  ·refine W.skip ?_
   refine V.then ?_
   refine W.seq ?_
   refine W.block ?_
   refine W.seq ?_
   refine W.drawn mixed ?_
   refine A.hold (blk b2 [I64 (m.u), I64 (m.v), I64 (m.w), I64 (m.lb), I64 (m.sg), I64 (m.tm)] 158 :: blk b1 [I64 (0), I64 (0), I64 (0), I64 (0), I64 (0), I64 (0)] 158 :: I) 8 ?_
   refine D.r 0 rfl (Runs.move rfl) ?_ (hJ := Fit.sub)
   refine D.r 1 rfl (Runs.move rfl) ?_ (hJ := Fit.sub)
   refine D.r 2 rfl (Runs.move rfl) ?_ (hJ := Fit.sub)
   refine D.r 3 rfl (Runs.idx (α := Lk) (xs := xs) Try.underlying69 ty158 rfl rfl (Sl.f hl) (by omega) (by omega)) ?_ (hJ := Fit.sub)
   refine D.r 4 rfl (Runs.gets (α := Lk) (xs := xs) ty158 rfl (Sl.f hl) (by omega) (by omega)) ?_ (hJ := Fit.sub)
   refine D.r 5 rfl (Runs.lds (vs := [_, _, _, _, _, _]) ty158) ?_ (hJ := Fit.sub)
   refine D.step (rs := [6]) (by kernel_rfl) rfl rfl (all1 ?_)
   refine Step.eff rfl (Wanted.plain rfl) (Eff.callv hcb.1 (first := []) (caps := cp_) rfl rfl rfl (hcb.2 (at_ xs ((k : Nat) : Int)) m _ Fit.m)) ?_
   rintro _ _ ⟨_, _, ⟨rfl, rfl⟩, rfl, rfl⟩
   refine ⟨Fit.sub, ?_⟩
   refine D.r 7 rfl (Runs.lss rfl rfl) ?_ (hJ := Fit.sub)
   refine D.done (by kernel_rfl) ?_
   refine V.then ?_
   refine W.sub (L' := [(27, _), (0, _), (1, _), (4, _), (5, _), (6, _)]) (Sub.cons rfl (Sub.cons rfl (Sub.cons rfl (Sub.cons rfl (Sub.cons rfl (Sub.cons rfl Sub.nil)))))) ?_
   refine W.ite rfl (fun c27 => ?_) (fun c27 => ?_)
   ·refine W.region ?_
    refine G.r (Runs.move rfl) ?_
    refine G.r (Runs.move rfl) ?_
    refine G.r (Runs.idx (α := Lk) (xs := xs) Try.underlying69 ty158 rfl rfl (Sl.f hl) (by omega) (by omega)) ?_
    refine G.r (Runs.gets (α := Lk) (xs := xs) ty158 rfl (Sl.f hl) (by omega) (by omega)) ?_
    refine G.e (Eff.st (cs := [_, _, _, _, _, _]) (vs := [_, _, _, _, _, _]) (cs' := [_, _, _, _, _, _]) ty158) ?_
    rintro _ _ ⟨rfl, rfl⟩
    refine G.nil ?_
    refine V.block_normal ?_
    refine V.then ?_
    refine W.region ?_
    refine G.r (Runs.move rfl) ?_
    refine G.r (Runs.add rfl rfl (by unfold InR; omega)) ?_
    refine G.r (Runs.assign rfl) ?_
    refine G.nil ?_
    exact V.next ((k + 1), (at_ xs ((k : Nat) : Int))) (show (1 ≤ (k + 1 : Nat) ∧ (k + 1 : Nat) ≤ xs.length) ∧ ((at_ xs ((k : Nat) : Int) : Lk) ∈ xs) ∧ (∀ j, j < (k + 1 : Nat) → (at_ xs ((k : Nat) : Int) : Lk).tm ≤ (at_ xs (j : Int)).tm) from ⟨(by omega), (by first | exact hm | exact at_mem (by omega) (by omega)), (all_succ (fun j hj => by have hnj := hn j hj; first | exact hnj | (have hlt := (tmC_lt _ _).1 c27; omega)) (by first | exact Int.le_refl _ | (have hge := mt (tmC_lt (at_ xs ((k : Nat) : Int)) m).2 c27; omega)))⟩) (show xs.length - (k + 1 : Nat) < xs.length - k from (by omega)) (Sub.cons rfl (Sub.cons rfl (Sub.cons rfl (Sub.cons rfl (Sub.cons lookO Sub.nil))))) (show Fit κ _ (blk b2 [I64 ((at_ xs ((k : Nat) : Int)).u), I64 ((at_ xs ((k : Nat) : Int)).v), I64 ((at_ xs ((k : Nat) : Int)).w), I64 ((at_ xs ((k : Nat) : Int)).lb), I64 ((at_ xs ((k : Nat) : Int)).sg), I64 ((at_ xs ((k : Nat) : Int)).tm)] 158 :: blk b1 [I64 (0), I64 (0), I64 (0), I64 (0), I64 (0), I64 (0)] 158 :: I) from Fit.sub)
   ·refine W.skip ?_
    refine V.block_normal ?_
    refine V.then ?_
    refine W.region ?_
    refine G.r (Runs.move rfl) ?_
    refine G.r (Runs.add rfl rfl (by unfold InR; omega)) ?_
    refine G.r (Runs.assign rfl) ?_
    refine G.nil ?_
    exact V.next ((k + 1), (m)) (show (1 ≤ (k + 1 : Nat) ∧ (k + 1 : Nat) ≤ xs.length) ∧ ((m : Lk) ∈ xs) ∧ (∀ j, j < (k + 1 : Nat) → (m : Lk).tm ≤ (at_ xs (j : Int)).tm) from ⟨(by omega), (by first | exact hm | exact at_mem (by omega) (by omega)), (all_succ (fun j hj => by have hnj := hn j hj; first | exact hnj | (have hlt := (tmC_lt _ _).1 c27; omega)) (by first | exact Int.le_refl _ | (have hge := mt (tmC_lt (at_ xs ((k : Nat) : Int)) m).2 c27; omega)))⟩) (show xs.length - (k + 1 : Nat) < xs.length - k from (by omega)) (Sub.cons rfl (Sub.cons rfl (Sub.cons rfl (Sub.cons rfl (Sub.cons lookO Sub.nil))))) (show Fit κ _ (blk b2 [I64 ((m).u), I64 ((m).v), I64 ((m).w), I64 ((m).lb), I64 ((m).sg), I64 ((m).tm)] 158 :: blk b1 [I64 (0), I64 (0), I64 (0), I64 (0), I64 (0), I64 (0)] 158 :: I) from Fit.sub)
  ·refine W.exit ?_
   refine V.then_exit ?_
   refine V.then_exit ?_
   refine V.block_hit ?_
   refine V.then ?_
   refine W.sr ?_
   refine G.r (Runs.lds (vs := [_, _, _, _, _, _]) ty158) ?_
   refine G.e (Eff.st (cs := [_, _, _, _, _, _]) (vs := [_, _, _, _, _, _]) (cs' := [_, _, _, _, _, _]) ty158) ?_
   rintro _ _ ⟨rfl, rfl⟩
   refine G.nt ?_
   refine W.ret ?_
   exact V.retc rfl ty158 rfl (by repeat (first | exact List.mem_cons_self | apply List.mem_cons_of_mem)) rfl (I) Fit.m ⟨m, rfl, ⟨hm, fun y hy => by obtain ⟨j, hj, rfl⟩ := mem_at hy; exact hn j (by omega)⟩, rfl⟩

end Go.Sl
namespace Go.Sl
open Go.Proofs
set_option linter.unusedVariables false
set_option linter.unusedSimpArgs false
set_option maxRecDepth 4000
end Go.Sl
namespace Go.Sl
open Go.Proofs
set_option linter.unusedVariables false
set_option linter.unusedSimpArgs false
set_option maxRecDepth 4000
theorem UntilP.none {nd : Int} {xs : List Lk} {kd wd mo : Int} (h : ¬ untilC nd xs kd wd mo) : UntilP nd xs kd wd mo 0 := ⟨fun hc => absurd hc h, fun _ => rfl⟩
theorem checkS_tm' {nd : Int} {xs : List Lk} (h : checkS nd xs = 0) : ∀ x ∈ xs, 0 ≤ x.tm ∧ x.tm ≤ 1048576 := fun x hx => badL_tm ((checkS_ok h).2.1 x hx)
theorem First_ok {κ : Ctx} {I : List Item} {nd wd : Int} {va : Value} {xs : List Lk} (hl : Sl κ I va xs) (hb : ∀ x ∈ xs, 0 ≤ x.tm ∧ x.tm ≤ 1048576) (hw : 0 ≤ wd ∧ wd ≤ 1048576) :
    CallS Try.prog κ 123 [.agg #[I64 (nd), va], I64 (wd)] I (fun r J => ∃ z : Int, r = .tuple #[I64 z, .bool (decide (0 < xs.length))] ∧ ((0 < xs.length → (∃ x ∈ xs, z = x.tm + wd) ∧ ∀ y ∈ xs, z ≤ y.tm + wd) ∧ (xs.length = 0 → z = 0)) ∧ I = J) := by
 refine CallS.pull hl.le fun hmax => ?_
 refine CallS.enter (L := [(0, .agg #[I64 (nd), va]), (1, I64 (wd))]) Try.func123 rfl rfl rfl rfl ?_
 refine W.sr ?_
 refine G.e (Eff.box (cs := [_, _]) rfl rfl rfl) ?_
 rintro _ _ ⟨b1, rfl, rfl⟩
 refine G.r (Runs.assign rfl) ?_
 refine G.r (Runs.assign rfl) ?_
 refine G.nt ?_
 refine W.seq ?_
 refine W.sr ?_
 refine G.r (Runs.fieldAddr fld71_1 rfl) ?_
 refine G.r (Runs.ld ty69) ?_
 refine G.r (Runs.lenT (α := Lk) (xs := xs) Try.underlying69 rfl (Sl.f hl)) ?_
 refine G.r (Runs.eql rfl rfl) ?_
 refine G.nt ?_
 refine W.ite rfl (fun c10 => ?_) (fun c10 => ?_)
 ·refine W.sr ?_
  refine G.r (Runs.assign rfl) ?_
  refine G.r (Runs.assign rfl) ?_
  refine G.nt ?_
  refine W.ret ?_
  refine V.then_ret ?_
  exact V.ret2 rfl rfl rfl (I) Fit.m ⟨0, by rw [decide_eq_false (by omega)], ⟨fun h => by omega, fun _ => rfl⟩, rfl⟩
 ·refine W.skip ?_
  refine V.then ?_
  refine W.sr ?_
  refine G.r (Runs.fieldAddr fld71_1 rfl) ?_
  refine G.r (Runs.ld ty69) ?_
  refine G.e (Eff.call call189 rfl rfl (MinF_ok (Sl.f hl) (by omega) FirstC_cmps)) ?_
  rintro _ _ ⟨_, _, ⟨xm2, rfl, hmxm2, rfl⟩, rfl, rfl⟩
  have hxb := hb _ hmxm2.1
  refine G.e (Eff.alloc ty158 rfl) ?_
  rintro _ _ ⟨b3, rfl, rfl⟩
  refine G.e (Eff.st (cs := [_, _, _, _, _, _]) (vs := [_, _, _, _, _, _]) (cs' := [_, _, _, _, _, _]) ty158) ?_
  rintro _ _ ⟨rfl, rfl⟩
  refine G.nt ?_
  refine W.sr ?_
  refine G.r (Runs.fieldAddr fld158_5 rfl) ?_
  refine G.r (Runs.ld ty3) ?_
  refine G.r (Runs.move rfl) ?_
  refine G.r (Runs.add rfl rfl (by unfold InR; omega)) ?_
  refine G.r (Runs.assign rfl) ?_
  refine G.r (Runs.assign rfl) ?_
  refine G.nt ?_
  refine W.sub (L' := [(5, _), (4, _)]) (Sub.cons rfl (Sub.cons rfl Sub.nil)) ?_
  refine W.ret ?_
  exact V.ret2 rfl rfl rfl (I) Fit.m ⟨_, by rw [decide_eq_true (by omega)], ⟨fun _ => ⟨⟨xm2, hmxm2.1, rfl⟩, fun y hy => by have := hmxm2.2 y hy; omega⟩, fun h => by omega⟩, rfl⟩

end Go.Sl
namespace Go.Sl
open Go.Proofs
set_option linter.unusedVariables false
set_option linter.unusedSimpArgs false
set_option maxRecDepth 4000
theorem aw7_ask : askE 2 [(⟨0, 1, 1, 0, 1, 5⟩ : Lk)] 2 3 0 7 = 0 := by decide +kernel
theorem aw8_ask : askE 2 [(⟨0, 1, 1, 0, 1, 5⟩ : Lk)] 2 3 0 8 = 0 := by decide +kernel
theorem aw_chk : checkW 2 3 0 = 0 := by decide +kernel
theorem aw7_len : (List.filter (inW 2 3 0 7 [(⟨0, 1, 1, 0, 1, 5⟩ : Lk)]) [(⟨0, 1, 1, 0, 1, 5⟩ : Lk)]).length = 1 := by decide +kernel
theorem aw8_len : (List.filter (inW 2 3 0 8 [(⟨0, 1, 1, 0, 1, 5⟩ : Lk)]) [(⟨0, 1, 1, 0, 1, 5⟩ : Lk)]).length = 0 := by decide +kernel

set_option maxHeartbeats 2000000 in
theorem Awake7_ok {κ : Ctx} {I : List Item}  :
    CallS Try.prog κ 49 [] I (fun r J => r = .bool true ∧ I = J) := by
 refine CallS.enter (L := []) Try.func49 rfl rfl rfl rfl ?_
 refine W.sr ?_
 refine G.r (Runs.assign rfl) ?_
 refine G.nt ?_
 refine W.sr ?_
 refine G.r (Runs.build (cells := [_, _, _, _, _, _]) ty158 Try.underlying158 pl158 rfl rfl) ?_
 refine G.e (Eff.bs (α := Lk) (cs := [I64 (0), I64 (1), I64 (1), I64 (0), I64 (1), I64 (5)]) (xs := [⟨0, 1, 1, 0, 1, 5⟩]) Try.underlying69 ty158 rfl rfl (by decide) (by decide) rfl (by kernel_rfl) rfl rfl) ?_
 rintro _ _ ⟨ad1, rfl, rfl⟩
 refine G.r (Runs.build (cells := [_, _]) ty71 Try.underlying71 pl71 rfl rfl) ?_
 refine G.e (Eff.alloc ty71 rfl) ?_
 rintro _ _ ⟨b2, rfl, rfl⟩
 refine G.e (Eff.st (cs := [_, _]) (vs := [_, _]) (cs' := [_, _]) ty71) ?_
 rintro _ _ ⟨rfl, rfl⟩
 refine G.nt ?_
 refine W.sr ?_
 refine G.r (Runs.build (cells := [_, _, _]) ty73 Try.underlying73 pl73 rfl rfl) ?_
 refine G.e (Eff.alloc ty73 rfl) ?_
 rintro _ _ ⟨b3, rfl, rfl⟩
 refine G.e (Eff.st (cs := [_, _, _]) (vs := [_, _, _]) (cs' := [_, _, _]) ty73) ?_
 rintro _ _ ⟨rfl, rfl⟩
 refine G.nt ?_
 refine W.sr ?_
 refine G.r (Runs.lds (vs := [_, _]) ty71) ?_
 refine G.r (Runs.lds (vs := [_, _, _]) ty73) ?_
 refine G.e (Eff.call call53 rfl rfl (PresentP_ok (nd := 2) (kd := 2) (wd := 3) (mo := 0) (nw := 7) (xs := ([⟨0, 1, 1, 0, 1, 5⟩] : List Lk)) Sl.o (by decide))) ?_
 rintro _ _ ⟨_, _, (⟨hnead4, rfl, rfl⟩ | ⟨ad4, cp5, hzad4, rfl, rfl⟩), rfl, rfl⟩
 ·exact absurd aw7_ask hnead4
 ·show G Try.prog κ _ _ _ _ ([(14, .tuple #[.agg #[I64 (2), .slice ad4 (List.filter (inW 2 3 0 7 ([⟨0, 1, 1, 0, 1, 5⟩] : List Lk)) ([⟨0, 1, 1, 0, 1, 5⟩] : List Lk)).length cp5], I64 (0)]), (13, .agg #[I64 (2), I64 (3), I64 (0)]), (12, .agg #[I64 (2), .slice ad1 1 1]), (2, .pointer (some ⟨b3, 0, none⟩)), (10, .agg #[I64 (2), I64 (3), I64 (0)]), (1, .pointer (some ⟨b2, 0, none⟩)), (9, .agg #[I64 (2), .slice ad1 1 1]), (8, .slice ad1 1 1), (7, .agg #[I64 (0), I64 (1), I64 (1), I64 (0), I64 (1), I64 (5)]), (0, .bool false)] : Env) (vc 158 (.slice ad4 (List.filter (inW 2 3 0 7 ([⟨0, 1, 1, 0, 1, 5⟩] : List Lk)) ([⟨0, 1, 1, 0, 1, 5⟩] : List Lk)).length cp5) (List.filter (inW 2 3 0 7 ([⟨0, 1, 1, 0, 1, 5⟩] : List Lk)) ([⟨0, 1, 1, 0, 1, 5⟩] : List Lk)) :: blk b3 [I64 (2), I64 (3), I64 (0)] 73 :: blk b2 [I64 (2), .slice ad1 1 1] 71 :: vc 158 (.slice ad1 1 1) (([⟨0, 1, 1, 0, 1, 5⟩] : List Lk)) :: I)
  refine G.r (Runs.move rfl) ?_
  refine G.r (Runs.extract rfl rfl) ?_
  refine G.r (Runs.extract rfl rfl) ?_
  refine G.e (Eff.alloc ty71 rfl) ?_
  rintro _ _ ⟨b6, rfl, rfl⟩
  refine G.e (Eff.st (cs := [_, _]) (vs := [_, _]) (cs' := [_, _]) ty71) ?_
  rintro _ _ ⟨rfl, rfl⟩
  refine G.r (Runs.assign rfl) ?_
  refine G.nt ?_
  refine W.sub (L' := [(4, _), (3, _), (2, _), (1, _)]) (Sub.cons rfl (Sub.cons rfl (Sub.cons rfl (Sub.cons rfl Sub.nil)))) ?_
  refine W.sr ?_
  refine G.r (Runs.lds (vs := [_, _]) ty71) ?_
  refine G.r (Runs.lds (vs := [_, _, _]) ty73) ?_
  refine G.e (Eff.call call53 rfl rfl (PresentP_ok (nd := 2) (kd := 2) (wd := 3) (mo := 0) (nw := 8) (xs := ([⟨0, 1, 1, 0, 1, 5⟩] : List Lk)) Sl.o (by decide))) ?_
  rintro _ _ ⟨_, _, (⟨hnead7, rfl, rfl⟩ | ⟨ad7, cp8, hzad7, rfl, rfl⟩), rfl, rfl⟩
  ·exact absurd aw8_ask hnead7
  ·show G Try.prog κ _ _ _ _ ([(20, .tuple #[.agg #[I64 (2), .slice ad7 (List.filter (inW 2 3 0 8 ([⟨0, 1, 1, 0, 1, 5⟩] : List Lk)) ([⟨0, 1, 1, 0, 1, 5⟩] : List Lk)).length cp8], I64 (0)]), (19, .agg #[I64 (2), I64 (3), I64 (0)]), (18, .agg #[I64 (2), .slice ad1 1 1]), (4, I64 (0)), (3, .pointer (some ⟨b6, 0, none⟩)), (2, .pointer (some ⟨b3, 0, none⟩)), (1, .pointer (some ⟨b2, 0, none⟩))] : Env) (vc 158 (.slice ad7 (List.filter (inW 2 3 0 8 ([⟨0, 1, 1, 0, 1, 5⟩] : List Lk)) ([⟨0, 1, 1, 0, 1, 5⟩] : List Lk)).length cp8) (List.filter (inW 2 3 0 8 ([⟨0, 1, 1, 0, 1, 5⟩] : List Lk)) ([⟨0, 1, 1, 0, 1, 5⟩] : List Lk)) :: blk b6 [I64 (2), .slice ad4 (List.filter (inW 2 3 0 7 ([⟨0, 1, 1, 0, 1, 5⟩] : List Lk)) ([⟨0, 1, 1, 0, 1, 5⟩] : List Lk)).length cp5] 71 :: vc 158 (.slice ad4 (List.filter (inW 2 3 0 7 ([⟨0, 1, 1, 0, 1, 5⟩] : List Lk)) ([⟨0, 1, 1, 0, 1, 5⟩] : List Lk)).length cp5) (List.filter (inW 2 3 0 7 ([⟨0, 1, 1, 0, 1, 5⟩] : List Lk)) ([⟨0, 1, 1, 0, 1, 5⟩] : List Lk)) :: blk b3 [I64 (2), I64 (3), I64 (0)] 73 :: blk b2 [I64 (2), .slice ad1 1 1] 71 :: vc 158 (.slice ad1 1 1) (([⟨0, 1, 1, 0, 1, 5⟩] : List Lk)) :: I)
   refine G.r (Runs.move rfl) ?_
   refine G.r (Runs.extract rfl rfl) ?_
   refine G.r (Runs.extract rfl rfl) ?_
   refine G.e (Eff.alloc ty71 rfl) ?_
   rintro _ _ ⟨b9, rfl, rfl⟩
   refine G.e (Eff.st (cs := [_, _]) (vs := [_, _]) (cs' := [_, _]) ty71) ?_
   rintro _ _ ⟨rfl, rfl⟩
   refine G.r (Runs.assign rfl) ?_
   refine G.nt ?_
   refine W.sr ?_
   refine G.r (Runs.move rfl) ?_
   refine G.r (Runs.eql rfl rfl) ?_
   refine G.r (Runs.move rfl) ?_
   refine G.split (d := 25) rfl (fun g25 => ?_) (fun g25 => ?_)
   ·refine G.ro (Runs.move rfl) ?_
    refine G.ro (Runs.eql rfl rfl) ?_
    refine G.r (Runs.pickt rfl rfl) ?_
    refine G.r (Runs.move rfl) ?_
    refine G.split (d := 29) rfl (fun g29 => ?_) (fun g29 => ?_)
    ·refine G.ro (Runs.fieldAddr fld71_1 rfl) ?_
     refine G.ro (Runs.ld ty69) ?_
     refine G.ro (Runs.lens Try.underlying69 rfl) ?_
     refine G.ro (Runs.eql rfl rfl) ?_
     refine G.r (Runs.pickt rfl rfl) ?_
     refine G.r (Runs.move rfl) ?_
     refine G.split (d := 35) rfl (fun g35 => ?_) (fun g35 => ?_)
     ·refine G.ro (Runs.fieldAddr fld71_1 rfl) ?_
      refine G.ro (Runs.ld ty69) ?_
      refine G.ro (Runs.lens Try.underlying69 rfl) ?_
      refine G.ro (Runs.eql rfl rfl) ?_
      refine G.r (Runs.pickt rfl rfl) ?_
      refine G.r (Runs.move rfl) ?_
      refine G.split (d := 41) rfl (fun g41 => ?_) (fun g41 => ?_)
      ·refine G.ro (Runs.lds (vs := [_, _, _]) ty73) ?_
       refine G.eff (Wanted.on rfl rfl rfl) (Eff.call call61 rfl rfl (CheckW_ok 2 3 0)) ?_
       rintro _ _ ⟨_, _, ⟨rfl, rfl⟩, rfl, rfl⟩
       refine G.ro (Runs.eql rfl rfl) ?_
       refine G.r (Runs.pickt rfl rfl) ?_
       refine G.r (Runs.assign rfl) ?_
       refine G.nt ?_
       refine W.sub (L' := [(0, _)]) (Sub.cons rfl Sub.nil) ?_
       refine W.ret ?_
       exact V.ret1 rfl rfl (I) Fit.m ⟨by rw [decide_eq_true (show checkW 2 3 0 = 0 from aw_chk)], rfl⟩
      ·exact absurd (congrArg (fun n : Nat => (n : Int)) aw8_len) g41
     ·exact absurd (congrArg (fun n : Nat => (n : Int)) aw7_len) g35
    ·exact absurd rfl g29
   ·exact absurd rfl g25

end Go.Sl
namespace Go.Sl
open Go.Proofs
set_option linter.unusedVariables false
set_option linter.unusedSimpArgs false
set_option maxRecDepth 4000
end Go.Sl
namespace Go.Sl
open Go.Proofs
set_option linter.unusedVariables false
set_option linter.unusedSimpArgs false
set_option maxRecDepth 4000
structure StV where
  n : Int
  a : Option Addr
  c : Nat
  xs : List Lk
instance : Inhabited StV := ⟨⟨0, none, 0, []⟩⟩
instance : Enc StV := ⟨fun r => [I64 r.n, .slice r.a r.xs.length r.c], 2, by omega, fun _ => rfl, fun r u hu => by
  simp only [List.mem_cons, List.not_mem_nil, or_false] at hu
  rcases hu with rfl | rfl <;> rfl⟩
def StV.Held (κ : Ctx) (I : List Item) (r : StV) : Prop := Sl κ I (.slice r.a r.xs.length r.c) r.xs ∧ r.xs.length ≤ 1000000
def HeldSts (κ : Ctx) (I : List Item) (rs : List StV) : Prop := ∀ r ∈ rs, StV.Held κ I r
theorem HeldSts.nil {κ : Ctx} {I : List Item} : HeldSts κ I [] := fun r hr => by cases hr
theorem HeldSts.cons {κ : Ctx} {I : List Item} {r : StV} {rs : List StV} (hr : StV.Held κ I r) (h : HeldSts κ I rs) : HeldSts κ I (r :: rs) := fun x hx => by
  rcases List.mem_cons.1 hx with rfl | hx
  · exact hr
  · exact h x hx
theorem HeldSts.at {κ : Ctx} {I : List Item} {rs : List StV} (h : HeldSts κ I rs) {i : Int} (h0 : 0 ≤ i) (hn : i < rs.length) : Sl κ I (.slice (at_ rs i).a (at_ rs i).xs.length (at_ rs i).c) (at_ rs i).xs := (h _ (at_mem h0 hn)).1
theorem HeldSts.len {κ : Ctx} {I : List Item} {rs : List StV} (h : HeldSts κ I rs) {i : Int} (h0 : 0 ≤ i) (hn : i < rs.length) : (at_ rs i).xs.length ≤ 1000000 := (h _ (at_mem h0 hn)).2
theorem HeldSts.fit {κ : Ctx} {I J : List Item} {rs : List StV} (h : HeldSts κ I rs) (hf : Fit κ J I) : HeldSts κ J rs := fun r hr => ⟨Sl.fit (h r hr).1 hf, (h r hr).2⟩
structure Wn where
  kd : Int
  wd : Int
  mo : Int
deriving DecidableEq, Inhabited
instance : Enc Wn := ⟨fun x => [I64 x.kd, I64 x.wd, I64 x.mo], 3, by omega, fun _ => rfl, fun x u h => by
  simp only [List.mem_cons, List.not_mem_nil, or_false] at h
  rcases h with rfl | rfl | rfl <;> rfl⟩
end Go.Sl
