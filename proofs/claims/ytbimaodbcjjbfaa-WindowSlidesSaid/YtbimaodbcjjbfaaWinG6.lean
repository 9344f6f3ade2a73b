/- A part of the proofs of statements of this seat: contracts of functions, and the plain laws that they lean on. No conditions. -/
import Derived.Test.YtbimaodbcjjbfaaWinF6
import Derived.Test.YtbimaodbcjjbfaaWinC5
import Derived.Test.YtbimaodbcjjbfaaWinE6
import Derived.Test.YtbimaodbcjjbfaaWinD6
namespace Go.Sl
open Go.Proofs
set_option linter.unusedVariables false
set_option linter.unusedSimpArgs false
set_option maxRecDepth 4000
theorem agedL_step {kd wd mo T z : Int} {ys : List Lk} {zs : List Ev} (hk : kd = 2) (h : 0 < ys.length ∧ minT ys + wd ≤ T) (hz : z = minT ys + wd) : agedL kd wd mo T (ys, zs) = agedL kd wd mo T (ys.filter (inW kd wd mo z ys), zs ++ goneL kd wd mo z ys) := by
  subst hk hz
  unfold agedL
  rw [if_pos rfl, if_pos rfl]
  exact ageL_step h
theorem agedL_stop {kd wd mo T : Int} {ys : List Lk} {zs : List Ev} (h : kd = 2 → ¬ (0 < ys.length ∧ minT ys + wd ≤ T)) : agedL kd wd mo T (ys, zs) = (ys, zs) := by
  unfold agedL
  by_cases hk : kd = 2
  · rw [if_pos hk]; exact ageL_stop (h hk)
  · rw [if_neg hk]
theorem aged_less {kd wd mo z : Int} {ys : List Lk} (hk : kd = 2) (h : 0 < ys.length) (hz : z = minT ys + wd) : (ys.filter (inW kd wd mo z ys)).length < ys.length := by
  subst hk hz
  exact age_less (wd := wd) (mo := mo) h
theorem streamE_zero {nd : Int} {es : List Ev} (h1 : ¬ (nd < 0 ∨ 64 < nd)) (h2 : ¬ 65536 < es.length) : streamE nd es = streamS nd 0 es := by unfold streamE; rw [if_neg h1, if_neg h2]
theorem fitE_of {nd : Int} {e : Ev} (h1 : ¬ checkE e ≠ 0) (h2 : ¬ (nd ≤ e.u ∨ nd ≤ e.v)) : fitE nd e = 0 := by unfold fitE; rw [if_neg h1, if_neg h2]
theorem fitE_six {nd : Int} {e : Ev} (h1 : ¬ checkE e ≠ 0) (h2 : nd ≤ e.u ∨ nd ≤ e.v) : fitE nd e = 6 := by unfold fitE; rw [if_neg h1, if_pos h2]
theorem fitE_bad {nd : Int} {e : Ev} (h1 : checkE e ≠ 0) : fitE nd e = checkE e := by unfold fitE; rw [if_pos h1]
theorem ref_to {nd : Int} {es : List Ev} {k : Nat} (hf : FitOk nd (at_ es (k : Int))) (h : 0 < k → ¬ (at_ es (k : Int)).tm < (at_ es ((k : Int) - 1)).tm) : lastT es k ≤ (at_ es (k : Int)).tm := by
  unfold lastT
  split
  · exact hf.tm.1
  · have := h (by omega); omega
theorem lastT_pos {es : List Ev} {k : Nat} (h : 0 < k) : lastT es k = (at_ es ((k : Int) - 1)).tm := by unfold lastT; rw [if_neg (by omega)]

set_option maxHeartbeats 4000000 in
theorem Slide7_ok {κ : Ctx} {I : List Item} {nd kd wd mo : Int} {va : Value} {es : List Ev} (hl : Sl κ I va es) :
    CallS Try.prog κ 86 [I64 (nd), va, .agg #[I64 (kd), I64 (wd), I64 (mo)]] I (fun r J => ((slideE nd kd wd mo es) ≠ 0 ∧ r = .tuple #[.slice none 0 0, I64 (slideE nd kd wd mo es)] ∧ I = J) ∨ (∃ a c, (slideE nd kd wd mo es) = 0 ∧ r = .tuple #[.slice a (slideS kd wd mo es).2.length c, I64 0] ∧ J = vc 122 (.slice a (slideS kd wd mo es).2.length c) (slideS kd wd mo es).2 :: I)) := by
 refine CallS.pull hl.le fun hmax => ?_
 refine CallS.enter (L := [(0, I64 (nd)), (1, va), (2, .agg #[I64 (kd), I64 (wd), I64 (mo)])]) Try.func86 rfl rfl rfl rfl ?_
 refine W.sr ?_
 refine G.e (Eff.box (cs := [_, _, _]) rfl rfl rfl) ?_
 rintro _ _ ⟨b1, rfl, rfl⟩
 refine G.r (Runs.assign rfl) ?_
 refine G.r (Runs.assign rfl) ?_
 refine G.nt ?_
 refine W.seq ?_
 refine W.sr ?_
 refine G.r (Runs.lds (vs := [_, _, _]) ty73) ?_
 refine G.e (Eff.call call62 rfl rfl (CheckW7_ok kd wd mo)) ?_
 rintro _ _ ⟨_, _, ⟨rfl, rfl⟩, rfl, rfl⟩
 refine G.r (Runs.assign rfl) ?_
 refine G.nt ?_
 refine W.sr ?_
 refine G.r (Runs.move rfl) ?_
 refine G.r (Runs.neq rfl rfl) ?_
 refine G.nt ?_
 refine W.ite rfl (fun c24 => ?_) (fun c24 => ?_)
 ·refine W.sr ?_
  refine G.r (Runs.move rfl) ?_
  refine G.r (Runs.assign rfl) ?_
  refine G.r (Runs.assign rfl) ?_
  refine G.nt ?_
  refine W.sub (L' := [(7, _), (6, _)]) (Sub.cons rfl (Sub.cons rfl Sub.nil)) ?_
  refine W.ret ?_
  refine V.then_ret ?_
  have hz : (slideE nd kd wd mo es) = checkW kd wd mo := by unfold slideE; rw [if_pos c24]
  exact V.ret2 rfl rfl rfl (I) Fit.m (.inl ⟨by rw [hz]; exact c24, by rw [hz], rfl⟩)
 ·refine W.skip ?_
  refine V.then ?_
  refine W.seq ?_
  refine W.sr ?_
  refine G.r (Runs.move rfl) ?_
  refine G.r (Runs.lss rfl rfl) ?_
  refine G.r (Runs.move rfl) ?_
  refine G.split (d := 28) rfl (fun g28 => ?_) (fun g28 => ?_)
  ·refine G.po ?_
   refine G.po ?_
   refine G.r (Runs.pickt rfl rfl) ?_
   refine G.nt ?_
   refine W.sub (L' := [(31, _), (5, _), (0, _), (1, _)]) (Sub.cons rfl (Sub.cons rfl (Sub.cons rfl (Sub.cons rfl Sub.nil)))) ?_
   refine W.yes rfl ?_
   refine W.sr ?_
   refine G.r (Runs.assign rfl) ?_
   refine G.r (Runs.assign rfl) ?_
   refine G.nt ?_
   refine W.ret ?_
   refine V.then_ret ?_
   have hz : (slideE nd kd wd mo es) = 1 := (slideE_st c24).trans (by unfold streamE; rw [if_pos (by omega)])
   exact V.ret2 rfl rfl rfl (I) Fit.m (.inl ⟨by rw [hz]; decide, by rw [hz], rfl⟩)
  ·refine G.ro (Runs.move rfl) ?_
   refine G.ro (Runs.gtr rfl rfl) ?_
   refine G.r (Runs.pickf rfl rfl) ?_
   refine G.nt ?_
   refine W.sub (L' := [(31, _), (5, _), (0, _), (1, _)]) (Sub.cons rfl (Sub.cons rfl (Sub.cons rfl (Sub.cons rfl Sub.nil)))) ?_
   refine W.ite rfl (fun c31 => ?_) (fun c31 => ?_)
   ·refine W.sr ?_
    refine G.r (Runs.assign rfl) ?_
    refine G.r (Runs.assign rfl) ?_
    refine G.nt ?_
    refine W.ret ?_
    refine V.then_ret ?_
    have hz : (slideE nd kd wd mo es) = 1 := (slideE_st c24).trans (by unfold streamE; rw [if_pos (by omega)])
    exact V.ret2 rfl rfl rfl (I) Fit.m (.inl ⟨by rw [hz]; decide, by rw [hz], rfl⟩)
   ·refine W.skip ?_
    refine V.then ?_
    refine W.seq ?_
    refine W.sr ?_
    refine G.r (Runs.move rfl) ?_
    refine G.r (Runs.lenT (α := Ev) (xs := es) Try.underlying81 rfl (Sl.f hl)) ?_
    refine G.r (Runs.gtr rfl rfl) ?_
    refine G.nt ?_
    refine W.ite rfl (fun c34 => ?_) (fun c34 => ?_)
    ·refine W.sr ?_
     refine G.r (Runs.assign rfl) ?_
     refine G.r (Runs.assign rfl) ?_
     refine G.nt ?_
     refine W.ret ?_
     refine V.then_ret ?_
     have hz : (slideE nd kd wd mo es) = 3 := (slideE_st c24).trans (by unfold streamE; rw [if_neg (by omega), if_pos (by omega)])
     exact V.ret2 rfl rfl rfl (I) Fit.m (.inl ⟨by rw [hz]; decide, by rw [hz], rfl⟩)
    ·refine W.skip ?_
     refine V.then ?_
     refine W.sr ?_
     refine G.r (Runs.move rfl) ?_
     refine G.r (Runs.build (cells := [_, _]) ty71 Try.underlying71 pl71 rfl rfl) ?_
     refine G.e (Eff.alloc ty71 rfl) ?_
     rintro _ _ ⟨b2, rfl, rfl⟩
     refine G.e (Eff.st (cs := [_, _]) (vs := [_, _]) (cs' := [_, _]) ty71) ?_
     rintro _ _ ⟨rfl, rfl⟩
     refine G.nt ?_
     refine W.sr ?_
     refine G.r (Runs.assign rfl) ?_
     refine G.nt ?_
     refine W.seq ?_
     refine W.sr ?_
     refine G.r (Runs.move rfl) ?_
     refine G.r (Runs.lenT (α := Ev) (xs := es) Try.underlying81 rfl (Sl.f hl)) ?_
     refine G.r (Runs.move rfl) ?_
     refine G.nt ?_
     refine W.sub (L' := [(39, _), (38, _), (37, _), (10, _), (9, _), (5, _), (0, _), (1, _)]) (Sub.cons rfl (Sub.cons rfl (Sub.cons rfl (Sub.cons rfl (Sub.cons rfl (Sub.cons rfl (Sub.cons rfl (Sub.cons rfl Sub.nil)))))))) ?_
     refine W.block ?_
     refine W.loop (σ := Nat × (Option Addr) × Nat × (Option Addr) × Nat × (List Lk) × (List Ev)) (fun s => ([(0, I64 (nd)), (1, va), (5, .pointer (some ⟨b1, 0, none⟩)), (9, .pointer (some ⟨b2, 0, none⟩)), (10, .slice s.2.2.2.1 s.2.2.2.2.2.2.length s.2.2.2.2.1), (37, va), (38, I64 (((es.length : Nat) : Int))), (39, I64 (((s.1 : Nat) : Int)))] : Env)) (fun s => blk b2 [I64 (nd), .slice s.2.1 s.2.2.2.2.2.1.length s.2.2.1] 71 :: vc 158 (.slice s.2.1 s.2.2.2.2.2.1.length s.2.2.1) (s.2.2.2.2.2.1) :: vc 122 (.slice s.2.2.2.1 s.2.2.2.2.2.2.length s.2.2.2.2.1) (s.2.2.2.2.2.2) :: blk b1 [I64 (kd), I64 (wd), I64 (mo)] 73 :: I) (fun s => (s.1 ≤ es.length) ∧ (slideS kd wd mo (List.take s.1 es) = (s.2.2.2.2.2.1, s.2.2.2.2.2.2)) ∧ (SlI nd kd wd (lastT es s.1) s.2.2.2.2.2.1) ∧ (s.2.2.2.2.2.1.length + s.2.2.2.2.2.2.length ≤ 2 * s.1) ∧ (streamE nd es = streamS nd (lastT es s.1) (es.drop s.1)) ∧ (0 ≤ lastT es s.1)) (fun s => es.length - s.1) (0, none, 0, none, 0, [], []) (show ((0 : Nat) ≤ es.length) ∧ (slideS kd wd mo (List.take (0 : Nat) es) = (([] : List Lk), ([] : List Ev))) ∧ (SlI nd kd wd (lastT es (0 : Nat)) ([] : List Lk)) ∧ (([] : List Lk).length + ([] : List Ev).length ≤ 2 * (0 : Nat)) ∧ (streamE nd es = streamS nd (lastT es (0 : Nat)) (es.drop (0 : Nat))) ∧ (0 ≤ lastT es (0 : Nat)) from ⟨(by omega), rfl, (SlI.nil (by omega)), (by simp), (streamE_zero (by omega) (by omega)), (Int.le_refl _)⟩) (Sub.cons rfl (Sub.cons rfl (Sub.cons rfl (Sub.cons rfl (Sub.cons (lookV rfl (by first | rfl | simp)) (Sub.cons rfl (Sub.cons rfl (Sub.cons lookO Sub.nil)))))))) (show Fit κ _ (blk b2 [I64 (nd), .slice (none) ([]).length (0)] 71 :: vc 158 (.slice (none) ([]).length (0)) (([])) :: vc 122 (.slice (none) ([]).length (0)) (([])) :: blk b1 [I64 (kd), I64 (wd), I64 (mo)] 73 :: I) from (Fit.trans (Fit.nilvc 122 _) (Fit.trans (Fit.nilvc 158 _) Fit.s))) ?_
     rintro ⟨k, a1, c1, o1, d1, xs, out⟩ hp
     obtain ⟨hk, hst, hI, hs, hs0, hl0⟩ : (k ≤ es.length) ∧ (slideS kd wd mo (List.take k es) = (xs, out)) ∧ (SlI nd kd wd (lastT es k) xs) ∧ (xs.length + out.length ≤ 2 * k) ∧ (streamE nd es = streamS nd (lastT es k) (es.drop k)) ∧ (0 ≤ lastT es k) := hp
     show W Try.prog κ 138 _ _ ([(0, I64 (nd)), (1, va), (5, .pointer (some ⟨b1, 0, none⟩)), (9, .pointer (some ⟨b2, 0, none⟩)), (10, .slice o1 out.length d1), (37, va), (38, I64 (((es.length : Nat) : Int))), (39, I64 (((k : Nat) : Int)))] : Env) (blk b2 [I64 (nd), .slice a1 xs.length c1] 71 :: vc 158 (.slice a1 xs.length c1) (xs) :: vc 122 (.slice o1 out.length d1) (out) :: blk b1 [I64 (kd), I64 (wd), I64 (mo)] 73 :: I)
     refine W.sr ?_
     refine G.r (Runs.lss rfl rfl) ?_
     refine G.nt ?_
     refine W.seq ?_
     refine W.ite rfl (fun c40 => ?_) (fun c40 => ?_)
     ·refine W.skip ?_
      refine V.then ?_
      refine W.seq ?_
      refine W.block ?_
      refine W.sr ?_
      refine G.r (Runs.move rfl) ?_
      refine G.r (Runs.idx (α := Ev) (xs := es) Try.underlying81 ty122 rfl rfl (Sl.f hl) (by omega) (by omega)) ?_
      refine G.r (Runs.gets (α := Ev) (xs := es) ty122 rfl (Sl.f hl) (by omega) (by omega)) ?_
      refine G.e (Eff.alloc ty122 rfl) ?_
      rintro _ _ ⟨b3, rfl, rfl⟩
      refine G.r (Runs.assign rfl) ?_
      refine G.e (Eff.st (cs := [_, _, _, _, _, _, _]) (vs := [_, _, _, _, _, _, _]) (cs' := [_, _, _, _, _, _, _]) ty122) ?_
      rintro _ _ ⟨rfl, rfl⟩
      refine G.nt ?_
      refine W.sub (L' := [(11, _), (12, _), (0, _), (1, _), (5, _), (9, _), (10, _), (37, _), (38, _), (39, _)]) (Sub.cons rfl (Sub.cons rfl (Sub.cons rfl (Sub.cons rfl (Sub.cons rfl (Sub.cons rfl (Sub.cons rfl (Sub.cons rfl (Sub.cons rfl (Sub.cons rfl Sub.nil)))))))))) ?_
      refine W.seq ?_
      refine W.sr ?_
      refine G.r (Runs.lds (vs := [_, _, _, _, _, _, _]) ty122) ?_
      refine G.e (Eff.call call157 rfl rfl (CheckE4_ok (at_ es ((k : Nat) : Int)))) ?_
      rintro _ _ ⟨_, _, ⟨rfl, rfl⟩, rfl, rfl⟩
      refine G.r (Runs.assign rfl) ?_
      refine G.nt ?_
      refine W.sr ?_
      refine G.r (Runs.move rfl) ?_
      refine G.r (Runs.neq rfl rfl) ?_
      refine G.nt ?_
      refine W.sub (L' := [(47, _), (13, _), (11, _), (12, _), (0, _), (1, _), (5, _), (9, _), (10, _), (37, _), (38, _), (39, _)]) (Sub.cons rfl (Sub.cons rfl (Sub.cons rfl (Sub.cons rfl (Sub.cons rfl (Sub.cons rfl (Sub.cons rfl (Sub.cons rfl (Sub.cons rfl (Sub.cons rfl (Sub.cons rfl (Sub.cons rfl Sub.nil)))))))))))) ?_
      refine W.ite rfl (fun c47 => ?_) (fun c47 => ?_)
      ·refine W.sr ?_
       refine G.r (Runs.move rfl) ?_
       refine G.r (Runs.assign rfl) ?_
       refine G.r (Runs.assign rfl) ?_
       refine G.nt ?_
       refine W.sub (L' := [(7, _), (6, _)]) (Sub.cons rfl (Sub.cons rfl Sub.nil)) ?_
       refine W.ret ?_
       refine V.then_ret ?_
       refine V.block_ret ?_
       refine V.then_ret ?_
       refine V.then_ret ?_
       refine V.block_ret ?_
       refine V.then_ret ?_
       have hz : (slideE nd kd wd mo es) = checkE (at_ es ((k : Nat) : Int)) := (slideE_st c24).trans (hs0.trans ((streamS_bad (by omega) (by rw [fitE_bad c47]; exact c47)).trans (fitE_bad c47)))
       exact V.ret2 rfl rfl rfl (I) Fit.m (.inl ⟨by rw [hz]; exact c47, by rw [hz], rfl⟩)
      ·refine W.skip ?_
       refine V.then ?_
       refine W.seq ?_
       refine W.sr ?_
       refine G.r (Runs.fieldAddr fld122_2 rfl) ?_
       refine G.r (Runs.ld ty3) ?_
       refine G.r (Runs.move rfl) ?_
       refine G.r (Runs.geq rfl rfl) ?_
       refine G.r (Runs.move rfl) ?_
       refine G.split (d := 53) rfl (fun g53 => ?_) (fun g53 => ?_)
       ·refine G.po ?_
        refine G.po ?_
        refine G.po ?_
        refine G.po ?_
        refine G.r (Runs.pickt rfl rfl) ?_
        refine G.nt ?_
        refine W.sub (L' := [(58, _), (11, _), (12, _), (0, _), (1, _), (5, _), (9, _), (10, _), (37, _), (38, _), (39, _)]) (Sub.cons rfl (Sub.cons rfl (Sub.cons rfl (Sub.cons rfl (Sub.cons rfl (Sub.cons rfl (Sub.cons rfl (Sub.cons rfl (Sub.cons rfl (Sub.cons rfl (Sub.cons rfl Sub.nil))))))))))) ?_
        refine W.yes rfl ?_
        refine W.sr ?_
        refine G.r (Runs.assign rfl) ?_
        refine G.r (Runs.assign rfl) ?_
        refine G.nt ?_
        refine W.ret ?_
        refine V.then_ret ?_
        refine V.block_ret ?_
        refine V.then_ret ?_
        refine V.then_ret ?_
        refine V.block_ret ?_
        refine V.then_ret ?_
        have hz : (slideE nd kd wd mo es) = 6 := (slideE_st c24).trans (hs0.trans ((streamS_bad (by omega) (by rw [fitE_six c47 (by omega)]; decide)).trans (fitE_six c47 (by omega))))
        exact V.ret2 rfl rfl rfl (I) Fit.m (.inl ⟨by rw [hz]; decide, by rw [hz], rfl⟩)
       ·refine G.ro (Runs.fieldAddr fld122_3 rfl) ?_
        refine G.ro (Runs.ld ty3) ?_
        refine G.ro (Runs.move rfl) ?_
        refine G.ro (Runs.geq rfl rfl) ?_
        refine G.r (Runs.pickf rfl rfl) ?_
        refine G.nt ?_
        refine W.sub (L' := [(58, _), (11, _), (12, _), (0, _), (1, _), (5, _), (9, _), (10, _), (37, _), (38, _), (39, _)]) (Sub.cons rfl (Sub.cons rfl (Sub.cons rfl (Sub.cons rfl (Sub.cons rfl (Sub.cons rfl (Sub.cons rfl (Sub.cons rfl (Sub.cons rfl (Sub.cons rfl (Sub.cons rfl Sub.nil))))))))))) ?_
        refine W.ite rfl (fun c58 => ?_) (fun c58 => ?_)
        ·refine W.sr ?_
         refine G.r (Runs.assign rfl) ?_
         refine G.r (Runs.assign rfl) ?_
         refine G.nt ?_
         refine W.ret ?_
         refine V.then_ret ?_
         refine V.block_ret ?_
         refine V.then_ret ?_
         refine V.then_ret ?_
         refine V.block_ret ?_
         refine V.then_ret ?_
         have hz : (slideE nd kd wd mo es) = 6 := (slideE_st c24).trans (hs0.trans ((streamS_bad (by omega) (by rw [fitE_six c47 (by omega)]; decide)).trans (fitE_six c47 (by omega))))
         exact V.ret2 rfl rfl rfl (I) Fit.m (.inl ⟨by rw [hz]; decide, by rw [hz], rfl⟩)
        ·refine W.skip ?_
         refine V.then ?_
         refine W.cut (σ := Nat) (fun s => ([(0, I64 (nd)), (1, va), (5, .pointer (some ⟨b1, 0, none⟩)), (9, .pointer (some ⟨b2, 0, none⟩)), (10, .slice o1 out.length d1), (12, .pointer (some ⟨b3, 0, none⟩)), (37, va), (38, I64 (((es.length : Nat) : Int))), (39, I64 (((k : Nat) : Int)))] : Env)) (fun s => blk b3 [I64 ((at_ es ((k : Nat) : Int)).kd), I64 ((at_ es ((k : Nat) : Int)).tm), I64 ((at_ es ((k : Nat) : Int)).u), I64 ((at_ es ((k : Nat) : Int)).v), I64 ((at_ es ((k : Nat) : Int)).w), I64 ((at_ es ((k : Nat) : Int)).lb), I64 ((at_ es ((k : Nat) : Int)).sg)] 122 :: blk b2 [I64 (nd), .slice a1 xs.length c1] 71 :: vc 158 (.slice a1 xs.length c1) (xs) :: vc 122 (.slice o1 out.length d1) (out) :: blk b1 [I64 (kd), I64 (wd), I64 (mo)] 73 :: I) (fun s => (lastT es k ≤ (at_ es ((k : Nat) : Int)).tm) ∧ (FitOk nd (at_ es ((k : Nat) : Int)))) ?_ ?_
         ·refine W.seq ?_
          refine W.drawn mixed ?_
          refine A.hold (blk b3 [I64 ((at_ es ((k : Nat) : Int)).kd), I64 ((at_ es ((k : Nat) : Int)).tm), I64 ((at_ es ((k : Nat) : Int)).u), I64 ((at_ es ((k : Nat) : Int)).v), I64 ((at_ es ((k : Nat) : Int)).w), I64 ((at_ es ((k : Nat) : Int)).lb), I64 ((at_ es ((k : Nat) : Int)).sg)] 122 :: blk b2 [I64 (nd), .slice a1 xs.length c1] 71 :: vc 158 (.slice a1 xs.length c1) (xs) :: vc 122 (.slice o1 out.length d1) (out) :: blk b1 [I64 (kd), I64 (wd), I64 (mo)] 73 :: I) 13 ?_
          refine D.r 0 rfl (Runs.move rfl) ?_ (hJ := Fit.sub)
          refine D.r 1 rfl (Runs.gtr rfl rfl) ?_ (hJ := Fit.sub)
          refine D.r 2 rfl (Runs.move rfl) ?_ (hJ := Fit.sub)
          refine D.split (d := 61) rfl (fun g61 => ?_) (fun g61 => ?_)
          ·refine D.read 3 rfl (by kernel_rfl) (by kernel_rfl) (by kernel_rfl) rfl (by kernel_rfl) (fun _ _ _ _ h => h) (Wanted.on rfl rfl rfl) rfl rfl Fit.sub (Runs.move rfl) ?_
           refine D.read 4 rfl (by kernel_rfl) (by kernel_rfl) (by kernel_rfl) rfl (by kernel_rfl) (fun _ _ _ _ h => h) (Wanted.on rfl rfl rfl) rfl rfl Fit.sub (Runs.move rfl) ?_
           refine D.read 5 rfl (by kernel_rfl) (by kernel_rfl) (by kernel_rfl) rfl (by kernel_rfl) (fun _ _ _ _ h => h) (Wanted.on rfl rfl rfl) rfl rfl Fit.sub (Runs.sub rfl rfl (by unfold InR; omega)) ?_
           refine D.read 6 rfl (by kernel_rfl) (by kernel_rfl) (by kernel_rfl) rfl (by kernel_rfl) (fun _ _ _ _ h => h) (Wanted.on rfl rfl rfl) rfl rfl Fit.sub (Runs.idx (α := Ev) (xs := es) Try.underlying81 ty122 rfl rfl (Sl.f hl) (by omega) (by omega)) ?_
           refine D.read 7 rfl (by kernel_rfl) (by kernel_rfl) (by kernel_rfl) rfl (by kernel_rfl) (fun _ _ _ _ h => h) (Wanted.on rfl rfl rfl) rfl rfl Fit.sub (Runs.fld (α := Ev) (xs := es) fld122_1 rfl (Sl.f hl) (by omega)) ?_
           refine D.read 8 rfl (by kernel_rfl) (by kernel_rfl) (by kernel_rfl) rfl (by kernel_rfl) (fun _ _ _ _ h => h) (Wanted.on rfl rfl rfl) rfl rfl Fit.sub (Runs.getf (α := Ev) (xs := es) (u := I64 ((at_ es (((k : Nat) : Int) - 1)).tm)) ty3 rfl (Sl.f hl) (by omega) (by omega) rfl) ?_
           refine D.read 9 rfl (by kernel_rfl) (by kernel_rfl) (by kernel_rfl) rfl (by kernel_rfl) (fun _ _ _ _ h => h) (Wanted.on rfl rfl rfl) rfl rfl Fit.sub (Runs.fieldAddr fld122_1 rfl) ?_
           refine D.read 10 rfl (by kernel_rfl) (by kernel_rfl) (by kernel_rfl) rfl (by kernel_rfl) (fun _ _ _ _ h => h) (Wanted.on rfl rfl rfl) rfl rfl Fit.sub (Runs.ld ty3) ?_
           refine D.read 11 rfl (by kernel_rfl) (by kernel_rfl) (by kernel_rfl) rfl (by kernel_rfl) (fun _ _ _ _ h => h) (Wanted.on rfl rfl rfl) rfl rfl Fit.sub (Runs.gtr rfl rfl) ?_
           refine D.r 12 rfl (Runs.pickt rfl rfl) ?_ (hJ := Fit.sub)
           refine D.done (by kernel_rfl) ?_
           refine V.then ?_
           refine W.sub (L' := [(71, _), (12, _), (0, _), (1, _), (5, _), (9, _), (10, _), (37, _), (38, _), (39, _)]) (Sub.cons rfl (Sub.cons rfl (Sub.cons rfl (Sub.cons rfl (Sub.cons rfl (Sub.cons rfl (Sub.cons rfl (Sub.cons rfl (Sub.cons rfl (Sub.cons rfl Sub.nil)))))))))) ?_
           refine W.ite rfl (fun c71 => ?_) (fun c71 => ?_)
           ·refine W.sr ?_
            refine G.r (Runs.assign rfl) ?_
            refine G.r (Runs.assign rfl) ?_
            refine G.nt ?_
            refine W.ret ?_
            refine V.then_ret ?_
            refine V.block_ret ?_
            refine V.then_ret ?_
            refine V.then_ret ?_
            refine V.block_ret ?_
            refine V.then_ret ?_
            have hz : (slideE nd kd wd mo es) = 9 := (slideE_st c24).trans (hs0.trans (streamS_late (by omega) (fitE_of c47 (by omega)) (by rw [lastT_pos (by omega)]; omega)))
            exact V.ret2 rfl rfl rfl (I) Fit.m (.inl ⟨by rw [hz]; decide, by rw [hz], rfl⟩)
           ·refine W.skip ?_
            exact V.mid ((0)) (show (lastT es k ≤ (at_ es ((k : Nat) : Int)).tm) ∧ (FitOk nd (at_ es ((k : Nat) : Int))) from ⟨(ref_to (nd := nd) (fitE_ok.1 (fitE_of c47 (by omega))) (fun hk0 => by omega)), (fitE_ok.1 (fitE_of c47 (by omega)))⟩) (Sub.cons rfl (Sub.cons rfl (Sub.cons rfl (Sub.cons rfl (Sub.cons rfl (Sub.cons rfl (Sub.cons rfl (Sub.cons rfl (Sub.cons rfl Sub.nil))))))))) (show Fit κ _ (blk b3 [I64 ((at_ es ((k : Nat) : Int)).kd), I64 ((at_ es ((k : Nat) : Int)).tm), I64 ((at_ es ((k : Nat) : Int)).u), I64 ((at_ es ((k : Nat) : Int)).v), I64 ((at_ es ((k : Nat) : Int)).w), I64 ((at_ es ((k : Nat) : Int)).lb), I64 ((at_ es ((k : Nat) : Int)).sg)] 122 :: blk b2 [I64 (nd), .slice a1 xs.length c1] 71 :: vc 158 (.slice a1 xs.length c1) (xs) :: vc 122 (.slice o1 out.length d1) (out) :: blk b1 [I64 (kd), I64 (wd), I64 (mo)] 73 :: I) from (Fit.refl _))
          ·refine D.pass 3 rfl (by kernel_rfl) (by kernel_rfl) (by kernel_rfl) rfl (by kernel_rfl) (fun _ _ _ _ h => h) (Unwanted.off rfl rfl rfl) rfl rfl Fit.sub ?_
           refine D.pass 4 rfl (by kernel_rfl) (by kernel_rfl) (by kernel_rfl) rfl (by kernel_rfl) (fun _ _ _ _ h => h) (Unwanted.off rfl rfl rfl) rfl rfl Fit.sub ?_
           refine D.pass 5 rfl (by kernel_rfl) (by kernel_rfl) (by kernel_rfl) rfl (by kernel_rfl) (fun _ _ _ _ h => h) (Unwanted.off rfl rfl rfl) rfl rfl Fit.sub ?_
           refine D.pass 6 rfl (by kernel_rfl) (by kernel_rfl) (by kernel_rfl) rfl (by kernel_rfl) (fun _ _ _ _ h => h) (Unwanted.off rfl rfl rfl) rfl rfl Fit.sub ?_
           refine D.pass 7 rfl (by kernel_rfl) (by kernel_rfl) (by kernel_rfl) rfl (by kernel_rfl) (fun _ _ _ _ h => h) (Unwanted.off rfl rfl rfl) rfl rfl Fit.sub ?_
           refine D.pass 8 rfl (by kernel_rfl) (by kernel_rfl) (by kernel_rfl) rfl (by kernel_rfl) (fun _ _ _ _ h => h) (Unwanted.off rfl rfl rfl) rfl rfl Fit.sub ?_
           refine D.pass 9 rfl (by kernel_rfl) (by kernel_rfl) (by kernel_rfl) rfl (by kernel_rfl) (fun _ _ _ _ h => h) (Unwanted.off rfl rfl rfl) rfl rfl Fit.sub ?_
           refine D.pass 10 rfl (by kernel_rfl) (by kernel_rfl) (by kernel_rfl) rfl (by kernel_rfl) (fun _ _ _ _ h => h) (Unwanted.off rfl rfl rfl) rfl rfl Fit.sub ?_
           refine D.pass 11 rfl (by kernel_rfl) (by kernel_rfl) (by kernel_rfl) rfl (by kernel_rfl) (fun _ _ _ _ h => h) (Unwanted.off rfl rfl rfl) rfl rfl Fit.sub ?_
           refine D.r 12 rfl (Runs.pickf rfl rfl) ?_ (hJ := Fit.sub)
           refine D.done (by kernel_rfl) ?_
           refine V.then ?_
           refine W.sub (L' := [(71, _), (12, _), (0, _), (1, _), (5, _), (9, _), (10, _), (37, _), (38, _), (39, _)]) (Sub.cons rfl (Sub.cons rfl (Sub.cons rfl (Sub.cons rfl (Sub.cons rfl (Sub.cons rfl (Sub.cons rfl (Sub.cons rfl (Sub.cons rfl (Sub.cons rfl Sub.nil)))))))))) ?_
           refine W.no rfl ?_
           refine W.skip ?_
           exact V.mid ((0)) (show (lastT es k ≤ (at_ es ((k : Nat) : Int)).tm) ∧ (FitOk nd (at_ es ((k : Nat) : Int))) from ⟨(ref_to (nd := nd) (fitE_ok.1 (fitE_of c47 (by omega))) (fun hk0 => by omega)), (fitE_ok.1 (fitE_of c47 (by omega)))⟩) (Sub.cons rfl (Sub.cons rfl (Sub.cons rfl (Sub.cons rfl (Sub.cons rfl (Sub.cons rfl (Sub.cons rfl (Sub.cons rfl (Sub.cons rfl Sub.nil))))))))) (show Fit κ _ (blk b3 [I64 ((at_ es ((k : Nat) : Int)).kd), I64 ((at_ es ((k : Nat) : Int)).tm), I64 ((at_ es ((k : Nat) : Int)).u), I64 ((at_ es ((k : Nat) : Int)).v), I64 ((at_ es ((k : Nat) : Int)).w), I64 ((at_ es ((k : Nat) : Int)).lb), I64 ((at_ es ((k : Nat) : Int)).sg)] 122 :: blk b2 [I64 (nd), .slice a1 xs.length c1] 71 :: vc 158 (.slice a1 xs.length c1) (xs) :: vc 122 (.slice o1 out.length d1) (out) :: blk b1 [I64 (kd), I64 (wd), I64 (mo)] 73 :: I) from (Fit.refl _))
         ·rintro u0 hp
          obtain ⟨hto, hfe⟩ : (lastT es k ≤ (at_ es ((k : Nat) : Int)).tm) ∧ (FitOk nd (at_ es ((k : Nat) : Int))) := hp
          show W Try.prog κ 138 _ _ ([(0, I64 (nd)), (1, va), (5, .pointer (some ⟨b1, 0, none⟩)), (9, .pointer (some ⟨b2, 0, none⟩)), (10, .slice o1 out.length d1), (12, .pointer (some ⟨b3, 0, none⟩)), (37, va), (38, I64 (((es.length : Nat) : Int))), (39, I64 (((k : Nat) : Int)))] : Env) (blk b3 [I64 ((at_ es ((k : Nat) : Int)).kd), I64 ((at_ es ((k : Nat) : Int)).tm), I64 ((at_ es ((k : Nat) : Int)).u), I64 ((at_ es ((k : Nat) : Int)).v), I64 ((at_ es ((k : Nat) : Int)).w), I64 ((at_ es ((k : Nat) : Int)).lb), I64 ((at_ es ((k : Nat) : Int)).sg)] 122 :: blk b2 [I64 (nd), .slice a1 xs.length c1] 71 :: vc 158 (.slice a1 xs.length c1) (xs) :: vc 122 (.slice o1 out.length d1) (out) :: blk b1 [I64 (kd), I64 (wd), I64 (mo)] 73 :: I)
          refine W.cut (σ := (Option Addr) × Nat × (Option Addr) × Nat × (List Lk) × (List Ev)) (fun s => ([(0, I64 (nd)), (1, va), (5, .pointer (some ⟨b1, 0, none⟩)), (9, .pointer (some ⟨b2, 0, none⟩)), (10, .slice s.2.2.1 s.2.2.2.2.2.length s.2.2.2.1), (12, .pointer (some ⟨b3, 0, none⟩)), (37, va), (38, I64 (((es.length : Nat) : Int))), (39, I64 (((k : Nat) : Int)))] : Env)) (fun s => blk b2 [I64 (nd), .slice s.1 s.2.2.2.2.1.length s.2.1] 71 :: vc 158 (.slice s.1 s.2.2.2.2.1.length s.2.1) (s.2.2.2.2.1) :: vc 122 (.slice s.2.2.1 s.2.2.2.2.2.length s.2.2.2.1) (s.2.2.2.2.2) :: blk b1 [I64 (kd), I64 (wd), I64 (mo)] 73 :: blk b3 [I64 ((at_ es ((k : Nat) : Int)).kd), I64 ((at_ es ((k : Nat) : Int)).tm), I64 ((at_ es ((k : Nat) : Int)).u), I64 ((at_ es ((k : Nat) : Int)).v), I64 ((at_ es ((k : Nat) : Int)).w), I64 ((at_ es ((k : Nat) : Int)).lb), I64 ((at_ es ((k : Nat) : Int)).sg)] 122 :: I) (fun s => ((agedL kd wd mo (at_ es ((k : Nat) : Int)).tm (xs, out)) = (s.2.2.2.2.1, s.2.2.2.2.2)) ∧ (SlI nd kd wd (at_ es ((k : Nat) : Int)).tm s.2.2.2.2.1) ∧ (s.2.2.2.2.1.length + s.2.2.2.2.2.length = xs.length + out.length)) ?_ ?_
          ·refine W.block ?_
           refine W.loop (σ := (Option Addr) × Nat × (Option Addr) × Nat × (List Lk) × (List Ev)) (fun s => ([(0, I64 (nd)), (1, va), (5, .pointer (some ⟨b1, 0, none⟩)), (9, .pointer (some ⟨b2, 0, none⟩)), (10, .slice s.2.2.1 s.2.2.2.2.2.length s.2.2.2.1), (12, .pointer (some ⟨b3, 0, none⟩)), (37, va), (38, I64 (((es.length : Nat) : Int))), (39, I64 (((k : Nat) : Int)))] : Env)) (fun s => blk b2 [I64 (nd), .slice s.1 s.2.2.2.2.1.length s.2.1] 71 :: vc 158 (.slice s.1 s.2.2.2.2.1.length s.2.1) (s.2.2.2.2.1) :: vc 122 (.slice s.2.2.1 s.2.2.2.2.2.length s.2.2.2.1) (s.2.2.2.2.2) :: blk b1 [I64 (kd), I64 (wd), I64 (mo)] 73 :: blk b3 [I64 ((at_ es ((k : Nat) : Int)).kd), I64 ((at_ es ((k : Nat) : Int)).tm), I64 ((at_ es ((k : Nat) : Int)).u), I64 ((at_ es ((k : Nat) : Int)).v), I64 ((at_ es ((k : Nat) : Int)).w), I64 ((at_ es ((k : Nat) : Int)).lb), I64 ((at_ es ((k : Nat) : Int)).sg)] 122 :: I) (fun s => ((agedL kd wd mo (at_ es ((k : Nat) : Int)).tm (xs, out)) = agedL kd wd mo (at_ es ((k : Nat) : Int)).tm (s.2.2.2.2.1, s.2.2.2.2.2)) ∧ (SlI nd kd wd (lastT es k) s.2.2.2.2.1) ∧ (s.2.2.2.2.1.length + s.2.2.2.2.2.length = xs.length + out.length)) (fun s => s.2.2.2.2.1.length) (a1, c1, o1, d1, xs, out) (show ((agedL kd wd mo (at_ es ((k : Nat) : Int)).tm (xs, out)) = agedL kd wd mo (at_ es ((k : Nat) : Int)).tm ((xs : List Lk), (out : List Ev))) ∧ (SlI nd kd wd (lastT es k) (xs : List Lk)) ∧ ((xs : List Lk).length + (out : List Ev).length = xs.length + out.length) from ⟨rfl, hI, rfl⟩) (Sub.cons rfl (Sub.cons rfl (Sub.cons rfl (Sub.cons rfl (Sub.cons (lookV rfl (by first | rfl | simp)) (Sub.cons rfl (Sub.cons rfl (Sub.cons rfl (Sub.cons rfl Sub.nil))))))))) (show Fit κ _ (blk b2 [I64 (nd), .slice (a1) (xs).length (c1)] 71 :: vc 158 (.slice (a1) (xs).length (c1)) ((xs)) :: vc 122 (.slice (o1) (out).length (d1)) ((out)) :: blk b1 [I64 (kd), I64 (wd), I64 (mo)] 73 :: blk b3 [I64 ((at_ es ((k : Nat) : Int)).kd), I64 ((at_ es ((k : Nat) : Int)).tm), I64 ((at_ es ((k : Nat) : Int)).u), I64 ((at_ es ((k : Nat) : Int)).v), I64 ((at_ es ((k : Nat) : Int)).w), I64 ((at_ es ((k : Nat) : Int)).lb), I64 ((at_ es ((k : Nat) : Int)).sg)] 122 :: I) from Fit.s) ?_
           rintro ⟨a3, c3, o3, d3, us, vs⟩ hp
           obtain ⟨hag0, hJ, hs3⟩ : ((agedL kd wd mo (at_ es ((k : Nat) : Int)).tm (xs, out)) = agedL kd wd mo (at_ es ((k : Nat) : Int)).tm (us, vs)) ∧ (SlI nd kd wd (lastT es k) us) ∧ (us.length + vs.length = xs.length + out.length) := hp
           show W Try.prog κ 138 _ _ ([(0, I64 (nd)), (1, va), (5, .pointer (some ⟨b1, 0, none⟩)), (9, .pointer (some ⟨b2, 0, none⟩)), (10, .slice o3 vs.length d3), (12, .pointer (some ⟨b3, 0, none⟩)), (37, va), (38, I64 (((es.length : Nat) : Int))), (39, I64 (((k : Nat) : Int)))] : Env) (blk b2 [I64 (nd), .slice a3 us.length c3] 71 :: vc 158 (.slice a3 us.length c3) (us) :: vc 122 (.slice o3 vs.length d3) (vs) :: blk b1 [I64 (kd), I64 (wd), I64 (mo)] 73 :: blk b3 [I64 ((at_ es ((k : Nat) : Int)).kd), I64 ((at_ es ((k : Nat) : Int)).tm), I64 ((at_ es ((k : Nat) : Int)).u), I64 ((at_ es ((k : Nat) : Int)).v), I64 ((at_ es ((k : Nat) : Int)).w), I64 ((at_ es ((k : Nat) : Int)).lb), I64 ((at_ es ((k : Nat) : Int)).sg)] 122 :: I)
           refine W.block ?_
           refine W.sr ?_
           refine G.r (Runs.lds (vs := [_, _]) ty71) ?_
           refine G.r (Runs.lds (vs := [_, _, _]) ty73) ?_
           refine G.e (Eff.call call60 rfl rfl (Until7_ok (nd := nd) (kd := kd) (wd := wd) (mo := mo) Sl.o)) ?_
           rintro _ _ ⟨_, _, ⟨zu4, rfl, huzu4, rfl⟩, rfl, rfl⟩
           refine G.r (Runs.move rfl) ?_
           refine G.r (Runs.extract rfl rfl) ?_
           refine G.r (Runs.extract rfl rfl) ?_
           refine G.r (Runs.extract rfl rfl) ?_
           refine G.r (Runs.assign rfl) ?_
           refine G.r (Runs.assign rfl) ?_
           refine G.r (Runs.assign rfl) ?_
           refine G.nt ?_
           refine W.sub (L' := [(15, _), (14, _), (0, _), (1, _), (5, _), (9, _), (10, _), (12, _), (37, _), (38, _), (39, _)]) (Sub.cons rfl (Sub.cons rfl (Sub.cons rfl (Sub.cons rfl (Sub.cons rfl (Sub.cons rfl (Sub.cons rfl (Sub.cons rfl (Sub.cons rfl (Sub.cons rfl (Sub.cons rfl Sub.nil))))))))))) ?_
           refine W.seq ?_
           refine W.sr ?_
           refine G.r (Runs.move rfl) ?_
           refine G.r (Runs.notd rfl) ?_
           refine G.r (Runs.move rfl) ?_
           refine G.split (d := 81) rfl (fun g81 => ?_) (fun g81 => ?_)
           ·refine G.po ?_
            refine G.po ?_
            refine G.po ?_
            refine G.po ?_
            refine G.r (Runs.pickt rfl rfl) ?_
            refine G.nt ?_
            refine W.sub (L' := [(86, _), (14, _), (0, _), (1, _), (5, _), (9, _), (10, _), (12, _), (37, _), (38, _), (39, _)]) (Sub.cons rfl (Sub.cons rfl (Sub.cons rfl (Sub.cons rfl (Sub.cons rfl (Sub.cons rfl (Sub.cons rfl (Sub.cons rfl (Sub.cons rfl (Sub.cons rfl (Sub.cons rfl Sub.nil))))))))))) ?_
            refine W.yes rfl ?_
            refine W.exit ?_
            refine V.then_exit ?_
            refine V.block_miss rfl ?_
            refine V.then_exit ?_
            refine V.block_hit ?_
            have hstop : kd = 2 → ¬ (0 < us.length ∧ minT us + wd ≤ (at_ es ((k : Nat) : Int)).tm) := fun hk2 h => by have hc : untilC nd us kd wd mo := ⟨uErr_zero c24 (fun h => h hJ.val), hk2, List.length_pos_iff.1 h.1⟩; first | exact absurd hc g81 | (have hz := minT_uniq (huzu4.yes hc); omega)
            exact V.mid ((a3), (c3), (o3), (d3), (us), (vs)) (show ((agedL kd wd mo (at_ es ((k : Nat) : Int)).tm (xs, out)) = ((us : List Lk), (vs : List Ev))) ∧ (SlI nd kd wd (at_ es ((k : Nat) : Int)).tm (us : List Lk)) ∧ ((us : List Lk).length + (vs : List Ev).length = xs.length + out.length) from ⟨(hag0.trans (agedL_stop hstop)), (hJ.later hto hstop), hs3⟩) (Sub.cons rfl (Sub.cons rfl (Sub.cons rfl (Sub.cons rfl (Sub.cons (lookV rfl (by first | rfl | simp)) (Sub.cons rfl (Sub.cons rfl (Sub.cons rfl (Sub.cons rfl Sub.nil))))))))) (show Fit κ _ (blk b2 [I64 (nd), .slice (a3) (us).length (c3)] 71 :: vc 158 (.slice (a3) (us).length (c3)) ((us)) :: vc 122 (.slice (o3) (vs).length (d3)) ((vs)) :: blk b1 [I64 (kd), I64 (wd), I64 (mo)] 73 :: blk b3 [I64 ((at_ es ((k : Nat) : Int)).kd), I64 ((at_ es ((k : Nat) : Int)).tm), I64 ((at_ es ((k : Nat) : Int)).u), I64 ((at_ es ((k : Nat) : Int)).v), I64 ((at_ es ((k : Nat) : Int)).w), I64 ((at_ es ((k : Nat) : Int)).lb), I64 ((at_ es ((k : Nat) : Int)).sg)] 122 :: I) from Fit.s)
           ·refine G.ro (Runs.move rfl) ?_
            refine G.ro (Runs.fieldAddr fld122_1 rfl) ?_
            refine G.ro (Runs.ld ty3) ?_
            refine G.ro (Runs.gtr rfl rfl) ?_
            refine G.r (Runs.pickf rfl rfl) ?_
            refine G.nt ?_
            refine W.sub (L' := [(86, _), (14, _), (0, _), (1, _), (5, _), (9, _), (10, _), (12, _), (37, _), (38, _), (39, _)]) (Sub.cons rfl (Sub.cons rfl (Sub.cons rfl (Sub.cons rfl (Sub.cons rfl (Sub.cons rfl (Sub.cons rfl (Sub.cons rfl (Sub.cons rfl (Sub.cons rfl (Sub.cons rfl Sub.nil))))))))))) ?_
            refine W.ite rfl (fun c86 => ?_) (fun c86 => ?_)
            ·refine W.exit ?_
             refine V.then_exit ?_
             refine V.block_miss rfl ?_
             refine V.then_exit ?_
             refine V.block_hit ?_
             have hstop : kd = 2 → ¬ (0 < us.length ∧ minT us + wd ≤ (at_ es ((k : Nat) : Int)).tm) := fun hk2 h => by have hc : untilC nd us kd wd mo := ⟨uErr_zero c24 (fun h => h hJ.val), hk2, List.length_pos_iff.1 h.1⟩; first | exact absurd hc g81 | (have hz := minT_uniq (huzu4.yes hc); omega)
             exact V.mid ((a3), (c3), (o3), (d3), (us), (vs)) (show ((agedL kd wd mo (at_ es ((k : Nat) : Int)).tm (xs, out)) = ((us : List Lk), (vs : List Ev))) ∧ (SlI nd kd wd (at_ es ((k : Nat) : Int)).tm (us : List Lk)) ∧ ((us : List Lk).length + (vs : List Ev).length = xs.length + out.length) from ⟨(hag0.trans (agedL_stop hstop)), (hJ.later hto hstop), hs3⟩) (Sub.cons rfl (Sub.cons rfl (Sub.cons rfl (Sub.cons rfl (Sub.cons (lookV rfl (by first | rfl | simp)) (Sub.cons rfl (Sub.cons rfl (Sub.cons rfl (Sub.cons rfl Sub.nil))))))))) (show Fit κ _ (blk b2 [I64 (nd), .slice (a3) (us).length (c3)] 71 :: vc 158 (.slice (a3) (us).length (c3)) ((us)) :: vc 122 (.slice (o3) (vs).length (d3)) ((vs)) :: blk b1 [I64 (kd), I64 (wd), I64 (mo)] 73 :: blk b3 [I64 ((at_ es ((k : Nat) : Int)).kd), I64 ((at_ es ((k : Nat) : Int)).tm), I64 ((at_ es ((k : Nat) : Int)).u), I64 ((at_ es ((k : Nat) : Int)).v), I64 ((at_ es ((k : Nat) : Int)).w), I64 ((at_ es ((k : Nat) : Int)).lb), I64 ((at_ es ((k : Nat) : Int)).sg)] 122 :: I) from Fit.s)
            ·refine W.skip ?_
             refine V.then ?_
             refine W.sr ?_
             refine G.r (Runs.lds (vs := [_, _]) ty71) ?_
             refine G.r (Runs.lds (vs := [_, _, _]) ty73) ?_
             refine G.r (Runs.move rfl) ?_
             have hfm := hfe.tm
             have hc : untilC nd us kd wd mo := by first | exact Classical.not_not.1 g81 | assumption
             have hpos : 0 < us.length := List.length_pos_iff.2 hc.2.2
             have hz : zu4 = minT us + wd := minT_uniq (huzu4.yes hc)
             have hfz := hJ.first hc.2.1 hpos
             have hask : askE nd us kd wd mo zu4 = 0 := hJ.ask (Classical.not_not.1 c24) (by omega) (by omega)
             have hglz := gone_len kd wd mo zu4 us
             refine G.e (Eff.call call56 rfl rfl (Expired7_ok (nd := nd) (kd := kd) (wd := wd) (mo := mo) (nw := zu4) (xs := us) Sl.o (by first | omega | (have h := stepL_len ys (at_ es ((k : Nat) : Int)); omega)))) ?_
             rintro _ _ ⟨_, _, (⟨hnead5, rfl, rfl⟩ | ⟨ad5, cp6, hzad5, rfl, rfl⟩), rfl, rfl⟩
             ·exact absurd hask hnead5
             ·show G Try.prog κ _ _ _ _ ([(91, .tuple #[.slice ad5 (goneL kd wd mo zu4 us).length cp6, I64 (0)]), (90, I64 (zu4)), (89, .agg #[I64 (kd), I64 (wd), I64 (mo)]), (88, .agg #[I64 (nd), .slice a3 us.length c3]), (86, .bool (decide (((at_ es ((k : Nat) : Int)).tm) < zu4))), (14, I64 (zu4)), (0, I64 (nd)), (1, va), (5, .pointer (some ⟨b1, 0, none⟩)), (9, .pointer (some ⟨b2, 0, none⟩)), (10, .slice o3 vs.length d3), (12, .pointer (some ⟨b3, 0, none⟩)), (37, va), (38, I64 (((es.length : Nat) : Int))), (39, I64 (((k : Nat) : Int)))] : Env) (vc 122 (.slice ad5 (goneL kd wd mo zu4 us).length cp6) (goneL kd wd mo zu4 us) :: blk b2 [I64 (nd), .slice a3 us.length c3] 71 :: vc 158 (.slice a3 us.length c3) (us) :: vc 122 (.slice o3 vs.length d3) (vs) :: blk b1 [I64 (kd), I64 (wd), I64 (mo)] 73 :: blk b3 [I64 ((at_ es ((k : Nat) : Int)).kd), I64 ((at_ es ((k : Nat) : Int)).tm), I64 ((at_ es ((k : Nat) : Int)).u), I64 ((at_ es ((k : Nat) : Int)).v), I64 ((at_ es ((k : Nat) : Int)).w), I64 ((at_ es ((k : Nat) : Int)).lb), I64 ((at_ es ((k : Nat) : Int)).sg)] 122 :: I)
              refine G.r (Runs.move rfl) ?_
              refine G.r (Runs.extract rfl rfl) ?_
              refine G.r (Runs.extract rfl rfl) ?_
              refine G.r (Runs.assign rfl) ?_
              refine G.r (Runs.assign rfl) ?_
              refine G.nt ?_
              refine W.sub (L' := [(17, _), (0, _), (1, _), (5, _), (9, _), (10, _), (12, _), (37, _), (38, _), (39, _)]) (Sub.cons rfl (Sub.cons rfl (Sub.cons rfl (Sub.cons rfl (Sub.cons rfl (Sub.cons rfl (Sub.cons rfl (Sub.cons rfl (Sub.cons rfl (Sub.cons rfl Sub.nil)))))))))) ?_
              refine W.sr ?_
              refine G.r (Runs.lds (vs := [_, _]) ty71) ?_
              refine G.r (Runs.move rfl) ?_
              refine G.e (Eff.call call87 rfl rfl (CallS.fit (J := vc 158 (.slice a3 us.length c3) (us) :: vc 122 (.slice ad5 (goneL kd wd mo zu4 us).length cp6) (goneL kd wd mo zu4 us) :: blk b2 [I64 (nd), .slice a3 us.length c3] 71 :: vc 122 (.slice o3 vs.length d3) (vs) :: blk b1 [I64 (kd), I64 (wd), I64 (mo)] 73 :: blk b3 [I64 ((at_ es ((k : Nat) : Int)).kd), I64 ((at_ es ((k : Nat) : Int)).tm), I64 ((at_ es ((k : Nat) : Int)).u), I64 ((at_ es ((k : Nat) : Int)).v), I64 ((at_ es ((k : Nat) : Int)).w), I64 ((at_ es ((k : Nat) : Int)).lb), I64 ((at_ es ((k : Nat) : Int)).sg)] 122 :: I) Fit.s (All5_base (nd := nd) (xs := us) (es := goneL kd wd mo zu4 us) Sl.o hJ.val (fitgone hJ.val (by omega)) (by first | omega | (have h := stepL_len ys (at_ es ((k : Nat) : Int)); have h9 := gone_len kd wd mo (at_ es ((k : Nat) : Int)).tm (stepL ys (at_ es ((k : Nat) : Int))); omega))))) ?_
              rintro _ _ ⟨_, _, ⟨⟨ad7, cp8, nn9⟩, rfl, rfl⟩, rfl, rfl⟩
              show G Try.prog κ _ _ _ _ ([(97, .tuple #[.agg #[I64 (nd), .slice ad7 (List.foldl stepL us (goneL kd wd mo zu4 us)).length cp8], I64 (nn9), I64 (0)]), (96, .slice ad5 (goneL kd wd mo zu4 us).length cp6), (95, .agg #[I64 (nd), .slice a3 us.length c3]), (17, .slice ad5 (goneL kd wd mo zu4 us).length cp6), (0, I64 (nd)), (1, va), (5, .pointer (some ⟨b1, 0, none⟩)), (9, .pointer (some ⟨b2, 0, none⟩)), (10, .slice o3 vs.length d3), (12, .pointer (some ⟨b3, 0, none⟩)), (37, va), (38, I64 (((es.length : Nat) : Int))), (39, I64 (((k : Nat) : Int)))] : Env) (vc 158 (.slice ad7 (List.foldl stepL us (goneL kd wd mo zu4 us)).length cp8) (List.foldl stepL us (goneL kd wd mo zu4 us)) :: vc 122 (.slice ad5 (goneL kd wd mo zu4 us).length cp6) (goneL kd wd mo zu4 us) :: blk b2 [I64 (nd), .slice a3 us.length c3] 71 :: vc 122 (.slice o3 vs.length d3) (vs) :: blk b1 [I64 (kd), I64 (wd), I64 (mo)] 73 :: blk b3 [I64 ((at_ es ((k : Nat) : Int)).kd), I64 ((at_ es ((k : Nat) : Int)).tm), I64 ((at_ es ((k : Nat) : Int)).u), I64 ((at_ es ((k : Nat) : Int)).v), I64 ((at_ es ((k : Nat) : Int)).w), I64 ((at_ es ((k : Nat) : Int)).lb), I64 ((at_ es ((k : Nat) : Int)).sg)] 122 :: I)
              refine G.r (Runs.move rfl) ?_
              refine G.r (Runs.extract rfl rfl) ?_
              refine G.r (Runs.extract rfl rfl) ?_
              refine G.r (Runs.extract rfl rfl) ?_
              refine G.e (Eff.st (cs := [_, _]) (vs := [_, _]) (cs' := [_, _]) ty71) ?_
              rintro _ _ ⟨rfl, rfl⟩
              refine G.nt ?_
              refine W.sub (L' := [(17, _), (0, _), (1, _), (5, _), (9, _), (10, _), (12, _), (37, _), (38, _), (39, _)]) (Sub.cons rfl (Sub.cons rfl (Sub.cons rfl (Sub.cons rfl (Sub.cons rfl (Sub.cons rfl (Sub.cons rfl (Sub.cons rfl (Sub.cons rfl (Sub.cons rfl Sub.nil)))))))))) ?_
              refine W.region ?_
              refine G.r (Runs.move rfl) ?_
              refine G.r (Runs.move rfl) ?_
              refine G.e (Eff.app (α := Ev) (e := 122) (xs := vs) (ys := goneL kd wd mo zu4 us) Try.underlying81 ty122 rfl rfl rfl (by repeat (first | exact List.mem_cons_self | apply List.mem_cons_of_mem)) Sl.o (by first | omega | (simp only [List.length_append, List.length_cons, List.length_nil]; omega) | (have h := stepL_len ys (at_ es ((k : Nat) : Int)); have h9 := gone_len kd wd mo (at_ es ((k : Nat) : Int)).tm (stepL ys (at_ es ((k : Nat) : Int))); first | omega | (simp only [List.length_append, List.length_cons, List.length_nil]; omega))) (by decide) rfl (fun _ _ => (by repeat (first | exact At.head _ _ _ | apply At.tail)))) ?_
              rintro _ _ ⟨ad10, cp11, rfl, rfl⟩
              refine G.r (Runs.assign rfl) ?_
              refine G.nil ?_
              refine V.block_normal ?_
              have hg := gone_steps (kd := kd) (wd := wd) (mo := mo) (nw := zu4) hJ.val
              have hgl := gone_len kd wd mo zu4 us
              exact V.next ((ad7), (cp8), (ad10), (cp11), (List.filter (inW kd wd mo zu4 us) us), (vs ++ goneL kd wd mo zu4 us)) (show ((agedL kd wd mo (at_ es ((k : Nat) : Int)).tm (xs, out)) = agedL kd wd mo (at_ es ((k : Nat) : Int)).tm ((List.filter (inW kd wd mo zu4 us) us : List Lk), (vs ++ goneL kd wd mo zu4 us : List Ev))) ∧ (SlI nd kd wd (lastT es k) (List.filter (inW kd wd mo zu4 us) us : List Lk)) ∧ ((List.filter (inW kd wd mo zu4 us) us : List Lk).length + (vs ++ goneL kd wd mo zu4 us : List Ev).length = xs.length + out.length) from ⟨(hag0.trans (agedL_step hc.2.1 ⟨hpos, by omega⟩ hz)), (hJ.filter _), (by rw [List.length_append]; omega)⟩) (show (List.filter (inW kd wd mo zu4 us) us : List Lk).length < us.length from (aged_less hc.2.1 hpos hz)) (Sub.cons rfl (Sub.cons rfl (Sub.cons rfl (Sub.cons rfl (Sub.cons (lookV rfl (by first | rfl | simp)) (Sub.cons rfl (Sub.cons rfl (Sub.cons rfl (Sub.cons rfl Sub.nil))))))))) (show Fit κ _ (blk b2 [I64 (nd), .slice (ad7) (List.filter (inW kd wd mo zu4 us) us).length (cp8)] 71 :: vc 158 (.slice (ad7) (List.filter (inW kd wd mo zu4 us) us).length (cp8)) ((List.filter (inW kd wd mo zu4 us) us)) :: vc 122 (.slice (ad10) (vs ++ goneL kd wd mo zu4 us).length (cp11)) ((vs ++ goneL kd wd mo zu4 us)) :: blk b1 [I64 (kd), I64 (wd), I64 (mo)] 73 :: blk b3 [I64 ((at_ es ((k : Nat) : Int)).kd), I64 ((at_ es ((k : Nat) : Int)).tm), I64 ((at_ es ((k : Nat) : Int)).u), I64 ((at_ es ((k : Nat) : Int)).v), I64 ((at_ es ((k : Nat) : Int)).w), I64 ((at_ es ((k : Nat) : Int)).lb), I64 ((at_ es ((k : Nat) : Int)).sg)] 122 :: I) from (by rw [← hg]; exact Fit.s))
          ·rintro ⟨a2, c2, o2, d2, ys, zs⟩ hp
           obtain ⟨hag, hI2, hs2⟩ : ((agedL kd wd mo (at_ es ((k : Nat) : Int)).tm (xs, out)) = (ys, zs)) ∧ (SlI nd kd wd (at_ es ((k : Nat) : Int)).tm ys) ∧ (ys.length + zs.length = xs.length + out.length) := hp
           show W Try.prog κ 138 _ _ ([(0, I64 (nd)), (1, va), (5, .pointer (some ⟨b1, 0, none⟩)), (9, .pointer (some ⟨b2, 0, none⟩)), (10, .slice o2 zs.length d2), (12, .pointer (some ⟨b3, 0, none⟩)), (37, va), (38, I64 (((es.length : Nat) : Int))), (39, I64 (((k : Nat) : Int)))] : Env) (blk b2 [I64 (nd), .slice a2 ys.length c2] 71 :: vc 158 (.slice a2 ys.length c2) (ys) :: vc 122 (.slice o2 zs.length d2) (zs) :: blk b1 [I64 (kd), I64 (wd), I64 (mo)] 73 :: blk b3 [I64 ((at_ es ((k : Nat) : Int)).kd), I64 ((at_ es ((k : Nat) : Int)).tm), I64 ((at_ es ((k : Nat) : Int)).u), I64 ((at_ es ((k : Nat) : Int)).v), I64 ((at_ es ((k : Nat) : Int)).w), I64 ((at_ es ((k : Nat) : Int)).lb), I64 ((at_ es ((k : Nat) : Int)).sg)] 122 :: I)
           refine W.sr ?_
           refine G.r (Runs.lds (vs := [_, _]) ty71) ?_
           refine G.r (Runs.lds (vs := [_, _, _, _, _, _, _]) ty122) ?_
           refine G.e (Eff.call call88 rfl rfl (Apply5_ok (nd := nd) (e := (at_ es ((k : Nat) : Int))) Sl.o hI2.val hfe (by omega))) ?_
           rintro _ _ ⟨_, _, ⟨⟨ad12, cp13, ad14, nn15, cp16⟩, ⟨rfl, hnn15⟩, rfl⟩, rfl, rfl⟩
           show G Try.prog κ _ _ _ _ ([(107, .tuple #[.agg #[I64 (nd), .slice ad12 (stepL ys (at_ es ((k : Nat) : Int))).length cp13], .slice ad14 nn15 cp16, I64 (0)]), (106, .agg #[I64 ((at_ es ((k : Nat) : Int)).kd), I64 ((at_ es ((k : Nat) : Int)).tm), I64 ((at_ es ((k : Nat) : Int)).u), I64 ((at_ es ((k : Nat) : Int)).v), I64 ((at_ es ((k : Nat) : Int)).w), I64 ((at_ es ((k : Nat) : Int)).lb), I64 ((at_ es ((k : Nat) : Int)).sg)]), (105, .agg #[I64 (nd), .slice a2 ys.length c2]), (0, I64 (nd)), (1, va), (5, .pointer (some ⟨b1, 0, none⟩)), (9, .pointer (some ⟨b2, 0, none⟩)), (10, .slice o2 zs.length d2), (12, .pointer (some ⟨b3, 0, none⟩)), (37, va), (38, I64 (((es.length : Nat) : Int))), (39, I64 (((k : Nat) : Int)))] : Env) (vc 158 (.slice ad12 (stepL ys (at_ es ((k : Nat) : Int))).length cp13) (stepL ys (at_ es ((k : Nat) : Int))) :: blk b2 [I64 (nd), .slice a2 ys.length c2] 71 :: vc 158 (.slice a2 ys.length c2) (ys) :: vc 122 (.slice o2 zs.length d2) (zs) :: blk b1 [I64 (kd), I64 (wd), I64 (mo)] 73 :: blk b3 [I64 ((at_ es ((k : Nat) : Int)).kd), I64 ((at_ es ((k : Nat) : Int)).tm), I64 ((at_ es ((k : Nat) : Int)).u), I64 ((at_ es ((k : Nat) : Int)).v), I64 ((at_ es ((k : Nat) : Int)).w), I64 ((at_ es ((k : Nat) : Int)).lb), I64 ((at_ es ((k : Nat) : Int)).sg)] 122 :: I)
           have hnn15 : nn15 ≤ 2 * ys.length + 1 := hnn15
           refine G.r (Runs.move rfl) ?_
           refine G.r (Runs.extract rfl rfl) ?_
           refine G.r (Runs.extract rfl rfl) ?_
           refine G.r (Runs.extract rfl rfl) ?_
           refine G.e (Eff.st (cs := [_, _]) (vs := [_, _]) (cs' := [_, _]) ty71) ?_
           rintro _ _ ⟨rfl, rfl⟩
           have hI3 : SlI nd kd wd (at_ es ((k : Nat) : Int)).tm (stepL ys (at_ es ((k : Nat) : Int))) := hI2.step hfe rfl (checkW_one (Classical.not_not.1 c24))
           have hs1 : streamE nd es = streamS nd (lastT es (k + 1)) (es.drop (k + 1)) := hs0.trans (streamS_step (by omega) (fitE_ok.2 hfe) (by omega))
           refine G.nt ?_
           refine W.sub (L' := [(0, _), (1, _), (5, _), (9, _), (10, _), (12, _), (37, _), (38, _), (39, _)]) (Sub.cons rfl (Sub.cons rfl (Sub.cons rfl (Sub.cons rfl (Sub.cons rfl (Sub.cons rfl (Sub.cons rfl (Sub.cons rfl (Sub.cons rfl Sub.nil))))))))) ?_
           refine W.sr ?_
           refine G.r (Runs.move rfl) ?_
           refine G.r (Runs.lds (vs := [_, _, _, _, _, _, _]) ty122) ?_
           refine G.e (Eff.bs (α := Ev) (cs := [I64 ((at_ es ((k : Nat) : Int)).kd), I64 ((at_ es ((k : Nat) : Int)).tm), I64 ((at_ es ((k : Nat) : Int)).u), I64 ((at_ es ((k : Nat) : Int)).v), I64 ((at_ es ((k : Nat) : Int)).w), I64 ((at_ es ((k : Nat) : Int)).lb), I64 ((at_ es ((k : Nat) : Int)).sg)]) (xs := [⟨(at_ es ((k : Nat) : Int)).kd, (at_ es ((k : Nat) : Int)).tm, (at_ es ((k : Nat) : Int)).u, (at_ es ((k : Nat) : Int)).v, (at_ es ((k : Nat) : Int)).w, (at_ es ((k : Nat) : Int)).lb, (at_ es ((k : Nat) : Int)).sg⟩]) Try.underlying81 ty122 rfl rfl (by decide) (by decide) rfl (by kernel_rfl) rfl rfl) ?_
           rintro _ _ ⟨ad17, rfl, rfl⟩
           refine G.e (Eff.app (α := Ev) (e := 122) (xs := zs) (ys := ([⟨(at_ es ((k : Nat) : Int)).kd, (at_ es ((k : Nat) : Int)).tm, (at_ es ((k : Nat) : Int)).u, (at_ es ((k : Nat) : Int)).v, (at_ es ((k : Nat) : Int)).w, (at_ es ((k : Nat) : Int)).lb, (at_ es ((k : Nat) : Int)).sg⟩] : List Ev)) Try.underlying81 ty122 rfl rfl rfl (by repeat (first | exact List.mem_cons_self | apply List.mem_cons_of_mem)) Sl.o (by first | omega | (simp only [List.length_append, List.length_cons, List.length_nil]; omega) | (have h := stepL_len ys (at_ es ((k : Nat) : Int)); have h9 := gone_len kd wd mo (at_ es ((k : Nat) : Int)).tm (stepL ys (at_ es ((k : Nat) : Int))); first | omega | (simp only [List.length_append, List.length_cons, List.length_nil]; omega))) (by decide) rfl (fun _ _ => (by repeat (first | exact At.head _ _ _ | apply At.tail)))) ?_
           rintro _ _ ⟨ad18, cp19, rfl, rfl⟩
           refine G.r (Runs.assign rfl) ?_
           refine G.nt ?_
           refine W.sub (L' := [(10, _), (0, _), (1, _), (5, _), (9, _), (12, _), (37, _), (38, _), (39, _)]) (Sub.cons rfl (Sub.cons rfl (Sub.cons rfl (Sub.cons rfl (Sub.cons rfl (Sub.cons rfl (Sub.cons rfl (Sub.cons rfl (Sub.cons rfl Sub.nil))))))))) ?_
           refine W.sr ?_
           refine G.r (Runs.fieldAddr fld73_0 rfl) ?_
           refine G.r (Runs.ld ty3) ?_
           refine G.r (Runs.eql rfl rfl) ?_
           refine G.nt ?_
           refine W.ite rfl (fun c117 => ?_) (fun c117 => ?_)
           ·refine W.sr ?_
            refine G.r (Runs.lds (vs := [_, _]) ty71) ?_
            refine G.r (Runs.lds (vs := [_, _, _]) ty73) ?_
            refine G.r (Runs.fieldAddr fld122_1 rfl) ?_
            refine G.r (Runs.ld ty3) ?_
            refine G.e (Eff.call call56 rfl rfl (Expired7_ok (nd := nd) (kd := kd) (wd := wd) (mo := mo) (nw := ((at_ es ((k : Nat) : Int)).tm)) (xs := stepL ys (at_ es ((k : Nat) : Int))) Sl.o (by first | omega | (have h := stepL_len ys (at_ es ((k : Nat) : Int)); omega)))) ?_
            rintro _ _ ⟨_, _, (⟨hnead20, rfl, rfl⟩ | ⟨ad20, cp21, hzad20, rfl, rfl⟩), rfl, rfl⟩
            ·exact absurd (hI3.ask (Classical.not_not.1 c24) hfe.tm (Int.le_refl _)) hnead20
            ·show G Try.prog κ _ _ _ _ ([(123, .tuple #[.slice ad20 (goneL kd wd mo ((at_ es ((k : Nat) : Int)).tm) (stepL ys (at_ es ((k : Nat) : Int)))).length cp21, I64 (0)]), (122, I64 ((at_ es ((k : Nat) : Int)).tm)), (121, .pointer (some ⟨b3, 1, none⟩)), (120, .agg #[I64 (kd), I64 (wd), I64 (mo)]), (119, .agg #[I64 (nd), .slice ad12 (stepL ys (at_ es ((k : Nat) : Int))).length cp13]), (117, .bool (decide (kd = 3))), (116, I64 (kd)), (115, .pointer (some ⟨b1, 0, none⟩)), (10, .slice ad18 (zs ++ ([⟨(at_ es ((k : Nat) : Int)).kd, (at_ es ((k : Nat) : Int)).tm, (at_ es ((k : Nat) : Int)).u, (at_ es ((k : Nat) : Int)).v, (at_ es ((k : Nat) : Int)).w, (at_ es ((k : Nat) : Int)).lb, (at_ es ((k : Nat) : Int)).sg⟩] : List Ev)).length cp19), (0, I64 (nd)), (1, va), (5, .pointer (some ⟨b1, 0, none⟩)), (9, .pointer (some ⟨b2, 0, none⟩)), (12, .pointer (some ⟨b3, 0, none⟩)), (37, va), (38, I64 (((es.length : Nat) : Int))), (39, I64 (((k : Nat) : Int)))] : Env) (vc 122 (.slice ad20 (goneL kd wd mo ((at_ es ((k : Nat) : Int)).tm) (stepL ys (at_ es ((k : Nat) : Int)))).length cp21) (goneL kd wd mo ((at_ es ((k : Nat) : Int)).tm) (stepL ys (at_ es ((k : Nat) : Int)))) :: vc 122 (.slice ad17 1 1) (([⟨(at_ es ((k : Nat) : Int)).kd, (at_ es ((k : Nat) : Int)).tm, (at_ es ((k : Nat) : Int)).u, (at_ es ((k : Nat) : Int)).v, (at_ es ((k : Nat) : Int)).w, (at_ es ((k : Nat) : Int)).lb, (at_ es ((k : Nat) : Int)).sg⟩] : List Ev)) :: vc 158 (.slice ad12 (stepL ys (at_ es ((k : Nat) : Int))).length cp13) (stepL ys (at_ es ((k : Nat) : Int))) :: blk b2 [I64 (nd), .slice ad12 (stepL ys (at_ es ((k : Nat) : Int))).length cp13] 71 :: vc 158 (.slice a2 ys.length c2) (ys) :: vc 122 (.slice ad18 (zs ++ ([⟨(at_ es ((k : Nat) : Int)).kd, (at_ es ((k : Nat) : Int)).tm, (at_ es ((k : Nat) : Int)).u, (at_ es ((k : Nat) : Int)).v, (at_ es ((k : Nat) : Int)).w, (at_ es ((k : Nat) : Int)).lb, (at_ es ((k : Nat) : Int)).sg⟩] : List Ev)).length cp19) (zs ++ ([⟨(at_ es ((k : Nat) : Int)).kd, (at_ es ((k : Nat) : Int)).tm, (at_ es ((k : Nat) : Int)).u, (at_ es ((k : Nat) : Int)).v, (at_ es ((k : Nat) : Int)).w, (at_ es ((k : Nat) : Int)).lb, (at_ es ((k : Nat) : Int)).sg⟩] : List Ev)) :: blk b1 [I64 (kd), I64 (wd), I64 (mo)] 73 :: blk b3 [I64 ((at_ es ((k : Nat) : Int)).kd), I64 ((at_ es ((k : Nat) : Int)).tm), I64 ((at_ es ((k : Nat) : Int)).u), I64 ((at_ es ((k : Nat) : Int)).v), I64 ((at_ es ((k : Nat) : Int)).w), I64 ((at_ es ((k : Nat) : Int)).lb), I64 ((at_ es ((k : Nat) : Int)).sg)] 122 :: I)
             refine G.r (Runs.move rfl) ?_
             refine G.r (Runs.extract rfl rfl) ?_
             refine G.r (Runs.extract rfl rfl) ?_
             refine G.r (Runs.assign rfl) ?_
             refine G.r (Runs.assign rfl) ?_
             refine G.nt ?_
             refine W.sub (L' := [(19, _), (10, _), (0, _), (1, _), (5, _), (9, _), (37, _), (38, _), (39, _)]) (Sub.cons rfl (Sub.cons rfl (Sub.cons rfl (Sub.cons rfl (Sub.cons rfl (Sub.cons rfl (Sub.cons rfl (Sub.cons rfl (Sub.cons rfl Sub.nil))))))))) ?_
             refine W.sr ?_
             refine G.r (Runs.lds (vs := [_, _]) ty71) ?_
             refine G.r (Runs.move rfl) ?_
             refine G.e (Eff.call call87 rfl rfl (CallS.fit (J := vc 158 (.slice ad12 (stepL ys (at_ es ((k : Nat) : Int))).length cp13) (stepL ys (at_ es ((k : Nat) : Int))) :: vc 122 (.slice ad20 (goneL kd wd mo ((at_ es ((k : Nat) : Int)).tm) (stepL ys (at_ es ((k : Nat) : Int)))).length cp21) (goneL kd wd mo ((at_ es ((k : Nat) : Int)).tm) (stepL ys (at_ es ((k : Nat) : Int)))) :: vc 122 (.slice ad17 1 1) (([⟨(at_ es ((k : Nat) : Int)).kd, (at_ es ((k : Nat) : Int)).tm, (at_ es ((k : Nat) : Int)).u, (at_ es ((k : Nat) : Int)).v, (at_ es ((k : Nat) : Int)).w, (at_ es ((k : Nat) : Int)).lb, (at_ es ((k : Nat) : Int)).sg⟩] : List Ev)) :: blk b2 [I64 (nd), .slice ad12 (stepL ys (at_ es ((k : Nat) : Int))).length cp13] 71 :: vc 158 (.slice a2 ys.length c2) (ys) :: vc 122 (.slice ad18 (zs ++ ([⟨(at_ es ((k : Nat) : Int)).kd, (at_ es ((k : Nat) : Int)).tm, (at_ es ((k : Nat) : Int)).u, (at_ es ((k : Nat) : Int)).v, (at_ es ((k : Nat) : Int)).w, (at_ es ((k : Nat) : Int)).lb, (at_ es ((k : Nat) : Int)).sg⟩] : List Ev)).length cp19) (zs ++ ([⟨(at_ es ((k : Nat) : Int)).kd, (at_ es ((k : Nat) : Int)).tm, (at_ es ((k : Nat) : Int)).u, (at_ es ((k : Nat) : Int)).v, (at_ es ((k : Nat) : Int)).w, (at_ es ((k : Nat) : Int)).lb, (at_ es ((k : Nat) : Int)).sg⟩] : List Ev)) :: blk b1 [I64 (kd), I64 (wd), I64 (mo)] 73 :: blk b3 [I64 ((at_ es ((k : Nat) : Int)).kd), I64 ((at_ es ((k : Nat) : Int)).tm), I64 ((at_ es ((k : Nat) : Int)).u), I64 ((at_ es ((k : Nat) : Int)).v), I64 ((at_ es ((k : Nat) : Int)).w), I64 ((at_ es ((k : Nat) : Int)).lb), I64 ((at_ es ((k : Nat) : Int)).sg)] 122 :: I) Fit.s (All5_base (nd := nd) (xs := stepL ys (at_ es ((k : Nat) : Int))) (es := goneL kd wd mo ((at_ es ((k : Nat) : Int)).tm) (stepL ys (at_ es ((k : Nat) : Int)))) Sl.o hI3.val (fitgone hI3.val hfe.tm) (by first | omega | (have h := stepL_len ys (at_ es ((k : Nat) : Int)); have h9 := gone_len kd wd mo (at_ es ((k : Nat) : Int)).tm (stepL ys (at_ es ((k : Nat) : Int))); omega))))) ?_
             rintro _ _ ⟨_, _, ⟨⟨ad22, cp23, nn24⟩, rfl, rfl⟩, rfl, rfl⟩
             show G Try.prog κ _ _ _ _ ([(129, .tuple #[.agg #[I64 (nd), .slice ad22 (List.foldl stepL (stepL ys (at_ es ((k : Nat) : Int))) (goneL kd wd mo ((at_ es ((k : Nat) : Int)).tm) (stepL ys (at_ es ((k : Nat) : Int))))).length cp23], I64 (nn24), I64 (0)]), (128, .slice ad20 (goneL kd wd mo ((at_ es ((k : Nat) : Int)).tm) (stepL ys (at_ es ((k : Nat) : Int)))).length cp21), (127, .agg #[I64 (nd), .slice ad12 (stepL ys (at_ es ((k : Nat) : Int))).length cp13]), (19, .slice ad20 (goneL kd wd mo ((at_ es ((k : Nat) : Int)).tm) (stepL ys (at_ es ((k : Nat) : Int)))).length cp21), (10, .slice ad18 (zs ++ ([⟨(at_ es ((k : Nat) : Int)).kd, (at_ es ((k : Nat) : Int)).tm, (at_ es ((k : Nat) : Int)).u, (at_ es ((k : Nat) : Int)).v, (at_ es ((k : Nat) : Int)).w, (at_ es ((k : Nat) : Int)).lb, (at_ es ((k : Nat) : Int)).sg⟩] : List Ev)).length cp19), (0, I64 (nd)), (1, va), (5, .pointer (some ⟨b1, 0, none⟩)), (9, .pointer (some ⟨b2, 0, none⟩)), (37, va), (38, I64 (((es.length : Nat) : Int))), (39, I64 (((k : Nat) : Int)))] : Env) (vc 158 (.slice ad22 (List.foldl stepL (stepL ys (at_ es ((k : Nat) : Int))) (goneL kd wd mo ((at_ es ((k : Nat) : Int)).tm) (stepL ys (at_ es ((k : Nat) : Int))))).length cp23) (List.foldl stepL (stepL ys (at_ es ((k : Nat) : Int))) (goneL kd wd mo ((at_ es ((k : Nat) : Int)).tm) (stepL ys (at_ es ((k : Nat) : Int))))) :: vc 122 (.slice ad20 (goneL kd wd mo ((at_ es ((k : Nat) : Int)).tm) (stepL ys (at_ es ((k : Nat) : Int)))).length cp21) (goneL kd wd mo ((at_ es ((k : Nat) : Int)).tm) (stepL ys (at_ es ((k : Nat) : Int)))) :: vc 122 (.slice ad17 1 1) (([⟨(at_ es ((k : Nat) : Int)).kd, (at_ es ((k : Nat) : Int)).tm, (at_ es ((k : Nat) : Int)).u, (at_ es ((k : Nat) : Int)).v, (at_ es ((k : Nat) : Int)).w, (at_ es ((k : Nat) : Int)).lb, (at_ es ((k : Nat) : Int)).sg⟩] : List Ev)) :: blk b2 [I64 (nd), .slice ad12 (stepL ys (at_ es ((k : Nat) : Int))).length cp13] 71 :: vc 158 (.slice a2 ys.length c2) (ys) :: vc 122 (.slice ad18 (zs ++ ([⟨(at_ es ((k : Nat) : Int)).kd, (at_ es ((k : Nat) : Int)).tm, (at_ es ((k : Nat) : Int)).u, (at_ es ((k : Nat) : Int)).v, (at_ es ((k : Nat) : Int)).w, (at_ es ((k : Nat) : Int)).lb, (at_ es ((k : Nat) : Int)).sg⟩] : List Ev)).length cp19) (zs ++ ([⟨(at_ es ((k : Nat) : Int)).kd, (at_ es ((k : Nat) : Int)).tm, (at_ es ((k : Nat) : Int)).u, (at_ es ((k : Nat) : Int)).v, (at_ es ((k : Nat) : Int)).w, (at_ es ((k : Nat) : Int)).lb, (at_ es ((k : Nat) : Int)).sg⟩] : List Ev)) :: blk b1 [I64 (kd), I64 (wd), I64 (mo)] 73 :: blk b3 [I64 ((at_ es ((k : Nat) : Int)).kd), I64 ((at_ es ((k : Nat) : Int)).tm), I64 ((at_ es ((k : Nat) : Int)).u), I64 ((at_ es ((k : Nat) : Int)).v), I64 ((at_ es ((k : Nat) : Int)).w), I64 ((at_ es ((k : Nat) : Int)).lb), I64 ((at_ es ((k : Nat) : Int)).sg)] 122 :: I)
             refine G.r (Runs.move rfl) ?_
             refine G.r (Runs.extract rfl rfl) ?_
             refine G.r (Runs.extract rfl rfl) ?_
             refine G.r (Runs.extract rfl rfl) ?_
             refine G.e (Eff.st (cs := [_, _]) (vs := [_, _]) (cs' := [_, _]) ty71) ?_
             rintro _ _ ⟨rfl, rfl⟩
             refine G.nt ?_
             refine W.sub (L' := [(19, _), (10, _), (0, _), (1, _), (5, _), (9, _), (37, _), (38, _), (39, _)]) (Sub.cons rfl (Sub.cons rfl (Sub.cons rfl (Sub.cons rfl (Sub.cons rfl (Sub.cons rfl (Sub.cons rfl (Sub.cons rfl (Sub.cons rfl Sub.nil))))))))) ?_
             refine W.region ?_
             refine G.r (Runs.move rfl) ?_
             refine G.r (Runs.move rfl) ?_
             refine G.e (Eff.app (α := Ev) (e := 122) (xs := zs ++ ([⟨(at_ es ((k : Nat) : Int)).kd, (at_ es ((k : Nat) : Int)).tm, (at_ es ((k : Nat) : Int)).u, (at_ es ((k : Nat) : Int)).v, (at_ es ((k : Nat) : Int)).w, (at_ es ((k : Nat) : Int)).lb, (at_ es ((k : Nat) : Int)).sg⟩] : List Ev)) (ys := goneL kd wd mo ((at_ es ((k : Nat) : Int)).tm) (stepL ys (at_ es ((k : Nat) : Int)))) Try.underlying81 ty122 rfl rfl rfl (by repeat (first | exact List.mem_cons_self | apply List.mem_cons_of_mem)) Sl.o (by first | omega | (simp only [List.length_append, List.length_cons, List.length_nil]; omega) | (have h := stepL_len ys (at_ es ((k : Nat) : Int)); have h9 := gone_len kd wd mo (at_ es ((k : Nat) : Int)).tm (stepL ys (at_ es ((k : Nat) : Int))); first | omega | (simp only [List.length_append, List.length_cons, List.length_nil]; omega))) (by decide) rfl (fun _ _ => (by repeat (first | exact At.head _ _ _ | apply At.tail)))) ?_
             rintro _ _ ⟨ad25, cp26, rfl, rfl⟩
             refine G.r (Runs.assign rfl) ?_
             refine G.nil ?_
             refine V.block_normal ?_
             refine V.then ?_
             refine W.region ?_
             refine G.r (Runs.add rfl rfl (by unfold InR; omega)) ?_
             refine G.r (Runs.move rfl) ?_
             refine G.nil ?_
             have hgl := gone_len kd wd mo (at_ es ((k : Nat) : Int)).tm (stepL ys (at_ es ((k : Nat) : Int)))
             have hsl := stepL_len ys (at_ es ((k : Nat) : Int))
             have hgs := gone_steps (kd := kd) (wd := wd) (mo := mo) (nw := (at_ es ((k : Nat) : Int)).tm) hI3.val
             exact V.next ((k + 1), (ad22), (cp23), (ad25), (cp26), (List.filter (inW kd wd mo (at_ es ((k : Nat) : Int)).tm (stepL ys (at_ es ((k : Nat) : Int)))) (stepL ys (at_ es ((k : Nat) : Int)))), (zs ++ [(at_ es ((k : Nat) : Int))] ++ goneL kd wd mo (at_ es ((k : Nat) : Int)).tm (stepL ys (at_ es ((k : Nat) : Int))))) (show ((k + 1 : Nat) ≤ es.length) ∧ (slideS kd wd mo (List.take (k + 1 : Nat) es) = ((List.filter (inW kd wd mo (at_ es ((k : Nat) : Int)).tm (stepL ys (at_ es ((k : Nat) : Int)))) (stepL ys (at_ es ((k : Nat) : Int))) : List Lk), (zs ++ [(at_ es ((k : Nat) : Int))] ++ goneL kd wd mo (at_ es ((k : Nat) : Int)).tm (stepL ys (at_ es ((k : Nat) : Int))) : List Ev))) ∧ (SlI nd kd wd (lastT es (k + 1 : Nat)) (List.filter (inW kd wd mo (at_ es ((k : Nat) : Int)).tm (stepL ys (at_ es ((k : Nat) : Int)))) (stepL ys (at_ es ((k : Nat) : Int))) : List Lk)) ∧ ((List.filter (inW kd wd mo (at_ es ((k : Nat) : Int)).tm (stepL ys (at_ es ((k : Nat) : Int)))) (stepL ys (at_ es ((k : Nat) : Int))) : List Lk).length + (zs ++ [(at_ es ((k : Nat) : Int))] ++ goneL kd wd mo (at_ es ((k : Nat) : Int)).tm (stepL ys (at_ es ((k : Nat) : Int))) : List Ev).length ≤ 2 * (k + 1 : Nat)) ∧ (streamE nd es = streamS nd (lastT es (k + 1 : Nat)) (es.drop (k + 1 : Nat))) ∧ (0 ≤ lastT es (k + 1 : Nat)) from ⟨(by omega), (by rw [slideS_succ (by omega), hst]; exact evStep_three hag c117), (by rw [lastT_succ]; exact hI3.filter _), (by simp only [List.length_append, List.length_cons, List.length_nil]; omega), hs1, (by rw [lastT_succ]; exact hfe.tm.1)⟩) (show es.length - (k + 1 : Nat) < es.length - k from (by omega)) (Sub.cons rfl (Sub.cons rfl (Sub.cons rfl (Sub.cons rfl (Sub.cons (lookV rfl (by first | rfl | simp)) (Sub.cons rfl (Sub.cons rfl (Sub.cons lookO Sub.nil)))))))) (show Fit κ _ (blk b2 [I64 (nd), .slice (ad22) (List.filter (inW kd wd mo (at_ es ((k : Nat) : Int)).tm (stepL ys (at_ es ((k : Nat) : Int)))) (stepL ys (at_ es ((k : Nat) : Int)))).length (cp23)] 71 :: vc 158 (.slice (ad22) (List.filter (inW kd wd mo (at_ es ((k : Nat) : Int)).tm (stepL ys (at_ es ((k : Nat) : Int)))) (stepL ys (at_ es ((k : Nat) : Int)))).length (cp23)) ((List.filter (inW kd wd mo (at_ es ((k : Nat) : Int)).tm (stepL ys (at_ es ((k : Nat) : Int)))) (stepL ys (at_ es ((k : Nat) : Int))))) :: vc 122 (.slice (ad25) (zs ++ [(at_ es ((k : Nat) : Int))] ++ goneL kd wd mo (at_ es ((k : Nat) : Int)).tm (stepL ys (at_ es ((k : Nat) : Int)))).length (cp26)) ((zs ++ [(at_ es ((k : Nat) : Int))] ++ goneL kd wd mo (at_ es ((k : Nat) : Int)).tm (stepL ys (at_ es ((k : Nat) : Int))))) :: blk b1 [I64 (kd), I64 (wd), I64 (mo)] 73 :: I) from (by rw [← hgs]; exact Fit.s))
           ·refine W.skip ?_
            refine V.block_normal ?_
            refine V.then ?_
            refine W.region ?_
            refine G.r (Runs.add rfl rfl (by unfold InR; omega)) ?_
            refine G.r (Runs.move rfl) ?_
            refine G.nil ?_
            have hsl := stepL_len ys (at_ es ((k : Nat) : Int))
            exact V.next ((k + 1), (ad12), (cp13), (ad18), (cp19), ((stepL ys (at_ es ((k : Nat) : Int)))), (zs ++ [(at_ es ((k : Nat) : Int))])) (show ((k + 1 : Nat) ≤ es.length) ∧ (slideS kd wd mo (List.take (k + 1 : Nat) es) = (((stepL ys (at_ es ((k : Nat) : Int))) : List Lk), (zs ++ [(at_ es ((k : Nat) : Int))] : List Ev))) ∧ (SlI nd kd wd (lastT es (k + 1 : Nat)) ((stepL ys (at_ es ((k : Nat) : Int))) : List Lk)) ∧ (((stepL ys (at_ es ((k : Nat) : Int))) : List Lk).length + (zs ++ [(at_ es ((k : Nat) : Int))] : List Ev).length ≤ 2 * (k + 1 : Nat)) ∧ (streamE nd es = streamS nd (lastT es (k + 1 : Nat)) (es.drop (k + 1 : Nat))) ∧ (0 ≤ lastT es (k + 1 : Nat)) from ⟨(by omega), (by rw [slideS_succ (by omega), hst]; exact evStep_not hag c117), (by rw [lastT_succ]; exact hI3), (by simp only [List.length_append, List.length_cons, List.length_nil]; omega), hs1, (by rw [lastT_succ]; exact hfe.tm.1)⟩) (show es.length - (k + 1 : Nat) < es.length - k from (by omega)) (Sub.cons rfl (Sub.cons rfl (Sub.cons rfl (Sub.cons rfl (Sub.cons (lookV rfl (by first | rfl | simp)) (Sub.cons rfl (Sub.cons rfl (Sub.cons lookO Sub.nil)))))))) (show Fit κ _ (blk b2 [I64 (nd), .slice (ad12) ((stepL ys (at_ es ((k : Nat) : Int)))).length (cp13)] 71 :: vc 158 (.slice (ad12) ((stepL ys (at_ es ((k : Nat) : Int)))).length (cp13)) (((stepL ys (at_ es ((k : Nat) : Int))))) :: vc 122 (.slice (ad18) (zs ++ [(at_ es ((k : Nat) : Int))]).length (cp19)) ((zs ++ [(at_ es ((k : Nat) : Int))])) :: blk b1 [I64 (kd), I64 (wd), I64 (mo)] 73 :: I) from Fit.s)
     ·refine W.exit ?_
      refine V.then_exit ?_
      refine V.then_exit ?_
      refine V.block_hit ?_
      refine V.then ?_
      refine W.sr ?_
      refine G.r (Runs.move rfl) ?_
      refine G.r (Runs.assign rfl) ?_
      refine G.r (Runs.assign rfl) ?_
      refine G.nt ?_
      refine W.ret ?_
      have hE2 : (slideS kd wd mo es) = (xs, out) := by rw [← hst, show List.take k es = es from List.take_of_length_le (by omega)]
      have hz : (slideE nd kd wd mo es) = 0 := (slideE_st c24).trans (hs0.trans (streamS_end (by omega)))
      exact V.ret2 rfl rfl rfl (vc 122 (.slice o1 (slideS kd wd mo es).2.length d1) (slideS kd wd mo es).2 :: I) (by rw [hE2]; exact Fit.s) (.inr ⟨o1, d1, hz, by rw [hE2], rfl⟩)

end Go.Sl
namespace Go.Sl
open Go.Proofs
set_option linter.unusedVariables false
set_option linter.unusedSimpArgs false
set_option maxRecDepth 4000
theorem evmod {s x N : Int} (h1 : 0 ≤ s) (h2 : s < N) (h3 : 0 ≤ x) (h4 : x < N - 1) : (0 ≤ Int.tmod (s + 1 + x) N ∧ Int.tmod (s + 1 + x) N < N) ∧ s ≠ Int.tmod (s + 1 + x) N := by
  rw [Int.tmod_eq_emod_of_nonneg (by omega)]
  by_cases h : s + 1 + x < N
  · rw [Int.emod_eq_of_lt (by omega) h]; omega
  · rw [show s + 1 + x = (s + 1 + x - N) + N by omega, Int.add_emod_right, Int.emod_eq_of_lt (by omega) (by omega)]; omega
theorem fit_mk {n kd tm u v w lb sg : Int} (hk : 1 ≤ kd ∧ kd ≤ 3) (ht : 0 ≤ tm ∧ tm ≤ 1048576) (hu : 0 ≤ u ∧ u < n) (hn : n ≤ 64) (hv : kd = 3 → v = 0) (hv2 : kd ≠ 3 → (0 ≤ v ∧ v < n) ∧ u ≠ v) (hr : kd = 1 → rightW w lb sg) (hz : kd ≠ 1 → w = 0 ∧ lb = 0 ∧ sg = 0) : FitOk n ⟨kd, tm, u, v, w, lb, sg⟩ :=
  ⟨hk, ht, ⟨by show 0 ≤ u ∧ u < 64; omega, hv, fun h => by have := hv2 h; show (0 ≤ v ∧ v < 64) ∧ u ≠ v; omega⟩, hr, by
    show u < n ∧ v < n
    by_cases h : kd = 3
    · have := hv h; omega
    · have := hv2 h; omega, hz⟩
/-- Events that were made, up to a time. -/
structure EvOk (n tt : Int) (es : List Ev) : Prop where
  fit : ∀ e ∈ es, FitOk n e
  tm : ∀ e ∈ es, e.tm ≤ tt
  asc : ∀ j : Nat, j < es.length → lastT es j ≤ (at_ es (j : Int)).tm
theorem EvOk.nil {n tt : Int} : EvOk n tt [] := ⟨fun e h => (by cases h), fun e h => (by cases h), fun j h => absurd h (Nat.not_lt_zero _)⟩
theorem EvOk.later {n tt ty : Int} {es : List Ev} (h : EvOk n tt es) (ht : tt ≤ ty) : EvOk n ty es := ⟨h.fit, fun e he => by have := h.tm e he; omega, h.asc⟩
theorem EvOk.push {n tt : Int} {es : List Ev} {e : Ev} (h : EvOk n tt es) (hf : FitOk n e) (ht : e.tm = tt) : EvOk n tt (es ++ [e]) := by
  refine ⟨fun x hx => ?_, fun x hx => ?_, fun j hj => ?_⟩
  · rcases List.mem_append.1 hx with hx | hx
    · exact h.fit x hx
    · rw [List.mem_singleton.1 hx]; exact hf
  · rcases List.mem_append.1 hx with hx | hx
    · exact h.tm x hx
    · rw [List.mem_singleton.1 hx]; omega
  · have hl : lastT (es ++ [e]) j = lastT es j := by
      unfold lastT
      split
      · rfl
      · rw [List.length_append, List.length_singleton] at hj
        rw [show (j : Int) - 1 = ((j - 1 : Nat) : Int) by omega, at_append_left es [e] (j - 1) (by omega)]
    rw [hl]
    by_cases hje : j < es.length
    · rw [at_append_left es [e] j hje]; exact h.asc j hje
    · obtain rfl : j = es.length := by rw [List.length_append, List.length_singleton] at hj; omega
      rw [at_last, ht]
      unfold lastT
      split
      · rw [← ht]; exact hf.tm.1
      · rw [show (es.length : Int) - 1 = ((es.length - 1 : Nat) : Int) by omega]; exact h.tm _ (at_mem (by omega) (by omega))
theorem EvOk.st {n tt : Int} {es : List Ev} (h : EvOk n tt es) (hn : 0 ≤ n ∧ n ≤ 64) (hl : es.length ≤ 65536) : StOk n es := ⟨hn, hl, fun j hj => h.fit _ (at_mem (by omega) (by omega)), h.asc⟩
theorem streamS_ok {nd : Int} {es : List Ev} (hf : ∀ j : Nat, j < es.length → FitOk nd (at_ es (j : Int))) (ha : ∀ j : Nat, j < es.length → lastT es j ≤ (at_ es (j : Int)).tm) : ∀ m k : Nat, k + m = es.length → streamS nd (lastT es k) (es.drop k) = 0
  | 0, k, h => streamS_end (by omega)
  | m + 1, k, h => by
    rw [streamS_step (by omega) (fitE_ok.2 (hf k (by omega))) (by have := ha k (by omega); omega)]
    exact streamS_ok hf ha m (k + 1) (by omega)
theorem StOk.zero {nd : Int} {es : List Ev} (h : StOk nd es) : streamE nd es = 0 := by
  have h1 := h.nodes
  have h2 := h.len
  unfold streamE
  rw [if_neg (by omega), if_neg (by omega)]
  exact streamS_ok h.fit h.asc es.length 0 (by omega)

set_option maxHeartbeats 2000000 in
theorem MkEvent_base {κ : Ctx} {I : List Item} {b : Nat} {lv : Value} {ls : List Int} {i : Int} {n t : Int} (hl : ∀ q, Sl κ (deck b lv q :: I) lv ls) (h0 : 0 ≤ i)  (hn : 2 ≤ n ∧ n ≤ 64) (ht : 0 ≤ t ∧ t ≤ 1000000) :
    CallS Try.prog κ 153 [.pointer (some ⟨b, 0, none⟩), I64 (n), I64 (t)] (blk b [lv, I64 (i)] 129 :: I) (fun r J => ∃ y : Ev × Int, ((r = .agg #[I64 y.1.kd, I64 y.1.tm, I64 y.1.u, I64 y.1.v, I64 y.1.w, I64 y.1.lb, I64 y.1.sg] ∧ FitOk n y.1 ∧ y.1.tm = t) ∧ 0 ≤ y.2) ∧ J = [] ++ deck b lv y.2 :: I) := by
 refine CallS.enter (L := [(0, .pointer (some ⟨b, 0, none⟩)), (1, I64 (n)), (2, I64 (t))]) Try.func153 rfl rfl rfl rfl ?_
 refine W.sr ?_
 refine G.e (Eff.alloc ty122 rfl) ?_
 rintro _ _ ⟨b1, rfl, rfl⟩
 refine G.nt ?_
 refine W.sr ?_
 refine G.r (Runs.move rfl) ?_
 refine G.r (Runs.move rfl) ?_
 refine G.r (Runs.move rfl) ?_
 refine G.e (Eff.call call25 rfl rfl (Next_ok (by repeat (first | exact AtF.head _ _ | apply AtF.tail)) (Sl.fit (hl _) Fit.m) (by omega) (by omega))) ?_
 rintro _ _ ⟨_, _, ⟨x2, i3, rfl, hx2, hi3, rfl⟩, rfl, rfl⟩
 show G Try.prog κ _ _ _ _ ([(12, I64 (x2)), (11, I64 (n)), (10, .pointer (some ⟨b, 0, none⟩)), (9, I64 (t)), (6, .pointer (some ⟨b1, 0, none⟩)), (0, .pointer (some ⟨b, 0, none⟩)), (1, I64 (n)), (2, I64 (t))] : Env) (blk b1 [I64 (0), I64 (0), I64 (0), I64 (0), I64 (0), I64 (0), I64 (0)] 122 :: blk b [lv, I64 (i3)] 129 :: I)
 refine G.r (Runs.build (cells := [_, _, _, _, _, _, _]) ty122 Try.underlying122 pl122 rfl rfl) ?_
 refine G.e (Eff.alloc ty122 rfl) ?_
 rintro _ _ ⟨b4, rfl, rfl⟩
 refine G.e (Eff.st (cs := [_, _, _, _, _, _, _]) (vs := [_, _, _, _, _, _, _]) (cs' := [_, _, _, _, _, _, _]) ty122) ?_
 rintro _ _ ⟨rfl, rfl⟩
 refine G.nt ?_
 refine W.cut (σ := Int × Int) (fun s => ([(0, .pointer (some ⟨b, 0, none⟩)), (2, I64 (t)), (6, .pointer (some ⟨b1, 0, none⟩)), (7, .pointer (some ⟨b4, 0, none⟩))] : Env)) (fun s => blk b4 [I64 (1), I64 (t), I64 (x2), I64 (s.1), I64 (0), I64 (0), I64 (0)] 122 :: blk b1 [I64 (0), I64 (0), I64 (0), I64 (0), I64 (0), I64 (0), I64 (0)] 122 :: blk b [lv, I64 (s.2)] 129 :: I) (fun s => ((0 ≤ s.1 ∧ s.1 < n) ∧ x2 ≠ s.1) ∧ (0 ≤ s.2)) ?_ ?_
 ·refine W.drawn mixed ?_
  refine A.hold (blk b1 [I64 (0), I64 (0), I64 (0), I64 (0), I64 (0), I64 (0), I64 (0)] 122 :: I) 12 ?_
  refine D.r 0 rfl (Runs.fieldAddr fld122_2 rfl) ?_ (hJ := Fit.sub)
  refine D.r 3 rfl (Runs.move rfl) ?_ (hJ := Fit.sub)
  refine D.r 4 rfl (Runs.move rfl) ?_ (hJ := Fit.sub)
  refine D.r 5 rfl (Runs.sub rfl rfl (by unfold InR; omega)) ?_ (hJ := Fit.sub)
  refine D.r 8 rfl (Runs.move rfl) ?_ (hJ := Fit.sub)
  refine D.step (rs := [1, 6]) (by kernel_rfl) rfl rfl (all2 ?_ (all1 ?_))
  ·refine Step.read rfl (Wanted.plain rfl) rfl rfl (Runs.ld ty3) Fit.sub ?_
   refine D.r 2 rfl (Runs.add rfl rfl (by unfold InR; omega)) ?_ (hJ := Fit.sub)
   refine D.step (rs := [6]) (by kernel_rfl) rfl rfl (all1 ?_)
   refine Step.eff rfl (Wanted.plain rfl) (Eff.call call25 rfl rfl (Next_ok (by repeat (first | exact AtF.head _ _ | apply AtF.tail)) (Sl.fit (hl _) Fit.m) (by omega) (by omega))) ?_
   rintro _ _ ⟨_, _, ⟨x5, i6, rfl, hx5, hi6, rfl⟩, rfl, rfl⟩
   refine ⟨Fit.sub, ?_⟩
   show D Try.prog κ _ _ _ _ _ _ _ ([(20, I64 (x5)), (16, I64 (x2 + 1)), (15, I64 (x2)), (22, I64 (n)), (19, I64 (n - 1)), (18, I64 (n)), (17, .pointer (some ⟨b, 0, none⟩)), (14, .pointer (some ⟨b4, 2, none⟩)), (7, .pointer (some ⟨b4, 0, none⟩)), (13, .agg #[I64 (1), I64 (t), I64 (x2), I64 (0), I64 (0), I64 (0), I64 (0)]), (12, I64 (x2)), (11, I64 (n)), (10, .pointer (some ⟨b, 0, none⟩)), (9, I64 (t)), (6, .pointer (some ⟨b1, 0, none⟩)), (0, .pointer (some ⟨b, 0, none⟩)), (1, I64 (n)), (2, I64 (t))] : Env) (blk b4 [I64 (1), I64 (t), I64 (x2), I64 (0), I64 (0), I64 (0), I64 (0)] 122 :: blk b1 [I64 (0), I64 (0), I64 (0), I64 (0), I64 (0), I64 (0), I64 (0)] 122 :: blk b [lv, I64 (i6)] 129 :: I)
   refine D.r 7 rfl (Runs.add rfl rfl (by unfold InR; omega)) ?_ (hJ := Fit.sub)
   refine D.r 9 rfl (Runs.rem rfl rfl (by omega)) ?_ (hJ := Fit.sub)
   refine D.r 10 rfl (Runs.fieldAddr fld122_3 rfl) ?_ (hJ := Fit.sub)
   refine D.step (rs := [11]) (by kernel_rfl) rfl rfl (all1 ?_)
   refine Step.eff rfl (Wanted.plain rfl) (Eff.st (cs := [_, _, _, _, _, _, _]) (vs := [_]) (cs' := [_, _, _, _, _, _, _]) ty3) ?_
   rintro _ _ ⟨rfl, rfl⟩
   refine ⟨Fit.sub, ?_⟩
   refine D.done (by kernel_rfl) ?_
   have htm := evmod (s := x2) (x := x5) (N := n) (by omega) (by omega) (by omega) (by omega)
   exact V.mid ((Int.tmod ((x2 + 1) + x5) n), (i6)) (show ((0 ≤ (Int.tmod ((x2 + 1) + x5) n : Int) ∧ (Int.tmod ((x2 + 1) + x5) n : Int) < n) ∧ x2 ≠ (Int.tmod ((x2 + 1) + x5) n : Int)) ∧ (0 ≤ (i6 : Int)) from ⟨htm, (by omega)⟩) (Sub.cons rfl (Sub.cons rfl (Sub.cons rfl (Sub.cons rfl Sub.nil)))) (show Fit κ _ (blk b4 [I64 (1), I64 (t), I64 (x2), I64 ((Int.tmod ((x2 + 1) + x5) n)), I64 (0), I64 (0), I64 (0)] 122 :: blk b1 [I64 (0), I64 (0), I64 (0), I64 (0), I64 (0), I64 (0), I64 (0)] 122 :: blk b [lv, I64 ((i6))] 129 :: I) from Fit.sub)
  ·refine Step.eff rfl (Wanted.plain rfl) (Eff.call call25 rfl rfl (Next_ok (by repeat (first | exact AtF.head _ _ | apply AtF.tail)) (Sl.fit (hl _) Fit.m) (by omega) (by omega))) ?_
   rintro _ _ ⟨_, _, ⟨x7, i8, rfl, hx7, hi8, rfl⟩, rfl, rfl⟩
   refine ⟨Fit.sub, ?_⟩
   show D Try.prog κ _ _ _ _ _ _ _ ([(20, I64 (x7)), (22, I64 (n)), (19, I64 (n - 1)), (18, I64 (n)), (17, .pointer (some ⟨b, 0, none⟩)), (14, .pointer (some ⟨b4, 2, none⟩)), (7, .pointer (some ⟨b4, 0, none⟩)), (13, .agg #[I64 (1), I64 (t), I64 (x2), I64 (0), I64 (0), I64 (0), I64 (0)]), (12, I64 (x2)), (11, I64 (n)), (10, .pointer (some ⟨b, 0, none⟩)), (9, I64 (t)), (6, .pointer (some ⟨b1, 0, none⟩)), (0, .pointer (some ⟨b, 0, none⟩)), (1, I64 (n)), (2, I64 (t))] : Env) (blk b4 [I64 (1), I64 (t), I64 (x2), I64 (0), I64 (0), I64 (0), I64 (0)] 122 :: blk b1 [I64 (0), I64 (0), I64 (0), I64 (0), I64 (0), I64 (0), I64 (0)] 122 :: blk b [lv, I64 (i8)] 129 :: I)
   refine D.step (rs := [1]) (by kernel_rfl) rfl rfl (all1 ?_)
   refine Step.read rfl (Wanted.plain rfl) rfl rfl (Runs.ld ty3) Fit.sub ?_
   refine D.r 2 rfl (Runs.add rfl rfl (by unfold InR; omega)) ?_ (hJ := Fit.sub)
   refine D.r 7 rfl (Runs.add rfl rfl (by unfold InR; omega)) ?_ (hJ := Fit.sub)
   refine D.r 9 rfl (Runs.rem rfl rfl (by omega)) ?_ (hJ := Fit.sub)
   refine D.r 10 rfl (Runs.fieldAddr fld122_3 rfl) ?_ (hJ := Fit.sub)
   refine D.step (rs := [11]) (by kernel_rfl) rfl rfl (all1 ?_)
   refine Step.eff rfl (Wanted.plain rfl) (Eff.st (cs := [_, _, _, _, _, _, _]) (vs := [_]) (cs' := [_, _, _, _, _, _, _]) ty3) ?_
   rintro _ _ ⟨rfl, rfl⟩
   refine ⟨Fit.sub, ?_⟩
   refine D.done (by kernel_rfl) ?_
   have htm := evmod (s := x2) (x := x7) (N := n) (by omega) (by omega) (by omega) (by omega)
   exact V.mid ((Int.tmod ((x2 + 1) + x7) n), (i8)) (show ((0 ≤ (Int.tmod ((x2 + 1) + x7) n : Int) ∧ (Int.tmod ((x2 + 1) + x7) n : Int) < n) ∧ x2 ≠ (Int.tmod ((x2 + 1) + x7) n : Int)) ∧ (0 ≤ (i8 : Int)) from ⟨htm, (by omega)⟩) (Sub.cons rfl (Sub.cons rfl (Sub.cons rfl (Sub.cons rfl Sub.nil)))) (show Fit κ _ (blk b4 [I64 (1), I64 (t), I64 (x2), I64 ((Int.tmod ((x2 + 1) + x7) n)), I64 (0), I64 (0), I64 (0)] 122 :: blk b1 [I64 (0), I64 (0), I64 (0), I64 (0), I64 (0), I64 (0), I64 (0)] 122 :: blk b [lv, I64 ((i8))] 129 :: I) from Fit.sub)
 ·rintro ⟨vv, i9⟩ hp
  obtain ⟨hvv, hi9⟩ : ((0 ≤ vv ∧ vv < n) ∧ x2 ≠ vv) ∧ (0 ≤ i9) := hp
  show W Try.prog κ 56 _ _ ([(0, .pointer (some ⟨b, 0, none⟩)), (2, I64 (t)), (6, .pointer (some ⟨b1, 0, none⟩)), (7, .pointer (some ⟨b4, 0, none⟩))] : Env) (blk b4 [I64 (1), I64 (t), I64 (x2), I64 (vv), I64 (0), I64 (0), I64 (0)] 122 :: blk b1 [I64 (0), I64 (0), I64 (0), I64 (0), I64 (0), I64 (0), I64 (0)] 122 :: blk b [lv, I64 (i9)] 129 :: I)
  refine W.seq ?_
  refine W.sr ?_
  refine G.r (Runs.move rfl) ?_
  refine G.e (Eff.call call25 rfl rfl (Next_ok (by repeat (first | exact AtF.head _ _ | apply AtF.tail)) (Sl.fit (hl _) Fit.m) (by omega) (by omega))) ?_
  rintro _ _ ⟨_, _, ⟨x9, i10, rfl, hx9, hi10, rfl⟩, rfl, rfl⟩
  show G Try.prog κ _ _ _ _ ([(26, I64 (x9)), (25, .pointer (some ⟨b, 0, none⟩)), (0, .pointer (some ⟨b, 0, none⟩)), (2, I64 (t)), (6, .pointer (some ⟨b1, 0, none⟩)), (7, .pointer (some ⟨b4, 0, none⟩))] : Env) (blk b4 [I64 (1), I64 (t), I64 (x2), I64 (vv), I64 (0), I64 (0), I64 (0)] 122 :: blk b1 [I64 (0), I64 (0), I64 (0), I64 (0), I64 (0), I64 (0), I64 (0)] 122 :: blk b [lv, I64 (i10)] 129 :: I)
  refine G.r (Runs.assign rfl) ?_
  refine G.nt ?_
  refine W.block ?_
  refine W.sr ?_
  refine G.r (Runs.move rfl) ?_
  refine G.r (Runs.geq rfl rfl) ?_
  refine G.r (Runs.assign rfl) ?_
  refine G.nt ?_
  refine W.ite rfl (fun c27 => ?_) (fun c27 => ?_)
  ·refine W.sr ?_
   refine G.r (Runs.move rfl) ?_
   refine G.r (Runs.fieldAddr fld122_2 rfl) ?_
   refine G.r (Runs.ld ty3) ?_
   refine G.r (Runs.build (cells := [_, _, _, _, _, _, _]) ty122 Try.underlying122 pl122 rfl rfl) ?_
   refine G.e (Eff.st (cs := [_, _, _, _, _, _, _]) (vs := [_, _, _, _, _, _, _]) (cs' := [_, _, _, _, _, _, _]) ty122) ?_
   rintro _ _ ⟨rfl, rfl⟩
   refine G.nt ?_
   refine W.sub (L' := [(6, _)]) (Sub.cons rfl Sub.nil) ?_
   refine W.ret ?_
   refine V.block_ret ?_
   refine V.then_ret ?_
   exact V.retc rfl ty122 rfl (by repeat (first | exact List.mem_cons_self | apply List.mem_cons_of_mem)) rfl (blk b [lv, I64 (i10)] 129 :: I) Fit.sub ⟨(⟨3, t, x2, 0, 0, 0, 0⟩, i10), ⟨⟨rfl, fit_mk (by omega) (by omega) (by omega) (by omega) (fun h => by omega) (fun h => by omega) (fun h => by unfold rightW; omega) (fun h => by omega), rfl⟩, by show 0 ≤ i10; omega⟩, rfl⟩
  ·refine W.sr ?_
   refine G.r (Runs.move rfl) ?_
   refine G.r (Runs.geq rfl rfl) ?_
   refine G.r (Runs.assign rfl) ?_
   refine G.nt ?_
   refine W.ite rfl (fun c34 => ?_) (fun c34 => ?_)
   ·refine W.sr ?_
    refine G.r (Runs.move rfl) ?_
    refine G.r (Runs.fieldAddr fld122_2 rfl) ?_
    refine G.r (Runs.ld ty3) ?_
    refine G.r (Runs.fieldAddr fld122_3 rfl) ?_
    refine G.r (Runs.ld ty3) ?_
    refine G.r (Runs.build (cells := [_, _, _, _, _, _, _]) ty122 Try.underlying122 pl122 rfl rfl) ?_
    refine G.e (Eff.st (cs := [_, _, _, _, _, _, _]) (vs := [_, _, _, _, _, _, _]) (cs' := [_, _, _, _, _, _, _]) ty122) ?_
    rintro _ _ ⟨rfl, rfl⟩
    refine G.nt ?_
    refine W.sub (L' := [(6, _)]) (Sub.cons rfl Sub.nil) ?_
    refine W.ret ?_
    refine V.block_ret ?_
    refine V.then_ret ?_
    exact V.retc rfl ty122 rfl (by repeat (first | exact List.mem_cons_self | apply List.mem_cons_of_mem)) rfl (blk b [lv, I64 (i10)] 129 :: I) Fit.sub ⟨(⟨2, t, x2, vv, 0, 0, 0⟩, i10), ⟨⟨rfl, fit_mk (by omega) (by omega) (by omega) (by omega) (fun h => by omega) (fun h => by omega) (fun h => by unfold rightW; omega) (fun h => by omega), rfl⟩, by show 0 ≤ i10; omega⟩, rfl⟩
   ·refine W.skip ?_
    refine V.block_normal ?_
    refine V.then ?_
    refine W.sr ?_
    refine G.r (Runs.move rfl) ?_
    refine G.e (Eff.call call25 rfl rfl (Next_ok (by repeat (first | exact AtF.head _ _ | apply AtF.tail)) (Sl.fit (hl _) Fit.m) (by omega) (by omega))) ?_
    rintro _ _ ⟨_, _, ⟨x11, i12, rfl, hx11, hi12, rfl⟩, rfl, rfl⟩
    show G Try.prog κ _ _ _ _ ([(44, I64 (x11)), (43, .pointer (some ⟨b, 0, none⟩)), (34, .bool (decide (5 ≤ x9))), (36, .bool (decide (5 ≤ x9))), (35, I64 (x9)), (27, .bool (decide (8 ≤ x9))), (29, .bool (decide (8 ≤ x9))), (28, I64 (x9)), (8, I64 (x9)), (26, I64 (x9)), (25, .pointer (some ⟨b, 0, none⟩)), (0, .pointer (some ⟨b, 0, none⟩)), (2, I64 (t)), (6, .pointer (some ⟨b1, 0, none⟩)), (7, .pointer (some ⟨b4, 0, none⟩))] : Env) (blk b4 [I64 (1), I64 (t), I64 (x2), I64 (vv), I64 (0), I64 (0), I64 (0)] 122 :: blk b1 [I64 (0), I64 (0), I64 (0), I64 (0), I64 (0), I64 (0), I64 (0)] 122 :: blk b [lv, I64 (i12)] 129 :: I)
    refine G.r (Runs.add rfl rfl (by unfold InR; omega)) ?_
    refine G.r (Runs.move rfl) ?_
    refine G.e (Eff.call call25 rfl rfl (Next_ok (by repeat (first | exact AtF.head _ _ | apply AtF.tail)) (Sl.fit (hl _) Fit.m) (by omega) (by omega))) ?_
    rintro _ _ ⟨_, _, ⟨x13, i14, rfl, hx13, hi14, rfl⟩, rfl, rfl⟩
    show G Try.prog κ _ _ _ _ ([(47, I64 (x13)), (46, .pointer (some ⟨b, 0, none⟩)), (45, I64 (1 + x11)), (44, I64 (x11)), (43, .pointer (some ⟨b, 0, none⟩)), (34, .bool (decide (5 ≤ x9))), (36, .bool (decide (5 ≤ x9))), (35, I64 (x9)), (27, .bool (decide (8 ≤ x9))), (29, .bool (decide (8 ≤ x9))), (28, I64 (x9)), (8, I64 (x9)), (26, I64 (x9)), (25, .pointer (some ⟨b, 0, none⟩)), (0, .pointer (some ⟨b, 0, none⟩)), (2, I64 (t)), (6, .pointer (some ⟨b1, 0, none⟩)), (7, .pointer (some ⟨b4, 0, none⟩))] : Env) (blk b4 [I64 (1), I64 (t), I64 (x2), I64 (vv), I64 (0), I64 (0), I64 (0)] 122 :: blk b1 [I64 (0), I64 (0), I64 (0), I64 (0), I64 (0), I64 (0), I64 (0)] 122 :: blk b [lv, I64 (i14)] 129 :: I)
    refine G.r (Runs.move rfl) ?_
    refine G.e (Eff.call call25 rfl rfl (Next_ok (by repeat (first | exact AtF.head _ _ | apply AtF.tail)) (Sl.fit (hl _) Fit.m) (by omega) (by omega))) ?_
    rintro _ _ ⟨_, _, ⟨x15, i16, rfl, hx15, hi16, rfl⟩, rfl, rfl⟩
    show G Try.prog κ _ _ _ _ ([(49, I64 (x15)), (48, .pointer (some ⟨b, 0, none⟩)), (47, I64 (x13)), (46, .pointer (some ⟨b, 0, none⟩)), (45, I64 (1 + x11)), (44, I64 (x11)), (43, .pointer (some ⟨b, 0, none⟩)), (34, .bool (decide (5 ≤ x9))), (36, .bool (decide (5 ≤ x9))), (35, I64 (x9)), (27, .bool (decide (8 ≤ x9))), (29, .bool (decide (8 ≤ x9))), (28, I64 (x9)), (8, I64 (x9)), (26, I64 (x9)), (25, .pointer (some ⟨b, 0, none⟩)), (0, .pointer (some ⟨b, 0, none⟩)), (2, I64 (t)), (6, .pointer (some ⟨b1, 0, none⟩)), (7, .pointer (some ⟨b4, 0, none⟩))] : Env) (blk b4 [I64 (1), I64 (t), I64 (x2), I64 (vv), I64 (0), I64 (0), I64 (0)] 122 :: blk b1 [I64 (0), I64 (0), I64 (0), I64 (0), I64 (0), I64 (0), I64 (0)] 122 :: blk b [lv, I64 (i16)] 129 :: I)
    refine G.r (Runs.mul rfl rfl (by unfold InR; omega)) ?_
    refine G.r (Runs.sub rfl rfl (by unfold InR; omega)) ?_
    refine G.r (Runs.fieldAddr fld122_4 rfl) ?_
    refine G.e (Eff.st (cs := [_, _, _, _, _, _, _]) (vs := [_]) (cs' := [_, _, _, _, _, _, _]) ty3) ?_
    rintro _ _ ⟨rfl, rfl⟩
    refine G.r (Runs.fieldAddr fld122_5 rfl) ?_
    refine G.e (Eff.st (cs := [_, _, _, _, _, _, _]) (vs := [_]) (cs' := [_, _, _, _, _, _, _]) ty3) ?_
    rintro _ _ ⟨rfl, rfl⟩
    refine G.r (Runs.fieldAddr fld122_6 rfl) ?_
    refine G.e (Eff.st (cs := [_, _, _, _, _, _, _]) (vs := [_]) (cs' := [_, _, _, _, _, _, _]) ty3) ?_
    rintro _ _ ⟨rfl, rfl⟩
    refine G.nt ?_
    refine W.sub (L' := [(6, _), (7, _)]) (Sub.cons rfl (Sub.cons rfl Sub.nil)) ?_
    refine W.sr ?_
    refine G.r (Runs.lds (vs := [_, _, _, _, _, _, _]) ty122) ?_
    refine G.e (Eff.st (cs := [_, _, _, _, _, _, _]) (vs := [_, _, _, _, _, _, _]) (cs' := [_, _, _, _, _, _, _]) ty122) ?_
    rintro _ _ ⟨rfl, rfl⟩
    refine G.nt ?_
    refine W.ret ?_
    exact V.retc rfl ty122 rfl (by repeat (first | exact List.mem_cons_self | apply List.mem_cons_of_mem)) rfl (blk b [lv, I64 (i16)] 129 :: I) Fit.sub ⟨(⟨1, t, x2, vv, 1 + x11, x13, 1 - (2 * x15)⟩, i16), ⟨⟨rfl, fit_mk (by omega) (by omega) (by omega) (by omega) (fun h => by omega) (fun h => by omega) (fun h => by unfold rightW; omega) (fun h => by omega), rfl⟩, by show 0 ≤ i16; omega⟩, rfl⟩

theorem MkEvent_at {κ : Ctx} {I : List Item} {F : Item → List Item} {b : Nat} {lv : Value} {ls : List Int} {i : Int} {n t : Int} (hat : AtF I (deck b lv i) F) (hl : ∀ q, Sl κ (F (deck b lv q)) lv ls) (h0 : 0 ≤ i)  (hn : 2 ≤ n ∧ n ≤ 64) (ht : 0 ≤ t ∧ t ≤ 1000000) :
    CallS Try.prog κ 153 [.pointer (some ⟨b, 0, none⟩), I64 (n), I64 (t)] I fun r J => ∃ y : Ev × Int, ((r = .agg #[I64 y.1.kd, I64 y.1.tm, I64 y.1.u, I64 y.1.v, I64 y.1.w, I64 y.1.lb, I64 y.1.sg] ∧ FitOk n y.1 ∧ y.1.tm = t) ∧ 0 ≤ y.2) ∧ J = [] ++ F (deck b lv y.2) :=
  CallS.at (Post := fun r (y : Ev × Int) => (r = .agg #[I64 y.1.kd, I64 y.1.tm, I64 y.1.u, I64 y.1.v, I64 y.1.w, I64 y.1.lb, I64 y.1.sg] ∧ FitOk n y.1 ∧ y.1.tm = t) ∧ 0 ≤ y.2) (Z := fun y : Ev × Int => []) (X := fun y : Ev × Int => deck b lv y.2) hat fun J _ hF => MkEvent_base (fun q => (hl q).fit (hF _)) h0  hn ht

set_option maxHeartbeats 2000000 in
theorem MkEvents_base {κ : Ctx} {I : List Item} {b : Nat} {lv : Value} {ls : List Int} {i : Int} {n most : Int} (hl : ∀ q, Sl κ (deck b lv q :: I) lv ls) (h0 : 0 ≤ i)  (hn : 2 ≤ n ∧ n ≤ 64) (hm : 0 ≤ most ∧ most ≤ 20) :
    CallS Try.prog κ 84 [.pointer (some ⟨b, 0, none⟩), I64 (n), I64 (most)] (blk b [lv, I64 (i)] 129 :: I) (fun r J => ∃ y : (Option Addr) × Nat × (List Ev) × Int, ((r = .slice y.1 y.2.2.1.length y.2.1 ∧ (EvOk n 500 y.2.2.1 ∧ (y.2.2.1.length : Int) ≤ most)) ∧ 0 ≤ y.2.2.2) ∧ J = [vc 122 (.slice y.1 y.2.2.1.length y.2.1) y.2.2.1] ++ deck b lv y.2.2.2 :: I) := by
 refine CallS.enter (L := [(0, .pointer (some ⟨b, 0, none⟩)), (1, I64 (n)), (2, I64 (most))]) Try.func84 rfl rfl rfl rfl ?_
 refine W.sr ?_
 refine G.r (Runs.assign rfl) ?_
 refine G.nt ?_
 refine W.sr ?_
 refine G.r (Runs.assign rfl) ?_
 refine G.nt ?_
 refine W.sr ?_
 refine G.r (Runs.move rfl) ?_
 refine G.e (Eff.call call25 rfl rfl (Next_ok (by repeat (first | exact AtF.head _ _ | apply AtF.tail)) (Sl.fit (hl _) Fit.m) (by omega) (by omega))) ?_
 rintro _ _ ⟨_, _, ⟨x1, i2, rfl, hx1, hi2, rfl⟩, rfl, rfl⟩
 show G Try.prog κ _ _ _ _ ([(11, I64 (x1)), (10, .pointer (some ⟨b, 0, none⟩)), (7, .slice none 0 0), (6, .slice none 0 0), (0, .pointer (some ⟨b, 0, none⟩)), (1, I64 (n)), (2, I64 (most))] : Env) (blk b [lv, I64 (i2)] 129 :: I)
 refine G.r (Runs.assign rfl) ?_
 refine G.nt ?_
 refine W.seq ?_
 refine W.sr ?_
 refine G.r (Runs.move rfl) ?_
 refine G.r (Runs.move rfl) ?_
 refine G.r (Runs.add rfl rfl (by unfold InR; omega)) ?_
 refine G.e (Eff.call call25 rfl rfl (Next_ok (by repeat (first | exact AtF.head _ _ | apply AtF.tail)) (Sl.fit (hl _) Fit.m) (by omega) (by omega))) ?_
 rintro _ _ ⟨_, _, ⟨x3, i4, rfl, hx3, hi4, rfl⟩, rfl, rfl⟩
 show G Try.prog κ _ _ _ _ ([(15, I64 (x3)), (14, I64 (most + 1)), (13, I64 (most)), (12, .pointer (some ⟨b, 0, none⟩)), (8, I64 (x1)), (11, I64 (x1)), (10, .pointer (some ⟨b, 0, none⟩)), (7, .slice none 0 0), (6, .slice none 0 0), (0, .pointer (some ⟨b, 0, none⟩)), (1, I64 (n)), (2, I64 (most))] : Env) (blk b [lv, I64 (i4)] 129 :: I)
 refine G.r (Runs.assign rfl) ?_
 refine G.nt ?_
 refine W.block ?_
 refine W.loop (σ := Int × Int × (Option Addr) × Nat × (List Ev) × Int) (fun s => ([(0, .pointer (some ⟨b, 0, none⟩)), (1, I64 (n)), (7, .slice s.2.2.1 s.2.2.2.2.1.length s.2.2.2.1), (8, I64 (s.2.2.2.2.2)), (9, I64 (s.1))] : Env)) (fun s => vc 122 (.slice s.2.2.1 s.2.2.2.2.1.length s.2.2.2.1) (s.2.2.2.2.1) :: blk b [lv, I64 (s.2.1)] 129 :: I) (fun s => (0 ≤ s.1 ∧ (s.2.2.2.2.1.length : Int) + s.1 ≤ most) ∧ (0 ≤ s.2.1) ∧ (EvOk n s.2.2.2.2.2 s.2.2.2.2.1) ∧ (0 ≤ s.2.2.2.2.2 ∧ s.2.2.2.2.2 ≤ 3 + 3 * (s.2.2.2.2.1.length : Int))) (fun s => s.1.toNat) (x3, i4, none, 0, [], x1) (show (0 ≤ (x3 : Int) ∧ (([] : List Ev).length : Int) + (x3 : Int) ≤ most) ∧ (0 ≤ (i4 : Int)) ∧ (EvOk n (x1 : Int) ([] : List Ev)) ∧ (0 ≤ (x1 : Int) ∧ (x1 : Int) ≤ 3 + 3 * (([] : List Ev).length : Int)) from ⟨(by simp only [List.length_nil]; omega), (by omega), EvOk.nil, (by simp only [List.length_nil]; omega)⟩) (Sub.cons rfl (Sub.cons rfl (Sub.cons (lookV rfl (by first | rfl | simp)) (Sub.cons lookO (Sub.cons lookO Sub.nil))))) (show Fit κ _ (vc 122 (.slice (none) ([]).length (0)) (([])) :: blk b [lv, I64 ((i4))] 129 :: I) from (Fit.nilvc _ _)) ?_
 rintro ⟨kq, iqa, a1, c1, out, tt⟩ hp
 obtain ⟨hkq, hiqa, hE, htt⟩ : (0 ≤ kq ∧ (out.length : Int) + kq ≤ most) ∧ (0 ≤ iqa) ∧ (EvOk n tt out) ∧ (0 ≤ tt ∧ tt ≤ 3 + 3 * (out.length : Int)) := hp
 show W Try.prog κ 36 _ _ ([(0, .pointer (some ⟨b, 0, none⟩)), (1, I64 (n)), (7, .slice a1 out.length c1), (8, I64 (tt)), (9, I64 (kq))] : Env) (vc 122 (.slice a1 out.length c1) (out) :: blk b [lv, I64 (iqa)] 129 :: I)
 refine W.seq ?_
 refine W.sr ?_
 refine G.r (Runs.move rfl) ?_
 refine G.r (Runs.gtr rfl rfl) ?_
 refine G.r (Runs.move rfl) ?_
 refine G.split (d := 18) rfl (fun g18 => ?_) (fun g18 => ?_)
 ·refine G.ro (Runs.move rfl) ?_
  refine G.ro (Runs.gtr rfl rfl) ?_
  refine G.r (Runs.pickt rfl rfl) ?_
  refine G.nt ?_
  refine W.ite rfl (fun c21 => ?_) (fun c21 => ?_)
  ·refine W.skip ?_
   refine V.then ?_
   refine W.seq ?_
   refine W.block ?_
   refine W.sr ?_
   refine G.r (Runs.move rfl) ?_
   refine G.r (Runs.move rfl) ?_
   refine G.r (Runs.move rfl) ?_
   refine G.r (Runs.move rfl) ?_
   refine G.e (Eff.call call153 rfl rfl (MkEvent_at (by repeat (first | exact AtF.head _ _ | apply AtF.tail)) (fun _ => Sl.fit (hl _) Fit.m) (by omega)  (by omega) (by omega))) ?_
   rintro _ _ ⟨_, _, ⟨⟨ev5, i6⟩, ⟨⟨rfl, hfev5, htev5⟩, hi6⟩, rfl⟩, rfl, rfl⟩
   show G Try.prog κ _ _ _ _ ([(28, .agg #[I64 (ev5.kd), I64 (ev5.tm), I64 (ev5.u), I64 (ev5.v), I64 (ev5.w), I64 (ev5.lb), I64 (ev5.sg)]), (27, I64 (tt)), (26, I64 (n)), (25, .pointer (some ⟨b, 0, none⟩)), (24, .slice a1 out.length c1), (21, .bool (decide (1 < n))), (20, .bool (decide (1 < n))), (19, I64 (n)), (18, .bool true), (18, .bool (decide (0 < kq))), (17, .bool (decide (0 < kq))), (16, I64 (kq)), (0, .pointer (some ⟨b, 0, none⟩)), (1, I64 (n)), (7, .slice a1 out.length c1), (8, I64 (tt)), (9, I64 (kq))] : Env) (vc 122 (.slice a1 out.length c1) (out) :: blk b [lv, I64 (i6)] 129 :: I)
   have hi6 : 0 ≤ i6 := hi6
   dsimp only at hfev5
   dsimp only at htev5
   refine G.e (Eff.bs (α := Ev) (cs := [I64 (ev5.kd), I64 (ev5.tm), I64 (ev5.u), I64 (ev5.v), I64 (ev5.w), I64 (ev5.lb), I64 (ev5.sg)]) (xs := [⟨ev5.kd, ev5.tm, ev5.u, ev5.v, ev5.w, ev5.lb, ev5.sg⟩]) Try.underlying81 ty122 rfl rfl (by decide) (by decide) rfl (by kernel_rfl) rfl rfl) ?_
   rintro _ _ ⟨ad7, rfl, rfl⟩
   refine G.e (Eff.app (α := Ev) (e := 122) (xs := out) (ys := ([⟨ev5.kd, ev5.tm, ev5.u, ev5.v, ev5.w, ev5.lb, ev5.sg⟩] : List Ev)) Try.underlying81 ty122 rfl rfl rfl (by repeat (first | exact List.mem_cons_self | apply List.mem_cons_of_mem)) Sl.o (by simp only [List.length_cons, List.length_nil]; omega) (by decide) rfl (fun _ _ => (by repeat (first | exact At.head _ _ _ | apply At.tail)))) ?_
   rintro _ _ ⟨ad8, cp9, rfl, rfl⟩
   refine G.r (Runs.assign rfl) ?_
   refine G.nt ?_
   refine W.sub (L' := [(7, _), (0, _), (1, _), (8, _), (9, _)]) (Sub.cons rfl (Sub.cons rfl (Sub.cons rfl (Sub.cons rfl (Sub.cons rfl Sub.nil))))) ?_
   refine W.region ?_
   refine G.r (Runs.move rfl) ?_
   refine G.r (Runs.move rfl) ?_
   refine G.e (Eff.call call25 rfl rfl (Next_ok (by repeat (first | exact AtF.head _ _ | apply AtF.tail)) (Sl.fit (hl _) Fit.m) (by omega) (by omega))) ?_
   rintro _ _ ⟨_, _, ⟨x10, i11, rfl, hx10, hi11, rfl⟩, rfl, rfl⟩
   show G Try.prog κ _ _ _ _ ([(33, I64 (x10)), (32, .pointer (some ⟨b, 0, none⟩)), (31, I64 (tt)), (7, .slice ad8 (out ++ ([⟨ev5.kd, ev5.tm, ev5.u, ev5.v, ev5.w, ev5.lb, ev5.sg⟩] : List Ev)).length cp9), (0, .pointer (some ⟨b, 0, none⟩)), (1, I64 (n)), (8, I64 (tt)), (9, I64 (kq))] : Env) (vc 122 (.slice ad7 1 1) (([⟨ev5.kd, ev5.tm, ev5.u, ev5.v, ev5.w, ev5.lb, ev5.sg⟩] : List Ev)) :: vc 122 (.slice ad8 (out ++ ([⟨ev5.kd, ev5.tm, ev5.u, ev5.v, ev5.w, ev5.lb, ev5.sg⟩] : List Ev)).length cp9) (out ++ ([⟨ev5.kd, ev5.tm, ev5.u, ev5.v, ev5.w, ev5.lb, ev5.sg⟩] : List Ev)) :: blk b [lv, I64 (i11)] 129 :: I)
   refine G.r (Runs.add rfl rfl (by unfold InR; omega)) ?_
   refine G.r (Runs.assign rfl) ?_
   refine G.nil ?_
   refine V.block_normal ?_
   refine V.then ?_
   refine W.region ?_
   refine G.r (Runs.move rfl) ?_
   refine G.r (Runs.sub rfl rfl (by unfold InR; omega)) ?_
   refine G.r (Runs.assign rfl) ?_
   refine G.nil ?_
   exact V.next ((kq - 1), (i11), (ad8), (cp9), (out ++ ([⟨ev5.kd, ev5.tm, ev5.u, ev5.v, ev5.w, ev5.lb, ev5.sg⟩] : List Ev)), (tt + x10)) (show (0 ≤ (kq - 1 : Int) ∧ ((out ++ ([⟨ev5.kd, ev5.tm, ev5.u, ev5.v, ev5.w, ev5.lb, ev5.sg⟩] : List Ev) : List Ev).length : Int) + (kq - 1 : Int) ≤ most) ∧ (0 ≤ (i11 : Int)) ∧ (EvOk n (tt + x10 : Int) (out ++ ([⟨ev5.kd, ev5.tm, ev5.u, ev5.v, ev5.w, ev5.lb, ev5.sg⟩] : List Ev) : List Ev)) ∧ (0 ≤ (tt + x10 : Int) ∧ (tt + x10 : Int) ≤ 3 + 3 * ((out ++ ([⟨ev5.kd, ev5.tm, ev5.u, ev5.v, ev5.w, ev5.lb, ev5.sg⟩] : List Ev) : List Ev).length : Int)) from ⟨(by simp only [List.length_append, List.length_cons, List.length_nil]; omega), (by omega), (EvOk.later (by first | exact hE.push (by assumption) (by assumption) | exact EvOk.push hE (by assumption) (by assumption)) (by omega)), (by simp only [List.length_append, List.length_cons, List.length_nil]; omega)⟩) (show (kq - 1 : Int).toNat < kq.toNat from (by omega)) (Sub.cons rfl (Sub.cons rfl (Sub.cons (lookV rfl (by first | rfl | simp)) (Sub.cons lookO (Sub.cons lookO Sub.nil))))) (show Fit κ _ (vc 122 (.slice (ad8) (out ++ ([⟨ev5.kd, ev5.tm, ev5.u, ev5.v, ev5.w, ev5.lb, ev5.sg⟩] : List Ev)).length (cp9)) ((out ++ ([⟨ev5.kd, ev5.tm, ev5.u, ev5.v, ev5.w, ev5.lb, ev5.sg⟩] : List Ev))) :: blk b [lv, I64 ((i11))] 129 :: I) from Fit.sub)
  ·exact absurd hn.1 (by omega)
 ·refine G.po ?_
  refine G.po ?_
  refine G.r (Runs.pickf rfl rfl) ?_
  refine G.nt ?_
  refine W.no rfl ?_
  refine W.exit ?_
  refine V.then_exit ?_
  refine V.then_exit ?_
  refine V.block_hit ?_
  refine V.then ?_
  refine W.sr ?_
  refine G.r (Runs.move rfl) ?_
  refine G.r (Runs.assign rfl) ?_
  refine G.nt ?_
  refine W.sub (L' := [(6, _)]) (Sub.cons rfl Sub.nil) ?_
  refine W.ret ?_
  exact V.ret1 rfl rfl (vc 122 (.slice a1 out.length c1) (out) :: blk b [lv, I64 (iqa)] 129 :: I) Fit.sub ⟨(a1, c1, out, iqa), ⟨⟨rfl, ⟨hE.later (by omega), by show (out.length : Int) ≤ most; omega⟩⟩, by show 0 ≤ iqa; omega⟩, rfl⟩

theorem MkEvents_at {κ : Ctx} {I : List Item} {F : Item → List Item} {b : Nat} {lv : Value} {ls : List Int} {i : Int} {n most : Int} (hat : AtF I (deck b lv i) F) (hl : ∀ q, Sl κ (F (deck b lv q)) lv ls) (h0 : 0 ≤ i)  (hn : 2 ≤ n ∧ n ≤ 64) (hm : 0 ≤ most ∧ most ≤ 20) :
    CallS Try.prog κ 84 [.pointer (some ⟨b, 0, none⟩), I64 (n), I64 (most)] I fun r J => ∃ y : (Option Addr) × Nat × (List Ev) × Int, ((r = .slice y.1 y.2.2.1.length y.2.1 ∧ (EvOk n 500 y.2.2.1 ∧ (y.2.2.1.length : Int) ≤ most)) ∧ 0 ≤ y.2.2.2) ∧ J = [vc 122 (.slice y.1 y.2.2.1.length y.2.1) y.2.2.1] ++ F (deck b lv y.2.2.2) :=
  CallS.at (Post := fun r (y : (Option Addr) × Nat × (List Ev) × Int) => (r = .slice y.1 y.2.2.1.length y.2.1 ∧ (EvOk n 500 y.2.2.1 ∧ (y.2.2.1.length : Int) ≤ most)) ∧ 0 ≤ y.2.2.2) (Z := fun y : (Option Addr) × Nat × (List Ev) × Int => [vc 122 (.slice y.1 y.2.2.1.length y.2.1) y.2.2.1]) (X := fun y : (Option Addr) × Nat × (List Ev) × Int => deck b lv y.2.2.2) hat fun J _ hF => MkEvents_base (fun q => (hl q).fit (hF _)) h0  hn hm

end Go.Sl
