/- A part of the proofs of statements of this seat: contracts of functions, and the plain laws that they lean on. No conditions. -/
import Derived.Test.YtbimaodbcjjbfaaDoorConnD
namespace Go.Sl
open Go.Proofs
set_option linter.unusedVariables false
set_option linter.unusedSimpArgs false
set_option maxRecDepth 4000
def bowE : List Pt := [⟨0, 1⟩, ⟨0, 2⟩, ⟨1, 2⟩, ⟨2, 3⟩, ⟨2, 4⟩, ⟨3, 4⟩]
theorem bow_check : checkG 5 bowE = 0 := by decide +kernel
theorem bow_blocks : (blksG 5 bowE).length = 2 := by decide +kernel
theorem bow_joints : jointsG 5 bowE = [2] := by decide +kernel
theorem bow_comps : (compsG 5 bowE).length = 1 := by decide +kernel

theorem Bow_ok {κ : Ctx} {I : List Item}  :
    CallS Tryd.prog κ 73 [] I (fun r J => ∃ a, r = .agg #[I64 5, .slice a bowE.length 6] ∧ J = vc 38 (.slice a bowE.length 6) bowE :: I) := by
 refine CallS.enter (L := []) Tryd.func73 rfl rfl rfl rfl ?_
 refine W.sr ?_
 refine G.e (Eff.alloc ty25 rfl) ?_
 rintro _ _ ⟨b1, rfl, rfl⟩
 refine G.nt ?_
 refine W.sr ?_
 refine G.r (Runs.build (cells := [_, _]) ty38 Tryd.underlying38 pl38 rfl rfl) ?_
 refine G.r (Runs.build (cells := [_, _]) ty38 Tryd.underlying38 pl38 rfl rfl) ?_
 refine G.r (Runs.build (cells := [_, _]) ty38 Tryd.underlying38 pl38 rfl rfl) ?_
 refine G.r (Runs.build (cells := [_, _]) ty38 Tryd.underlying38 pl38 rfl rfl) ?_
 refine G.r (Runs.build (cells := [_, _]) ty38 Tryd.underlying38 pl38 rfl rfl) ?_
 refine G.r (Runs.build (cells := [_, _]) ty38 Tryd.underlying38 pl38 rfl rfl) ?_
 refine G.e (Eff.bs (α := Pt) (cs := [I64 (0), I64 (1), I64 (0), I64 (2), I64 (1), I64 (2), I64 (2), I64 (3), I64 (2), I64 (4), I64 (3), I64 (4)]) (xs := [⟨0, 1⟩, ⟨0, 2⟩, ⟨1, 2⟩, ⟨2, 3⟩, ⟨2, 4⟩, ⟨3, 4⟩]) Tryd.underlying23 ty38 rfl rfl (by decide) (by decide) rfl (by kernel_rfl) rfl rfl) ?_
 rintro _ _ ⟨ad2, rfl, rfl⟩
 refine G.r (Runs.build (cells := [_, _]) ty25 Tryd.underlying25 pl25 rfl rfl) ?_
 refine G.e (Eff.st (cs := [_, _]) (vs := [_, _]) (cs' := [_, _]) ty25) ?_
 rintro _ _ ⟨rfl, rfl⟩
 refine G.nt ?_
 refine W.ret ?_
 exact V.retc rfl ty25 rfl (by repeat (first | exact List.mem_cons_self | apply List.mem_cons_of_mem)) rfl (vc 38 (.slice ad2 bowE.length 6) bowE :: I) Fit.sub ⟨ad2, rfl, rfl⟩

set_option maxHeartbeats 1000000 in
theorem Awake15_ok {κ : Ctx} {I : List Item} (hT : TabRd κ I 0 tzCells) :
    CallS Tryd.prog κ 20 [] I (fun r J => r = .bool true ∧ I = J) := by
 refine CallS.enter (L := []) Tryd.func20 rfl rfl rfl rfl ?_
 refine W.sr ?_
 refine G.r (Runs.assign rfl) ?_
 refine G.nt ?_
 refine W.sr ?_
 refine G.e (Eff.call call73 rfl rfl Bow_ok) ?_
 rintro _ _ ⟨_, _, ⟨ad1, rfl, rfl⟩, rfl, rfl⟩
 refine G.e (Eff.call call14 rfl rfl (BlksC_ok (nd := 5) Sl.o (TabRd.fit hT Fit.m))) ?_
 rintro _ _ ⟨_, _, ⟨ad2, cp3, rs4, rfl, hrs4, hbrs4, rfl⟩, rfl, rfl⟩
 refine G.fit (J := vc 23 (.slice ad2 rs4.length cp3) (rs4) :: vc 38 (.slice ad1 bowE.length 6) (bowE) :: (ownR 38 rs4 ++ I)) Fit.s ?_
 refine G.r (Runs.move rfl) ?_
 refine G.r (Runs.extract rfl rfl) ?_
 refine G.r (Runs.extract rfl rfl) ?_
 refine G.r (Runs.assign rfl) ?_
 refine G.r (Runs.assign rfl) ?_
 refine G.nt ?_
 refine W.sr ?_
 refine G.e (Eff.call call73 rfl rfl Bow_ok) ?_
 rintro _ _ ⟨_, _, ⟨ad5, rfl, rfl⟩, rfl, rfl⟩
 refine G.e (Eff.call call16 rfl rfl (Joints_ok (nd := 5) Sl.o (TabRd.fit hT Fit.m))) ?_
 rintro _ _ ⟨_, _, ⟨ad6, cp7, rfl, rfl⟩, rfl, rfl⟩
 refine G.r (Runs.move rfl) ?_
 refine G.r (Runs.extract rfl rfl) ?_
 refine G.r (Runs.extract rfl rfl) ?_
 refine G.r (Runs.assign rfl) ?_
 refine G.r (Runs.assign rfl) ?_
 refine G.nt ?_
 refine W.sub (L' := [(4, _), (3, _), (2, _), (1, _)]) (Sub.cons rfl (Sub.cons rfl (Sub.cons rfl (Sub.cons rfl Sub.nil)))) ?_
 refine W.sr ?_
 refine G.e (Eff.call call73 rfl rfl Bow_ok) ?_
 rintro _ _ ⟨_, _, ⟨ad8, rfl, rfl⟩, rfl, rfl⟩
 refine G.e (Eff.call call28 rfl rfl (Components_ok (nd := 5) Sl.o (TabRd.fit hT Fit.m))) ?_
 rintro _ _ ⟨_, _, ⟨ad9, cp10, rs11, rfl, hrs11, rfl⟩, rfl, rfl⟩
 refine G.fit (J := vc 22 (.slice ad9 rs11.length cp10) (rs11) :: vc 38 (.slice ad8 bowE.length 6) (bowE) :: vc 3 (.slice ad6 (jointsG 5 bowE).length cp7) (jointsG 5 bowE) :: vc 38 (.slice ad5 bowE.length 6) (bowE) :: vc 23 (.slice ad2 rs4.length cp3) (rs4) :: vc 38 (.slice ad1 bowE.length 6) (bowE) :: (ownR 3 rs11 ++ (ownR 38 rs4 ++ I))) Fit.s ?_
 refine G.r (Runs.move rfl) ?_
 refine G.r (Runs.extract rfl rfl) ?_
 refine G.r (Runs.extract rfl rfl) ?_
 refine G.r (Runs.assign rfl) ?_
 refine G.r (Runs.assign rfl) ?_
 refine G.nt ?_
 refine W.sr ?_
 refine G.r (Runs.move rfl) ?_
 refine G.r (Runs.eql rfl rfl) ?_
 refine G.r (Runs.move rfl) ?_
 refine G.split (d := 24) rfl (fun g24 => ?_) (fun g24 => ?_)
 ·refine G.ro (Runs.move rfl) ?_
  refine G.ro (Runs.eql rfl rfl) ?_
  refine G.r (Runs.pickt rfl rfl) ?_
  refine G.r (Runs.move rfl) ?_
  refine G.split (d := 28) rfl (fun g28 => ?_) (fun g28 => ?_)
  ·refine G.ro (Runs.move rfl) ?_
   refine G.ro (Runs.eql rfl rfl) ?_
   refine G.r (Runs.pickt rfl rfl) ?_
   refine G.r (Runs.move rfl) ?_
   refine G.split (d := 32) rfl (fun g32 => ?_) (fun g32 => ?_)
   ·refine G.ro (Runs.move rfl) ?_
    refine G.ro (Runs.lens Tryd.underlying29 rfl) ?_
    refine G.ro (Runs.eql rfl rfl) ?_
    refine G.r (Runs.pickt rfl rfl) ?_
    refine G.r (Runs.move rfl) ?_
    refine G.split (d := 37) rfl (fun g37 => ?_) (fun g37 => ?_)
    ·refine G.ro (Runs.move rfl) ?_
     refine G.eff (Wanted.on rfl rfl rfl) (Eff.bs (α := Int) (cs := [_]) (xs := [2]) Tryd.underlying22 ty3 rfl rfl (by decide) (by decide) rfl rfl rfl rfl) ?_
     rintro _ _ ⟨ad12, rfl, rfl⟩
     refine G.eff (Wanted.on rfl rfl rfl) (Eff.call call27 rfl rfl (Same_ok Sl.o Sl.o)) ?_
     rintro _ _ ⟨_, _, ⟨rfl, rfl⟩, rfl, rfl⟩
     refine G.r (Runs.pickt rfl rfl) ?_
     refine G.r (Runs.move rfl) ?_
     refine G.split (d := 42) rfl (fun g42 => ?_) (fun g42 => ?_)
     ·refine G.ro (Runs.move rfl) ?_
      refine G.ro (Runs.lens Tryd.underlying50 rfl) ?_
      refine G.ro (Runs.eql rfl rfl) ?_
      refine G.r (Runs.pickt rfl rfl) ?_
      refine G.r (Runs.assign rfl) ?_
      refine G.nt ?_
      refine W.sub (L' := [(0, _)]) (Sub.cons rfl Sub.nil) ?_
      refine W.ret ?_
      exact V.ret1 rfl rfl (I) Fit.m ⟨by rw [decide_eq_true (by have := len_xs hrs11; rw [bow_comps] at this; omega)], rfl⟩
     ·exact absurd bow_joints g42
    ·exact absurd (by have := len_xs hrs4; rw [bow_blocks] at this; omega) g37
   ·exact absurd bow_check g32
  ·exact absurd bow_check g28
 ·exact absurd bow_check g24

end Go.Sl
