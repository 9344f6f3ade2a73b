/- A part of the proofs of statements of this seat: contracts of functions, and the plain laws that they lean on. No conditions. -/
import Derived.Test.YtbimaodbcjjbfaaGreatDoorRunsT
import Derived.Test.YtbimaodbcjjbfaaGreatDoorRunsD5
import Derived.Test.YtbimaodbcjjbfaaGreatDoorRunsY
import Derived.Test.YtbimaodbcjjbfaaGreatDoorRunsW
namespace Go.Sl
open Go.Proofs
set_option linter.unusedVariables false
set_option linter.unusedSimpArgs false
set_option maxRecDepth 4000

end Go.Sl
namespace Go.Sl
open Go.Proofs
set_option linter.unusedVariables false
set_option linter.unusedSimpArgs false
set_option maxRecDepth 4000
end Go.Sl
namespace Go.Sl
open Go.Proofs
set_option linter.unusedVariables false
set_option linter.unusedSimpArgs false
set_option maxRecDepth 4000
theorem Ends_ok {κ : Ctx} {I : List Item} (nd u v : Int) :
    CallS Tryz.prog κ 68 [I64 (nd), I64 (u), I64 (v)] I (fun r J => r = .bool (decide (endsP nd u v)) ∧ I = J) := by
 have hmx : ((if v < u then v else u) ≤ u ∧ (if v < u then v else u) ≤ v ∧ ((if v < u then v else u) = u ∨ (if v < u then v else u) = v)) ∧ (u ≤ (if u < v then v else u) ∧ v ≤ (if u < v then v else u) ∧ ((if u < v then v else u) = u ∨ (if u < v then v else u) = v)) := by refine ⟨⟨?_, ?_, ?_⟩, ⟨?_, ?_, ?_⟩⟩ <;> split <;> omega
 refine CallS.enter (L := [(0, I64 (nd)), (1, I64 (u)), (2, I64 (v))]) Tryz.func68 rfl rfl rfl rfl ?_
 refine W.sr ?_
 refine G.r (Runs.assign rfl) ?_
 refine G.nt ?_
 refine W.sr ?_
 refine G.r (Runs.move rfl) ?_
 refine G.r (Runs.move rfl) ?_
 refine G.r (Runs.neq rfl rfl) ?_
 refine G.r (Runs.move rfl) ?_
 refine G.split (d := 10) rfl (fun g10 => ?_) (fun g10 => ?_)
 ·refine G.ro (Runs.move rfl) ?_
  refine G.ro (Runs.move rfl) ?_
  refine G.ro (Runs.min rfl rfl) ?_
  refine G.ro (Runs.geq rfl rfl) ?_
  refine G.r (Runs.pickt rfl rfl) ?_
  refine G.r (Runs.move rfl) ?_
  refine G.split (d := 16) rfl (fun g16 => ?_) (fun g16 => ?_)
  ·refine G.ro (Runs.move rfl) ?_
   refine G.ro (Runs.move rfl) ?_
   refine G.ro (Runs.max rfl rfl) ?_
   refine G.ro (Runs.move rfl) ?_
   refine G.ro (Runs.lss rfl rfl) ?_
   refine G.r (Runs.pickt rfl rfl) ?_
   refine G.r (Runs.assign rfl) ?_
   refine G.nt ?_
   refine W.sub (L' := [(6, _)]) (Sub.cons rfl Sub.nil) ?_
   refine W.ret ?_
   exact V.ret1 rfl rfl (I) Fit.m ⟨(by first | exact congrArg Value.bool (decide_eq_decide.2 (by unfold endsP; omega)) | exact congrArg Value.bool (decide_eq_true (by unfold endsP; omega)).symm | exact congrArg Value.bool (decide_eq_false (by unfold endsP; omega)).symm), rfl⟩
  ·refine G.po ?_
   refine G.po ?_
   refine G.po ?_
   refine G.po ?_
   refine G.po ?_
   refine G.r (Runs.pickf rfl rfl) ?_
   refine G.r (Runs.assign rfl) ?_
   refine G.nt ?_
   refine W.sub (L' := [(6, _)]) (Sub.cons rfl Sub.nil) ?_
   refine W.ret ?_
   exact V.ret1 rfl rfl (I) Fit.m ⟨(by first | exact congrArg Value.bool (decide_eq_decide.2 (by unfold endsP; omega)) | exact congrArg Value.bool (decide_eq_true (by unfold endsP; omega)).symm | exact congrArg Value.bool (decide_eq_false (by unfold endsP; omega)).symm), rfl⟩
 ·refine G.po ?_
  refine G.po ?_
  refine G.po ?_
  refine G.po ?_
  refine G.r (Runs.pickf rfl rfl) ?_
  refine G.r (Runs.move rfl) ?_
  refine G.po ?_
  refine G.po ?_
  refine G.po ?_
  refine G.po ?_
  refine G.po ?_
  refine G.r (Runs.pickf rfl rfl) ?_
  refine G.r (Runs.assign rfl) ?_
  refine G.nt ?_
  refine W.sub (L' := [(6, _)]) (Sub.cons rfl Sub.nil) ?_
  refine W.ret ?_
  exact V.ret1 rfl rfl (I) Fit.m ⟨(by first | exact congrArg Value.bool (decide_eq_decide.2 (by unfold endsP; omega)) | exact congrArg Value.bool (decide_eq_true (by unfold endsP; omega)).symm | exact congrArg Value.bool (decide_eq_false (by unfold endsP; omega)).symm), rfl⟩

end Go.Sl
namespace Go.Sl
open Go.Proofs
set_option linter.unusedVariables false
set_option linter.unusedSimpArgs false
set_option maxRecDepth 4000
end Go.Sl
