/- A part of the proofs of statements of this seat: contracts of functions, and the plain laws that they lean on. No conditions. -/
import Derived.Test.YtbimaodbcjjbfaaDoorKed8
import Derived.Test.YtbimaodbcjjbfaaDoorParts8
namespace Go.Sl
open Go.Proofs
set_option linter.unusedVariables false
set_option linter.unusedSimpArgs false
set_option maxRecDepth 4000
def lightK (nd : Int) (es : List Pt) : Bool := decide ((es.length : Int) ≤ 25) && (decide (nd ≤ 10) || decide (checkG nd es ≠ 0))
theorem lightK_len {nd : Int} {es : List Pt} (h : lightK nd es = true) : es.length ≤ 25 := by
  unfold lightK at h
  rw [Bool.and_eq_true] at h
  have := of_decide_eq_true h.1; omega
theorem HeldAll.two {κ : Ctx} {I : List Item} {α : Type} [Enc α] {r t : RowG α} (h : RowG.Held κ I r) (h' : RowG.Held κ I t) : HeldAll κ I [r, t] := fun x hx => by
  simp only [List.mem_cons, List.not_mem_nil, or_false] at hx
  rcases hx with rfl | rfl
  · exact h
  · exact h'
theorem Light17_ok {κ : Ctx} {I : List Item} {nd : Int} {va : Value} {es : List Pt} (hl : Sl κ I va es) :
    CallS Tryd.prog κ 49 [.agg #[I64 (nd), va]] I (fun r J => r = .bool (lightK nd es) ∧ I = J) := by
 refine CallS.enter (L := [(0, .agg #[I64 (nd), va])]) Tryd.func49 rfl rfl rfl rfl ?_
 refine W.sr ?_
 refine G.e (Eff.box (cs := [_, _]) rfl rfl rfl) ?_
 rintro _ _ ⟨b1, rfl, rfl⟩
 refine G.r (Runs.assign rfl) ?_
 refine G.nt ?_
 refine W.sr ?_
 refine G.r (Runs.fieldAddr fld25_1 rfl) ?_
 refine G.r (Runs.ld ty23) ?_
 refine G.r (Runs.lenT (α := Pt) (xs := es) Tryd.underlying23 rfl (Sl.f hl)) ?_
 refine G.r (Runs.leq rfl rfl) ?_
 refine G.r (Runs.move rfl) ?_
 refine G.split (d := 7) rfl (fun g7 => ?_) (fun g7 => ?_)
 ·refine G.ro (Runs.fieldAddr fld25_0 rfl) ?_
  refine G.ro (Runs.ld ty3) ?_
  refine G.ro (Runs.leq rfl rfl) ?_
  refine G.ro (Runs.move rfl) ?_
  refine G.split (d := 11) rfl (fun g11 => ?_) (fun g11 => ?_)
  ·refine G.po ?_
   refine G.po ?_
   refine G.po ?_
   refine G.ro (Runs.pickt rfl rfl) ?_
   refine G.r (Runs.pickt rfl rfl) ?_
   refine G.r (Runs.assign rfl) ?_
   refine G.nt ?_
   refine W.sub (L' := [(2, _)]) (Sub.cons rfl Sub.nil) ?_
   refine W.ret ?_
   exact V.ret1 rfl rfl (I) Fit.m ⟨by unfold lightK; first | (rw [decide_eq_true g7, decide_eq_true g11]; rfl) | (rw [decide_eq_true g7, decide_eq_false g11]; rfl) | (rw [decide_eq_false g7]; rfl), rfl⟩
  ·refine G.ro (Runs.lds (vs := [_, _]) ty25) ?_
   refine G.eff (Wanted.on rfl rfl rfl) (Eff.call call70 rfl rfl (Check03G_ok (nd := nd) (Sl.f hl))) ?_
   rintro _ _ ⟨_, _, ⟨rfl, rfl⟩, rfl, rfl⟩
   refine G.ro (Runs.neq rfl rfl) ?_
   refine G.ro (Runs.pickf rfl rfl) ?_
   refine G.r (Runs.pickt rfl rfl) ?_
   refine G.r (Runs.assign rfl) ?_
   refine G.nt ?_
   refine W.sub (L' := [(2, _)]) (Sub.cons rfl Sub.nil) ?_
   refine W.ret ?_
   exact V.ret1 rfl rfl (I) Fit.m ⟨by unfold lightK; first | (rw [decide_eq_true g7, decide_eq_true g11]; rfl) | (rw [decide_eq_true g7, decide_eq_false g11]; rfl) | (rw [decide_eq_false g7]; rfl), rfl⟩
 ·refine G.po ?_
  refine G.po ?_
  refine G.po ?_
  refine G.po ?_
  refine G.pu ?_
  refine G.pu ?_
  refine G.pu ?_
  refine G.po ?_
  refine G.r (Runs.pickf rfl rfl) ?_
  refine G.r (Runs.assign rfl) ?_
  refine G.nt ?_
  refine W.sub (L' := [(2, _)]) (Sub.cons rfl Sub.nil) ?_
  refine W.ret ?_
  exact V.ret1 rfl rfl (I) Fit.m ⟨by unfold lightK; first | (rw [decide_eq_true g7, decide_eq_true g11]; rfl) | (rw [decide_eq_true g7, decide_eq_false g11]; rfl) | (rw [decide_eq_false g7]; rfl), rfl⟩

end Go.Sl
