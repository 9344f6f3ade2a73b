/- A part of the proofs of statements of this seat: contracts of functions, and the plain laws that they lean on. No conditions. -/
import Derived.Test.YtbimaodbcjjbfaaDoorLib
import Derived.Test.YtbimaodbcjjbfaaDoorOps2
/- An owned slice cut short; rows that are owned. No conditions. -/
namespace Go.Sl
theorem D.fit {P : Program} {κ : Ctx} {N : Nat} {ops : Array Oper} {Q : Exit → Act → World → Prop} {I J H : List Item} {L : Env} {stop fuel : Nat} {listed : Array Bool} (hf : Fit κ I J) (h : D P κ N ops Q H stop fuel listed L J) : D P κ N ops Q H stop fuel listed L I := fun a w ha hs => h a w ha (hf w hs)
set_option linter.unusedVariables false
set_option linter.unusedSectionVars false
section
variable {α : Type} [Enc α] {κ : Ctx} {I : List Item}
theorem Fit.takevc {e : TypeId} {a : Option Addr} {n c k : Nat} {xs : List α} (hn : n = xs.length) : Fit κ (vc e (.slice a n c) xs :: I) (vc e (.slice a (xs.take k).length c) (xs.take k) :: I) := by
  subst hn
  refine Fit.upd (At.head _ _ _) fun w h => ⟨?_, fun j ⟨o, m, c', hv, hc⟩ => ?_⟩
  · obtain ⟨a', cap, hv, h1, h2, h3, h4⟩ := h
    cases hv
    refine ⟨a, c, rfl, cells_length _, by rw [List.length_take]; omega, h3, fun hc => ?_⟩
    obtain ⟨b, off, cur, ha, hb, h5, h6⟩ := h4 hc
    refine ⟨b, off, cur, ha, hb, h5, fun j u hj => h6 j u ?_⟩
    have e1 : cells xs = cells (xs.take k) ++ cells (xs.drop k) := by rw [← cells_append, List.take_append_drop]
    rw [e1, List.getElem?_append_left (List.getElem?_eq_some_iff.1 hj).1]; exact hj
  · cases hv; exact ⟨o, _, c, rfl, hc⟩
/-- The rows' own slices. -/
def ownR (e : TypeId) (rs : List (RowG α)) : List Item := rs.map fun r => vc e (.slice r.a r.xs.length r.c) r.xs
theorem ownR_held {e : TypeId} {rs : List (RowG α)} : HeldAll κ (ownR e rs ++ I) rs := fun r hr => Sl.vec (List.mem_append_left _ (List.mem_map.2 ⟨r, hr, rfl⟩))
theorem ownR_in {e : TypeId} {rs : List (RowG α)} (h : ∀ x ∈ ownR e rs, x ∈ I) : HeldAll κ I rs := fun r hr => Sl.vec (h _ (List.mem_map.2 ⟨r, hr, rfl⟩))
theorem Fit.ownR_snoc {e : TypeId} {rs : List (RowG α)} {r : RowG α} {A : List Item} : Fit κ (A ++ vc e (.slice r.a r.xs.length r.c) r.xs :: (ownR e rs ++ I)) (A ++ (ownR e (rs ++ [r]) ++ I)) := by
  refine Fit.perm (List.Perm.append_left A ?_)
  have e1 : ownR e (rs ++ [r]) ++ I = ownR e rs ++ vc e (.slice r.a r.xs.length r.c) r.xs :: I := by simp [ownR]
  rw [e1]
  exact List.perm_middle.symm
theorem Fit.ownR_perm {e : TypeId} {rs ys : List (RowG α)} {A : List Item} (h : ys.Perm rs) : Fit κ (A ++ (ownR e rs ++ I)) (A ++ (ownR e ys ++ I)) :=
  Fit.perm (List.Perm.append_left A (List.Perm.append_right I (h.symm.map _)))
end
end Go.Sl
