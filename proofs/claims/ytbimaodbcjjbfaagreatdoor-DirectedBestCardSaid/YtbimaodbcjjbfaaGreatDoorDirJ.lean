/- A part of the proofs of statements of this seat: contracts of functions, and the plain laws that they lean on. No conditions. -/
import Derived.Test.YtbimaodbcjjbfaaGreatDoorDirN
namespace Go.Sl
open Go.Proofs
set_option linter.unusedVariables false
set_option linter.unusedSimpArgs false
set_option maxRecDepth 4000
theorem sum_one : ∀ {l : List Int} {a : Int}, l.Nodup → (l.map fun x => if x = a then (1 : Int) else 0).sum = if a ∈ l then 1 else 0
  | [], a, _ => by simp
  | x :: l, a, h => by
    obtain ⟨h1, h2⟩ := List.nodup_cons.1 h
    rw [List.map_cons, List.sum_cons, sum_one h2]
    by_cases e : x = a
    · subst e
      rw [if_pos rfl, if_neg h1, if_pos List.mem_cons_self]; rfl
    · rw [if_neg e, Int.zero_add]
      by_cases hm : a ∈ l
      · rw [if_pos hm, if_pos (List.mem_cons_of_mem _ hm)]
      · rw [if_neg hm, if_neg fun h3 => (List.mem_cons.1 h3).elim (fun h4 => e h4.symm) hm]
theorem pt_one {F T : List Int} {p q : Int} (hF : F.Nodup) (hT : T.Nodup) : (T.map fun w => (F.map fun v => if v = p ∧ w = q then (1 : Int) else 0).sum).sum = if p ∈ F ∧ q ∈ T then 1 else 0 := by
  have e : ∀ w ∈ T, (F.map fun v => if v = p ∧ w = q then (1 : Int) else 0).sum = if p ∈ F then (if w = q then 1 else 0) else 0 := fun w _ => by
    by_cases hw : w = q
    · have : (F.map fun v => if v = p ∧ w = q then (1 : Int) else 0) = F.map fun v => if v = p then (1 : Int) else 0 := List.map_congr_left fun v _ => by
        by_cases hv : v = p
        · rw [if_pos ⟨hv, hw⟩, if_pos hv]
        · rw [if_neg fun h => hv h.1, if_neg hv]
      rw [this, sum_one hF, if_pos hw]
    · rw [sum_zero _ _ fun v _ => if_neg fun h => hw h.2, if_neg hw]; split <;> rfl
  rw [sum_congr e]
  by_cases hp : p ∈ F
  · rw [sum_congr (h := fun w => if w = q then (1 : Int) else 0) fun w _ => if_pos hp, sum_one hT]
    by_cases hq : q ∈ T
    · rw [if_pos hq, if_pos ⟨hp, hq⟩]
    · rw [if_neg hq, if_neg fun h => hq h.2]
  · rw [sum_zero _ _ fun w _ => if_neg hp, if_neg fun h => hp h.1]
theorem sum_arcs {F T : List Int} (hF : F.Nodup) (hT : T.Nodup) : ∀ {A : List Pt}, A.Nodup → (T.map fun w => (F.map fun v => if (⟨v, w⟩ : Pt) ∈ A then (1 : Int) else 0).sum).sum = ((A.filter fun p => decide (p.u ∈ F) && decide (p.v ∈ T)).length : Int)
  | [], _ => by
    rw [sum_zero _ _ fun w _ => sum_zero _ _ fun v _ => if_neg (by simp)]; rfl
  | a :: A, h => by
    obtain ⟨h1, h2⟩ := List.nodup_cons.1 h
    have e : ∀ w ∈ T, (F.map fun v => if (⟨v, w⟩ : Pt) ∈ a :: A then (1 : Int) else 0).sum = (F.map fun v => if v = a.u ∧ w = a.v then (1 : Int) else 0).sum + (F.map fun v => if (⟨v, w⟩ : Pt) ∈ A then (1 : Int) else 0).sum := fun w _ => by
      rw [← sum_add]
      refine sum_congr fun v _ => ?_
      by_cases hv : v = a.u ∧ w = a.v
      · have ea : (⟨v, w⟩ : Pt) = a := by rw [hv.1, hv.2]
        rw [if_pos hv, ea, if_pos List.mem_cons_self, if_neg h1]; rfl
      · rw [if_neg hv, Int.zero_add]
        by_cases hm : (⟨v, w⟩ : Pt) ∈ A
        · rw [if_pos hm, if_pos (List.mem_cons_of_mem _ hm)]
        · rw [if_neg hm, if_neg fun h3 => (List.mem_cons.1 h3).elim (fun h4 => hv ⟨congrArg Pt.u h4, congrArg Pt.v h4⟩) hm]
    rw [sum_congr e, sum_add, pt_one hF hT, sum_arcs hF hT h2, List.filter_cons]
    by_cases hp : a.u ∈ F ∧ a.v ∈ T
    · rw [if_pos hp, if_pos (by simp [hp.1, hp.2]), List.length_cons]; omega
    · rw [if_neg hp, if_neg (fun hh => hp (by simpa using hh)), Int.zero_add]
end Go.Sl
