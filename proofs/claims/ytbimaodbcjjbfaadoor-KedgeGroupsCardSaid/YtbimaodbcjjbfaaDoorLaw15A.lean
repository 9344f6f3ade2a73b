/- A part of the proofs of statements of this seat: contracts of functions, and the plain laws that they lean on. No conditions. -/
import Derived.Test.YtbimaodbcjjbfaaDoorConn8
import Derived.Test.YtbimaodbcjjbfaaDoorConn9
import Derived.Test.YtbimaodbcjjbfaaDoorGraphH5
import Derived.Test.YtbimaodbcjjbfaaDoorGraphK5
import Derived.Test.YtbimaodbcjjbfaaDoorGraphM5
namespace Go.Sl
open Go.Proofs
set_option linter.unusedVariables false
set_option linter.unusedSimpArgs false
set_option maxRecDepth 4000
theorem comps_whole {nd : Int} {es : List Pt} (hG : GrOk nd es) : (compsG nd es).flatten.Perm (rangeI nd) := by
  unfold compsG
  rw [if_neg (by rw [checkG_ok.2 hG]; decide)]
  refine (groups_perm (rowsB_sym hG) 64 (allB nd) .all (listN_len _)).trans ?_
  have : listB (allB nd) = rangeI nd := by
    refine intLin.uniq (listB_asc _) ?_ fun x => ?_
    · unfold rangeI; rw [List.pairwise_map]; exact List.pairwise_lt_range.imp fun h => by omega
    · have hr := hG.rng
      rw [mem_listB, mem_rangeI]
      by_cases hx : 0 ≤ x ∧ x < 64
      · rw [getLsb_allB hr.1 hr.2 (by omega), decide_eq_true_eq]; omega
      · constructor
        · rintro ⟨h1, h2⟩; rw [BitVec.getLsbD_of_ge _ _ (by omega)] at h2; cases h2
        · omega
  rw [this]
theorem rangeI_asc (nd : Int) : (rangeI nd).Pairwise (fun a b : Int => a < b) := by unfold rangeI; rw [List.pairwise_map]; exact List.pairwise_lt_range.imp fun h => by omega
theorem comps_ne {nd : Int} {es : List Pt} (hG : GrOk nd es) : ∀ c ∈ compsG nd es, c ≠ [] := fun c hc => by
  unfold compsG at hc
  rw [if_neg (by rw [checkG_ok.2 hG]; decide)] at hc
  obtain ⟨m, hm, rfl⟩ := List.mem_map.1 hc
  obtain ⟨h1, _⟩ := groups_mem (rowsB_sym hG) 64 (allB nd) .all m hm
  rw [listB_step h1]; exact List.cons_ne_nil _ _
end Go.Sl
