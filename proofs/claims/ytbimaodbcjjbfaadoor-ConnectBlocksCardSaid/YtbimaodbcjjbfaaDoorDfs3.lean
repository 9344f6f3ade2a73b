/- A part of the proofs of statements of this seat: contracts of functions, and the plain laws that they lean on. No conditions. -/
import Derived.Test.YtbimaodbcjjbfaaDoorDfs2
import Derived.Test.YtbimaodbcjjbfaaDoorLib
/- The search for blocks: bounds, its start and its end. No Go. No conditions. -/
namespace Go.Sl
set_option linter.unusedVariables false
set_option linter.unusedSimpArgs false
set_option linter.unusedSectionVars false
theorem Runs.cast {P : Program} {κ : Ctx} {N : Nat} {o : Oper} {L : Env} {J : List Item} {v v' : Value} (h : v = v') (r : Runs P κ N o L J v) : Runs P κ N o L J v' := h ▸ r
theorem Runs.nilE {P : Program} {κ : Ctx} {N : Nat} {L : Env} {J : List Item} {d : Option Tmp} {ty : TypeId} {ps : String} {af : Array Edge} {gd : Option (Nat × Bool)} {x : Operand} {ad : Option Addr} {n c k : Nat} (hx : evalO L x = some (elemPtr (.slice ad n c) k)) (ha : ad ≠ none) :
    Runs P κ N ⟨d, .nilCheck x, ty, ps, af, gd⟩ L J (elemPtr (.slice ad n c) k) := by
  cases ad with
  | none => exact absurd rfl ha
  | some a => exact Runs.nilCheck (p := a.add k) hx
theorem way_le_mea (S : Srch) : S.way.length ≤ mea S := by
  unfold mea bitsN
  have : ∀ w : List Vis, w.length ≤ (w.map fun t => (listB t.left).length + 1).sum := fun w => by
    induction w with
    | nil => simp
    | cons a l ih => simp only [List.map_cons, List.sum_cons, List.length_cons]; omega
  have := this S.way
  omega
theorem stepT_len (rows : List (BitVec 64)) (S : Srch) (ini : List Vis) (t : Vis) : (stepT rows S ini t).edges.length ≤ S.edges.length + 1 ∧ (stepT rows S ini t).out.length ≤ S.out.length + 1 := by
  unfold stepT
  split
  · split
    · exact ⟨by simp, by simp⟩
    · split
      · exact ⟨by simp [Srch.enter], by simp [Srch.enter]⟩
      · split <;> exact ⟨by simp, by simp⟩
  · split
    · exact ⟨by simp, by simp⟩
    · split
      · refine ⟨?_, by simp [Srch.pop]⟩
        simp only [Srch.pop, List.length_take]; omega
      · exact ⟨by simp, by simp⟩
theorem DfsOk.last {rows : List (BitVec 64)} {S : Srch} (h : DfsOk rows S) {ini : List Vis} {t : Vis} (hw : S.way = ini ++ [t]) (h0 : t.src < 0) : ini = [] := by
  cases ini with
  | nil => rfl
  | cons a tl =>
    have := ((h.tree a (tl ++ [t]) (by rw [hw]; rfl)).2.1 t (List.mem_append_right _ List.mem_cons_self)).1
    omega
theorem DfsOk.more {rows : List (BitVec 64)} {S : Srch} (h : DfsOk rows S) {ini : List Vis} {t : Vis} (hw : S.way = ini ++ [t]) (h0 : ¬ t.src < 0) : ini ≠ [] := by
  rintro rfl
  have := (h.tree t [] (by rw [hw]; rfl)).1
  omega
theorem DfsOk.start {rows : List (BitVec 64)} {S : Srch} (h : DfsOk rows S) (hw : S.way = []) {v : Int} (hv : 0 ≤ v ∧ v < rows.length) (h0 : at_ S.num v = 0) : DfsOk rows (S.enter rows v (-1)) :=
  h.enter hv h0 (by omega) (.inl ⟨hw, rfl⟩) fun e he => by
    have hc := h.cd0
    exact ⟨at_set_ne _ (by omega) (h.ed e he).1, at_set_ne _ (by omega) (h.ed e he).2.1, (h.ed e he).2.2⟩
theorem unv_le (l : List Int) : unv l ≤ l.length := List.length_filter_le _ _
theorem DfsOk.mea_start {rows : List (BitVec 64)} {S : Srch} (h : DfsOk rows S) (hw : S.way = []) (v f : Int) (hv : 0 ≤ v ∧ v < rows.length) (h0 : at_ S.num v = 0) : mea (S.enter rows v f) ≤ 5000 := by
  have h1 := unv_le (S.num.set v.toNat (S.cd + 1))
  have h2 := listB_len (at_ rows v)
  have h3 := h.nl
  have h4 := h.n64
  unfold mea
  simp only [Srch.enter, hw, List.nil_append, bitsN_one]
  rw [List.length_set] at h1
  omega
theorem DfsOk.mea_start2 {rows : List (BitVec 64)} {S : Srch} (h : DfsOk rows S) (hw : S.way = []) (v f : Int) (hv : 0 ≤ v ∧ v < rows.length) (h0 : at_ S.num v = 0) : mea (S.enter rows v f) ≤ mea S := by
  have h2 := listB_len (at_ rows v)
  have h1 := unv_set S.num v.toNat (S.cd + 1) (by rw [h.nl]; omega) (by have := h0; unfold at_ at this; exact this) (by have := h.cd0; omega)
  unfold mea
  simp only [Srch.enter, hw, List.nil_append, bitsN_one]
  omega
theorem DfsOk.cd_le {rows : List (BitVec 64)} {S : Srch} (h : DfsOk rows S) : 0 ≤ S.cd ∧ S.cd ≤ 64 := by
  have := h.cnt; have := h.n64; have := h.cd0; omega
end Go.Sl
