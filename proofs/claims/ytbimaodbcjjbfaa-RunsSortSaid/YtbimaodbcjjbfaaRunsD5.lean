/- A part of the proofs of statements of this seat: contracts of functions, and the plain laws that they lean on. No conditions. -/
import Derived.Test.YtbimaodbcjjbfaaRunsV4
import Derived.Lib.Overlaps
import Derived.Lib.AppendZerosOnto
import Derived.Lib.SliceRun
import Derived.Test.YtbimaodbcjjbfaaSets
import Derived.Test.YtbimaodbcjjbfaaRunsX
/- Operations on parts of owned slices: copy, append in place, making room, comparing with nil. No conditions. -/
namespace Go.Sl
open Go.RowKit (Below)
set_option linter.unusedVariables false
set_option linter.unusedSimpArgs false
set_option linter.unusedSectionVars false
section
variable {P : Program} {κ : Ctx} {N : Fr} {Q : Exit → Act → World → Prop} {L : Env} {I J : List Item} {ops : Array Oper} {rest : List Oper}
variable {d : Option Tmp} {ty : TypeId} {ps : String} {af : Array Edge} {gd : Option (Nat × Bool)}

theorem run_firstCells_pre {w : World} {sz : Nat} {v : Value} {m q : Nat} {ds : List Value} (h : slOk w sz v m ds) (hq : q ≤ m) : (Builtin.firstCells sz q v).run P w = .ok (ds.take (q * sz)).toArray w := by
  obtain ⟨a, cap, rfl, h1, h2, h3, h4⟩ := h
  have hmul : q * sz ≤ m * sz := Nat.mul_le_mul_right _ hq
  by_cases hc : 0 < cap
  · obtain ⟨b, off, rfl, hr⟩ := h4 hc
    exact run_firstCells_some w sz q _ m cap _ (by rw [List.length_take]; omega) fun j u hj => by
      rw [addr_add]
      rw [List.getElem?_take] at hj
      split at hj
      · exact hr j u hj
      · cases hj
  · obtain rfl : m = 0 := by omega
    obtain rfl : q = 0 := by omega
    cases a with
    | none => simp [Builtin.firstCells]
    | some a => rw [run_firstCells_some w sz 0 a 0 cap [] (by simp) (by simp)]; simp

/-- s[:h] of an owned slice, up to its capacity: some cells behind the elements. -/
theorem vec.room {e : TypeId} {sz n c h : Nat} {ad : Option Addr} {cs : List Value} (hh : n ≤ h) (hc : h ≤ c) : ∀ w, (vec e sz (.slice ad n c) n cs).ok w → ∃ js : List Value, js.length = (h - n) * sz ∧ (vec e sz (.slice ad h c) h (cs ++ js)).ok w := by
  intro w hw
  obtain ⟨a', cap', hv, hl, hnc, hcm, hcap⟩ := hw
  cases hv
  by_cases hc0 : 0 < c
  · obtain ⟨b, off, cur, rfl, hb, hsize, hcur⟩ := hcap hc0
    have hmul : h * sz ≤ c * sz := Nat.mul_le_mul_right _ hc
    have hmul2 : n * sz + (h - n) * sz = h * sz := by rw [← Nat.add_mul]; congr 1; omega
    refine ⟨(cur.toList.drop (off + n * sz)).take ((h - n) * sz), by simp only [List.length_take, List.length_drop, Array.length_toList]; omega, _, c, rfl, by simp only [List.length_append, List.length_take, List.length_drop, Array.length_toList]; omega, hc, hcm, fun _ => ⟨b, off, cur, rfl, hb, hsize, fun j u hj => ?_⟩⟩
    by_cases hjn : j < cs.length
    · rw [List.getElem?_append_left hjn] at hj; exact hcur j u hj
    · rw [List.getElem?_append_right (by omega), List.getElem?_take] at hj
      split at hj
      · rw [List.getElem?_drop, show off + n * sz + (j - cs.length) = off + j from by omega] at hj
        simpa using hj
      · cases hj
  · obtain rfl : h = 0 := by omega
    obtain rfl : n = 0 := by omega
    exact ⟨[], by simp, _, c, rfl, by simpa using hl, by omega, hcm, fun h => absurd h hc0⟩

/-- An item of which one knows only that some y fits. -/
theorem W.ex {β : Type} {c : Code} {x : Item} {x' : β → Item} {p : β → Prop} {F : Item → List Item} (hat : AtF I x F) (h : ∀ w, x.ok w → ∃ y, p y ∧ (x' y).ok w) (hf : ∀ y k, (x' y).fp k → x.fp k) (hW : ∀ y, p y → W P κ N c Q L (F (x' y))) : W P κ N c Q L I := fun a w ha hs => by
  obtain ⟨J, h1, h2⟩ := hat.perm
  have hJ := hs.perm h1
  obtain ⟨y, hp, hy⟩ := h w (hJ.ok x List.mem_cons_self).1
  refine hW y hp a w ha (Sep.perm ?_ (h2 _).symm)
  have ha' : ∀ z ∈ J, ∀ k, x.fp k → ¬ z.fp k := (List.pairwise_cons.1 hJ.pw).1
  exact hJ.tail.cons hy (fun k hk => (hJ.ok x List.mem_cons_self).2 k (hf y k hk)) fun z hz k hk => ha' z hz k (hf y k hk)

/-- append(s[:i], make([]T, k)...) where there is no room: s stays. -/
theorem Eff.grow {α : Type} [Enc α] [Inhabited α] {xs : List α} {x y : Operand} {t u e by' i k c dd : Nat} {m : Int} {ag : Bool} {z : List Value} {ad : Option Addr} (ht : P.underlying t = some (.slice e)) (hu : P.underlying u = some (.int .i64)) (hT : tyF P e = some (Enc.sz α, ag, by', z)) (hz : z = Enc.enc (default : α))
    (hx : evalO L x = some (.slice ad i c)) (hy : evalO L y = some (I64 m)) (hm : m = (k : Int)) (hv : Sl κ I (.slice ad xs.length c) xs) (hi : i ≤ xs.length) (hk : 0 < k) (hg : c < i + k) (hby : (i + k) * by' ≤ 140737488355328) (hby0 : 0 < by') (hN : Nat.blt dd N.n = true) :
    Eff P κ N Q ⟨some dd, .call { callee := .builtin .append, args := #[x, y], argTypes := #[t, u] }, ty, ps, af, gd⟩ L I fun L' I'' => ∃ ad' c', L' = (dd, .slice ad' (i + k) c') :: L ∧ I'' = vc e (.slice ad' (i + k) c') (xs.take i ++ List.replicate k (default : α)) :: I :=
  Eff.of_value rfl hN fun a w ha hs => by
    subst hm
    obtain ⟨i0, zv, d0, hi0, hz0, hd0, hsz, hag, hbt, hzc⟩ := tyF_spec hT
    have hpos := Enc.pos (α := α)
    have h63 : i + k ≤ maxLen := by
      have := Nat.le_mul_of_pos_right (i + k) hby0
      simp only [maxLen]; omega
    have hrd := (Sl.take hv hi) w.drew (hs.drew)
    have hlt : (xs.take i).length = i := by rw [List.length_take]; omega
    rw [hlt] at hrd
    have hold := run_firstCells_pre (P := P) hrd (Nat.le_refl i)
    have hcl : (cells (xs.take i)).length = i * Enc.sz α := by rw [cells_length, hlt]
    rw [List.take_of_length_le (by omega)] at hold
    have hrun := Go.Lib.run_append_grow_zeros (P := P) w t u ty e i0 zv .i64 .i64 ht hu hi0 hz0 ad i c (cells (xs.take i)) (by rw [hsz]; exact hold) k hk (by omega) hg (by simp only [maxLen] at h63; omega)
      (by rw [hbt]; rw [Nat.add_mul] at hby; omega) (growslice_fits hg (by rw [hbt]; exact hby))
    have hge := grownCap_ge w (i + k) c e
    have hgm := grownCap_le_maxLen w (i + k) c e h63
    have hzs : zv.cells.size = Enc.sz α := by rw [hzc, hz, List.size_toArray, Enc.len]
    have hcells : (Builtin.zeroCells zv.cells k).toList = cells (List.replicate k (default : α)) := by
      rw [← rep_cells, ← hz]
      apply List.ext_getElem?
      intro j
      simp only [Builtin.zeroCells, Array.toList_map, Array.toList_range, List.getElem?_map, hzs]
      by_cases hj : j < k * Enc.sz α
      · rw [List.getElem?_range hj]
        have hjm : j % Enc.sz α < z.length := by rw [hz, Enc.len]; exact Nat.mod_lt _ hpos
        rw [flatten_rep z k j (by omega) (by rw [hz, Enc.len]; exact hj), show z.length = Enc.sz α from by rw [hz, Enc.len], hzc]
        simp [hjm]
      · rw [List.getElem?_eq_none (by simpa using hj), List.getElem?_eq_none (by rw [len_rep, hz, Enc.len]; omega)]
        rfl
    refine ⟨.slice (some ⟨w.heap.size, 0, none⟩) (i + k) (grownCap w (i + k) c e), w.drew.alloc (.cells ((cells (xs.take i)).toArray ++ Builtin.zeroCells zv.cells k ++ Builtin.zeroCells zv.cells (grownCap w (i + k) c e - (i + k))) e), _, by simp only [execOp, resolve, invoke, builtin, List.map_toArray, List.map_cons, List.map_nil, ha.eval hx, ha.eval hy]; simp [hrun], ⟨_, _, rfl, rfl⟩, ?_⟩
    have hxl : (xs.take i ++ List.replicate k (default : α)).length = i + k := by rw [List.length_append, hlt, List.length_replicate]
    refine hs.drew.new (hs.drew.alloc _) ?_ fun j hj => ?_
    · show vecOk _ e _ _ _ _
      rw [hxl]
      refine ⟨_, _, rfl, by rw [cells_length, hxl], hge, hgm, fun _ => ⟨w.heap.size, 0, _, rfl, heap_alloc_new w.drew _, ?_, fun j u hj => ?_⟩⟩
      · simp only [Array.size_append, List.size_toArray, size_zeroCells, hzs, hcl, ← Nat.add_mul, Nat.zero_add]
        rw [Nat.add_sub_cancel' hge]
        exact Nat.le_refl _
      · rw [Nat.zero_add, Array.getElem?_append_left (by
          have := (List.getElem?_eq_some_iff.1 hj).1
          rw [cells_length, hxl] at this
          simp only [Array.size_append, List.size_toArray, size_zeroCells, hzs, hcl, ← Nat.add_mul]; exact this)]
        rw [cells_append, ← hcells] at hj
        have e1 : (cells (xs.take i)).toArray ++ Builtin.zeroCells zv.cells k = (cells (xs.take i) ++ (Builtin.zeroCells zv.cells k).toList).toArray := by
          apply Array.ext'; simp
        rw [e1, List.getElem?_toArray]; exact hj
    · obtain ⟨o, n', c', he, hc'⟩ := hj
      cases he
      exact ⟨Nat.le_refl _, by simp⟩

/-- A slice held against nil. -/
theorem Runs.eqnil {x y : Operand} {T E U n c : Nat} {ad : Option Addr} (ht : P.underlying T = some (.slice E)) (hx : evalO L x = some (.slice ad n c)) (hy : evalO L y = some (.slice none 0 0)) :
    Runs P κ N ⟨d, .binOp .eql T x y U, ty, ps, af, gd⟩ L J (.bool ad.isNone) := fun a w ha _ => by
  have hg : (eqGuard .eql T x y (.slice ad n c) (.slice none 0 0)).run P w = .ok () w := by simp [eqGuard]
  have h := Go.Lib.run_eql_slice_nil (P := P) w T E ad n c 0 0 ht
  simp only [execOp, ha.eval hx, ha.eval hy]
  simp [hg, h]
/-- []T{} -/
theorem Eff.bs0 {α : Type} [Enc α] {t e by' dd : Nat} {ag : Bool} {z : List Value} (ht : P.underlying t = some (.slice e)) (hT : tyF P e = some (Enc.sz α, ag, by', z)) (hN : Nat.blt dd N.n = true) :
    Eff P κ N Q ⟨some dd, .buildSlice t 0 #[], ty, ps, af, gd⟩ L I fun L' I'' => ∃ ad, L' = (dd, .slice ad 0 0) :: L ∧ I'' = vc e (.slice ad 0 0) ([] : List α) :: I :=
  Eff.of_value rfl hN fun a w ha hs => by
    refine ⟨.slice (some ⟨w.heap.size, 0, none⟩) 0 0, w.alloc (.cells #[] e), _, by simp [execOp, Instr.buildSlice, run_underlying ht, run_sizeOf hT, Instr.fill, newRow, Array.range_zero'], ⟨_, rfl, rfl⟩, ?_⟩
    exact hs.new (hs.alloc _) ⟨_, 0, rfl, by simp [cells], Nat.le_refl _, by simp, fun h => absurd h (by decide)⟩ fun k hk => by
      obtain ⟨o, n', c', he, hc'⟩ := hk
      cases he
      omega
theorem Sl.isNone {α : Type} [Enc α] {xs : List α} {ad : Option Addr} {c : Nat} (h : Sl κ I (.slice ad xs.length c) xs) : ∀ w, Sep κ w I → ad.isNone = true → xs = [] ∧ c = 0 := fun w hs hn => by
  obtain ⟨a, cap, he, h1, h2, h3, h4⟩ := h w hs
  cases he
  by_cases hc : 0 < c
  · obtain ⟨b, off, rfl, _⟩ := h4 hc; cases hn
  · exact ⟨List.eq_nil_of_length_eq_zero (by omega), by omega⟩
end
end Go.Sl
/- Lists with something put in, or taken out: the plain laws behind slices.Insert and slices.Delete. No conditions. -/
namespace Go.Sl
set_option linter.unusedVariables false
set_option linter.unusedSectionVars false
section
variable {β : Type} {xs ys js : List β} {i m n r : Nat} {d : β}
end
section
variable {P : Program} {κ : Ctx} {N : Fr} {Q : Exit → Act → World → Prop} {L : Env} {I J : List Item} {ops : Array Oper} {rest : List Oper}
variable {d : Option Tmp} {ty : TypeId} {ps : String} {af : Array Edge} {gd : Option (Nat × Bool)}
variable {α : Type} [Enc α] {xs ys R : List α}
theorem G.ex {β : Type} {x : Item} {x' : β → Item} {p : β → Prop} {F : Item → List Item} (hat : AtF I x F) (h : ∀ w, x.ok w → ∃ y, p y ∧ (x' y).ok w) (hf : ∀ y k, (x' y).fp k → x.fp k) (hG : ∀ y, p y → G P κ N ops Q rest L (F (x' y))) : G P κ N ops Q rest L I := fun a w ha hs => by
  obtain ⟨J, h1, h2⟩ := hat.perm
  have hJ := hs.perm h1
  obtain ⟨y, hp, hy⟩ := h w (hJ.ok x List.mem_cons_self).1
  refine hG y hp a w ha (Sep.perm ?_ (h2 _).symm)
  have ha' : ∀ z ∈ J, ∀ k, x.fp k → ¬ z.fp k := (List.pairwise_cons.1 hJ.pw).1
  exact hJ.tail.cons hy (fun k hk => (hJ.ok x List.mem_cons_self).2 k (hf y k hk)) fun z hz k hk => ha' z hz k (hf y k hk)
/-- Room behind the elements, opened. -/
theorem G.room {e n c h : Nat} {ad : Option Addr} {F : Item → List Item} (hat : AtF I (vc e (.slice ad n c) xs) F) (hn : n = xs.length) (hh : n ≤ h) (hc : h ≤ c)
    (hG : ∀ js : List Value, js.length = (h - n) * Enc.sz α → G P κ N ops Q rest L (F (vec e (Enc.sz α) (.slice ad h c) h (cells xs ++ js)))) : G P κ N ops Q rest L I := by
  subst hn
  exact G.ex hat (x' := fun js => vec e (Enc.sz α) (.slice ad h c) h (cells xs ++ js)) (vec.room hh hc) (fun js k hk => by obtain ⟨o, n', c', he, hc'⟩ := hk; cases he; exact ⟨o, _, _, rfl, hc'⟩) hG
end
end Go.Sl
/- slices.Delete's operations: append in place, clear behind the elements, s[l:h:m]. No conditions. -/
namespace Go.Sl
open Go.RowKit (Below)
set_option linter.unusedVariables false
set_option linter.unusedSimpArgs false
set_option linter.unusedSectionVars false
section
variable {P : Program} {κ : Ctx} {N : Fr} {Q : Exit → Act → World → Prop} {L : Env} {I J : List Item} {ops : Array Oper} {rest : List Oper}
variable {d : Option Tmp} {ty : TypeId} {ps : String} {af : Array Edge} {gd : Option (Nat × Bool)}
variable {α : Type} [Enc α] {xs ys R : List α}
end
end Go.Sl
/- '==' of structs of numbers. No conditions. -/
namespace Go.Sl
set_option linter.unusedVariables false
set_option linter.unusedSimpArgs false
section
variable {P : Program}
end
end Go.Sl
/- Changing graphs: the plain laws. No Go. No conditions. -/
namespace Go.Sl
set_option linter.unusedVariables false
set_option linter.unusedSectionVars false

/-- Two different nodes that exist. -/
def endsP (nd u v : Int) : Prop := 0 ≤ u ∧ 0 ≤ v ∧ u < nd ∧ v < nd ∧ u ≠ v
instance (nd u v : Int) : Decidable (endsP nd u v) := by unfold endsP; infer_instance
def edgeP (u v : Int) : Pt := ⟨if v < u then v else u, if u < v then v else u⟩
theorem edgeP_ok {nd u v : Int} (h : endsP nd u v) : 0 ≤ (edgeP u v).u ∧ (edgeP u v).u < (edgeP u v).v ∧ (edgeP u v).v < nd := by
  unfold endsP at h; unfold edgeP; simp only; split <;> split <;> omega
section
variable {es : List Pt} {e : Pt} {i : Nat} {q : Bool}
/-- The list without e. -/
def without (es : List Pt) (e : Pt) : List Pt := es.filter fun p => decide (p ≠ e)
theorem GrOk.add {nd u v : Int} (h : GrOk nd es) (he : endsP nd u v) : GrOk nd (insB Pt.lt es (edgeP u v)) :=
  ⟨h.rng, Pt.lin.insB _ h.asc, fun p hp => by
    rcases (mem_insB _ _ _).1 hp with rfl | hp
    · exact edgeP_ok he
    · exact h.edge p hp⟩
theorem GrOk.rem {nd : Int} (h : GrOk nd es) : GrOk nd (without es e) := ⟨h.rng, h.asc.sublist List.filter_sublist, fun p hp => h.edge p ((List.mem_filter.1 hp).1)⟩
/-! ### Runs of changed graphs -/
end
end Go.Sl
