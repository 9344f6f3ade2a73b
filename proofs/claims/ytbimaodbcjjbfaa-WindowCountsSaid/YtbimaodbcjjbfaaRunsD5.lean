/- A part of the proofs of statements of this seat: contracts of functions, and the plain laws that they lean on. No conditions. -/
import Derived.Test.YtbimaodbcjjbfaaRunsV4
import Derived.Lib.Overlaps
import Derived.Lib.AppendZerosOnto
import Derived.Lib.SliceRun
import Derived.Test.YtbimaodbcjjbfaaSets
import Derived.Test.YtbimaodbcjjbfaaRunsX
/- Operations on parts of owned slices: copy, append in place, making room, comparing with nil. No conditions. -/
namespace Go.Sl
open Go.RowKit (Below)
set_option linter.unusedVariables false
set_option linter.unusedSimpArgs false
set_option linter.unusedSectionVars false
section
variable {P : Program} {κ : Ctx} {N : Nat} {Q : Exit → Act → World → Prop} {L : Env} {I J : List Item} {ops : Array Oper} {rest : List Oper}
variable {d : Option Tmp} {ty : TypeId} {ps : String} {af : Array Edge} {gd : Option (Nat × Bool)}

theorem run_firstCells_pre {w : World} {sz : Nat} {v : Value} {m q : Nat} {ds : List Value} (h : slOk w sz v m ds) (hq : q ≤ m) : (Builtin.firstCells sz q v).run P w = .ok (ds.take (q * sz)).toArray w := by
  obtain ⟨a, cap, rfl, h1, h2, h3, h4⟩ := h
  have hmul : q * sz ≤ m * sz := Nat.mul_le_mul_right _ hq
  by_cases hc : 0 < cap
  · obtain ⟨b, off, rfl, hr⟩ := h4 hc
    exact run_firstCells_some w sz q _ m cap _ (by rw [List.length_take]; omega) fun j u hj => by
      rw [addr_add]
      rw [List.getElem?_take] at hj
      split at hj
      · exact hr j u hj
      · cases hj
  · obtain rfl : m = 0 := by omega
    obtain rfl : q = 0 := by omega
    cases a with
    | none => simp [Builtin.firstCells]
    | some a => rw [run_firstCells_some w sz 0 a 0 cap [] (by simp) (by simp)]; simp

/-- What vecOk says of a store into its cells. -/
theorem vec_put {w : World} {e : TypeId} {sz n c b off : Nat} {cs vs : List Value} {cur : Array Value} {k : Nat} (hl : cs.length = n * sz) (hnc : n ≤ c) (hcm : c ≤ maxLen) (hb : w.heap[b]? = some (.cells cur e (0, 0)))
    (hsize : off + c * sz ≤ cur.size) (hcur : ∀ j u, cs[j]? = some u → cur[off + j]? = some u) (hk : k + vs.length ≤ cs.length) :
    vecOk (w.setRow b (cur.toList.take (off + k) ++ vs ++ cur.toList.drop (off + k + vs.length)).toArray) e sz (.slice (some ⟨b, off, none⟩) n c) n (cs.take k ++ vs ++ cs.drop (k + vs.length)) := by
  have hmul : n * sz ≤ c * sz := Nat.mul_le_mul_right _ hnc
  refine ⟨_, c, rfl, by simp only [List.length_append, List.length_take, List.length_drop]; omega, hnc, hcm, fun hc => ⟨b, off, _, rfl, setRow_heap w b cur _ e _ hb, ?_, fun j u' hj => ?_⟩⟩
  · simp only [List.size_toArray, List.length_append, List.length_take, List.length_drop, Array.length_toList]; omega
  · have hjl : j < cs.length := by have := (List.getElem?_eq_some_iff.1 hj).1; simp only [List.length_append, List.length_take, List.length_drop] at this; omega
    have hA : (cur.toList.take (off + k)).length = off + k := by simp only [List.length_take, Array.length_toList]; omega
    have hB : (cs.take k).length = k := by simp only [List.length_take]; omega
    simp only [List.getElem?_toArray]
    rw [List.append_assoc] at hj
    rw [List.append_assoc]
    by_cases hjk : j < k
    · rw [List.getElem?_append_left (by omega), List.getElem?_take, if_pos hjk] at hj
      rw [List.getElem?_append_left (by omega), List.getElem?_take, if_pos (by omega)]
      simpa using hcur j u' hj
    · rw [List.getElem?_append_right (by omega), hB] at hj
      rw [List.getElem?_append_right (by omega), hA, show off + j - (off + k) = j - k from by omega]
      by_cases hjv : j - k < vs.length
      · rw [List.getElem?_append_left hjv] at hj
        rw [List.getElem?_append_left hjv]
        exact hj
      · rw [List.getElem?_append_right (by omega), List.getElem?_drop, show k + vs.length + (j - k - vs.length) = j from by omega] at hj
        rw [List.getElem?_append_right (by omega), List.getElem?_drop, show off + k + vs.length + (j - k - vs.length) = off + j from by omega]
        simpa using hcur j u' hj

/-- copy(s[k:], y) -/
theorem Eff.copyR {x y : Operand} {t t' e sz by' n n' m k q c dd : Nat} {ag : Bool} {z cs ds : List Value} {ad : Option Addr} {u : Value} {I' : List Item} (ht : P.underlying t = some (.slice e)) (hT : tyF P e = some (sz, ag, by', z))
    (hx : evalO L x = some (.slice (adrop ad c k sz) n' (c - k))) (hn' : n' = n - k) (hy : evalO L y = some u) (hu : SlRd κ I sz u m ds) (hk : k ≤ n) (hq : q = min m (n - k)) (h1 : ∀ w ∈ ds.take (q * sz), w.oneCell' = true) (hN : Nat.blt dd N = true)
    (hat : At I (vec e sz (.slice ad n c) n cs) (vec e sz (.slice ad n c) n (cs.take (k * sz) ++ ds.take (q * sz) ++ cs.drop (k * sz + q * sz))) I') :
    Eff P κ N Q ⟨some dd, .call { callee := .builtin .copy, args := #[x, y], argTypes := #[t, t'] }, ty, ps, af, gd⟩ L I fun L' I'' => L' = (dd, I64 q) :: L ∧ I'' = I' :=
  Eff.of_value rfl hN fun a w ha hs => by
    subst hn'
    obtain ⟨a', cap', hv, hl, hnc, hcm, hcap⟩ := (hs.ok _ hat.mem).1
    cases hv
    have hrd := hu w hs
    have hlen := run_lenOf_sl (P := P) hrd
    have hml : m * sz ≤ ds.length := by obtain ⟨_, _, _, h, _⟩ := hrd; omega
    have hql : q * sz ≤ m * sz := Nat.mul_le_mul_right _ (by omega)
    have hfc := run_firstCells_pre (P := P) hrd (show q ≤ m by omega)
    have hmin : m.min (n - k) = q := hq.symm
    have hdl : (ds.take (q * sz)).length = q * sz := by rw [List.length_take]; omega
    have hq1 : q * sz + k * sz ≤ n * sz := by rw [← Nat.add_mul]; exact Nat.mul_le_mul_right _ (by omega)
    by_cases hq0 : q = 0
    · subst hq0
      refine ⟨I64 0, w, I', ?_, ⟨rfl, rfl⟩, ?_⟩
      · cases had : adrop ad c k sz with
        | none => simp [execOp, resolve, invoke, builtin, ha.eval hx, ha.eval hy, Builtin.copy_, run_underlying ht, hlen, run_sizeOf hT, hmin, hfc, had, goInt]
        | some aa => simp [execOp, resolve, invoke, builtin, ha.eval hx, ha.eval hy, Builtin.copy_, run_underlying ht, hlen, run_sizeOf hT, hmin, hfc, had, goInt, storeCells]
      · refine Fit.upd hat (fun w hw => ?_) w hs
        have e : cs.take (k * sz) ++ ds.take (0 * sz) ++ cs.drop (k * sz + 0 * sz) = cs := by simp
        rw [e]
        exact ⟨hw, fun _ h => h⟩
    · obtain ⟨b, off, cur, rfl, hb, hsize, hcur⟩ := hcap (by omega)
      have hcs := run_storeCells_at P b (off + k * sz) e (ds.take (q * sz)) 0 cur w hb (by
        have := Nat.mul_le_mul_right sz hnc
        simp only [Nat.add_zero]; omega) h1
      simp only [Nat.add_zero] at hcs
      have had : adrop (some ⟨b, off, none⟩) c k sz = some ⟨b, off + k * sz, none⟩ := by unfold adrop; rw [if_neg (by omega)]; simp [addr_add]
      refine ⟨I64 q, _, I', by simp only [execOp, resolve, invoke, builtin, List.map_toArray, List.map_cons, List.map_nil, ha.eval hx, ha.eval hy]; simp [Builtin.copy_, run_underlying ht, hlen, run_sizeOf hT, hmin, hfc, had, goInt]; rw [hcs]; simp only [Result.andThen_ok]; rfl, ⟨rfl, rfl⟩, ?_⟩
      refine hs.upd hat rfl ⟨rfl, Nat.le_refl _⟩ rfl (by simp) (fun k' _ hne => setRow_other w b k' _ fun e => hne (by subst e; exact ⟨off, n, c, rfl, by omega⟩)) ?_ fun k' hk' => .inl ?_
      · have := vec_put (k := k * sz) (vs := ds.take (q * sz)) hl hnc hcm hb hsize hcur (by rw [hdl]; omega)
        rw [hdl] at this
        rw [hdl]
        exact this
      · exact hk'

/-- s[:h] of an owned slice, up to its capacity: some cells behind the elements. -/
theorem vec.room {e : TypeId} {sz n c h : Nat} {ad : Option Addr} {cs : List Value} (hh : n ≤ h) (hc : h ≤ c) : ∀ w, (vec e sz (.slice ad n c) n cs).ok w → ∃ js : List Value, js.length = (h - n) * sz ∧ (vec e sz (.slice ad h c) h (cs ++ js)).ok w := by
  intro w hw
  obtain ⟨a', cap', hv, hl, hnc, hcm, hcap⟩ := hw
  cases hv
  by_cases hc0 : 0 < c
  · obtain ⟨b, off, cur, rfl, hb, hsize, hcur⟩ := hcap hc0
    have hmul : h * sz ≤ c * sz := Nat.mul_le_mul_right _ hc
    have hmul2 : n * sz + (h - n) * sz = h * sz := by rw [← Nat.add_mul]; congr 1; omega
    refine ⟨(cur.toList.drop (off + n * sz)).take ((h - n) * sz), by simp only [List.length_take, List.length_drop, Array.length_toList]; omega, _, c, rfl, by simp only [List.length_append, List.length_take, List.length_drop, Array.length_toList]; omega, hc, hcm, fun _ => ⟨b, off, cur, rfl, hb, hsize, fun j u hj => ?_⟩⟩
    by_cases hjn : j < cs.length
    · rw [List.getElem?_append_left hjn] at hj; exact hcur j u hj
    · rw [List.getElem?_append_right (by omega), List.getElem?_take] at hj
      split at hj
      · rw [List.getElem?_drop, show off + n * sz + (j - cs.length) = off + j from by omega] at hj
        simpa using hj
      · cases hj
  · obtain rfl : h = 0 := by omega
    obtain rfl : n = 0 := by omega
    exact ⟨[], by simp, _, c, rfl, by simpa using hl, by omega, hcm, fun h => absurd h hc0⟩

/-- An item of which one knows only that some y fits. -/
theorem W.ex {β : Type} {c : Code} {x : Item} {x' : β → Item} {p : β → Prop} {F : Item → List Item} (hat : AtF I x F) (h : ∀ w, x.ok w → ∃ y, p y ∧ (x' y).ok w) (hf : ∀ y k, (x' y).fp k → x.fp k) (hW : ∀ y, p y → W P κ N c Q L (F (x' y))) : W P κ N c Q L I := fun a w ha hs => by
  obtain ⟨J, h1, h2⟩ := hat.perm
  have hJ := hs.perm h1
  obtain ⟨y, hp, hy⟩ := h w (hJ.ok x List.mem_cons_self).1
  refine hW y hp a w ha (Sep.perm ?_ (h2 _).symm)
  have ha' : ∀ z ∈ J, ∀ k, x.fp k → ¬ z.fp k := (List.pairwise_cons.1 hJ.pw).1
  exact hJ.tail.cons hy (fun k hk => (hJ.ok x List.mem_cons_self).2 k (hf y k hk)) fun z hz k hk => ha' z hz k (hf y k hk)

/-- append(s[:i], make([]T, k)...) where there is no room: s stays. -/
theorem Eff.grow {α : Type} [Enc α] [Inhabited α] {xs : List α} {x y : Operand} {t u e by' i k c dd : Nat} {m : Int} {ag : Bool} {z : List Value} {ad : Option Addr} (ht : P.underlying t = some (.slice e)) (hu : P.underlying u = some (.int .i64)) (hT : tyF P e = some (Enc.sz α, ag, by', z)) (hz : z = Enc.enc (default : α))
    (hx : evalO L x = some (.slice ad i c)) (hy : evalO L y = some (I64 m)) (hm : m = (k : Int)) (hv : Sl κ I (.slice ad xs.length c) xs) (hi : i ≤ xs.length) (hk : 0 < k) (hg : c < i + k) (hby : (i + k) * by' ≤ 140737488355328) (hby0 : 0 < by') (hN : Nat.blt dd N = true) :
    Eff P κ N Q ⟨some dd, .call { callee := .builtin .append, args := #[x, y], argTypes := #[t, u] }, ty, ps, af, gd⟩ L I fun L' I'' => ∃ ad' c', L' = (dd, .slice ad' (i + k) c') :: L ∧ I'' = vc e (.slice ad' (i + k) c') (xs.take i ++ List.replicate k (default : α)) :: I :=
  Eff.of_value rfl hN fun a w ha hs => by
    subst hm
    obtain ⟨i0, zv, d0, hi0, hz0, hd0, hsz, hag, hbt, hzc⟩ := tyF_spec hT
    have hpos := Enc.pos (α := α)
    have h63 : i + k ≤ maxLen := by
      have := Nat.le_mul_of_pos_right (i + k) hby0
      simp only [maxLen]; omega
    have hrd := (Sl.take hv hi) w.drew (hs.drew)
    have hlt : (xs.take i).length = i := by rw [List.length_take]; omega
    rw [hlt] at hrd
    have hold := run_firstCells_pre (P := P) hrd (Nat.le_refl i)
    have hcl : (cells (xs.take i)).length = i * Enc.sz α := by rw [cells_length, hlt]
    rw [List.take_of_length_le (by omega)] at hold
    have hrun := Go.Lib.run_append_grow_zeros (P := P) w t u ty e i0 zv .i64 .i64 ht hu hi0 hz0 ad i c (cells (xs.take i)) (by rw [hsz]; exact hold) k hk (by omega) hg (by simp only [maxLen] at h63; omega)
      (by rw [hbt]; rw [Nat.add_mul] at hby; omega) (growslice_fits hg (by rw [hbt]; exact hby))
    have hge := grownCap_ge w (i + k) c e
    have hgm := grownCap_le_maxLen w (i + k) c e h63
    have hzs : zv.cells.size = Enc.sz α := by rw [hzc, hz, List.size_toArray, Enc.len]
    have hcells : (Builtin.zeroCells zv.cells k).toList = cells (List.replicate k (default : α)) := by
      rw [← rep_cells, ← hz]
      apply List.ext_getElem?
      intro j
      simp only [Builtin.zeroCells, Array.toList_map, Array.toList_range, List.getElem?_map, hzs]
      by_cases hj : j < k * Enc.sz α
      · rw [List.getElem?_range hj]
        have hjm : j % Enc.sz α < z.length := by rw [hz, Enc.len]; exact Nat.mod_lt _ hpos
        rw [flatten_rep z k j (by omega) (by rw [hz, Enc.len]; exact hj), show z.length = Enc.sz α from by rw [hz, Enc.len], hzc]
        simp [hjm]
      · rw [List.getElem?_eq_none (by simpa using hj), List.getElem?_eq_none (by rw [len_rep, hz, Enc.len]; omega)]
        rfl
    refine ⟨.slice (some ⟨w.heap.size, 0, none⟩) (i + k) (grownCap w (i + k) c e), w.drew.alloc (.cells ((cells (xs.take i)).toArray ++ Builtin.zeroCells zv.cells k ++ Builtin.zeroCells zv.cells (grownCap w (i + k) c e - (i + k))) e), _, by simp only [execOp, resolve, invoke, builtin, List.map_toArray, List.map_cons, List.map_nil, ha.eval hx, ha.eval hy]; simp [hrun], ⟨_, _, rfl, rfl⟩, ?_⟩
    have hxl : (xs.take i ++ List.replicate k (default : α)).length = i + k := by rw [List.length_append, hlt, List.length_replicate]
    refine hs.drew.new (hs.drew.alloc _) ?_ fun j hj => ?_
    · show vecOk _ e _ _ _ _
      rw [hxl]
      refine ⟨_, _, rfl, by rw [cells_length, hxl], hge, hgm, fun _ => ⟨w.heap.size, 0, _, rfl, heap_alloc_new w.drew _, ?_, fun j u hj => ?_⟩⟩
      · simp only [Array.size_append, List.size_toArray, size_zeroCells, hzs, hcl, ← Nat.add_mul, Nat.zero_add]
        rw [Nat.add_sub_cancel' hge]
        exact Nat.le_refl _
      · rw [Nat.zero_add, Array.getElem?_append_left (by
          have := (List.getElem?_eq_some_iff.1 hj).1
          rw [cells_length, hxl] at this
          simp only [Array.size_append, List.size_toArray, size_zeroCells, hzs, hcl, ← Nat.add_mul]; exact this)]
        rw [cells_append, ← hcells] at hj
        have e1 : (cells (xs.take i)).toArray ++ Builtin.zeroCells zv.cells k = (cells (xs.take i) ++ (Builtin.zeroCells zv.cells k).toList).toArray := by
          apply Array.ext'; simp
        rw [e1, List.getElem?_toArray]; exact hj
    · obtain ⟨o, n', c', he, hc'⟩ := hj
      cases he
      exact ⟨Nat.le_refl _, by simp⟩

/-- slices.overlaps of two owned slices. -/
theorem Eff.overlaps {f t tb e sz by' n m k k' c c' dd : Nat} {ag : Bool} {z cs ds : List Value} {x y : Operand} {tys : Array TypeId} {ad ad' : Option Addr} {e' sz' : Nat} {K : List Item}
    (hov : ∀ args w, (callFunc f args).run P w = ((Extern.SlicesOverlaps.overlaps #[t, t] #[tb] args).run P w).andThen fun v w' => .ok (.value v) w') (ht : P.underlying t = some (.slice e)) (hT : tyF P e = some (sz, ag, by', z))
    (hx : evalO L x = some (.slice ad m c)) (hy : evalO L y = some (.slice (adrop ad' c' k sz) k' (c' - k))) (hkc : k ≤ c') (h0 : 0 < m) (h0' : 0 < n) (hfit : Fit κ I (vec e sz (.slice ad m c) m cs :: vec e' sz' (.slice ad' n c') n ds :: K)) (hss : 0 < c' * sz') (hN : Nat.blt dd N = true) :
    Eff P κ N Q ⟨some dd, .call { callee := .value (.func f), args := #[x, y], argTypes := tys }, ty, ps, af, gd⟩ L I fun L' I'' => L' = (dd, .bool false) :: L ∧ I'' = I :=
  Eff.of_value rfl hN fun a w ha hs => by
    have hs2 := hfit w hs
    obtain ⟨_, _, hv, _, hmc, _, hcap⟩ := (hs2.ok _ List.mem_cons_self).1
    cases hv
    obtain ⟨_, _, hv', _, hnc', _, hcap'⟩ := (hs2.ok _ (List.mem_cons_of_mem _ List.mem_cons_self)).1
    cases hv'
    obtain ⟨b, off, cur, rfl, hb, hsize, _⟩ := hcap (by omega)
    obtain ⟨b', off', cur', rfl, hb', hsize', _⟩ := hcap' (by omega)
    have hap : Item.apart _ _ := (List.pairwise_cons.1 hs2.pw).1 _ List.mem_cons_self
    have hne : b ≠ b' := fun e => by
      subst e
      exact hap b ⟨off, m, c, rfl, by omega⟩ ⟨off', n, c', rfl, by omega⟩
    have had : ∃ o, adrop (some ⟨b', off', none⟩) c' k sz = some ⟨b', o, none⟩ := by
      unfold adrop; split
      · exact ⟨_, rfl⟩
      · exact ⟨_, by simp [addr_add]; rfl⟩
    obtain ⟨o, ho⟩ := had
    rw [ho] at hy
    have hrun := Go.Lib.run_overlaps_apart w t tb e ht sz (fun w => run_sizeOf hT w) ⟨b, off, none⟩ ⟨b', o, none⟩ m c k' (c' - k) hne e e' cur.size cur'.size (by simp [World.shape?, hb]) (by simp [World.shape?, hb']) (by omega) (by simp [World.frozen?, hb]) (by simp [World.frozen?, hb])
    refine ⟨.bool false, w, I, ?_, ⟨rfl, rfl⟩, hs⟩
    have e1 : a.eval (.func f) = .func (.func f) #[] #[] := rfl
    simp only [execOp, resolve, e1, Deferred.ofValue, invoke, Sem.run_bind, Sem.run_pure, Result.andThen_ok, List.map_toArray, List.map_cons, List.map_nil, ha.eval hx, ha.eval hy]
    simp only [Array.empty_append, Array.append_empty, hov, hrun, Result.andThen_ok]

/-- A slice held against nil. -/
theorem Runs.eqnil {x y : Operand} {T E U n c : Nat} {ad : Option Addr} (ht : P.underlying T = some (.slice E)) (hx : evalO L x = some (.slice ad n c)) (hy : evalO L y = some (.slice none 0 0)) :
    Runs P κ N ⟨d, .binOp .eql T x y U, ty, ps, af, gd⟩ L J (.bool ad.isNone) := fun a w ha _ => by
  have hg : (eqGuard .eql T x y (.slice ad n c) (.slice none 0 0)).run P w = .ok () w := by simp [eqGuard]
  have h := Go.Lib.run_eql_slice_nil (P := P) w T E ad n c 0 0 ht
  simp only [execOp, ha.eval hx, ha.eval hy]
  simp [hg, h]
/-- []T{} -/
theorem Eff.bs0 {α : Type} [Enc α] {t e by' dd : Nat} {ag : Bool} {z : List Value} (ht : P.underlying t = some (.slice e)) (hT : tyF P e = some (Enc.sz α, ag, by', z)) (hN : Nat.blt dd N = true) :
    Eff P κ N Q ⟨some dd, .buildSlice t 0 #[], ty, ps, af, gd⟩ L I fun L' I'' => ∃ ad, L' = (dd, .slice ad 0 0) :: L ∧ I'' = vc e (.slice ad 0 0) ([] : List α) :: I :=
  Eff.of_value rfl hN fun a w ha hs => by
    refine ⟨.slice (some ⟨w.heap.size, 0, none⟩) 0 0, w.alloc (.cells #[] e), _, by simp [execOp, Instr.buildSlice, run_underlying ht, run_sizeOf hT, Instr.fill, newRow, Array.range_zero'], ⟨_, rfl, rfl⟩, ?_⟩
    exact hs.new (hs.alloc _) ⟨_, 0, rfl, by simp [cells], Nat.le_refl _, by simp, fun h => absurd h (by decide)⟩ fun k hk => by
      obtain ⟨o, n', c', he, hc'⟩ := hk
      cases he
      omega
theorem Sl.isNone {α : Type} [Enc α] {xs : List α} {ad : Option Addr} {c : Nat} (h : Sl κ I (.slice ad xs.length c) xs) : ∀ w, Sep κ w I → ad.isNone = true → xs = [] ∧ c = 0 := fun w hs hn => by
  obtain ⟨a, cap, he, h1, h2, h3, h4⟩ := h w hs
  cases he
  by_cases hc : 0 < c
  · obtain ⟨b, off, rfl, _⟩ := h4 hc; cases hn
  · exact ⟨List.eq_nil_of_length_eq_zero (by omega), by omega⟩
end
end Go.Sl
/- Lists with something put in, or taken out: the plain laws behind slices.Insert and slices.Delete. No conditions. -/
namespace Go.Sl
set_option linter.unusedVariables false
set_option linter.unusedSectionVars false
section
variable {β : Type} {xs ys js : List β} {i m n r : Nat} {d : β}
/-- a, then b, with their lengths known. -/
theorem take_app {a b : List β} {k : Nat} (h : a.length = k) : (a ++ b).take k = a := by subst h; simp
theorem drop_app {a b : List β} {k : Nat} (h : a.length = k) : (a ++ b).drop k = b := by subst h; simp
theorem ins1 (hi : i ≤ xs.length) : (xs.take i ++ List.replicate (xs.length + ys.length - i) d).take i ++ ys.take ys.length ++ (xs.take i ++ List.replicate (xs.length + ys.length - i) d).drop (i + ys.length) = xs.take i ++ ys ++ List.replicate (xs.length - i) d := by
  have hl : (xs.take i).length = i := by rw [List.length_take]; omega
  rw [take_app hl, List.take_length, ← List.drop_drop, drop_app hl, List.drop_replicate, show xs.length + ys.length - i - ys.length = xs.length - i by omega]
theorem ins2 (hi : i ≤ xs.length) : (xs.take i ++ ys ++ List.replicate (xs.length - i) d).take (i + ys.length) ++ (xs.drop i).take (xs.length - i) ++ (xs.take i ++ ys ++ List.replicate (xs.length - i) d).drop (i + ys.length + (xs.length - i)) = xs.take i ++ ys ++ xs.drop i := by
  have hl : (xs.take i ++ ys).length = i + ys.length := by rw [List.length_append, List.length_take]; omega
  have e1 : (xs.drop i).take (xs.length - i) = xs.drop i := List.take_of_length_le (by rw [List.length_drop]; omega)
  have e2 : (xs.take i ++ ys ++ List.replicate (xs.length - i) d).drop (i + ys.length + (xs.length - i)) = [] := List.drop_eq_nil_of_le (by simp only [List.length_append, List.length_take, List.length_replicate]; omega)
  rw [take_app hl, e1, e2, List.append_nil]
/-- In place: cs of which n are elements and m more stand behind; what lies from i on is moved m up, ys laid there. -/
theorem ins3 {cs : List β} (hn : cs.length = n) (hj : js.length = m) (hy : ys.length = m) (hi : i ≤ n) :
    let A := (cs ++ js).take (i + m) ++ ((cs ++ js).drop i).take (n - i) ++ (cs ++ js).drop (i + m + (n - i))
    A.take i ++ ys.take m ++ A.drop (i + m) = cs.take i ++ ys ++ cs.drop i := by
  intro A
  have hA1 : ((cs ++ js).take (i + m)).length = i + m := by rw [List.length_take, List.length_append]; omega
  have hd : ((cs ++ js).drop i).take (n - i) = cs.drop i := by
    rw [List.drop_append, show i - cs.length = 0 by omega, List.drop_zero]
    exact take_app (by rw [List.length_drop]; omega)
  have hz : (cs ++ js).drop (i + m + (n - i)) = [] := List.drop_eq_nil_of_le (by rw [List.length_append]; omega)
  have e : A = (cs ++ js).take (i + m) ++ cs.drop i := by show _ ++ _ ++ _ = _; rw [hd, hz, List.append_nil]
  have e1 : ys.take m = ys := List.take_of_length_le (by omega)
  have e2 : A.take i = cs.take i := by
    rw [e, List.take_append_of_le_length (by rw [hA1]; omega), List.take_take, Nat.min_eq_left (by omega), List.take_append_of_le_length (by omega)]
  rw [e1, e2, e, drop_app hA1]
theorem insB_eq [Inhabited β] {lt : β → β → Prop} [DecidableRel lt] [DecidableEq β] (x : β) : ∀ (l : List β) (i : Nat), i ≤ l.length → (∀ j, j < i → lt (at_ l (j : Int)) x) → (i < l.length → ¬ lt (at_ l (i : Int)) x ∧ at_ l (i : Int) ≠ x) → insB lt l x = l.take i ++ [x] ++ l.drop i
  | [], i, hi, _, _ => by obtain rfl : i = 0 := by simpa using hi
                          rfl
  | y :: l, 0, _, _, h => by
    have : ¬ lt y x ∧ y ≠ x := h (by simp)
    simp only [insB]
    rw [if_neg this.1, if_neg this.2]; rfl
  | y :: l, i + 1, hi, h1, h2 => by
    have hy : lt y x := h1 0 (by omega)
    simp only [insB]
    rw [if_pos hy, insB_eq x l i (by simpa using hi) (fun j hj => ?_) (fun hl => ?_)]
    · rfl
    · have := h1 (j + 1) (by omega)
      rwa [at_nat, List.getD_cons_succ, ← at_nat] at this
    · have := h2 (by simpa using hl)
      rwa [at_nat, List.getD_cons_succ, ← at_nat] at this
end
section
variable {P : Program} {κ : Ctx} {N : Nat} {Q : Exit → Act → World → Prop} {L : Env} {I J : List Item} {ops : Array Oper} {rest : List Oper}
variable {d : Option Tmp} {ty : TypeId} {ps : String} {af : Array Edge} {gd : Option (Nat × Bool)}
variable {α : Type} [Enc α] {xs ys R : List α}
/-- copy(s[k:], y) -/
theorem Eff.copyT {x y : Operand} {t t' e by' n n' k q c dd : Nat} {ag : Bool} {z : List Value} {ad : Option Addr} {u : Value} {I' : List Item} (ht : P.underlying t = some (.slice e)) (hT : tyF P e = some (Enc.sz α, ag, by', z))
    (hx : evalO L x = some (.slice (adrop ad c k (Enc.sz α)) n' (c - k))) (hn' : n' = xs.length - k) (hy : evalO L y = some u) (hu : Sl κ I u ys) (hk : k ≤ xs.length) (hq : q = min ys.length (xs.length - k)) (hN : Nat.blt dd N = true)
    (hR : xs.take k ++ ys.take q ++ xs.drop (k + q) = R) (hn : n = xs.length) (hat : At I (vc e (.slice ad n c) xs) (vc e (.slice ad n c) R) I') :
    Eff P κ N Q ⟨some dd, .call { callee := .builtin .copy, args := #[x, y], argTypes := #[t, t'] }, ty, ps, af, gd⟩ L I fun L' I'' => L' = (dd, I64 q) :: L ∧ I'' = I' := by
  subst hn
  have hl : R.length = xs.length := by rw [← hR]; simp only [List.length_append, List.length_take, List.length_drop]; omega
  have hc : cells R = (cells xs).take (k * Enc.sz α) ++ (cells ys).take (q * Enc.sz α) ++ (cells xs).drop (k * Enc.sz α + q * Enc.sz α) := by
    rw [← hR, cells_append, cells_append, cells_take, cells_take, cells_drop, Nat.add_mul]
  refine Eff.copyR (cs := cells xs) ht hT hx hn' hy hu hk hq (fun u hu => cells_one ys u (List.mem_of_mem_take hu)) hN ?_
  have := hat
  unfold vc at this
  rw [hl, hc] at this
  exact this
/-- What slices.Insert leaves in place. -/
theorem ins_cells {i : Nat} {js : List Value} (hi : i ≤ xs.length) (hj : js.length = (xs.length + ys.length - xs.length) * Enc.sz α) :
    List.take (i * Enc.sz α) (List.take ((i + ys.length) * Enc.sz α) (cells xs ++ js) ++ List.take ((xs.length - i) * Enc.sz α) (List.drop (i * Enc.sz α) (cells xs ++ js)) ++ List.drop ((i + ys.length) * Enc.sz α + (xs.length - i) * Enc.sz α) (cells xs ++ js)) ++ List.take (ys.length * Enc.sz α) (cells ys) ++ List.drop (i * Enc.sz α + ys.length * Enc.sz α) (List.take ((i + ys.length) * Enc.sz α) (cells xs ++ js) ++ List.take ((xs.length - i) * Enc.sz α) (List.drop (i * Enc.sz α) (cells xs ++ js)) ++ List.drop ((i + ys.length) * Enc.sz α + (xs.length - i) * Enc.sz α) (cells xs ++ js)) = cells (List.take i xs ++ ys ++ List.drop i xs) := by
  rw [cells_append, cells_append, cells_take, cells_drop, Nat.add_mul, Nat.sub_mul]
  exact ins3 (cells_length xs) (by rw [hj]; congr 1; omega) (cells_length ys) (Nat.mul_le_mul_right _ hi)
theorem ins_one {i : Nat} {js : List Value} (hi : i ≤ xs.length) : ∀ u ∈ List.take ((xs.length - i) * Enc.sz α) (List.drop (i * Enc.sz α) (cells xs ++ js)), u.oneCell' = true := fun u hu => by
  have hm : i * Enc.sz α ≤ xs.length * Enc.sz α := Nat.mul_le_mul_right _ hi
  have hl := cells_length xs
  rw [List.drop_append, show i * Enc.sz α - (cells xs).length = 0 by omega, List.drop_zero, take_app (by rw [List.length_drop, hl, Nat.sub_mul])] at hu
  exact cells_one xs u (List.mem_of_mem_drop hu)
theorem Runs.loraw {x y : Operand} {T E sz by' n c l : Nat} {ag : Bool} {z : List Value} {ad : Option Addr} {m : Int} (ht : P.underlying T = some (.slice E)) (hE : tyF P E = some (sz, ag, by', z)) (hx : evalO L x = some (.slice ad n c)) (hy : evalO L y = some (I64 m)) (hm : m = (l : Int))
    (hl : l ≤ n) (hn : n ≤ c) : Runs P κ N ⟨d, .slice T x (some y) none none, ty, ps, af, gd⟩ L J (.slice (adrop ad c l sz) (n - l) (c - l)) := fun a w ha hs => by
  subst hm
  exact Runs.slice (P := P) (κ := κ) (N := N) (L := L) (J := J) (d := d) (ty := ty) (ps := ps) (af := af) (gd := gd) (l := l) ht hE hx (.inr ⟨y, rfl, hy⟩) (.inl ⟨rfl, rfl⟩) hl hn a w ha hs
theorem SlRd.dropR {sz n c l : Nat} {ad : Option Addr} {cs : List Value} (hv : SlRd κ I sz (.slice ad n c) n cs) (hl : l ≤ n) : SlRd κ I sz (.slice (adrop ad c l sz) (n - l) (c - l)) (n - l) (cs.drop (l * sz)) := fun w hs => by
  obtain ⟨a, cap, he, h1, h2, h3, h4⟩ := hv w hs
  cases he
  refine ⟨_, c - l, rfl, by rw [List.length_drop, h1, Nat.sub_mul], by omega, by omega, fun hc => ?_⟩
  obtain ⟨b, off, rfl, hr⟩ := h4 (by omega)
  refine ⟨b, off + l * sz, by unfold adrop; rw [if_neg (by omega)]; simp [addr_add], fun j u hj => ?_⟩
  rw [List.getElem?_drop] at hj
  rw [Nat.add_assoc]
  exact hr _ u hj
theorem G.ex {β : Type} {x : Item} {x' : β → Item} {p : β → Prop} {F : Item → List Item} (hat : AtF I x F) (h : ∀ w, x.ok w → ∃ y, p y ∧ (x' y).ok w) (hf : ∀ y k, (x' y).fp k → x.fp k) (hG : ∀ y, p y → G P κ N ops Q rest L (F (x' y))) : G P κ N ops Q rest L I := fun a w ha hs => by
  obtain ⟨J, h1, h2⟩ := hat.perm
  have hJ := hs.perm h1
  obtain ⟨y, hp, hy⟩ := h w (hJ.ok x List.mem_cons_self).1
  refine hG y hp a w ha (Sep.perm ?_ (h2 _).symm)
  have ha' : ∀ z ∈ J, ∀ k, x.fp k → ¬ z.fp k := (List.pairwise_cons.1 hJ.pw).1
  exact hJ.tail.cons hy (fun k hk => (hJ.ok x List.mem_cons_self).2 k (hf y k hk)) fun z hz k hk => ha' z hz k (hf y k hk)
/-- Room behind the elements, opened. -/
theorem G.room {e n c h : Nat} {ad : Option Addr} {F : Item → List Item} (hat : AtF I (vc e (.slice ad n c) xs) F) (hn : n = xs.length) (hh : n ≤ h) (hc : h ≤ c)
    (hG : ∀ js : List Value, js.length = (h - n) * Enc.sz α → G P κ N ops Q rest L (F (vec e (Enc.sz α) (.slice ad h c) h (cells xs ++ js)))) : G P κ N ops Q rest L I := by
  subst hn
  exact G.ex hat (x' := fun js => vec e (Enc.sz α) (.slice ad h c) h (cells xs ++ js)) (vec.room hh hc) (fun js k hk => by obtain ⟨o, n', c', he, hc'⟩ := hk; cases he; exact ⟨o, _, _, rfl, hc'⟩) hG
end
end Go.Sl
/- slices.Delete's operations: append in place, clear behind the elements, s[l:h:m]. No conditions. -/
namespace Go.Sl
open Go.RowKit (Below)
set_option linter.unusedVariables false
set_option linter.unusedSimpArgs false
set_option linter.unusedSectionVars false
section
variable {P : Program} {κ : Ctx} {N : Nat} {Q : Exit → Act → World → Prop} {L : Env} {I J : List Item} {ops : Array Oper} {rest : List Oper}
variable {d : Option Tmp} {ty : TypeId} {ps : String} {af : Array Edge} {gd : Option (Nat × Bool)}
variable {α : Type} [Enc α] {xs ys R : List α}
/-- A function value that compares as cf says, and leaves all as it was. -/
def Cmps (P : Program) (κ : Ctx) (I : List Item) (g : FuncId) (caps : List Value) (cf : α → α → Int) : Prop := callable P g = true ∧ ∀ (x y : α) (J : List Item), Fit κ J I → CallS P κ g ([] ++ [.agg (Enc.enc x).toArray, .agg (Enc.enc y).toArray] ++ caps) J fun r J' => r = I64 (cf x y) ∧ J = J'
theorem Cmps.fit {g : FuncId} {caps : List Value} {cf : α → α → Int} (h : Cmps P κ I g caps cf) (hf : Fit κ J I) : Cmps P κ J g caps cf := ⟨h.1, fun x y K hK => h.2 x y K (hK.trans hf)⟩
/-- What a search by halving finds: the first place that is not less. -/
structure BFound [Inhabited α] (cf : α → α → Int) (xs : List α) (x : α) (i : Nat) (b : Bool) : Prop where
  le : i ≤ xs.length
  low : 0 < i → cf (at_ xs ((i : Int) - 1)) x < 0
  high : i < xs.length → ¬ cf (at_ xs (i : Int)) x < 0
  is : b = decide (i < xs.length ∧ cf (at_ xs (i : Int)) x = 0)
end
end Go.Sl
/- '==' of structs of numbers. No conditions. -/
namespace Go.Sl
set_option linter.unusedVariables false
set_option linter.unusedSimpArgs false
section
variable {P : Program}
/-- Fields of one number each, one after the other. -/
def flatF (P : Program) : List Field → Nat → Bool
  | [], _ => true
  | f :: fs, o => (f.name != "_") && (match P.underlying f.type with | some (.int .i64) => true | _ => false) && (f.offset == o) && flatF P fs (o + 1)
theorem run_eqFlat (d : Nat) (w : World) (ns ms : List Int) : ∀ (fs : List Field) (o : Nat), flatF P fs o = true → ns.length = o + fs.length → ms.length = o + fs.length →
    (Op.eqFields (d + 1) (ns.map I64).toArray (ms.map I64).toArray fs).run P w = .ok (decide (ns.drop o = ms.drop o)) w
  | [], o, _, hn, hm => by
    have h1 : ns.drop o = [] := List.drop_eq_nil_of_le (by simp at hn; omega)
    have h2 : ms.drop o = [] := List.drop_eq_nil_of_le (by simp at hm; omega)
    simp [Op.eqFields, h1, h2]
  | f :: fs, o, h, hn, hm => by
    simp only [flatF, Bool.and_eq_true, bne_iff_ne, beq_iff_eq] at h
    obtain ⟨⟨⟨h1, h2⟩, h3⟩, h4⟩ := h
    have hu : P.underlying f.type = some (.int .i64) := by
      revert h2
      split
      · intro _; assumption
      · intro h; cases h
    simp only [List.length_cons] at hn hm
    have hno : o < ns.length := by omega
    have hmo : o < ms.length := by omega
    have ha : (isAgg f.type).run P w = .ok false w := by simp [isAgg, run_underlying hu]
    have hp : ∀ (ks : List Int) (hk : o < ks.length), (part f.type (ks.map I64).toArray f.offset).run P w = .ok (I64 ks[o]) w := fun ks hk => by
      simp [part, ha, h3, hk]
    have ih := run_eqFlat d w ns ms fs (o + 1) h4 (by omega) (by omega)
    simp only [Op.eqFields, if_pos h1, Sem.run_bind, hp ns hno, hp ms hmo, Result.andThen_ok, run_equalIn_int _ _ _ _ _ _ _ hu]
    have key : (ns.drop o = ms.drop o) ↔ (ns[o] = ms[o] ∧ ns.drop (o + 1) = ms.drop (o + 1)) := by rw [List.drop_eq_getElem_cons hno, List.drop_eq_getElem_cons hmo, List.cons.injEq]
    have key2 : decide (ns.drop o = ms.drop o) = decide (ns[o] = ms[o] ∧ ns.drop (o + 1) = ms.drop (o + 1)) := decide_eq_decide.2 key
    rw [key2]
    by_cases he : ns[o] = ms[o]
    · simp [he, ih]
    · simp [he]
theorem EqT.flat {α : Type} [Enc α] [DecidableEq α] {T n : Nat} (ints : α → List Int) (henc : ∀ x, Enc.enc x = (ints x).map I64) (hinj : ∀ x y, ints x = ints y → x = y) (hlen : ∀ x, (ints x).length = n)
    (ht : P.underlying T = some (.struct (P.fieldsOf T))) (hp : P.stoodInHeld T = false) (hf : flatF P (P.fieldsOf T).toList 0 = true) (hn : (P.fieldsOf T).size = n) (hg : P.eqGuardType P.depth T = false) : EqT P T α := by
  refine ⟨fun x y w => ?_, hg⟩
  rw [show (10000 : Nat) = 9999 + 1 from rfl, run_equalIn_struct w 9999 T _ _ ht hp, henc, henc, show (9999 : Nat) = 9998 + 1 from rfl,
    run_eqFlat 9998 w (ints x) (ints y) _ 0 hf (by rw [hlen, Array.length_toList, hn]; omega) (by rw [hlen, Array.length_toList, hn]; omega)]
  congr 1
  rw [List.drop_zero, List.drop_zero, decide_eq_decide]
  exact ⟨hinj x y, fun e => by rw [e]⟩
end
end Go.Sl
/- Changing graphs: the plain laws. No Go. No conditions. -/
namespace Go.Sl
set_option linter.unusedVariables false
set_option linter.unusedSectionVars false

/-- Two different nodes that exist. -/
def endsP (nd u v : Int) : Prop := 0 ≤ u ∧ 0 ≤ v ∧ u < nd ∧ v < nd ∧ u ≠ v
instance (nd u v : Int) : Decidable (endsP nd u v) := by unfold endsP; infer_instance
def edgeP (u v : Int) : Pt := ⟨if v < u then v else u, if u < v then v else u⟩
theorem edgeP_ok {nd u v : Int} (h : endsP nd u v) : 0 ≤ (edgeP u v).u ∧ (edgeP u v).u < (edgeP u v).v ∧ (edgeP u v).v < nd := by
  unfold endsP at h; unfold edgeP; simp only; split <;> split <;> omega
theorem Pt.cmp_zero (a b : Pt) : Pt.cmp a b = 0 ↔ a = b := by
  rw [Pt.ext_iff']
  unfold Pt.cmp
  split <;> (try split) <;> (try split) <;> (try split) <;> omega
section
variable {es : List Pt} {e : Pt} {i : Nat} {q : Bool}
theorem BFound.below (h : BFound Pt.cmp es e i q) (ha : AscP es) : ∀ j, j < i → Pt.lt (at_ es (j : Int)) e := fun j hj => by
  have h1 := (Pt.cmp_lt _ _).1 (h.low (by omega))
  rw [show (i : Int) - 1 = ((i - 1 : Nat) : Int) by omega] at h1
  by_cases hq : j = i - 1
  · rw [hq]; exact h1
  · exact Pt.lin.tr _ _ _ (asc_at ha (i := j) (j := i - 1) (by omega) (by have := h.le; omega)) h1
theorem BFound.above (h : BFound Pt.cmp es e i q) (ha : AscP es) : ∀ j, i ≤ j → j < es.length → ¬ Pt.lt (at_ es (j : Int)) e := fun j hj hl h1 => by
  have h2 := h.high (by omega)
  rw [Pt.cmp_lt] at h2
  by_cases hq : j = i
  · rw [hq] at h1; exact h2 h1
  · exact h2 (Pt.lin.tr _ _ _ (asc_at ha (i := i) (j := j) (by omega) hl) h1)
theorem BFound.mem (h : BFound Pt.cmp es e i q) (ha : AscP es) : (i < es.length ∧ at_ es (i : Int) = e) ↔ e ∈ es := by
  constructor
  · rintro ⟨h1, h2⟩; rw [← h2]; exact at_mem (by omega) (by omega)
  · intro hm
    obtain ⟨j, hj, he⟩ := mem_at hm
    have h1 : ¬ j < i := fun hlt => by have := h.below ha j hlt; rw [he] at this; exact Pt.lin.irr _ this
    have h2 : i < es.length := by omega
    refine ⟨h2, ?_⟩
    by_cases hq : j = i
    · rw [← hq]; exact he
    · have h3 := h.high h2
      rw [Pt.cmp_lt] at h3
      have h4 := asc_at ha (i := i) (j := j) (by omega) hj
      rw [he] at h4
      exact absurd h4 h3
theorem BFound.ins (h : BFound Pt.cmp es e i q) (ha : AscP es) (hn : e ∉ es) : es.take i ++ [e] ++ es.drop i = insB Pt.lt es e :=
  (insB_eq e es i h.le (h.below ha) fun hl => ⟨h.above ha i (Nat.le_refl _) hl, fun he => hn ((h.mem ha).1 ⟨hl, he⟩)⟩).symm
/-- The list without e. -/
def without (es : List Pt) (e : Pt) : List Pt := es.filter fun p => decide (p ≠ e)
theorem GrOk.add {nd u v : Int} (h : GrOk nd es) (he : endsP nd u v) : GrOk nd (insB Pt.lt es (edgeP u v)) :=
  ⟨h.rng, Pt.lin.insB _ h.asc, fun p hp => by
    rcases (mem_insB _ _ _).1 hp with rfl | hp
    · exact edgeP_ok he
    · exact h.edge p hp⟩
theorem GrOk.rem {nd : Int} (h : GrOk nd es) : GrOk nd (without es e) := ⟨h.rng, h.asc.sublist List.filter_sublist, fun p hp => h.edge p ((List.mem_filter.1 hp).1)⟩
/-! ### Runs of changed graphs -/
end
end Go.Sl
