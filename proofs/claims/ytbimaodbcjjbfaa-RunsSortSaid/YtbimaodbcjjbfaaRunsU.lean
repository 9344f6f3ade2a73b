/- A part of the proofs of statements of this seat: contracts of functions, and the plain laws that they lean on. No conditions. -/
import Derived.Test.YtbimaodbcjjbfaaRunsX
import Derived.Test.YtbimaodbcjjbfaaOps2
import Derived.Test.YtbimaodbcjjbfaaRunsY
/- Leaving out what is twice in a row: the plain law. No Go. No conditions. -/
namespace Go.Sl
set_option linter.unusedVariables false

/-- The first k places, what is twice in a row once. -/
def compactN (xs : List Pt) : Nat → List Pt
  | 0 => []
  | k + 1 => if 0 < k ∧ at_ xs (k : Int) = at_ xs ((k : Int) - 1) then compactN xs k else compactN xs k ++ [at_ xs (k : Int)]
/-- Of a list in order: its places are in order, and the last one is the last one. -/
theorem compactN_spec {xs : List Pt} (h : xs.Pairwise fun a b => ¬ Pt.lt b a) : ∀ k, k ≤ xs.length → (compactN xs k).Pairwise Pt.lt ∧ (∀ x, x ∈ compactN xs k ↔ x ∈ xs.take k)
  | 0, _ => by simp [compactN]
  | k + 1, hk => by
    obtain ⟨h1, h2⟩ := compactN_spec h k (by omega)
    have hle : ∀ j, j < k → ¬ Pt.lt (at_ xs (k : Int)) (at_ xs (j : Int)) := fun j hj => (pairwise_at (lt := fun a b => ¬ Pt.lt b a) xs).1 h j k hj (by omega)
    rw [take_at xs k (by omega)]
    simp only [compactN]
    split
    · rename_i hc
      refine ⟨h1, fun x => ?_⟩
      rw [h2, List.mem_append, List.mem_singleton]
      refine ⟨.inl, fun e => e.elim id fun e => ?_⟩
      subst e
      rw [hc.2, show (k : Int) - 1 = ((k - 1 : Nat) : Int) by omega]
      have hm : at_ (xs.take k) ((k - 1 : Nat) : Int) = at_ xs ((k - 1 : Nat) : Int) := by
        rw [at_nat, at_nat, List.getD_eq_getElem?_getD, List.getD_eq_getElem?_getD, List.getElem?_take, if_pos (by omega)]
      rw [← hm]
      exact at_mem (by omega) (by rw [List.length_take]; omega)
    · rename_i hc
      refine ⟨List.pairwise_append.2 ⟨h1, List.pairwise_singleton _ _, fun a ha b hb => ?_⟩, fun x => by rw [List.mem_append, List.mem_append, h2]⟩
      rw [List.mem_singleton.1 hb]
      obtain ⟨j, hj, rfl⟩ := List.getElem_of_mem ((h2 a).1 ha)
      have hjk : j < k := by rw [List.length_take] at hj; omega
      have ea : (xs.take k)[j] = at_ xs (j : Int) := by rw [at_nat]; simp [show j < xs.length by omega]
      rw [ea]
      have hq := hle (k - 1) (by omega)
      rw [show ((k - 1 : Nat) : Int) = (k : Int) - 1 by omega] at hq
      have hp : j = k - 1 ∨ ¬ Pt.lt (at_ xs ((k : Int) - 1)) (at_ xs (j : Int)) := by
        by_cases e : j = k - 1
        · exact .inl e
        · right
          have := (pairwise_at (lt := fun a b => ¬ Pt.lt b a) xs).1 h j (k - 1) (by omega) (by omega)
          rwa [show ((k - 1 : Nat) : Int) = (k : Int) - 1 by omega] at this
      have hne : ¬ ((at_ xs (k : Int)).u = (at_ xs ((k : Int) - 1)).u ∧ (at_ xs (k : Int)).v = (at_ xs ((k : Int) - 1)).v) := fun e => hc ⟨by omega, (Pt.ext_iff' _ _).2 e⟩
      rcases hp with e | hp
      · rw [show (j : Int) = (k : Int) - 1 by omega]
        unfold Pt.lt at *; omega
      · unfold Pt.lt at *; omega
theorem compactN_sorted {xs : List Pt} (h : xs.Pairwise fun a b => ¬ Pt.lt b a) : compactN xs xs.length = sortB Pt.lt xs := by
  obtain ⟨h1, h2⟩ := compactN_spec h xs.length (Nat.le_refl _)
  rw [List.take_length] at h2
  exact (Pt.lin.sortB_eq h1 h2).symm
end Go.Sl
/- Still more operations: clear of the end of an owned slice; an owned slice cut short. No conditions. -/
namespace Go.Sl
open Go.RowKit (Below)
set_option linter.unusedVariables false
set_option linter.unusedSimpArgs false
set_option linter.unusedSectionVars false

theorem zeroCells_one {z : Array Value} (h : ∀ u ∈ z, u.oneCell' = true) (n : Nat) : ∀ u ∈ (Builtin.zeroCells z n).toList, u.oneCell' = true := fun u hu => by
  simp only [Builtin.zeroCells, Array.toList_map, List.mem_map, Array.toList_range, List.mem_range] at hu
  obtain ⟨i, hi, rfl⟩ := hu
  have hz : 0 < z.size := Nat.pos_of_ne_zero fun e => by rw [e] at hi; simp at hi
  have hm : i % z.size < z.size := Nat.mod_lt _ hz
  rw [getElem!_pos z _ hm]
  exact h _ (Array.getElem_mem hm)

section
variable {P : Program} {κ : Ctx} {N : Fr} {Q : Exit → Act → World → Prop} {L : Env} {I J : List Item}
variable {d : Option Tmp} {ty : TypeId} {ps : String} {af : Array Edge} {gd : Option (Nat × Bool)}
variable {α : Type} [Enc α] {xs : List α}

/-- xs[:h] of an owned slice, the rest being given up. -/
theorem cutshort {e : TypeId} {ad : Option Addr} {n c h : Nat} (hh : h ≤ xs.length) : ∀ w, (vc e (.slice ad n c) xs).ok w → (vc e (.slice ad (xs.take h).length c) (xs.take h)).ok w ∧
    ∀ k, (vc e (.slice ad (xs.take h).length c) (xs.take h)).fp k → (vc e (.slice ad n c) xs).fp k := by
  intro w hw
  obtain ⟨a, cap, hv, h1, h2, h3, h4⟩ := hw
  cases hv
  refine ⟨⟨ad, c, rfl, cells_length _, by rw [List.length_take]; omega, h3, fun hc => ?_⟩, fun k hk => ?_⟩
  · obtain ⟨b, off, cur, rfl, hb, hsz, hcur⟩ := h4 hc
    refine ⟨b, off, cur, rfl, hb, hsz, fun j u hj => hcur j u ?_⟩
    rw [cells_take, List.getElem?_take] at hj
    split at hj
    · exact hj
    · cases hj
  · obtain ⟨off, n', cap', hv, hc⟩ := hk
    simp only [Value.slice.injEq] at hv
    obtain ⟨rfl, _, rfl⟩ := hv
    exact ⟨off, _, _, rfl, hc⟩

theorem Eff.of_value0 {o : Oper} {R : Env → List Item → Prop} (hd : o.dst = none)
    (h : ∀ a w, Ag N a L → Sep κ w I → ∃ v w' I', (execOp a.eval o).run P w = .ok (.value v) w' ∧ R L I' ∧ Sep κ w' I') : Eff P κ N Q o L I R := fun a w ha hs => by
  obtain ⟨v, w', I', hr, hR, hs'⟩ := h a w ha hs
  simp only [Oper.wp, hr, Oper.upon, hd]
  exact ⟨_, _, hR, ha, hs'⟩

/-- clear(xs[k:]); what was there is given up. -/
theorem Eff.clear {x : Operand} {t e by' k c n : Nat} {ag : Bool} {z : List Value} {ad : Option Addr} {I' : List Item} (ht : P.underlying t = some (.slice e)) (hT : tyF P e = some (Enc.sz α, ag, by', z)) (hz : AllOne z) (hzl : z.length = Enc.sz α)
    (hx : evalO L x = some (.slice (adrop ad c k (Enc.sz α)) (xs.drop k).length (c - k))) (hk : k ≤ xs.length) (hat : At I (vc e (.slice ad n c) xs) (vc e (.slice ad (xs.take k).length c) (xs.take k)) I') :
    Eff P κ N Q ⟨none, .call { callee := .builtin .clear, args := #[x], argTypes := #[t] }, ty, ps, af, gd⟩ L I fun L' I'' => L' = L ∧ I'' = I' :=
  Eff.of_value0 rfl fun a w ha hs => by
    have hok := (hs.ok _ hat.mem).1
    have hok' := hok
    obtain ⟨a', cap', hv, hl, hnc, hcm, hcap⟩ := hok
    cases hv
    by_cases hkl : k = xs.length
    · subst hkl
      refine ⟨.tuple #[], w, I', ?_, ⟨rfl, rfl⟩, Fit.upd hat (cutshort (Nat.le_refl _)) w hs⟩
      have e0 : (xs.drop xs.length).length = 0 := by simp
      rw [e0] at hx
      generalize adrop ad c xs.length (Enc.sz α) = aa at hx
      cases aa <;> simp [execOp, resolve, invoke, builtin, ha.eval hx, Builtin.clear_, run_underlying ht]
    · have hk' : k < xs.length := by omega
      obtain ⟨b, off, cur, rfl, hb, hsize, hcur⟩ := hcap (by omega)
      obtain ⟨zv, hzv, hzc⟩ := run_zeroCells hT w
      have hm : (xs.drop k).length = xs.length - k := List.length_drop
      have hmul : xs.length * Enc.sz α ≤ c * Enc.sz α := Nat.mul_le_mul_right _ hnc
      have hmul2 : k * Enc.sz α + (xs.length - k) * Enc.sz α = xs.length * Enc.sz α := by rw [← Nat.add_mul]; congr 1; omega
      have hlen : (Builtin.zeroCells zv.cells (xs.length - k)).toList.length = (xs.length - k) * Enc.sz α := by
        rw [Array.length_toList, size_zeroCells, hzc, List.size_toArray, hzl]
      have h1 : ∀ u ∈ (Builtin.zeroCells zv.cells (xs.length - k)).toList, u.oneCell' = true := zeroCells_one (by rw [hzc]; intro u hu; exact hz.all u (by simpa using hu)) _
      obtain ⟨m, hm'⟩ : ∃ m, (xs.drop k).length = m + 1 := ⟨xs.length - k - 1, by omega⟩
      have hmm : xs.length - k = m + 1 := by omega
      obtain ⟨Z, hZ⟩ : ∃ Z, Z = (Builtin.zeroCells zv.cells (m + 1)).toList := ⟨_, rfl⟩
      rw [hmm, ← hZ] at hlen h1
      rw [hmm] at hmul2
      have hst := run_storeCells_at P b (off + k * Enc.sz α) e Z 0 cur w hb (by rw [hlen]; omega) h1
      simp only [Nat.add_zero] at hst
      have hx' : evalO L x = some (.slice (some ⟨b, off + k * Enc.sz α, none⟩) (m + 1) (c - k)) := by
        rw [hx, hm']; unfold adrop; rw [if_neg (by omega)]; simp [addr_add]
      refine ⟨.tuple #[], _, I', by simp only [execOp, resolve, invoke, builtin, List.map_toArray, List.map_cons, List.map_nil, ha.eval hx']; simp [Builtin.clear_, run_underlying ht, hzv]; rw [← hZ, hst]; simp only [Result.andThen_ok]; rfl, ⟨rfl, rfl⟩, ?_⟩
      refine hs.upd hat rfl ⟨rfl, Nat.le_refl _⟩ rfl (by simp) (fun k' _ hne => setRow_other w b k' _ fun e => hne (by subst e; exact ⟨off, xs.length, c, rfl, by omega⟩)) ?_ fun k hk => .inl ?_
      · refine ⟨_, c, rfl, cells_length _, by rw [List.length_take]; omega, hcm, fun hc => ⟨b, off, _, rfl, setRow_heap w b cur _ e _ hb, ?_, fun j u' hj => ?_⟩⟩
        · simp only [List.size_toArray, List.length_append, List.length_take, List.length_drop, hlen, Array.length_toList]; omega
        · have hjl : j < k * Enc.sz α := by
            have := (List.getElem?_eq_some_iff.1 hj).1
            rw [cells_length, List.length_take] at this
            have h2 : min k xs.length = k := by omega
            rw [h2] at this
            exact this
          rw [cells_take, List.getElem?_take, if_pos hjl] at hj
          have := hcur j u' hj
          rw [List.getElem?_toArray, List.getElem?_append_left (by simp only [List.length_append, List.length_take, Array.length_toList]; omega), List.getElem?_append_left (by simp only [List.length_take, Array.length_toList]; omega), List.getElem?_take, if_pos (by omega)]
          simpa using this
      · obtain ⟨off', n', c', hv', hc'⟩ := hk
        cases hv'
        exact ⟨off, xs.length, c, rfl, hc'⟩
/-- s[:h], by the bound of the capacity alone. -/
theorem Runs.hiraw {x y : Operand} {T E sz by' n c h : Nat} {ag : Bool} {z : List Value} {ad : Option Addr} {m : Int} (ht : P.underlying T = some (.slice E)) (hE : tyF P E = some (sz, ag, by', z)) (hx : evalO L x = some (.slice ad n c)) (hy : evalO L y = some (I64 m)) (hm : m = (h : Int))
    (hh : h ≤ c) : Runs P κ N ⟨d, .slice T x none (some y) none, ty, ps, af, gd⟩ L J (.slice ad h c) := fun a w ha hs => by
  subst hm
  have := Runs.slice (P := P) (κ := κ) (N := N) (L := L) (J := J) (d := d) (ty := ty) (ps := ps) (af := af) (gd := gd) (l := 0) (h := h) ht hE hx (.inl ⟨rfl, rfl⟩) (.inr ⟨y, rfl, hy⟩) (Nat.zero_le _) hh a w ha hs
  rw [this]
  have e : (if c = 0 then ad else ad.map (fun x => x.add (0 * sz))) = ad := by
    split
    · rfl
    · cases ad <;> simp [Addr.add]
  rw [e]
  rfl

theorem Sl.dropn {ad : Option Addr} {n c l m : Nat} (hv : Sl κ I (.slice ad n c) xs) (hl : l ≤ xs.length) (hm : m = xs.length - l) : Sl κ I (.slice (adrop ad c l (Enc.sz α)) m (c - l)) (xs.drop l) := by
  have h := Sl.drop hv hl
  rw [List.length_drop, ← hm] at h
  exact h
theorem vc.cap {e : TypeId} {ad : Option Addr} {n c : Nat} (h : vc e (.slice ad n c) xs ∈ I) : ∀ w, Sep κ w I → xs.length ≤ c := fun w hs => by
  obtain ⟨_, _, h0, _, h1, _⟩ := (Sl.vec (κ := κ) h) w hs
  cases h0
  exact h1

/-- cap of a slice that is written out. -/
theorem Runs.caps {x : Operand} {T E n c : Nat} {ad : Option Addr} (ht : P.underlying T = some (.slice E)) (hx : evalO L x = some (.slice ad n c)) :
    Runs P κ N ⟨d, .call { callee := .builtin .cap, args := #[x], argTypes := #[T] }, ty, ps, af, gd⟩ L J (I64 c) :=
  fun a w ha hs => by
    simp [execOp, resolve, invoke, builtin, ha.eval hx, Builtin.cap_, run_underlying ht, goInt]

/-! ### Blocks that are read only -/
def BlkRd (κ : Ctx) (I : List Item) (b : Nat) (cs : List Value) (T : TypeId) : Prop := ∀ w, Sep κ w I → w.heap[b]? = some (.cells cs.toArray T (0, 0))
theorem BlkRd.fit {b : Nat} {cs : List Value} {T : TypeId} (h : BlkRd κ I b cs T) (hf : Fit κ J I) : BlkRd κ J b cs T := fun w s => h w (hf w s)
theorem BlkRd.of {b : Nat} {cs : List Value} {T : TypeId} (h : blk b cs T ∈ I) : BlkRd κ I b cs T := fun w s => (s.ok _ h).1
theorem Runs.loadB {x : Operand} {T sz by' b o E : Nat} {z cs : List Value} {v : Value} (hT : tyF P T = some (sz, false, by', z)) (hx : evalO L x = some (.pointer (some ⟨b, o, none⟩))) (hb : BlkRd κ J b cs E) (hc : cs[o]? = some v) :
    Runs P κ N ⟨d, .load T x, ty, ps, af, gd⟩ L J v :=
  fun a w ha hs => by
    have := cell_blk (w := w) (hb w hs) o
    simp [execOp, ha.eval hx, Instr.loadAt, Instr.sureAddr, run_loadVar_one hT (this.trans hc)]
/-- A function value that answers as p says, and leaves all as it was. -/
def Says (P : Program) (κ : Ctx) (I : List Item) (g : FuncId) (caps : List Value) (p : α → Bool) : Prop := callable P g = true ∧ ∀ (x : α) (J : List Item), Fit κ J I → CallS P κ g ([] ++ [.agg (Enc.enc x).toArray] ++ caps) J fun r J' => r = .bool (p x) ∧ J = J'
theorem Says.fit {g : FuncId} {caps : List Value} {p : α → Bool} (h : Says P κ I g caps p) (hf : Fit κ J I) : Says P κ J g caps p := ⟨h.1, fun x K hK => h.2 x K (hK.trans hf)⟩

end
end Go.Sl
namespace Go.Sl
open Go.Proofs
set_option linter.unusedVariables false
set_option linter.unusedSimpArgs false
set_option maxRecDepth 4000
theorem compactN_take {xs : List Pt} {k : Nat} (h : ∀ j, j < k → 0 < j → at_ xs (j : Int) ≠ at_ xs ((j : Int) - 1)) (hk : k ≤ xs.length) : compactN xs k = xs.take k := by
  induction k with
  | zero => rfl
  | succ k ih =>
    simp only [compactN]
    rw [if_neg fun e => h k (by omega) e.1 e.2, ih (fun j hj h0 => h j (by omega) h0) (by omega), take_at xs k (by omega)]
theorem compact_keep {xs ys : List Pt} {m q : Nat} (h : ys.take m = compactN xs q) (h0 : 0 < q) (he : ¬ at_ ys (q : Int) ≠ at_ ys ((q : Int) - 1)) (h1 : at_ ys (q : Int) = at_ xs (q : Int)) (h2 : at_ ys ((q : Int) - 1) = at_ xs ((q : Int) - 1)) : ys.take m = compactN xs (q + 1) := by
  rw [h1, h2] at he
  simp only [compactN]
  rw [if_pos ⟨h0, Classical.not_not.1 he⟩, h]
theorem compact_put {xs ys : List Pt} {m q : Nat} (h : ys.take m = compactN xs q) (hm : m < ys.length) (he : at_ ys (q : Int) ≠ at_ ys ((q : Int) - 1)) (h1 : at_ ys (q : Int) = at_ xs (q : Int)) (h2 : at_ ys ((q : Int) - 1) = at_ xs ((q : Int) - 1)) : (ys.set m (at_ ys (q : Int))).take (m + 1) = compactN xs (q + 1) := by
  rw [h1, h2] at he
  simp only [compactN]
  rw [if_neg fun e => he e.2, ← h, h1, List.take_add_one, List.take_set_of_le (Nat.le_refl _)]
  simp [hm]
theorem at_drop {α : Type} [Inhabited α] (xs : List α) (l : Nat) (i : Int) (h0 : 0 ≤ i) : at_ (xs.drop l) i = at_ xs ((l : Int) + i) := by
  unfold at_
  rw [List.getD_eq_getElem?_getD, List.getD_eq_getElem?_getD, List.getElem?_drop]
  congr 2; omega

theorem CompactP_ok {κ : Ctx} {I : List Item} {a : Option Addr} {c : Nat} {xs : List Pt} (hsz : xs.length < 1000000000000) :
    CallS Try.prog κ 175 [.slice a xs.length c] (vc 60 (.slice a xs.length c) (xs) :: I) (fun r J => ∃ ys, (r = .slice a (compactN xs xs.length).length c ∧ ys = compactN xs xs.length) ∧ J = vc 60 (.slice a ys.length c) ys :: I) := by
 refine CallS.pull (vc.cap List.mem_cons_self) fun hcap => ?_
 refine CallS.enter (L := [(0, .slice a xs.length c)]) Try.func175 rfl rfl rfl rfl ?_
 refine W.sr ?_
 refine G.r (Runs.assign rfl) ?_
 refine G.nt ?_
 refine W.seq ?_
 refine W.sr ?_
 refine G.r (Runs.move rfl) ?_
 refine G.r (Runs.lens Try.underlying55 rfl) ?_
 refine G.r (Runs.lss rfl rfl) ?_
 refine G.nt ?_
 refine W.ite rfl (fun c8 => ?_) (fun c8 => ?_)
 ·refine W.sr ?_
  refine G.r (Runs.move rfl) ?_
  refine G.r (Runs.assign rfl) ?_
  refine G.nt ?_
  refine W.ret ?_
  refine V.then_ret ?_
  have hc : compactN xs xs.length = xs := (compactN_take (fun j h1 h2 => by omega) (Nat.le_refl _)).trans (List.take_length)
  exact V.ret1 rfl rfl (vc 60 (.slice a xs.length c) xs :: I) Fit.sub ⟨xs, ⟨by rw [hc], hc.symm⟩, rfl⟩
 ·refine W.skip ?_
  refine V.then ?_
  refine W.seq ?_
  refine W.sr ?_
  refine G.r (Runs.assign rfl) ?_
  refine G.nt ?_
  refine W.block ?_
  refine W.loop (σ := Nat) (fun s => ([(0, .slice a xs.length c), (3, I64 (((s : Nat) : Int)))] : Env)) (fun s => vc 60 (.slice a xs.length c) (xs) :: I) (fun s => (1 ≤ s ∧ s ≤ xs.length) ∧ (∀ j, j < s → 0 < j → at_ xs (j : Int) ≠ at_ xs ((j : Int) - 1))) (fun s => xs.length - s) (1) (show (1 ≤ (1 : Nat) ∧ (1 : Nat) ≤ xs.length) ∧ (∀ j, j < (1 : Nat) → 0 < j → at_ xs (j : Int) ≠ at_ xs ((j : Int) - 1)) from ⟨(by omega), (fun j h1 h2 => by omega)⟩) (Sub.cons rfl (Sub.cons lookO Sub.nil)) (show Fit κ _ (vc 60 (.slice a xs.length c) (xs) :: I) from Fit.sub) ?_
  rintro k hp
  obtain ⟨hk, hne⟩ : (1 ≤ k ∧ k ≤ xs.length) ∧ (∀ j, j < k → 0 < j → at_ xs (j : Int) ≠ at_ xs ((j : Int) - 1)) := hp
  show W Try.prog κ 61 _ _ ([(0, .slice a xs.length c), (3, I64 (((k : Nat) : Int)))] : Env) (vc 60 (.slice a xs.length c) (xs) :: I)
  refine W.seq ?_
  refine W.sr ?_
  refine G.r (Runs.move rfl) ?_
  refine G.r (Runs.move rfl) ?_
  refine G.r (Runs.lens Try.underlying55 rfl) ?_
  refine G.r (Runs.lss rfl rfl) ?_
  refine G.nt ?_
  refine W.ite rfl (fun c13 => ?_) (fun c13 => ?_)
  ·refine W.skip ?_
   refine V.then ?_
   refine W.seq ?_
   refine W.block ?_
   refine W.seq ?_
   refine W.drawn mixed ?_
   refine A.hold (vc 60 (.slice a xs.length c) (xs) :: I) 10 ?_
   refine D.r 0 rfl (Runs.move rfl) ?_
   refine D.r 1 rfl (Runs.move rfl) ?_
   refine D.r 2 rfl (Runs.idx (α := Pt) (xs := xs) Try.underlying55 ty60 rfl rfl Sl.o (by omega) (by first | omega | (simp only [List.length_drop]; omega))) ?_
   refine D.r 3 rfl (Runs.gets (α := Pt) (xs := xs) ty60 rfl Sl.o (by omega) (by first | omega | (simp only [List.length_drop]; omega))) ?_
   refine D.r 4 rfl (Runs.move rfl) ?_
   refine D.r 5 rfl (Runs.move rfl) ?_
   refine D.r 6 rfl (Runs.sub rfl rfl (by unfold InR; omega)) ?_
   refine D.r 7 rfl (Runs.idx (α := Pt) (xs := xs) Try.underlying55 ty60 rfl rfl Sl.o (by omega) (by first | omega | (simp only [List.length_drop]; omega))) ?_
   refine D.r 8 rfl (Runs.gets (α := Pt) (xs := xs) ty60 rfl Sl.o (by omega) (by first | omega | (simp only [List.length_drop]; omega))) ?_
   refine D.r 9 rfl (Runs.eqlT (α := Pt) (a := (at_ xs ((k : Nat) : Int))) (b := (at_ xs (((k : Nat) : Int) - 1))) eqt60 rfl rfl) ?_
   refine D.done (by kernel_rfl) ?_
   refine V.then ?_
   refine W.sub (L' := [(25, _), (0, _), (3, _)]) (Sub.cons rfl (Sub.cons rfl (Sub.cons rfl Sub.nil))) ?_
   refine W.ite rfl (fun c25 => ?_) (fun c25 => ?_)
   ·refine W.sr ?_
    refine G.r (Runs.move rfl) ?_
    refine G.r (Runs.move rfl) ?_
    refine G.r (Runs.lo (α := Pt) (xs := xs) (l := k) Try.underlying55 ty60 rfl rfl (by omega) Sl.o (by omega)) ?_
    refine G.r (Runs.assign rfl) ?_
    refine G.nt ?_
    refine W.seq ?_
    refine W.sr ?_
    refine G.r (Runs.assign rfl) ?_
    refine G.nt ?_
    refine W.block ?_
    refine W.loop (σ := Nat × Nat × (List Pt)) (fun s => ([(0, .slice a xs.length c), (3, I64 (((s.1 : Nat) : Int))), (4, .slice (adrop a c k (Enc.sz Pt)) (List.drop k xs).length (c - k)), (5, I64 (((s.2.1 : Nat) : Int)))] : Env)) (fun s => vc 60 (.slice a xs.length c) (s.2.2) :: I) (fun s => (1 ≤ s.2.1 ∧ k + s.2.1 ≤ xs.length) ∧ (s.2.2.length = xs.length) ∧ (1 ≤ s.1 ∧ s.1 < k + s.2.1) ∧ (s.2.2.take s.1 = compactN xs (k + s.2.1)) ∧ (∀ j, k + s.2.1 ≤ j + 1 → at_ s.2.2 (j : Int) = at_ xs (j : Int))) (fun s => xs.length - (k + s.2.1)) (k, 1, xs) (show (1 ≤ (1 : Nat) ∧ k + (1 : Nat) ≤ xs.length) ∧ ((xs : List Pt).length = xs.length) ∧ (1 ≤ (k : Nat) ∧ (k : Nat) < k + (1 : Nat)) ∧ ((xs : List Pt).take (k : Nat) = compactN xs (k + (1 : Nat))) ∧ (∀ j, k + (1 : Nat) ≤ j + 1 → at_ (xs : List Pt) (j : Int) = at_ xs (j : Int)) from ⟨(by omega), (by omega), (by omega), (by rw [← compactN_take hne (by omega)]; simp only [compactN]; rw [if_pos ⟨by omega, c25⟩]), (fun _ _ => rfl)⟩) (Sub.cons rfl (Sub.cons lookO (Sub.cons rfl (Sub.cons lookO Sub.nil)))) (show Fit κ _ (vc 60 (.slice a xs.length c) ((xs)) :: I) from Fit.sub) ?_
    rintro ⟨m, q, ys⟩ hp
    obtain ⟨hq, hyl, hm, htk, hsame⟩ : (1 ≤ q ∧ k + q ≤ xs.length) ∧ (ys.length = xs.length) ∧ (1 ≤ m ∧ m < k + q) ∧ (ys.take m = compactN xs (k + q)) ∧ (∀ j, k + q ≤ j + 1 → at_ ys (j : Int) = at_ xs (j : Int)) := hp
    show W Try.prog κ 61 _ _ ([(0, .slice a xs.length c), (3, I64 (((m : Nat) : Int))), (4, .slice (adrop a c k (Enc.sz Pt)) (List.drop k xs).length (c - k)), (5, I64 (((q : Nat) : Int)))] : Env) (vc 60 (.slice a xs.length c) (ys) :: I)
    have hdl : (List.drop k xs).length = xs.length - k := List.length_drop
    have hq1 := hsame (k + q) (by omega)
    have hq2 := hsame (k + q - 1) (by omega)
    rw [show ((k + q - 1 : Nat) : Int) = ((k + q : Nat) : Int) - 1 by omega] at hq2
    refine W.seq ?_
    refine W.sr ?_
    refine G.r (Runs.move rfl) ?_
    refine G.r (Runs.move rfl) ?_
    refine G.r (Runs.lens Try.underlying55 rfl) ?_
    refine G.r (Runs.lss rfl rfl) ?_
    refine G.nt ?_
    refine W.ite rfl (fun c32 => ?_) (fun c32 => ?_)
    ·refine W.skip ?_
     refine V.then ?_
     refine W.seq ?_
     refine W.block ?_
     refine W.seq ?_
     refine W.drawn mixed ?_
     refine A.hold (vc 60 (.slice a xs.length c) (ys) :: I) 10 ?_
     refine D.r 0 rfl (Runs.move rfl) ?_
     refine D.r 1 rfl (Runs.move rfl) ?_
     refine D.r 2 rfl (Runs.idx (α := Pt) (xs := List.drop k ys) Try.underlying55 ty60 rfl rfl (Sl.dropn Sl.o (by omega) (by rw [List.length_drop]; omega)) (by omega) (by first | omega | (simp only [List.length_drop]; omega))) ?_
     refine D.r 3 rfl (Runs.gets (α := Pt) (xs := List.drop k ys) ty60 rfl (Sl.dropn Sl.o (by omega) (by rw [List.length_drop]; omega)) (by omega) (by first | omega | (simp only [List.length_drop]; omega))) ?_
     refine D.r 4 rfl (Runs.move rfl) ?_
     refine D.r 5 rfl (Runs.move rfl) ?_
     refine D.r 6 rfl (Runs.sub rfl rfl (by unfold InR; omega)) ?_
     refine D.r 7 rfl (Runs.idx (α := Pt) (xs := List.drop k ys) Try.underlying55 ty60 rfl rfl (Sl.dropn Sl.o (by omega) (by rw [List.length_drop]; omega)) (by omega) (by first | omega | (simp only [List.length_drop]; omega))) ?_
     refine D.r 8 rfl (Runs.gets (α := Pt) (xs := List.drop k ys) ty60 rfl (Sl.dropn Sl.o (by omega) (by rw [List.length_drop]; omega)) (by omega) (by first | omega | (simp only [List.length_drop]; omega))) ?_
     refine D.r 9 rfl (Runs.neqT (α := Pt) (a := (at_ (List.drop k ys) ((q : Nat) : Int))) (b := (at_ (List.drop k ys) (((q : Nat) : Int) - 1))) eqt60 rfl rfl) ?_
     refine D.done (by kernel_rfl) ?_
     refine V.then ?_
     refine W.sub (L' := [(44, _), (0, _), (3, _), (4, _), (5, _)]) (Sub.cons rfl (Sub.cons rfl (Sub.cons rfl (Sub.cons rfl (Sub.cons rfl Sub.nil))))) ?_
     refine W.ite rfl (fun c44 => ?_) (fun c44 => ?_)
     ·refine W.sr ?_
      refine G.r (Runs.move rfl) ?_
      refine G.r (Runs.move rfl) ?_
      refine G.r (Runs.move rfl) ?_
      refine G.r (Runs.move rfl) ?_
      refine G.r (Runs.idx (α := Pt) (xs := List.drop k ys) Try.underlying55 ty60 rfl rfl (Sl.dropn Sl.o (by omega) (by rw [List.length_drop]; omega)) (by omega) (by first | omega | (simp only [List.length_drop]; omega))) ?_
      refine G.r (Runs.gets (α := Pt) (xs := List.drop k ys) ty60 rfl (Sl.dropn Sl.o (by omega) (by rw [List.length_drop]; omega)) (by omega) (by first | omega | (simp only [List.length_drop]; omega))) ?_
      refine G.r (Runs.idx (α := Pt) (xs := ys) Try.underlying55 ty60 rfl rfl Sl.o (by omega) (by first | omega | (simp only [List.length_drop]; omega))) ?_
      refine G.e (Eff.set (α := Pt) (xs := ys) (e := 60) (new := ⟨(at_ (List.drop k ys) ((q : Nat) : Int)).u, (at_ (List.drop k ys) ((q : Nat) : Int)).v⟩) ty60 rfl rfl rfl (by omega) (by first | omega | (simp only [List.length_drop]; omega)) (by repeat (first | exact At.head _ _ _ | apply At.tail))) ?_
      rintro _ _ ⟨rfl, rfl⟩
      refine G.nt ?_
      refine W.region ?_
      refine G.r (Runs.move rfl) ?_
      refine G.r (Runs.add rfl rfl (by unfold InR; omega)) ?_
      refine G.r (Runs.assign rfl) ?_
      refine G.nil ?_
      refine V.block_normal ?_
      refine V.then ?_
      refine W.sub (L' := [(3, _), (0, _), (4, _), (5, _)]) (Sub.cons rfl (Sub.cons rfl (Sub.cons rfl (Sub.cons rfl Sub.nil)))) ?_
      refine W.region ?_
      refine G.r (Runs.move rfl) ?_
      refine G.r (Runs.add rfl rfl (by unfold InR; omega)) ?_
      refine G.r (Runs.assign rfl) ?_
      refine G.nil ?_
      have hd1 : at_ (List.drop k ys) ((q : Nat) : Int) = at_ ys ((k + q : Nat) : Int) := by rw [at_drop _ _ _ (by omega)]; congr 1
      have hd2 : at_ (List.drop k ys) (((q : Nat) : Int) - 1) = at_ ys (((k + q : Nat) : Int) - 1) := by rw [at_drop _ _ _ (by omega)]; congr 1; omega
      have hset : List.set ys (((m : Nat) : Int)).toNat (⟨(at_ (List.drop k ys) ((q : Nat) : Int)).u, (at_ (List.drop k ys) ((q : Nat) : Int)).v⟩) = ys.set m (at_ ys ((k + q : Nat) : Int)) := by rw [← hd1]; rfl
      rw [hset]
      rw [hd1, hd2] at c44
      exact V.next ((m + 1), (q + 1), (ys.set m (at_ ys ((k + q : Nat) : Int)))) (show (1 ≤ (q + 1 : Nat) ∧ k + (q + 1 : Nat) ≤ xs.length) ∧ ((ys.set m (at_ ys ((k + q : Nat) : Int)) : List Pt).length = xs.length) ∧ (1 ≤ (m + 1 : Nat) ∧ (m + 1 : Nat) < k + (q + 1 : Nat)) ∧ ((ys.set m (at_ ys ((k + q : Nat) : Int)) : List Pt).take (m + 1 : Nat) = compactN xs (k + (q + 1 : Nat))) ∧ (∀ j, k + (q + 1 : Nat) ≤ j + 1 → at_ (ys.set m (at_ ys ((k + q : Nat) : Int)) : List Pt) (j : Int) = at_ xs (j : Int)) from ⟨(by omega), (by rw [List.length_set]; exact hyl), (by omega), (by rw [show k + (q + 1) = k + q + 1 by omega]; exact compact_put htk (by omega) c44 hq1 hq2), (fun j hj => by rw [at_setn _ _ _ _ (by omega), if_neg (by omega)]; exact hsame j (by omega))⟩) (show xs.length - (k + (q + 1 : Nat)) < xs.length - (k + q) from (by simp only [List.length_drop] at *; omega)) (Sub.cons rfl (Sub.cons lookO (Sub.cons rfl (Sub.cons lookO Sub.nil)))) (show Fit κ _ (vc 60 (.slice a xs.length c) ((ys.set m (at_ ys ((k + q : Nat) : Int)))) :: I) from Fit.sub)
     ·refine W.skip ?_
      refine V.block_normal ?_
      refine V.then ?_
      refine W.region ?_
      refine G.r (Runs.move rfl) ?_
      refine G.r (Runs.add rfl rfl (by unfold InR; omega)) ?_
      refine G.r (Runs.assign rfl) ?_
      refine G.nil ?_
      have hd1 : at_ (List.drop k ys) ((q : Nat) : Int) = at_ ys ((k + q : Nat) : Int) := by rw [at_drop _ _ _ (by omega)]; congr 1
      have hd2 : at_ (List.drop k ys) (((q : Nat) : Int) - 1) = at_ ys (((k + q : Nat) : Int) - 1) := by rw [at_drop _ _ _ (by omega)]; congr 1; omega
      rw [hd1, hd2] at c44
      exact V.next ((m), (q + 1), (ys)) (show (1 ≤ (q + 1 : Nat) ∧ k + (q + 1 : Nat) ≤ xs.length) ∧ ((ys : List Pt).length = xs.length) ∧ (1 ≤ (m : Nat) ∧ (m : Nat) < k + (q + 1 : Nat)) ∧ ((ys : List Pt).take (m : Nat) = compactN xs (k + (q + 1 : Nat))) ∧ (∀ j, k + (q + 1 : Nat) ≤ j + 1 → at_ (ys : List Pt) (j : Int) = at_ xs (j : Int)) from ⟨(by omega), (by omega), (by omega), (by rw [show k + (q + 1) = k + q + 1 by omega]; exact compact_keep htk (by omega) c44 hq1 hq2), (fun j hj => hsame j (by omega))⟩) (show xs.length - (k + (q + 1 : Nat)) < xs.length - (k + q) from (by simp only [List.length_drop] at *; omega)) (Sub.cons rfl (Sub.cons lookO (Sub.cons rfl (Sub.cons lookO Sub.nil)))) (show Fit κ _ (vc 60 (.slice a xs.length c) ((ys)) :: I) from Fit.sub)
    ·refine W.exit ?_
     refine V.then_exit ?_
     refine V.then_exit ?_
     refine V.block_hit ?_
     refine V.then ?_
     refine W.sr ?_
     refine G.r (Runs.move rfl) ?_
     refine G.r (Runs.move rfl) ?_
     refine G.r (Runs.lo (α := Pt) (xs := ys) (l := m) Try.underlying55 ty60 rfl rfl (by omega) Sl.o (by omega)) ?_
     refine G.e (Eff.clear (α := Pt) (k := m) (xs := ys) Try.underlying55 ty60 (AllOne.cons rfl (AllOne.cons rfl AllOne.nil)) rfl rfl (by omega) (by repeat (first | exact At.head _ _ _ | apply At.tail))) ?_
     rintro _ _ ⟨rfl, rfl⟩
     refine G.nt ?_
     refine W.sr ?_
     refine G.r (Runs.move rfl) ?_
     refine G.r (Runs.move rfl) ?_
     refine G.r (Runs.hiraw (h := m) Try.underlying55 ty60 rfl rfl (by omega) (by omega)) ?_
     refine G.r (Runs.assign rfl) ?_
     refine G.nt ?_
     refine W.sub (L' := [(2, _)]) (Sub.cons rfl Sub.nil) ?_
     refine W.ret ?_
     refine V.block_ret ?_
     refine V.then_ret ?_
     refine V.then_ret ?_
     refine V.block_ret ?_
     refine V.then_ret ?_
     have hc : ys.take m = compactN xs xs.length := by rw [htk]; congr 1; omega
     exact V.ret1 rfl rfl (vc 60 (.slice a (List.take m ys).length c) (List.take m ys) :: I) Fit.sub ⟨_, ⟨by rw [← hc, List.length_take, hyl, Nat.min_eq_left (by omega)], hc⟩, rfl⟩
   ·refine W.skip ?_
    refine V.block_normal ?_
    refine V.then ?_
    refine W.region ?_
    refine G.r (Runs.move rfl) ?_
    refine G.r (Runs.add rfl rfl (by unfold InR; omega)) ?_
    refine G.r (Runs.assign rfl) ?_
    refine G.nil ?_
    exact V.next ((k + 1)) (show (1 ≤ (k + 1 : Nat) ∧ (k + 1 : Nat) ≤ xs.length) ∧ (∀ j, j < (k + 1 : Nat) → 0 < j → at_ xs (j : Int) ≠ at_ xs ((j : Int) - 1)) from ⟨(by omega), (all_succ hne (fun _ => c25))⟩) (show xs.length - (k + 1 : Nat) < xs.length - k from (by omega)) (Sub.cons rfl (Sub.cons lookO Sub.nil)) (show Fit κ _ (vc 60 (.slice a xs.length c) (xs) :: I) from Fit.sub)
  ·refine W.exit ?_
   refine V.then_exit ?_
   refine V.then_exit ?_
   refine V.block_hit ?_
   refine V.then ?_
   refine W.sr ?_
   refine G.r (Runs.move rfl) ?_
   refine G.r (Runs.assign rfl) ?_
   refine G.nt ?_
   refine W.ret ?_
   have hc : compactN xs xs.length = xs := (compactN_take (fun j h1 h2 => hne j (by omega) h2) (Nat.le_refl _)).trans (List.take_length)
   exact V.ret1 rfl rfl (vc 60 (.slice a xs.length c) xs :: I) Fit.sub ⟨xs, ⟨by rw [hc], hc.symm⟩, rfl⟩

end Go.Sl
namespace Go.Sl
open Go.Proofs
set_option linter.unusedVariables false
set_option linter.unusedSimpArgs false
set_option maxRecDepth 4000
/-- y is the first place at which p says yes, or -1. -/
def IdxF {α : Type} [Inhabited α] (p : α → Bool) (xs : List α) (y : Int) : Prop :=
  (y = -1 ∧ ∀ j : Nat, j < xs.length → p (at_ xs (j : Int)) = false) ∨ (0 ≤ y ∧ y < xs.length ∧ (∀ j : Nat, (j : Int) < y → p (at_ xs (j : Int)) = false) ∧ p (at_ xs y) = true)
theorem IdxF.any {α : Type} [Inhabited α] {p : α → Bool} {xs : List α} {y : Int} (h : IdxF p xs y) : decide (0 ≤ y) = xs.any p := by
  rcases h with ⟨rfl, h⟩ | ⟨h0, hl, _, h⟩
  · have : xs.any p = false := by
      rw [List.any_eq_false]; intro x hx
      obtain ⟨j, hj, rfl⟩ := mem_at hx
      rw [h j hj]; decide
    rw [this]; rfl
  · rw [decide_eq_true h0]
    exact (List.any_eq_true.2 ⟨_, at_mem h0 (by omega), h⟩).symm
theorem IndexFuncP {κ : Ctx} {I : List Item} {v : Value} {xs : List Pt} (hl : Sl κ I v xs) {g : FuncId} {cp_ : List Value} {p : Pt → Bool} (hcb : Says Try.prog κ I g cp_ p) :
    CallS Try.prog κ 192 [v, .func (.func g) #[] cp_.toArray] I (fun r J => ∃ y : Int, r = I64 y ∧ IdxF p xs y ∧ I = J) := by
 refine CallS.pull hl.le fun hmax => ?_
 refine CallS.enter (L := [(0, v), (1, .func (.func g) #[] cp_.toArray)]) Try.func192 rfl rfl rfl rfl ?_
 refine W.sr ?_
 refine G.r (Runs.assign rfl) ?_
 refine G.nt ?_
 refine W.seq ?_
 refine W.sr ?_
 refine G.r (Runs.move rfl) ?_
 refine G.r (Runs.lenT (α := Pt) (xs := xs) Try.underlying55 rfl (Sl.f hl)) ?_
 refine G.r (Runs.move rfl) ?_
 refine G.nt ?_
 refine W.block ?_
 refine W.loop (σ := Nat) (fun s => ([(0, v), (1, .func (.func g) #[] cp_.toArray), (7, I64 (((xs.length : Nat) : Int))), (8, I64 (((s : Nat) : Int)))] : Env)) (fun s => I) (fun s => (s ≤ xs.length) ∧ (∀ j, j < s → p (at_ xs (j : Int)) = false)) (fun s => xs.length - s) (0) (show ((0 : Nat) ≤ xs.length) ∧ (∀ j, j < (0 : Nat) → p (at_ xs (j : Int)) = false) from ⟨(by omega), all_zero⟩) (Sub.cons rfl (Sub.cons rfl (Sub.cons rfl (Sub.cons lookO Sub.nil)))) (show Fit κ _ (I) from Fit.sub) ?_
 rintro k hp
 obtain ⟨hk, hn⟩ : (k ≤ xs.length) ∧ (∀ j, j < k → p (at_ xs (j : Int)) = false) := hp
 show W Try.prog κ 19 _ _ ([(0, v), (1, .func (.func g) #[] cp_.toArray), (7, I64 (((xs.length : Nat) : Int))), (8, I64 (((k : Nat) : Int)))] : Env) (I)
 refine W.sr ?_
 refine G.r (Runs.lss rfl rfl) ?_
 refine G.nt ?_
 refine W.seq ?_
 refine W.ite rfl (fun c9 => ?_) (fun c9 => ?_)
 ·refine W.skip ?_
  refine V.then ?_
  refine W.seq ?_
  refine W.block ?_
  refine W.sr ?_
  refine G.r (Runs.move rfl) ?_
  refine G.r (Runs.assign rfl) ?_
  refine G.nt ?_
  refine W.sr ?_
  refine G.r (Runs.move rfl) ?_
  refine G.r (Runs.move rfl) ?_
  refine G.r (Runs.move rfl) ?_
  refine G.r (Runs.idx (α := Pt) (xs := xs) Try.underlying55 ty60 rfl rfl (Sl.f hl) (by omega) (by omega)) ?_
  refine G.r (Runs.gets (α := Pt) (xs := xs) ty60 rfl (Sl.f hl) (by omega) (by omega)) ?_
  refine G.e (Eff.callv hcb.1 (first := []) (caps := cp_) rfl rfl rfl (hcb.2 (at_ xs ((k : Nat) : Int)) _ Fit.m)) ?_
  rintro _ _ ⟨_, _, ⟨rfl, rfl⟩, rfl, rfl⟩
  refine G.nt ?_
  refine W.cond rfl (fun c16 => ?_) (fun c16 => ?_)
  ·refine W.sr ?_
   refine G.r (Runs.move rfl) ?_
   refine G.r (Runs.assign rfl) ?_
   refine G.nt ?_
   refine W.sub (L' := [(4, _)]) (Sub.cons rfl Sub.nil) ?_
   refine W.ret ?_
   refine V.block_ret ?_
   refine V.then_ret ?_
   refine V.then_ret ?_
   refine V.block_ret ?_
   refine V.then_ret ?_
   exact V.ret1 rfl rfl (I) Fit.m ⟨_, rfl, .inr ⟨by omega, by omega, fun j hj => hn j (by omega), c16⟩, rfl⟩
  ·refine W.skip ?_
   refine V.block_normal ?_
   refine V.then ?_
   refine W.region ?_
   refine G.r (Runs.add rfl rfl (by unfold InR; omega)) ?_
   refine G.r (Runs.move rfl) ?_
   refine G.nil ?_
   exact V.next ((k + 1)) (show ((k + 1 : Nat) ≤ xs.length) ∧ (∀ j, j < (k + 1 : Nat) → p (at_ xs (j : Int)) = false) from ⟨(by omega), (all_succ hn c16)⟩) (show xs.length - (k + 1 : Nat) < xs.length - k from (by omega)) (Sub.cons rfl (Sub.cons rfl (Sub.cons rfl (Sub.cons lookO Sub.nil)))) (show Fit κ _ (I) from Fit.sub)
 ·refine W.exit ?_
  refine V.then_exit ?_
  refine V.then_exit ?_
  refine V.block_hit ?_
  refine V.then ?_
  refine W.sr ?_
  refine G.r (Runs.assign rfl) ?_
  refine G.nt ?_
  refine W.ret ?_
  exact V.ret1 rfl rfl (I) Fit.m ⟨_, rfl, .inl ⟨rfl, fun j hj => hn j (by omega)⟩, rfl⟩

theorem ContainsFuncP {κ : Ctx} {I : List Item} {v : Value} {xs : List Pt} (hl : Sl κ I v xs) {g : FuncId} {cp_ : List Value} {p : Pt → Bool} (hcb : Says Try.prog κ I g cp_ p) :
    CallS Try.prog κ 125 [v, .func (.func g) #[] cp_.toArray] I (fun r J => r = .bool (xs.any p) ∧ I = J) := by
 refine CallS.enter (L := [(0, v), (1, .func (.func g) #[] cp_.toArray)]) Try.func125 rfl rfl rfl rfl ?_
 refine W.sr ?_
 refine G.r (Runs.assign rfl) ?_
 refine G.nt ?_
 refine W.sr ?_
 refine G.r (Runs.move rfl) ?_
 refine G.r (Runs.move rfl) ?_
 refine G.e (Eff.call call192 rfl rfl (IndexFuncP (Sl.f hl) (Says.fit hcb Fit.m))) ?_
 rintro _ _ ⟨_, _, ⟨y1, rfl, hy1, rfl⟩, rfl, rfl⟩
 refine G.r (Runs.geq rfl rfl) ?_
 refine G.r (Runs.assign rfl) ?_
 refine G.nt ?_
 refine W.ret ?_
 exact V.ret1 rfl rfl (I) Fit.m ⟨by rw [← IdxF.any (by assumption)], rfl⟩

end Go.Sl
namespace Go.Sl
open Go.Proofs
set_option linter.unusedVariables false
set_option linter.unusedSimpArgs false
set_option maxRecDepth 4000
theorem HeldAll.cons {α : Type} [Enc α] {κ : Ctx} {I : List Item} {r : RowG α} {rs : List (RowG α)} (hr : RowG.Held κ I r) (h : HeldAll κ I rs) : HeldAll κ I (r :: rs) := fun x hx => by
  rcases List.mem_cons.1 hx with rfl | hx
  · exact hr
  · exact h x hx
theorem flatr_step {α β : Type} [Inhabited α] {f : α → List β} {rs : List α} {k : Nat} (hk : k < rs.length) : ((rs.take (k + 1)).map f).flatten = ((rs.take k).map f).flatten ++ f (at_ rs (k : Int)) := by
  rw [take_at rs k hk, List.map_append, List.flatten_append]; simp
theorem flatr_le {α β : Type} {f : α → List β} (rs : List α) (k : Nat) : ((rs.take k).map f).flatten.length ≤ ((rs.map f).flatten).length := by
  have h : rs.map f = (rs.take k).map f ++ (rs.drop k).map f := by rw [← List.map_append, List.take_append_drop]
  rw [h, List.flatten_append, List.length_append]; omega

end Go.Sl
