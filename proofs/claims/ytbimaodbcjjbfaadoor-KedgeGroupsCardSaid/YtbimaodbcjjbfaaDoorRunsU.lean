/- A part of the proofs of statements of this seat: contracts of functions, and the plain laws that they lean on. No conditions. -/
import Derived.Test.YtbimaodbcjjbfaaDoorOps2
import Derived.Test.YtbimaodbcjjbfaaDoorRunsX
import Derived.Test.YtbimaodbcjjbfaaDoorRunsY
/- Still more operations: clear of the end of an owned slice; an owned slice cut short. No conditions. -/
namespace Go.Sl
open Go.RowKit (Below)
set_option linter.unusedVariables false
set_option linter.unusedSimpArgs false
set_option linter.unusedSectionVars false

theorem zeroCells_one {z : Array Value} (h : ∀ u ∈ z, u.oneCell' = true) (n : Nat) : ∀ u ∈ (Builtin.zeroCells z n).toList, u.oneCell' = true := fun u hu => by
  simp only [Builtin.zeroCells, Array.toList_map, List.mem_map, Array.toList_range, List.mem_range] at hu
  obtain ⟨i, hi, rfl⟩ := hu
  have hz : 0 < z.size := Nat.pos_of_ne_zero fun e => by rw [e] at hi; simp at hi
  have hm : i % z.size < z.size := Nat.mod_lt _ hz
  rw [getElem!_pos z _ hm]
  exact h _ (Array.getElem_mem hm)

section
variable {P : Program} {κ : Ctx} {N : Nat} {Q : Exit → Act → World → Prop} {L : Env} {I J : List Item}
variable {d : Option Tmp} {ty : TypeId} {ps : String} {af : Array Edge} {gd : Option (Nat × Bool)}
variable {α : Type} [Enc α] {xs : List α}

/-- xs[:h] of an owned slice, the rest being given up. -/
theorem cutshort {e : TypeId} {ad : Option Addr} {n c h : Nat} (hh : h ≤ xs.length) : ∀ w, (vc e (.slice ad n c) xs).ok w → (vc e (.slice ad (xs.take h).length c) (xs.take h)).ok w ∧
    ∀ k, (vc e (.slice ad (xs.take h).length c) (xs.take h)).fp k → (vc e (.slice ad n c) xs).fp k := by
  intro w hw
  obtain ⟨a, cap, hv, h1, h2, h3, h4⟩ := hw
  cases hv
  refine ⟨⟨ad, c, rfl, cells_length _, by rw [List.length_take]; omega, h3, fun hc => ?_⟩, fun k hk => ?_⟩
  · obtain ⟨b, off, cur, rfl, hb, hsz, hcur⟩ := h4 hc
    refine ⟨b, off, cur, rfl, hb, hsz, fun j u hj => hcur j u ?_⟩
    rw [cells_take, List.getElem?_take] at hj
    split at hj
    · exact hj
    · cases hj
  · obtain ⟨off, n', cap', hv, hc⟩ := hk
    simp only [Value.slice.injEq] at hv
    obtain ⟨rfl, _, rfl⟩ := hv
    exact ⟨off, _, _, rfl, hc⟩

theorem Eff.of_value0 {o : Oper} {R : Env → List Item → Prop} (hd : o.dst = none)
    (h : ∀ a w, Ag N a L → Sep κ w I → ∃ v w' I', (execOp a.eval o).run P w = .ok (.value v) w' ∧ R L I' ∧ Sep κ w' I') : Eff P κ N Q o L I R := fun a w ha hs => by
  obtain ⟨v, w', I', hr, hR, hs'⟩ := h a w ha hs
  simp only [Oper.wp, hr, Oper.upon, hd]
  exact ⟨_, _, hR, ha, hs'⟩

/-- clear(xs[k:]); what was there is given up. -/
theorem Eff.clear {x : Operand} {t e by' k c n : Nat} {ag : Bool} {z : List Value} {ad : Option Addr} {I' : List Item} (ht : P.underlying t = some (.slice e)) (hT : tyF P e = some (Enc.sz α, ag, by', z)) (hz : AllOne z) (hzl : z.length = Enc.sz α)
    (hx : evalO L x = some (.slice (adrop ad c k (Enc.sz α)) (xs.drop k).length (c - k))) (hk : k ≤ xs.length) (hat : At I (vc e (.slice ad n c) xs) (vc e (.slice ad (xs.take k).length c) (xs.take k)) I') :
    Eff P κ N Q ⟨none, .call { callee := .builtin .clear, args := #[x], argTypes := #[t] }, ty, ps, af, gd⟩ L I fun L' I'' => L' = L ∧ I'' = I' :=
  Eff.of_value0 rfl fun a w ha hs => by
    have hok := (hs.ok _ hat.mem).1
    have hok' := hok
    obtain ⟨a', cap', hv, hl, hnc, hcm, hcap⟩ := hok
    cases hv
    by_cases hkl : k = xs.length
    · subst hkl
      refine ⟨.tuple #[], w, I', ?_, ⟨rfl, rfl⟩, Fit.upd hat (cutshort (Nat.le_refl _)) w hs⟩
      have e0 : (xs.drop xs.length).length = 0 := by simp
      rw [e0] at hx
      generalize adrop ad c xs.length (Enc.sz α) = aa at hx
      cases aa <;> simp [execOp, resolve, invoke, builtin, ha.eval hx, Builtin.clear_, run_underlying ht]
    · have hk' : k < xs.length := by omega
      obtain ⟨b, off, cur, rfl, hb, hsize, hcur⟩ := hcap (by omega)
      obtain ⟨zv, hzv, hzc⟩ := run_zeroCells hT w
      have hm : (xs.drop k).length = xs.length - k := List.length_drop
      have hmul : xs.length * Enc.sz α ≤ c * Enc.sz α := Nat.mul_le_mul_right _ hnc
      have hmul2 : k * Enc.sz α + (xs.length - k) * Enc.sz α = xs.length * Enc.sz α := by rw [← Nat.add_mul]; congr 1; omega
      have hlen : (Builtin.zeroCells zv.cells (xs.length - k)).toList.length = (xs.length - k) * Enc.sz α := by
        rw [Array.length_toList, size_zeroCells, hzc, List.size_toArray, hzl]
      have h1 : ∀ u ∈ (Builtin.zeroCells zv.cells (xs.length - k)).toList, u.oneCell' = true := zeroCells_one (by rw [hzc]; intro u hu; exact hz.all u (by simpa using hu)) _
      obtain ⟨m, hm'⟩ : ∃ m, (xs.drop k).length = m + 1 := ⟨xs.length - k - 1, by omega⟩
      have hmm : xs.length - k = m + 1 := by omega
      obtain ⟨Z, hZ⟩ : ∃ Z, Z = (Builtin.zeroCells zv.cells (m + 1)).toList := ⟨_, rfl⟩
      rw [hmm, ← hZ] at hlen h1
      rw [hmm] at hmul2
      have hst := run_storeCells_at P b (off + k * Enc.sz α) e Z 0 cur w hb (by rw [hlen]; omega) h1
      simp only [Nat.add_zero] at hst
      have hx' : evalO L x = some (.slice (some ⟨b, off + k * Enc.sz α, none⟩) (m + 1) (c - k)) := by
        rw [hx, hm']; unfold adrop; rw [if_neg (by omega)]; simp [addr_add]
      refine ⟨.tuple #[], _, I', by simp only [execOp, resolve, invoke, builtin, List.map_toArray, List.map_cons, List.map_nil, ha.eval hx']; simp [Builtin.clear_, run_underlying ht, hzv]; rw [← hZ, hst]; simp only [Result.andThen_ok]; rfl, ⟨rfl, rfl⟩, ?_⟩
      refine hs.upd hat rfl ⟨rfl, Nat.le_refl _⟩ rfl (by simp) (fun k' _ hne => setRow_other w b k' _ fun e => hne (by subst e; exact ⟨off, xs.length, c, rfl, by omega⟩)) ?_ fun k hk => .inl ?_
      · refine ⟨_, c, rfl, cells_length _, by rw [List.length_take]; omega, hcm, fun hc => ⟨b, off, _, rfl, setRow_heap w b cur _ e _ hb, ?_, fun j u' hj => ?_⟩⟩
        · simp only [List.size_toArray, List.length_append, List.length_take, List.length_drop, hlen, Array.length_toList]; omega
        · have hjl : j < k * Enc.sz α := by
            have := (List.getElem?_eq_some_iff.1 hj).1
            rw [cells_length, List.length_take] at this
            have h2 : min k xs.length = k := by omega
            rw [h2] at this
            exact this
          rw [cells_take, List.getElem?_take, if_pos hjl] at hj
          have := hcur j u' hj
          rw [List.getElem?_toArray, List.getElem?_append_left (by simp only [List.length_append, List.length_take, Array.length_toList]; omega), List.getElem?_append_left (by simp only [List.length_take, Array.length_toList]; omega), List.getElem?_take, if_pos (by omega)]
          simpa using this
      · obtain ⟨off', n', c', hv', hc'⟩ := hk
        cases hv'
        exact ⟨off, xs.length, c, rfl, hc'⟩
theorem vc.cap {e : TypeId} {ad : Option Addr} {n c : Nat} (h : vc e (.slice ad n c) xs ∈ I) : ∀ w, Sep κ w I → xs.length ≤ c := fun w hs => by
  obtain ⟨_, _, h0, _, h1, _⟩ := (Sl.vec (κ := κ) h) w hs
  cases h0
  exact h1

/-- cap of a slice that is written out. -/
theorem Runs.caps {x : Operand} {T E n c : Nat} {ad : Option Addr} (ht : P.underlying T = some (.slice E)) (hx : evalO L x = some (.slice ad n c)) :
    Runs P κ N ⟨d, .call { callee := .builtin .cap, args := #[x], argTypes := #[T] }, ty, ps, af, gd⟩ L J (I64 c) :=
  fun a w ha hs => by
    simp [execOp, resolve, invoke, builtin, ha.eval hx, Builtin.cap_, run_underlying ht, goInt]

/-! ### Blocks that are read only -/
end
end Go.Sl
/- Leaving out what is twice in a row: the plain law. No Go. No conditions. -/
namespace Go.Sl
set_option linter.unusedVariables false

end Go.Sl
namespace Go.Sl
open Go.Proofs
set_option linter.unusedVariables false
set_option linter.unusedSimpArgs false
set_option maxRecDepth 4000
end Go.Sl
namespace Go.Sl
open Go.Proofs
set_option linter.unusedVariables false
set_option linter.unusedSimpArgs false
set_option maxRecDepth 4000
end Go.Sl
namespace Go.Sl
open Go.Proofs
set_option linter.unusedVariables false
set_option linter.unusedSimpArgs false
set_option maxRecDepth 4000
theorem HeldAll.cons {α : Type} [Enc α] {κ : Ctx} {I : List Item} {r : RowG α} {rs : List (RowG α)} (hr : RowG.Held κ I r) (h : HeldAll κ I rs) : HeldAll κ I (r :: rs) := fun x hx => by
  rcases List.mem_cons.1 hx with rfl | hx
  · exact hr
  · exact h x hx
end Go.Sl
