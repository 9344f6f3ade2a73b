/- A part of the proofs of statements of this seat: contracts of functions, and the plain laws that they lean on. No conditions. -/
import Derived.Test.YtbimaodbcjjbfaaGreatDoorFrame
/- A slice of arrays of numbers, as a law's argument. No conditions. -/
namespace Go.Sl
open Go.ChangeShapes Go.WideShapes Go.ChangeAt Go.RowKit Go.Deep
set_option linter.unusedVariables false
set_option linter.unusedSimpArgs false
section
variable {P : Program} {w : World} {r : Reach} {b0 : Nat} {t : TypeId} {H : Type} {enc : TypeId × Value → H} {base : Nat} {spare : Nat → Bool} {held : Bool}
/-- A slice of arrays of numbers that came in. -/
theorem in_arrs {α : Type} [Enc α] [Inhabited α] (mk : (Nat → Int) → α) {e : TypeId} {el : TypeId} {k : Nat} {v : Value} {fuel : Nat} {x : DataW H × List MemPlace} (hmk : ∀ f, Enc.enc (mk f) = (List.range k).map fun j => I64 (f j)) (hsz : Enc.sz α = k)
    (ht : P.underlying t = some (.slice e)) (he : P.underlying e = some (.array k el)) (hel : P.underlying el = some (.int .i64)) (hc1 : P.cellsOf el = 1) (hC : P.cellsOf e = k)
    (hv : Cell.okWide P w r b0 t v) (h : DataW.trod enc P w base spare held fuel t [v] = some x) (hw : Light P t x.1) : ∃ (a : Option Addr) (c : Nat) (xs : List α), v = .slice a xs.length c ∧ SlW w (.slice a xs.length c) xs ∧ (∀ y ∈ xs, ∃ f, y = mk f ∧ ∀ j, j < k → InR (f j)) ∧ xs.length * P.bytesOf e ≤ 140737488351232 := by
  rcases open_slice ht h with ⟨hcs, _⟩ | ⟨a, len, cap, m, n, D, Pl, hcs, hb, hl, hm, hmm, hx, hi⟩
  · obtain rfl : v = .slice none 0 0 := by simpa using hcs
    exact ⟨none, 0, [], rfl, ⟨none, 0, rfl, by simp [cells], Nat.le_refl _, by simp, fun h => by omega⟩, by simp, by simp⟩
  · obtain rfl : v = .slice (some a) len cap := by simpa using hcs
    have hsp := spot_none ht hv
    have hlm : len ≤ m := by rw [hmm]; split <;> omega
    -- the numbers
    have hcell : ∀ i, i < len → ∀ j, j < k → ∃ q : Int, w.cell? ⟨a.block, a.off + (i * k + j), none⟩ = some (I64 q) ∧ InR q := fun i hi' j hj => by
      obtain ⟨cs', hc', ht'⟩ := hi i (by omega)
      rw [hC] at hc'
      obtain ⟨ys, n', hn', hy, hlen, hyl, hf⟩ := DataW.trod_array he ht'
      obtain ⟨_, hcl, hat⟩ := World.cells?_some hc'
      have hc2 := hat j (by omega)
      have h1 := hf j hj
      rw [hc1, Nat.mul_one] at h1
      have hone' : (cs'.drop j).take 1 = [cs'[j]'(by omega)] := by
        rw [List.drop_eq_getElem_cons (by omega)]; rfl
      rw [hone', List.getElem?_eq_getElem (by omega)] at h1
      obtain ⟨q, hq, _, hwf⟩ := DataW.trod_int hel h1
      have hq' : cs'[j]'(by omega) = I64 q := by simpa using hq
      refine ⟨q, ?_, InR_of hwf⟩
      rw [Go.Deep.add_add, addr_eta hsp, addr_add] at hc2
      rw [hc2, List.getElem?_eq_getElem (by omega), hq']
    have hall : ∃ q : Nat → Nat → Int, ∀ i, i < len → ∀ j, j < k → w.cell? ⟨a.block, a.off + (i * k + j), none⟩ = some (I64 (q i j)) ∧ InR (q i j) := by
      refine ⟨fun i j => if hij : i < len ∧ j < k then Classical.choose (hcell i hij.1 j hij.2) else 0, fun i hi' j hj => ?_⟩
      simp only [dif_pos (show i < len ∧ j < k from ⟨hi', hj⟩)]
      exact Classical.choose_spec (hcell i hi' j hj)
    obtain ⟨q, hq⟩ := hall
    have hxl : ((List.range len).map fun i => mk (q i)).length = len := by simp
    refine ⟨some a, cap, (List.range len).map fun i => mk (q i), by rw [hxl], ⟨some a, cap, rfl, cells_length _, by rw [hxl]; exact hl, hm, fun hc0 => ⟨a.block, a.off, by rw [← addr_eta hsp], fun j u hj => ?_⟩⟩, fun y hy => ?_, by
      rw [hx] at hw
      have := light_slice ht hw
      simpa using this⟩
    · have hjl := (List.getElem?_eq_some_iff.1 hj).1
      rw [cells_length, hxl, hsz] at hjl
      have hpos : 0 < k := by rw [← hsz]; exact Enc.pos
      have hi1 : j / k < len := Nat.div_lt_of_lt_mul (by rw [Nat.mul_comm]; exact hjl)
      have hj1 : j % k < k := Nat.mod_lt _ hpos
      have hsplit : j = j / k * Enc.sz α + j % k := by rw [hsz, Nat.mul_comm]; exact (Nat.div_add_mod j k).symm
      rw [hsplit, cells_get _ (j / k) (j % k) (by rw [hxl]; exact hi1) (by rw [hsz]; exact hj1)] at hj
      simp only [List.getElem_map, List.getElem_range, hmk] at hj
      rw [List.getElem?_map, List.getElem?_range hj1] at hj
      have hu : u = I64 (q (j / k) (j % k)) := by simpa using hj.symm
      rw [hu]
      have := (hq _ hi1 _ hj1).1
      rw [hsz] at hsplit
      rw [← hsplit] at this
      exact this
    · obtain ⟨i, hi', rfl⟩ := List.mem_map.1 hy
      exact ⟨q i, rfl, fun j hj => (hq i (List.mem_range.1 hi') j hj).2⟩
end
end Go.Sl
