/- A part of the proofs of statements of this seat: contracts of functions, and the plain laws that they lean on. No conditions. -/
import Derived.Test.YtbimaodbcjjbfaaDoorRunsW
import Derived.Test.YtbimaodbcjjbfaaDoorFrame
import Derived.Test.YtbimaodbcjjbfaaDoorOps2
/- slices.SortFunc over an owned slice of slices, by a callback that reads what lies in them. No conditions. -/
namespace Go.Sl
open Go.Proofs Go.Shelf Go.RowKit Go.Lib Go.Sort
set_option linter.unusedVariables false
set_option linter.unusedSimpArgs false
set_option linter.unusedSectionVars false
section
variable {β : Type} [Enc β] [Inhabited β]
/-- The worlds that the sort passes through. -/
theorem sep_sorted {κ : Ctx} {w : World} {I : List Item} {e : TypeId} {b off c : Nat} {xs : List β} {ι : Type} [Inhabited ι] (f : ι → β) (e1 : β → Value) (h1 : ∀ x, Enc.enc x = [e1 x]) (hsz : Enc.sz β = 1)
    (hs : Sep κ w (vc e (.slice (some ⟨b, off, none⟩) xs.length c) xs :: I)) (hc : 0 < c) (dk : Array ι) (hd : dk.size = xs.length) (m : Nat) (os : Array Obj) :
    Sep κ (sortWorld (fun i => e1 (f i)) w b off m dk os) (vc e (.slice (some ⟨b, off, none⟩) (dk.toList.map f).length c) (dk.toList.map f) :: I) := by
  obtain ⟨hok, _⟩ := hs.ok _ List.mem_cons_self
  obtain ⟨a', cap', hv, hl, hnc, hcm, hcap⟩ := hok
  cases hv
  obtain ⟨b', off', cur, ha, hb, hsize, hcur⟩ := hcap hc
  cases ha
  have hbw : b < w.heap.size := (Array.getElem?_eq_some_iff.1 hb).1
  have hlen : (dk.toList.map f).length = xs.length := by simp [hd]
  refine hs.upd (At.head _ _ _) rfl ⟨rfl, by simp [sortWorld, Sort.grow, putRow, mapBlock, Sort.ahead]⟩ rfl (by simp [sortWorld, Sort.grow, putRow, mapBlock, Sort.ahead]) (fun k hk hne => ?_) ?_ fun k hk => .inl ?_
  · have hkb : k ≠ b := fun ekb => hne (by subst ekb; exact ⟨off, xs.length, c, rfl, hc⟩)
    simp only [sortWorld, Sort.grow, putRow, mapBlock]
    rw [Array.getElem?_append_left (by simpa [Sort.ahead] using hk), Array.getElem?_modify, if_neg (fun e => hkb e.symm)]
    rfl
  · refine ⟨_, c, rfl, cells_length _, by rw [hlen]; exact hnc, hcm, fun _ => ⟨b, off, putCells (fun i => e1 (f i)) off dk cur, rfl, ?_, ?_, fun j u hj => ?_⟩⟩
    · simp only [sortWorld, Sort.grow, putRow, mapBlock]
      rw [Array.getElem?_append_left (by simpa [Sort.ahead] using hbw), Array.getElem?_modify, if_pos rfl]
      show (w.heap[b]?).map _ = _
      rw [hb]; rfl
    · simpa [putCells] using hsize
    · have hj' : j < (cells (dk.toList.map f)).length := (List.getElem?_eq_some_iff.1 hj).1
      have hj2 : j < xs.length := by rw [cells_length, hlen, hsz] at hj'; omega
      have hoff : off + j < cur.size := by
        have : xs.length * Enc.sz β ≤ c * Enc.sz β := Nat.mul_le_mul_right _ hnc
        rw [hsz] at this hsize; omega
      simp only [putCells, Array.getElem?_mapIdx, Array.getElem?_eq_getElem hoff, Option.map_some]
      rw [if_pos ⟨by omega, by omega⟩, Nat.add_sub_cancel_left]
      have hg := cells_get (dk.toList.map f) j 0 (by omega) (by omega)
      rw [hsz, show j * 1 + 0 = j by omega] at hg
      rw [hg, h1] at hj
      simp only [List.getElem?_cons_zero, Option.some.injEq, List.getElem_map, Array.getElem_toList] at hj
      rw [getElem!_pos dk j (by omega), ← hj]
  · obtain ⟨o', n', c', hv', hc'⟩ := hk
    cases hv'
    exact ⟨off, xs.length, c, rfl, hc⟩
end
section
variable {α : Type} [Enc α]
theorem slW_of_held {κ : Ctx} {I : List Item} {w : World} {r : RowG α} (hs : Sep κ w I) (h : RowG.Held κ I r) : SlW w (.slice r.a r.xs.length r.c) r.xs := h w hs
theorem sort_rows {P : Program} {ρ : Ren} {κ : Ctx} {I : List Item} (L : SlLaysF0.n6 P ρ) (aE : ∀ w, (isAgg (ρ.t 24)).run P w = .ok false w) (zE : ∀ w, (Go.sizeOf (ρ.t 24)).run P w = .ok 1 w) (cf : List α → List α → Int) (hO : SWO (ltOf cf)) (g : Nat)
    (eg : ∀ args w, (callFunc g args).run P w = .ok (.enter g args) w) {rs : List (RowG α)} (hh : HeldAll κ I rs)
    (hcmp : ∀ (κ' : Ctx) (J : List Item), ∀ x ∈ rs, ∀ y ∈ rs, RowG.Held κ' J x → RowG.Held κ' J y → CallS P κ' g [.slice x.a x.xs.length x.c, .slice y.a y.xs.length y.c] J fun r J' => r = I64 (cf x.xs y.xs) ∧ J = J')
    {e : TypeId} {ad : Option Addr} {c : Nat} (hsz : rs.length < 4611686018427387904) :
    CallS P κ (ρ.f 6) [.slice ad rs.length c, .func (.func g) #[] #[]] (vc e (.slice ad rs.length c) rs :: I) fun r J => ∃ ys : List (RowG α), (r = .tuple #[] ∧ ys.Perm rs ∧ ys.Pairwise fun a b => ltOf cf b.xs a.xs = false) ∧ J = [] ++ vc e (.slice ad ys.length c) ys :: I := by
  by_cases hn : rs.length = 0
  · obtain rfl : rs = [] := List.eq_nil_of_length_eq_zero hn
    intro w hs
    refine Calls.mono (AnyF.slices_SortFunc_none L ad c _ w) ?_
    rintro e' w' ⟨rfl, rfl⟩
    exact ⟨_, _, rfl, ⟨[], ⟨rfl, List.Perm.nil, List.Pairwise.nil⟩, rfl⟩, hs⟩
  intro w hs
  have hsk := hs
  obtain ⟨hok, _⟩ := hs.ok _ List.mem_cons_self
  obtain ⟨a', cap', hv, hl, hnc, hcm, hcap⟩ := hok
  cases hv
  have hc : 0 < c := by omega
  obtain ⟨b, off, cur, rfl, hb, hsize, hcur⟩ := hcap hc
  have hbw : b < w.heap.size := (Array.getElem?_eq_some_iff.1 hb).1
  have hz1 : Enc.sz (RowG α) = 1 := rfl
  haveI : Inhabited (Fin rs.length) := ⟨⟨0, by omega⟩⟩
  let f : Fin rs.length → RowG α := fun i => rs[i.val]
  let e1 : RowG α → Value := fun r => .slice r.a r.xs.length r.c
  let d : Array (Fin rs.length) := (List.finRange rs.length).toArray
  have hd : d.size = rs.length := by simp [d]
  have hdf : d.toList.map f = rs := by
    apply List.ext_getElem
    · simp [d]
    · intro i h1 h2; simp [d, f]
  have hH : Holds (fun i => e1 (f i)) w b off d := fun j hj => by
    have hjr : j < rs.length := by omega
    have hg := cells_get rs j 0 hjr (by rw [hz1]; omega)
    rw [hz1, show j * 1 + 0 = j by omega] at hg
    have h1 := hcur j (e1 rs[j]) hg
    refine ⟨?_, by simp [World.frozen?, hb]⟩
    rw [cell_of_row w b (off + j) cur e (0, 0) hb, h1, getElem!_pos d j hj]
    simp [d, f]
  have hsep := fun (dk : Array (Fin rs.length)) (hk : dk.size = rs.length) m os => sep_sorted f e1 (fun _ => rfl) hz1 hsk hc dk hk m os
  have hO' : SWO (ltOf fun i j : Fin rs.length => cf (f i).xs (f j).xs) := ⟨fun x => hO.irrefl _, fun x y z => hO.trans _ _ _, fun x y z => hO.ntrans _ _ _⟩
  have h := Any.slices_SortFunc { L with a24 := aE, z24 := zE } (fun i => e1 (f i)) (fun i => rfl) (fun i j : Fin rs.length => cf (f i).xs (f j).xs) hO' g #[] b off c d w eg
    (fun m os dk hk x y => by
      have hW := (hsep dk (by omega) m os).tail
      exact lays_of (hcmp _ _ (f x) (List.getElem_mem _) (f y) (List.getElem_mem _) ((slW_of_held hW (hh _ (List.getElem_mem _))).sl List.mem_cons_self) ((slW_of_held hW (hh _ (List.getElem_mem _))).sl List.mem_cons_self)))
    hH hbw (by omega)
  rw [hd] at h
  refine Calls.mono h ?_
  rintro e' w' ⟨rfl, d', n, os, ⟨hs1, _, hperm⟩, hsort, rfl⟩
  have hs1' : d'.size = rs.length := by omega
  have hperm' : (d'.toList.map f).Perm rs := by
    have e1 : d'.extract 0 rs.length = d' := by apply Array.extract_eq_self_of_le; omega
    have e2 : d.extract 0 rs.length = d := by apply Array.extract_eq_self_of_le; omega
    rw [e1, e2] at hperm
    have := hperm.map f
    rwa [hdf] at this
  refine ⟨_, _, rfl, ⟨d'.toList.map f, ⟨rfl, hperm', ?_⟩, rfl⟩, ?_⟩
  · rw [List.pairwise_map, List.pairwise_iff_getElem]
    intro i j hi hj hij
    have := hsort i j (Nat.zero_le _) hij (by simpa [hs1'] using hj)
    simp only [Array.length_toList] at hi hj
    rw [getElem!_pos d' i hi, getElem!_pos d' j hj] at this
    simpa [ltOf] using this
  · exact hsep d' hs1' n os
end
end Go.Sl
