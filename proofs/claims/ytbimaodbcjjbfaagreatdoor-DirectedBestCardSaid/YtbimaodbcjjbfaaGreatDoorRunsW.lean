/- A part of the proofs of statements of this seat: contracts of functions, and the plain laws that they lean on. No conditions. -/
import Derived.Test.YtbimaodbcjjbfaaGreatDoorLib
import Derived.Shelf.SlSortCmp.NoneTotal
import Derived.Shelf.SlSortCmp.WholeK
import Derived.Test.YtbimaodbcjjbfaaGreatDoorProg
import Derived.KernelRfl
import Derived.Test.YtbimaodbcjjbfaaGreatDoorRunsZ
/- slices.SortFunc over owned slices: the kit's contract in this library's words. No conditions. -/
namespace Go.Sl
open Go.Proofs Go.Shelf Go.RowKit Go.Lib Go.Sort
set_option linter.unusedVariables false
set_option linter.unusedSimpArgs false

section
variable {α : Type} [Enc α] [Inhabited α]
theorem flat_cells (d : Array α) : flatK Enc.enc (Enc.sz α) d = (cells d.toList).toArray := by
  apply Array.ext
  · simp [cells_length]
  · intro t h1 h2
    have h1' : t < d.size * Enc.sz α := by simpa using h1
    have hpos : 0 < Enc.sz α := Enc.pos
    have hi : t / Enc.sz α < d.size := Nat.div_lt_of_lt_mul (by rw [Nat.mul_comm]; exact h1')
    have hj : t % Enc.sz α < Enc.sz α := Nat.mod_lt _ hpos
    have e1 : t = t / Enc.sz α * Enc.sz α + t % Enc.sz α := by rw [Nat.mul_comm]; exact (Nat.div_add_mod t (Enc.sz α)).symm
    have e2 := cells_get d.toList (t / Enc.sz α) (t % Enc.sz α) (by simpa using hi) hj
    rw [← e1] at e2
    have e3 : (cells d.toList)[t]? = some ((cells d.toList)[t]'(by simpa using h2)) := List.getElem?_eq_getElem _
    rw [e3] at e2
    have hlen : t % Enc.sz α < (Enc.enc (d.toList[t / Enc.sz α]'(by simpa using hi))).length := by rw [Enc.len]; exact hj
    rw [List.getElem?_eq_getElem hlen] at e2
    have e4 := Option.some.inj e2
    simp only [List.getElem_toArray]
    rw [e4]
    simp [flatK, getElem!_pos, hi, Enc.len, hj]

theorem sort_base {P : Program} {ρ : Ren} {κ : Ctx} {I : List Item} (L : SlLaysF0.n6 P ρ) (aE : ∀ w, (isAgg (ρ.t 24)).run P w = .ok true w) (zE : ∀ w, (Go.sizeOf (ρ.t 24)).run P w = .ok (Enc.sz α) w) (cf : α → α → Int) (hO : SWO (ltOf cf)) (g : Nat) (cb : Array Value)
    (eg : ∀ args w, (callFunc g args).run P w = .ok (.enter g args) w) (hcmp : ∀ (x y : α) (W : World), Calls P g (#[.agg (Enc.enc x).toArray, .agg (Enc.enc y).toArray] ++ cb) W fun e w' => e = .returned (.int .i64 (cf x y)) ∧ ∃ q os', w' = grow (W.drewN q) os')
    {e : TypeId} {ad : Option Addr} {c : Nat} {xs : List α} (hc : 0 < c) (hsz : xs.length < 4611686018427387904) :
    CallS P κ (ρ.f 6) [.slice ad xs.length c, .func (.func g) #[] cb] (vc e (.slice ad xs.length c) xs :: I) fun r J => ∃ ys : List α, (r = .tuple #[] ∧ ys.Perm xs ∧ ys.Pairwise fun a b => ltOf cf b a = false) ∧ J = [] ++ vc e (.slice ad ys.length c) ys :: I := by
  intro w hs
  obtain ⟨hok, _⟩ := hs.ok _ List.mem_cons_self
  obtain ⟨a', cap', hv, hl, hnc, hcm, hcap⟩ := hok
  cases hv
  obtain ⟨b, off, cur, rfl, hb, hsize, hcur⟩ := hcap hc
  have hbw : b < w.heap.size := (Array.getElem?_eq_some_iff.1 hb).1
  have hcl := cells_length xs
  have hle : xs.length * Enc.sz α ≤ c * Enc.sz α := Nat.mul_le_mul_right _ hnc
  have hH : HoldsK Enc.enc (Enc.sz α) w b off xs.toArray := fun j hj => by
    rw [flat_cells] at hj ⊢
    have hj' : j < (cells xs).length := by simpa using hj
    have h1 := hcur j ((cells xs)[j]) (List.getElem?_eq_getElem hj')
    refine ⟨?_, by simp [World.frozen?, hb]⟩
    rw [cell_of_row w b (off + j) cur e (0, 0) hb, h1]
    simp [getElem!_pos, hj']
  have h := AnyQ.slices_SortFunc L (Enc.sz α) aE zE Enc.enc Enc.len Enc.one cf hO g cb b off c xs.toArray w eg (fun m os dk _ x y => hcmp x y _) hH hbw (by simpa using hsz)
  refine Calls.mono h ?_
  rintro e' w' ⟨rfl, d', n, os, ⟨hs1, _, hperm⟩, hsort, rfl⟩
  have hs1' : d'.size = xs.length := by simpa using hs1
  have hperm' : d'.toList.Perm xs := by
    have e1 : d'.extract 0 xs.toArray.size = d' := by rw [← hs1]; simp
    have e2 : xs.toArray.extract 0 xs.toArray.size = xs.toArray := by simp
    rw [e1, e2] at hperm
    exact hperm
  have hlen : d'.toList.length = xs.length := by simpa using hs1'
  refine ⟨_, _, rfl, ⟨d'.toList, ⟨rfl, hperm', ?_⟩, rfl⟩, ?_⟩
  · rw [List.pairwise_iff_getElem]
    intro i j hi hj hij
    have := hsort i j (Nat.zero_le _) hij (by simpa [hs1'] using hj)
    simp only [Array.length_toList] at hi hj
    rw [getElem!_pos d' i hi, getElem!_pos d' j hj] at this
    simpa using this
  · show Sep κ _ (vc e (.slice (some ⟨b, off, none⟩) d'.toList.length c) d'.toList :: I)
    refine hs.upd (At.head _ _ _) rfl ⟨rfl, by simp [sortWorldK, putRowK, Sort.grow]⟩ rfl (by simp [sortWorldK, putRowK]) (fun k hk hne => ?_) ?_ fun k hk => .inl ?_
    · have hkb : k ≠ b := fun ekb => hne (by subst ekb; exact ⟨off, xs.length, c, rfl, hc⟩)
      simp only [sortWorldK, Sort.grow, putRowK, putRow, mapBlock]
      rw [Array.getElem?_append_left (by simpa using hk), Array.getElem?_modify, if_neg (fun e => hkb e.symm)]
      rfl
    · refine ⟨_, c, rfl, cells_length _, by rw [hlen]; exact hnc, hcm, fun _ => ⟨b, off, putCells id off (flatK Enc.enc (Enc.sz α) d') cur, rfl, ?_, ?_, fun j u hj => ?_⟩⟩
      · simp only [sortWorldK, Sort.grow, putRowK, putRow, mapBlock]
        rw [Array.getElem?_append_left (by simpa using hbw), Array.getElem?_modify, if_pos rfl]
        show (w.heap[b]?).map _ = _
        rw [hb]; rfl
      · simpa [putCells] using hsize
      · have hj' : j < (cells d'.toList).length := (List.getElem?_eq_some_iff.1 hj).1
        have hj2 : j < xs.length * Enc.sz α := by rw [cells_length, hlen] at hj'; exact hj'
        have hoff : off + j < cur.size := by omega
        rw [flat_cells]
        simp only [putCells, Array.getElem?_mapIdx, Array.getElem?_eq_getElem hoff, Option.map_some]
        rw [if_pos ⟨by omega, by simpa using hj'⟩, Nat.add_sub_cancel_left]
        rw [List.getElem?_eq_getElem hj'] at hj
        simpa [getElem!_pos, hj'] using hj
    · obtain ⟨o', n', c', hv', hc'⟩ := hk
      cases hv'
      exact ⟨off, xs.length, c, rfl, hc⟩
/-- .. of none too. -/
theorem sort_any {P : Program} {ρ : Ren} {κ : Ctx} {I : List Item} (L : SlLaysF0.n6 P ρ) (aE : ∀ w, (isAgg (ρ.t 24)).run P w = .ok true w) (zE : ∀ w, (Go.sizeOf (ρ.t 24)).run P w = .ok (Enc.sz α) w) (cf : α → α → Int) (hO : SWO (ltOf cf)) (g : Nat) (cb : Array Value)
    (eg : ∀ args w, (callFunc g args).run P w = .ok (.enter g args) w) (hcmp : ∀ (x y : α) (W : World), Calls P g (#[.agg (Enc.enc x).toArray, .agg (Enc.enc y).toArray] ++ cb) W fun e w' => e = .returned (.int .i64 (cf x y)) ∧ ∃ q os', w' = grow (W.drewN q) os')
    {e : TypeId} {ad : Option Addr} {c : Nat} {xs : List α} (hsz : xs.length < 4611686018427387904) :
    CallS P κ (ρ.f 6) [.slice ad xs.length c, .func (.func g) #[] cb] (vc e (.slice ad xs.length c) xs :: I) fun r J => ∃ ys : List α, (r = .tuple #[] ∧ ys.Perm xs ∧ ys.Pairwise fun a b => ltOf cf b a = false) ∧ J = [] ++ vc e (.slice ad ys.length c) ys :: I := by
  by_cases hc : 0 < c
  · exact sort_base L aE zE cf hO g cb eg hcmp hc hsz
  · intro w hs
    obtain ⟨hok, _⟩ := hs.ok _ List.mem_cons_self
    obtain ⟨a', cap', hv, hl, hnc, hcm, hcap⟩ := hok
    cases hv
    obtain rfl : xs = [] := List.eq_nil_of_length_eq_zero (by omega)
    refine Calls.mono (AnyF.slices_SortFunc_none L ad c _ w) ?_
    rintro e' w' ⟨rfl, rfl⟩
    exact ⟨_, _, rfl, ⟨[], ⟨rfl, List.Perm.nil, List.Pairwise.nil⟩, rfl⟩, hs⟩
end
/-- A contract that leaves memory as it was, in the words of the kit's sort. -/
theorem lays_of {P : Program} {f : FuncId} {args : List Value} {v : Value} {W : World} (h : CallS P ⟨W.os, W.tape, W.output, W.drawn⟩ f args [old W.heap.size W] fun r J => r = v ∧ [old W.heap.size W] = J) :
    Calls P f args.toArray W fun e w' => e = .returned v ∧ ∃ q os', w' = Sort.grow (W.drewN q) os' := (h W (Sep.begin W)).mono fun e w' ⟨r, J, he, ⟨hv, hJ⟩, hs⟩ => by
  subst hv hJ
  refine ⟨he, w'.drawn - W.drawn, w'.heap.extract W.heap.size w'.heap.size, ?_⟩
  have hb := hs.below List.mem_cons_self
  have hok : ∀ k, k < W.heap.size → w'.heap[k]? = W.heap[k]? := (hs.ok _ List.mem_cons_self).1
  have hd := hs.tape.2
  have hheap : w'.heap = W.heap ++ w'.heap.extract W.heap.size w'.heap.size := by
    apply Array.ext_getElem?
    intro k
    by_cases hk : k < W.heap.size
    · rw [Array.getElem?_append_left hk]; exact hok k hk
    · rw [Array.getElem?_append_right (by omega), Array.getElem?_extract]
      have hsz := hb.size
      by_cases hk2 : k < w'.heap.size
      · rw [if_pos (by omega)]; congr 1; omega
      · rw [Array.getElem?_eq_none (by omega)]
        split
        · omega
        · rfl
  have e : W.drawn + (w'.drawn - W.drawn) = w'.drawn := by have : W.drawn ≤ w'.drawn := hd; omega
  have hos : w'.os = W.os := hs.os
  have htp : w'.tape = W.tape := hs.tape.1
  have hou : w'.output = W.output := hs.output
  obtain ⟨heap', tape', drawn', os', out'⟩ := w'
  simp only [Sort.grow, World.drewN] at *
  subst hos htp hou
  rw [e, ← hheap]
end Go.Sl
namespace Go.Proofs
def Tryz.sort70_ren : Go.Shelf.Ren := ⟨fun | 6 => 70 | 15 => 120 | 14 => 119 | 28 => 147 | 29 => 148 | 20 => 139 | 21 => 140 | 22 => 141 | 23 => 142 | 24 => 143 | 25 => 144 | 26 => 145 | 27 => 146 | 46 => 167 | 47 => 168 | 48 => 169 | 49 => 170 | 50 => 171 | 57 => 178 | n => n, fun | 22 => 33 | 24 => 32 | 25 => 103 | 3 => 3 | 39 => 109 | 0 => 0 | 53 => 159 | 55 => 86 | 4 => 4 | 46 => 153 | 45 => 152 | 50 => 81 | 5 => 5 | 9 => 9 | 66 => 171 | 70 => 175 | 76 => 182 | 77 => 117 | n => n, fun | n => n⟩
theorem Tryz.sort70 : Go.Proofs.SlLaysF0.n6 Tryz.prog Tryz.sort70_ren := {
  mixed := by kernel_rfl,
  f6 := ⟨Tryz.f70.name, by decide, Tryz.func70.trans (congrArg some (by kernel_rfl))⟩,
  f14 := ⟨Tryz.f119.name, by decide, Tryz.func119.trans (congrArg some (by kernel_rfl))⟩,
  f15 := Tryz.func120.trans (congrArg some (by kernel_rfl)),
  f20 := ⟨Tryz.f139.name, by decide, Tryz.func139.trans (congrArg some (by kernel_rfl))⟩,
  f21 := ⟨Tryz.f140.name, by decide, Tryz.func140.trans (congrArg some (by kernel_rfl))⟩,
  f22 := ⟨Tryz.f141.name, by decide, Tryz.func141.trans (congrArg some (by kernel_rfl))⟩,
  f23 := ⟨Tryz.f142.name, by decide, Tryz.func142.trans (congrArg some (by kernel_rfl))⟩,
  f24 := ⟨Tryz.f143.name, by decide, Tryz.func143.trans (congrArg some (by kernel_rfl))⟩,
  f25 := ⟨Tryz.f144.name, by decide, Tryz.func144.trans (congrArg some (by kernel_rfl))⟩,
  f26 := ⟨Tryz.f145.name, by decide, Tryz.func145.trans (congrArg some (by kernel_rfl))⟩,
  f27 := ⟨Tryz.f146.name, by decide, Tryz.func146.trans (congrArg some (by kernel_rfl))⟩,
  f28 := Tryz.func147.trans (congrArg some (by kernel_rfl)),
  f29 := Tryz.func148.trans (congrArg some (by kernel_rfl)),
  f46 := ⟨Tryz.f167.name, by decide, Tryz.func167.trans (congrArg some (by kernel_rfl))⟩,
  f47 := Tryz.func168.trans (congrArg some (by kernel_rfl)),
  f48 := Tryz.func169.trans (congrArg some (by kernel_rfl)),
  f49 := ⟨Tryz.f170.name, by decide, Tryz.func170.trans (congrArg some (by kernel_rfl))⟩,
  f50 := ⟨Tryz.f171.name, by decide, Tryz.func171.trans (congrArg some (by kernel_rfl))⟩,
  f57 := ⟨Tryz.f178.name, by decide, Tryz.func178.trans (congrArg some (by kernel_rfl))⟩,
  t0 := Tryz.underlying0,
  a0 := Tryz.isAgg0,
  z0 := Tryz.sizeOf0,
  v0 := Tryz.zeroValue0,
  t3 := Tryz.underlying3,
  a3 := Tryz.isAgg3,
  z3 := Tryz.sizeOf3,
  v3 := Tryz.zeroValue3,
  t4 := Tryz.underlying4,
  a4 := Tryz.isAgg4,
  z4 := Tryz.sizeOf4,
  v4 := Tryz.zeroValue4,
  t5 := Tryz.underlying5,
  a5 := Tryz.isAgg5,
  z5 := Tryz.sizeOf5,
  v5 := Tryz.zeroValue5,
  t9 := Tryz.underlying9,
  a9 := Tryz.isAgg9,
  z9 := Tryz.sizeOf9,
  v9 := Tryz.zeroValue9,
  t22 := Tryz.underlying33,
  a22 := Tryz.isAgg33,
  z22 := Tryz.sizeOf33,
  v22 := Tryz.zeroValue33,
  t25 := Tryz.underlying103,
  a25 := Tryz.isAgg103,
  z25 := Tryz.sizeOf103,
  v25 := Tryz.zeroValue103,
  t39 := Tryz.underlying109,
  a39 := Tryz.isAgg109,
  z39 := Tryz.sizeOf109,
  v39 := Tryz.zeroValue109,
  t45 := Tryz.underlying152,
  a45 := Tryz.isAgg152,
  z45 := Tryz.sizeOf152,
  v45 := Tryz.zeroValue152,
  t46 := Tryz.underlying153,
  a46 := Tryz.isAgg153,
  z46 := Tryz.sizeOf153,
  v46 := Tryz.zeroValue153,
  t50 := Tryz.underlying81,
  a50 := Tryz.isAgg81,
  z50 := Tryz.sizeOf81,
  v50 := Tryz.zeroValue81,
  t53 := Tryz.underlying159,
  a53 := Tryz.isAgg159,
  z53 := Tryz.sizeOf159,
  v53 := Tryz.zeroValue159,
  t55 := Tryz.underlying86,
  a55 := Tryz.isAgg86,
  z55 := Tryz.sizeOf86,
  v55 := Tryz.zeroValue86,
  t66 := Tryz.underlying171,
  a66 := Tryz.isAgg171,
  z66 := Tryz.sizeOf171,
  v66 := Tryz.zeroValue171,
  t70 := Tryz.underlying175,
  a70 := Tryz.isAgg175,
  z70 := Tryz.sizeOf175,
  v70 := Tryz.zeroValue175,
  t76 := Tryz.underlying182,
  a76 := Tryz.isAgg182,
  z76 := Tryz.sizeOf182,
  v76 := Tryz.zeroValue182,
  t77 := Tryz.underlying117,
  a77 := Tryz.isAgg117,
  z77 := Tryz.sizeOf117,
  v77 := Tryz.zeroValue117 }
end Go.Proofs
namespace Go.Sl
open Go.Proofs
set_option linter.unusedVariables false
set_option linter.unusedSimpArgs false
set_option maxRecDepth 4000
open Go.Proofs Go.Shelf Go.Sort in
theorem swo_pt : SWO (ltOf Pt.cmp) where
  irrefl x := decide_eq_false fun h => Pt.lin.irr x ((Pt.cmp_lt _ _).1 h)
  trans x y z h1 h2 := decide_eq_true ((Pt.cmp_lt _ _).2 (Pt.lin.tr x y z ((Pt.cmp_lt _ _).1 (of_decide_eq_true h1)) ((Pt.cmp_lt _ _).1 (of_decide_eq_true h2))))
  ntrans x y z h1 h2 := decide_eq_false fun h => by
    have a := of_decide_eq_false h1
    have b := of_decide_eq_false h2
    rw [Pt.cmp_lt] at a b h
    unfold Pt.lt at a b h
    omega
end Go.Sl
namespace Go.Sl
open Go.Proofs
set_option linter.unusedVariables false
set_option linter.unusedSimpArgs false
set_option maxRecDepth 4000
end Go.Sl
namespace Go.Sl
open Go.Proofs
set_option linter.unusedVariables false
set_option linter.unusedSimpArgs false
set_option maxRecDepth 4000
end Go.Sl
