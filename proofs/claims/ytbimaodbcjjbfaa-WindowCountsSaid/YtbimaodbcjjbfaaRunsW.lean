/- A part of the proofs of statements of this seat: contracts of functions, and the plain laws that they lean on. No conditions. -/
import Derived.Test.YtbimaodbcjjbfaaLib
import Derived.Shelf.SlSortCmp.NoneTotal
import Derived.Shelf.SlSortCmp.WholeK
import Derived.Test.YtbimaodbcjjbfaaProg
import Derived.KernelRfl
import Derived.Test.YtbimaodbcjjbfaaRunsZ
/- slices.SortFunc over owned slices: the kit's contract in this library's words. No conditions. -/
namespace Go.Sl
open Go.Proofs Go.Shelf Go.RowKit Go.Lib Go.Sort
set_option linter.unusedVariables false
set_option linter.unusedSimpArgs false

section
variable {α : Type} [Enc α] [Inhabited α]
theorem flat_cells (d : Array α) : flatK Enc.enc (Enc.sz α) d = (cells d.toList).toArray := by
  apply Array.ext
  · simp [cells_length]
  · intro t h1 h2
    have h1' : t < d.size * Enc.sz α := by simpa using h1
    have hpos : 0 < Enc.sz α := Enc.pos
    have hi : t / Enc.sz α < d.size := Nat.div_lt_of_lt_mul (by rw [Nat.mul_comm]; exact h1')
    have hj : t % Enc.sz α < Enc.sz α := Nat.mod_lt _ hpos
    have e1 : t = t / Enc.sz α * Enc.sz α + t % Enc.sz α := by rw [Nat.mul_comm]; exact (Nat.div_add_mod t (Enc.sz α)).symm
    have e2 := cells_get d.toList (t / Enc.sz α) (t % Enc.sz α) (by simpa using hi) hj
    rw [← e1] at e2
    have e3 : (cells d.toList)[t]? = some ((cells d.toList)[t]'(by simpa using h2)) := List.getElem?_eq_getElem _
    rw [e3] at e2
    have hlen : t % Enc.sz α < (Enc.enc (d.toList[t / Enc.sz α]'(by simpa using hi))).length := by rw [Enc.len]; exact hj
    rw [List.getElem?_eq_getElem hlen] at e2
    have e4 := Option.some.inj e2
    simp only [List.getElem_toArray]
    rw [e4]
    simp [flatK, getElem!_pos, hi, Enc.len, hj]

theorem sort_base {P : Program} {ρ : Ren} {κ : Ctx} {I : List Item} (L : SlLaysF0.n6 P ρ) (aE : ∀ w, (isAgg (ρ.t 24)).run P w = .ok true w) (zE : ∀ w, (Go.sizeOf (ρ.t 24)).run P w = .ok (Enc.sz α) w) (cf : α → α → Int) (hO : SWO (ltOf cf)) (g : Nat) (cb : Array Value)
    (eg : ∀ args w, (callFunc g args).run P w = .ok (.enter g args) w) (hcmp : ∀ (x y : α) (W : World), Calls P g (#[.agg (Enc.enc x).toArray, .agg (Enc.enc y).toArray] ++ cb) W fun e w' => e = .returned (.int .i64 (cf x y)) ∧ ∃ q os', w' = grow (W.drewN q) os')
    {e : TypeId} {ad : Option Addr} {c : Nat} {xs : List α} (hc : 0 < c) (hsz : xs.length < 4611686018427387904) :
    CallS P κ (ρ.f 6) [.slice ad xs.length c, .func (.func g) #[] cb] (vc e (.slice ad xs.length c) xs :: I) fun r J => ∃ ys : List α, (r = .tuple #[] ∧ ys.Perm xs ∧ ys.Pairwise fun a b => ltOf cf b a = false) ∧ J = [] ++ vc e (.slice ad ys.length c) ys :: I := by
  intro w hs
  obtain ⟨hok, _⟩ := hs.ok _ List.mem_cons_self
  obtain ⟨a', cap', hv, hl, hnc, hcm, hcap⟩ := hok
  cases hv
  obtain ⟨b, off, cur, rfl, hb, hsize, hcur⟩ := hcap hc
  have hbw : b < w.heap.size := (Array.getElem?_eq_some_iff.1 hb).1
  have hcl := cells_length xs
  have hle : xs.length * Enc.sz α ≤ c * Enc.sz α := Nat.mul_le_mul_right _ hnc
  have hH : HoldsK Enc.enc (Enc.sz α) w b off xs.toArray := fun j hj => by
    rw [flat_cells] at hj ⊢
    have hj' : j < (cells xs).length := by simpa using hj
    have h1 := hcur j ((cells xs)[j]) (List.getElem?_eq_getElem hj')
    refine ⟨?_, by simp [World.frozen?, hb]⟩
    rw [cell_of_row w b (off + j) cur e (0, 0) hb, h1]
    simp [getElem!_pos, hj']
  have h := AnyQ.slices_SortFunc L (Enc.sz α) aE zE Enc.enc Enc.len Enc.one cf hO g cb b off c xs.toArray w eg (fun m os dk _ x y => hcmp x y _) hH hbw (by simpa using hsz)
  refine Calls.mono h ?_
  rintro e' w' ⟨rfl, d', n, os, ⟨hs1, _, hperm⟩, hsort, rfl⟩
  have hs1' : d'.size = xs.length := by simpa using hs1
  have hperm' : d'.toList.Perm xs := by
    have e1 : d'.extract 0 xs.toArray.size = d' := by rw [← hs1]; simp
    have e2 : xs.toArray.extract 0 xs.toArray.size = xs.toArray := by simp
    rw [e1, e2] at hperm
    exact hperm
  have hlen : d'.toList.length = xs.length := by simpa using hs1'
  refine ⟨_, _, rfl, ⟨d'.toList, ⟨rfl, hperm', ?_⟩, rfl⟩, ?_⟩
  · rw [List.pairwise_iff_getElem]
    intro i j hi hj hij
    have := hsort i j (Nat.zero_le _) hij (by simpa [hs1'] using hj)
    simp only [Array.length_toList] at hi hj
    rw [getElem!_pos d' i hi, getElem!_pos d' j hj] at this
    simpa using this
  · show Sep κ _ (vc e (.slice (some ⟨b, off, none⟩) d'.toList.length c) d'.toList :: I)
    refine hs.upd (At.head _ _ _) rfl ⟨rfl, by simp [sortWorldK, putRowK, Sort.grow]⟩ rfl (by simp [sortWorldK, putRowK]) (fun k hk hne => ?_) ?_ fun k hk => .inl ?_
    · have hkb : k ≠ b := fun ekb => hne (by subst ekb; exact ⟨off, xs.length, c, rfl, hc⟩)
      simp only [sortWorldK, Sort.grow, putRowK, putRow, mapBlock]
      rw [Array.getElem?_append_left (by simpa using hk), Array.getElem?_modify, if_neg (fun e => hkb e.symm)]
      rfl
    · refine ⟨_, c, rfl, cells_length _, by rw [hlen]; exact hnc, hcm, fun _ => ⟨b, off, putCells id off (flatK Enc.enc (Enc.sz α) d') cur, rfl, ?_, ?_, fun j u hj => ?_⟩⟩
      · simp only [sortWorldK, Sort.grow, putRowK, putRow, mapBlock]
        rw [Array.getElem?_append_left (by simpa using hbw), Array.getElem?_modify, if_pos rfl]
        show (w.heap[b]?).map _ = _
        rw [hb]; rfl
      · simpa [putCells] using hsize
      · have hj' : j < (cells d'.toList).length := (List.getElem?_eq_some_iff.1 hj).1
        have hj2 : j < xs.length * Enc.sz α := by rw [cells_length, hlen] at hj'; exact hj'
        have hoff : off + j < cur.size := by omega
        rw [flat_cells]
        simp only [putCells, Array.getElem?_mapIdx, Array.getElem?_eq_getElem hoff, Option.map_some]
        rw [if_pos ⟨by omega, by simpa using hj'⟩, Nat.add_sub_cancel_left]
        rw [List.getElem?_eq_getElem hj'] at hj
        simpa [getElem!_pos, hj'] using hj
    · obtain ⟨o', n', c', hv', hc'⟩ := hk
      cases hv'
      exact ⟨off, xs.length, c, rfl, hc⟩
/-- .. of none too. -/
theorem sort_any {P : Program} {ρ : Ren} {κ : Ctx} {I : List Item} (L : SlLaysF0.n6 P ρ) (aE : ∀ w, (isAgg (ρ.t 24)).run P w = .ok true w) (zE : ∀ w, (Go.sizeOf (ρ.t 24)).run P w = .ok (Enc.sz α) w) (cf : α → α → Int) (hO : SWO (ltOf cf)) (g : Nat) (cb : Array Value)
    (eg : ∀ args w, (callFunc g args).run P w = .ok (.enter g args) w) (hcmp : ∀ (x y : α) (W : World), Calls P g (#[.agg (Enc.enc x).toArray, .agg (Enc.enc y).toArray] ++ cb) W fun e w' => e = .returned (.int .i64 (cf x y)) ∧ ∃ q os', w' = grow (W.drewN q) os')
    {e : TypeId} {ad : Option Addr} {c : Nat} {xs : List α} (hsz : xs.length < 4611686018427387904) :
    CallS P κ (ρ.f 6) [.slice ad xs.length c, .func (.func g) #[] cb] (vc e (.slice ad xs.length c) xs :: I) fun r J => ∃ ys : List α, (r = .tuple #[] ∧ ys.Perm xs ∧ ys.Pairwise fun a b => ltOf cf b a = false) ∧ J = [] ++ vc e (.slice ad ys.length c) ys :: I := by
  by_cases hc : 0 < c
  · exact sort_base L aE zE cf hO g cb eg hcmp hc hsz
  · intro w hs
    obtain ⟨hok, _⟩ := hs.ok _ List.mem_cons_self
    obtain ⟨a', cap', hv, hl, hnc, hcm, hcap⟩ := hok
    cases hv
    obtain rfl : xs = [] := List.eq_nil_of_length_eq_zero (by omega)
    refine Calls.mono (AnyF.slices_SortFunc_none L ad c _ w) ?_
    rintro e' w' ⟨rfl, rfl⟩
    exact ⟨_, _, rfl, ⟨[], ⟨rfl, List.Perm.nil, List.Pairwise.nil⟩, rfl⟩, hs⟩
end
/-- A contract that leaves memory as it was, in the words of the kit's sort. -/
theorem lays_of {P : Program} {f : FuncId} {args : List Value} {v : Value} {W : World} (h : CallS P ⟨W.os, W.tape, W.output, W.drawn⟩ f args [old W.heap.size W] fun r J => r = v ∧ [old W.heap.size W] = J) :
    Calls P f args.toArray W fun e w' => e = .returned v ∧ ∃ q os', w' = Sort.grow (W.drewN q) os' := (h W (Sep.begin W)).mono fun e w' ⟨r, J, he, ⟨hv, hJ⟩, hs⟩ => by
  subst hv hJ
  refine ⟨he, w'.drawn - W.drawn, w'.heap.extract W.heap.size w'.heap.size, ?_⟩
  have hb := hs.below List.mem_cons_self
  have hok : ∀ k, k < W.heap.size → w'.heap[k]? = W.heap[k]? := (hs.ok _ List.mem_cons_self).1
  have hd := hs.tape.2
  have hheap : w'.heap = W.heap ++ w'.heap.extract W.heap.size w'.heap.size := by
    apply Array.ext_getElem?
    intro k
    by_cases hk : k < W.heap.size
    · rw [Array.getElem?_append_left hk]; exact hok k hk
    · rw [Array.getElem?_append_right (by omega), Array.getElem?_extract]
      have hsz := hb.size
      by_cases hk2 : k < w'.heap.size
      · rw [if_pos (by omega)]; congr 1; omega
      · rw [Array.getElem?_eq_none (by omega)]
        split
        · omega
        · rfl
  have e : W.drawn + (w'.drawn - W.drawn) = w'.drawn := by have : W.drawn ≤ w'.drawn := hd; omega
  have hos : w'.os = W.os := hs.os
  have htp : w'.tape = W.tape := hs.tape.1
  have hou : w'.output = W.output := hs.output
  obtain ⟨heap', tape', drawn', os', out'⟩ := w'
  simp only [Sort.grow, World.drewN] at *
  subst hos htp hou
  rw [e, ← hheap]
end Go.Sl
namespace Go.Proofs
def Try.sort220_ren : Go.Shelf.Ren := ⟨fun | 6 => 220 | 15 => 199 | 14 => 251 | 28 => 235 | 29 => 236 | 20 => 270 | 21 => 271 | 22 => 272 | 23 => 273 | 24 => 274 | 25 => 275 | 26 => 276 | 27 => 277 | 46 => 288 | 47 => 259 | 48 => 260 | 49 => 289 | 50 => 290 | 57 => 293 | n => n, fun | 22 => 69 | 24 => 158 | 25 => 219 | 3 => 3 | 39 => 230 | 0 => 0 | 53 => 259 | 55 => 209 | 4 => 4 | 46 => 253 | 45 => 252 | 50 => 169 | 5 => 5 | 9 => 9 | 66 => 273 | 70 => 277 | 76 => 292 | 77 => 293 | n => n, fun | n => n⟩
theorem Try.sort220 : Go.Proofs.SlLaysF0.n6 Try.prog Try.sort220_ren := {
  mixed := by kernel_rfl,
  f6 := ⟨Try.f220.name, by decide, Try.func220.trans (congrArg some (by kernel_rfl))⟩,
  f14 := ⟨Try.f251.name, by decide, Try.func251.trans (congrArg some (by kernel_rfl))⟩,
  f15 := Try.func199.trans (congrArg some (by kernel_rfl)),
  f20 := ⟨Try.f270.name, by decide, Try.func270.trans (congrArg some (by kernel_rfl))⟩,
  f21 := ⟨Try.f271.name, by decide, Try.func271.trans (congrArg some (by kernel_rfl))⟩,
  f22 := ⟨Try.f272.name, by decide, Try.func272.trans (congrArg some (by kernel_rfl))⟩,
  f23 := ⟨Try.f273.name, by decide, Try.func273.trans (congrArg some (by kernel_rfl))⟩,
  f24 := ⟨Try.f274.name, by decide, Try.func274.trans (congrArg some (by kernel_rfl))⟩,
  f25 := ⟨Try.f275.name, by decide, Try.func275.trans (congrArg some (by kernel_rfl))⟩,
  f26 := ⟨Try.f276.name, by decide, Try.func276.trans (congrArg some (by kernel_rfl))⟩,
  f27 := ⟨Try.f277.name, by decide, Try.func277.trans (congrArg some (by kernel_rfl))⟩,
  f28 := Try.func235.trans (congrArg some (by kernel_rfl)),
  f29 := Try.func236.trans (congrArg some (by kernel_rfl)),
  f46 := ⟨Try.f288.name, by decide, Try.func288.trans (congrArg some (by kernel_rfl))⟩,
  f47 := Try.func259.trans (congrArg some (by kernel_rfl)),
  f48 := Try.func260.trans (congrArg some (by kernel_rfl)),
  f49 := ⟨Try.f289.name, by decide, Try.func289.trans (congrArg some (by kernel_rfl))⟩,
  f50 := ⟨Try.f290.name, by decide, Try.func290.trans (congrArg some (by kernel_rfl))⟩,
  f57 := ⟨Try.f293.name, by decide, Try.func293.trans (congrArg some (by kernel_rfl))⟩,
  t0 := Try.underlying0,
  a0 := Try.isAgg0,
  z0 := Try.sizeOf0,
  v0 := Try.zeroValue0,
  t3 := Try.underlying3,
  a3 := Try.isAgg3,
  z3 := Try.sizeOf3,
  v3 := Try.zeroValue3,
  t4 := Try.underlying4,
  a4 := Try.isAgg4,
  z4 := Try.sizeOf4,
  v4 := Try.zeroValue4,
  t5 := Try.underlying5,
  a5 := Try.isAgg5,
  z5 := Try.sizeOf5,
  v5 := Try.zeroValue5,
  t9 := Try.underlying9,
  a9 := Try.isAgg9,
  z9 := Try.sizeOf9,
  v9 := Try.zeroValue9,
  t22 := Try.underlying69,
  a22 := Try.isAgg69,
  z22 := Try.sizeOf69,
  v22 := Try.zeroValue69,
  t25 := Try.underlying219,
  a25 := Try.isAgg219,
  z25 := Try.sizeOf219,
  v25 := Try.zeroValue219,
  t39 := Try.underlying230,
  a39 := Try.isAgg230,
  z39 := Try.sizeOf230,
  v39 := Try.zeroValue230,
  t45 := Try.underlying252,
  a45 := Try.isAgg252,
  z45 := Try.sizeOf252,
  v45 := Try.zeroValue252,
  t46 := Try.underlying253,
  a46 := Try.isAgg253,
  z46 := Try.sizeOf253,
  v46 := Try.zeroValue253,
  t50 := Try.underlying169,
  a50 := Try.isAgg169,
  z50 := Try.sizeOf169,
  v50 := Try.zeroValue169,
  t53 := Try.underlying259,
  a53 := Try.isAgg259,
  z53 := Try.sizeOf259,
  v53 := Try.zeroValue259,
  t55 := Try.underlying209,
  a55 := Try.isAgg209,
  z55 := Try.sizeOf209,
  v55 := Try.zeroValue209,
  t66 := Try.underlying273,
  a66 := Try.isAgg273,
  z66 := Try.sizeOf273,
  v66 := Try.zeroValue273,
  t70 := Try.underlying277,
  a70 := Try.isAgg277,
  z70 := Try.sizeOf277,
  v70 := Try.zeroValue277,
  t76 := Try.underlying292,
  a76 := Try.isAgg292,
  z76 := Try.sizeOf292,
  v76 := Try.zeroValue292,
  t77 := Try.underlying293,
  a77 := Try.isAgg293,
  z77 := Try.sizeOf293,
  v77 := Try.zeroValue293 }
end Go.Proofs
namespace Go.Sl
open Go.Proofs
set_option linter.unusedVariables false
set_option linter.unusedSimpArgs false
set_option maxRecDepth 4000
end Go.Sl
namespace Go.Sl
open Go.Proofs
set_option linter.unusedVariables false
set_option linter.unusedSimpArgs false
set_option maxRecDepth 4000
end Go.Sl
namespace Go.Sl
open Go.Proofs
set_option linter.unusedVariables false
set_option linter.unusedSimpArgs false
set_option maxRecDepth 4000
end Go.Sl
