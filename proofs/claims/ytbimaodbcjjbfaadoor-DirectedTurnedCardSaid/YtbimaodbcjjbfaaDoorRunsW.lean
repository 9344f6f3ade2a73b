/- A part of the proofs of statements of this seat: contracts of functions, and the plain laws that they lean on. No conditions. -/
import Derived.Test.YtbimaodbcjjbfaaDoorLib
import Derived.Shelf.SlSortCmp.NoneTotal
import Derived.Shelf.SlSortCmp.WholeK
import Derived.Test.YtbimaodbcjjbfaaDoorProg
import Derived.KernelRfl
import Derived.Test.YtbimaodbcjjbfaaDoorRunsZ
/- slices.SortFunc over owned slices: the kit's contract in this library's words. No conditions. -/
namespace Go.Sl
open Go.Proofs Go.Shelf Go.RowKit Go.Lib Go.Sort
set_option linter.unusedVariables false
set_option linter.unusedSimpArgs false

section
variable {α : Type} [Enc α] [Inhabited α]
theorem flat_cells (d : Array α) : flatK Enc.enc (Enc.sz α) d = (cells d.toList).toArray := by
  apply Array.ext
  · simp [cells_length]
  · intro t h1 h2
    have h1' : t < d.size * Enc.sz α := by simpa using h1
    have hpos : 0 < Enc.sz α := Enc.pos
    have hi : t / Enc.sz α < d.size := Nat.div_lt_of_lt_mul (by rw [Nat.mul_comm]; exact h1')
    have hj : t % Enc.sz α < Enc.sz α := Nat.mod_lt _ hpos
    have e1 : t = t / Enc.sz α * Enc.sz α + t % Enc.sz α := by rw [Nat.mul_comm]; exact (Nat.div_add_mod t (Enc.sz α)).symm
    have e2 := cells_get d.toList (t / Enc.sz α) (t % Enc.sz α) (by simpa using hi) hj
    rw [← e1] at e2
    have e3 : (cells d.toList)[t]? = some ((cells d.toList)[t]'(by simpa using h2)) := List.getElem?_eq_getElem _
    rw [e3] at e2
    have hlen : t % Enc.sz α < (Enc.enc (d.toList[t / Enc.sz α]'(by simpa using hi))).length := by rw [Enc.len]; exact hj
    rw [List.getElem?_eq_getElem hlen] at e2
    have e4 := Option.some.inj e2
    simp only [List.getElem_toArray]
    rw [e4]
    simp [flatK, getElem!_pos, hi, Enc.len, hj]

theorem sort_base {P : Program} {ρ : Ren} {κ : Ctx} {I : List Item} (L : SlLaysF0.n6 P ρ) (aE : ∀ w, (isAgg (ρ.t 24)).run P w = .ok true w) (zE : ∀ w, (Go.sizeOf (ρ.t 24)).run P w = .ok (Enc.sz α) w) (cf : α → α → Int) (hO : SWO (ltOf cf)) (g : Nat) (cb : Array Value)
    (eg : ∀ args w, (callFunc g args).run P w = .ok (.enter g args) w) (hcmp : ∀ (x y : α) (W : World), Calls P g (#[.agg (Enc.enc x).toArray, .agg (Enc.enc y).toArray] ++ cb) W fun e w' => e = .returned (.int .i64 (cf x y)) ∧ ∃ q os', w' = grow (W.drewN q) os')
    {e : TypeId} {ad : Option Addr} {c : Nat} {xs : List α} (hc : 0 < c) (hsz : xs.length < 4611686018427387904) :
    CallS P κ (ρ.f 6) [.slice ad xs.length c, .func (.func g) #[] cb] (vc e (.slice ad xs.length c) xs :: I) fun r J => ∃ ys : List α, (r = .tuple #[] ∧ ys.Perm xs ∧ ys.Pairwise fun a b => ltOf cf b a = false) ∧ J = [] ++ vc e (.slice ad ys.length c) ys :: I := by
  intro w hs
  obtain ⟨hok, _⟩ := hs.ok _ List.mem_cons_self
  obtain ⟨a', cap', hv, hl, hnc, hcm, hcap⟩ := hok
  cases hv
  obtain ⟨b, off, cur, rfl, hb, hsize, hcur⟩ := hcap hc
  have hbw : b < w.heap.size := (Array.getElem?_eq_some_iff.1 hb).1
  have hcl := cells_length xs
  have hle : xs.length * Enc.sz α ≤ c * Enc.sz α := Nat.mul_le_mul_right _ hnc
  have hH : HoldsK Enc.enc (Enc.sz α) w b off xs.toArray := fun j hj => by
    rw [flat_cells] at hj ⊢
    have hj' : j < (cells xs).length := by simpa using hj
    have h1 := hcur j ((cells xs)[j]) (List.getElem?_eq_getElem hj')
    refine ⟨?_, by simp [World.frozen?, hb]⟩
    rw [cell_of_row w b (off + j) cur e (0, 0) hb, h1]
    simp [getElem!_pos, hj']
  have h := AnyQ.slices_SortFunc L (Enc.sz α) aE zE Enc.enc Enc.len Enc.one cf hO g cb b off c xs.toArray w eg (fun m os dk _ x y => hcmp x y _) hH hbw (by simpa using hsz)
  refine Calls.mono h ?_
  rintro e' w' ⟨rfl, d', n, os, ⟨hs1, _, hperm⟩, hsort, rfl⟩
  have hs1' : d'.size = xs.length := by simpa using hs1
  have hperm' : d'.toList.Perm xs := by
    have e1 : d'.extract 0 xs.toArray.size = d' := by rw [← hs1]; simp
    have e2 : xs.toArray.extract 0 xs.toArray.size = xs.toArray := by simp
    rw [e1, e2] at hperm
    exact hperm
  have hlen : d'.toList.length = xs.length := by simpa using hs1'
  refine ⟨_, _, rfl, ⟨d'.toList, ⟨rfl, hperm', ?_⟩, rfl⟩, ?_⟩
  · rw [List.pairwise_iff_getElem]
    intro i j hi hj hij
    have := hsort i j (Nat.zero_le _) hij (by simpa [hs1'] using hj)
    simp only [Array.length_toList] at hi hj
    rw [getElem!_pos d' i hi, getElem!_pos d' j hj] at this
    simpa using this
  · show Sep κ _ (vc e (.slice (some ⟨b, off, none⟩) d'.toList.length c) d'.toList :: I)
    refine hs.upd (At.head _ _ _) rfl ⟨rfl, by simp [sortWorldK, putRowK, Sort.grow]⟩ rfl (by simp [sortWorldK, putRowK]) (fun k hk hne => ?_) ?_ fun k hk => .inl ?_
    · have hkb : k ≠ b := fun ekb => hne (by subst ekb; exact ⟨off, xs.length, c, rfl, hc⟩)
      simp only [sortWorldK, Sort.grow, putRowK, putRow, mapBlock]
      rw [Array.getElem?_append_left (by simpa using hk), Array.getElem?_modify, if_neg (fun e => hkb e.symm)]
      rfl
    · refine ⟨_, c, rfl, cells_length _, by rw [hlen]; exact hnc, hcm, fun _ => ⟨b, off, putCells id off (flatK Enc.enc (Enc.sz α) d') cur, rfl, ?_, ?_, fun j u hj => ?_⟩⟩
      · simp only [sortWorldK, Sort.grow, putRowK, putRow, mapBlock]
        rw [Array.getElem?_append_left (by simpa using hbw), Array.getElem?_modify, if_pos rfl]
        show (w.heap[b]?).map _ = _
        rw [hb]; rfl
      · simpa [putCells] using hsize
      · have hj' : j < (cells d'.toList).length := (List.getElem?_eq_some_iff.1 hj).1
        have hj2 : j < xs.length * Enc.sz α := by rw [cells_length, hlen] at hj'; exact hj'
        have hoff : off + j < cur.size := by omega
        rw [flat_cells]
        simp only [putCells, Array.getElem?_mapIdx, Array.getElem?_eq_getElem hoff, Option.map_some]
        rw [if_pos ⟨by omega, by simpa using hj'⟩, Nat.add_sub_cancel_left]
        rw [List.getElem?_eq_getElem hj'] at hj
        simpa [getElem!_pos, hj'] using hj
    · obtain ⟨o', n', c', hv', hc'⟩ := hk
      cases hv'
      exact ⟨off, xs.length, c, rfl, hc⟩
/-- .. of none too. -/
theorem sort_any {P : Program} {ρ : Ren} {κ : Ctx} {I : List Item} (L : SlLaysF0.n6 P ρ) (aE : ∀ w, (isAgg (ρ.t 24)).run P w = .ok true w) (zE : ∀ w, (Go.sizeOf (ρ.t 24)).run P w = .ok (Enc.sz α) w) (cf : α → α → Int) (hO : SWO (ltOf cf)) (g : Nat) (cb : Array Value)
    (eg : ∀ args w, (callFunc g args).run P w = .ok (.enter g args) w) (hcmp : ∀ (x y : α) (W : World), Calls P g (#[.agg (Enc.enc x).toArray, .agg (Enc.enc y).toArray] ++ cb) W fun e w' => e = .returned (.int .i64 (cf x y)) ∧ ∃ q os', w' = grow (W.drewN q) os')
    {e : TypeId} {ad : Option Addr} {c : Nat} {xs : List α} (hsz : xs.length < 4611686018427387904) :
    CallS P κ (ρ.f 6) [.slice ad xs.length c, .func (.func g) #[] cb] (vc e (.slice ad xs.length c) xs :: I) fun r J => ∃ ys : List α, (r = .tuple #[] ∧ ys.Perm xs ∧ ys.Pairwise fun a b => ltOf cf b a = false) ∧ J = [] ++ vc e (.slice ad ys.length c) ys :: I := by
  by_cases hc : 0 < c
  · exact sort_base L aE zE cf hO g cb eg hcmp hc hsz
  · intro w hs
    obtain ⟨hok, _⟩ := hs.ok _ List.mem_cons_self
    obtain ⟨a', cap', hv, hl, hnc, hcm, hcap⟩ := hok
    cases hv
    obtain rfl : xs = [] := List.eq_nil_of_length_eq_zero (by omega)
    refine Calls.mono (AnyF.slices_SortFunc_none L ad c _ w) ?_
    rintro e' w' ⟨rfl, rfl⟩
    exact ⟨_, _, rfl, ⟨[], ⟨rfl, List.Perm.nil, List.Pairwise.nil⟩, rfl⟩, hs⟩
end
/-- A contract that leaves memory as it was, in the words of the kit's sort. -/
theorem lays_of {P : Program} {f : FuncId} {args : List Value} {v : Value} {W : World} (h : CallS P ⟨W.os, W.tape, W.output, W.drawn⟩ f args [old W.heap.size W] fun r J => r = v ∧ [old W.heap.size W] = J) :
    Calls P f args.toArray W fun e w' => e = .returned v ∧ ∃ q os', w' = Sort.grow (W.drewN q) os' := (h W (Sep.begin W)).mono fun e w' ⟨r, J, he, ⟨hv, hJ⟩, hs⟩ => by
  subst hv hJ
  refine ⟨he, w'.drawn - W.drawn, w'.heap.extract W.heap.size w'.heap.size, ?_⟩
  have hb := hs.below List.mem_cons_self
  have hok : ∀ k, k < W.heap.size → w'.heap[k]? = W.heap[k]? := (hs.ok _ List.mem_cons_self).1
  have hd := hs.tape.2
  have hheap : w'.heap = W.heap ++ w'.heap.extract W.heap.size w'.heap.size := by
    apply Array.ext_getElem?
    intro k
    by_cases hk : k < W.heap.size
    · rw [Array.getElem?_append_left hk]; exact hok k hk
    · rw [Array.getElem?_append_right (by omega), Array.getElem?_extract]
      have hsz := hb.size
      by_cases hk2 : k < w'.heap.size
      · rw [if_pos (by omega)]; congr 1; omega
      · rw [Array.getElem?_eq_none (by omega)]
        split
        · omega
        · rfl
  have e : W.drawn + (w'.drawn - W.drawn) = w'.drawn := by have : W.drawn ≤ w'.drawn := hd; omega
  have hos : w'.os = W.os := hs.os
  have htp : w'.tape = W.tape := hs.tape.1
  have hou : w'.output = W.output := hs.output
  obtain ⟨heap', tape', drawn', os', out'⟩ := w'
  simp only [Sort.grow, World.drewN] at *
  subst hos htp hou
  rw [e, ← hheap]
end Go.Sl
namespace Go.Proofs
def Tryd.sort104_ren : Go.Shelf.Ren := ⟨fun | 6 => 104 | 15 => 138 | 14 => 137 | 28 => 164 | 29 => 165 | 20 => 156 | 21 => 157 | 22 => 158 | 23 => 159 | 24 => 160 | 25 => 161 | 26 => 162 | 27 => 163 | 46 => 196 | 47 => 197 | 48 => 198 | 49 => 199 | 50 => 200 | 57 => 217 | n => n, fun | 22 => 64 | 24 => 63 | 25 => 138 | 3 => 3 | 39 => 173 | 0 => 0 | 53 => 208 | 55 => 99 | 4 => 4 | 46 => 201 | 45 => 200 | 50 => 205 | 5 => 5 | 9 => 9 | 66 => 230 | 70 => 234 | 76 => 248 | 77 => 249 | n => n, fun | n => n⟩
theorem Tryd.sort104 : Go.Proofs.SlLaysF0.n6 Tryd.prog Tryd.sort104_ren := {
  mixed := by kernel_rfl,
  f6 := ⟨Tryd.f104.name, by decide, Tryd.func104.trans (congrArg some (by kernel_rfl))⟩,
  f14 := ⟨Tryd.f137.name, by decide, Tryd.func137.trans (congrArg some (by kernel_rfl))⟩,
  f15 := Tryd.func138.trans (congrArg some (by kernel_rfl)),
  f20 := ⟨Tryd.f156.name, by decide, Tryd.func156.trans (congrArg some (by kernel_rfl))⟩,
  f21 := ⟨Tryd.f157.name, by decide, Tryd.func157.trans (congrArg some (by kernel_rfl))⟩,
  f22 := ⟨Tryd.f158.name, by decide, Tryd.func158.trans (congrArg some (by kernel_rfl))⟩,
  f23 := ⟨Tryd.f159.name, by decide, Tryd.func159.trans (congrArg some (by kernel_rfl))⟩,
  f24 := ⟨Tryd.f160.name, by decide, Tryd.func160.trans (congrArg some (by kernel_rfl))⟩,
  f25 := ⟨Tryd.f161.name, by decide, Tryd.func161.trans (congrArg some (by kernel_rfl))⟩,
  f26 := ⟨Tryd.f162.name, by decide, Tryd.func162.trans (congrArg some (by kernel_rfl))⟩,
  f27 := ⟨Tryd.f163.name, by decide, Tryd.func163.trans (congrArg some (by kernel_rfl))⟩,
  f28 := Tryd.func164.trans (congrArg some (by kernel_rfl)),
  f29 := Tryd.func165.trans (congrArg some (by kernel_rfl)),
  f46 := ⟨Tryd.f196.name, by decide, Tryd.func196.trans (congrArg some (by kernel_rfl))⟩,
  f47 := Tryd.func197.trans (congrArg some (by kernel_rfl)),
  f48 := Tryd.func198.trans (congrArg some (by kernel_rfl)),
  f49 := ⟨Tryd.f199.name, by decide, Tryd.func199.trans (congrArg some (by kernel_rfl))⟩,
  f50 := ⟨Tryd.f200.name, by decide, Tryd.func200.trans (congrArg some (by kernel_rfl))⟩,
  f57 := ⟨Tryd.f217.name, by decide, Tryd.func217.trans (congrArg some (by kernel_rfl))⟩,
  t0 := Tryd.underlying0,
  a0 := Tryd.isAgg0,
  z0 := Tryd.sizeOf0,
  v0 := Tryd.zeroValue0,
  t3 := Tryd.underlying3,
  a3 := Tryd.isAgg3,
  z3 := Tryd.sizeOf3,
  v3 := Tryd.zeroValue3,
  t4 := Tryd.underlying4,
  a4 := Tryd.isAgg4,
  z4 := Tryd.sizeOf4,
  v4 := Tryd.zeroValue4,
  t5 := Tryd.underlying5,
  a5 := Tryd.isAgg5,
  z5 := Tryd.sizeOf5,
  v5 := Tryd.zeroValue5,
  t9 := Tryd.underlying9,
  a9 := Tryd.isAgg9,
  z9 := Tryd.sizeOf9,
  v9 := Tryd.zeroValue9,
  t22 := Tryd.underlying64,
  a22 := Tryd.isAgg64,
  z22 := Tryd.sizeOf64,
  v22 := Tryd.zeroValue64,
  t25 := Tryd.underlying138,
  a25 := Tryd.isAgg138,
  z25 := Tryd.sizeOf138,
  v25 := Tryd.zeroValue138,
  t39 := Tryd.underlying173,
  a39 := Tryd.isAgg173,
  z39 := Tryd.sizeOf173,
  v39 := Tryd.zeroValue173,
  t45 := Tryd.underlying200,
  a45 := Tryd.isAgg200,
  z45 := Tryd.sizeOf200,
  v45 := Tryd.zeroValue200,
  t46 := Tryd.underlying201,
  a46 := Tryd.isAgg201,
  z46 := Tryd.sizeOf201,
  v46 := Tryd.zeroValue201,
  t50 := Tryd.underlying205,
  a50 := Tryd.isAgg205,
  z50 := Tryd.sizeOf205,
  v50 := Tryd.zeroValue205,
  t53 := Tryd.underlying208,
  a53 := Tryd.isAgg208,
  z53 := Tryd.sizeOf208,
  v53 := Tryd.zeroValue208,
  t55 := Tryd.underlying99,
  a55 := Tryd.isAgg99,
  z55 := Tryd.sizeOf99,
  v55 := Tryd.zeroValue99,
  t66 := Tryd.underlying230,
  a66 := Tryd.isAgg230,
  z66 := Tryd.sizeOf230,
  v66 := Tryd.zeroValue230,
  t70 := Tryd.underlying234,
  a70 := Tryd.isAgg234,
  z70 := Tryd.sizeOf234,
  v70 := Tryd.zeroValue234,
  t76 := Tryd.underlying248,
  a76 := Tryd.isAgg248,
  z76 := Tryd.sizeOf248,
  v76 := Tryd.zeroValue248,
  t77 := Tryd.underlying249,
  a77 := Tryd.isAgg249,
  z77 := Tryd.sizeOf249,
  v77 := Tryd.zeroValue249 }
end Go.Proofs
namespace Go.Sl
open Go.Proofs
set_option linter.unusedVariables false
set_option linter.unusedSimpArgs false
set_option maxRecDepth 4000
open Go.Proofs Go.Shelf Go.Sort in
theorem swo_pt : SWO (ltOf Pt.cmp) where
  irrefl x := decide_eq_false fun h => Pt.lin.irr x ((Pt.cmp_lt _ _).1 h)
  trans x y z h1 h2 := decide_eq_true ((Pt.cmp_lt _ _).2 (Pt.lin.tr x y z ((Pt.cmp_lt _ _).1 (of_decide_eq_true h1)) ((Pt.cmp_lt _ _).1 (of_decide_eq_true h2))))
  ntrans x y z h1 h2 := decide_eq_false fun h => by
    have a := of_decide_eq_false h1
    have b := of_decide_eq_false h2
    rw [Pt.cmp_lt] at a b h
    unfold Pt.lt at a b h
    omega
end Go.Sl
namespace Go.Sl
open Go.Proofs
set_option linter.unusedVariables false
set_option linter.unusedSimpArgs false
set_option maxRecDepth 4000
end Go.Sl
namespace Go.Sl
open Go.Proofs
set_option linter.unusedVariables false
set_option linter.unusedSimpArgs false
set_option maxRecDepth 4000
end Go.Sl
