/- A part of the proofs of statements of this seat: contracts of functions, and the plain laws that they lean on. No conditions. -/
import Derived.Test.YtbimaodbcjjbfaaLib
import Derived.Shelf.SlSortCmp.NoneTotal
import Derived.Shelf.SlSortCmp.WholeK
import Derived.Test.YtbimaodbcjjbfaaProg
import Derived.KernelRfl
import Derived.Test.YtbimaodbcjjbfaaRunsZ
/- slices.SortFunc over owned slices: the kit's contract in this library's words. No conditions. -/
namespace Go.Sl
open Go.Proofs Go.Shelf Go.RowKit Go.Lib Go.Sort
set_option linter.unusedVariables false
set_option linter.unusedSimpArgs false

section
variable {α : Type} [Enc α] [Inhabited α]
theorem flat_cells (d : Array α) : flatK Enc.enc (Enc.sz α) d = (cells d.toList).toArray := by
  apply Array.ext
  · simp [cells_length]
  · intro t h1 h2
    have h1' : t < d.size * Enc.sz α := by simpa using h1
    have hpos : 0 < Enc.sz α := Enc.pos
    have hi : t / Enc.sz α < d.size := Nat.div_lt_of_lt_mul (by rw [Nat.mul_comm]; exact h1')
    have hj : t % Enc.sz α < Enc.sz α := Nat.mod_lt _ hpos
    have e1 : t = t / Enc.sz α * Enc.sz α + t % Enc.sz α := by rw [Nat.mul_comm]; exact (Nat.div_add_mod t (Enc.sz α)).symm
    have e2 := cells_get d.toList (t / Enc.sz α) (t % Enc.sz α) (by simpa using hi) hj
    rw [← e1] at e2
    have e3 : (cells d.toList)[t]? = some ((cells d.toList)[t]'(by simpa using h2)) := List.getElem?_eq_getElem _
    rw [e3] at e2
    have hlen : t % Enc.sz α < (Enc.enc (d.toList[t / Enc.sz α]'(by simpa using hi))).length := by rw [Enc.len]; exact hj
    rw [List.getElem?_eq_getElem hlen] at e2
    have e4 := Option.some.inj e2
    simp only [List.getElem_toArray]
    rw [e4]
    simp [flatK, getElem!_pos, hi, Enc.len, hj]

theorem sort_base {P : Program} {ρ : Ren} {κ : Ctx} {I : List Item} (L : SlLaysF0.n6 P ρ) (aE : ∀ w, (isAgg (ρ.t 24)).run P w = .ok true w) (zE : ∀ w, (Go.sizeOf (ρ.t 24)).run P w = .ok (Enc.sz α) w) (cf : α → α → Int) (hO : SWO (ltOf cf)) (g : Nat) (cb : Array Value)
    (eg : ∀ args w, (callFunc g args).run P w = .ok (.enter g args) w) (hcmp : ∀ (x y : α) (W : World), Calls P g (#[.agg (Enc.enc x).toArray, .agg (Enc.enc y).toArray] ++ cb) W fun e w' => e = .returned (.int .i64 (cf x y)) ∧ ∃ q os', w' = grow (W.drewN q) os')
    {e : TypeId} {ad : Option Addr} {c : Nat} {xs : List α} (hc : 0 < c) (hsz : xs.length < 4611686018427387904) :
    CallS P κ (ρ.f 6) [.slice ad xs.length c, .func (.func g) #[] cb] (vc e (.slice ad xs.length c) xs :: I) fun r J => ∃ ys : List α, (r = .tuple #[] ∧ ys.Perm xs ∧ ys.Pairwise fun a b => ltOf cf b a = false) ∧ J = [] ++ vc e (.slice ad ys.length c) ys :: I := by
  intro w hs
  obtain ⟨hok, _⟩ := hs.ok _ List.mem_cons_self
  obtain ⟨a', cap', hv, hl, hnc, hcm, hcap⟩ := hok
  cases hv
  obtain ⟨b, off, cur, rfl, hb, hsize, hcur⟩ := hcap hc
  have hbw : b < w.heap.size := (Array.getElem?_eq_some_iff.1 hb).1
  have hcl := cells_length xs
  have hle : xs.length * Enc.sz α ≤ c * Enc.sz α := Nat.mul_le_mul_right _ hnc
  have hH : HoldsK Enc.enc (Enc.sz α) w b off xs.toArray := fun j hj => by
    rw [flat_cells] at hj ⊢
    have hj' : j < (cells xs).length := by simpa using hj
    have h1 := hcur j ((cells xs)[j]) (List.getElem?_eq_getElem hj')
    refine ⟨?_, by simp [World.frozen?, hb]⟩
    rw [cell_of_row w b (off + j) cur e (0, 0) hb, h1]
    simp [getElem!_pos, hj']
  have h := AnyQ.slices_SortFunc L (Enc.sz α) aE zE Enc.enc Enc.len Enc.one cf hO g cb b off c xs.toArray w eg (fun m os dk _ x y => hcmp x y _) hH hbw (by simpa using hsz)
  refine Calls.mono h ?_
  rintro e' w' ⟨rfl, d', n, os, ⟨hs1, _, hperm⟩, hsort, rfl⟩
  have hs1' : d'.size = xs.length := by simpa using hs1
  have hperm' : d'.toList.Perm xs := by
    have e1 : d'.extract 0 xs.toArray.size = d' := by rw [← hs1]; simp
    have e2 : xs.toArray.extract 0 xs.toArray.size = xs.toArray := by simp
    rw [e1, e2] at hperm
    exact hperm
  have hlen : d'.toList.length = xs.length := by simpa using hs1'
  refine ⟨_, _, rfl, ⟨d'.toList, ⟨rfl, hperm', ?_⟩, rfl⟩, ?_⟩
  · rw [List.pairwise_iff_getElem]
    intro i j hi hj hij
    have := hsort i j (Nat.zero_le _) hij (by simpa [hs1'] using hj)
    simp only [Array.length_toList] at hi hj
    rw [getElem!_pos d' i hi, getElem!_pos d' j hj] at this
    simpa using this
  · show Sep κ _ (vc e (.slice (some ⟨b, off, none⟩) d'.toList.length c) d'.toList :: I)
    refine hs.upd (At.head _ _ _) rfl ⟨rfl, by simp [sortWorldK, putRowK, Sort.grow]⟩ rfl (by simp [sortWorldK, putRowK]) (fun k hk hne => ?_) ?_ fun k hk => .inl ?_
    · have hkb : k ≠ b := fun ekb => hne (by subst ekb; exact ⟨off, xs.length, c, rfl, hc⟩)
      simp only [sortWorldK, Sort.grow, putRowK, putRow, mapBlock]
      rw [Array.getElem?_append_left (by simpa using hk), Array.getElem?_modify, if_neg (fun e => hkb e.symm)]
      rfl
    · refine ⟨_, c, rfl, cells_length _, by rw [hlen]; exact hnc, hcm, fun _ => ⟨b, off, putCells id off (flatK Enc.enc (Enc.sz α) d') cur, rfl, ?_, ?_, fun j u hj => ?_⟩⟩
      · simp only [sortWorldK, Sort.grow, putRowK, putRow, mapBlock]
        rw [Array.getElem?_append_left (by simpa using hbw), Array.getElem?_modify, if_pos rfl]
        show (w.heap[b]?).map _ = _
        rw [hb]; rfl
      · simpa [putCells] using hsize
      · have hj' : j < (cells d'.toList).length := (List.getElem?_eq_some_iff.1 hj).1
        have hj2 : j < xs.length * Enc.sz α := by rw [cells_length, hlen] at hj'; exact hj'
        have hoff : off + j < cur.size := by omega
        rw [flat_cells]
        simp only [putCells, Array.getElem?_mapIdx, Array.getElem?_eq_getElem hoff, Option.map_some]
        rw [if_pos ⟨by omega, by simpa using hj'⟩, Nat.add_sub_cancel_left]
        rw [List.getElem?_eq_getElem hj'] at hj
        simpa [getElem!_pos, hj'] using hj
    · obtain ⟨o', n', c', hv', hc'⟩ := hk
      cases hv'
      exact ⟨off, xs.length, c, rfl, hc⟩
/-- .. of none too. -/
theorem sort_any {P : Program} {ρ : Ren} {κ : Ctx} {I : List Item} (L : SlLaysF0.n6 P ρ) (aE : ∀ w, (isAgg (ρ.t 24)).run P w = .ok true w) (zE : ∀ w, (Go.sizeOf (ρ.t 24)).run P w = .ok (Enc.sz α) w) (cf : α → α → Int) (hO : SWO (ltOf cf)) (g : Nat) (cb : Array Value)
    (eg : ∀ args w, (callFunc g args).run P w = .ok (.enter g args) w) (hcmp : ∀ (x y : α) (W : World), Calls P g (#[.agg (Enc.enc x).toArray, .agg (Enc.enc y).toArray] ++ cb) W fun e w' => e = .returned (.int .i64 (cf x y)) ∧ ∃ q os', w' = grow (W.drewN q) os')
    {e : TypeId} {ad : Option Addr} {c : Nat} {xs : List α} (hsz : xs.length < 4611686018427387904) :
    CallS P κ (ρ.f 6) [.slice ad xs.length c, .func (.func g) #[] cb] (vc e (.slice ad xs.length c) xs :: I) fun r J => ∃ ys : List α, (r = .tuple #[] ∧ ys.Perm xs ∧ ys.Pairwise fun a b => ltOf cf b a = false) ∧ J = [] ++ vc e (.slice ad ys.length c) ys :: I := by
  by_cases hc : 0 < c
  · exact sort_base L aE zE cf hO g cb eg hcmp hc hsz
  · intro w hs
    obtain ⟨hok, _⟩ := hs.ok _ List.mem_cons_self
    obtain ⟨a', cap', hv, hl, hnc, hcm, hcap⟩ := hok
    cases hv
    obtain rfl : xs = [] := List.eq_nil_of_length_eq_zero (by omega)
    refine Calls.mono (AnyF.slices_SortFunc_none L ad c _ w) ?_
    rintro e' w' ⟨rfl, rfl⟩
    exact ⟨_, _, rfl, ⟨[], ⟨rfl, List.Perm.nil, List.Pairwise.nil⟩, rfl⟩, hs⟩
end
/-- A contract that leaves memory as it was, in the words of the kit's sort. -/
theorem lays_of {P : Program} {f : FuncId} {args : List Value} {v : Value} {W : World} (h : CallS P ⟨W.os, W.tape, W.output, W.drawn⟩ f args [old W.heap.size W] fun r J => r = v ∧ [old W.heap.size W] = J) :
    Calls P f args.toArray W fun e w' => e = .returned v ∧ ∃ q os', w' = Sort.grow (W.drewN q) os' := (h W (Sep.begin W)).mono fun e w' ⟨r, J, he, ⟨hv, hJ⟩, hs⟩ => by
  subst hv hJ
  refine ⟨he, w'.drawn - W.drawn, w'.heap.extract W.heap.size w'.heap.size, ?_⟩
  have hb := hs.below List.mem_cons_self
  have hok : ∀ k, k < W.heap.size → w'.heap[k]? = W.heap[k]? := (hs.ok _ List.mem_cons_self).1
  have hd := hs.tape.2
  have hheap : w'.heap = W.heap ++ w'.heap.extract W.heap.size w'.heap.size := by
    apply Array.ext_getElem?
    intro k
    by_cases hk : k < W.heap.size
    · rw [Array.getElem?_append_left hk]; exact hok k hk
    · rw [Array.getElem?_append_right (by omega), Array.getElem?_extract]
      have hsz := hb.size
      by_cases hk2 : k < w'.heap.size
      · rw [if_pos (by omega)]; congr 1; omega
      · rw [Array.getElem?_eq_none (by omega)]
        split
        · omega
        · rfl
  have e : W.drawn + (w'.drawn - W.drawn) = w'.drawn := by have : W.drawn ≤ w'.drawn := hd; omega
  have hos : w'.os = W.os := hs.os
  have htp : w'.tape = W.tape := hs.tape.1
  have hou : w'.output = W.output := hs.output
  obtain ⟨heap', tape', drawn', os', out'⟩ := w'
  simp only [Sort.grow, World.drewN] at *
  subst hos htp hou
  rw [e, ← hheap]
end Go.Sl
namespace Go.Proofs
def Try.sort146_ren : Go.Shelf.Ren := ⟨fun | 6 => 146 | 15 => 199 | 14 => 201 | 28 => 235 | 29 => 236 | 20 => 237 | 21 => 238 | 22 => 239 | 23 => 240 | 24 => 241 | 25 => 242 | 26 => 243 | 27 => 244 | 46 => 263 | 47 => 259 | 48 => 260 | 49 => 264 | 50 => 265 | 57 => 285 | n => n, fun | 22 => 55 | 24 => 60 | 25 => 153 | 3 => 3 | 39 => 230 | 0 => 0 | 53 => 259 | 55 => 209 | 4 => 4 | 46 => 253 | 45 => 252 | 50 => 169 | 5 => 5 | 9 => 9 | 66 => 273 | 70 => 277 | 76 => 292 | 77 => 293 | n => n, fun | n => n⟩
theorem Try.sort146 : Go.Proofs.SlLaysF0.n6 Try.prog Try.sort146_ren := {
  mixed := by kernel_rfl,
  f6 := ⟨Try.f146.name, by decide, Try.func146.trans (congrArg some (by kernel_rfl))⟩,
  f14 := ⟨Try.f201.name, by decide, Try.func201.trans (congrArg some (by kernel_rfl))⟩,
  f15 := Try.func199.trans (congrArg some (by kernel_rfl)),
  f20 := ⟨Try.f237.name, by decide, Try.func237.trans (congrArg some (by kernel_rfl))⟩,
  f21 := ⟨Try.f238.name, by decide, Try.func238.trans (congrArg some (by kernel_rfl))⟩,
  f22 := ⟨Try.f239.name, by decide, Try.func239.trans (congrArg some (by kernel_rfl))⟩,
  f23 := ⟨Try.f240.name, by decide, Try.func240.trans (congrArg some (by kernel_rfl))⟩,
  f24 := ⟨Try.f241.name, by decide, Try.func241.trans (congrArg some (by kernel_rfl))⟩,
  f25 := ⟨Try.f242.name, by decide, Try.func242.trans (congrArg some (by kernel_rfl))⟩,
  f26 := ⟨Try.f243.name, by decide, Try.func243.trans (congrArg some (by kernel_rfl))⟩,
  f27 := ⟨Try.f244.name, by decide, Try.func244.trans (congrArg some (by kernel_rfl))⟩,
  f28 := Try.func235.trans (congrArg some (by kernel_rfl)),
  f29 := Try.func236.trans (congrArg some (by kernel_rfl)),
  f46 := ⟨Try.f263.name, by decide, Try.func263.trans (congrArg some (by kernel_rfl))⟩,
  f47 := Try.func259.trans (congrArg some (by kernel_rfl)),
  f48 := Try.func260.trans (congrArg some (by kernel_rfl)),
  f49 := ⟨Try.f264.name, by decide, Try.func264.trans (congrArg some (by kernel_rfl))⟩,
  f50 := ⟨Try.f265.name, by decide, Try.func265.trans (congrArg some (by kernel_rfl))⟩,
  f57 := ⟨Try.f285.name, by decide, Try.func285.trans (congrArg some (by kernel_rfl))⟩,
  t0 := Try.underlying0,
  a0 := Try.isAgg0,
  z0 := Try.sizeOf0,
  v0 := Try.zeroValue0,
  t3 := Try.underlying3,
  a3 := Try.isAgg3,
  z3 := Try.sizeOf3,
  v3 := Try.zeroValue3,
  t4 := Try.underlying4,
  a4 := Try.isAgg4,
  z4 := Try.sizeOf4,
  v4 := Try.zeroValue4,
  t5 := Try.underlying5,
  a5 := Try.isAgg5,
  z5 := Try.sizeOf5,
  v5 := Try.zeroValue5,
  t9 := Try.underlying9,
  a9 := Try.isAgg9,
  z9 := Try.sizeOf9,
  v9 := Try.zeroValue9,
  t22 := Try.underlying55,
  a22 := Try.isAgg55,
  z22 := Try.sizeOf55,
  v22 := Try.zeroValue55,
  t25 := Try.underlying153,
  a25 := Try.isAgg153,
  z25 := Try.sizeOf153,
  v25 := Try.zeroValue153,
  t39 := Try.underlying230,
  a39 := Try.isAgg230,
  z39 := Try.sizeOf230,
  v39 := Try.zeroValue230,
  t45 := Try.underlying252,
  a45 := Try.isAgg252,
  z45 := Try.sizeOf252,
  v45 := Try.zeroValue252,
  t46 := Try.underlying253,
  a46 := Try.isAgg253,
  z46 := Try.sizeOf253,
  v46 := Try.zeroValue253,
  t50 := Try.underlying169,
  a50 := Try.isAgg169,
  z50 := Try.sizeOf169,
  v50 := Try.zeroValue169,
  t53 := Try.underlying259,
  a53 := Try.isAgg259,
  z53 := Try.sizeOf259,
  v53 := Try.zeroValue259,
  t55 := Try.underlying209,
  a55 := Try.isAgg209,
  z55 := Try.sizeOf209,
  v55 := Try.zeroValue209,
  t66 := Try.underlying273,
  a66 := Try.isAgg273,
  z66 := Try.sizeOf273,
  v66 := Try.zeroValue273,
  t70 := Try.underlying277,
  a70 := Try.isAgg277,
  z70 := Try.sizeOf277,
  v70 := Try.zeroValue277,
  t76 := Try.underlying292,
  a76 := Try.isAgg292,
  z76 := Try.sizeOf292,
  v76 := Try.zeroValue292,
  t77 := Try.underlying293,
  a77 := Try.isAgg293,
  z77 := Try.sizeOf293,
  v77 := Try.zeroValue293 }
end Go.Proofs
namespace Go.Sl
open Go.Proofs
set_option linter.unusedVariables false
set_option linter.unusedSimpArgs false
set_option maxRecDepth 4000
open Go.Proofs Go.Shelf Go.Sort in
theorem swo_pt : SWO (ltOf Pt.cmp) where
  irrefl x := decide_eq_false fun h => Pt.lin.irr x ((Pt.cmp_lt _ _).1 h)
  trans x y z h1 h2 := decide_eq_true ((Pt.cmp_lt _ _).2 (Pt.lin.tr x y z ((Pt.cmp_lt _ _).1 (of_decide_eq_true h1)) ((Pt.cmp_lt _ _).1 (of_decide_eq_true h2))))
  ntrans x y z h1 h2 := decide_eq_false fun h => by
    have a := of_decide_eq_false h1
    have b := of_decide_eq_false h2
    rw [Pt.cmp_lt] at a b h
    unfold Pt.lt at a b h
    omega
open Go.Proofs Go.Shelf Go.Sort in
theorem SortR_ok {κ : Ctx} {I : List Item} {a : Option Addr} {c : Nat} {xs : List Pt} (hsz : xs.length < 1000000000) :
    CallS Try.prog κ 146 [.slice a xs.length c, .func (.func 111) #[] #[]] (vc 60 (.slice a xs.length c) xs :: I) fun r J => ∃ ys : List Pt, (r = .tuple #[] ∧ SortedP xs ys ∧ ys.length = xs.length) ∧ J = [] ++ vc 60 (.slice a xs.length c) ys :: I :=
  (sort_any (α := Pt) (ρ := Try.sort146_ren) Try.sort146 Try.isAgg60 Try.sizeOf60 Pt.cmp swo_pt 111 #[] (enters_of Try.func111 (by kernel_rfl) rfl) (fun x y W => lays_of (RCompare_ok x y)) (by omega)).mono fun r J ⟨ys, ⟨h1, h2, h3⟩, h4⟩ =>
    ⟨ys, ⟨h1, ⟨h2, h3.imp fun {a b} h => by rw [← Pt.cmp_lt]; exact of_decide_eq_false h⟩, h2.length_eq⟩, by rw [h4, h2.length_eq]⟩
theorem SortR_at {κ : Ctx} {I : List Item} {F : Item → List Item} {a : Option Addr} {c : Nat} {xs : List Pt} (hat : AtF I (vc 60 (.slice a xs.length c) xs) F) (hsz : xs.length < 1000000000) :
    CallS Try.prog κ 146 [.slice a xs.length c, .func (.func 111) #[] #[]] I fun r J => ∃ ys : List Pt, (r = .tuple #[] ∧ SortedP xs ys ∧ ys.length = xs.length) ∧ J = [] ++ F (vc 60 (.slice a xs.length c) ys) :=
  CallS.at (Z := fun _ => []) (X := fun ys : List Pt => vc 60 (.slice a xs.length c) ys) (Post := fun r ys => r = .tuple #[] ∧ SortedP xs ys ∧ ys.length = xs.length) hat fun J _ _ => SortR_ok hsz

theorem Order_ok {κ : Ctx} {I : List Item} (a c : Pt) :
    CallS Try.prog κ 135 [.agg #[I64 (a.u), I64 (a.v)], .agg #[I64 (c.u), I64 (c.v)]] I (fun r J => r = I64 (Pt.cmp a c) ∧ I = J) := by
 refine CallS.enter (L := [(0, .agg #[I64 (a.u), I64 (a.v)]), (1, .agg #[I64 (c.u), I64 (c.v)])]) Try.func135 rfl rfl rfl rfl ?_
 refine W.sr ?_
 refine G.e (Eff.box (cs := [_, _]) rfl rfl rfl) ?_
 rintro _ _ ⟨b1, rfl, rfl⟩
 refine G.e (Eff.box (cs := [_, _]) rfl rfl rfl) ?_
 rintro _ _ ⟨b2, rfl, rfl⟩
 refine G.r (Runs.assign rfl) ?_
 refine G.nt ?_
 refine W.seq ?_
 refine W.drawn mixed ?_
 refine A.hold (blk b2 [I64 (c.u), I64 (c.v)] 150 :: blk b1 [I64 (a.u), I64 (a.v)] 150 :: I) 12 ?_
 refine D.r 0 rfl (Runs.fieldAddr fld150_0 rfl) ?_
 refine D.r 1 rfl (Runs.ld ty3) ?_
 refine D.r 2 rfl (Runs.fieldAddr fld150_0 rfl) ?_
 refine D.r 3 rfl (Runs.ld ty3) ?_
 refine D.r 5 rfl (Runs.fieldAddr fld150_1 rfl) ?_
 refine D.r 6 rfl (Runs.ld ty3) ?_
 refine D.r 7 rfl (Runs.fieldAddr fld150_1 rfl) ?_
 refine D.r 8 rfl (Runs.ld ty3) ?_
 refine D.step (rs := [4]) (by kernel_rfl) rfl rfl (all1 ?_)
 refine Step.eff rfl (Wanted.plain rfl) (Eff.call call173 rfl rfl (Compare_ok a.u c.u)) ?_
 rintro _ _ ⟨_, _, ⟨rfl, rfl⟩, rfl, rfl⟩
 refine ⟨Fit.m, ?_⟩
 refine D.step (rs := [9]) (by kernel_rfl) rfl rfl (all1 ?_)
 refine Step.eff rfl (Wanted.plain rfl) (Eff.call call173 rfl rfl (Compare_ok a.v c.v)) ?_
 rintro _ _ ⟨_, _, ⟨rfl, rfl⟩, rfl, rfl⟩
 refine ⟨Fit.m, ?_⟩
 refine D.step (rs := [10]) (by kernel_rfl) rfl rfl (all1 ?_)
 refine Step.eff rfl (Wanted.plain rfl) (Eff.bs (α := Int) (cs := [_, _]) (xs := [cmpI a.u c.u, cmpI a.v c.v]) Try.underlying22 ty3 rfl rfl (by decide) (by decide) rfl rfl rfl rfl) ?_
 rintro _ _ ⟨ad3, rfl, rfl⟩
 refine ⟨Fit.m, ?_⟩
 refine D.step (rs := [11]) (by kernel_rfl) rfl rfl (all1 ?_)
 refine Step.eff rfl (Wanted.plain rfl) (Eff.call call172 rfl rfl (Or_ok Sl.o)) ?_
 rintro _ _ ⟨_, _, ⟨rfl, rfl⟩, rfl, rfl⟩
 refine ⟨Fit.m, ?_⟩
 refine D.stop (by kernel_rfl) ?_
 refine A.read (i := 12) (by kernel_rfl) rfl (Wanted.plain rfl) rfl rfl (Runs.assign rfl) ?_
 refine A.done (by kernel_rfl) ?_
 refine V.then ?_
 refine W.sub (L' := [(4, _)]) (Sub.cons rfl Sub.nil) ?_
 refine W.ret ?_
 exact V.ret1 rfl rfl (I) Fit.m ⟨by rw [← orL_cmp], rfl⟩

theorem CheckG_ok {κ : Ctx} {I : List Item} {nd : Int} {v : Value} {es : List Pt} (hl : Sl κ I v es) (hG : GrOk nd es) :
    CallS Try.prog κ 72 [.agg #[I64 (nd), v]] I (fun r J => r = I64 0 ∧ I = J) := by
 refine CallS.pull hl.le fun hmax => ?_
 refine CallS.enter (L := [(0, .agg #[I64 (nd), v])]) Try.func72 rfl rfl rfl rfl ?_
 refine W.sr ?_
 refine G.e (Eff.box (cs := [_, _]) rfl rfl rfl) ?_
 rintro _ _ ⟨b1, rfl, rfl⟩
 refine G.r (Runs.assign rfl) ?_
 refine G.nt ?_
 refine W.seq ?_
 refine W.sr ?_
 refine G.r (Runs.fieldAddr fld99_0 rfl) ?_
 refine G.r (Runs.ld ty3) ?_
 refine G.r (Runs.lss rfl rfl) ?_
 refine G.r (Runs.move rfl) ?_
 refine G.split (d := 8) rfl (fun g8 => ?_) (fun g8 => ?_)
 ·exact absurd hG.rng (by omega)
 ·refine G.ro (Runs.fieldAddr fld99_0 rfl) ?_
  refine G.ro (Runs.ld ty3) ?_
  refine G.ro (Runs.gtr rfl rfl) ?_
  refine G.r (Runs.pickf rfl rfl) ?_
  refine G.nt ?_
  refine W.ite rfl (fun c12 => ?_) (fun c12 => ?_)
  ·exact absurd hG.rng (by omega)
  ·refine W.skip ?_
   refine V.then ?_
   refine W.seq ?_
   refine W.sr ?_
   refine G.r (Runs.fieldAddr fld99_1 rfl) ?_
   refine G.r (Runs.ld ty97) ?_
   refine G.r (Runs.lenT (α := Pt) (xs := es) Try.underlying97 rfl (Sl.f hl)) ?_
   refine G.r (Runs.move rfl) ?_
   refine G.nt ?_
   refine W.sub (L' := [(16, _), (15, _), (14, _), (1, _)]) (Sub.cons rfl (Sub.cons rfl (Sub.cons rfl (Sub.cons rfl Sub.nil)))) ?_
   refine W.block ?_
   refine W.loop (σ := Nat) (fun s => ([(1, .pointer (some ⟨b1, 0, none⟩)), (14, v), (15, I64 (((es.length : Nat) : Int))), (16, I64 (((s : Nat) : Int)))] : Env)) (fun s => blk b1 [I64 (nd), v] 99 :: I) (fun s => (s ≤ es.length)) (fun s => es.length - s) (0) (show ((0 : Nat) ≤ es.length) from (by omega)) (Sub.cons rfl (Sub.cons rfl (Sub.cons rfl (Sub.cons lookO Sub.nil)))) (show Fit κ _ (blk b1 [I64 (nd), v] 99 :: I) from Fit.sub) ?_
   rintro k hp
   have hk : (k ≤ es.length) := hp
   show W Try.prog κ 54 _ _ ([(1, .pointer (some ⟨b1, 0, none⟩)), (14, v), (15, I64 (((es.length : Nat) : Int))), (16, I64 (((k : Nat) : Int)))] : Env) (blk b1 [I64 (nd), v] 99 :: I)
   refine W.sr ?_
   refine G.r (Runs.lss rfl rfl) ?_
   refine G.nt ?_
   refine W.seq ?_
   refine W.ite rfl (fun c17 => ?_) (fun c17 => ?_)
   ·refine W.skip ?_
    refine V.then ?_
    refine W.seq ?_
    refine W.block ?_
    refine W.sr ?_
    refine G.r (Runs.move rfl) ?_
    refine G.r (Runs.idx (α := Pt) (xs := es) Try.underlying97 ty150 rfl rfl (Sl.f hl) (by omega) (by omega)) ?_
    refine G.r (Runs.gets (α := Pt) (xs := es) ty150 rfl (Sl.f hl) (by omega) (by omega)) ?_
    refine G.e (Eff.alloc ty150 rfl) ?_
    rintro _ _ ⟨b2, rfl, rfl⟩
    refine G.r (Runs.assign rfl) ?_
    refine G.e (Eff.st (cs := [_, _]) (vs := [_, _]) (cs' := [_, _]) ty150) ?_
    rintro _ _ ⟨rfl, rfl⟩
    refine G.nt ?_
    refine W.block ?_
    refine W.sr ?_
    refine G.r (Runs.fieldAddr fld150_0 rfl) ?_
    refine G.r (Runs.ld ty3) ?_
    refine G.r (Runs.lss rfl rfl) ?_
    refine G.r (Runs.move rfl) ?_
    refine G.split (d := 25) rfl (fun g25 => ?_) (fun g25 => ?_)
    ·exact absurd (hG.at (k := k) (by omega)) (by omega)
    ·refine G.ro (Runs.fieldAddr fld150_0 rfl) ?_
     refine G.ro (Runs.ld ty3) ?_
     refine G.ro (Runs.fieldAddr fld150_1 rfl) ?_
     refine G.ro (Runs.ld ty3) ?_
     refine G.ro (Runs.geq rfl rfl) ?_
     refine G.r (Runs.pickf rfl rfl) ?_
     refine G.r (Runs.move rfl) ?_
     refine G.split (d := 32) rfl (fun g32 => ?_) (fun g32 => ?_)
     ·exact absurd (hG.at (k := k) (by omega)) (by omega)
     ·refine G.ro (Runs.fieldAddr fld150_1 rfl) ?_
      refine G.ro (Runs.ld ty3) ?_
      refine G.ro (Runs.fieldAddr fld99_0 rfl) ?_
      refine G.ro (Runs.ld ty3) ?_
      refine G.ro (Runs.geq rfl rfl) ?_
      refine G.r (Runs.pickf rfl rfl) ?_
      refine G.r (Runs.assign rfl) ?_
      refine G.nt ?_
      refine W.sub (L' := [(21, _), (3, _), (4, _), (1, _), (14, _), (15, _), (16, _)]) (Sub.cons rfl (Sub.cons rfl (Sub.cons rfl (Sub.cons rfl (Sub.cons rfl (Sub.cons rfl (Sub.cons rfl Sub.nil))))))) ?_
      refine W.ite rfl (fun c21 => ?_) (fun c21 => ?_)
      ·exact absurd (hG.at (k := k) (by omega)) (by omega)
      ·refine W.seq ?_
       refine W.drawn mixed ?_
       refine A.hold (blk b2 [I64 ((at_ es ((k : Nat) : Int)).u), I64 ((at_ es ((k : Nat) : Int)).v)] 150 :: blk b1 [I64 (nd), v] 99 :: I) 14 ?_
       refine D.r 0 rfl (Runs.move rfl) ?_
       refine D.r 1 rfl (Runs.gtr rfl rfl) ?_
       refine D.r 2 rfl (Runs.move rfl) ?_
       refine D.split (d := 42) rfl (fun g42 => ?_) (fun g42 => ?_)
       ·refine D.ro 3 rfl (Runs.fieldAddr fld99_1 rfl) ?_
        refine D.ro 4 rfl (Runs.ld ty97) ?_
        refine D.ro 5 rfl (Runs.move rfl) ?_
        refine D.ro 6 rfl (Runs.sub rfl rfl (by unfold InR; omega)) ?_
        refine D.ro 7 rfl (Runs.idx (α := Pt) (xs := es) Try.underlying97 ty150 rfl rfl (Sl.f hl) (by omega) (by omega)) ?_
        refine D.ro 8 rfl (Runs.gets (α := Pt) (xs := es) ty150 rfl (Sl.f hl) (by omega) (by omega)) ?_
        refine D.ro 9 rfl (Runs.lds (vs := [_, _]) ty150) ?_
        refine D.step (rs := [10]) (by kernel_rfl) rfl rfl (all1 ?_)
        refine Step.eff rfl (Wanted.on rfl rfl rfl) (Eff.call call135 rfl rfl (Order_ok (at_ es (((k : Nat) : Int) - 1)) (at_ es ((k : Nat) : Int)))) ?_
        rintro _ _ ⟨_, _, ⟨rfl, rfl⟩, rfl, rfl⟩
        refine ⟨Fit.m, ?_⟩
        refine D.ro 11 rfl (Runs.geq rfl rfl) ?_
        refine D.r 12 rfl (Runs.pickt rfl rfl) ?_
        refine D.r 13 rfl (Runs.assign rfl) ?_
        refine D.done (by kernel_rfl) ?_
        refine V.then ?_
        refine W.sub (L' := [(39, _), (1, _), (14, _), (15, _), (16, _)]) (Sub.cons rfl (Sub.cons rfl (Sub.cons rfl (Sub.cons rfl (Sub.cons rfl Sub.nil))))) ?_
        refine W.ite rfl (fun c39 => ?_) (fun c39 => ?_)
        ·exact absurd ((Pt.cmp_lt _ _).2 (hG.prev (k := k) (by omega) (by omega))) (by omega)
        ·refine W.skip ?_
         refine V.block_normal ?_
         refine V.block_normal ?_
         refine V.then ?_
         refine W.region ?_
         refine G.r (Runs.add rfl rfl (by unfold InR; omega)) ?_
         refine G.r (Runs.move rfl) ?_
         refine G.nil ?_
         exact V.next ((k + 1)) (show ((k + 1 : Nat) ≤ es.length) from (by omega)) (show es.length - (k + 1 : Nat) < es.length - k from (by omega)) (Sub.cons rfl (Sub.cons rfl (Sub.cons rfl (Sub.cons lookO Sub.nil)))) (show Fit κ _ (blk b1 [I64 (nd), v] 99 :: I) from Fit.sub)
       ·refine D.po 3 rfl ?_
        refine D.po 4 rfl ?_
        refine D.po 5 rfl ?_
        refine D.po 6 rfl ?_
        refine D.po 7 rfl ?_
        refine D.po 8 rfl ?_
        refine D.po 9 rfl ?_
        refine D.po 10 rfl ?_
        refine D.po 11 rfl ?_
        refine D.r 12 rfl (Runs.pickf rfl rfl) ?_
        refine D.r 13 rfl (Runs.assign rfl) ?_
        refine D.done (by kernel_rfl) ?_
        refine V.then ?_
        refine W.sub (L' := [(39, _), (1, _), (14, _), (15, _), (16, _)]) (Sub.cons rfl (Sub.cons rfl (Sub.cons rfl (Sub.cons rfl (Sub.cons rfl Sub.nil))))) ?_
        refine W.no rfl ?_
        refine W.skip ?_
        refine V.block_normal ?_
        refine V.block_normal ?_
        refine V.then ?_
        refine W.region ?_
        refine G.r (Runs.add rfl rfl (by unfold InR; omega)) ?_
        refine G.r (Runs.move rfl) ?_
        refine G.nil ?_
        exact V.next ((k + 1)) (show ((k + 1 : Nat) ≤ es.length) from (by omega)) (show es.length - (k + 1 : Nat) < es.length - k from (by omega)) (Sub.cons rfl (Sub.cons rfl (Sub.cons rfl (Sub.cons lookO Sub.nil)))) (show Fit κ _ (blk b1 [I64 (nd), v] 99 :: I) from Fit.sub)
   ·refine W.exit ?_
    refine V.then_exit ?_
    refine V.then_exit ?_
    refine V.block_hit ?_
    refine V.then ?_
    refine W.sr ?_
    refine G.r (Runs.assign rfl) ?_
    refine G.nt ?_
    refine W.ret ?_
    exact V.ret1 rfl rfl (I) Fit.m ⟨rfl, rfl⟩

theorem Build_ok {κ : Ctx} {I : List Item} {nd sz : Int} {v : Value} {es : List Pt} (hl : Sl κ I v es) (hG : GrOk nd es) (hk : 1 ≤ sz ∧ sz ≤ 1024) (hb : es.length < 1000000) :
    CallS Try.prog κ 81 [.agg #[I64 (nd), v], I64 (sz)] I (fun r J => ∃ a c, r = .tuple #[.agg #[I64 sz, .slice a (both es).length c], I64 0] ∧ J = vc 60 (.slice a (both es).length c) (both es) :: I) := by
 refine CallS.pull hl.le fun hmax => ?_
 refine CallS.enter (L := [(0, .agg #[I64 (nd), v]), (1, I64 (sz))]) Try.func81 rfl rfl rfl rfl ?_
 refine W.sr ?_
 refine G.e (Eff.box (cs := [_, _]) rfl rfl rfl) ?_
 rintro _ _ ⟨b1, rfl, rfl⟩
 refine G.e (Eff.alloc ty57 rfl) ?_
 rintro _ _ ⟨b2, rfl, rfl⟩
 refine G.r (Runs.assign rfl) ?_
 refine G.nt ?_
 refine W.seq ?_
 refine W.sr ?_
 refine G.r (Runs.lds (vs := [_, _]) ty99) ?_
 refine G.e (Eff.call call72 rfl rfl (CheckG_ok (Sl.f hl) hG)) ?_
 rintro _ _ ⟨_, _, ⟨rfl, rfl⟩, rfl, rfl⟩
 refine G.r (Runs.assign rfl) ?_
 refine G.nt ?_
 refine W.sr ?_
 refine G.r (Runs.move rfl) ?_
 refine G.r (Runs.neq rfl rfl) ?_
 refine G.nt ?_
 refine W.ite rfl (fun c13 => ?_) (fun c13 => ?_)
 ·exact absurd rfl c13
 ·refine W.skip ?_
  refine V.then ?_
  refine W.seq ?_
  refine W.sr ?_
  refine G.r (Runs.move rfl) ?_
  refine G.e (Eff.call call113 rfl rfl (BlockSz_ok sz)) ?_
  rintro _ _ ⟨_, _, ⟨rfl, rfl⟩, rfl, rfl⟩
  refine G.r (Runs.notd rfl) ?_
  refine G.nt ?_
  refine W.ite rfl (fun c18 => ?_) (fun c18 => ?_)
  ·exact absurd hk c18
  ·refine W.skip ?_
   refine V.then ?_
   refine W.sr ?_
   refine G.r (Runs.move rfl) ?_
   refine G.r (Runs.build (cells := [_, _]) ty57 Try.underlying57 pl57 rfl rfl) ?_
   refine G.e (Eff.alloc ty57 rfl) ?_
   rintro _ _ ⟨b3, rfl, rfl⟩
   refine G.e (Eff.st (cs := [_, _]) (vs := [_, _]) (cs' := [_, _]) ty57) ?_
   rintro _ _ ⟨rfl, rfl⟩
   refine G.nt ?_
   refine W.sub (L' := [(7, _), (4, _), (2, _)]) (Sub.cons rfl (Sub.cons rfl (Sub.cons rfl Sub.nil))) ?_
   refine W.seq ?_
   refine W.sr ?_
   refine G.r (Runs.fieldAddr fld99_1 rfl) ?_
   refine G.r (Runs.ld ty97) ?_
   refine G.r (Runs.lenT (α := Pt) (xs := es) Try.underlying97 rfl (Sl.f hl)) ?_
   refine G.r (Runs.move rfl) ?_
   refine G.nt ?_
   refine W.block ?_
   refine W.loop (σ := Nat × (Option Addr) × Nat × (List Pt)) (fun s => ([(4, .pointer (some ⟨b2, 0, none⟩)), (7, .pointer (some ⟨b3, 0, none⟩)), (23, v), (24, I64 (((es.length : Nat) : Int))), (25, I64 (((s.1 : Nat) : Int)))] : Env)) (fun s => vc 60 (.slice s.2.1 s.2.2.2.length s.2.2.1) (s.2.2.2) :: blk b3 [I64 (sz), .slice s.2.1 s.2.2.2.length s.2.2.1] 57 :: blk b2 [I64 (0), .slice none 0 0] 57 :: blk b1 [I64 (nd), v] 99 :: I) (fun s => (s.1 ≤ es.length) ∧ (s.2.2.2 = dbl (es.take s.1))) (fun s => es.length - s.1) (0, none, 0, []) (show ((0 : Nat) ≤ es.length) ∧ (([] : List Pt) = dbl (es.take (0 : Nat))) from ⟨(by omega), rfl⟩) (Sub.cons rfl (Sub.cons rfl (Sub.cons rfl (Sub.cons rfl (Sub.cons lookO Sub.nil))))) (show Fit κ _ (vc 60 (.slice (none) ([]).length (0)) (([])) :: blk b3 [I64 (sz), .slice (none) ([]).length (0)] 57 :: blk b2 [I64 (0), .slice none 0 0] 57 :: blk b1 [I64 (nd), v] 99 :: I) from (Fit.nilvc _ _)) ?_
   rintro ⟨k, a, c, out⟩ hp
   obtain ⟨hk, ho⟩ : (k ≤ es.length) ∧ (out = dbl (es.take k)) := hp
   show W Try.prog κ 49 _ _ ([(4, .pointer (some ⟨b2, 0, none⟩)), (7, .pointer (some ⟨b3, 0, none⟩)), (23, v), (24, I64 (((es.length : Nat) : Int))), (25, I64 (((k : Nat) : Int)))] : Env) (vc 60 (.slice a out.length c) (out) :: blk b3 [I64 (sz), .slice a out.length c] 57 :: blk b2 [I64 (0), .slice none 0 0] 57 :: blk b1 [I64 (nd), v] 99 :: I)
   have hol : out.length ≤ 2 * es.length := by rw [ho, dbl_len]; simp only [List.length_take]; omega
   refine W.sr ?_
   refine G.r (Runs.lss rfl rfl) ?_
   refine G.nt ?_
   refine W.seq ?_
   refine W.ite rfl (fun c26 => ?_) (fun c26 => ?_)
   ·refine W.skip ?_
    refine V.then ?_
    refine W.seq ?_
    refine W.block ?_
    refine W.sr ?_
    refine G.r (Runs.idx (α := Pt) (xs := es) Try.underlying97 ty150 rfl rfl (Sl.f hl) (by omega) (by omega)) ?_
    refine G.r (Runs.gets (α := Pt) (xs := es) ty150 rfl (Sl.f hl) (by omega) (by omega)) ?_
    refine G.e (Eff.alloc ty150 rfl) ?_
    rintro _ _ ⟨b4, rfl, rfl⟩
    refine G.e (Eff.st (cs := [_, _]) (vs := [_, _]) (cs' := [_, _]) ty150) ?_
    rintro _ _ ⟨rfl, rfl⟩
    refine G.nt ?_
    refine W.region ?_
    refine G.r (Runs.fieldAddr fld57_1 rfl) ?_
    refine G.r (Runs.ld ty55) ?_
    refine G.r (Runs.fieldAddr fld150_0 rfl) ?_
    refine G.r (Runs.ld ty3) ?_
    refine G.r (Runs.fieldAddr fld150_1 rfl) ?_
    refine G.r (Runs.ld ty3) ?_
    refine G.r (Runs.buildArr (cells := [_, _]) ty60 Try.underlying60 ty3 rfl rfl) ?_
    refine G.r (Runs.fieldAddr fld150_1 rfl) ?_
    refine G.r (Runs.ld ty3) ?_
    refine G.r (Runs.fieldAddr fld150_0 rfl) ?_
    refine G.r (Runs.ld ty3) ?_
    refine G.r (Runs.buildArr (cells := [_, _]) ty60 Try.underlying60 ty3 rfl rfl) ?_
    refine G.e (Eff.bs (α := Pt) (cs := [_, _, _, _]) (xs := [⟨(at_ es ((k : Nat) : Int)).u, (at_ es ((k : Nat) : Int)).v⟩, ⟨(at_ es ((k : Nat) : Int)).v, (at_ es ((k : Nat) : Int)).u⟩]) Try.underlying55 ty60 rfl rfl (by decide) (by decide) rfl rfl rfl rfl) ?_
    rintro _ _ ⟨ad5, rfl, rfl⟩
    refine G.e (Eff.app (α := Pt) (e := 60) (xs := out) (ys := ([⟨(at_ es ((k : Nat) : Int)).u, (at_ es ((k : Nat) : Int)).v⟩, ⟨(at_ es ((k : Nat) : Int)).v, (at_ es ((k : Nat) : Int)).u⟩] : List Pt)) Try.underlying55 ty60 rfl rfl rfl (by repeat (first | exact List.mem_cons_self | apply List.mem_cons_of_mem)) Sl.o (by simp only [List.length_cons, List.length_nil]; omega) (by decide) rfl (fun _ _ => (by repeat (first | exact At.head _ _ _ | apply At.tail)))) ?_
    rintro _ _ ⟨ad6, cp7, rfl, rfl⟩
    refine G.r (Runs.fieldAddr fld57_1 rfl) ?_
    refine G.e (Eff.st (cs := [_, _]) (vs := [_]) (cs' := [_, _]) ty55) ?_
    rintro _ _ ⟨rfl, rfl⟩
    refine G.nil ?_
    refine V.block_normal ?_
    refine V.then ?_
    refine W.sub (L' := [(4, _), (7, _), (23, _), (24, _), (25, _)]) (Sub.cons rfl (Sub.cons rfl (Sub.cons rfl (Sub.cons rfl (Sub.cons rfl Sub.nil))))) ?_
    refine W.region ?_
    refine G.r (Runs.add rfl rfl (by unfold InR; omega)) ?_
    refine G.r (Runs.move rfl) ?_
    refine G.nil ?_
    exact V.next ((k + 1), (ad6), (cp7), (out ++ ([⟨(at_ es ((k : Nat) : Int)).u, (at_ es ((k : Nat) : Int)).v⟩, ⟨(at_ es ((k : Nat) : Int)).v, (at_ es ((k : Nat) : Int)).u⟩] : List Pt))) (show ((k + 1 : Nat) ≤ es.length) ∧ ((out ++ ([⟨(at_ es ((k : Nat) : Int)).u, (at_ es ((k : Nat) : Int)).v⟩, ⟨(at_ es ((k : Nat) : Int)).v, (at_ es ((k : Nat) : Int)).u⟩] : List Pt) : List Pt) = dbl (es.take (k + 1 : Nat))) from ⟨(by omega), (by rw [dbl_take (by omega), ← ho])⟩) (show es.length - (k + 1 : Nat) < es.length - k from (by omega)) (Sub.cons rfl (Sub.cons rfl (Sub.cons rfl (Sub.cons rfl (Sub.cons lookO Sub.nil))))) (show Fit κ _ (vc 60 (.slice (ad6) (out ++ ([⟨(at_ es ((k : Nat) : Int)).u, (at_ es ((k : Nat) : Int)).v⟩, ⟨(at_ es ((k : Nat) : Int)).v, (at_ es ((k : Nat) : Int)).u⟩] : List Pt)).length (cp7)) ((out ++ ([⟨(at_ es ((k : Nat) : Int)).u, (at_ es ((k : Nat) : Int)).v⟩, ⟨(at_ es ((k : Nat) : Int)).v, (at_ es ((k : Nat) : Int)).u⟩] : List Pt))) :: blk b3 [I64 (sz), .slice (ad6) (out ++ ([⟨(at_ es ((k : Nat) : Int)).u, (at_ es ((k : Nat) : Int)).v⟩, ⟨(at_ es ((k : Nat) : Int)).v, (at_ es ((k : Nat) : Int)).u⟩] : List Pt)).length (cp7)] 57 :: blk b2 [I64 (0), .slice none 0 0] 57 :: blk b1 [I64 (nd), v] 99 :: I) from Fit.sub)
   ·refine W.exit ?_
    refine V.then_exit ?_
    refine V.then_exit ?_
    refine V.block_hit ?_
    refine V.then ?_
    refine W.sr ?_
    refine G.r (Runs.fieldAddr fld57_1 rfl) ?_
    refine G.r (Runs.ld ty55) ?_
    refine G.e (Eff.call call146 rfl rfl (SortR_at (by repeat (first | exact AtF.head _ _ | apply AtF.tail)) (by omega))) ?_
    rintro _ _ ⟨_, _, ⟨ys8, ⟨rfl, hsys8, hlys8⟩, rfl⟩, rfl, rfl⟩
    show G Try.prog κ _ _ _ _ ([(47, .tuple #[]), (46, .slice a out.length c), (45, .pointer (some ⟨b3, 1, none⟩)), (26, .bool (decide (((k : Nat) : Int) < ((es.length : Nat) : Int)))), (4, .pointer (some ⟨b2, 0, none⟩)), (7, .pointer (some ⟨b3, 0, none⟩)), (23, v), (24, I64 (((es.length : Nat) : Int))), (25, I64 (((k : Nat) : Int)))] : Env) (vc 60 (.slice a out.length c) (ys8) :: blk b3 [I64 (sz), .slice a out.length c] 57 :: blk b2 [I64 (0), .slice none 0 0] 57 :: blk b1 [I64 (nd), v] 99 :: I)
    refine G.nt ?_
    refine W.sr ?_
    refine G.r (Runs.lds (vs := [_, _]) ty57) ?_
    refine G.e (Eff.st (cs := [_, _]) (vs := [_, _]) (cs' := [_, _]) ty57) ?_
    rintro _ _ ⟨rfl, rfl⟩
    refine G.r (Runs.assign rfl) ?_
    refine G.nt ?_
    refine W.ret ?_
    have hk2 : es.take k = es := List.take_of_length_le (by omega)
    rw [hk2] at ho
    have hy : ys8 = both es := hG.sorted (by rw [← ho]; exact hsys8)
    exact V.retc1 rfl ty57 rfl rfl (by repeat (first | exact List.mem_cons_self | apply List.mem_cons_of_mem)) rfl (vc 60 (.slice a (both es).length c) (both es) :: I) (by rw [← hy, hlys8]; exact Fit.sub) ⟨a, c, by rw [← hy, hlys8], rfl⟩

end Go.Sl
namespace Go.Sl
open Go.Proofs
set_option linter.unusedVariables false
set_option linter.unusedSimpArgs false
set_option maxRecDepth 4000
theorem Few_ok {κ : Ctx} {I : List Item} {la : Option Addr} {ln lc : Nat} :
    CallS Try.prog κ 42 [.slice la ln lc] I (fun r J => r = .bool (decide ((ln : Int) ≤ 500)) ∧ I = J) := by
 refine CallS.enter (L := [(0, .slice la ln lc)]) Try.func42 rfl rfl rfl rfl ?_
 refine W.sr ?_
 refine G.r (Runs.assign rfl) ?_
 refine G.nt ?_
 refine W.sr ?_
 refine G.r (Runs.move rfl) ?_
 refine G.r (Runs.lens Try.underlying22 rfl) ?_
 refine G.r (Runs.leq rfl rfl) ?_
 refine G.r (Runs.assign rfl) ?_
 refine G.nt ?_
 refine W.ret ?_
 exact V.ret1 rfl rfl (I) Fit.m ⟨rfl, rfl⟩

theorem e3_ok : GrOk 4 [⟨0, 1⟩, ⟨1, 2⟩, ⟨2, 3⟩] := ⟨by omega, by unfold AscP; decide, by decide⟩

set_option maxHeartbeats 1000000 in
theorem Awake34_ok {κ : Ctx} {I : List Item}  :
    CallS Try.prog κ 43 [] I (fun r J => r = .bool true ∧ I = J) := by
 refine CallS.enter (L := []) Try.func43 rfl rfl rfl rfl ?_
 refine W.sr ?_
 refine G.r (Runs.assign rfl) ?_
 refine G.nt ?_
 refine W.sr ?_
 refine G.r (Runs.build (cells := [_, _]) ty150 Try.underlying150 pl150 rfl rfl) ?_
 refine G.r (Runs.build (cells := [_, _]) ty150 Try.underlying150 pl150 rfl rfl) ?_
 refine G.r (Runs.build (cells := [_, _]) ty150 Try.underlying150 pl150 rfl rfl) ?_
 refine G.e (Eff.bs (α := Pt) (cs := [I64 (0), I64 (1), I64 (1), I64 (2), I64 (2), I64 (3)]) (xs := [⟨0, 1⟩, ⟨1, 2⟩, ⟨2, 3⟩]) Try.underlying97 ty150 rfl rfl (by decide) (by decide) rfl (by kernel_rfl) rfl rfl) ?_
 rintro _ _ ⟨ad1, rfl, rfl⟩
 refine G.r (Runs.build (cells := [_, _]) ty99 Try.underlying99 pl99 rfl rfl) ?_
 refine G.e (Eff.alloc ty99 rfl) ?_
 rintro _ _ ⟨b2, rfl, rfl⟩
 refine G.e (Eff.st (cs := [_, _]) (vs := [_, _]) (cs' := [_, _]) ty99) ?_
 rintro _ _ ⟨rfl, rfl⟩
 refine G.nt ?_
 refine W.sr ?_
 refine G.r (Runs.lds (vs := [_, _]) ty99) ?_
 refine G.e (Eff.call call81 rfl rfl (Build_ok Sl.o e3_ok (sz := 2) (by omega) (by decide))) ?_
 rintro _ _ ⟨_, _, ⟨ad3, cp4, rfl, rfl⟩, rfl, rfl⟩
 refine G.r (Runs.move rfl) ?_
 refine G.r (Runs.extract rfl rfl) ?_
 refine G.r (Runs.extract rfl rfl) ?_
 refine G.e (Eff.alloc ty57 rfl) ?_
 rintro _ _ ⟨b5, rfl, rfl⟩
 refine G.e (Eff.st (cs := [_, _]) (vs := [_, _]) (cs' := [_, _]) ty57) ?_
 rintro _ _ ⟨rfl, rfl⟩
 refine G.r (Runs.assign rfl) ?_
 refine G.nt ?_
 refine W.sub (L' := [(3, _), (2, _)]) (Sub.cons rfl (Sub.cons rfl Sub.nil)) ?_
 refine W.sr ?_
 refine G.r (Runs.lds (vs := [_, _]) ty57) ?_
 refine G.e (Eff.call call46 rfl rfl (Find_ok Sl.o (e3_ok.both (by omega)) (Nat.le_trans (both_len _) (by decide)) (⟨1, 2⟩ : Pt))) ?_
 rintro _ _ ⟨_, _, ⟨rfl, rfl⟩, rfl, rfl⟩
 refine G.r (Runs.move rfl) ?_
 refine G.r (Runs.extract rfl rfl) ?_
 refine G.r (Runs.extract rfl rfl) ?_
 refine G.r (Runs.extract rfl rfl) ?_
 refine G.r (Runs.assign rfl) ?_
 refine G.r (Runs.assign rfl) ?_
 refine G.r (Runs.assign rfl) ?_
 refine G.nt ?_
 refine W.sr ?_
 refine G.r (Runs.lds (vs := [_, _]) ty57) ?_
 refine G.e (Eff.call call46 rfl rfl (Find_ok Sl.o (e3_ok.both (by omega)) (Nat.le_trans (both_len _) (by decide)) (⟨0, 1⟩ : Pt))) ?_
 rintro _ _ ⟨_, _, ⟨rfl, rfl⟩, rfl, rfl⟩
 refine G.r (Runs.move rfl) ?_
 refine G.r (Runs.extract rfl rfl) ?_
 refine G.r (Runs.extract rfl rfl) ?_
 refine G.r (Runs.extract rfl rfl) ?_
 refine G.r (Runs.assign rfl) ?_
 refine G.r (Runs.assign rfl) ?_
 refine G.r (Runs.assign rfl) ?_
 refine G.nt ?_
 refine W.sub (L' := [(9, _), (8, _), (7, _), (6, _), (5, _), (4, _), (3, _), (2, _)]) (Sub.cons rfl (Sub.cons rfl (Sub.cons rfl (Sub.cons rfl (Sub.cons rfl (Sub.cons rfl (Sub.cons rfl (Sub.cons rfl Sub.nil)))))))) ?_
 refine W.sr ?_
 refine G.r (Runs.move rfl) ?_
 refine G.r (Runs.eql rfl rfl) ?_
 refine G.r (Runs.move rfl) ?_
 refine G.split (d := 34) rfl (fun g34 => ?_) (fun g34 => ?_)
 ·refine G.ro (Runs.fieldAddr fld57_1 rfl) ?_
  refine G.ro (Runs.ld ty55) ?_
  refine G.ro (Runs.lens Try.underlying55 rfl) ?_
  refine G.ro (Runs.eql rfl rfl) ?_
  refine G.r (Runs.pickt rfl rfl) ?_
  refine G.r (Runs.move rfl) ?_
  refine G.split (d := 40) rfl (fun g40 => ?_) (fun g40 => ?_)
  ·refine G.ro (Runs.lds (vs := [_, _]) ty57) ?_
   refine G.eff (Wanted.on rfl rfl rfl) (Eff.call call45 rfl rfl (Blocks_ok Sl.o (e3_ok.both (by omega)) (Nat.le_trans (both_len _) (by decide)))) ?_
   rintro _ _ ⟨_, _, ⟨rfl, rfl⟩, rfl, rfl⟩
   refine G.ro (Runs.eql rfl rfl) ?_
   refine G.r (Runs.pickt rfl rfl) ?_
   refine G.r (Runs.move rfl) ?_
   refine G.split (d := 45) rfl (fun g45 => ?_) (fun g45 => ?_)
   ·refine G.ro (Runs.move rfl) ?_
    refine G.ro (Runs.eql rfl rfl) ?_
    refine G.r (Runs.pickt rfl rfl) ?_
    refine G.r (Runs.move rfl) ?_
    refine G.split (d := 49) rfl (fun g49 => ?_) (fun g49 => ?_)
    ·refine G.ro (Runs.move rfl) ?_
     refine G.r (Runs.pickt rfl rfl) ?_
     refine G.r (Runs.move rfl) ?_
     refine G.splitb (d := 52) rfl (fun g52 => ?_) (fun g52 => ?_)
     ·refine G.ro (Runs.move rfl) ?_
      refine G.ro (Runs.eql rfl rfl) ?_
      refine G.r (Runs.pickt rfl rfl) ?_
      refine G.r (Runs.move rfl) ?_
      refine G.split (d := 56) rfl (fun g56 => ?_) (fun g56 => ?_)
      ·refine G.ro (Runs.move rfl) ?_
       refine G.ro (Runs.eql rfl rfl) ?_
       refine G.r (Runs.pickt rfl rfl) ?_
       refine G.r (Runs.move rfl) ?_
       refine G.split (d := 60) rfl (fun g60 => ?_) (fun g60 => ?_)
       ·refine G.ro (Runs.move rfl) ?_
        refine G.r (Runs.pickt rfl rfl) ?_
        refine G.r (Runs.move rfl) ?_
        refine G.splitb (d := 63) rfl (fun g63 => ?_) (fun g63 => ?_)
        ·refine G.ro (Runs.move rfl) ?_
         refine G.ro (Runs.eql rfl rfl) ?_
         refine G.r (Runs.pickt rfl rfl) ?_
         refine G.r (Runs.assign rfl) ?_
         refine G.nt ?_
         refine W.sub (L' := [(0, _)]) (Sub.cons rfl Sub.nil) ?_
         refine W.ret ?_
         exact V.ret1 rfl rfl (I) Fit.m ⟨by first | rfl | exact congrArg Value.bool (by kernel_rfl), rfl⟩
        ·exact absurd (g63.symm.trans (by kernel_rfl)) (show ¬ false = true by decide)
       ·exact absurd (by first | rfl | exact of_decide_eq_true (by kernel_rfl)) g60
      ·exact absurd (by first | rfl | exact of_decide_eq_true (by kernel_rfl)) g56
     ·exact absurd (g52.symm.trans (by kernel_rfl)) (show ¬ false = true by decide)
    ·exact absurd (by first | rfl | exact of_decide_eq_true (by kernel_rfl)) g49
   ·exact absurd (by first | rfl | exact of_decide_eq_true (by kernel_rfl)) g45
  ·exact absurd (by first | rfl | exact of_decide_eq_true (by kernel_rfl)) g40
 ·exact absurd (by first | rfl | exact of_decide_eq_true (by kernel_rfl)) g34

end Go.Sl
namespace Go.Sl
open Go.Proofs
set_option linter.unusedVariables false
set_option linter.unusedSimpArgs false
set_option maxRecDepth 4000
end Go.Sl
