/- A part of the proofs of statements of this seat: contracts of functions, and the plain laws that they lean on. No conditions. -/
import Derived.Test.YtbimaodbcjjbfaaGreatDoorLib
import Derived.Shelf.SlSortCmp.NoneTotal
import Derived.Shelf.SlSortCmp.WholeK
import Derived.Test.YtbimaodbcjjbfaaGreatDoorProg
import Derived.KernelRfl
import Derived.Test.YtbimaodbcjjbfaaGreatDoorRunsZ
/- slices.SortFunc over owned slices: the kit's contract in this library's words. No conditions. -/
namespace Go.Sl
open Go.Proofs Go.Shelf Go.RowKit Go.Lib Go.Sort
set_option linter.unusedVariables false
set_option linter.unusedSimpArgs false

section
variable {α : Type} [Enc α] [Inhabited α]
theorem flat_cells (d : Array α) : flatK Enc.enc (Enc.sz α) d = (cells d.toList).toArray := by
  apply Array.ext
  · simp [cells_length]
  · intro t h1 h2
    have h1' : t < d.size * Enc.sz α := by simpa using h1
    have hpos : 0 < Enc.sz α := Enc.pos
    have hi : t / Enc.sz α < d.size := Nat.div_lt_of_lt_mul (by rw [Nat.mul_comm]; exact h1')
    have hj : t % Enc.sz α < Enc.sz α := Nat.mod_lt _ hpos
    have e1 : t = t / Enc.sz α * Enc.sz α + t % Enc.sz α := by rw [Nat.mul_comm]; exact (Nat.div_add_mod t (Enc.sz α)).symm
    have e2 := cells_get d.toList (t / Enc.sz α) (t % Enc.sz α) (by simpa using hi) hj
    rw [← e1] at e2
    have e3 : (cells d.toList)[t]? = some ((cells d.toList)[t]'(by simpa using h2)) := List.getElem?_eq_getElem _
    rw [e3] at e2
    have hlen : t % Enc.sz α < (Enc.enc (d.toList[t / Enc.sz α]'(by simpa using hi))).length := by rw [Enc.len]; exact hj
    rw [List.getElem?_eq_getElem hlen] at e2
    have e4 := Option.some.inj e2
    simp only [List.getElem_toArray]
    rw [e4]
    simp [flatK, getElem!_pos, hi, Enc.len, hj]

theorem sort_base {P : Program} {ρ : Ren} {κ : Ctx} {I : List Item} (L : SlLaysF0.n6 P ρ) (aE : ∀ w, (isAgg (ρ.t 24)).run P w = .ok true w) (zE : ∀ w, (Go.sizeOf (ρ.t 24)).run P w = .ok (Enc.sz α) w) (cf : α → α → Int) (hO : SWO (ltOf cf)) (g : Nat) (cb : Array Value)
    (eg : ∀ args w, (callFunc g args).run P w = .ok (.enter g args) w) (hcmp : ∀ (x y : α) (W : World), Calls P g (#[.agg (Enc.enc x).toArray, .agg (Enc.enc y).toArray] ++ cb) W fun e w' => e = .returned (.int .i64 (cf x y)) ∧ ∃ q os', w' = grow (W.drewN q) os')
    {e : TypeId} {ad : Option Addr} {c : Nat} {xs : List α} (hc : 0 < c) (hsz : xs.length < 4611686018427387904) :
    CallS P κ (ρ.f 6) [.slice ad xs.length c, .func (.func g) #[] cb] (vc e (.slice ad xs.length c) xs :: I) fun r J => ∃ ys : List α, (r = .tuple #[] ∧ ys.Perm xs ∧ ys.Pairwise fun a b => ltOf cf b a = false) ∧ J = [] ++ vc e (.slice ad ys.length c) ys :: I := by
  intro w hs
  obtain ⟨hok, _⟩ := hs.ok _ List.mem_cons_self
  obtain ⟨a', cap', hv, hl, hnc, hcm, hcap⟩ := hok
  cases hv
  obtain ⟨b, off, cur, rfl, hb, hsize, hcur⟩ := hcap hc
  have hbw : b < w.heap.size := (Array.getElem?_eq_some_iff.1 hb).1
  have hcl := cells_length xs
  have hle : xs.length * Enc.sz α ≤ c * Enc.sz α := Nat.mul_le_mul_right _ hnc
  have hH : HoldsK Enc.enc (Enc.sz α) w b off xs.toArray := fun j hj => by
    rw [flat_cells] at hj ⊢
    have hj' : j < (cells xs).length := by simpa using hj
    have h1 := hcur j ((cells xs)[j]) (List.getElem?_eq_getElem hj')
    refine ⟨?_, by simp [World.frozen?, hb]⟩
    rw [cell_of_row w b (off + j) cur e (0, 0) hb, h1]
    simp [getElem!_pos, hj']
  have h := AnyQ.slices_SortFunc L (Enc.sz α) aE zE Enc.enc Enc.len Enc.one cf hO g cb b off c xs.toArray w eg (fun m os dk _ x y => hcmp x y _) hH hbw (by simpa using hsz)
  refine Calls.mono h ?_
  rintro e' w' ⟨rfl, d', n, os, ⟨hs1, _, hperm⟩, hsort, rfl⟩
  have hs1' : d'.size = xs.length := by simpa using hs1
  have hperm' : d'.toList.Perm xs := by
    have e1 : d'.extract 0 xs.toArray.size = d' := by rw [← hs1]; simp
    have e2 : xs.toArray.extract 0 xs.toArray.size = xs.toArray := by simp
    rw [e1, e2] at hperm
    exact hperm
  have hlen : d'.toList.length = xs.length := by simpa using hs1'
  refine ⟨_, _, rfl, ⟨d'.toList, ⟨rfl, hperm', ?_⟩, rfl⟩, ?_⟩
  · rw [List.pairwise_iff_getElem]
    intro i j hi hj hij
    have := hsort i j (Nat.zero_le _) hij (by simpa [hs1'] using hj)
    simp only [Array.length_toList] at hi hj
    rw [getElem!_pos d' i hi, getElem!_pos d' j hj] at this
    simpa using this
  · show Sep κ _ (vc e (.slice (some ⟨b, off, none⟩) d'.toList.length c) d'.toList :: I)
    refine hs.upd (At.head _ _ _) rfl ⟨rfl, by simp [sortWorldK, putRowK, Sort.grow]⟩ rfl (by simp [sortWorldK, putRowK]) (fun k hk hne => ?_) ?_ fun k hk => .inl ?_
    · have hkb : k ≠ b := fun ekb => hne (by subst ekb; exact ⟨off, xs.length, c, rfl, hc⟩)
      simp only [sortWorldK, Sort.grow, putRowK, putRow, mapBlock]
      rw [Array.getElem?_append_left (by simpa using hk), Array.getElem?_modify, if_neg (fun e => hkb e.symm)]
      rfl
    · refine ⟨_, c, rfl, cells_length _, by rw [hlen]; exact hnc, hcm, fun _ => ⟨b, off, putCells id off (flatK Enc.enc (Enc.sz α) d') cur, rfl, ?_, ?_, fun j u hj => ?_⟩⟩
      · simp only [sortWorldK, Sort.grow, putRowK, putRow, mapBlock]
        rw [Array.getElem?_append_left (by simpa using hbw), Array.getElem?_modify, if_pos rfl]
        show (w.heap[b]?).map _ = _
        rw [hb]; rfl
      · simpa [putCells] using hsize
      · have hj' : j < (cells d'.toList).length := (List.getElem?_eq_some_iff.1 hj).1
        have hj2 : j < xs.length * Enc.sz α := by rw [cells_length, hlen] at hj'; exact hj'
        have hoff : off + j < cur.size := by omega
        rw [flat_cells]
        simp only [putCells, Array.getElem?_mapIdx, Array.getElem?_eq_getElem hoff, Option.map_some]
        rw [if_pos ⟨by omega, by simpa using hj'⟩, Nat.add_sub_cancel_left]
        rw [List.getElem?_eq_getElem hj'] at hj
        simpa [getElem!_pos, hj'] using hj
    · obtain ⟨o', n', c', hv', hc'⟩ := hk
      cases hv'
      exact ⟨off, xs.length, c, rfl, hc⟩
/-- .. of none too. -/
theorem sort_any {P : Program} {ρ : Ren} {κ : Ctx} {I : List Item} (L : SlLaysF0.n6 P ρ) (aE : ∀ w, (isAgg (ρ.t 24)).run P w = .ok true w) (zE : ∀ w, (Go.sizeOf (ρ.t 24)).run P w = .ok (Enc.sz α) w) (cf : α → α → Int) (hO : SWO (ltOf cf)) (g : Nat) (cb : Array Value)
    (eg : ∀ args w, (callFunc g args).run P w = .ok (.enter g args) w) (hcmp : ∀ (x y : α) (W : World), Calls P g (#[.agg (Enc.enc x).toArray, .agg (Enc.enc y).toArray] ++ cb) W fun e w' => e = .returned (.int .i64 (cf x y)) ∧ ∃ q os', w' = grow (W.drewN q) os')
    {e : TypeId} {ad : Option Addr} {c : Nat} {xs : List α} (hsz : xs.length < 4611686018427387904) :
    CallS P κ (ρ.f 6) [.slice ad xs.length c, .func (.func g) #[] cb] (vc e (.slice ad xs.length c) xs :: I) fun r J => ∃ ys : List α, (r = .tuple #[] ∧ ys.Perm xs ∧ ys.Pairwise fun a b => ltOf cf b a = false) ∧ J = [] ++ vc e (.slice ad ys.length c) ys :: I := by
  by_cases hc : 0 < c
  · exact sort_base L aE zE cf hO g cb eg hcmp hc hsz
  · intro w hs
    obtain ⟨hok, _⟩ := hs.ok _ List.mem_cons_self
    obtain ⟨a', cap', hv, hl, hnc, hcm, hcap⟩ := hok
    cases hv
    obtain rfl : xs = [] := List.eq_nil_of_length_eq_zero (by omega)
    refine Calls.mono (AnyF.slices_SortFunc_none L ad c _ w) ?_
    rintro e' w' ⟨rfl, rfl⟩
    exact ⟨_, _, rfl, ⟨[], ⟨rfl, List.Perm.nil, List.Pairwise.nil⟩, rfl⟩, hs⟩
end
/-- A contract that leaves memory as it was, in the words of the kit's sort. -/
theorem lays_of {P : Program} {f : FuncId} {args : List Value} {v : Value} {W : World} (h : CallS P ⟨W.os, W.tape, W.output, W.drawn⟩ f args [old W.heap.size W] fun r J => r = v ∧ [old W.heap.size W] = J) :
    Calls P f args.toArray W fun e w' => e = .returned v ∧ ∃ q os', w' = Sort.grow (W.drewN q) os' := (h W (Sep.begin W)).mono fun e w' ⟨r, J, he, ⟨hv, hJ⟩, hs⟩ => by
  subst hv hJ
  refine ⟨he, w'.drawn - W.drawn, w'.heap.extract W.heap.size w'.heap.size, ?_⟩
  have hb := hs.below List.mem_cons_self
  have hok : ∀ k, k < W.heap.size → w'.heap[k]? = W.heap[k]? := (hs.ok _ List.mem_cons_self).1
  have hd := hs.tape.2
  have hheap : w'.heap = W.heap ++ w'.heap.extract W.heap.size w'.heap.size := by
    apply Array.ext_getElem?
    intro k
    by_cases hk : k < W.heap.size
    · rw [Array.getElem?_append_left hk]; exact hok k hk
    · rw [Array.getElem?_append_right (by omega), Array.getElem?_extract]
      have hsz := hb.size
      by_cases hk2 : k < w'.heap.size
      · rw [if_pos (by omega)]; congr 1; omega
      · rw [Array.getElem?_eq_none (by omega)]
        split
        · omega
        · rfl
  have e : W.drawn + (w'.drawn - W.drawn) = w'.drawn := by have : W.drawn ≤ w'.drawn := hd; omega
  have hos : w'.os = W.os := hs.os
  have htp : w'.tape = W.tape := hs.tape.1
  have hou : w'.output = W.output := hs.output
  obtain ⟨heap', tape', drawn', os', out'⟩ := w'
  simp only [Sort.grow, World.drewN] at *
  subst hos htp hou
  rw [e, ← hheap]
end Go.Sl
namespace Go.Proofs
def Tryz.sort106_ren : Go.Shelf.Ren := ⟨fun | 6 => 106 | 15 => 120 | 14 => 131 | 28 => 147 | 29 => 148 | 20 => 153 | 21 => 154 | 22 => 155 | 23 => 156 | 24 => 157 | 25 => 158 | 26 => 159 | 27 => 160 | 46 => 174 | 47 => 168 | 48 => 169 | 49 => 175 | 50 => 176 | 57 => 180 | n => n, fun | 22 => 26 | 24 => 52 | 25 => 125 | 3 => 3 | 39 => 109 | 0 => 0 | 53 => 159 | 55 => 86 | 4 => 4 | 46 => 153 | 45 => 152 | 50 => 81 | 5 => 5 | 9 => 9 | 66 => 171 | 70 => 175 | 76 => 182 | 77 => 117 | n => n, fun | n => n⟩
theorem Tryz.sort106 : Go.Proofs.SlLaysF0.n6 Tryz.prog Tryz.sort106_ren := {
  mixed := by kernel_rfl,
  f6 := ⟨Tryz.f106.name, by decide, Tryz.func106.trans (congrArg some (by kernel_rfl))⟩,
  f14 := ⟨Tryz.f131.name, by decide, Tryz.func131.trans (congrArg some (by kernel_rfl))⟩,
  f15 := Tryz.func120.trans (congrArg some (by kernel_rfl)),
  f20 := ⟨Tryz.f153.name, by decide, Tryz.func153.trans (congrArg some (by kernel_rfl))⟩,
  f21 := ⟨Tryz.f154.name, by decide, Tryz.func154.trans (congrArg some (by kernel_rfl))⟩,
  f22 := ⟨Tryz.f155.name, by decide, Tryz.func155.trans (congrArg some (by kernel_rfl))⟩,
  f23 := ⟨Tryz.f156.name, by decide, Tryz.func156.trans (congrArg some (by kernel_rfl))⟩,
  f24 := ⟨Tryz.f157.name, by decide, Tryz.func157.trans (congrArg some (by kernel_rfl))⟩,
  f25 := ⟨Tryz.f158.name, by decide, Tryz.func158.trans (congrArg some (by kernel_rfl))⟩,
  f26 := ⟨Tryz.f159.name, by decide, Tryz.func159.trans (congrArg some (by kernel_rfl))⟩,
  f27 := ⟨Tryz.f160.name, by decide, Tryz.func160.trans (congrArg some (by kernel_rfl))⟩,
  f28 := Tryz.func147.trans (congrArg some (by kernel_rfl)),
  f29 := Tryz.func148.trans (congrArg some (by kernel_rfl)),
  f46 := ⟨Tryz.f174.name, by decide, Tryz.func174.trans (congrArg some (by kernel_rfl))⟩,
  f47 := Tryz.func168.trans (congrArg some (by kernel_rfl)),
  f48 := Tryz.func169.trans (congrArg some (by kernel_rfl)),
  f49 := ⟨Tryz.f175.name, by decide, Tryz.func175.trans (congrArg some (by kernel_rfl))⟩,
  f50 := ⟨Tryz.f176.name, by decide, Tryz.func176.trans (congrArg some (by kernel_rfl))⟩,
  f57 := ⟨Tryz.f180.name, by decide, Tryz.func180.trans (congrArg some (by kernel_rfl))⟩,
  t0 := Tryz.underlying0,
  a0 := Tryz.isAgg0,
  z0 := Tryz.sizeOf0,
  v0 := Tryz.zeroValue0,
  t3 := Tryz.underlying3,
  a3 := Tryz.isAgg3,
  z3 := Tryz.sizeOf3,
  v3 := Tryz.zeroValue3,
  t4 := Tryz.underlying4,
  a4 := Tryz.isAgg4,
  z4 := Tryz.sizeOf4,
  v4 := Tryz.zeroValue4,
  t5 := Tryz.underlying5,
  a5 := Tryz.isAgg5,
  z5 := Tryz.sizeOf5,
  v5 := Tryz.zeroValue5,
  t9 := Tryz.underlying9,
  a9 := Tryz.isAgg9,
  z9 := Tryz.sizeOf9,
  v9 := Tryz.zeroValue9,
  t22 := Tryz.underlying26,
  a22 := Tryz.isAgg26,
  z22 := Tryz.sizeOf26,
  v22 := Tryz.zeroValue26,
  t25 := Tryz.underlying125,
  a25 := Tryz.isAgg125,
  z25 := Tryz.sizeOf125,
  v25 := Tryz.zeroValue125,
  t39 := Tryz.underlying109,
  a39 := Tryz.isAgg109,
  z39 := Tryz.sizeOf109,
  v39 := Tryz.zeroValue109,
  t45 := Tryz.underlying152,
  a45 := Tryz.isAgg152,
  z45 := Tryz.sizeOf152,
  v45 := Tryz.zeroValue152,
  t46 := Tryz.underlying153,
  a46 := Tryz.isAgg153,
  z46 := Tryz.sizeOf153,
  v46 := Tryz.zeroValue153,
  t50 := Tryz.underlying81,
  a50 := Tryz.isAgg81,
  z50 := Tryz.sizeOf81,
  v50 := Tryz.zeroValue81,
  t53 := Tryz.underlying159,
  a53 := Tryz.isAgg159,
  z53 := Tryz.sizeOf159,
  v53 := Tryz.zeroValue159,
  t55 := Tryz.underlying86,
  a55 := Tryz.isAgg86,
  z55 := Tryz.sizeOf86,
  v55 := Tryz.zeroValue86,
  t66 := Tryz.underlying171,
  a66 := Tryz.isAgg171,
  z66 := Tryz.sizeOf171,
  v66 := Tryz.zeroValue171,
  t70 := Tryz.underlying175,
  a70 := Tryz.isAgg175,
  z70 := Tryz.sizeOf175,
  v70 := Tryz.zeroValue175,
  t76 := Tryz.underlying182,
  a76 := Tryz.isAgg182,
  z76 := Tryz.sizeOf182,
  v76 := Tryz.zeroValue182,
  t77 := Tryz.underlying117,
  a77 := Tryz.isAgg117,
  z77 := Tryz.sizeOf117,
  v77 := Tryz.zeroValue117 }
end Go.Proofs
namespace Go.Sl
open Go.Proofs
set_option linter.unusedVariables false
set_option linter.unusedSimpArgs false
set_option maxRecDepth 4000
open Go.Proofs Go.Shelf Go.Sort in
theorem swo_pt : SWO (ltOf Pt.cmp) where
  irrefl x := decide_eq_false fun h => Pt.lin.irr x ((Pt.cmp_lt _ _).1 h)
  trans x y z h1 h2 := decide_eq_true ((Pt.cmp_lt _ _).2 (Pt.lin.tr x y z ((Pt.cmp_lt _ _).1 (of_decide_eq_true h1)) ((Pt.cmp_lt _ _).1 (of_decide_eq_true h2))))
  ntrans x y z h1 h2 := decide_eq_false fun h => by
    have a := of_decide_eq_false h1
    have b := of_decide_eq_false h2
    rw [Pt.cmp_lt] at a b h
    unfold Pt.lt at a b h
    omega
theorem Order_ok {κ : Ctx} {I : List Item} (a c : Pt) :
    CallS Tryz.prog κ 107 [.agg #[I64 (a.u), I64 (a.v)], .agg #[I64 (c.u), I64 (c.v)]] I (fun r J => r = I64 (Pt.cmp a c) ∧ I = J) := by
 refine CallS.enter (L := [(0, .agg #[I64 (a.u), I64 (a.v)]), (1, .agg #[I64 (c.u), I64 (c.v)])]) Tryz.func107 rfl rfl rfl rfl ?_
 refine W.sr ?_
 refine G.e (Eff.box (cs := [_, _]) rfl rfl rfl) ?_
 rintro _ _ ⟨b1, rfl, rfl⟩
 refine G.e (Eff.box (cs := [_, _]) rfl rfl rfl) ?_
 rintro _ _ ⟨b2, rfl, rfl⟩
 refine G.r (Runs.assign rfl) ?_
 refine G.nt ?_
 refine W.seq ?_
 refine W.drawn mixed ?_
 refine A.hold (blk b2 [I64 (c.u), I64 (c.v)] 52 :: blk b1 [I64 (a.u), I64 (a.v)] 52 :: I) 12 ?_
 refine D.r 0 rfl (Runs.fieldAddr fld52_0 rfl) ?_
 refine D.r 1 rfl (Runs.ld ty3) ?_
 refine D.r 2 rfl (Runs.fieldAddr fld52_0 rfl) ?_
 refine D.r 3 rfl (Runs.ld ty3) ?_
 refine D.r 5 rfl (Runs.fieldAddr fld52_1 rfl) ?_
 refine D.r 6 rfl (Runs.ld ty3) ?_
 refine D.r 7 rfl (Runs.fieldAddr fld52_1 rfl) ?_
 refine D.r 8 rfl (Runs.ld ty3) ?_
 refine D.step (rs := [4]) (by kernel_rfl) rfl rfl (all1 ?_)
 refine Step.eff rfl (Wanted.plain rfl) (Eff.call call121 rfl rfl (Compare_ok a.u c.u)) ?_
 rintro _ _ ⟨_, _, ⟨rfl, rfl⟩, rfl, rfl⟩
 refine ⟨Fit.m, ?_⟩
 refine D.step (rs := [9]) (by kernel_rfl) rfl rfl (all1 ?_)
 refine Step.eff rfl (Wanted.plain rfl) (Eff.call call121 rfl rfl (Compare_ok a.v c.v)) ?_
 rintro _ _ ⟨_, _, ⟨rfl, rfl⟩, rfl, rfl⟩
 refine ⟨Fit.m, ?_⟩
 refine D.step (rs := [10]) (by kernel_rfl) rfl rfl (all1 ?_)
 refine Step.eff rfl (Wanted.plain rfl) (Eff.bs (α := Int) (cs := [_, _]) (xs := [cmpI a.u c.u, cmpI a.v c.v]) Tryz.underlying22 ty3 rfl rfl (by decide) (by decide) rfl rfl rfl rfl) ?_
 rintro _ _ ⟨ad3, rfl, rfl⟩
 refine ⟨Fit.m, ?_⟩
 refine D.step (rs := [11]) (by kernel_rfl) rfl rfl (all1 ?_)
 refine Step.eff rfl (Wanted.plain rfl) (Eff.call call132 rfl rfl (Or_ok Sl.o)) ?_
 rintro _ _ ⟨_, _, ⟨rfl, rfl⟩, rfl, rfl⟩
 refine ⟨Fit.m, ?_⟩
 refine D.stop (by kernel_rfl) ?_
 refine A.read (i := 12) (by kernel_rfl) rfl (Wanted.plain rfl) rfl rfl (Runs.assign rfl) ?_
 refine A.done (by kernel_rfl) ?_
 refine V.then ?_
 refine W.sub (L' := [(4, _)]) (Sub.cons rfl Sub.nil) ?_
 refine W.ret ?_
 exact V.ret1 rfl rfl (I) Fit.m ⟨by rw [← orL_cmp], rfl⟩

theorem CheckG_ok {κ : Ctx} {I : List Item} {nd : Int} {v : Value} {es : List Pt} (hl : Sl κ I v es) (hG : GrOk nd es) :
    CallS Tryz.prog κ 49 [.agg #[I64 (nd), v]] I (fun r J => r = I64 0 ∧ I = J) := by
 refine CallS.pull hl.le fun hmax => ?_
 refine CallS.enter (L := [(0, .agg #[I64 (nd), v])]) Tryz.func49 rfl rfl rfl rfl ?_
 refine W.sr ?_
 refine G.e (Eff.box (cs := [_, _]) rfl rfl rfl) ?_
 rintro _ _ ⟨b1, rfl, rfl⟩
 refine G.r (Runs.assign rfl) ?_
 refine G.nt ?_
 refine W.seq ?_
 refine W.sr ?_
 refine G.r (Runs.fieldAddr fld28_0 rfl) ?_
 refine G.r (Runs.ld ty3) ?_
 refine G.r (Runs.lss rfl rfl) ?_
 refine G.r (Runs.move rfl) ?_
 refine G.split (d := 8) rfl (fun g8 => ?_) (fun g8 => ?_)
 ·exact absurd hG.rng (by omega)
 ·refine G.ro (Runs.fieldAddr fld28_0 rfl) ?_
  refine G.ro (Runs.ld ty3) ?_
  refine G.ro (Runs.gtr rfl rfl) ?_
  refine G.r (Runs.pickf rfl rfl) ?_
  refine G.nt ?_
  refine W.ite rfl (fun c12 => ?_) (fun c12 => ?_)
  ·exact absurd hG.rng (by omega)
  ·refine W.skip ?_
   refine V.then ?_
   refine W.seq ?_
   refine W.sr ?_
   refine G.r (Runs.fieldAddr fld28_1 rfl) ?_
   refine G.r (Runs.ld ty26) ?_
   refine G.r (Runs.lenT (α := Pt) (xs := es) Tryz.underlying26 rfl (Sl.f hl)) ?_
   refine G.r (Runs.move rfl) ?_
   refine G.nt ?_
   refine W.sub (L' := [(16, _), (15, _), (14, _), (1, _)]) (Sub.cons rfl (Sub.cons rfl (Sub.cons rfl (Sub.cons rfl Sub.nil)))) ?_
   refine W.block ?_
   refine W.loop (σ := Nat) (fun s => ([(1, .pointer (some ⟨b1, 0, none⟩)), (14, v), (15, I64 (((es.length : Nat) : Int))), (16, I64 (((s : Nat) : Int)))] : Env)) (fun s => blk b1 [I64 (nd), v] 28 :: I) (fun s => (s ≤ es.length)) (fun s => es.length - s) (0) (show ((0 : Nat) ≤ es.length) from (by omega)) (Sub.cons rfl (Sub.cons rfl (Sub.cons rfl (Sub.cons lookO Sub.nil)))) (show Fit κ _ (blk b1 [I64 (nd), v] 28 :: I) from Fit.sub) ?_
   rintro k hp
   have hk : (k ≤ es.length) := hp
   show W Tryz.prog κ 54 _ _ ([(1, .pointer (some ⟨b1, 0, none⟩)), (14, v), (15, I64 (((es.length : Nat) : Int))), (16, I64 (((k : Nat) : Int)))] : Env) (blk b1 [I64 (nd), v] 28 :: I)
   refine W.sr ?_
   refine G.r (Runs.lss rfl rfl) ?_
   refine G.nt ?_
   refine W.seq ?_
   refine W.ite rfl (fun c17 => ?_) (fun c17 => ?_)
   ·refine W.skip ?_
    refine V.then ?_
    refine W.seq ?_
    refine W.block ?_
    refine W.sr ?_
    refine G.r (Runs.move rfl) ?_
    refine G.r (Runs.idx (α := Pt) (xs := es) Tryz.underlying26 ty52 rfl rfl (Sl.f hl) (by omega) (by omega)) ?_
    refine G.r (Runs.gets (α := Pt) (xs := es) ty52 rfl (Sl.f hl) (by omega) (by omega)) ?_
    refine G.e (Eff.alloc ty52 rfl) ?_
    rintro _ _ ⟨b2, rfl, rfl⟩
    refine G.r (Runs.assign rfl) ?_
    refine G.e (Eff.st (cs := [_, _]) (vs := [_, _]) (cs' := [_, _]) ty52) ?_
    rintro _ _ ⟨rfl, rfl⟩
    refine G.nt ?_
    refine W.block ?_
    refine W.sr ?_
    refine G.r (Runs.fieldAddr fld52_0 rfl) ?_
    refine G.r (Runs.ld ty3) ?_
    refine G.r (Runs.lss rfl rfl) ?_
    refine G.r (Runs.move rfl) ?_
    refine G.split (d := 25) rfl (fun g25 => ?_) (fun g25 => ?_)
    ·exact absurd (hG.at (k := k) (by omega)) (by omega)
    ·refine G.ro (Runs.fieldAddr fld52_0 rfl) ?_
     refine G.ro (Runs.ld ty3) ?_
     refine G.ro (Runs.fieldAddr fld52_1 rfl) ?_
     refine G.ro (Runs.ld ty3) ?_
     refine G.ro (Runs.geq rfl rfl) ?_
     refine G.r (Runs.pickf rfl rfl) ?_
     refine G.r (Runs.move rfl) ?_
     refine G.split (d := 32) rfl (fun g32 => ?_) (fun g32 => ?_)
     ·exact absurd (hG.at (k := k) (by omega)) (by omega)
     ·refine G.ro (Runs.fieldAddr fld52_1 rfl) ?_
      refine G.ro (Runs.ld ty3) ?_
      refine G.ro (Runs.fieldAddr fld28_0 rfl) ?_
      refine G.ro (Runs.ld ty3) ?_
      refine G.ro (Runs.geq rfl rfl) ?_
      refine G.r (Runs.pickf rfl rfl) ?_
      refine G.r (Runs.assign rfl) ?_
      refine G.nt ?_
      refine W.sub (L' := [(21, _), (3, _), (4, _), (1, _), (14, _), (15, _), (16, _)]) (Sub.cons rfl (Sub.cons rfl (Sub.cons rfl (Sub.cons rfl (Sub.cons rfl (Sub.cons rfl (Sub.cons rfl Sub.nil))))))) ?_
      refine W.ite rfl (fun c21 => ?_) (fun c21 => ?_)
      ·exact absurd (hG.at (k := k) (by omega)) (by omega)
      ·refine W.seq ?_
       refine W.drawn mixed ?_
       refine A.hold (blk b2 [I64 ((at_ es ((k : Nat) : Int)).u), I64 ((at_ es ((k : Nat) : Int)).v)] 52 :: blk b1 [I64 (nd), v] 28 :: I) 14 ?_
       refine D.r 0 rfl (Runs.move rfl) ?_
       refine D.r 1 rfl (Runs.gtr rfl rfl) ?_
       refine D.r 2 rfl (Runs.move rfl) ?_
       refine D.split (d := 42) rfl (fun g42 => ?_) (fun g42 => ?_)
       ·refine D.ro 3 rfl (Runs.fieldAddr fld28_1 rfl) ?_
        refine D.ro 4 rfl (Runs.ld ty26) ?_
        refine D.ro 5 rfl (Runs.move rfl) ?_
        refine D.ro 6 rfl (Runs.sub rfl rfl (by unfold InR; omega)) ?_
        refine D.ro 7 rfl (Runs.idx (α := Pt) (xs := es) Tryz.underlying26 ty52 rfl rfl (Sl.f hl) (by omega) (by omega)) ?_
        refine D.ro 8 rfl (Runs.gets (α := Pt) (xs := es) ty52 rfl (Sl.f hl) (by omega) (by omega)) ?_
        refine D.ro 9 rfl (Runs.lds (vs := [_, _]) ty52) ?_
        refine D.step (rs := [10]) (by kernel_rfl) rfl rfl (all1 ?_)
        refine Step.eff rfl (Wanted.on rfl rfl rfl) (Eff.call call107 rfl rfl (Order_ok (at_ es (((k : Nat) : Int) - 1)) (at_ es ((k : Nat) : Int)))) ?_
        rintro _ _ ⟨_, _, ⟨rfl, rfl⟩, rfl, rfl⟩
        refine ⟨Fit.m, ?_⟩
        refine D.ro 11 rfl (Runs.geq rfl rfl) ?_
        refine D.r 12 rfl (Runs.pickt rfl rfl) ?_
        refine D.r 13 rfl (Runs.assign rfl) ?_
        refine D.done (by kernel_rfl) ?_
        refine V.then ?_
        refine W.sub (L' := [(39, _), (1, _), (14, _), (15, _), (16, _)]) (Sub.cons rfl (Sub.cons rfl (Sub.cons rfl (Sub.cons rfl (Sub.cons rfl Sub.nil))))) ?_
        refine W.ite rfl (fun c39 => ?_) (fun c39 => ?_)
        ·exact absurd ((Pt.cmp_lt _ _).2 (hG.prev (k := k) (by omega) (by omega))) (by omega)
        ·refine W.skip ?_
         refine V.block_normal ?_
         refine V.block_normal ?_
         refine V.then ?_
         refine W.region ?_
         refine G.r (Runs.add rfl rfl (by unfold InR; omega)) ?_
         refine G.r (Runs.move rfl) ?_
         refine G.nil ?_
         exact V.next ((k + 1)) (show ((k + 1 : Nat) ≤ es.length) from (by omega)) (show es.length - (k + 1 : Nat) < es.length - k from (by omega)) (Sub.cons rfl (Sub.cons rfl (Sub.cons rfl (Sub.cons lookO Sub.nil)))) (show Fit κ _ (blk b1 [I64 (nd), v] 28 :: I) from Fit.sub)
       ·refine D.po 3 rfl ?_
        refine D.po 4 rfl ?_
        refine D.po 5 rfl ?_
        refine D.po 6 rfl ?_
        refine D.po 7 rfl ?_
        refine D.po 8 rfl ?_
        refine D.po 9 rfl ?_
        refine D.po 10 rfl ?_
        refine D.po 11 rfl ?_
        refine D.r 12 rfl (Runs.pickf rfl rfl) ?_
        refine D.r 13 rfl (Runs.assign rfl) ?_
        refine D.done (by kernel_rfl) ?_
        refine V.then ?_
        refine W.sub (L' := [(39, _), (1, _), (14, _), (15, _), (16, _)]) (Sub.cons rfl (Sub.cons rfl (Sub.cons rfl (Sub.cons rfl (Sub.cons rfl Sub.nil))))) ?_
        refine W.no rfl ?_
        refine W.skip ?_
        refine V.block_normal ?_
        refine V.block_normal ?_
        refine V.then ?_
        refine W.region ?_
        refine G.r (Runs.add rfl rfl (by unfold InR; omega)) ?_
        refine G.r (Runs.move rfl) ?_
        refine G.nil ?_
        exact V.next ((k + 1)) (show ((k + 1 : Nat) ≤ es.length) from (by omega)) (show es.length - (k + 1 : Nat) < es.length - k from (by omega)) (Sub.cons rfl (Sub.cons rfl (Sub.cons rfl (Sub.cons lookO Sub.nil)))) (show Fit κ _ (blk b1 [I64 (nd), v] 28 :: I) from Fit.sub)
   ·refine W.exit ?_
    refine V.then_exit ?_
    refine V.then_exit ?_
    refine V.block_hit ?_
    refine V.then ?_
    refine W.sr ?_
    refine G.r (Runs.assign rfl) ?_
    refine G.nt ?_
    refine W.ret ?_
    exact V.ret1 rfl rfl (I) Fit.m ⟨rfl, rfl⟩

end Go.Sl
namespace Go.Sl
open Go.Proofs
set_option linter.unusedVariables false
set_option linter.unusedSimpArgs false
set_option maxRecDepth 4000
end Go.Sl
namespace Go.Sl
open Go.Proofs
set_option linter.unusedVariables false
set_option linter.unusedSimpArgs false
set_option maxRecDepth 4000
end Go.Sl
