/- A part of the proofs of statements of this seat: contracts of functions, and the plain laws that they lean on. No conditions. -/
import Derived.Test.YtbimaodbcjjbfaaDoorLib
import Derived.Shelf.SlSortCmp.NoneTotal
import Derived.Shelf.SlSortCmp.WholeK
import Derived.Test.YtbimaodbcjjbfaaDoorProg
import Derived.KernelRfl
import Derived.Test.YtbimaodbcjjbfaaDoorRunsZ
/- slices.SortFunc over owned slices: the kit's contract in this library's words. No conditions. -/
namespace Go.Sl
open Go.Proofs Go.Shelf Go.RowKit Go.Lib Go.Sort
set_option linter.unusedVariables false
set_option linter.unusedSimpArgs false

section
variable {α : Type} [Enc α] [Inhabited α]
end
/-- A contract that leaves memory as it was, in the words of the kit's sort. -/
theorem lays_of {P : Program} {f : FuncId} {args : List Value} {v : Value} {W : World} (h : CallS P ⟨W.os, W.tape, W.output, W.drawn⟩ f args [old W.heap.size W] fun r J => r = v ∧ [old W.heap.size W] = J) :
    Calls P f args.toArray W fun e w' => e = .returned v ∧ ∃ q os', w' = Sort.grow (W.drewN q) os' := (h W (Sep.begin W)).mono fun e w' ⟨r, J, he, ⟨hv, hJ⟩, hs⟩ => by
  subst hv hJ
  refine ⟨he, w'.drawn - W.drawn, w'.heap.extract W.heap.size w'.heap.size, ?_⟩
  have hb := hs.below List.mem_cons_self
  have hok : ∀ k, k < W.heap.size → w'.heap[k]? = W.heap[k]? := (hs.ok _ List.mem_cons_self).1
  have hd := hs.tape.2
  have hheap : w'.heap = W.heap ++ w'.heap.extract W.heap.size w'.heap.size := by
    apply Array.ext_getElem?
    intro k
    by_cases hk : k < W.heap.size
    · rw [Array.getElem?_append_left hk]; exact hok k hk
    · rw [Array.getElem?_append_right (by omega), Array.getElem?_extract]
      have hsz := hb.size
      by_cases hk2 : k < w'.heap.size
      · rw [if_pos (by omega)]; congr 1; omega
      · rw [Array.getElem?_eq_none (by omega)]
        split
        · omega
        · rfl
  have e : W.drawn + (w'.drawn - W.drawn) = w'.drawn := by have : W.drawn ≤ w'.drawn := hd; omega
  have hos : w'.os = W.os := hs.os
  have htp : w'.tape = W.tape := hs.tape.1
  have hou : w'.output = W.output := hs.output
  obtain ⟨heap', tape', drawn', os', out'⟩ := w'
  simp only [Sort.grow, World.drewN] at *
  subst hos htp hou
  rw [e, ← hheap]
end Go.Sl
namespace Go.Proofs
def Tryd.sort131_ren : Go.Shelf.Ren := ⟨fun | 6 => 131 | 15 => 138 | 14 => 155 | 28 => 164 | 29 => 165 | 20 => 188 | 21 => 189 | 22 => 190 | 23 => 191 | 24 => 192 | 25 => 193 | 26 => 194 | 27 => 195 | 46 => 214 | 47 => 197 | 48 => 198 | 49 => 215 | 50 => 216 | 57 => 233 | n => n, fun | 22 => 50 | 24 => 22 | 25 => 109 | 3 => 3 | 39 => 173 | 0 => 0 | 53 => 208 | 55 => 99 | 4 => 4 | 46 => 201 | 45 => 200 | 50 => 205 | 5 => 5 | 9 => 9 | 66 => 230 | 70 => 234 | 76 => 248 | 77 => 249 | n => n, fun | n => n⟩
theorem Tryd.sort131 : Go.Proofs.SlLaysF0.n6 Tryd.prog Tryd.sort131_ren := {
  mixed := by kernel_rfl,
  f6 := ⟨Tryd.f131.name, by decide, Tryd.func131.trans (congrArg some (by kernel_rfl))⟩,
  f14 := ⟨Tryd.f155.name, by decide, Tryd.func155.trans (congrArg some (by kernel_rfl))⟩,
  f15 := Tryd.func138.trans (congrArg some (by kernel_rfl)),
  f20 := ⟨Tryd.f188.name, by decide, Tryd.func188.trans (congrArg some (by kernel_rfl))⟩,
  f21 := ⟨Tryd.f189.name, by decide, Tryd.func189.trans (congrArg some (by kernel_rfl))⟩,
  f22 := ⟨Tryd.f190.name, by decide, Tryd.func190.trans (congrArg some (by kernel_rfl))⟩,
  f23 := ⟨Tryd.f191.name, by decide, Tryd.func191.trans (congrArg some (by kernel_rfl))⟩,
  f24 := ⟨Tryd.f192.name, by decide, Tryd.func192.trans (congrArg some (by kernel_rfl))⟩,
  f25 := ⟨Tryd.f193.name, by decide, Tryd.func193.trans (congrArg some (by kernel_rfl))⟩,
  f26 := ⟨Tryd.f194.name, by decide, Tryd.func194.trans (congrArg some (by kernel_rfl))⟩,
  f27 := ⟨Tryd.f195.name, by decide, Tryd.func195.trans (congrArg some (by kernel_rfl))⟩,
  f28 := Tryd.func164.trans (congrArg some (by kernel_rfl)),
  f29 := Tryd.func165.trans (congrArg some (by kernel_rfl)),
  f46 := ⟨Tryd.f214.name, by decide, Tryd.func214.trans (congrArg some (by kernel_rfl))⟩,
  f47 := Tryd.func197.trans (congrArg some (by kernel_rfl)),
  f48 := Tryd.func198.trans (congrArg some (by kernel_rfl)),
  f49 := ⟨Tryd.f215.name, by decide, Tryd.func215.trans (congrArg some (by kernel_rfl))⟩,
  f50 := ⟨Tryd.f216.name, by decide, Tryd.func216.trans (congrArg some (by kernel_rfl))⟩,
  f57 := ⟨Tryd.f233.name, by decide, Tryd.func233.trans (congrArg some (by kernel_rfl))⟩,
  t0 := Tryd.underlying0,
  a0 := Tryd.isAgg0,
  z0 := Tryd.sizeOf0,
  v0 := Tryd.zeroValue0,
  t3 := Tryd.underlying3,
  a3 := Tryd.isAgg3,
  z3 := Tryd.sizeOf3,
  v3 := Tryd.zeroValue3,
  t4 := Tryd.underlying4,
  a4 := Tryd.isAgg4,
  z4 := Tryd.sizeOf4,
  v4 := Tryd.zeroValue4,
  t5 := Tryd.underlying5,
  a5 := Tryd.isAgg5,
  z5 := Tryd.sizeOf5,
  v5 := Tryd.zeroValue5,
  t9 := Tryd.underlying9,
  a9 := Tryd.isAgg9,
  z9 := Tryd.sizeOf9,
  v9 := Tryd.zeroValue9,
  t22 := Tryd.underlying50,
  a22 := Tryd.isAgg50,
  z22 := Tryd.sizeOf50,
  v22 := Tryd.zeroValue50,
  t25 := Tryd.underlying109,
  a25 := Tryd.isAgg109,
  z25 := Tryd.sizeOf109,
  v25 := Tryd.zeroValue109,
  t39 := Tryd.underlying173,
  a39 := Tryd.isAgg173,
  z39 := Tryd.sizeOf173,
  v39 := Tryd.zeroValue173,
  t45 := Tryd.underlying200,
  a45 := Tryd.isAgg200,
  z45 := Tryd.sizeOf200,
  v45 := Tryd.zeroValue200,
  t46 := Tryd.underlying201,
  a46 := Tryd.isAgg201,
  z46 := Tryd.sizeOf201,
  v46 := Tryd.zeroValue201,
  t50 := Tryd.underlying205,
  a50 := Tryd.isAgg205,
  z50 := Tryd.sizeOf205,
  v50 := Tryd.zeroValue205,
  t53 := Tryd.underlying208,
  a53 := Tryd.isAgg208,
  z53 := Tryd.sizeOf208,
  v53 := Tryd.zeroValue208,
  t55 := Tryd.underlying99,
  a55 := Tryd.isAgg99,
  z55 := Tryd.sizeOf99,
  v55 := Tryd.zeroValue99,
  t66 := Tryd.underlying230,
  a66 := Tryd.isAgg230,
  z66 := Tryd.sizeOf230,
  v66 := Tryd.zeroValue230,
  t70 := Tryd.underlying234,
  a70 := Tryd.isAgg234,
  z70 := Tryd.sizeOf234,
  v70 := Tryd.zeroValue234,
  t76 := Tryd.underlying248,
  a76 := Tryd.isAgg248,
  z76 := Tryd.sizeOf248,
  v76 := Tryd.zeroValue248,
  t77 := Tryd.underlying249,
  a77 := Tryd.isAgg249,
  z77 := Tryd.sizeOf249,
  v77 := Tryd.zeroValue249 }
end Go.Proofs
namespace Go.Sl
open Go.Proofs
set_option linter.unusedVariables false
set_option linter.unusedSimpArgs false
set_option maxRecDepth 4000
theorem Order_ok {κ : Ctx} {I : List Item} (a c : Pt) :
    CallS Tryd.prog κ 119 [.agg #[I64 (a.u), I64 (a.v)], .agg #[I64 (c.u), I64 (c.v)]] I (fun r J => r = I64 (Pt.cmp a c) ∧ I = J) := by
 refine CallS.enter (L := [(0, .agg #[I64 (a.u), I64 (a.v)]), (1, .agg #[I64 (c.u), I64 (c.v)])]) Tryd.func119 rfl rfl rfl rfl ?_
 refine W.sr ?_
 refine G.e (Eff.box (cs := [_, _]) rfl rfl rfl) ?_
 rintro _ _ ⟨b1, rfl, rfl⟩
 refine G.e (Eff.box (cs := [_, _]) rfl rfl rfl) ?_
 rintro _ _ ⟨b2, rfl, rfl⟩
 refine G.r (Runs.assign rfl) ?_
 refine G.nt ?_
 refine W.seq ?_
 refine W.drawn mixed ?_
 refine A.hold (blk b2 [I64 (c.u), I64 (c.v)] 38 :: blk b1 [I64 (a.u), I64 (a.v)] 38 :: I) 12 ?_
 refine D.r 0 rfl (Runs.fieldAddr fld38_0 rfl) ?_
 refine D.r 1 rfl (Runs.ld ty3) ?_
 refine D.r 2 rfl (Runs.fieldAddr fld38_0 rfl) ?_
 refine D.r 3 rfl (Runs.ld ty3) ?_
 refine D.r 5 rfl (Runs.fieldAddr fld38_1 rfl) ?_
 refine D.r 6 rfl (Runs.ld ty3) ?_
 refine D.r 7 rfl (Runs.fieldAddr fld38_1 rfl) ?_
 refine D.r 8 rfl (Runs.ld ty3) ?_
 refine D.step (rs := [4]) (by kernel_rfl) rfl rfl (all1 ?_)
 refine Step.eff rfl (Wanted.plain rfl) (Eff.call call139 rfl rfl (Compare_ok a.u c.u)) ?_
 rintro _ _ ⟨_, _, ⟨rfl, rfl⟩, rfl, rfl⟩
 refine ⟨Fit.m, ?_⟩
 refine D.step (rs := [9]) (by kernel_rfl) rfl rfl (all1 ?_)
 refine Step.eff rfl (Wanted.plain rfl) (Eff.call call139 rfl rfl (Compare_ok a.v c.v)) ?_
 rintro _ _ ⟨_, _, ⟨rfl, rfl⟩, rfl, rfl⟩
 refine ⟨Fit.m, ?_⟩
 refine D.step (rs := [10]) (by kernel_rfl) rfl rfl (all1 ?_)
 refine Step.eff rfl (Wanted.plain rfl) (Eff.bs (α := Int) (cs := [_, _]) (xs := [cmpI a.u c.u, cmpI a.v c.v]) Tryd.underlying22 ty3 rfl rfl (by decide) (by decide) rfl rfl rfl rfl) ?_
 rintro _ _ ⟨ad3, rfl, rfl⟩
 refine ⟨Fit.m, ?_⟩
 refine D.step (rs := [11]) (by kernel_rfl) rfl rfl (all1 ?_)
 refine Step.eff rfl (Wanted.plain rfl) (Eff.call call147 rfl rfl (Or_ok Sl.o)) ?_
 rintro _ _ ⟨_, _, ⟨rfl, rfl⟩, rfl, rfl⟩
 refine ⟨Fit.m, ?_⟩
 refine D.stop (by kernel_rfl) ?_
 refine A.read (i := 12) (by kernel_rfl) rfl (Wanted.plain rfl) rfl rfl (Runs.assign rfl) ?_
 refine A.done (by kernel_rfl) ?_
 refine V.then ?_
 refine W.sub (L' := [(4, _)]) (Sub.cons rfl Sub.nil) ?_
 refine W.ret ?_
 exact V.ret1 rfl rfl (I) Fit.m ⟨by rw [← orL_cmp], rfl⟩

end Go.Sl
namespace Go.Sl
open Go.Proofs
set_option linter.unusedVariables false
set_option linter.unusedSimpArgs false
set_option maxRecDepth 4000
end Go.Sl
namespace Go.Sl
open Go.Proofs
set_option linter.unusedVariables false
set_option linter.unusedSimpArgs false
set_option maxRecDepth 4000
end Go.Sl
