/- A part of the proofs of statements of this seat: contracts of functions, and the plain laws that they lean on. No conditions. -/
import Derived.Test.YtbimaodbcjjbfaaDoorParts9
import Derived.Test.YtbimaodbcjjbfaaDoorRunsT
namespace Go.Sl
open Go.Proofs
set_option linter.unusedVariables false
set_option linter.unusedSimpArgs false
set_option maxRecDepth 4000
end Go.Sl
namespace Go.Sl
open Go.Proofs
set_option linter.unusedVariables false
set_option linter.unusedSimpArgs false
set_option maxRecDepth 4000
theorem rows_eq {α : Type} {xs ys : List (RowG α)} : xs.map RowG.xs = ys.map RowG.xs ↔ xs.length = ys.length ∧ ∀ j : Nat, j < xs.length → (at_ xs (j : Int)).xs = (at_ ys (j : Int)).xs := by
  have key : ∀ {zs : List (RowG α)} {j : Nat} (h : j < zs.length), (zs.map RowG.xs)[j]'(by simpa using h) = (at_ zs (j : Int)).xs := fun {zs j} h => by
    rw [List.getElem_map, at_nat, List.getD_eq_getElem?_getD, List.getElem?_eq_getElem h]; rfl
  constructor
  · intro h
    have hl : xs.length = ys.length := by have := congrArg List.length h; simpa using this
    refine ⟨hl, fun j hj => ?_⟩
    rw [← key hj, ← key (by omega : j < ys.length)]
    simp only [h]
  · rintro ⟨hl, h⟩
    refine List.ext_getElem (by simpa using hl) fun j h1 h2 => ?_
    rw [key (by simpa using h1), key (by simpa using h2)]
    exact h j (by simpa using h1)
structure GrV where
  n : Int
  a : Option Addr
  c : Nat
  xs : List Pt
instance : Inhabited GrV := ⟨⟨0, none, 0, []⟩⟩
instance : Enc GrV := ⟨fun r => [I64 r.n, .slice r.a r.xs.length r.c], 2, by omega, fun _ => rfl, fun r u hu => by
  simp only [List.mem_cons, List.not_mem_nil, or_false] at hu
  rcases hu with rfl | rfl <;> rfl⟩
def HeldGr (κ : Ctx) (I : List Item) (rs : List GrV) : Prop := ∀ r ∈ rs, Sl κ I (.slice r.a r.xs.length r.c) r.xs
theorem HeldGr.nil {κ : Ctx} {I : List Item} : HeldGr κ I [] := fun r hr => by cases hr
theorem HeldGr.cons {κ : Ctx} {I : List Item} {r : GrV} {rs : List GrV} (h1 : Sl κ I (.slice r.a r.xs.length r.c) r.xs) (h : HeldGr κ I rs) : HeldGr κ I (r :: rs) := fun x hx => by
  rcases List.mem_cons.1 hx with rfl | hx
  · exact h1
  · exact h x hx
theorem HeldGr.at {κ : Ctx} {I : List Item} {rs : List GrV} (h : HeldGr κ I rs) {i : Int} (h0 : 0 ≤ i) (hn : i < rs.length) : Sl κ I (.slice (at_ rs i).a (at_ rs i).xs.length (at_ rs i).c) (at_ rs i).xs := h _ (at_mem h0 hn)

theorem SameAll_ok {κ : Ctx} {I : List Item} {va vb : Value} {xs ys : List (RowG Int)} (hx : Sl κ I va xs) (hy : Sl κ I vb ys) (h1 : HeldAll κ I xs) (h2 : HeldAll κ I ys) :
    CallS Tryd.prog κ 38 [va, vb] I (fun r J => r = .bool (decide (xs.map RowG.xs = ys.map RowG.xs)) ∧ I = J) := by
 refine CallS.pull hx.le fun hmax => ?_
 refine CallS.enter (L := [(0, va), (1, vb)]) Tryd.func38 rfl rfl rfl rfl ?_
 refine W.sr ?_
 refine G.r (Runs.assign rfl) ?_
 refine G.nt ?_
 refine W.seq ?_
 refine W.sr ?_
 refine G.r (Runs.move rfl) ?_
 refine G.r (Runs.lenT (α := (RowG Int)) (xs := xs) Tryd.underlying50 rfl (Sl.f hx)) ?_
 refine G.r (Runs.move rfl) ?_
 refine G.r (Runs.lenT (α := (RowG Int)) (xs := ys) Tryd.underlying50 rfl (Sl.f hy)) ?_
 refine G.r (Runs.neq rfl rfl) ?_
 refine G.nt ?_
 refine W.ite rfl (fun c10 => ?_) (fun c10 => ?_)
 ·refine W.sr ?_
  refine G.r (Runs.assign rfl) ?_
  refine G.nt ?_
  refine W.ret ?_
  refine V.then_ret ?_
  exact V.ret1 rfl rfl (I) Fit.m ⟨by rw [decide_eq_false (fun h => c10 (by have := (rows_eq.1 h).1; omega))], rfl⟩
 ·refine W.skip ?_
  refine V.then ?_
  refine W.seq ?_
  refine W.sr ?_
  refine G.r (Runs.move rfl) ?_
  refine G.r (Runs.lenT (α := (RowG Int)) (xs := xs) Tryd.underlying50 rfl (Sl.f hx)) ?_
  refine G.r (Runs.move rfl) ?_
  refine G.nt ?_
  refine W.block ?_
  refine W.loop (σ := Nat) (fun s => ([(0, va), (1, vb), (12, I64 (((xs.length : Nat) : Int))), (13, I64 (((s : Nat) : Int)))] : Env)) (fun s => I) (fun s => (s ≤ xs.length) ∧ (∀ j : Nat, j < s → (at_ xs (j : Int)).xs = (at_ ys (j : Int)).xs)) (fun s => xs.length - s) (0) (show ((0 : Nat) ≤ xs.length) ∧ (∀ j : Nat, j < (0 : Nat) → (at_ xs (j : Int)).xs = (at_ ys (j : Int)).xs) from ⟨(by omega), all_zero⟩) (Sub.cons rfl (Sub.cons rfl (Sub.cons rfl (Sub.cons lookO Sub.nil)))) (show Fit κ _ (I) from Fit.sub) ?_
  rintro k hp
  obtain ⟨hk, hn⟩ : (k ≤ xs.length) ∧ (∀ j : Nat, j < k → (at_ xs (j : Int)).xs = (at_ ys (j : Int)).xs) := hp
  show W Tryd.prog κ 27 _ _ ([(0, va), (1, vb), (12, I64 (((xs.length : Nat) : Int))), (13, I64 (((k : Nat) : Int)))] : Env) (I)
  refine W.sr ?_
  refine G.r (Runs.lss rfl rfl) ?_
  refine G.nt ?_
  refine W.seq ?_
  refine W.ite rfl (fun c14 => ?_) (fun c14 => ?_)
  ·refine W.skip ?_
   refine V.then ?_
   refine W.seq ?_
   refine W.block ?_
   refine W.sr ?_
   refine G.r (Runs.move rfl) ?_
   refine G.r (Runs.assign rfl) ?_
   refine G.nt ?_
   refine W.seq ?_
   refine W.drawn mixed ?_
   refine A.hold (I) 10 ?_
   refine D.r 0 rfl (Runs.move rfl) ?_ (hJ := Fit.sub)
   refine D.r 1 rfl (Runs.move rfl) ?_ (hJ := Fit.sub)
   refine D.r 2 rfl (Runs.idx (α := (RowG Int)) (xs := xs) Tryd.underlying50 ty22 rfl rfl (Sl.f hx) (by omega) (by omega)) ?_ (hJ := Fit.sub)
   refine D.r 3 rfl (Runs.getf0 (α := (RowG Int)) (xs := xs) (u := .slice (at_ xs ((k : Nat) : Int)).a (at_ xs ((k : Nat) : Int)).xs.length (at_ xs ((k : Nat) : Int)).c) ty22 rfl (Sl.f hx) (by omega) (by omega) rfl) ?_ (hJ := Fit.sub)
   refine D.r 4 rfl (Runs.move rfl) ?_ (hJ := Fit.sub)
   refine D.r 5 rfl (Runs.move rfl) ?_ (hJ := Fit.sub)
   refine D.r 6 rfl (Runs.idx (α := (RowG Int)) (xs := ys) Tryd.underlying50 ty22 rfl rfl (Sl.f hy) (by omega) (by omega)) ?_ (hJ := Fit.sub)
   refine D.r 7 rfl (Runs.getf0 (α := (RowG Int)) (xs := ys) (u := .slice (at_ ys ((k : Nat) : Int)).a (at_ ys ((k : Nat) : Int)).xs.length (at_ ys ((k : Nat) : Int)).c) ty22 rfl (Sl.f hy) (by omega) (by omega) rfl) ?_ (hJ := Fit.sub)
   refine D.step (rs := [8]) (by kernel_rfl) rfl rfl (all1 ?_)
   refine Step.eff rfl (Wanted.plain rfl) (Eff.call call27 rfl rfl (Same_ok (Sl.fit (HeldAll.at h1 (i := ((k : Nat) : Int)) (by omega) (by omega)) Fit.m) (Sl.fit (HeldAll.at h2 (i := ((k : Nat) : Int)) (by omega) (by omega)) Fit.m))) ?_
   rintro _ _ ⟨_, _, ⟨rfl, rfl⟩, rfl, rfl⟩
   refine ⟨Fit.sub, ?_⟩
   refine D.r 9 rfl (Runs.notd rfl) ?_ (hJ := Fit.sub)
   refine D.done (by kernel_rfl) ?_
   refine V.then ?_
   refine W.sub (L' := [(25, _), (0, _), (1, _), (12, _), (13, _)]) (Sub.cons rfl (Sub.cons rfl (Sub.cons rfl (Sub.cons rfl (Sub.cons rfl Sub.nil))))) ?_
   refine W.ite rfl (fun c25 => ?_) (fun c25 => ?_)
   ·refine W.sr ?_
    refine G.r (Runs.assign rfl) ?_
    refine G.nt ?_
    refine W.ret ?_
    refine V.block_ret ?_
    refine V.then_ret ?_
    refine V.then_ret ?_
    refine V.block_ret ?_
    refine V.then_ret ?_
    exact V.ret1 rfl rfl (I) Fit.m ⟨by rw [decide_eq_false (fun h => c25 ((rows_eq.1 h).2 k (by omega)))], rfl⟩
   ·refine W.skip ?_
    refine V.block_normal ?_
    refine V.then ?_
    refine W.region ?_
    refine G.r (Runs.add rfl rfl (by unfold InR; omega)) ?_
    refine G.r (Runs.move rfl) ?_
    refine G.nil ?_
    exact V.next ((k + 1)) (show ((k + 1 : Nat) ≤ xs.length) ∧ (∀ j : Nat, j < (k + 1 : Nat) → (at_ xs (j : Int)).xs = (at_ ys (j : Int)).xs) from ⟨(by omega), (all_succ hn (Classical.not_not.1 c25))⟩) (show xs.length - (k + 1 : Nat) < xs.length - k from (by omega)) (Sub.cons rfl (Sub.cons rfl (Sub.cons rfl (Sub.cons lookO Sub.nil)))) (show Fit κ _ (I) from Fit.sub)
  ·refine W.exit ?_
   refine V.then_exit ?_
   refine V.then_exit ?_
   refine V.block_hit ?_
   refine V.then ?_
   refine W.sr ?_
   refine G.r (Runs.assign rfl) ?_
   refine G.nt ?_
   refine W.ret ?_
   exact V.ret1 rfl rfl (I) Fit.m ⟨by rw [decide_eq_true (rows_eq.2 ⟨by omega, fun j hj => hn j (by omega)⟩)], rfl⟩

end Go.Sl
