/- A part of the proofs of statements of this seat: contracts of functions, and the plain laws that they lean on. No conditions. -/
import Derived.Test.YtbimaodbcjjbfaaDoorLib
import Derived.Laws.StructEq
import Derived.ChangeKeysEq
/- More operations: arrays, equality of structs and arrays, s[:h:m], conditions on bools, three results. No conditions. -/
namespace Go.Sl
open Go.RowKit (Below)
set_option linter.unusedVariables false
set_option linter.unusedSimpArgs false
set_option linter.unusedSectionVars false

section
variable {P : Program} {κ : Ctx} {N : Nat} {Q : Exit → Act → World → Prop} {L : Env} {I J : List Item}
variable {d : Option Tmp} {ty : TypeId} {ps : String} {af : Array Edge} {gd : Option (Nat × Bool)}

/-- s[:h:h] -/
theorem Runs.hi3 {α : Type} [Enc α] {xs : List α} {x y y' : Operand} {T E by' n c h : Nat} {ag : Bool} {z : List Value} {ad : Option Addr} {m : Int} (ht : P.underlying T = some (.slice E)) (hE : tyF P E = some (Enc.sz α, ag, by', z)) (hx : evalO L x = some (.slice ad n c)) (hy : evalO L y = some (I64 m)) (hy' : evalO L y' = some (I64 m)) (hm : m = (h : Int))
    (hv : Sl κ J (.slice ad n c) xs) (hh : h ≤ xs.length) (h1 : 0 < h) : Runs P κ N ⟨d, .slice T x none (some y) (some y'), ty, ps, af, gd⟩ L J (.slice ad (xs.take h).length h) := fun a w ha hs => by
  subst hm
  obtain ⟨_, _, he, _, h2, _⟩ := hv w hs
  cases he
  have hc : h ≤ c := by omega
  have h3 : ((h : Int) ≤ (c : Int)) := by omega
  have key : (Instr.sliceBounds true xs.length c none (some (a.eval y)) (some (a.eval y'))).run P w = .ok (0, h, h) w := by
    simp [Instr.sliceBounds, ha.eval hy, ha.eval hy', Instr.sliceBound, asIntOf, hc]
  have hne : ¬ h = 0 := by omega
  have e : ad.map (fun x => x.add 0) = ad := by cases ad <;> simp [Addr.add]
  simp [execOp, Instr.sliceAt, Instr.slice, run_underlying ht, ha.eval hx, key, run_sizeOf hE, hne, e, List.length_take, Nat.min_eq_left hh]
end

/-- A slice as an element, with what it holds. -/
structure RowG (α : Type) where
  a : Option Addr
  c : Nat
  xs : List α
instance {α : Type} : Inhabited (RowG α) := ⟨⟨none, 0, []⟩⟩
instance {α : Type} : Enc (RowG α) := ⟨fun r => [.slice r.a r.xs.length r.c], 1, by omega, fun _ => rfl, fun r u hu => by
  simp only [List.mem_cons, List.not_mem_nil, or_false] at hu
  rcases hu with rfl
  rfl⟩
def RowG.Held {α : Type} [Enc α] (κ : Ctx) (I : List Item) (r : RowG α) : Prop := Sl κ I (.slice r.a r.xs.length r.c) r.xs
/-- Each of the rows is read. -/
def HeldAll {α : Type} [Enc α] (κ : Ctx) (I : List Item) (rs : List (RowG α)) : Prop := ∀ r ∈ rs, RowG.Held κ I r
section
variable {α : Type} [Enc α] {κ : Ctx} {I J : List Item}
theorem HeldAll.nil : HeldAll κ I ([] : List (RowG α)) := fun r hr => by cases hr
theorem HeldAll.push {rs : List (RowG α)} {r : RowG α} (h : HeldAll κ I rs) (hr : RowG.Held κ I r) : HeldAll κ I (rs ++ [r]) := fun x hx => by
  rcases List.mem_append.1 hx with hx | hx
  · exact h x hx
  · rw [List.mem_singleton.1 hx]; exact hr
theorem HeldAll.at {rs : List (RowG α)} (h : HeldAll κ I rs) {i : Int} (h0 : 0 ≤ i) (hn : i < rs.length) : Sl κ I (.slice (at_ rs i).a (at_ rs i).xs.length (at_ rs i).c) (at_ rs i).xs :=
  h _ (by rw [at_eq h0 hn]; exact List.getElem_mem _)
theorem HeldAll.fit {rs : List (RowG α)} (h : HeldAll κ I rs) (hf : Fit κ J I) : HeldAll κ J rs := fun r hr => (h r hr : Sl κ I _ _).fit hf
end
end Go.Sl
