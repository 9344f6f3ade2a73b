/- A part of the proofs of statements of this seat: contracts of functions, and the plain laws that they lean on. No conditions. -/
import Derived.Test.YtbimaodbcjjbfaaLib
import Derived.Laws.StructEq
import Derived.ChangeKeysEq
/- More operations: arrays, equality of structs and arrays, s[:h:m], conditions on bools, three results. No conditions. -/
namespace Go.Sl
open Go.RowKit (Below)
set_option linter.unusedVariables false
set_option linter.unusedSimpArgs false
set_option linter.unusedSectionVars false

/-- The model's '==' at a type is equality of what is laid in the cells. -/
def EqT (P : Program) (T : TypeId) (α : Type) [Enc α] [DecidableEq α] : Prop :=
  (∀ (x y : α) (w : World), (Op.equalIn 10000 T (.agg (Enc.enc x).toArray) (.agg (Enc.enc y).toArray)).run P w = .ok (decide (x = y)) w) ∧ P.eqGuardType P.depth T = false

section
variable {P : Program} {κ : Ctx} {N : Fr} {Q : Exit → Act → World → Prop} {L : Env} {I J : List Item}
variable {d : Option Tmp} {ty : TypeId} {ps : String} {af : Array Edge} {gd : Option (Nat × Bool)}

theorem Runs.idxArr {x y : Operand} {T E n b o sz by' : Nat} {ag : Bool} {z : List Value} {i : Int} (ht : P.underlying T = some (.array n E)) (hE : tyF P E = some (sz, ag, by', z)) (hx : evalO L x = some (.pointer (some ⟨b, o, none⟩)))
    (hy : evalO L y = some (I64 i)) (h0 : 0 ≤ i) (hn : i < n) : Runs P κ N ⟨d, .indexAddr T x y, ty, ps, af, gd⟩ L J (.pointer (some ⟨b, o + i.toNat * sz, none⟩)) :=
  fun a w ha hs => by
    simp [execOp, ha.eval hx, ha.eval hy, Instr.indexAt, asIntOf, run_underlying ht, h0, hn, run_sizeOf hE, Instr.sureAddr, addr_add]

theorem Runs.eqlT {α : Type} [Enc α] [DecidableEq α] {x y : Operand} {T U : TypeId} {a b : α} (h : EqT P T α) (hx : evalO L x = some (.agg (Enc.enc a).toArray)) (hy : evalO L y = some (.agg (Enc.enc b).toArray)) :
    Runs P κ N ⟨d, .binOp .eql T x y U, ty, ps, af, gd⟩ L J (.bool (decide (a = b))) := fun act w ha _ => by
  have hg := run_eqGuard_agg w .eql T x y (Enc.enc a).toArray (Enc.enc b).toArray h.2
  simp only [execOp, ha.eval hx, ha.eval hy]
  simp [hg, run_eql_struct, h.1]
theorem Runs.neqT {α : Type} [Enc α] [DecidableEq α] {x y : Operand} {T U : TypeId} {a b : α} (h : EqT P T α) (hx : evalO L x = some (.agg (Enc.enc a).toArray)) (hy : evalO L y = some (.agg (Enc.enc b).toArray)) :
    Runs P κ N ⟨d, .binOp .neq T x y U, ty, ps, af, gd⟩ L J (.bool (decide (a ≠ b))) := fun act w ha _ => by
  have hg := run_eqGuard_agg w .neq T x y (Enc.enc a).toArray (Enc.enc b).toArray h.2
  simp only [execOp, ha.eval hx, ha.eval hy]
  simp [hg, run_neq_struct, h.1]

theorem Runs.quo {x y : Operand} {T U : TypeId} {m n : Int} (hx : evalO L x = some (I64 m)) (hy : evalO L y = some (I64 n)) (h0 : 0 ≤ m) (h1 : 0 < n) (hr : InR m) : Runs P κ N ⟨d, .binOp .quo T x y U, ty, ps, af, gd⟩ L J (I64 (m / n)) := by
  have h := Runs.quow (P := P) (κ := κ) (N := N) (J := J) (d := d) (ty := ty) (ps := ps) (af := af) (gd := gd) (T := T) (U := U) hx hy (by omega)
  have e : IntKind.i64.wrap (Int.tdiv m n) = m / n := by
    rw [Int.tdiv_eq_ediv_of_nonneg h0]
    refine InR.wrap ?_
    have h2 : m / n ≤ m := Int.ediv_le_self n h0
    have h3 : 0 ≤ m / n := Int.ediv_nonneg h0 (by omega)
    unfold InR at *; omega
  rwa [e] at h

/-- An array out of its parts. -/
theorem Runs.buildArr {T E n sz sz' by' by'' : Nat} {ag ag' : Bool} {z z' cells : List Value} {parts : List (Nat × Operand)} {vs : List Value} (hT : tyF P T = some (sz, ag, by', z)) (ht : P.underlying T = some (.array n E)) (hE : tyF P E = some (sz', ag', by'', z'))
    (hp : evalL L (parts.map (·.2)) = some vs) (hf : Instr.fill (fun i => some (i * sz', sz')) z.toArray ((parts.map (·.1)).zip vs) = some cells.toArray) : Runs P κ N ⟨d, .build T parts.toArray, ty, ps, af, gd⟩ L J (.agg cells.toArray) :=
  fun a w ha hs => by
    obtain ⟨zv, hz, hzc⟩ := run_zeroCells hT w
    have hpp : parts.map (fun p => (p.1, a.eval p.2)) = (parts.map (·.1)).zip vs := by
      rw [← ha.evalL hp]
      clear hp hf
      induction parts with
      | nil => rfl
      | cons p ps ih => simp [ih]
    have hpp' : List.map (fun x : Nat × Operand => match x with | (i, x) => (i, a.eval x)) parts = (parts.map (·.1)).zip vs := hpp
    simp only [execOp, Instr.build, Sem.run_bind, hz, Result.andThen_ok, run_underlying ht, run_sizeOf hE, List.map_toArray, hpp', hzc, hf, Sem.run_pure]

/-- s[:h:h] -/
theorem Runs.hi3 {α : Type} [Enc α] {xs : List α} {x y y' : Operand} {T E by' n c h : Nat} {ag : Bool} {z : List Value} {ad : Option Addr} {m : Int} (ht : P.underlying T = some (.slice E)) (hE : tyF P E = some (Enc.sz α, ag, by', z)) (hx : evalO L x = some (.slice ad n c)) (hy : evalO L y = some (I64 m)) (hy' : evalO L y' = some (I64 m)) (hm : m = (h : Int))
    (hv : Sl κ J (.slice ad n c) xs) (hh : h ≤ xs.length) (h1 : 0 < h) : Runs P κ N ⟨d, .slice T x none (some y) (some y'), ty, ps, af, gd⟩ L J (.slice ad (xs.take h).length h) := fun a w ha hs => by
  subst hm
  obtain ⟨_, _, he, _, h2, _⟩ := hv w hs
  cases he
  have hc : h ≤ c := by omega
  have h3 : ((h : Int) ≤ (c : Int)) := by omega
  have key : (Instr.sliceBounds true xs.length c none (some (a.eval y)) (some (a.eval y'))).run P w = .ok (0, h, h) w := by
    simp [Instr.sliceBounds, ha.eval hy, ha.eval hy', Instr.sliceBound, asIntOf, hc]
  have hne : ¬ h = 0 := by omega
  have e : ad.map (fun x => x.add 0) = ad := by cases ad <;> simp [Addr.add]
  simp [execOp, Instr.sliceAt, Instr.slice, run_underlying ht, ha.eval hx, key, run_sizeOf hE, hne, e, List.length_take, Nat.min_eq_left hh]
theorem Sl.take3 {α : Type} [Enc α] {xs : List α} {ad : Option Addr} {n c h : Nat} (hv : Sl κ I (.slice ad n c) xs) (hh : h ≤ xs.length) : Sl κ I (.slice ad (xs.take h).length h) (xs.take h) := fun w hs => by
  obtain ⟨a, cap, he, h1, h2, h3, h4⟩ := hv w hs
  cases he
  refine ⟨ad, h, rfl, cells_length _, by rw [List.length_take]; omega, by omega, fun hc => ?_⟩
  obtain ⟨b, off, rfl, hr⟩ := h4 (by omega)
  refine ⟨b, off, rfl, fun j u hj => hr j u ?_⟩
  rw [cells_take, List.getElem?_take] at hj
  split at hj
  · exact hj
  · cases hj

theorem V.ret3 {fn : Func} {t u s : Tmp} {v v' v'' : Value} {Post : Value → List Item → Prop} (hr : fn.results = #[.tmp t, .tmp u, .tmp s]) (hv : look L t = some v) (hv' : look L u = some v') (hv'' : look L s = some v'') (J : List Item) (hf : Fit κ I J) (hp : Post (.tuple #[v, v', v'']) J) (h0 : N.ds = [] := by rfl) : V κ N (bodyPost P fn (RetR κ Post)) .ret L I :=
  fun a w ha hs => bodyPost_ret (v := .tuple #[v, v', v'']) (by simp [results, hr, ha.get t v hv, ha.get u v' hv', ha.get s v'' hv'']) (ha.defers.trans h0) ⟨_, J, rfl, hp, hf w hs⟩
end

/-- A slice as an element, with what it holds. -/
structure RowG (α : Type) where
  a : Option Addr
  c : Nat
  xs : List α
instance {α : Type} : Inhabited (RowG α) := ⟨⟨none, 0, []⟩⟩
instance {α : Type} : Enc (RowG α) := ⟨fun r => [.slice r.a r.xs.length r.c], 1, by omega, fun _ => rfl, fun r u hu => by
  simp only [List.mem_cons, List.not_mem_nil, or_false] at hu
  rcases hu with rfl
  rfl⟩
def RowG.Held {α : Type} [Enc α] (κ : Ctx) (I : List Item) (r : RowG α) : Prop := Sl κ I (.slice r.a r.xs.length r.c) r.xs
/-- Each of the rows is read. -/
def HeldAll {α : Type} [Enc α] (κ : Ctx) (I : List Item) (rs : List (RowG α)) : Prop := ∀ r ∈ rs, RowG.Held κ I r
section
variable {α : Type} [Enc α] {κ : Ctx} {I J : List Item}
theorem HeldAll.nil : HeldAll κ I ([] : List (RowG α)) := fun r hr => by cases hr
theorem HeldAll.push {rs : List (RowG α)} {r : RowG α} (h : HeldAll κ I rs) (hr : RowG.Held κ I r) : HeldAll κ I (rs ++ [r]) := fun x hx => by
  rcases List.mem_append.1 hx with hx | hx
  · exact h x hx
  · rw [List.mem_singleton.1 hx]; exact hr
theorem HeldAll.at {rs : List (RowG α)} (h : HeldAll κ I rs) {i : Int} (h0 : 0 ≤ i) (hn : i < rs.length) : Sl κ I (.slice (at_ rs i).a (at_ rs i).xs.length (at_ rs i).c) (at_ rs i).xs :=
  h _ (by rw [at_eq h0 hn]; exact List.getElem_mem _)
theorem HeldAll.fit {rs : List (RowG α)} (h : HeldAll κ I rs) (hf : Fit κ J I) : HeldAll κ J rs := fun r hr => (h r hr : Sl κ I _ _).fit hf
end
end Go.Sl
