/- A part of the proofs of statements of this seat: contracts of functions, and the plain laws that they lean on. No conditions. -/
import Derived.WalkKit
import Derived.OrdersHeld
import Derived.KernelRfl
/- A small separation logic over the guide's weakest preconditions: environments of slots, resources of memory. No conditions. -/
namespace Go.Sl
set_option linter.unusedVariables false
open Go.RowKit (Below)

/-! ### Environments: what is known of a frame's slots -/
abbrev Env := List (Nat × Value)

def look : Env → Nat → Option Value
  | [], _ => none
  | (k, v) :: L, t => bif Nat.beq k t then some v else look L t

def evalO (L : Env) : Operand → Option Value
  | .tmp t => look L t
  | .const v => some v
  | .global g => some (.pointer (some ⟨g, 0, none⟩))
  | .func f => some (.func (.func f) #[] #[])

/-- A frame: how many slots, and what is deferred. -/
structure Fr where
  n : Nat
  ds : List Deferred
instance (n : Nat) : OfNat Fr n := ⟨⟨n, []⟩⟩
/-- The activation 'a' has N's slots and deferred calls, and its slots read as L says. -/
structure Ag (N : Fr) (a : Act) (L : Env) : Prop where
  defers : a.defers = N.ds
  size : a.tmps.size = N.n
  get : ∀ t v, look L t = some v → a.tmps[t]? = some v

theorem Ag.eval {N : Fr} {a : Act} {L : Env} (h : Ag N a L) {x : Operand} {v : Value} (hx : evalO L x = some v) : a.eval x = v := by
  cases x with
  | tmp t => simp only [evalO] at hx; simp [Act.eval, h.get t v hx]
  | const c => simp only [evalO, Option.some.injEq] at hx; exact hx
  | global g => simp only [evalO, Option.some.injEq] at hx; exact hx
  | func f => simp only [evalO, Option.some.injEq] at hx; exact hx

theorem look_cons (k : Nat) (v : Value) (L : Env) (t : Nat) : look ((k, v) :: L) t = if k = t then some v else look L t := by
  simp only [look]
  by_cases h : k = t
  · simp [h]
  · have : Nat.beq k t = false := by
      rw [← Bool.not_eq_true, Nat.beq_eq]; exact h
    simp [this, h]

theorem Ag.put {N : Fr} {a : Act} {L : Env} (h : Ag N a L) (d : Nat) (hd : Nat.blt d N.n = true) (v : Value) : Ag N (a.put (some d) v) ((d, v) :: L) := by
  have hd' : d < N.n := by simpa using hd
  refine ⟨h.defers, by simp [Act.put, h.size], fun t u hu => ?_⟩
  rw [look_cons] at hu
  simp only [Act.put]
  by_cases ht : d = t
  · subst ht
    simp only [if_true, Option.some.injEq] at hu
    subst hu
    simp [h.size, hd']
  · simp only [ht, if_false] at hu
    rw [Array.getElem?_setIfInBounds_ne ht]
    exact h.get t u hu

/-- L' says no more than L. -/
def Sub (L : Env) : Env → Prop
  | [] => True
  | (k, v) :: L' => look L k = some v ∧ Sub L L'

theorem Sub.nil {L : Env} : Sub L [] := trivial
theorem Sub.cons {L L' : Env} {k : Nat} {v : Value} (h : look L k = some v) (t : Sub L L') : Sub L ((k, v) :: L') := ⟨h, t⟩

theorem Sub.get {L : Env} : ∀ {L' : Env}, Sub L L' → ∀ t v, look L' t = some v → look L t = some v
  | [], _, t, v, h => by simp [look] at h
  | (k, u) :: L', hs, t, v, h => by
    rw [look_cons] at h
    by_cases hk : k = t
    · subst hk
      simp only [if_true, Option.some.injEq] at h
      subst h
      exact hs.1
    · simp only [hk, if_false] at h
      exact Sub.get hs.2 t v h

theorem Ag.sub {N : Fr} {a : Act} {L L' : Env} (h : Ag N a L) (hs : Sub L L') : Ag N a L' :=
  ⟨h.defers, h.size, fun t v hv => h.get t v (hs.get t v hv)⟩

theorem Ag.nil {N : Fr} {a : Act} {L : Env} (h : Ag N a L) : Ag N a [] := h.sub trivial

/-- The arguments in the first slots. -/
def argEnv : Nat → List Value → Env
  | _, [] => []
  | k, v :: vs => (k, v) :: argEnv (k + 1) vs

theorem look_argEnv (t : Nat) (u : Value) : ∀ (vs : List Value) (k : Nat), look (argEnv k vs) t = some u → ∃ j, t = k + j ∧ vs[j]? = some u
  | [], k, h => by simp [argEnv, look] at h
  | v :: vs, k, h => by
    rw [argEnv, look_cons] at h
    by_cases hk : k = t
    · simp only [hk, if_true, Option.some.injEq] at h
      exact ⟨0, by omega, by simp [h]⟩
    · simp only [hk, if_false] at h
      obtain ⟨j, hj, hv⟩ := look_argEnv t u vs (k + 1) h
      exact ⟨j + 1, by omega, by simpa using hv⟩

theorem Ag.start (args : List Value) (N : Nat) (hN : args.length ≤ N) :
    Ag ⟨N, []⟩ { tmps := args.toArray ++ Array.replicate (N - args.toArray.size) undef, defers := [] } (argEnv 0 args) := by
  refine ⟨rfl, by simp; omega, fun t v hv => ?_⟩
  obtain ⟨j, hj, hv⟩ := look_argEnv t v args 0 hv
  have hl : j < args.length := (List.getElem?_eq_some_iff.1 hv).1
  obtain rfl : t = j := by omega
  rw [Array.getElem?_append_left (by simpa using hl)]
  simpa using hv

/-! ### Resources -/
/-- A resource: the blocks that it owns, and what holds of them. -/
structure Item where
  fp : Nat → Prop
  ok : World → Prop
  loc : ∀ w w' : World, (∀ k, fp k → w'.heap[k]? = w.heap[k]?) → ok w → ok w'

structure Ctx where
  os : Os
  tape : Nat → Question → Nat
  output : Array (Nat × ByteArray)
  drawn : Nat

def Item.apart (x y : Item) : Prop := ∀ k, x.fp k → ¬ y.fp k

/-- The world's blocks hold the resources of I, apart from one another; the streams are as κ says. -/
structure Sep (κ : Ctx) (w : World) (I : List Item) : Prop where
  os : w.os = κ.os
  tape : w.tape = κ.tape ∧ κ.drawn ≤ w.drawn
  output : w.output = κ.output
  ok : ∀ x ∈ I, x.ok w ∧ ∀ k, x.fp k → k < w.heap.size
  pw : I.Pairwise Item.apart

theorem Item.apart.symm {x y : Item} (h : x.apart y) : y.apart x := fun k hy hx => h k hx hy

variable {κ : Ctx}

theorem Sep.perm {w : World} {I J : List Item} (h : Sep κ w I) (hp : I.Perm J) : Sep κ w J :=
  ⟨h.os, h.tape, h.output, fun x hx => h.ok x (hp.mem_iff.2 hx), (hp.pairwise_iff (fun h => h.symm)).1 h.pw⟩

theorem Sep.sublist {w : World} {I J : List Item} (h : Sep κ w I) (hs : J.Sublist I) : Sep κ w J :=
  ⟨h.os, h.tape, h.output, fun x hx => h.ok x (hs.mem hx), h.pw.sublist hs⟩

theorem Sep.tail {w : World} {x : Item} {I : List Item} (h : Sep κ w (x :: I)) : Sep κ w I := h.sublist (List.sublist_cons_self x I)

/-- J is told by I. -/
def Fit (κ : Ctx) (I J : List Item) : Prop := ∀ w, Sep κ w I → Sep κ w J

theorem Fit.refl (I : List Item) : Fit κ I I := fun _ h => h
theorem Fit.trans {I J K : List Item} (h : Fit κ I J) (k : Fit κ J K) : Fit κ I K := fun w s => k w (h w s)
theorem Fit.tail {x : Item} {I J : List Item} (h : Fit κ I J) : Fit κ (x :: I) J := fun w s => h w s.tail
theorem Fit.of_sublist {I J : List Item} (h : J.Sublist I) : Fit κ I J := fun _ s => s.sublist h
theorem Fit.perm {I J : List Item} (h : I.Perm J) : Fit κ I J := fun _ s => s.perm h
/-- x stands in I, and I' is the rest. -/
inductive Pick : List Item → Item → List Item → Prop
  | head (x : Item) (I : List Item) : Pick (x :: I) x I
  | tail {I I' : List Item} {x : Item} (y : Item) (h : Pick I x I') : Pick (y :: I) x (y :: I')
theorem Pick.perm {I I' : List Item} {x : Item} (h : Pick I x I') : I.Perm (x :: I') := by
  induction h with
  | head => exact .refl _
  | tail y _ ih => exact (ih.cons y).trans (.swap _ _ _)
/-- J is I in another order, and perhaps without some. -/
inductive Sp : List Item → List Item → Prop
  | refl (I : List Item) : Sp I I
  | pick {I I' J : List Item} {x : Item} (h : Pick I x I') (h2 : Sp I' J) : Sp I (x :: J)
  | skip {I J : List Item} (x : Item) (h2 : Sp I J) : Sp (x :: I) J
theorem Sp.out {I J : List Item} (h : Sp I J) : ∃ K, I.Perm K ∧ J.Sublist K := by
  induction h with
  | refl I => exact ⟨I, .refl _, .refl _⟩
  | pick h _ ih =>
    obtain ⟨K, h1, h2⟩ := ih
    exact ⟨_ :: K, h.perm.trans (h1.cons _), h2.cons_cons _⟩
  | skip x _ ih =>
    obtain ⟨K, h1, h2⟩ := ih
    exact ⟨x :: K, h1.cons x, h2.cons x⟩
theorem Fit.sp {I J : List Item} (h : Sp I J) : Fit κ I J := fun w s => by
  obtain ⟨K, h1, h2⟩ := h.out
  exact (s.perm h1).sublist h2
theorem Fit.appR (xs I : List Item) : Fit κ (xs ++ I) I := Fit.of_sublist (List.sublist_append_right _ _)
theorem Fit.appL {A I J : List Item} (h : Fit κ I J) : Fit κ (A ++ I) J := Fit.trans (Fit.appR _ _) h
theorem Fit.cons {x : Item} {I J : List Item} (h : J.Sublist I) : Fit κ (x :: I) (x :: J) := Fit.of_sublist (h.cons_cons x)

/-- A world in which no block of I has turned. -/
theorem Sep.frame {w w' : World} {I : List Item} (h : Sep κ w I) (ho : w'.os = w.os) (ht : w'.tape = w.tape ∧ w.drawn ≤ w'.drawn) (hu : w'.output = w.output) (hs : w.heap.size ≤ w'.heap.size)
    (hk : ∀ x ∈ I, ∀ k, x.fp k → w'.heap[k]? = w.heap[k]?) : Sep κ w' I :=
  ⟨ho.trans h.os, ⟨ht.1.trans h.tape.1, Nat.le_trans h.tape.2 ht.2⟩, hu.trans h.output, fun x hx => ⟨x.loc w w' (hk x hx) (h.ok x hx).1, fun k hf => Nat.lt_of_lt_of_le ((h.ok x hx).2 k hf) hs⟩, h.pw⟩

theorem Sep.drew {w : World} {I : List Item} (h : Sep κ w I) : Sep κ w.drew I := h.frame rfl ⟨rfl, Nat.le_succ _⟩ rfl (Nat.le_refl _) fun _ _ _ _ => rfl

/-- A new block. -/
theorem Sep.alloc {w : World} {I : List Item} (h : Sep κ w I) (o : Obj) : Sep κ (w.alloc o) I :=
  h.frame rfl ⟨rfl, Nat.le_refl _⟩ rfl (by simp) fun x hx k hf => Go.RowKit.Below.heap_alloc w o k ((h.ok x hx).2 k hf)

theorem Sep.cons {w : World} {x : Item} {I : List Item} (h : Sep κ w I) (hx : x.ok w) (hb : ∀ k, x.fp k → k < w.heap.size) (ha : ∀ y ∈ I, ∀ k, x.fp k → ¬ y.fp k) : Sep κ w (x :: I) :=
  ⟨h.os, h.tape, h.output, fun y hy => by
    rcases List.mem_cons.1 hy with rfl | hy
    · exact ⟨hx, hb⟩
    · exact h.ok y hy, List.pairwise_cons.2 ⟨ha, h.pw⟩⟩

theorem Sep.new {w w' : World} {x : Item} {I : List Item} (h : Sep κ w I) (h' : Sep κ w' I) (hx : x.ok w') (hb : ∀ k, x.fp k → w.heap.size ≤ k ∧ k < w'.heap.size) : Sep κ w' (x :: I) :=
  h'.cons hx (fun k hk => (hb k hk).2) fun y hy k hk hyk => by
    have := (h.ok y hy).2 k hyk
    have := (hb k hk).1
    omega

/-- I with the item x in one place, I' with x' in that place. -/
inductive At : List Item → Item → Item → List Item → Prop
  | head (x x' : Item) (I : List Item) : At (x :: I) x x' (x' :: I)
  | tail {I I' : List Item} {x x' : Item} (y : Item) (h : At I x x' I') : At (y :: I) x x' (y :: I')

theorem At.mem {I I' : List Item} {x x' : Item} (h : At I x x' I') : x ∈ I := by
  induction h with
  | head => exact List.mem_cons_self
  | tail y _ ih => exact List.mem_cons_of_mem _ ih

theorem At.perm {I I' : List Item} {x x' : Item} (h : At I x x' I') : ∃ J, I.Perm (x :: J) ∧ I'.Perm (x' :: J) := by
  induction h with
  | head x x' I => exact ⟨I, .refl _, .refl _⟩
  | @tail I I' x x' y _ ih =>
    obtain ⟨J, h1, h2⟩ := ih
    exact ⟨y :: J, (h1.cons y).trans (.swap x y J), (h2.cons y).trans (.swap x' y J)⟩

/-- I with x in one place; F puts something else there. -/
inductive AtF : List Item → Item → (Item → List Item) → Prop
  | head (x : Item) (I : List Item) : AtF (x :: I) x (fun x' => x' :: I)
  | tail {I : List Item} {x : Item} {F : Item → List Item} (y : Item) (h : AtF I x F) : AtF (y :: I) x (fun x' => y :: F x')

theorem AtF.perm {I : List Item} {x : Item} {F : Item → List Item} (h : AtF I x F) : ∃ J, I.Perm (x :: J) ∧ ∀ x', (F x').Perm (x' :: J) := by
  induction h with
  | head x I => exact ⟨I, .refl _, fun _ => .refl _⟩
  | @tail I x F y _ ih =>
    obtain ⟨J, h1, h2⟩ := ih
    exact ⟨y :: J, (h1.cons y).trans (.swap x y J), fun x' => ((h2 x').cons y).trans (.swap x' y J)⟩

/-- One resource has turned, no other one. -/
theorem Sep.upd {w w' : World} {I I' : List Item} {x x' : Item} (h : Sep κ w I) (hat : At I x x' I') (ho : w'.os = w.os) (ht : w'.tape = w.tape ∧ w.drawn ≤ w'.drawn) (hu : w'.output = w.output)
    (hs : w.heap.size ≤ w'.heap.size) (hk : ∀ k, k < w.heap.size → ¬ x.fp k → w'.heap[k]? = w.heap[k]?) (hx : x'.ok w')
    (hf : ∀ k, x'.fp k → x.fp k ∨ (w.heap.size ≤ k ∧ k < w'.heap.size)) : Sep κ w' I' := by
  obtain ⟨J, h1, h2⟩ := hat.perm
  have hJ := h.perm h1
  have ha : ∀ y ∈ J, ∀ k, x.fp k → ¬ y.fp k := (List.pairwise_cons.1 hJ.pw).1
  have hJ' : Sep κ w' J := hJ.tail.frame ho ht hu hs fun y hy k hyk =>
    hk k ((hJ.tail.ok y hy).2 k hyk) fun hxk => ha y hy k hxk hyk
  refine (hJ'.cons hx (fun k hk' => ?_) fun y hy k hk' hyk => ?_).perm h2.symm
  · rcases hf k hk' with hxk | hxk
    · exact Nat.lt_of_lt_of_le ((hJ.ok x List.mem_cons_self).2 k hxk) hs
    · exact hxk.2
  · rcases hf k hk' with hxk | hxk
    · exact ha y hy k hxk hyk
    · have := (hJ.tail.ok y hy).2 k hyk
      omega

/-! ### The kinds of resources -/
/-- A block whole. -/
def blk (b : Nat) (cs : List Value) (T : TypeId) : Item where
  fp k := k = b
  ok w := w.heap[b]? = some (.cells cs.toArray T (0, 0))
  loc w w' h hw := (h b rfl).trans hw

/-- A fact that needs no memory. -/
def fact (p : Prop) : Item where
  fp _ := False
  ok _ := p
  loc _ _ _ h := h

/-- All blocks below number B, as they were in w0. -/
def old (B : Nat) (w0 : World) : Item where
  fp k := k < B
  ok w := ∀ k, k < B → w.heap[k]? = w0.heap[k]?
  loc w w' h hw k hk := (h k hk).trans (hw k hk)

/-- What is left at the end of a call: 'old' says that nothing that was there has turned. -/
theorem Sep.below {w0 w : World} {I : List Item} (h : Sep ⟨w0.os, w0.tape, w0.output, w0.drawn⟩ w I) (hm : old w0.heap.size w0 ∈ I) : Below w0.heap.size w0 w := by
  obtain ⟨hok, hb⟩ := h.ok _ hm
  refine ⟨h.os, h.tape.1, h.output, ?_, hok⟩
  by_cases h0 : w0.heap.size = 0
  · omega
  · have := hb (w0.heap.size - 1) (by show _ < _; omega)
    omega

theorem Sep.begin (w : World) : Sep ⟨w.os, w.tape, w.output, w.drawn⟩ w [old w.heap.size w] :=
  ⟨rfl, ⟨rfl, Nat.le_refl _⟩, rfl, fun x hx => by
    obtain rfl : x = old w.heap.size w := by simpa using hx
    exact ⟨fun _ _ => rfl, fun _ h => h⟩, List.pairwise_singleton _ _⟩

theorem Sep.fact {w : World} {p : Prop} {I : List Item} (h : Sep κ w (fact p :: I)) : p := (h.ok _ List.mem_cons_self).1

end Go.Sl
/- Slices in memory: readable slices, owned slices, and what the operations on them do. No conditions. -/
namespace Go.Sl
open Go.RowKit (Below)
set_option linter.unusedVariables false
set_option linter.unusedSimpArgs false

abbrev I64 (n : Int) : Value := .int .i64 n

/-! ### Types -/
def isAggD : Option TypeDesc → Bool
  | some (.struct _) => true
  | some (.array _ _) => true
  | _ => false

/-- Size in cells, whether a struct or array, bytes, the zero value's cells. -/
def tyF (P : Program) (T : TypeId) : Option (Nat × Bool × Nat × List Value) :=
  (P.info? T).bind fun i => i.zero.bind fun z => (P.underlying T).map fun d => (i.size, isAggD (some d), i.bytes, z.cells.toList)

section types
variable {P : Program} {T : TypeId} {sz by' : Nat} {ag : Bool} {z : List Value}

theorem tyF_spec (h : tyF P T = some (sz, ag, by', z)) :
    ∃ i zv d, P.info? T = some i ∧ i.zero = some zv ∧ P.underlying T = some d ∧ i.size = sz ∧ isAggD (some d) = ag ∧ i.bytes = by' ∧ zv.cells = z.toArray := by
  unfold tyF at h
  cases hi : P.info? T with
  | none => simp [hi] at h
  | some i =>
    cases hz : i.zero with
    | none => simp [hi, hz] at h
    | some zv =>
      cases hd : P.underlying T with
      | none => simp [hi, hz, hd] at h
      | some d =>
        simp [hi, hz, hd] at h
        obtain ⟨h1, h2, h3, h4⟩ := h
        exact ⟨i, zv, d, rfl, hz, rfl, h1, h2, h3, by rw [← h4]⟩

theorem run_isAgg (h : tyF P T = some (sz, ag, by', z)) (w : World) : (isAgg T).run P w = .ok ag w := by
  obtain ⟨i, zv, d, hi, hz, hd, h1, h2, h3, h4⟩ := tyF_spec h
  subst h2
  cases d <;> simp [isAgg, run_underlying hd, isAggD]

theorem run_sizeOf (h : tyF P T = some (sz, ag, by', z)) (w : World) : (sizeOf T).run P w = .ok sz w := by
  obtain ⟨i, zv, d, hi, hz, hd, h1, h2, h3, h4⟩ := tyF_spec h
  simp [sizeOf, typeInfo, hi, h1]

theorem run_zeroCells (h : tyF P T = some (sz, ag, by', z)) (w : World) : ∃ zv, (zeroValue T).run P w = .ok zv w ∧ zv.cells = z.toArray := by
  obtain ⟨i, zv, d, hi, hz, hd, h1, h2, h3, h4⟩ := tyF_spec h
  exact ⟨zv, by simp [zeroValue, typeInfo, hi, hz], h4⟩
end types

/-! ### Loads and stores -/
theorem run_loadVar_one {P : Program} {T : TypeId} {sz by' : Nat} {z : List Value} (h : tyF P T = some (sz, false, by', z)) {w : World} {a : Addr} {v : Value} (hc : w.cell? a = some v) :
    (loadVar T a).run P w = .ok v w := by
  simp [loadVar, run_isAgg h, hc]

theorem run_loadVar_agg {P : Program} {T : TypeId} {sz by' : Nat} {z : List Value} (h : tyF P T = some (sz, true, by', z)) {w : World} {a : Addr} {cs : List Value} (hl : cs.length = sz)
    (hc : ∀ j v, cs[j]? = some v → w.cell? (a.add j) = some v) : (loadVar T a).run P w = .ok (.agg cs.toArray) w := by
  subst hl
  simp [loadVar, run_isAgg h, run_sizeOf h, run_loadCells_list w a cs hc]

theorem cell_blk {w : World} {b : Nat} {cs : List Value} {T : TypeId} (h : w.heap[b]? = some (.cells cs.toArray T (0, 0))) (o : Nat) : w.cell? ⟨b, o, none⟩ = cs[o]? := by
  simp [cell_of_row w b o cs.toArray T (0, 0) h]

/-- The cells that a value is laid in. -/
def cellsOf (v : Value) : List Value := v.cells.toList

theorem run_storeVar {P : Program} {T : TypeId} {sz by' : Nat} {ag : Bool} {z : List Value} (h : tyF P T = some (sz, ag, by', z)) {w : World} {b o : Nat} {cs : List Value} {E : TypeId} {v : Value} {vs : List Value}
    (hv : cellsOf v = vs) (hl : vs.length = sz) (h1 : ∀ u ∈ vs, u.oneCell' = true) (hb : w.heap[b]? = some (.cells cs.toArray E (0, 0))) (hr : o + vs.length ≤ cs.length) :
    (storeVar T ⟨b, o, none⟩ v).run P w = .ok () (w.setRow b (cs.take o ++ vs ++ cs.drop (o + vs.length)).toArray) := by
  have hv' : v.cells = vs.toArray := by rw [← hv]; simp [cellsOf]
  have hst := run_storeCells_at P b o E vs 0 cs.toArray w hb (by simpa using hr) h1
  simp only [Nat.add_zero] at hst
  subst hl
  simp [storeVar, run_sizeOf h, hv', hst]

/-! ### Slices -/
/-- The slice v of n elements, of sz cells each, reads as the cells cs. -/
def slOk (w : World) (sz : Nat) (v : Value) (n : Nat) (cs : List Value) : Prop :=
  ∃ a cap, v = .slice a n cap ∧ cs.length = n * sz ∧ n ≤ cap ∧ cap ≤ maxLen ∧
    (0 < cap → ∃ b off, a = some ⟨b, off, none⟩ ∧ ∀ j u, cs[j]? = some u → w.cell? ⟨b, off + j, none⟩ = some u)

/-- The same, of a slice whose block is owned. -/
def vecOk (w : World) (e : TypeId) (sz : Nat) (v : Value) (n : Nat) (cs : List Value) : Prop :=
  ∃ a cap, v = .slice a n cap ∧ cs.length = n * sz ∧ n ≤ cap ∧ cap ≤ maxLen ∧
    (0 < cap → ∃ b off cur, a = some ⟨b, off, none⟩ ∧ w.heap[b]? = some (.cells cur e (0, 0)) ∧ off + cap * sz ≤ cur.size ∧ ∀ j u, cs[j]? = some u → cur[off + j]? = some u)

def ownFp (v : Value) (k : Nat) : Prop := ∃ off n cap, v = .slice (some ⟨k, off, none⟩) n cap ∧ 0 < cap

/-- An owned slice. -/
def vec (e : TypeId) (sz : Nat) (v : Value) (n : Nat) (cs : List Value) : Item where
  fp := ownFp v
  ok w := vecOk w e sz v n cs
  loc w w' h hw := by
    obtain ⟨a, cap, hv, h1, h2, h3, h4⟩ := hw
    refine ⟨a, cap, hv, h1, h2, h3, fun hc => ?_⟩
    obtain ⟨b, off, cur, ha, hb, h5, h6⟩ := h4 hc
    exact ⟨b, off, cur, ha, (h b ⟨off, n, cap, by rw [hv, ha], hc⟩).trans hb, h5, h6⟩

/-- What I says of a slice. -/
def SlRd (κ : Ctx) (I : List Item) (sz : Nat) (v : Value) (n : Nat) (cs : List Value) : Prop := ∀ w, Sep κ w I → slOk w sz v n cs

theorem vecOk.sl {w : World} {e : TypeId} {sz : Nat} {v : Value} {n : Nat} {cs : List Value} (h : vecOk w e sz v n cs) : slOk w sz v n cs := by
  obtain ⟨a, cap, hv, h1, h2, h3, h4⟩ := h
  refine ⟨a, cap, hv, h1, h2, h3, fun hc => ?_⟩
  obtain ⟨b, off, cur, ha, hb, h5, h6⟩ := h4 hc
  refine ⟨b, off, ha, fun j u hj => ?_⟩
  rw [cell_of_row w b (off + j) cur e (0, 0) hb]
  exact h6 j u hj

variable {κ : Ctx}

theorem SlRd.vec {I : List Item} {e : TypeId} {sz : Nat} {v : Value} {n : Nat} {cs : List Value} (h : vec e sz v n cs ∈ I) : SlRd κ I sz v n cs := fun _ s => vecOk.sl (s.ok _ h).1

theorem SlRd.fit {I J : List Item} {sz : Nat} {v : Value} {n : Nat} {cs : List Value} (h : SlRd κ I sz v n cs) (hf : Fit κ J I) : SlRd κ J sz v n cs := fun w s => h w (hf w s)

theorem SlRd.cons {I : List Item} {x : Item} {sz : Nat} {v : Value} {n : Nat} {cs : List Value} (h : SlRd κ I sz v n cs) : SlRd κ (x :: I) sz v n cs := fun w s => h w s.tail

theorem SlRd.nil (I : List Item) (sz : Nat) : SlRd κ I sz (.slice none 0 0) 0 [] := fun _ _ => ⟨none, 0, rfl, by simp, Nat.le_refl _, by simp, fun h => by omega⟩

theorem Sep.vec_nil {w : World} {I : List Item} (h : Sep κ w I) (e : TypeId) (sz : Nat) : Sep κ w (vec e sz (.slice none 0 0) 0 [] :: I) :=
  h.cons ⟨none, 0, rfl, by simp, Nat.le_refl _, by simp, fun h => by omega⟩ (fun k hk => by obtain ⟨_, _, _, h, _⟩ := hk; cases h) fun _ _ k hk => by obtain ⟨_, _, _, h, _⟩ := hk; cases h

/-- The address of cell k behind a slice's first one. -/
def elemPtr : Value → Nat → Value
  | .slice (some a) _ _, k => .pointer (some (a.add k))
  | _, _ => undef

theorem addr_add (b o k : Nat) : (⟨b, o, none⟩ : Addr).add k = ⟨b, o + k, none⟩ := Addr.add_lit b o k

theorem len_rep (z : List Value) (n : Nat) : (List.replicate n z).flatten.length = n * z.length := by simp

theorem flatten_rep (z : List Value) : ∀ (n j : Nat), 0 < z.length → j < n * z.length → (List.replicate n z).flatten[j]? = z[j % z.length]?
  | 0, j, _, h => by simp at h
  | n + 1, j, hs, h => by
    rw [List.replicate_succ, List.flatten_cons]
    by_cases hj : j < z.length
    · rw [List.getElem?_append_left hj, Nat.mod_eq_of_lt hj]
    · rw [List.getElem?_append_right (by omega), flatten_rep z n (j - z.length) hs (by rw [Nat.add_mul] at h; omega)]
      congr 1
      rw [← Nat.mod_eq_sub_mod (by omega)]

/-! ### What the builtins and instructions on slices do -/
section runs
variable {P : Program} {w : World}

theorem run_firstCells_sl {sz : Nat} {v : Value} {n : Nat} {cs : List Value} (h : slOk w sz v n cs) : (Builtin.firstCells sz n v).run P w = .ok cs.toArray w := by
  obtain ⟨a, cap, rfl, h1, h2, h3, h4⟩ := h
  by_cases hc : 0 < cap
  · obtain ⟨b, off, rfl, hr⟩ := h4 hc
    exact run_firstCells_some w sz n _ n cap cs h1 fun j u hj => by rw [addr_add]; exact hr j u hj
  · obtain rfl : n = 0 := by omega
    have : cs = [] := List.eq_nil_of_length_eq_zero (by simpa using h1)
    subst this
    cases a with
    | none => simp [Builtin.firstCells]
    | some a => exact run_firstCells_some w sz 0 a 0 cap [] (by simp) (by simp)

theorem slOk.drew {sz : Nat} {v : Value} {n : Nat} {cs : List Value} (h : slOk w sz v n cs) : slOk w.drew sz v n cs := h

theorem run_lenOf_sl {sz : Nat} {v : Value} {n : Nat} {cs : List Value} (h : slOk w sz v n cs) : (Builtin.lenOf v).run P w = .ok n w := by
  obtain ⟨a, cap, rfl, _⟩ := h
  simp [Builtin.lenOf]

/-- An append to an owned slice. -/
theorem run_append_vec {t ty e : TypeId} (ht : P.underlying t = some (.slice e)) {sz by' : Nat} {ag : Bool} {z : List Value} (hT : tyF P e = some (sz, ag, by', z)) (hzl : z.length = sz)
    {v x : Value} {n m : Nat} {cs ds : List Value} (hv : vecOk w e sz v n cs) (hx : slOk w sz x m ds) (h1 : ∀ u ∈ ds, u.oneCell' = true)
    (h63 : n + m ≤ maxLen) (hby : (n + m) * by' ≤ 140737488355328) :
    ∃ v' w', (Builtin.append_ #[t, t] ty #[v, x]).run P w = .ok v' w' ∧ vecOk w' e sz v' (n + m) (cs ++ ds) ∧
      w'.os = w.os ∧ (w'.tape = w.tape ∧ w.drawn ≤ w'.drawn) ∧ w'.output = w.output ∧ w.heap.size ≤ w'.heap.size ∧
      (∀ k, k < w.heap.size → ¬ ownFp v k → w'.heap[k]? = w.heap[k]?) ∧ (∀ k, ownFp v' k → ownFp v k ∨ (w.heap.size ≤ k ∧ k < w'.heap.size)) := by
  obtain ⟨i, zv, d, hi, hz, hd, hsz, hag, hbt, hzc⟩ := tyF_spec hT
  have hnew := run_firstCells_sl (P := P) hx
  have hlen := run_lenOf_sl (P := P) hx
  have hold := run_firstCells_sl (P := P) (w := w.drew) hv.sl.drew
  have hnew' := run_firstCells_sl (P := P) (w := w.drew) hx.drew
  obtain ⟨a, cap, rfl, hl, hnc, hcm, hcap⟩ := hv
  obtain ⟨xa, xc, rfl, hxl, _⟩ := hx
  have hll : (cs ++ ds).length = (n + m) * sz := by rw [List.length_append, hl, hxl, Nat.add_mul]
  by_cases hroom : n + m ≤ cap
  · by_cases hc : 0 < cap
    · obtain ⟨b, off, cur, rfl, hb, hsize, hcur⟩ := hcap hc
      have hfit : off + n * sz + ds.length ≤ cur.size := by
        have := Nat.mul_le_mul_right sz hroom
        rw [Nat.add_mul] at this
        omega
      have hst := run_storeCells_at P b (off + n * sz) e ds 0 cur w hb (by simpa using hfit) h1
      simp only [Nat.add_zero] at hst
      refine ⟨.slice (some ⟨b, off, none⟩) (n + m) cap, w.setRow b (cur.toList.take (off + n * sz) ++ ds ++ cur.toList.drop (off + n * sz + ds.length)).toArray, ?_, ?_, rfl, ⟨rfl, Nat.le_refl _⟩, rfl, by simp, fun k hk hne => ?_, fun k hk => ?_⟩
      · simp only [Builtin.append_, List.getElem?_toArray, List.getElem?_cons_zero, List.getElem?_cons_succ, Sem.run_bind, run_underlying ht, Result.andThen_ok, run_sizeOf hT]
        simp [run_underlying ht, hlen, hroom, hnew, addr_add, hst]
      · refine ⟨_, cap, rfl, hll, hroom, hcm, fun _ => ⟨b, off, _, rfl, setRow_heap w b cur _ e _ hb, ?_, fun j u hj => ?_⟩⟩
        · simp only [List.size_toArray, List.length_append, List.length_take, List.length_drop, Array.length_toList]
          omega
        · simp only [List.getElem?_toArray]
          by_cases hjn : j < cs.length
          · rw [List.getElem?_append_left hjn] at hj
            have := hcur j u hj
            rw [List.append_assoc, List.getElem?_append_left (by simp only [List.length_take, Array.length_toList]; omega), List.getElem?_take, if_pos (by omega)]
            simpa using this
          · rw [List.getElem?_append_right (by omega)] at hj
            have hjl : j - cs.length < ds.length := (List.getElem?_eq_some_iff.1 hj).1
            have hlt : (cur.toList.take (off + n * sz)).length = off + n * sz := by simp only [List.length_take, Array.length_toList]; omega
            rw [List.append_assoc, List.getElem?_append_right (by omega), hlt, List.getElem?_append_left (by omega), ← hj]
            congr 1
            omega
      · exact setRow_other w b k _ fun hkb => hne (by subst hkb; exact ⟨off, n, cap, rfl, hc⟩)
      · obtain ⟨o, n', c', he, hc'⟩ := hk
        cases he
        exact .inl ⟨off, n, cap, rfl, hc⟩
    · have hn : n = 0 := by omega
      have hm : m = 0 := by omega
      subst hn hm
      have hds : ds = [] := List.eq_nil_of_length_eq_zero (by simpa using hxl)
      subst hds
      refine ⟨.slice a 0 cap, w, ?_, ⟨a, cap, rfl, hll, hroom, hcm, fun h => absurd h hc⟩, rfl, ⟨rfl, Nat.le_refl _⟩, rfl, Nat.le_refl _, fun _ _ _ => rfl, fun k hk => .inl hk⟩
      simp only [Builtin.append_, List.getElem?_toArray, List.getElem?_cons_zero, List.getElem?_cons_succ, Sem.run_bind, run_underlying ht, Result.andThen_ok, run_sizeOf hT]
      cases a <;> simp [run_underlying ht, hlen, hnew, storeCells]
  · have hfits : Builtin.nextslicecap (n + m) cap * i.bytes ≤ 281474976710656 := growslice_fits (by omega) (by rw [hbt]; exact hby)
    have h63' : ¬ (9223372036854775807 < ((n : Int) + (m : Int))) := by simp only [maxLen] at h63; omega
    have h48' : ¬ (281474976710656 < Builtin.nextslicecap (n + m) cap * i.bytes) := by omega
    have hge := grownCap_ge w (n + m) cap e
    have hgm := grownCap_le_maxLen w (n + m) cap e h63
    refine ⟨.slice (some ⟨w.heap.size, 0, none⟩) (n + m) (grownCap w (n + m) cap e), w.drew.alloc (.cells ((cs ++ ds).toArray ++ Builtin.zeroCells zv.cells (grownCap w (n + m) cap e - (n + m))) e), ?_, ?_, rfl, ⟨rfl, Nat.le_succ _⟩, rfl, by simp, fun k hk _ => Below.heap_alloc w.drew _ k hk, fun k hk => ?_⟩
    · simp only [Builtin.append_, List.getElem?_toArray, List.getElem?_cons_zero, List.getElem?_cons_succ, Sem.run_bind, run_underlying ht, Result.andThen_ok, run_sizeOf hT]
      simp only [run_underlying ht, Sem.run_bind, Result.andThen_ok, hlen, Bool.not_false, if_true, if_neg hroom, Sem.run_ite, Sem.run_pure]
      simp [typeInfo, zeroValue, hi, hz, hroom, h63', h48', Question.forced, hold, hnew', newRow, grownCap, hlen, run_underlying ht]
      rw [show (cs ++ ds).toArray = cs.toArray ++ ds.toArray from by simp, Array.append_assoc]
    · refine ⟨_, _, rfl, hll, hge, hgm, fun _ => ⟨w.heap.size, 0, _, rfl, heap_alloc_new w.drew _, ?_, fun j u hj => ?_⟩⟩
      · simp only [Array.size_append, List.size_toArray, size_zeroCells, hzc, hzl, hll, ← Nat.add_mul, Nat.zero_add]
        rw [Nat.add_sub_cancel' hge]
        exact Nat.le_refl _
      · rw [Nat.zero_add, Array.getElem?_append_left (by
          have := (List.getElem?_eq_some_iff.1 hj).1
          simpa using this)]
        simpa using hj
    · obtain ⟨o, n', c', he, hc'⟩ := hk
      cases he
      exact .inr ⟨Nat.le_refl _, by simp⟩

/-- A new slice of n zero values. -/
theorem run_makeSlice_vec {t e : TypeId} (ht : P.underlying t = some (.slice e)) {sz by' : Nat} {ag : Bool} {z : List Value} (hT : tyF P e = some (sz, ag, by', z)) (hzl : z.length = sz) (n : Nat)
    (h63 : n ≤ maxLen) (hby : n * by' ≤ 281474976710656) :
    ∃ v' w', (Instr.makeSlice t (.int .i64 n) (.int .i64 n)).run P w = .ok v' w' ∧ vecOk w' e sz v' n (List.replicate n z).flatten ∧
      w'.os = w.os ∧ (w'.tape = w.tape ∧ w.drawn ≤ w'.drawn) ∧ w'.output = w.output ∧ w.heap.size ≤ w'.heap.size ∧
      (∀ k, k < w.heap.size → w'.heap[k]? = w.heap[k]?) ∧ (∀ k, ownFp v' k → (w.heap.size ≤ k ∧ k < w'.heap.size)) := by
  obtain ⟨i, zv, d, hi, hz, hd, hsz, hag, hbt, hzc⟩ := tyF_spec hT
  have hw : IntKind.i64.wrap (n : Int) = n := Go.IntWalk.i64_in _ (by simp only [maxLen] at h63; omega)
  have h1 : ¬ ((n : Int) < 0) := by omega
  have h2 : ¬ (281474976710656 < (i.bytes : Int) * n) := by
    rw [hbt]
    have h := Int.ofNat_le.2 hby
    rw [Int.natCast_mul, Int.mul_comm] at h
    omega
  have hcells : (Array.range (n * sz)).map (fun j => zv.cells[j % zv.cells.size]!) = (List.replicate n z).flatten.toArray := by
    apply Array.ext'
    simp only [Array.toList_map, Array.toList_range]
    rw [hzc]
    apply List.ext_getElem?
    intro j
    simp only [List.getElem?_map, List.size_toArray, hzl]
    by_cases hj : j < n * sz
    · have hs : 0 < sz := Nat.pos_of_ne_zero fun h => by subst h; simp at hj
      rw [List.getElem?_range hj]
      have hjm : j % sz < z.length := by rw [hzl]; exact Nat.mod_lt _ hs
      rw [flatten_rep z n j (by rw [hzl]; exact hs) (by rw [hzl]; exact hj), hzl]
      simp [hjm]
    · rw [List.getElem?_eq_none (by simpa using hj), List.getElem?_eq_none (by rw [len_rep, hzl]; omega)]
      rfl
  refine ⟨.slice (some ⟨w.heap.size, 0, none⟩) n n, w.alloc (.cells (List.replicate n z).flatten.toArray e), ?_, ?_, rfl, ⟨rfl, Nat.le_refl _⟩, rfl, by simp, fun k hk => Below.heap_alloc w _ k hk, fun k hk => ?_⟩
  · simp only [Instr.makeSlice, Sem.run_bind, run_underlying ht, Result.andThen_ok]
    by_cases hn : n * sz = 0
    · have h0 : (List.replicate n z).flatten = [] := List.eq_nil_of_length_eq_zero (by rw [len_rep, hzl]; exact hn)
      simp [asInt, asIntOf, typeInfo, hi, hw, h1, h2, hsz, sizeOf, hn, newRow, h0, Array.range_zero']
    · simp [asInt, asIntOf, typeInfo, hi, hw, h1, h2, hsz, sizeOf, hn, newRow, zeroValue, hz, hcells]
  · refine ⟨_, n, rfl, by simp [hzl], Nat.le_refl _, h63, fun _ => ⟨w.heap.size, 0, _, rfl, heap_alloc_new w _, by simp [hzl], fun j u hj => by simpa using hj⟩⟩
  · obtain ⟨o, n', c', he, hc'⟩ := hk
    cases he
    exact ⟨Nat.le_refl _, by simp⟩
end runs
end Go.Sl
/- A region whose order is open, up to an operation that all others come before. No conditions. -/
namespace Go.Sl
open Go
set_option linter.unusedVariables false

section
variable {P : Program} {ops : Array Oper} {Q : Exit → Act → World → Prop} {md : Region.Mode} {S : World → Prop}

/-- Operation number 'stop' waits for number i. -/
def waitsFor (md : Region.Mode) (ops : Array Oper) (stop i : Nat) : Bool :=
  match ops[stop]? with
  | some o => o.after.any fun e => Region.binds md e && e.on == i
  | none => true

/-- Whatever order is picked from here on, S holds behind every operation, till 'stop' alone may come up. -/
def wpAnyT (P : Program) (md : Region.Mode) (ops : Array Oper) (Q : Exit → Act → World → Prop) (S : World → Prop) (stop : Nat) : Nat → Array Bool → Act → World → Prop
  | 0, listed, a, w => Region.ready md ops listed = [] ∧ Q .normal a w
  | fuel + 1, listed, a, w =>
    (Region.ready md ops listed = [stop] → wpAny P md ops Q (fuel + 1) listed a w) ∧
    (Region.ready md ops listed ≠ [stop] → (Region.ready md ops listed = [] → Q .normal a w) ∧
      ∀ i ∈ Region.ready md ops listed, wpOp P ops Q i (fun a' w' => S w' ∧ wpAnyT P md ops Q S stop fuel (listed.setIfInBounds i true) a' w') a w)

theorem wpAny_of_T {stop : Nat} : ∀ (fuel : Nat) (listed : Array Bool) (a : Act) (w : World), wpAnyT P md ops Q S stop fuel listed a w → wpAny P md ops Q fuel listed a w
  | 0, _, _, _, h => h
  | fuel + 1, listed, a, w, h => by
    by_cases hr : Region.ready md ops listed = [stop]
    · exact h.1 hr
    · exact ⟨(h.2 hr).1, fun i hi => wpOp_mono (fun a' w' h' => wpAny_of_T fuel _ a' w' h'.2) ((h.2 hr).2 i hi)⟩

theorem ready_unlisted {listed : Array Bool} {i j : Nat} {oj : Oper} (hi : i ∈ Region.ready md ops listed) (hj : j ∈ Region.ready md ops listed) (hoj : ops[j]? = some oj) :
    ∀ e ∈ oj.after, Region.binds md e = true → e.on ≠ i := fun e he hb heq => by
  obtain ⟨_, oj', hoj', hall⟩ := mem_ready.1 hj
  rw [hoj] at hoj'
  cases hoj'
  have h1 := hall e he hb
  have h0 := (mem_ready.1 hi).1
  rw [heq] at h1
  rcases Nat.lt_or_ge i listed.size with h' | h'
  · simp [h'] at h0 h1; rw [h0] at h1; cases h1
  · simp [Array.getElem?_eq_none h'] at h1

theorem not_waits {listed : Array Bool} {i stop : Nat} (hi : i ∈ Region.ready md ops listed) (hs : stop ∈ Region.ready md ops listed) (hw : waitsFor md ops stop i = true) : False := by
  obtain ⟨_, o, ho, _⟩ := mem_ready.1 hs
  simp only [waitsFor, ho, Array.any_eq_true, Bool.and_eq_true, beq_iff_eq] at hw
  obtain ⟨k, hk, hb, heq⟩ := hw
  exact ready_unlisted hi hs ho o.after[k] (Array.getElem_mem hk) hb heq

theorem wpAnyT_first {stop i : Nat} {oi : Oper} {v : Value} (hi : ops[i]? = some oi) (hsel : ∀ (j : Nat) (o : Oper) cs b, ops[j]? = some o → o.op ≠ .select cs b) (hne : i ≠ stop) (hwait : waitsFor md ops stop i = true)
    (hQ : ∀ c a w, Q (.panic c) (a.put oi.dst v) w → Q (.panic c) a w) :
    ∀ (fuel : Nat) (listed : Array Bool) (a : Act) (w : World),
      (∀ j oj, ops[j]? = some oj → j ≠ i → listed.getD j true = false → (∀ e ∈ oj.after, Region.binds md e = true → e.on ≠ i) → oi.apart ops oj = true) →
      i ∈ Region.ready md ops listed → YieldsIf P ops S oi v a → S w →
      wpAnyT P md ops Q S stop fuel (listed.setIfInBounds i true) (a.put oi.dst v) w → wpAnyT P md ops Q S stop (fuel + 1) listed a w := by
  intro fuel
  induction fuel with
  | zero =>
    intro listed a w _ hr hy hS H
    refine ⟨fun h => (by rw [h] at hr; exact absurd (by simpa using hr) hne), fun _ => ⟨fun h => (by rw [h] at hr; cases hr), fun j hj => ?_⟩⟩
    by_cases hji : j = i
    · subst hji; exact hy.wpOp hi hS ⟨hS, H⟩
    · have := ready_mono hj hji
      rw [H.1] at this
      cases this
  | succ fuel ih =>
    intro listed a w hfree hr hy hS H
    refine ⟨fun h => (by rw [h] at hr; exact absurd (by simpa using hr) hne), fun _ => ⟨fun h => (by rw [h] at hr; cases hr), fun j hj => ?_⟩⟩
    by_cases hji : j = i
    · subst hji; exact hy.wpOp hi hS ⟨hS, H⟩
    · have hjr := ready_mono hj hji
      have hns : Region.ready md ops (listed.setIfInBounds i true) ≠ [stop] := fun h => by
        rw [h] at hjr
        obtain rfl : j = stop := by simpa using hjr
        exact not_waits hr hj hwait
      have h1 := (H.2 hns).2 j hjr
      obtain ⟨hjun, oj, hoj, hall⟩ := mem_ready.1 hj
      have hnot := ready_unlisted hr hj hoj
      have h2 := wpOp_putIf hoj (hfree j oj hoj hji hjun hnot) (fun cs b => hsel i oi cs b hi) (fun cs b => hsel j oj cs b hoj) hQ hy h1
      have hfree' : ∀ k ok, ops[k]? = some ok → k ≠ i → (listed.setIfInBounds j true).getD k true = false →
          (∀ e ∈ ok.after, Region.binds md e = true → e.on ≠ i) → oi.apart ops ok = true := fun k ok hk hki hun hno => by
        refine hfree k ok hk hki ?_ hno
        by_cases hjk : j = k
        · subst hjk; exact hjun
        · rw [getD_set_ne true hjk] at hun; exact hun
      refine wpOp_mono (fun a' w' h3 => ⟨h3.2.1, ih (listed.setIfInBounds j true) a' w' hfree' (ready_mono hr (Ne.symm hji)) h3.1 h3.2.1 ?_⟩) h2
      rw [Array.setIfInBounds_comm _ _ hji]
      exact h3.2.2

theorem wpAnyT_take {stop i : Nat} {oi : Oper} {v : Value} {fuel : Nat} {listed : Array Bool} {a : Act} {w : World} (hi : ops[i]? = some oi)
    (hs : Region.noSelect ops = true) (hf : Region.free md ops listed i = true) (hr : (Region.ready md ops listed).contains i = true) (hne : Nat.beq i stop = false) (hwait : waitsFor md ops stop i = true)
    (hQ : ∀ c a w, Q (.panic c) (a.put oi.dst v) w → Q (.panic c) a w) (hy : YieldsIf P ops S oi v a) (hS : S w)
    (h : wpAnyT P md ops Q S stop fuel (listed.setIfInBounds i true) (a.put oi.dst v) w) : wpAnyT P md ops Q S stop (fuel + 1) listed a w :=
  wpAnyT_first hi (Region.noSelect_spec hs) (fun e => by subst e; simp at hne) hwait hQ fuel listed a w (Region.free_spec hi hf) (by simpa using hr) hy hS h

theorem wpAnyT_all {stop : Nat} {rs : List Nat} {fuel : Nat} {listed : Array Bool} {a : Act} {w : World} (hr : Region.ready md ops listed = rs) (hne : rs.isEmpty = false) (hns : (rs == [stop]) = false)
    (h : ∀ i ∈ rs, wpOp P ops Q i (fun a' w' => S w' ∧ wpAnyT P md ops Q S stop fuel (listed.setIfInBounds i true) a' w') a w) : wpAnyT P md ops Q S stop (fuel + 1) listed a w :=
  ⟨fun h0 => (by rw [hr] at h0; simp [h0] at hns), fun _ => ⟨fun h0 => (by rw [hr] at h0; simp [h0] at hne), hr ▸ h⟩⟩

theorem wpAnyT_stop {stop fuel : Nat} {listed : Array Bool} {a : Act} {w : World} (hr : Region.ready md ops listed = [stop]) (h : wpAny P md ops Q (fuel + 1) listed a w) : wpAnyT P md ops Q S stop (fuel + 1) listed a w :=
  ⟨fun _ => h, fun hne => absurd hr hne⟩

theorem wpAny_done {listed : Array Bool} {a : Act} {w : World} (hr : Region.ready md ops listed = []) (h : Q .normal a w) : ∀ fuel, wpAny P md ops Q fuel listed a w
  | 0 => ⟨hr, h⟩
  | _ + 1 => ⟨fun _ => h, by rw [hr]; simp⟩

theorem wpAnyT_done {stop : Nat} {listed : Array Bool} {a : Act} {w : World} (hr : Region.ready md ops listed = []) (h : Q .normal a w) : ∀ fuel, wpAnyT P md ops Q S stop fuel listed a w
  | 0 => ⟨hr, h⟩
  | _ + 1 => ⟨fun h0 => (by rw [hr] at h0; cases h0), fun _ => ⟨fun _ => h, by rw [hr]; simp⟩⟩

theorem wp_region_open {id : Nat} {a : Act} {w : World} (hm : P.follows .mixedOrders = true)
    (h : wpAny P .any ops Q ops.size (Array.replicate ops.size false) a w.drew) : (Code.region id ops true).wp P Q a w := wp_region_any hm h
end
end Go.Sl
/- The rules: code, regions, regions whose order is open, operations, calls, loops. No conditions. -/
namespace Go.Sl
open Go.RowKit (Below)
set_option linter.unusedVariables false
set_option linter.unusedSimpArgs false

section judgements
variable (P : Program) (κ : Ctx) (N : Fr)

def W (c : Code) (Q : Exit → Act → World → Prop) (L : Env) (I : List Item) : Prop := ∀ a w, Ag N a L → Sep κ w I → c.wp P Q a w
def G (ops : Array Oper) (Q : Exit → Act → World → Prop) (rest : List Oper) (L : Env) (I : List Item) : Prop := ∀ a w, Ag N a L → Sep κ w I → wpList P ops Q rest a w
def V (Q : Exit → Act → World → Prop) (e : Exit) (L : Env) (I : List Item) : Prop := ∀ a w, Ag N a L → Sep κ w I → Q e a w
/-- A region whose order is open: J holds till 'stop' alone is left to come up. -/
def D (ops : Array Oper) (Q : Exit → Act → World → Prop) (J : List Item) (stop fuel : Nat) (listed : Array Bool) (L : Env) (I : List Item) : Prop :=
  ∀ a w, Ag N a L → Sep κ w I → wpAnyT P .any ops Q (fun w => Sep κ w J) stop fuel listed a w
/-- The same without a condition. -/
def A (ops : Array Oper) (Q : Exit → Act → World → Prop) (fuel : Nat) (listed : Array Bool) (L : Env) (I : List Item) : Prop :=
  ∀ a w, Ag N a L → Sep κ w I → wpAny P .any ops Q fuel listed a w

/-- The operation only reads. -/
def Runs (o : Oper) (L : Env) (J : List Item) (v : Value) : Prop := ∀ a w, Ag N a L → Sep κ w J → (execOp a.eval o).run P w = .ok (.value v) w
def Eff (Q : Exit → Act → World → Prop) (o : Oper) (L : Env) (I : List Item) (R : Env → List Item → Prop) : Prop :=
  ∀ a w, Ag N a L → Sep κ w I → o.wp P a w (fun a' w' => ∃ L' I', R L' I' ∧ Ag N a' L' ∧ Sep κ w' I') Q
def Wanted (ops : Array Oper) (o : Oper) (L : Env) : Prop := ∀ a, Ag N a L → Region.wanted o (yielded ops a.tmps) = true
def Unwanted (ops : Array Oper) (o : Oper) (L : Env) : Prop := ∀ a, Ag N a L → Region.wanted o (yielded ops a.tmps) = false

def CallS (f : FuncId) (args : List Value) (I : List Item) (Post : Value → List Item → Prop) : Prop :=
  ∀ w, Sep κ w I → Calls P f args.toArray w fun e w' => ∃ v J, e = .returned v ∧ Post v J ∧ Sep κ w' J
end judgements

section
variable {P : Program} {κ : Ctx} {N : Fr} {Q : Exit → Act → World → Prop} {L : Env} {I J : List Item} {ops : Array Oper} {o : Oper} {rest : List Oper}

theorem CallS.mono {f : FuncId} {args : List Value} {Post Post' : Value → List Item → Prop} (h : CallS P κ f args I Post) (hp : ∀ v J, Post v J → Post' v J) : CallS P κ f args I Post' :=
  fun w s => (h w s).mono fun e w' ⟨v, J, he, hq, hs⟩ => ⟨v, J, he, hp v J hq, hs⟩

theorem CallS.fit {f : FuncId} {args : List Value} {Post : Value → List Item → Prop} (hf : Fit κ I J) (h : CallS P κ f args J Post) : CallS P κ f args I Post := fun w s => h w (hf w s)

/-- A contract at the head of the list serves wherever its resource stands. -/
theorem CallS.at {f : FuncId} {args : List Value} {Y : Type} {x : Item} {X : Y → Item} {Z : Y → List Item} {F : Item → List Item} {Post : Value → Y → Prop} (hat : AtF I x F)
    (h : ∀ J, Fit κ (x :: J) I → (∀ x', Fit κ (x' :: J) (F x')) → CallS P κ f args (x :: J) fun r J' => ∃ y, Post r y ∧ J' = Z y ++ X y :: J) : CallS P κ f args I fun r J' => ∃ y, Post r y ∧ J' = Z y ++ F (X y) := fun w hs => by
  obtain ⟨J, h1, h2⟩ := hat.perm
  refine ((h J (fun w s => s.perm h1.symm) fun x' w s => s.perm (h2 x').symm) w (hs.perm h1)).mono fun e w' ⟨v, J', he, ⟨y, hp, hJ⟩, hs'⟩ => ?_
  subst hJ
  exact ⟨v, _, he, ⟨y, hp, rfl⟩, hs'.perm (List.Perm.append_left _ (h2 _).symm)⟩

/-! ### Weakening -/
theorem W.fit {c : Code} (hf : Fit κ I J) (h : W P κ N c Q L J) : W P κ N c Q L I := fun a w ha hs => h a w ha (hf w hs)
theorem W.sub {c : Code} {L' : Env} (hf : Sub L L') (h : W P κ N c Q L' I) : W P κ N c Q L I := fun a w ha hs => h a w (ha.sub hf) hs
theorem G.fit (hf : Fit κ I J) (h : G P κ N ops Q rest L J) : G P κ N ops Q rest L I := fun a w ha hs => h a w ha (hf w hs)
theorem G.sub {L' : Env} (hf : Sub L L') (h : G P κ N ops Q rest L' I) : G P κ N ops Q rest L I := fun a w ha hs => h a w (ha.sub hf) hs
theorem V.fit {e : Exit} (hf : Fit κ I J) (h : V κ N Q e L J) : V κ N Q e L I := fun a w ha hs => h a w ha (hf w hs)
theorem V.sub {e : Exit} {L' : Env} (hf : Sub L L') (h : V κ N Q e L' I) : V κ N Q e L I := fun a w ha hs => h a w (ha.sub hf) hs
/-- A pure fact that the resources bear. -/
theorem W.pull {c : Code} {p : Prop} (hp : ∀ w, Sep κ w I → p) (h : p → W P κ N c Q L I) : W P κ N c Q L I := fun a w ha hs => h (hp w hs) a w ha hs
theorem G.pull {p : Prop} (hp : ∀ w, Sep κ w I → p) (h : p → G P κ N ops Q rest L I) : G P κ N ops Q rest L I := fun a w ha hs => h (hp w hs) a w ha hs
theorem V.pull {e : Exit} {p : Prop} (hp : ∀ w, Sep κ w I → p) (h : p → V κ N Q e L I) : V κ N Q e L I := fun a w ha hs => h (hp w hs) a w ha hs
theorem CallS.pull {f : FuncId} {args : List Value} {Post : Value → List Item → Prop} {p : Prop} (hp : ∀ w, Sep κ w I → p) (h : p → CallS P κ f args I Post) : CallS P κ f args I Post := fun w hs => h (hp w hs) w hs

/-! ### Code -/
theorem W.seq {x y : Code} (h : W P κ N x (Exit.then (y.wp P Q) Q) L I) : W P κ N (.seq x y) Q L I := fun a w ha hs => wp_seq (h a w ha hs)
theorem W.cond {c : Operand} {x y : Code} {t : Bool} (hc : evalO L c = some (.bool t)) (h1 : t = true → W P κ N x Q L I) (h2 : t = false → W P κ N y Q L I) : W P κ N (.cond c x y) Q L I :=
  fun a w ha hs => wp_cond_split (ha.eval hc) (fun h => h1 h a w ha hs) (fun h => h2 h a w ha hs)
theorem W.ite {c : Operand} {x y : Code} {p : Prop} [Decidable p] (hc : evalO L c = some (.bool (decide p))) (h1 : p → W P κ N x Q L I) (h2 : ¬ p → W P κ N y Q L I) : W P κ N (.cond c x y) Q L I :=
  W.cond hc (fun h => h1 (of_decide_eq_true h)) (fun h => h2 (of_decide_eq_false h))
theorem W.yes {c : Operand} {x y : Code} (hc : evalO L c = some (.bool true)) (h : W P κ N x Q L I) : W P κ N (.cond c x y) Q L I := W.cond hc (fun _ => h) (fun e => by cases e)
theorem W.no {c : Operand} {x y : Code} (hc : evalO L c = some (.bool false)) (h : W P κ N y Q L I) : W P κ N (.cond c x y) Q L I := W.cond hc (fun e => by cases e) (fun _ => h)
theorem W.block {id : Nat} {c : Code} (h : W P κ N c (Exit.inBlock id Q) L I) : W P κ N (.block id c) Q L I := fun a w ha hs => wp_block (h a w ha hs)
theorem W.skip (h : V κ N Q .normal L I) : W P κ N .skip Q L I := fun a w ha hs => wp_skip (h a w ha hs)
theorem W.exit {id : Nat} (h : V κ N Q (.exit id) L I) : W P κ N (.exit id) Q L I := fun a w ha hs => wp_exit (h a w ha hs)
theorem W.ret (h : V κ N Q .ret L I) : W P κ N .ret Q L I := fun a w ha hs => wp_ret (h a w ha hs)
theorem W.region {id : Nat} {l : List Oper} (h : G P κ N l.toArray Q l L I) : W P κ N (.region id l.toArray false) Q L I := fun a w ha hs => wp_region_lit (h a w ha hs)

/-! ### Ways out -/
theorem V.then {y : Code} (h : W P κ N y Q L I) : V κ N (Exit.then (y.wp P Q) Q) .normal L I := h
theorem V.then_exit {K : Act → World → Prop} {id : Nat} (h : V κ N Q (.exit id) L I) : V κ N (Exit.then K Q) (.exit id) L I := h
theorem V.then_ret {K : Act → World → Prop} (h : V κ N Q .ret L I) : V κ N (Exit.then K Q) .ret L I := h
theorem V.block_ret {id : Nat} (h : V κ N Q .ret L I) : V κ N (Exit.inBlock id Q) .ret L I := h
theorem V.block_normal {id : Nat} (h : V κ N Q .normal L I) : V κ N (Exit.inBlock id Q) .normal L I := h
theorem V.block_hit {id : Nat} (h : V κ N Q .normal L I) : V κ N (Exit.inBlock id Q) (.exit id) L I := fun a w ha hs => by simp only [Exit.inBlock, if_true]; exact h a w ha hs
/-! ### Loops and cuts -/
def LoopK (κ : Ctx) (N : Fr) {σ : Type} (Lv : σ → Env) (Iv : σ → List Item) (p : σ → Prop) (μ : σ → Nat) (s : σ) (a : Act) (w : World) : Prop :=
  ∃ s', p s' ∧ μ s' < μ s ∧ Ag N a (Lv s') ∧ Sep κ w (Iv s')

theorem W.loop {c : Code} {σ : Type} (Lv : σ → Env) (Iv : σ → List Item) (p : σ → Prop) (μ : σ → Nat) (s0 : σ) (hp : p s0) (hL : Sub L (Lv s0)) (hI : Fit κ I (Iv s0))
    (round : ∀ s, p s → W P κ N c (Exit.then (LoopK κ N Lv Iv p μ s) Q) (Lv s) (Iv s)) : W P κ N (.loop c) Q L I := by
  intro a w ha hs
  have key : ∀ (m : Nat) (s : σ), μ s = m → p s → ∀ a w, Ag N a (Lv s) → Sep κ w (Iv s) → ∀ (b : Frame) (k : List Go.Item) (cs : List Frame),
      ∃ e a' w', Q e a' w' ∧ Arrives P (lone (b.at a (.code c :: .inLoop c :: k)) cs w) b k cs e a' w' := by
    intro m
    induction m using Nat.strongRecOn with
    | _ m ih =>
      intro s hm hps a w ha hs b k cs
      obtain ⟨e, a₁, w₁, hq, harr⟩ := round s hps a w ha hs b (.inLoop c :: k) cs
      cases e with
      | normal =>
        obtain ⟨s', hp', hlt, ha', hs'⟩ := hq
        obtain ⟨e₂, a₂, w₂, hq₂, harr₂⟩ := ih (μ s') (hm ▸ hlt) s' rfl hp' a₁ w₁ ha' hs' b k cs
        exact ⟨e₂, a₂, w₂, hq₂, .of_steps (Steps.trans harr (.one step_inLoop)) harr₂⟩
      | exit id => exact ⟨_, a₁, w₁, hq, .pass (x := .inLoop c) rfl (fun _ _ => .inl (by simp)) harr⟩
      | goto l => exact ⟨_, a₁, w₁, hq, .pass (x := .inLoop c) rfl (fun _ _ => .inl (by simp)) harr⟩
      | ret => exact ⟨_, a₁, w₁, hq, .pass (x := .inLoop c) rfl (fun _ _ => .inl (by simp)) harr⟩
      | panic ch => exact ⟨_, a₁, w₁, hq, .pass (x := .inLoop c) rfl (fun _ _ => .inl (by simp)) harr⟩
      | outgrown => exact ⟨_, a₁, w₁, hq, .pass (x := .inLoop c) rfl (fun _ _ => .inl (by simp)) harr⟩
  intro b k cs
  obtain ⟨e, a', w', hq, harr⟩ := key (μ s0) s0 rfl hp a w (ha.sub hL) (hI w hs) b k cs
  exact ⟨e, a', w', hq, .of_steps (.one step_loop) harr⟩

theorem V.next {σ : Type} {Lv : σ → Env} {Iv : σ → List Item} {p : σ → Prop} {μ : σ → Nat} {s : σ} (s' : σ) (hp : p s') (hlt : μ s' < μ s) (hL : Sub L (Lv s')) (hI : Fit κ I (Iv s')) :
    V κ N (Exit.then (LoopK κ N Lv Iv p μ s) Q) .normal L I := fun a w ha hs => ⟨s', hp, hlt, ha.sub hL, hI w hs⟩

/-! ### Operations in the text's order -/
theorem Wanted.plain (h : o.guard = none) : Wanted N ops o L := fun _ _ => by simp [Region.wanted, h]
theorem yielded_of {a : Act} (ha : Ag N a L) {j t : Nat} {b : Bool} (hj : (ops[j]?).bind (·.dst) = some t) (hl : look L t = some (.bool b)) : yielded ops a.tmps j = some b := by
  simp [yielded, hj, ha.get t _ hl]
theorem Wanted.on {j t : Nat} {b : Bool} (hg : o.guard = some (j, b)) (hj : (ops[j]?).bind (·.dst) = some t) (hl : look L t = some (.bool b)) : Wanted N ops o L := fun a ha => by
  simp [Region.wanted, hg, yielded_of ha hj hl]
theorem Unwanted.off {j t : Nat} {b : Bool} (hg : o.guard = some (j, b)) (hj : (ops[j]?).bind (·.dst) = some t) (hl : look L t = some (.bool (!b))) : Unwanted N ops o L := fun a ha => by
  simp only [Region.wanted, hg, yielded_of ha hj hl]
  cases b <;> rfl
theorem G.nil (h : V κ N Q .normal L I) : G P κ N ops Q [] L I := fun a w ha hs => h a w ha hs

theorem G.read {d : Nat} {v : Value} (hw : Wanted N ops o L) (hd : o.dst = some d) (hN : Nat.blt d N.n = true) (hr : Runs P κ N o L I v) (h : G P κ N ops Q rest ((d, v) :: L) I) : G P κ N ops Q (o :: rest) L I :=
  fun a w ha hs => by
    unfold wpList
    rw [if_pos (hw a ha)]
    refine .inl ?_
    simp only [Oper.wp, hr a w ha hs, Oper.upon, hd]
    exact h _ w (ha.put d hN v) hs

theorem G.eff {R : Env → List Item → Prop} (hw : Wanted N ops o L) (he : Eff P κ N Q o L I R) (h : ∀ L' I', R L' I' → G P κ N ops Q rest L' I') : G P κ N ops Q (o :: rest) L I :=
  fun a w ha hs => by
    unfold wpList
    rw [if_pos (hw a ha)]
    refine .inl (Oper.wp_mono (fun a' w' ⟨L', I', hR, ha', hs'⟩ => h L' I' hR a' w' ha' hs') (he a w ha hs))

theorem G.pass {d : Nat} (hw : Unwanted N ops o L) (hd : o.dst = some d) (hN : Nat.blt d N.n = true) (h : G P κ N ops Q rest ((d, undef) :: L) I) : G P κ N ops Q (o :: rest) L I :=
  fun a w ha hs => by
    unfold wpList
    rw [if_neg (by simp [hw a ha])]
    rw [hd]
    exact h _ w (ha.put d hN _) hs

/-! ### Operations in an open order -/
theorem W.drawn {id : Nat} {l : List Oper} (hm : P.follows .mixedOrders = true) (h : A P κ N l.toArray Q l.toArray.size (Array.replicate l.toArray.size false) L I) :
    W P κ N (.region id l.toArray true) Q L I := fun a w ha hs => wp_region_open hm (h a _ ha hs.drew)

theorem A.hold {fuel : Nat} {listed : Array Bool} (J : List Item) (stop : Nat) (h : D P κ N ops Q J stop fuel listed L I) : A P κ N ops Q fuel listed L I := fun a w ha hs => wpAny_of_T _ _ _ _ (h a w ha hs)
theorem A.done {fuel : Nat} {listed : Array Bool} (hr : Region.ready .any ops listed = []) (h : V κ N Q .normal L I) : A P κ N ops Q fuel listed L I := fun a w ha hs => wpAny_done hr (h a w ha hs) _
theorem A.fit {fuel : Nat} {listed : Array Bool} (hf : Fit κ I J) (h : A P κ N ops Q fuel listed L J) : A P κ N ops Q fuel listed L I := fun a w ha hs => h a w ha (hf w hs)
theorem A.sub {fuel : Nat} {listed : Array Bool} {L' : Env} (hf : Sub L L') (h : A P κ N ops Q fuel listed L' I) : A P κ N ops Q fuel listed L I := fun a w ha hs => h a w (ha.sub hf) hs
theorem D.done {stop fuel : Nat} {listed : Array Bool} (hr : Region.ready .any ops listed = []) (h : V κ N Q .normal L I) : D P κ N ops Q J stop fuel listed L I :=
  fun a w ha hs => wpAnyT_done hr (h a w ha hs) _
theorem D.stop {stop fuel : Nat} {listed : Array Bool} (hr : Region.ready .any ops listed = [stop]) (h : A P κ N ops Q (fuel + 1) listed L I) : D P κ N ops Q J stop (fuel + 1) listed L I :=
  fun a w ha hs => wpAnyT_stop hr (h a w ha hs)

theorem D.read {stop fuel : Nat} {listed : Array Bool} {d : Nat} {v : Value} (i : Nat) (hi : ops[i]? = some o) (hns : Region.noSelect ops = true) (hf : Region.free .any ops listed i = true)
    (hr : (Region.ready .any ops listed).contains i = true) (hne : Nat.beq i stop = false) (hwt : waitsFor .any ops stop i = true) (hQ : ∀ c a u w, Q (.panic c) (a.put o.dst u) w → Q (.panic c) a w) (hw : Wanted N ops o L) (hd : o.dst = some d) (hN : Nat.blt d N.n = true)
    (hJ : Fit κ I J) (hrun : Runs P κ N o L J v) (h : D P κ N ops Q J stop fuel (listed.setIfInBounds i true) ((d, v) :: L) I) : D P κ N ops Q J stop (fuel + 1) listed L I := fun a w ha hs => by
  refine wpAnyT_take hi hns hf hr hne hwt (fun c a w => hQ c a v w) (.inl ⟨hw a ha, fun w' hs' => hrun a w' ha hs'⟩) (hJ w hs) ?_
  have ha' := ha.put d hN v
  rw [← hd] at ha'
  exact h _ w ha' hs

theorem D.pass {stop fuel : Nat} {listed : Array Bool} {d : Nat} (i : Nat) (hi : ops[i]? = some o) (hns : Region.noSelect ops = true) (hf : Region.free .any ops listed i = true)
    (hr : (Region.ready .any ops listed).contains i = true) (hne : Nat.beq i stop = false) (hwt : waitsFor .any ops stop i = true) (hQ : ∀ c a u w, Q (.panic c) (a.put o.dst u) w → Q (.panic c) a w) (hw : Unwanted N ops o L) (hd : o.dst = some d) (hN : Nat.blt d N.n = true)
    (hJ : Fit κ I J) (h : D P κ N ops Q J stop fuel (listed.setIfInBounds i true) ((d, undef) :: L) I) : D P κ N ops Q J stop (fuel + 1) listed L I := fun a w ha hs => by
  refine wpAnyT_take hi hns hf hr hne hwt (fun c a w => hQ c a undef w) (.inr ⟨hw a ha, rfl⟩) (hJ w hs) ?_
  have ha' := ha.put d hN undef
  rw [← hd] at ha'
  exact h _ w ha' hs

/-- One of the operations that may come up now, carried out. -/
def Step (P : Program) (κ : Ctx) (N : Fr) (ops : Array Oper) (Q : Exit → Act → World → Prop) (J : List Item) (stop fuel : Nat) (listed : Array Bool) (L : Env) (I : List Item) (i : Nat) : Prop :=
  ∀ a w, Ag N a L → Sep κ w I → wpOp P ops Q i (fun a' w' => Sep κ w' J ∧ wpAnyT P .any ops Q (fun w => Sep κ w J) stop fuel (listed.setIfInBounds i true) a' w') a w

theorem D.step {stop fuel : Nat} {listed : Array Bool} {rs : List Nat} (hr : Region.ready .any ops listed = rs) (hne : rs.isEmpty = false) (hns : (rs == [stop]) = false) (h : ∀ i ∈ rs, Step P κ N ops Q J stop fuel listed L I i) : D P κ N ops Q J stop (fuel + 1) listed L I :=
  fun a w ha hs => wpAnyT_all hr hne hns fun i hi => h i hi a w ha hs

theorem all1 {p : Nat → Prop} {i : Nat} (h : p i) : ∀ j ∈ [i], p j := fun j hj => (List.mem_singleton.1 hj) ▸ h
theorem all2 {p : Nat → Prop} {i : Nat} {l : List Nat} (h : p i) (h' : ∀ j ∈ l, p j) : ∀ j ∈ i :: l, p j := fun j hj => by
  rcases List.mem_cons.1 hj with rfl | hj
  · exact h
  · exact h' j hj

theorem Step.eff {stop fuel : Nat} {listed : Array Bool} {i : Nat} {R : Env → List Item → Prop} (hi : ops[i]? = some o) (hw : Wanted N ops o L) (he : Eff P κ N Q o L I R)
    (h : ∀ L' I', R L' I' → Fit κ I' J ∧ D P κ N ops Q J stop fuel (listed.setIfInBounds i true) L' I') : Step P κ N ops Q J stop fuel listed L I i := fun a w ha hs => by
  unfold wpOp
  simp only [hi, hw a ha, if_true]
  exact .inl (Oper.wp_mono (fun a' w' ⟨L', I', hR, ha', hs'⟩ => ⟨(h L' I' hR).1 w' hs', (h L' I' hR).2 a' w' ha' hs'⟩) (he a w ha hs))

/-- An operation that only reads, carried out when it comes up (not taken first). -/
theorem Step.read {stop fuel : Nat} {listed : Array Bool} {i d : Nat} {v : Value} (hi : ops[i]? = some o) (hw : Wanted N ops o L) (hd : o.dst = some d) (hN : Nat.blt d N.n = true) (hr : Runs P κ N o L I v) (hf : Fit κ I J)
    (h : D P κ N ops Q J stop fuel (listed.setIfInBounds i true) ((d, v) :: L) I) : Step P κ N ops Q J stop fuel listed L I i := fun a w ha hs => by
  unfold wpOp
  simp only [hi, hw a ha, if_true, Oper.wp, hr a w ha hs, Oper.upon]
  have ha' := ha.put d hN v
  rw [← hd] at ha'
  exact .inl ⟨hf w hs, h _ w ha' hs⟩

/-- The one operation that may come up, outside of any condition on the world. -/
theorem A.eff {fuel : Nat} {listed : Array Bool} {i : Nat} {R : Env → List Item → Prop} (hr : Region.ready .any ops listed = [i]) (hi : ops[i]? = some o) (hw : Wanted N ops o L) (he : Eff P κ N Q o L I R)
    (h : ∀ L' I', R L' I' → A P κ N ops Q fuel (listed.setIfInBounds i true) L' I') : A P κ N ops Q (fuel + 1) listed L I := fun a w ha hs => by
  refine ⟨fun h0 => (by rw [hr] at h0; cases h0), fun j hj => ?_⟩
  rw [hr] at hj
  obtain rfl : j = i := by simpa using hj
  unfold wpOp
  simp only [hi, hw a ha, if_true]
  exact .inl (Oper.wp_mono (fun a' w' ⟨L', I', hR, ha', hs'⟩ => h L' I' hR a' w' ha' hs') (he a w ha hs))

theorem A.read {fuel : Nat} {listed : Array Bool} {i d : Nat} {v : Value} (hr : Region.ready .any ops listed = [i]) (hi : ops[i]? = some o) (hw : Wanted N ops o L) (hd : o.dst = some d) (hN : Nat.blt d N.n = true) (hrun : Runs P κ N o L I v)
    (h : A P κ N ops Q fuel (listed.setIfInBounds i true) ((d, v) :: L) I) : A P κ N ops Q (fuel + 1) listed L I := fun a w ha hs => by
  refine ⟨fun h0 => (by rw [hr] at h0; cases h0), fun j hj => ?_⟩
  rw [hr] at hj
  obtain rfl : j = i := by simpa using hj
  unfold wpOp
  simp only [hi, hw a ha, if_true, Oper.wp, hrun a w ha hs, Oper.upon]
  have ha' := ha.put d hN v
  rw [← hd] at ha'
  exact .inl (h _ w ha' hs)

/-! ### A test whose outcome is not known: part here -/
theorem Ag.restate {a : Act} {d : Nat} {v v' : Value} (ha : Ag N a L) (hl : look L d = some v) (h : v = v') : Ag N a ((d, v') :: L) :=
  ⟨ha.defers, ha.size, fun t u hu => by
    rw [look_cons] at hu
    by_cases ht : d = t
    · subst ht
      simp only [if_true, Option.some.injEq] at hu
      rw [← hu, ← h]
      exact ha.get d v hl
    · simp only [ht, if_false] at hu
      exact ha.get t u hu⟩
theorem G.split {d : Nat} {p : Prop} [Decidable p] (hl : look L d = some (.bool (decide p))) (h1 : p → G P κ N ops Q rest ((d, .bool true) :: L) I) (h2 : ¬ p → G P κ N ops Q rest ((d, .bool false) :: L) I) : G P κ N ops Q rest L I := fun a w ha hs => by
  by_cases hp : p
  · exact h1 hp a w (ha.restate hl (by simp [hp])) hs
  · exact h2 hp a w (ha.restate hl (by simp [hp])) hs
theorem G.splitb {d : Nat} {b : Bool} (hl : look L d = some (.bool b)) (h1 : b = true → G P κ N ops Q rest ((d, .bool true) :: L) I) (h2 : b = false → G P κ N ops Q rest ((d, .bool false) :: L) I) : G P κ N ops Q rest L I := fun a w ha hs => by
  cases b with
  | true => exact h1 rfl a w (ha.restate hl rfl) hs
  | false => exact h2 rfl a w (ha.restate hl rfl) hs
theorem D.split {stop fuel : Nat} {listed : Array Bool} {d : Nat} {p : Prop} [Decidable p] (hl : look L d = some (.bool (decide p))) (h1 : p → D P κ N ops Q J stop fuel listed ((d, .bool true) :: L) I) (h2 : ¬ p → D P κ N ops Q J stop fuel listed ((d, .bool false) :: L) I) : D P κ N ops Q J stop fuel listed L I := fun a w ha hs => by
  by_cases hp : p
  · exact h1 hp a w (ha.restate hl (by simp [hp])) hs
  · exact h2 hp a w (ha.restate hl (by simp [hp])) hs
theorem D.splitb {stop fuel : Nat} {listed : Array Bool} {d : Nat} {b : Bool} (hl : look L d = some (.bool b)) (h1 : b = true → D P κ N ops Q J stop fuel listed ((d, .bool true) :: L) I) (h2 : b = false → D P κ N ops Q J stop fuel listed ((d, .bool false) :: L) I) : D P κ N ops Q J stop fuel listed L I := fun a w ha hs => by
  cases b with
  | true => exact h1 rfl a w (ha.restate hl rfl) hs
  | false => exact h2 rfl a w (ha.restate hl rfl) hs

/-- A slot's number, spelt anew. -/
theorem lookI {k : Nat} {m n : Int} (h : look L k = some (.int .i64 m)) (e : m = n) : look L k = some (.int .i64 n) := by rw [h, e]
theorem lookV {k : Nat} {u v : Value} (h : look L k = some u) (e : u = v) : look L k = some v := by rw [h, e]
end
end Go.Sl
/- What each operation gives: reads ('Runs') and effects ('Eff'). No conditions. -/
namespace Go.Sl
open Go.RowKit (Below)
set_option linter.unusedVariables false
set_option linter.unusedSimpArgs false

def InR (n : Int) : Prop := -9223372036854775808 ≤ n ∧ n ≤ 9223372036854775807
theorem InR.wrap {n : Int} (h : InR n) : IntKind.i64.wrap n = n := Go.IntWalk.i64_in _ h

/-- The offset of a field of some size. -/
def fldF (P : Program) (T : TypeId) (k : Nat) : Option Nat :=
  match P.underlying T with
  | some (.struct fs) => (fs[k]?).bind fun f => (P.info? f.type).bind fun i => if i.size = 0 then none else some f.offset
  | _ => none

def callable (P : Program) (f : FuncId) : Bool :=
  match P.funcs[f]? with
  | some fn => !(fn.name == "runtime.NumGoroutine") && fn.body.isSome
  | none => false

def evalL (L : Env) : List Operand → Option (List Value)
  | [] => some []
  | x :: xs => match evalO L x, evalL L xs with
    | some v, some vs => some (v :: vs)
    | _, _ => none

section
variable {P : Program} {κ : Ctx} {N : Fr} {Q : Exit → Act → World → Prop} {L : Env} {I J : List Item}
variable {d : Option Tmp} {ty : TypeId} {ps : String} {af : Array Edge} {gd : Option (Nat × Bool)}

theorem Ag.evalL {a : Act} (ha : Ag N a L) : ∀ {xs : List Operand} {vs : List Value}, evalL L xs = some vs → xs.map a.eval = vs
  | [], vs, h => by simp [Sl.evalL] at h; simp [h]
  | x :: xs, vs, h => by
    simp only [Sl.evalL] at h
    split at h
    · rename_i v vs' h1 h2
      simp only [Option.some.injEq] at h
      subst h
      simp [ha.eval h1, Ag.evalL ha h2]
    · cases h

/-! ### Reads -/
theorem Runs.move {x : Operand} {v : Value} (hx : evalO L x = some v) : Runs P κ N ⟨d, .move x, ty, ps, af, gd⟩ L J v := fun a w ha _ => by simp [execOp, ha.eval hx]
theorem Runs.assign {x : Operand} {v : Value} (hx : evalO L x = some v) : Runs P κ N ⟨d, .assign x, ty, ps, af, gd⟩ L J v := fun a w ha _ => by simp [execOp, ha.eval hx]

section ints
variable {x y : Operand} {k : IntKind} {m n : Int} {T U : TypeId}
theorem Runs.addw (hx : evalO L x = some (.int k m)) (hy : evalO L y = some (.int k n)) : Runs P κ N ⟨d, .binOp .add T x y U, ty, ps, af, gd⟩ L J (.int k (k.wrap (m + n))) :=
  fun a w ha _ => by simp only [execOp, ha.eval hx, ha.eval hy]; simp [go_sem, Op.intArith]
theorem Runs.subw (hx : evalO L x = some (.int k m)) (hy : evalO L y = some (.int k n)) : Runs P κ N ⟨d, .binOp .sub T x y U, ty, ps, af, gd⟩ L J (.int k (k.wrap (m - n))) :=
  fun a w ha _ => by simp only [execOp, ha.eval hx, ha.eval hy]; simp [go_sem, Op.intArith]
theorem Runs.mulw (hx : evalO L x = some (.int k m)) (hy : evalO L y = some (.int k n)) : Runs P κ N ⟨d, .binOp .mul T x y U, ty, ps, af, gd⟩ L J (.int k (k.wrap (m * n))) :=
  fun a w ha _ => by simp only [execOp, ha.eval hx, ha.eval hy]; simp [go_sem, Op.intArith]
theorem Runs.rem (hx : evalO L x = some (.int k m)) (hy : evalO L y = some (.int k n)) (h0 : n ≠ 0) : Runs P κ N ⟨d, .binOp .rem T x y U, ty, ps, af, gd⟩ L J (.int k (m.tmod n)) :=
  fun a w ha _ => by simp only [execOp, ha.eval hx, ha.eval hy]; simp [go_sem, Op.intDiv, h0]
theorem Runs.quow (hx : evalO L x = some (.int k m)) (hy : evalO L y = some (.int k n)) (h0 : n ≠ 0) : Runs P κ N ⟨d, .binOp .quo T x y U, ty, ps, af, gd⟩ L J (.int k (k.wrap (m.tdiv n))) :=
  fun a w ha _ => by simp only [execOp, ha.eval hx, ha.eval hy]; simp [go_sem, Op.intDiv, h0]
theorem Runs.add (hx : evalO L x = some (I64 m)) (hy : evalO L y = some (I64 n)) (hr : InR (m + n)) : Runs P κ N ⟨d, .binOp .add T x y U, ty, ps, af, gd⟩ L J (I64 (m + n)) := by
  have h := Runs.addw (P := P) (κ := κ) (N := N) (J := J) (d := d) (ty := ty) (ps := ps) (af := af) (gd := gd) (T := T) (U := U) hx hy
  rwa [hr.wrap] at h
theorem Runs.sub (hx : evalO L x = some (I64 m)) (hy : evalO L y = some (I64 n)) (hr : InR (m - n)) : Runs P κ N ⟨d, .binOp .sub T x y U, ty, ps, af, gd⟩ L J (I64 (m - n)) := by
  have h := Runs.subw (P := P) (κ := κ) (N := N) (J := J) (d := d) (ty := ty) (ps := ps) (af := af) (gd := gd) (T := T) (U := U) hx hy
  rwa [hr.wrap] at h
theorem Runs.mul (hx : evalO L x = some (I64 m)) (hy : evalO L y = some (I64 n)) (hr : InR (m * n)) : Runs P κ N ⟨d, .binOp .mul T x y U, ty, ps, af, gd⟩ L J (I64 (m * n)) := by
  have h := Runs.mulw (P := P) (κ := κ) (N := N) (J := J) (d := d) (ty := ty) (ps := ps) (af := af) (gd := gd) (T := T) (U := U) hx hy
  rwa [hr.wrap] at h
theorem Runs.lss (hx : evalO L x = some (.int k m)) (hy : evalO L y = some (.int k n)) : Runs P κ N ⟨d, .binOp .lss T x y U, ty, ps, af, gd⟩ L J (.bool (decide (m < n))) :=
  fun a w ha _ => by simp only [execOp, ha.eval hx, ha.eval hy]; simp [go_sem]
theorem Runs.leq (hx : evalO L x = some (.int k m)) (hy : evalO L y = some (.int k n)) : Runs P κ N ⟨d, .binOp .leq T x y U, ty, ps, af, gd⟩ L J (.bool (decide (m ≤ n))) :=
  fun a w ha _ => by simp only [execOp, ha.eval hx, ha.eval hy]; simp [go_sem]
theorem Runs.gtr (hx : evalO L x = some (.int k m)) (hy : evalO L y = some (.int k n)) : Runs P κ N ⟨d, .binOp .gtr T x y U, ty, ps, af, gd⟩ L J (.bool (decide (n < m))) :=
  fun a w ha _ => by simp only [execOp, ha.eval hx, ha.eval hy]; simp [go_sem]
theorem Runs.geq (hx : evalO L x = some (.int k m)) (hy : evalO L y = some (.int k n)) : Runs P κ N ⟨d, .binOp .geq T x y U, ty, ps, af, gd⟩ L J (.bool (decide (n ≤ m))) :=
  fun a w ha _ => by simp only [execOp, ha.eval hx, ha.eval hy]; simp [go_sem]
theorem Runs.eql (hx : evalO L x = some (.int k m)) (hy : evalO L y = some (.int k n)) : Runs P κ N ⟨d, .binOp .eql T x y U, ty, ps, af, gd⟩ L J (.bool (decide (m = n))) :=
  fun a w ha _ => by simp only [execOp, ha.eval hx, ha.eval hy]; simp [go_sem]; rfl
theorem Runs.neq (hx : evalO L x = some (.int k m)) (hy : evalO L y = some (.int k n)) : Runs P κ N ⟨d, .binOp .neq T x y U, ty, ps, af, gd⟩ L J (.bool (decide (m ≠ n))) :=
  fun a w ha _ => by
    simp only [execOp, ha.eval hx, ha.eval hy]
    simp [go_sem]
    by_cases h : m = n <;> simp [h]
theorem Runs.min (hx : evalO L x = some (.int k m)) (hy : evalO L y = some (.int k n)) {as : Array TypeId} :
    Runs P κ N ⟨d, .call { callee := .builtin .min, args := #[x, y], argTypes := as }, ty, ps, af, gd⟩ L J (.int k (if n < m then n else m)) :=
  fun a w ha _ => by simp [execOp, resolve, invoke, builtin, ha.eval hx, ha.eval hy, Builtin.min_, Builtin.min2]
theorem Runs.max (hx : evalO L x = some (.int k m)) (hy : evalO L y = some (.int k n)) {as : Array TypeId} :
    Runs P κ N ⟨d, .call { callee := .builtin .max, args := #[x, y], argTypes := as }, ty, ps, af, gd⟩ L J (.int k (if m < n then n else m)) :=
  fun a w ha _ => by simp [execOp, resolve, invoke, builtin, ha.eval hx, ha.eval hy, Builtin.max_, Builtin.max2]
end ints

theorem Runs.not {x : Operand} {b : Bool} {T : TypeId} (hx : evalO L x = some (.bool b)) : Runs P κ N ⟨d, .unOp .not T x, ty, ps, af, gd⟩ L J (.bool !b) :=
  fun a w ha _ => by simp [execOp, ha.eval hx, Op.unary]
theorem Runs.notd {x : Operand} {p : Prop} [Decidable p] {T : TypeId} (hx : evalO L x = some (.bool (decide p))) : Runs P κ N ⟨d, .unOp .not T x, ty, ps, af, gd⟩ L J (.bool (decide ¬ p)) :=
  fun a w ha _ => by simp [execOp, ha.eval hx, Op.unary]
theorem Runs.pickt {c x y : Operand} {v : Value} (hc : evalO L c = some (.bool true)) (hx : evalO L x = some v) : Runs P κ N ⟨d, .pick c x y, ty, ps, af, gd⟩ L J v :=
  fun a w ha _ => by simp [execOp, ha.eval hc, ha.eval hx, asBool]
theorem Runs.pickf {c x y : Operand} {v : Value} (hc : evalO L c = some (.bool false)) (hy : evalO L y = some v) : Runs P κ N ⟨d, .pick c x y, ty, ps, af, gd⟩ L J v :=
  fun a w ha _ => by simp [execOp, ha.eval hc, ha.eval hy, asBool]
theorem Runs.nilCheck {x : Operand} {p : Addr} (hx : evalO L x = some (.pointer (some p))) : Runs P κ N ⟨d, .nilCheck x, ty, ps, af, gd⟩ L J (.pointer (some p)) :=
  fun a w ha _ => by simp [execOp, ha.eval hx]
theorem Runs.extract {x : Operand} {vs : Array Value} {i : Nat} {v : Value} (hx : evalO L x = some (.tuple vs)) (hv : vs[i]? = some v) : Runs P κ N ⟨d, .extract x i, ty, ps, af, gd⟩ L J v :=
  fun a w ha _ => by simp [execOp, ha.eval hx, Instr.extract, hv]
theorem Runs.makeFunc {fn : Fn} {first cap : List Operand} {vs us : List Value} (h1 : evalL L first = some vs) (h2 : evalL L cap = some us) : Runs P κ N ⟨d, .makeFunc fn first.toArray cap.toArray, ty, ps, af, gd⟩ L J (.func fn vs.toArray us.toArray) :=
  fun a w ha _ => by simp [execOp, Instr.makeFunc, ha.evalL h1, ha.evalL h2]

theorem fldF_spec {T k off : Nat} (h : fldF P T k = some off) : ∃ fs f i, P.underlying T = some (.struct fs) ∧ fs[k]? = some f ∧ P.info? f.type = some i ∧ i.size ≠ 0 ∧ f.offset = off := by
  unfold fldF at h
  split at h
  · rename_i fs hu
    cases hf : fs[k]? with
    | none => simp [hf] at h
    | some f =>
      cases hi : P.info? f.type with
      | none => simp [hf, hi] at h
      | some i =>
        simp [hf, hi] at h
        exact ⟨fs, f, i, hu, hf, hi, h.1, h.2⟩
  · cases h

theorem run_fieldAt {T k off : Nat} (h : fldF P T k = some off) (p : Addr) (w : World) : (Instr.fieldAt T (.pointer (some p)) k).run P w = .ok (.pointer (some (p.add off))) w := by
  obtain ⟨fs, f, i, hu, hf, hi, h0, ho⟩ := fldF_spec h
  subst ho
  simp [Instr.fieldAt, run_underlying hu, hf, Instr.sureAddr, fieldPlace, sizeOf, typeInfo, hi, h0]

theorem Runs.fieldAddr {x : Operand} {T k off b o : Nat} (h : fldF P T k = some off) (hx : evalO L x = some (.pointer (some ⟨b, o, none⟩))) :
    Runs P κ N ⟨d, .fieldAddr T x k, ty, ps, af, gd⟩ L J (.pointer (some ⟨b, o + off, none⟩)) :=
  fun a w ha _ => by simp [execOp, ha.eval hx, run_fieldAt h, addr_add]

theorem slOk.some {w : World} {sz : Nat} {v : Value} {n : Nat} {cs : List Value} (h : slOk w sz v n cs) (hn : 0 < n) : ∃ b off cap, v = .slice (some ⟨b, off, none⟩) n cap ∧ ∀ j u, cs[j]? = some u → w.cell? ⟨b, off + j, none⟩ = some u := by
  obtain ⟨a, cap, rfl, h1, h2, h3, h4⟩ := h
  obtain ⟨b, off, rfl, h5⟩ := h4 (by omega)
  exact ⟨b, off, cap, rfl, h5⟩

theorem Runs.indexAddr {x y : Operand} {T E sz n by' : Nat} {ag : Bool} {z : List Value} {v : Value} {cs : List Value} {i : Int} (ht : P.underlying T = some (.slice E)) (hE : tyF P E = some (sz, ag, by', z)) (hx : evalO L x = some v)
    (hy : evalO L y = some (I64 i)) (hv : SlRd κ J sz v n cs) (h0 : 0 ≤ i) (hn : i < n) : Runs P κ N ⟨d, .indexAddr T x y, ty, ps, af, gd⟩ L J (elemPtr v (i.toNat * sz)) :=
  fun a w ha hs => by
    obtain ⟨b, o, cap, rfl, _⟩ := (hv w hs).some (by omega)
    simp [execOp, ha.eval hx, ha.eval hy, Instr.indexAt, asIntOf, run_underlying ht, h0, hn, run_sizeOf hE, elemPtr]

theorem Runs.len {x : Operand} {T E sz n : Nat} {v : Value} {cs : List Value} (ht : P.underlying T = some (.slice E)) (hx : evalO L x = some v) (hv : SlRd κ J sz v n cs) :
    Runs P κ N ⟨d, .call { callee := .builtin .len, args := #[x], argTypes := #[T] }, ty, ps, af, gd⟩ L J (I64 n) :=
  fun a w ha hs => by
    obtain ⟨ad, cap, rfl, _⟩ := hv w hs
    simp [execOp, resolve, invoke, builtin, ha.eval hx, Builtin.len_, run_underlying ht, goInt]

/-- The length of a slice that is written out. -/
theorem Runs.lens {x : Operand} {T E n c : Nat} {ad : Option Addr} (ht : P.underlying T = some (.slice E)) (hx : evalO L x = some (.slice ad n c)) :
    Runs P κ N ⟨d, .call { callee := .builtin .len, args := #[x], argTypes := #[T] }, ty, ps, af, gd⟩ L J (I64 n) :=
  fun a w ha hs => by
    simp [execOp, resolve, invoke, builtin, ha.eval hx, Builtin.len_, run_underlying ht, goInt]

/-- One cell of a block. -/
theorem Runs.load {x : Operand} {T sz by' b o E : Nat} {z cs : List Value} {v : Value} (hT : tyF P T = some (sz, false, by', z)) (hx : evalO L x = some (.pointer (some ⟨b, o, none⟩))) (hb : blk b cs E ∈ J) (hc : cs[o]? = some v) :
    Runs P κ N ⟨d, .load T x, ty, ps, af, gd⟩ L J v :=
  fun a w ha hs => by
    have := cell_blk (w := w) (hs.ok _ hb).1 o
    simp [execOp, ha.eval hx, Instr.loadAt, Instr.sureAddr, run_loadVar_one hT (this.trans hc)]

/-- Several cells of a block. -/
theorem Runs.loads {x : Operand} {T sz by' b o E : Nat} {z cs vs : List Value} (hT : tyF P T = some (sz, true, by', z)) (hx : evalO L x = some (.pointer (some ⟨b, o, none⟩))) (hb : blk b cs E ∈ J) (hc : (cs.drop o).take sz = vs) (hl : vs.length = sz) :
    Runs P κ N ⟨d, .load T x, ty, ps, af, gd⟩ L J (.agg vs.toArray) :=
  fun a w ha hs => by
    have hcell := fun j => cell_blk (w := w) (hs.ok _ hb).1 j
    have : (loadVar T ⟨b, o, none⟩).run P w = .ok (.agg vs.toArray) w := run_loadVar_agg hT hl fun j u hj => by
      rw [addr_add, hcell, ← hj, ← hc, List.getElem?_take, if_pos (by have := (List.getElem?_eq_some_iff.1 hj).1; omega), List.getElem?_drop]
    simp [execOp, ha.eval hx, Instr.loadAt, Instr.sureAddr, this]

/-- One cell of a slice. -/
theorem Runs.loadElem {x : Operand} {T s by' sz n k : Nat} {z cs : List Value} {v u : Value} (hT : tyF P T = some (s, false, by', z)) (hx : evalO L x = some (elemPtr v k)) (hv : SlRd κ J sz v n cs) (hc : cs[k]? = some u) :
    Runs P κ N ⟨d, .load T x, ty, ps, af, gd⟩ L J u :=
  fun a w ha hs => by
    have hn : 0 < n := Nat.pos_of_ne_zero fun h => by
      obtain ⟨_, _, _, hl, _⟩ := hv w hs
      have := (List.getElem?_eq_some_iff.1 hc).1
      subst h
      simp at hl
      simp [hl] at this
    obtain ⟨b, o, cap, rfl, hr⟩ := (hv w hs).some hn
    simp [execOp, ha.eval hx, elemPtr, addr_add, Instr.loadAt, Instr.sureAddr, run_loadVar_one hT (hr k u hc)]

/-- Several cells of a slice. -/
theorem Runs.loadElems {x : Operand} {T s by' sz n k : Nat} {z cs us : List Value} {v : Value} (hT : tyF P T = some (s, true, by', z)) (hx : evalO L x = some (elemPtr v k)) (hv : SlRd κ J sz v n cs) (hn : 0 < n) (hc : ∀ j u, us[j]? = some u → cs[k + j]? = some u)
    (hl : us.length = s) : Runs P κ N ⟨d, .load T x, ty, ps, af, gd⟩ L J (.agg us.toArray) :=
  fun a w ha hs => by
    obtain ⟨b, o, cap, rfl, hr⟩ := (hv w hs).some hn
    have : (loadVar T ⟨b, o + k, none⟩).run P w = .ok (.agg us.toArray) w := run_loadVar_agg hT hl fun j u hj => by
      rw [addr_add, Nat.add_assoc]
      exact hr (k + j) u (hc j u hj)
    simp [execOp, ha.eval hx, elemPtr, addr_add, Instr.loadAt, Instr.sureAddr, this]

/-- Where a struct's fields lie. -/
def placesRun (P : Program) (T : TypeId) : Sem (Array (Nat × Nat)) :=
  match P.underlying T with
  | some (.struct fs) => fs.mapM fun f => do pure (f.offset, ← sizeOf f.type)
  | _ => pure #[]

/-- A struct out of its parts. -/
theorem Runs.build {T sz by' : Nat} {ag : Bool} {z cells : List Value} {fs : Array Field} {parts : List (Nat × Operand)} {vs : List Value} {places : Array (Nat × Nat)} (hT : tyF P T = some (sz, ag, by', z)) (ht : P.underlying T = some (.struct fs))
    (hpl : ∀ w : World, (placesRun P T).run P w = .ok places w)
    (hp : evalL L (parts.map (·.2)) = some vs) (hf : Instr.fill (places[·]?) z.toArray ((parts.map (·.1)).zip vs) = some cells.toArray) : Runs P κ N ⟨d, .build T parts.toArray, ty, ps, af, gd⟩ L J (.agg cells.toArray) :=
  fun a w ha hs => by
    obtain ⟨zv, hz, hzc⟩ := run_zeroCells hT w
    have hpp : parts.map (fun p => (p.1, a.eval p.2)) = (parts.map (·.1)).zip vs := by
      rw [← ha.evalL hp]
      clear hp hf
      induction parts with
      | nil => rfl
      | cons p ps ih => simp [ih]
    have hpp' : List.map (fun x : Nat × Operand => match x with | (i, x) => (i, a.eval x)) parts = (parts.map (·.1)).zip vs := hpp
    have hpw := hpl w
    simp only [placesRun, ht] at hpw
    simp only [execOp, Instr.build, Sem.run_bind, hz, Result.andThen_ok, run_underlying ht, hpw, List.map_toArray, hpp', hzc, hf, Sem.run_pure]

/-- s[l:h] -/
theorem Runs.slice {x : Operand} {T E sz by' n c l h : Nat} {ag : Bool} {z : List Value} {ad : Option Addr} {lo hi : Option Operand} (ht : P.underlying T = some (.slice E)) (hE : tyF P E = some (sz, ag, by', z)) (hx : evalO L x = some (.slice ad n c))
    (hlo : (lo = none ∧ l = 0) ∨ ∃ y, lo = some y ∧ evalO L y = some (I64 l)) (hhi : (hi = none ∧ h = n) ∨ ∃ y, hi = some y ∧ evalO L y = some (I64 h)) (hlh : l ≤ h) (hhc : h ≤ c) :
    Runs P κ N ⟨d, .slice T x lo hi none, ty, ps, af, gd⟩ L J (.slice (if c = l then ad else ad.map (·.add (l * sz))) (h - l) (c - l)) :=
  fun a w ha hs => by
    have h1 : ((l : Int) ≤ (h : Int)) := by omega
    have h2 : ((h : Int) ≤ (c : Int)) := by omega
    have key : (Instr.sliceBounds true n c (lo.map a.eval) (hi.map a.eval) none).run P w = .ok (l, h, c) w := by
      rcases hlo with ⟨rfl, rfl⟩ | ⟨y, rfl, hy⟩ <;> rcases hhi with ⟨rfl, rfl⟩ | ⟨y', rfl, hy'⟩
      · simp [Instr.sliceBounds]
      · simp [Instr.sliceBounds, ha.eval hy', Instr.sliceBound, asIntOf, hhc]
      · simp [Instr.sliceBounds, ha.eval hy, Instr.sliceBound, asIntOf, hlh]
      · simp [Instr.sliceBounds, ha.eval hy, ha.eval hy', Instr.sliceBound, asIntOf, hlh, hhc]
    simp [execOp, Instr.sliceAt, Instr.slice, run_underlying ht, ha.eval hx, key, run_sizeOf hE]

/-- Each is the value of one cell. -/
def AllOne : List Value → Prop
  | [] => True
  | v :: vs => v.oneCell' = true ∧ AllOne vs
theorem AllOne.nil : AllOne [] := trivial
theorem AllOne.cons {v : Value} {vs : List Value} (h : v.oneCell' = true) (t : AllOne vs) : AllOne (v :: vs) := ⟨h, t⟩
theorem AllOne.all : ∀ {vs : List Value}, AllOne vs → ∀ u ∈ vs, u.oneCell' = true
  | [], _, u, hu => by cases hu
  | v :: vs, h, u, hu => by
    rcases List.mem_cons.1 hu with rfl | hu
    · exact h.1
    · exact AllOne.all h.2 u hu

/-! ### Effects -/
theorem Eff.of_value {o : Oper} {dd : Nat} {R : Env → List Item → Prop} (hd : o.dst = some dd) (hN : Nat.blt dd N.n = true)
    (h : ∀ a w, Ag N a L → Sep κ w I → ∃ v w' I', (execOp a.eval o).run P w = .ok (.value v) w' ∧ R ((dd, v) :: L) I' ∧ Sep κ w' I') : Eff P κ N Q o L I R := fun a w ha hs => by
  obtain ⟨v, w', I', hr, hR, hs'⟩ := h a w ha hs
  simp only [Oper.wp, hr, Oper.upon, hd]
  exact ⟨_, _, hR, ha.put dd hN v, hs'⟩

theorem Eff.of_skip {o : Oper} {R : Env → List Item → Prop} (hd : o.dst = none)
    (h : ∀ a w, Ag N a L → Sep κ w I → ∃ w' I', (execOp a.eval o).run P w = .ok .skip w' ∧ R L I' ∧ Sep κ w' I') : Eff P κ N Q o L I R := fun a w ha hs => by
  obtain ⟨w', I', hr, hR, hs'⟩ := h a w ha hs
  simp only [Oper.wp, hr, Oper.upon, hd]
  exact ⟨_, _, hR, ha, hs'⟩

theorem sep_newblk {w : World} (hs : Sep κ w I) (cs : List Value) (T : TypeId) : Sep κ (w.alloc (.cells cs.toArray T)) (blk w.heap.size cs T :: I) :=
  hs.new (hs.alloc _) (heap_alloc_new w _) fun k hk => by obtain rfl : k = _ := hk; exact ⟨Nat.le_refl _, by simp⟩

theorem Eff.alloc {T sz by' dd : Nat} {ag : Bool} {z : List Value} (hT : tyF P T = some (sz, ag, by', z)) (hN : Nat.blt dd N.n = true) :
    Eff P κ N Q ⟨some dd, .alloc T, ty, ps, af, gd⟩ L I fun L' I' => ∃ b, L' = (dd, .pointer (some ⟨b, 0, none⟩)) :: L ∧ I' = blk b z T :: I :=
  Eff.of_value rfl hN fun a w ha hs => by
    obtain ⟨zv, hz, hzc⟩ := run_zeroCells hT w
    exact ⟨_, _, _, by simp [execOp, Instr.alloc, hz, newVar, newRow, hzc], ⟨_, rfl, rfl⟩, sep_newblk hs z T⟩

theorem Eff.box {x : Operand} {T dd : Nat} {v : Value} {cs : List Value} (hx : evalO L x = some v) (hc : cellsOf v = cs) (hN : Nat.blt dd N.n = true) :
    Eff P κ N Q ⟨some dd, .box T x, ty, ps, af, gd⟩ L I fun L' I' => ∃ b, L' = (dd, .pointer (some ⟨b, 0, none⟩)) :: L ∧ I' = blk b cs T :: I :=
  Eff.of_value rfl hN fun a w ha hs => by
    have hc' : v.cells = cs.toArray := by rw [← hc]; simp [cellsOf]
    exact ⟨_, _, _, by simp [execOp, Instr.box, ha.eval hx, newVar, newRow, hc'], ⟨_, rfl, rfl⟩, sep_newblk hs cs T⟩

theorem Eff.store {x y : Operand} {T sz by' b o E : Nat} {ag : Bool} {z cs vs cs' : List Value} {v : Value} {I' : List Item} (hT : tyF P T = some (sz, ag, by', z)) (hx : evalO L x = some (.pointer (some ⟨b, o, none⟩))) (hy : evalO L y = some v)
    (hv : cellsOf v = vs) (hl : vs.length = sz) (h1 : ∀ u ∈ vs, u.oneCell' = true) (hr : o + vs.length ≤ cs.length) (hcs : cs.take o ++ vs ++ cs.drop (o + vs.length) = cs') (hat : At I (blk b cs E) (blk b cs' E) I') :
    Eff P κ N Q ⟨none, .store T x y, ty, ps, af, gd⟩ L I fun L' I'' => L' = L ∧ I'' = I' :=
  Eff.of_skip rfl fun a w ha hs => by
    have hb := (hs.ok _ hat.mem).1
    have hst := run_storeVar hT hv hl h1 hb hr
    rw [hcs] at hst
    refine ⟨_, I', by simp [execOp, ha.eval hx, ha.eval hy, Instr.storeAt, Instr.sureAddr, hst]; rfl, ⟨rfl, rfl⟩, ?_⟩
    exact hs.upd hat rfl ⟨rfl, Nat.le_refl _⟩ rfl (by simp) (fun k _ hne => setRow_other w b k _ fun e => hne e) (setRow_heap w b cs.toArray _ E _ hb) fun k hk => .inl hk

theorem vecOk.some {w : World} {e sz : Nat} {v : Value} {n : Nat} {cs : List Value} (h : vecOk w e sz v n cs) (hn : 0 < n) :
    ∃ b off cap cur, v = .slice (some ⟨b, off, none⟩) n cap ∧ cs.length = n * sz ∧ n ≤ cap ∧ cap ≤ maxLen ∧ w.heap[b]? = some (.cells cur e (0, 0)) ∧ off + cap * sz ≤ cur.size ∧ ∀ j u, cs[j]? = some u → cur[off + j]? = some u := by
  obtain ⟨a, cap, rfl, h1, h2, h3, h4⟩ := h
  obtain ⟨b, off, cur, rfl, h5, h6, h7⟩ := h4 (by omega)
  exact ⟨b, off, cap, cur, rfl, h1, h2, h3, h5, h6, h7⟩

/-- A store into an owned slice. -/
theorem Eff.storeElem {x y : Operand} {T s by' sz n k e : Nat} {ag : Bool} {z cs vs cs' : List Value} {v u : Value} {I' : List Item} (hT : tyF P T = some (s, ag, by', z)) (hx : evalO L x = some (elemPtr v k)) (hy : evalO L y = some u)
    (hv : cellsOf u = vs) (hl : vs.length = s) (h1 : ∀ u ∈ vs, u.oneCell' = true) (hn : 0 < n) (hr : k + vs.length ≤ cs.length) (hcs : cs.take k ++ vs ++ cs.drop (k + vs.length) = cs') (hat : At I (vec e sz v n cs) (vec e sz v n cs') I') :
    Eff P κ N Q ⟨none, .store T x y, ty, ps, af, gd⟩ L I fun L' I'' => L' = L ∧ I'' = I' :=
  Eff.of_skip rfl fun a w ha hs => by
    obtain ⟨b, off, cap, cur, rfl, hlen, hnc, hcm, hb, hsize, hcur⟩ := vecOk.some (hs.ok _ hat.mem).1 hn
    have hb' : w.heap[b]? = some (.cells cur.toList.toArray e (0, 0)) := by simpa using hb
    have hmul : n * sz ≤ cap * sz := Nat.mul_le_mul_right sz hnc
    have hst := run_storeVar hT hv hl h1 hb' (o := off + k) (by simp only [Array.length_toList]; omega)
    refine ⟨_, I', by simp [execOp, ha.eval hx, ha.eval hy, elemPtr, addr_add, Instr.storeAt, Instr.sureAddr]; rw [hst]; simp; rfl, ⟨rfl, rfl⟩, ?_⟩
    refine hs.upd hat rfl ⟨rfl, Nat.le_refl _⟩ rfl (by simp) (fun k' _ hne => setRow_other w b k' _ fun e => hne (by subst e; exact ⟨off, n, cap, rfl, by omega⟩)) ?_ fun k hk => .inl hk
    have hl' : cs'.length = cs.length := by rw [← hcs]; simp only [List.length_append, List.length_take, List.length_drop]; omega
    refine ⟨_, cap, rfl, hl'.trans hlen, hnc, hcm, fun hc => ⟨b, off, _, rfl, setRow_heap w b cur _ e _ hb, ?_, fun j u' hj => ?_⟩⟩
    · simp only [List.size_toArray, List.length_append, List.length_take, List.length_drop, Array.length_toList]; omega
    · have hjl : j < cs.length := by rw [← hl']; exact (List.getElem?_eq_some_iff.1 hj).1
      have hA : (cur.toList.take (off + k)).length = off + k := by simp only [List.length_take, Array.length_toList]; omega
      have hB : (cs.take k).length = k := by simp only [List.length_take]; omega
      rw [← hcs] at hj
      simp only [List.getElem?_toArray]
      rw [List.append_assoc] at hj
      try rw [List.append_assoc]
      by_cases hjk : j < k
      · rw [List.getElem?_append_left (by omega), List.getElem?_take, if_pos hjk] at hj
        rw [List.getElem?_append_left (by omega), List.getElem?_take, if_pos (by omega)]
        simpa using hcur j u' hj
      · rw [List.getElem?_append_right (by omega), hB] at hj
        rw [List.getElem?_append_right (by omega), hA, show off + j - (off + k) = j - k from by omega]
        by_cases hjv : j - k < vs.length
        · rw [List.getElem?_append_left hjv] at hj
          rw [List.getElem?_append_left hjv]
          exact hj
        · rw [List.getElem?_append_right (by omega), List.getElem?_drop, show k + vs.length + (j - k - vs.length) = j from by omega] at hj
          rw [List.getElem?_append_right (by omega), List.getElem?_drop, show off + k + vs.length + (j - k - vs.length) = off + j from by omega]
          simpa using hcur j u' hj

/-- append to an owned slice -/
theorem Eff.append {x y : Operand} {t e sz by' n m dd : Nat} {ag : Bool} {z cs ds : List Value} {v u : Value} (ht : P.underlying t = some (.slice e)) (hT : tyF P e = some (sz, ag, by', z)) (hzl : z.length = sz) (hx : evalO L x = some v) (hy : evalO L y = some u)
    (hv : vec e sz v n cs ∈ I) (hu : SlRd κ I sz u m ds) (h1 : ∀ u ∈ ds, u.oneCell' = true) (h63 : n + m ≤ maxLen) (hby : (n + m) * by' ≤ 140737488355328) (hN : Nat.blt dd N.n = true) {I' : Option Addr → Nat → List Item} (hat : ∀ ad c, At I (vec e sz v n cs) (vec e sz (.slice ad (n + m) c) (n + m) (cs ++ ds)) (I' ad c)) :
    Eff P κ N Q ⟨some dd, .call { callee := .builtin .append, args := #[x, y], argTypes := #[t, t] }, ty, ps, af, gd⟩ L I fun L' I'' => ∃ ad c, L' = (dd, .slice ad (n + m) c) :: L ∧ I'' = I' ad c :=
  Eff.of_value rfl hN fun a w ha hs => by
    obtain ⟨v', w', hr, hok, ho, htp, hout, hsz, hk, hf⟩ := run_append_vec (P := P) (ty := ty) ht hT hzl (hs.ok _ hv).1 (hu w hs) h1 h63 hby
    obtain ⟨ad, c, rfl, hrest⟩ := hok
    refine ⟨_, w', I' ad c, by simp [execOp, resolve, invoke, builtin, ha.eval hx, ha.eval hy, hr], ⟨ad, c, rfl, rfl⟩, ?_⟩
    exact hs.upd (hat _ _) ho htp hout hsz hk ⟨ad, c, rfl, hrest⟩ hf

theorem Eff.makeSlice {x y : Operand} {t e sz by' n dd : Nat} {ag : Bool} {z : List Value} (ht : P.underlying t = some (.slice e)) (hT : tyF P e = some (sz, ag, by', z)) (hzl : z.length = sz) (hx : evalO L x = some (I64 n)) (hy : evalO L y = some (I64 n))
    (h63 : n ≤ maxLen) (hby : n * by' ≤ 281474976710656) (hN : Nat.blt dd N.n = true) :
    Eff P κ N Q ⟨some dd, .makeSlice t x y, ty, ps, af, gd⟩ L I fun L' I'' => ∃ ad c, L' = (dd, .slice ad n c) :: L ∧ I'' = vec e sz (.slice ad n c) n (List.replicate n z).flatten :: I :=
  Eff.of_value rfl hN fun a w ha hs => by
    obtain ⟨v', w', hr, hok, ho, htp, hout, hsz, hk, hf⟩ := run_makeSlice_vec (P := P) (w := w) ht hT hzl n h63 hby
    obtain ⟨ad, c, rfl, hrest⟩ := hok
    refine ⟨_, w', _, by simp [execOp, ha.eval hx, ha.eval hy, hr], ⟨ad, c, rfl, rfl⟩, ?_⟩
    refine hs.new (hs.frame ho htp hout hsz fun x hx k hk' => hk k ((hs.ok x hx).2 k hk')) ⟨ad, c, rfl, hrest⟩ hf

/-- []T{..} -/
theorem Eff.buildSlice {t e sz by' n dd : Nat} {ag : Bool} {z : List Value} {cells : List Value} {parts : List (Nat × Operand)} {vs : List Value} (ht : P.underlying t = some (.slice e)) (hT : tyF P e = some (sz, ag, by', z)) (hzl : z.length = sz)
    (hp : evalL L (parts.map (·.2)) = some vs) (hn : 0 < n * sz) (hle : n * sz ≤ 16777216)
    (hf : Instr.fill (fun i => some (i * sz, sz)) (List.replicate n z).flatten.toArray ((parts.map (·.1)).zip vs) = some cells.toArray) (hl : cells.length = n * sz) (hN : Nat.blt dd N.n = true) :
    Eff P κ N Q ⟨some dd, .buildSlice t n parts.toArray, ty, ps, af, gd⟩ L I fun L' I'' => ∃ ad, L' = (dd, .slice ad n n) :: L ∧ I'' = vec e sz (.slice ad n n) n cells :: I :=
  Eff.of_value rfl hN fun a w ha hs => by
    obtain ⟨zv, hz, hzc⟩ := run_zeroCells hT w
    have hpp : parts.map (fun p => (p.1, a.eval p.2)) = (parts.map (·.1)).zip vs := by
      rw [← ha.evalL hp]
      clear hp hf
      induction parts with
      | nil => rfl
      | cons p ps ih => simp [ih]
    have hpp' : List.map (fun x : Nat × Operand => match x with | (i, x) => (i, a.eval x)) parts = (parts.map (·.1)).zip vs := hpp
    have hcells : (Array.range (n * sz)).map (fun j => zv.cells[j % zv.cells.size]!) = (List.replicate n z).flatten.toArray := by
      apply Array.ext'
      simp only [Array.toList_map, Array.toList_range]
      rw [hzc]
      apply List.ext_getElem?
      intro j
      simp only [List.getElem?_map, List.size_toArray, hzl]
      by_cases hj : j < n * sz
      · have hs : 0 < sz := Nat.pos_of_ne_zero fun h => by subst h; simp at hj
        rw [List.getElem?_range hj]
        have hjm : j % sz < z.length := by rw [hzl]; exact Nat.mod_lt _ hs
        rw [flatten_rep z n j (by rw [hzl]; exact hs) (by rw [hzl]; exact hj), hzl]
        simp [hjm]
      · rw [List.getElem?_eq_none (by simpa using hj), List.getElem?_eq_none (by rw [len_rep, hzl]; omega)]
        rfl
    have h0 : ¬ n * sz = 0 := by omega
    have h1 : ¬ 16777216 < n * sz := by omega
    have hbs : (Instr.buildSlice t n ((parts.map (·.1)).zip vs).toArray).run P w = .ok (.slice (some ⟨w.heap.size, 0, none⟩) n n) (w.alloc (.cells cells.toArray e)) := by
      simp [Instr.buildSlice, run_underlying ht, run_sizeOf hT, h0, h1, hz, hcells, hf, newRow]
    refine ⟨.slice (some ⟨w.heap.size, 0, none⟩) n n, _, _, by simp only [execOp, List.map_toArray, hpp']; rw [Sem.run_bind, hbs]; rfl, ⟨_, rfl, rfl⟩, ?_⟩
    refine hs.new (hs.alloc _) ⟨_, n, rfl, hl, Nat.le_refl _, ?_, fun _ => ⟨w.heap.size, 0, _, rfl, heap_alloc_new w _, by simp [hl], fun j u hj => by simpa using hj⟩⟩ fun k hk => ?_
    · have hs : 0 < sz := Nat.pos_of_ne_zero fun h => by subst h; simp at hn
      have := Nat.le_mul_of_pos_right n hs
      simp only [maxLen]; omega
    · obtain ⟨o, n', c', he, hc'⟩ := hk
      cases he
      exact ⟨Nat.le_refl _, by simp⟩

theorem callable_spec {f : FuncId} (h : callable P f = true) : ∃ fn, P.funcs[f]? = some fn ∧ (fn.name == "runtime.NumGoroutine") = false ∧ fn.body.isNone = false := by
  unfold callable at h
  split at h
  · rename_i fn hf
    simp at h
    exact ⟨fn, hf, by simpa using h.1, by
      cases hb : fn.body with
      | none => simp [hb] at h
      | some _ => rfl⟩
  · cases h

theorem run_callFunc {f : FuncId} (h : callable P f = true) (args : Array Value) (w : World) : (callFunc f args).run P w = .ok (.enter f args) w := by
  obtain ⟨fn, hfn, hname, hbody⟩ := callable_spec h
  simp only [callFunc, Sem.run_bind, run_program, Result.andThen_ok, hfn, hname, hbody, Bool.false_eq_true, if_false]
  rfl

/-- A call of a function by its contract. -/
theorem Eff.call {f : FuncId} {dd : Nat} {xs : List Operand} {vs : List Value} {as : Array TypeId} {Post : Value → List Item → Prop} (hf : callable P f = true) (hx : evalL L xs = some vs) (hN : Nat.blt dd N.n = true) (hc : CallS P κ f vs I Post) :
    Eff P κ N Q ⟨some dd, .call { callee := .value (.func f), args := xs.toArray, argTypes := as }, ty, ps, af, gd⟩ L I fun L' I'' => ∃ v J, Post v J ∧ L' = (dd, v) :: L ∧ J = I'' := fun a w ha hs => by
  have he : (execOp a.eval ⟨some dd, .call { callee := .value (.func f), args := xs.toArray, argTypes := as }, ty, ps, af, gd⟩).run P w = .ok (.enter f vs.toArray) w := by
    have e1 : a.eval (.func f) = .func (.func f) #[] #[] := rfl
    simp only [execOp, resolve, e1, Deferred.ofValue, invoke, Sem.run_bind, Sem.run_pure, Result.andThen_ok, List.map_toArray, ha.evalL hx, run_callFunc hf]
    simp
  simp only [Oper.wp, he, Oper.upon]
  refine (hc w hs).mono fun e w' ⟨v, J, hev, hp, hs'⟩ => ?_
  subst hev
  exact ⟨_, _, ⟨v, J, hp, rfl, rfl⟩, ha.put dd hN v, hs'⟩

/-- A call of a function value. -/
theorem Eff.callv {f : FuncId} {dd : Nat} {x : Operand} {first caps : List Value} {xs : List Operand} {vs : List Value} {as : Array TypeId} {Post : Value → List Item → Prop} (hf : callable P f = true) (hfv : evalO L x = some (.func (.func f) first.toArray caps.toArray))
    (hx : evalL L xs = some vs) (hN : Nat.blt dd N.n = true) (hc : CallS P κ f (first ++ vs ++ caps) I Post) :
    Eff P κ N Q ⟨some dd, .call { callee := .value x, args := xs.toArray, argTypes := as }, ty, ps, af, gd⟩ L I fun L' I'' => ∃ v J, Post v J ∧ L' = (dd, v) :: L ∧ J = I'' := fun a w ha hs => by
  have he : (execOp a.eval ⟨some dd, .call { callee := .value x, args := xs.toArray, argTypes := as }, ty, ps, af, gd⟩).run P w = .ok (.enter f (first ++ vs ++ caps).toArray) w := by
    simp only [execOp, resolve, ha.eval hfv, Deferred.ofValue, invoke, Sem.run_bind, Sem.run_pure, Result.andThen_ok, List.map_toArray, ha.evalL hx, run_callFunc hf]
    simp
  simp only [Oper.wp, he, Oper.upon]
  refine (hc w hs).mono fun e w' ⟨v, J, hev, hp, hs'⟩ => ?_
  subst hev
  exact ⟨_, _, ⟨v, J, hp, rfl, rfl⟩, ha.put dd hN v, hs'⟩

/-! ### Entering and leaving a function -/
def RetR (κ : Ctx) (Post : Value → List Item → Prop) : Ending → World → Prop := fun e w' => ∃ v J, e = .returned v ∧ Post v J ∧ Sep κ w' J

theorem CallS.enter {f : FuncId} {fn : Func} {c : Code} {n : Nat} {args : List Value} {Post : Value → List Item → Prop} (hf : P.funcs[f]? = some fn) (hb : fn.body = some c) (hN : fn.ntmps = n) (hl : Nat.ble args.length n = true) (hL : argEnv 0 args = L)
    (h : W P κ ⟨n, []⟩ c (bodyPost P fn (RetR κ Post)) L I) : CallS P κ f args I Post := fun w hs => by
  refine calls_of_wp hf hb ?_
  rw [hN]
  subst hL
  exact h _ w (Ag.start args n (by simpa using hl)) hs

/-- One result, in a slot. -/
theorem V.ret1 {fn : Func} {t : Tmp} {v : Value} {Post : Value → List Item → Prop} (hr : fn.results = #[.tmp t]) (hv : look L t = some v) (J : List Item) (hf : Fit κ I J) (hp : Post v J) (h0 : N.ds = [] := by rfl) : V κ N (bodyPost P fn (RetR κ Post)) .ret L I :=
  fun a w ha hs => bodyPost_ret (v := v) (by rw [results_tmp hr]; simp [ha.get t v hv]) (ha.defers.trans h0) ⟨v, J, rfl, hp, hf w hs⟩
theorem V.end0 {fn : Func} {Post : Value → List Item → Prop} (hr : fn.results = #[]) (J : List Item) (hf : Fit κ I J) (hp : Post (.tuple #[]) J) (h0 : N.ds = [] := by rfl) : V κ N (bodyPost P fn (RetR κ Post)) .normal L I :=
  fun a w ha hs => bodyPost_end (v := .tuple #[]) (by rw [results_none hr]) (ha.defers.trans h0) ⟨_, J, rfl, hp, hf w hs⟩

/-- A struct result in a block, and one in a slot. -/
theorem V.retc1 {fn : Func} {t u : Tmp} {T b E sz by' : Nat} {z cs : List Value} {v' : Value} {Post : Value → List Item → Prop} (hr : fn.results = #[.cell t T, .tmp u]) (hT : tyF P T = some (sz, true, by', z)) (hv : look L t = some (.pointer (some ⟨b, 0, none⟩))) (hv' : look L u = some v') (hb : blk b cs E ∈ I)
    (hl : cs.length = sz) (J : List Item) (hf : Fit κ I J) (hp : Post (.tuple #[.agg cs.toArray, v']) J) (h0 : N.ds = [] := by rfl) : V κ N (bodyPost P fn (RetR κ Post)) .ret L I :=
  fun a w ha hs => by
    have hcell := fun j => cell_blk (w := w) (hs.ok _ hb).1 j
    have hload : (loadVar T ⟨b, 0, none⟩).run P w = .ok (.agg cs.toArray) w := run_loadVar_agg hT hl fun j u hj => by rw [addr_add, hcell, ← hj]; simp
    refine bodyPost_ret (v := .tuple #[.agg cs.toArray, v']) ?_ (ha.defers.trans h0) ⟨_, J, rfl, hp, hf w hs⟩
    simp [results, hr, ha.get t _ hv, ha.get u _ hv', asAddr, hload]
end
end Go.Sl
/- Slices of Lean data: what a list of numbers or of structs is in memory. No conditions. -/
namespace Go.Sl
set_option linter.unusedVariables false
set_option linter.unusedSimpArgs false
set_option linter.unusedSectionVars false

/-- How a value is laid in cells. -/
class Enc (α : Type) where
  enc : α → List Value
  sz : Nat
  pos : 0 < sz
  len : ∀ x, (enc x).length = sz
  one : ∀ x, ∀ u ∈ enc x, u.oneCell' = true

instance : Enc Bool := ⟨fun b => [.bool b], 1, by omega, fun _ => rfl, fun _ u h => by simp at h; subst h; rfl⟩
instance : Enc Int := ⟨fun n => [I64 n], 1, by omega, fun _ => rfl, fun _ u h => by simp at h; subst h; rfl⟩

/-- Element number i. -/
def at_ {α : Type} [Inhabited α] (xs : List α) (i : Int) : α := xs.getD i.toNat default

theorem at_eq {α : Type} [Inhabited α] {xs : List α} {i : Int} (h0 : 0 ≤ i) (hn : i < xs.length) : at_ xs i = xs[i.toNat]'(by omega) := by
  simp [at_, List.getD_eq_getElem?_getD, List.getElem?_eq_getElem (show i.toNat < xs.length by omega)]

def cells {α : Type} [Enc α] (xs : List α) : List Value := xs.flatMap Enc.enc

/-- I says that the slice v reads xs. -/
def Sl {α : Type} [Enc α] (κ : Ctx) (I : List Item) (v : Value) (xs : List α) : Prop := SlRd κ I (Enc.sz α) v xs.length (cells xs)
/-- An owned slice that reads xs; its elements' type has number e. -/
def vc {α : Type} [Enc α] (e : TypeId) (v : Value) (xs : List α) : Item := vec e (Enc.sz α) v xs.length (cells xs)

section
variable {α : Type} [Enc α]
theorem cells_cons (x : α) (xs : List α) : cells (x :: xs) = Enc.enc x ++ cells xs := rfl
theorem cells_append (xs ys : List α) : cells (xs ++ ys) = cells xs ++ cells ys := by simp [cells]
theorem cells_length (xs : List α) : (cells xs).length = xs.length * Enc.sz α := by
  induction xs with
  | nil => simp [cells]
  | cons x xs ih => rw [cells_cons, List.length_append, ih, Enc.len, List.length_cons, Nat.add_mul]; omega
theorem cells_one (xs : List α) : ∀ u ∈ cells xs, u.oneCell' = true := fun u hu => by
  obtain ⟨x, _, hx⟩ := List.mem_flatMap.1 hu
  exact Enc.one x u hx
theorem cells_get (xs : List α) : ∀ (i j : Nat) (hi : i < xs.length), j < Enc.sz α → (cells xs)[i * Enc.sz α + j]? = (Enc.enc xs[i])[j]? := by
  induction xs with
  | nil => intro i j hi; simp at hi
  | cons x xs ih =>
    intro i j hi hj
    rw [cells_cons]
    cases i with
    | zero =>
      rw [List.getElem?_append_left (by rw [Enc.len]; omega)]
      simp
    | succ i =>
      have e : (i + 1) * Enc.sz α + j = Enc.sz α + (i * Enc.sz α + j) := by rw [Nat.add_mul]; omega
      rw [e, List.getElem?_append_right (by rw [Enc.len]; omega), Enc.len, Nat.add_sub_cancel_left, ih i j (by simpa using hi) hj]
      simp
theorem cells_take (xs : List α) (i : Nat) : cells (xs.take i) = (cells xs).take (i * Enc.sz α) := by
  induction xs generalizing i with
  | nil => simp [cells]
  | cons x xs ih =>
    cases i with
    | zero => simp [cells]
    | succ i =>
      have e : (i + 1) * Enc.sz α = Enc.sz α + i * Enc.sz α := by rw [Nat.add_mul]; omega
      have h1 : (Enc.enc x).take (Enc.sz α + i * Enc.sz α) = Enc.enc x := List.take_of_length_le (by rw [Enc.len]; omega)
      rw [List.take_succ_cons, cells_cons, cells_cons, ih, List.take_append, Enc.len, e, h1, Nat.add_sub_cancel_left]
theorem cells_drop (xs : List α) (i : Nat) : cells (xs.drop i) = (cells xs).drop (i * Enc.sz α) := by
  induction xs generalizing i with
  | nil => simp [cells]
  | cons x xs ih =>
    cases i with
    | zero => simp [cells]
    | succ i =>
      have e : (i + 1) * Enc.sz α = Enc.sz α + i * Enc.sz α := by rw [Nat.add_mul]; omega
      have h1 : (Enc.enc x).drop (Enc.sz α + i * Enc.sz α) = [] := List.drop_eq_nil_of_le (by rw [Enc.len]; omega)
      rw [List.drop_succ_cons, cells_cons, ih, List.drop_append, Enc.len, e, h1, Nat.add_sub_cancel_left, List.nil_append]
theorem cells_set (xs : List α) (i : Nat) (x : α) (hi : i < xs.length) : (cells xs).take (i * Enc.sz α) ++ Enc.enc x ++ (cells xs).drop (i * Enc.sz α + Enc.sz α) = cells (xs.set i x) := by
  have h1 : xs.set i x = xs.take i ++ x :: xs.drop (i + 1) := List.set_eq_take_append_cons_drop.trans (by rw [if_pos hi])
  rw [h1, cells_append, cells_cons, cells_take, cells_drop, Nat.add_mul, Nat.one_mul, List.append_assoc]

variable {κ : Ctx} {I J : List Item} {v : Value} {xs : List α}
theorem Sl.fit (h : Sl κ I v xs) (hf : Fit κ J I) : Sl κ J v xs := SlRd.fit h hf
theorem Sl.vec {e : TypeId} (h : vc e v xs ∈ I) : Sl κ I v xs := SlRd.vec h
theorem Sl.nil (I : List Item) : Sl κ I (.slice none 0 0) ([] : List α) := SlRd.nil I _
theorem Sl.le (h : Sl κ I v xs) : ∀ w, Sep κ w I → xs.length ≤ 9223372036854775807 := fun w hs => by
  obtain ⟨_, _, _, _, h1, h2, _⟩ := h w hs
  simp only [maxLen] at h2
  omega
theorem vc.le {e : TypeId} (h : vc e v xs ∈ I) : ∀ w, Sep κ w I → xs.length ≤ 9223372036854775807 := (Sl.vec (κ := κ) h).le
end

section
variable {P : Program} {κ : Ctx} {N : Fr} {Q : Exit → Act → World → Prop} {L : Env} {I J : List Item}
variable {d : Option Tmp} {ty : TypeId} {ps : String} {af : Array Edge} {gd : Option (Nat × Bool)}
variable {α : Type} [Enc α] {v : Value} {xs : List α}

theorem Runs.idx {x y : Operand} {T E by' : Nat} {ag : Bool} {z : List Value} {i : Int} (ht : P.underlying T = some (.slice E)) (hE : tyF P E = some (Enc.sz α, ag, by', z)) (hx : evalO L x = some v)
    (hy : evalO L y = some (I64 i)) (hv : Sl κ J v xs) (h0 : 0 ≤ i) (hn : i < xs.length) : Runs P κ N ⟨d, .indexAddr T x y, ty, ps, af, gd⟩ L J (elemPtr v (i.toNat * Enc.sz α)) :=
  Runs.indexAddr ht hE hx hy hv h0 hn

theorem Runs.lenT {x : Operand} {T E : Nat} (ht : P.underlying T = some (.slice E)) (hx : evalO L x = some v) (hv : Sl κ J v xs) :
    Runs P κ N ⟨d, .call { callee := .builtin .len, args := #[x], argTypes := #[T] }, ty, ps, af, gd⟩ L J (I64 xs.length) := Runs.len ht hx hv

/-- xs[i], of one cell. -/
theorem Runs.get {xs : List Int} {x : Operand} {T s by' : Nat} {z : List Value} {i : Int} (hT : tyF P T = some (s, false, by', z)) (hx : evalO L x = some (elemPtr v (i.toNat * Enc.sz Int))) (hv : Sl κ J v xs) (h0 : 0 ≤ i) (hn : i < xs.length) :
    Runs P κ N ⟨d, .load T x, ty, ps, af, gd⟩ L J (I64 (at_ xs i)) :=
  Runs.loadElem hT hx hv (by
    have := cells_get xs i.toNat 0 (by omega) (by decide)
    simp only [Nat.add_zero] at this
    rw [this, at_eq h0 hn]; rfl)

/-- xs[i], a struct. -/
theorem Runs.gets [Inhabited α] {x : Operand} {T by' : Nat} {z : List Value} {i : Int} (hT : tyF P T = some (Enc.sz α, true, by', z)) (hx : evalO L x = some (elemPtr v (i.toNat * Enc.sz α))) (hv : Sl κ J v xs) (h0 : 0 ≤ i) (hn : i < xs.length) :
    Runs P κ N ⟨d, .load T x, ty, ps, af, gd⟩ L J (.agg (Enc.enc (at_ xs i)).toArray) :=
  Runs.loadElems hT hx hv (by omega) (fun j u hj => by
    have hj' : j < Enc.sz α := by rw [← Enc.len (at_ xs i)]; exact (List.getElem?_eq_some_iff.1 hj).1
    rw [cells_get xs i.toNat j (by omega) hj', ← at_eq h0 hn]; exact hj) (Enc.len _)

/-- xs[i].f, of one cell. -/
theorem Runs.getf [Inhabited α] {x : Operand} {T s by' j : Nat} {z : List Value} {i : Int} {u : Value} (hT : tyF P T = some (s, false, by', z)) (hx : evalO L x = some (elemPtr v (i.toNat * Enc.sz α + j))) (hv : Sl κ J v xs) (h0 : 0 ≤ i) (hn : i < xs.length)
    (hu : (Enc.enc (at_ xs i))[j]? = some u) : Runs P κ N ⟨d, .load T x, ty, ps, af, gd⟩ L J u :=
  Runs.loadElem hT hx hv (by
    have hj' : j < Enc.sz α := by rw [← Enc.len (at_ xs i)]; exact (List.getElem?_eq_some_iff.1 hu).1
    rw [cells_get xs i.toNat j (by omega) hj', ← at_eq h0 hn]; exact hu)

/-- xs[i] = y -/
theorem Eff.set {x y : Operand} {T by' e : Nat} {ag : Bool} {z : List Value} {i : Int} {u : Value} {new : α} {I' : List Item} (hT : tyF P T = some (Enc.sz α, ag, by', z)) (hx : evalO L x = some (elemPtr v (i.toNat * Enc.sz α))) (hy : evalO L y = some u)
    (hu : cellsOf u = Enc.enc new) (h0 : 0 ≤ i) (hn : i < xs.length) (hat : At I (vc e v xs) (vc e v (xs.set i.toNat new)) I') : Eff P κ N Q ⟨none, .store T x y, ty, ps, af, gd⟩ L I fun L' I'' => L' = L ∧ I'' = I' := by
  have hs := cells_set xs i.toNat new (by omega)
  have hl := cells_length xs
  refine Eff.storeElem (sz := Enc.sz α) (n := xs.length) (cs := cells xs) (cs' := cells (xs.set i.toNat new)) (e := e) hT hx hy hu (Enc.len _) (Enc.one _) (by omega) ?_ ?_ ?_
  · rw [Enc.len, hl]
    have : (i.toNat + 1) * Enc.sz α ≤ xs.length * Enc.sz α := Nat.mul_le_mul_right _ (by omega)
    rw [Nat.add_mul] at this
    omega
  · rw [Enc.len]; exact hs
  · have := hat
    unfold vc at this
    rw [List.length_set] at this
    exact this

/-- append(xs, ys...) -/
theorem Eff.app {x y : Operand} {t e by' dd : Nat} {ag : Bool} {z : List Value} {u : Value} {ys : List α} (ht : P.underlying t = some (.slice e)) (hT : tyF P e = some (Enc.sz α, ag, by', z)) (hzl : z.length = Enc.sz α) (hx : evalO L x = some v) (hy : evalO L y = some u)
    (hv : vc e v xs ∈ I) (hu : Sl κ I u ys) (hby : (xs.length + ys.length) * by' ≤ 140737488355328) (hby0 : 0 < by') (hN : Nat.blt dd N.n = true) {I' : Option Addr → Nat → List Item} (hat : ∀ ad c, At I (vc e v xs) (vc e (.slice ad (xs ++ ys).length c) (xs ++ ys)) (I' ad c)) :
    Eff P κ N Q ⟨some dd, .call { callee := .builtin .append, args := #[x, y], argTypes := #[t, t] }, ty, ps, af, gd⟩ L I fun L' I'' => ∃ ad c, L' = (dd, .slice ad (xs ++ ys).length c) :: L ∧ I'' = I' ad c := by
  have h63 : xs.length + ys.length ≤ maxLen := by
    have := Nat.le_mul_of_pos_right (xs.length + ys.length) hby0
    simp only [maxLen]; omega
  have h := Eff.append (P := P) (κ := κ) (N := N) (Q := Q) (ty := ty) (ps := ps) (af := af) (gd := gd) (I' := I') ht hT hzl hx hy hv hu (cells_one ys) h63 hby hN fun ad c => by
    have := hat ad c
    unfold vc at this
    rw [List.length_append, cells_append] at this
    exact this
  rw [← List.length_append] at h
  exact h

theorem rep_cells [Inhabited α] : ∀ (n : Nat), (List.replicate n (Enc.enc (default : α))).flatten = cells (List.replicate n (default : α))
  | 0 => rfl
  | n + 1 => by rw [List.replicate_succ, List.replicate_succ, cells_cons, List.flatten_cons, rep_cells n]

theorem Eff.make {x y : Operand} {t e by' n dd : Nat} {m : Int} {ag : Bool} {z : List Value} [Inhabited α] (ht : P.underlying t = some (.slice e)) (hT : tyF P e = some (Enc.sz α, ag, by', z)) (hz : z = Enc.enc (default : α)) (hx : evalO L x = some (I64 m)) (hy : evalO L y = some (I64 m)) (hm : m = (n : Int))
    (hby : n * by' ≤ 281474976710656) (hby0 : 0 < by') (hN : Nat.blt dd N.n = true) :
    Eff P κ N Q ⟨some dd, .makeSlice t x y, ty, ps, af, gd⟩ L I fun L' I'' => ∃ ad c, L' = (dd, .slice ad (List.replicate n (default : α)).length c) :: L ∧ I'' = vc e (.slice ad (List.replicate n (default : α)).length c) (List.replicate n (default : α)) :: I := by
  subst hm
  have h63 : n ≤ maxLen := by
    have := Nat.le_mul_of_pos_right n hby0
    simp only [maxLen]; omega
  have h := Eff.makeSlice (P := P) (κ := κ) (N := N) (Q := Q) (L := L) (I := I) (ty := ty) (ps := ps) (af := af) (gd := gd) ht hT (by rw [hz, Enc.len]) hx hy h63 hby hN
  have e : (List.replicate n z).flatten = cells (List.replicate n (default : α)) := by rw [hz, rep_cells]
  unfold vc
  rw [List.length_replicate]
  rw [e] at h
  exact h

/-- Where s[l:] begins. -/
def adrop (ad : Option Addr) (c l sz : Nat) : Option Addr := if c = l then ad else ad.map (·.add (l * sz))

theorem Sl.take {ad : Option Addr} {n c h : Nat} (hv : Sl κ I (.slice ad n c) xs) (hh : h ≤ xs.length) : Sl κ I (.slice ad (xs.take h).length c) (xs.take h) := fun w hs => by
  obtain ⟨a, cap, he, h1, h2, h3, h4⟩ := hv w hs
  cases he
  refine ⟨ad, c, rfl, cells_length _, by rw [List.length_take]; omega, h3, fun hc => ?_⟩
  obtain ⟨b, off, rfl, hr⟩ := h4 hc
  refine ⟨b, off, rfl, fun j u hj => hr j u ?_⟩
  rw [cells_take, List.getElem?_take] at hj
  split at hj
  · exact hj
  · cases hj

theorem Sl.drop {ad : Option Addr} {n c l : Nat} (hv : Sl κ I (.slice ad n c) xs) (hl : l ≤ xs.length) : Sl κ I (.slice (adrop ad c l (Enc.sz α)) (xs.drop l).length (c - l)) (xs.drop l) := fun w hs => by
  obtain ⟨a, cap, he, h1, h2, h3, h4⟩ := hv w hs
  cases he
  refine ⟨_, c - l, rfl, by rw [cells_length, List.length_drop], by rw [List.length_drop]; omega, by omega, fun hc => ?_⟩
  obtain ⟨b, off, rfl, hr⟩ := h4 (by omega)
  refine ⟨b, off + l * Enc.sz α, by unfold adrop; rw [if_neg (by omega)]; simp [addr_add], fun j u hj => ?_⟩
  rw [cells_drop, List.getElem?_drop] at hj
  rw [Nat.add_assoc]
  exact hr _ u hj

/-- s[:h] -/
theorem Runs.hi {x y : Operand} {T E by' n c h : Nat} {ag : Bool} {z : List Value} {ad : Option Addr} {m : Int} (ht : P.underlying T = some (.slice E)) (hE : tyF P E = some (Enc.sz α, ag, by', z)) (hx : evalO L x = some (.slice ad n c)) (hy : evalO L y = some (I64 m)) (hm : m = (h : Int))
    (hv : Sl κ J (.slice ad n c) xs) (hh : h ≤ xs.length) : Runs P κ N ⟨d, .slice T x none (some y) none, ty, ps, af, gd⟩ L J (.slice ad (xs.take h).length c) := fun a w ha hs => by
  subst hm
  obtain ⟨_, _, he, _, h2, _⟩ := hv w hs
  cases he
  have := Runs.slice (P := P) (κ := κ) (N := N) (L := L) (J := J) (d := d) (ty := ty) (ps := ps) (af := af) (gd := gd) (l := 0) (h := h) ht hE hx (.inl ⟨rfl, rfl⟩) (.inr ⟨y, rfl, hy⟩) (Nat.zero_le _) (by omega) a w ha hs
  rw [this, List.length_take, Nat.min_eq_left hh]
  have e : (if c = 0 then ad else ad.map (fun x => x.add (0 * Enc.sz α))) = ad := by
    split
    · rfl
    · cases ad <;> simp [Addr.add]
  rw [e]
  rfl

/-- s[l:] -/
theorem Runs.lo {x y : Operand} {T E by' n c l : Nat} {ag : Bool} {z : List Value} {ad : Option Addr} {m : Int} (ht : P.underlying T = some (.slice E)) (hE : tyF P E = some (Enc.sz α, ag, by', z)) (hx : evalO L x = some (.slice ad n c)) (hy : evalO L y = some (I64 m)) (hm : m = (l : Int))
    (hv : Sl κ J (.slice ad n c) xs) (hl : l ≤ xs.length) : Runs P κ N ⟨d, .slice T x (some y) none none, ty, ps, af, gd⟩ L J (.slice (adrop ad c l (Enc.sz α)) (xs.drop l).length (c - l)) := fun a w ha hs => by
  subst hm
  obtain ⟨_, _, he, _, h2, _⟩ := hv w hs
  cases he
  rw [List.length_drop]
  exact Runs.slice (P := P) (κ := κ) (N := N) (L := L) (J := J) (d := d) (ty := ty) (ps := ps) (af := af) (gd := gd) (l := l) ht hE hx (.inr ⟨y, rfl, hy⟩) (.inl ⟨rfl, rfl⟩) hl h2 a w ha hs

/-- []T{..} -/
theorem Eff.bs {t e by' n dd : Nat} {ag : Bool} {z cs : List Value} {parts : List (Nat × Operand)} {vs : List Value} {xs : List α} (ht : P.underlying t = some (.slice e)) (hT : tyF P e = some (Enc.sz α, ag, by', z)) (hzl : z.length = Enc.sz α)
    (hp : evalL L (parts.map (·.2)) = some vs) (hn : 0 < n) (hle : n * Enc.sz α ≤ 16777216) (hxl : xs.length = n)
    (hf : Instr.fill (fun i => some (i * Enc.sz α, Enc.sz α)) (List.replicate n z).flatten.toArray ((parts.map (·.1)).zip vs) = some cs.toArray) (hc : cs = cells xs) (hN : Nat.blt dd N.n = true) :
    Eff P κ N Q ⟨some dd, .buildSlice t n parts.toArray, ty, ps, af, gd⟩ L I fun L' I'' => ∃ ad, L' = (dd, .slice ad n n) :: L ∧ I'' = vc e (.slice ad n n) xs :: I := by
  have h := Eff.buildSlice (P := P) (κ := κ) (N := N) (Q := Q) (L := L) (I := I) (ty := ty) (ps := ps) (af := af) (gd := gd) (cells := cells xs) ht hT hzl hp (Nat.mul_pos hn Enc.pos) hle (by rw [hf, hc]) (by rw [cells_length, hxl]) hN
  unfold vc
  rw [hxl]
  exact h

theorem Fit.nilvc (e : TypeId) (J : List Item) : Fit κ J (vc e (.slice none 0 0) ([] : List α) :: J) := fun w s => s.vec_nil e (Enc.sz α)

theorem Fit.upd {x x' : Item} {I I' : List Item} (hat : At I x x' I') (h : ∀ w, x.ok w → x'.ok w ∧ ∀ k, x'.fp k → x.fp k) : Fit κ I I' := fun w hs =>
  hs.upd hat rfl ⟨rfl, Nat.le_refl _⟩ rfl (Nat.le_refl _) (fun _ _ _ => rfl) (h w (hs.ok _ hat.mem).1).1 fun k hk => .inl ((h w (hs.ok _ hat.mem).1).2 k hk)
end
end Go.Sl
/- The rules again, with what can be found by itself left out. No conditions. -/
namespace Go.Sl
set_option linter.unusedVariables false

theorem Pick.app {xs I I' : List Item} {x : Item} (h : Pick I x I') : Pick (xs ++ I) x (xs ++ I') := by
  induction xs with
  | nil => exact h
  | cons y xs ih => exact Pick.tail y ih
theorem Sp.appR (xs I : List Item) : Sp (xs ++ I) I := by
  induction xs with
  | nil => exact Sp.refl _
  | cons y xs ih => exact Sp.skip y ih

section
variable {P : Program} {κ : Ctx} {N : Fr} {Q : Exit → Act → World → Prop} {L : Env} {I J : List Item} {ops : Array Oper} {o : Oper} {rest : List Oper}
theorem lookO {L : Env} {k : Nat} {m n : Int} (h : look L k = some (.int .i64 m) := by exact rfl) (e : m = n := by first | omega | (dsimp only <;> omega)) : look L k = some (.int .i64 n) := lookI h e
theorem Fit.m (h : Fit κ I J := by repeat (first | exact Fit.refl _ | apply Fit.tail | exact Fit.appR _ _ | apply Fit.appL)) : Fit κ I J := h
theorem Fit.sub (h : J.Sublist I := by repeat (first | exact List.Sublist.refl _ | apply List.Sublist.cons_cons | apply List.Sublist.cons | exact List.sublist_append_right _ _)) : Fit κ I J := Fit.of_sublist h
theorem Fit.s (h : Sp I J := by repeat (first | exact Sp.refl _ | refine Sp.pick (by repeat (first | exact Pick.head _ _ | apply Pick.tail | apply Pick.app)) ?_ | apply Sp.skip | exact Sp.appR _ _)) : Fit κ I J := Fit.sp h

theorem G.r {d : Nat} {v : Value} (hr : Runs P κ N o L I v) (h : G P κ N ops Q rest ((d, v) :: L) I) (hw : Wanted N ops o L := by exact Wanted.plain rfl) (hd : o.dst = some d := by exact rfl) (hN : Nat.blt d N.n = true := by exact rfl) : G P κ N ops Q (o :: rest) L I := G.read hw hd hN hr h
theorem G.ro {d : Nat} {v : Value} (hr : Runs P κ N o L I v) (h : G P κ N ops Q rest ((d, v) :: L) I) (hw : Wanted N ops o L := by exact Wanted.on rfl rfl rfl) (hd : o.dst = some d := by exact rfl) (hN : Nat.blt d N.n = true := by exact rfl) : G P κ N ops Q (o :: rest) L I := G.read hw hd hN hr h
theorem G.po {d : Nat} (h : G P κ N ops Q rest ((d, undef) :: L) I) (hw : Unwanted N ops o L := by exact Unwanted.off rfl rfl rfl) (hd : o.dst = some d := by exact rfl) (hN : Nat.blt d N.n = true := by exact rfl) : G P κ N ops Q (o :: rest) L I := G.pass hw hd hN h
theorem G.e {R : Env → List Item → Prop} (he : Eff P κ N Q o L I R) (h : ∀ L' I', R L' I' → G P κ N ops Q rest L' I') (hw : Wanted N ops o L := by exact Wanted.plain rfl) : G P κ N ops Q (o :: rest) L I := G.eff hw he h
theorem G.nt {y : Code} (h : W P κ N y Q L I) : G P κ N ops (Exit.then (y.wp P Q) Q) [] L I := G.nil (V.then h)
theorem W.sr {id : Nat} {l : List Oper} {y : Code} (h : G P κ N l.toArray (Exit.then (y.wp P Q) Q) l L I) : W P κ N (.seq (.region id l.toArray false) y) Q L I := W.seq (W.region h)

theorem D.r {stop fuel : Nat} {listed : Array Bool} {d : Nat} {v : Value} (i : Nat) (hi : ops[i]? = some o) (hrun : Runs P κ N o L J v) (h : D P κ N ops Q J stop fuel (listed.setIfInBounds i true) ((d, v) :: L) I)
    (hw : Wanted N ops o L := by exact Wanted.plain rfl) (hd : o.dst = some d := by exact rfl) (hN : Nat.blt d N.n = true := by exact rfl) (hns : Region.noSelect ops = true := by kernel_rfl) (hf : Region.free .any ops listed i = true := by kernel_rfl)
    (hr : (Region.ready .any ops listed).contains i = true := by kernel_rfl) (hne : Nat.beq i stop = false := by exact rfl) (hwt : waitsFor .any ops stop i = true := by kernel_rfl) (hQ : ∀ c a u w, Q (.panic c) (a.put o.dst u) w → Q (.panic c) a w := by exact fun _ _ _ _ h => h)
    (hJ : Fit κ I J := by repeat (first | exact Fit.refl _ | apply Fit.tail | exact Fit.appR _ _ | apply Fit.appL)) : D P κ N ops Q J stop (fuel + 1) listed L I := D.read i hi hns hf hr hne hwt hQ hw hd hN hJ hrun h
theorem D.ro {stop fuel : Nat} {listed : Array Bool} {d : Nat} {v : Value} (i : Nat) (hi : ops[i]? = some o) (hrun : Runs P κ N o L J v) (h : D P κ N ops Q J stop fuel (listed.setIfInBounds i true) ((d, v) :: L) I)
    (hw : Wanted N ops o L := by exact Wanted.on rfl rfl rfl) (hd : o.dst = some d := by exact rfl) (hN : Nat.blt d N.n = true := by exact rfl) (hns : Region.noSelect ops = true := by kernel_rfl) (hf : Region.free .any ops listed i = true := by kernel_rfl)
    (hr : (Region.ready .any ops listed).contains i = true := by kernel_rfl) (hne : Nat.beq i stop = false := by exact rfl) (hwt : waitsFor .any ops stop i = true := by kernel_rfl) (hQ : ∀ c a u w, Q (.panic c) (a.put o.dst u) w → Q (.panic c) a w := by exact fun _ _ _ _ h => h)
    (hJ : Fit κ I J := by repeat (first | exact Fit.refl _ | apply Fit.tail | exact Fit.appR _ _ | apply Fit.appL)) : D P κ N ops Q J stop (fuel + 1) listed L I := D.read i hi hns hf hr hne hwt hQ hw hd hN hJ hrun h
theorem D.po {stop fuel : Nat} {listed : Array Bool} {d : Nat} (i : Nat) (hi : ops[i]? = some o) (h : D P κ N ops Q J stop fuel (listed.setIfInBounds i true) ((d, undef) :: L) I)
    (hw : Unwanted N ops o L := by exact Unwanted.off rfl rfl rfl) (hd : o.dst = some d := by exact rfl) (hN : Nat.blt d N.n = true := by exact rfl) (hns : Region.noSelect ops = true := by kernel_rfl) (hf : Region.free .any ops listed i = true := by kernel_rfl)
    (hr : (Region.ready .any ops listed).contains i = true := by kernel_rfl) (hne : Nat.beq i stop = false := by exact rfl) (hwt : waitsFor .any ops stop i = true := by kernel_rfl) (hQ : ∀ c a u w, Q (.panic c) (a.put o.dst u) w → Q (.panic c) a w := by exact fun _ _ _ _ h => h)
    (hJ : Fit κ I J := by repeat (first | exact Fit.refl _ | apply Fit.tail | exact Fit.appR _ _ | apply Fit.appL)) : D P κ N ops Q J stop (fuel + 1) listed L I := D.pass i hi hns hf hr hne hwt hQ hw hd hN hJ h
end
section
variable {α : Type} [Enc α] {κ : Ctx} {I J : List Item} {v : Value} {xs : List α}
theorem Sl.f (h : Sl κ I v xs) (hf : Fit κ J I := by repeat (first | exact Fit.refl _ | apply Fit.tail | exact Fit.appR _ _ | apply Fit.appL)) : Sl κ J v xs := h.fit hf
theorem Sl.o {e : TypeId} (h : vc e v xs ∈ I := by repeat (first | exact List.mem_cons_self | apply List.mem_cons_of_mem)) : Sl κ I v xs := Sl.vec h
end
section
variable {P : Program} {κ : Ctx} {N : Fr} {Q : Exit → Act → World → Prop} {L : Env} {I J : List Item}
variable {d : Option Tmp} {ty : TypeId} {ps : String} {af : Array Edge} {gd : Option (Nat × Bool)}
theorem Runs.getf0 {P : Program} {κ : Ctx} {N : Fr} {L : Env} {J : List Item} {d : Option Tmp} {ty : TypeId} {ps : String} {af : Array Edge} {gd : Option (Nat × Bool)} {α : Type} [Enc α] [Inhabited α] {v : Value} {xs : List α} {x : Operand} {T s by' : Nat} {z : List Value} {i : Int} {u : Value} (hT : tyF P T = some (s, false, by', z)) (hx : evalO L x = some (elemPtr v (i.toNat * Enc.sz α))) (hv : Sl κ J v xs) (h0 : 0 ≤ i) (hn : i < xs.length)
    (hu : (Enc.enc (at_ xs i))[0]? = some u) : Runs P κ N ⟨d, .load T x, ty, ps, af, gd⟩ L J u := Runs.getf (j := 0) hT hx hv h0 hn hu
/-- One cell of a block. -/
theorem Runs.ld {x : Operand} {T sz by' b o E : Nat} {z cs : List Value} {v : Value} (hT : tyF P T = some (sz, false, by', z)) (hx : evalO L x = some (.pointer (some ⟨b, o, none⟩)) := by exact rfl)
    (hb : blk b cs E ∈ J := by repeat (first | exact List.mem_cons_self | apply List.mem_cons_of_mem)) (hc : cs[o]? = some v := by exact rfl) : Runs P κ N ⟨d, .load T x, ty, ps, af, gd⟩ L J v := Runs.load hT hx hb hc
theorem Runs.lds {x : Operand} {T sz by' b o E : Nat} {z cs vs : List Value} (hT : tyF P T = some (sz, true, by', z)) (hx : evalO L x = some (.pointer (some ⟨b, o, none⟩)) := by exact rfl)
    (hb : blk b cs E ∈ J := by repeat (first | exact List.mem_cons_self | apply List.mem_cons_of_mem)) (hc : (cs.drop o).take sz = vs := by exact rfl) (hl : vs.length = sz := by exact rfl) : Runs P κ N ⟨d, .load T x, ty, ps, af, gd⟩ L J (.agg vs.toArray) := Runs.loads hT hx hb hc hl
theorem Eff.st {x y : Operand} {T sz by' b o E : Nat} {ag : Bool} {z cs vs cs' : List Value} {v : Value} {I' : List Item} (hT : tyF P T = some (sz, ag, by', z)) (hx : evalO L x = some (.pointer (some ⟨b, o, none⟩)) := by exact rfl) (hy : evalO L y = some v := by exact rfl)
    (hv : cellsOf v = vs := by exact rfl) (hl : vs.length = sz := by exact rfl) (h1 : AllOne vs := by repeat (first | exact AllOne.nil | refine AllOne.cons rfl ?_)) (hat : At I (blk b cs E) (blk b cs' E) I' := by repeat (first | exact At.head _ _ _ | apply At.tail)) (hr : o + vs.length ≤ cs.length := by exact Nat.le_of_ble_eq_true rfl) (hcs : cs.take o ++ vs ++ cs.drop (o + vs.length) = cs' := by exact rfl) :
    Eff P κ N Q ⟨none, .store T x y, ty, ps, af, gd⟩ L I fun L' I'' => L' = L ∧ I'' = I' := Eff.store hT hx hy hv hl h1.all hr hcs hat
end
end Go.Sl
/- Plain facts on lists of numbers. No Go. No conditions. -/
namespace Go.Sl
set_option linter.unusedVariables false

section
variable {α : Type} [Inhabited α]
theorem at_nat (xs : List α) (k : Nat) : at_ xs (k : Int) = xs.getD k default := by simp [at_]
theorem at_get (xs : List α) (k : Nat) (h : k < xs.length) : at_ xs (k : Int) = xs[k] := by simp [at_, h]
theorem at_mem {xs : List α} {i : Int} (h0 : 0 ≤ i) (h : i < xs.length) : at_ xs i ∈ xs := by
  rw [at_eq h0 h]; exact List.getElem_mem _
theorem take_at (xs : List α) (k : Nat) (h : k < xs.length) : xs.take (k + 1) = xs.take k ++ [at_ xs (k : Int)] := by
  rw [at_get xs k h, List.take_succ_eq_append_getElem h]
theorem mem_at {xs : List α} {x : α} (h : x ∈ xs) : ∃ k, k < xs.length ∧ at_ xs (k : Int) = x := by
  obtain ⟨k, hk, he⟩ := List.mem_iff_getElem.1 h
  exact ⟨k, hk, by rw [at_get xs k hk, he]⟩
theorem not_mem_at {xs : List α} {x : α} {k : Nat} (h : ∀ j, j < k → at_ xs (j : Int) ≠ x) (hk : xs.length ≤ k) : x ∉ xs := fun hx => by
  obtain ⟨j, hj, he⟩ := mem_at hx
  exact h j (by omega) he
theorem at_set (xs : List α) (i j : Int) (v : α) (hi : 0 ≤ i) (hj : 0 ≤ j) (hl : i < xs.length) : at_ (xs.set i.toNat v) j = if i = j then v else at_ xs j := by
  unfold at_
  by_cases h : i = j
  · subst h
    have : i.toNat < xs.length := by omega
    simp [List.getD_eq_getElem?_getD, this]
  · have : i.toNat ≠ j.toNat := by omega
    simp [List.getD_eq_getElem?_getD, h, List.getElem?_set_ne this]
theorem at_setn (xs : List α) (k j : Nat) (v : α) (hk : k < xs.length) : at_ (xs.set k v) (j : Int) = if k = j then v else at_ xs (j : Int) := by
  have := at_set xs (k : Int) (j : Int) v (by omega) (by omega) (by omega)
  rw [Int.toNat_natCast] at this
  rw [this]
  by_cases h : k = j
  · simp [h]
  · rw [if_neg (show ¬ (k : Int) = (j : Int) by omega), if_neg h]
theorem drop_at (xs : List α) (k : Nat) (h : k < xs.length) : xs.drop k = at_ xs (k : Int) :: xs.drop (k + 1) := by
  rw [at_get xs k h, List.drop_eq_getElem_cons h]
end
/-- What a loop over all elements shows: a step further. -/
theorem all_succ {p : Nat → Prop} {k : Nat} (h : ∀ j, j < k → p j) (hk : p k) : ∀ j, j < k + 1 → p j := fun j hj => by
  rcases Nat.lt_succ_iff_lt_or_eq.1 hj with h' | h'
  · exact h j h'
  · subst h'; exact hk
theorem all_zero {p : Nat → Prop} : ∀ j, j < 0 → p j := fun j hj => absurd hj (Nat.not_lt_zero j)
end Go.Sl
