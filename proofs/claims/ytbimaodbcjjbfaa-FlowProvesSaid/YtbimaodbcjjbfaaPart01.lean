/- A part of the proof of FlowProvesSaid: contracts of the functions that it reaches, and the plain laws that they lean on. No conditions. -/
import Derived.Test.YtbimaodbcjjbfaaPart00
import Derived.KernelRfl
import Derived.Test.YtbimaodbcjjbfaaProg
/- Slices of Lean data: what a list of numbers or of structs is in memory. No conditions. -/
namespace Go.Sl
set_option linter.unusedVariables false
set_option linter.unusedSimpArgs false
set_option linter.unusedSectionVars false

/-- How a value is laid in cells. -/
class Enc (α : Type) where
  enc : α → List Value
  sz : Nat
  pos : 0 < sz
  len : ∀ x, (enc x).length = sz
  one : ∀ x, ∀ u ∈ enc x, u.oneCell' = true

instance : Enc Bool := ⟨fun b => [.bool b], 1, by omega, fun _ => rfl, fun _ u h => by simp at h; subst h; rfl⟩
instance : Enc Int := ⟨fun n => [I64 n], 1, by omega, fun _ => rfl, fun _ u h => by simp at h; subst h; rfl⟩

/-- Element number i. -/
def at_ {α : Type} [Inhabited α] (xs : List α) (i : Int) : α := xs.getD i.toNat default

theorem at_eq {α : Type} [Inhabited α] {xs : List α} {i : Int} (h0 : 0 ≤ i) (hn : i < xs.length) : at_ xs i = xs[i.toNat]'(by omega) := by
  simp [at_, List.getD_eq_getElem?_getD, List.getElem?_eq_getElem (show i.toNat < xs.length by omega)]

def cells {α : Type} [Enc α] (xs : List α) : List Value := xs.flatMap Enc.enc

/-- I says that the slice v reads xs. -/
def Sl {α : Type} [Enc α] (κ : Ctx) (I : List Item) (v : Value) (xs : List α) : Prop := SlRd κ I (Enc.sz α) v xs.length (cells xs)
/-- An owned slice that reads xs; its elements' type has number e. -/
def vc {α : Type} [Enc α] (e : TypeId) (v : Value) (xs : List α) : Item := vec e (Enc.sz α) v xs.length (cells xs)

section
variable {α : Type} [Enc α]
theorem cells_nil : cells ([] : List α) = [] := rfl
theorem cells_cons (x : α) (xs : List α) : cells (x :: xs) = Enc.enc x ++ cells xs := rfl
theorem cells_append (xs ys : List α) : cells (xs ++ ys) = cells xs ++ cells ys := by simp [cells]
theorem cells_length (xs : List α) : (cells xs).length = xs.length * Enc.sz α := by
  induction xs with
  | nil => simp [cells]
  | cons x xs ih => rw [cells_cons, List.length_append, ih, Enc.len, List.length_cons, Nat.add_mul]; omega
theorem cells_one (xs : List α) : ∀ u ∈ cells xs, u.oneCell' = true := fun u hu => by
  obtain ⟨x, _, hx⟩ := List.mem_flatMap.1 hu
  exact Enc.one x u hx
theorem cells_get (xs : List α) : ∀ (i j : Nat) (hi : i < xs.length), j < Enc.sz α → (cells xs)[i * Enc.sz α + j]? = (Enc.enc xs[i])[j]? := by
  induction xs with
  | nil => intro i j hi; simp at hi
  | cons x xs ih =>
    intro i j hi hj
    rw [cells_cons]
    cases i with
    | zero =>
      rw [List.getElem?_append_left (by rw [Enc.len]; omega)]
      simp
    | succ i =>
      have e : (i + 1) * Enc.sz α + j = Enc.sz α + (i * Enc.sz α + j) := by rw [Nat.add_mul]; omega
      rw [e, List.getElem?_append_right (by rw [Enc.len]; omega), Enc.len, Nat.add_sub_cancel_left, ih i j (by simpa using hi) hj]
      simp
theorem cells_take (xs : List α) (i : Nat) : cells (xs.take i) = (cells xs).take (i * Enc.sz α) := by
  induction xs generalizing i with
  | nil => simp [cells]
  | cons x xs ih =>
    cases i with
    | zero => simp [cells]
    | succ i =>
      have e : (i + 1) * Enc.sz α = Enc.sz α + i * Enc.sz α := by rw [Nat.add_mul]; omega
      have h1 : (Enc.enc x).take (Enc.sz α + i * Enc.sz α) = Enc.enc x := List.take_of_length_le (by rw [Enc.len]; omega)
      rw [List.take_succ_cons, cells_cons, cells_cons, ih, List.take_append, Enc.len, e, h1, Nat.add_sub_cancel_left]
theorem cells_drop (xs : List α) (i : Nat) : cells (xs.drop i) = (cells xs).drop (i * Enc.sz α) := by
  induction xs generalizing i with
  | nil => simp [cells]
  | cons x xs ih =>
    cases i with
    | zero => simp [cells]
    | succ i =>
      have e : (i + 1) * Enc.sz α = Enc.sz α + i * Enc.sz α := by rw [Nat.add_mul]; omega
      have h1 : (Enc.enc x).drop (Enc.sz α + i * Enc.sz α) = [] := List.drop_eq_nil_of_le (by rw [Enc.len]; omega)
      rw [List.drop_succ_cons, cells_cons, ih, List.drop_append, Enc.len, e, h1, Nat.add_sub_cancel_left, List.nil_append]
theorem cells_set (xs : List α) (i : Nat) (x : α) (hi : i < xs.length) : (cells xs).take (i * Enc.sz α) ++ Enc.enc x ++ (cells xs).drop (i * Enc.sz α + Enc.sz α) = cells (xs.set i x) := by
  have h1 : xs.set i x = xs.take i ++ x :: xs.drop (i + 1) := List.set_eq_take_append_cons_drop.trans (by rw [if_pos hi])
  rw [h1, cells_append, cells_cons, cells_take, cells_drop, Nat.add_mul, Nat.one_mul, List.append_assoc]

variable {κ : Ctx} {I J : List Item} {v : Value} {xs : List α}
theorem Sl.fit (h : Sl κ I v xs) (hf : Fit κ J I) : Sl κ J v xs := SlRd.fit h hf
theorem Sl.vec {e : TypeId} (h : vc e v xs ∈ I) : Sl κ I v xs := SlRd.vec h
theorem Sl.nil (I : List Item) : Sl κ I (.slice none 0 0) ([] : List α) := SlRd.nil I _
theorem Sl.le (h : Sl κ I v xs) : ∀ w, Sep κ w I → xs.length ≤ 9223372036854775807 := fun w hs => by
  obtain ⟨_, _, _, _, h1, h2, _⟩ := h w hs
  simp only [maxLen] at h2
  omega
theorem Sl.shape (h : Sl κ I v xs) : ∀ w, Sep κ w I → ∃ a c, v = .slice a xs.length c ∧ xs.length ≤ c := fun w hs => by
  obtain ⟨a, c, h0, _, h1, _⟩ := h w hs
  exact ⟨a, c, h0, h1⟩
theorem vc.le {e : TypeId} (h : vc e v xs ∈ I) : ∀ w, Sep κ w I → xs.length ≤ 9223372036854775807 := (Sl.vec (κ := κ) h).le
end

section
variable {P : Program} {κ : Ctx} {N : Nat} {Q : Exit → Act → World → Prop} {L : Env} {I J : List Item}
variable {d : Option Tmp} {ty : TypeId} {ps : String} {af : Array Edge} {gd : Option (Nat × Bool)}
variable {α : Type} [Enc α] {v : Value} {xs : List α}

theorem Runs.idx {x y : Operand} {T E by' : Nat} {ag : Bool} {z : List Value} {i : Int} (ht : P.underlying T = some (.slice E)) (hE : tyF P E = some (Enc.sz α, ag, by', z)) (hx : evalO L x = some v)
    (hy : evalO L y = some (I64 i)) (hv : Sl κ J v xs) (h0 : 0 ≤ i) (hn : i < xs.length) : Runs P κ N ⟨d, .indexAddr T x y, ty, ps, af, gd⟩ L J (elemPtr v (i.toNat * Enc.sz α)) :=
  Runs.indexAddr ht hE hx hy hv h0 hn

theorem Runs.lenT {x : Operand} {T E : Nat} (ht : P.underlying T = some (.slice E)) (hx : evalO L x = some v) (hv : Sl κ J v xs) :
    Runs P κ N ⟨d, .call { callee := .builtin .len, args := #[x], argTypes := #[T] }, ty, ps, af, gd⟩ L J (I64 xs.length) := Runs.len ht hx hv

/-- xs[i], of one cell. -/
theorem Runs.get {xs : List Int} {x : Operand} {T s by' : Nat} {z : List Value} {i : Int} (hT : tyF P T = some (s, false, by', z)) (hx : evalO L x = some (elemPtr v (i.toNat * Enc.sz Int))) (hv : Sl κ J v xs) (h0 : 0 ≤ i) (hn : i < xs.length) :
    Runs P κ N ⟨d, .load T x, ty, ps, af, gd⟩ L J (I64 (at_ xs i)) :=
  Runs.loadElem hT hx hv (by
    have := cells_get xs i.toNat 0 (by omega) (by decide)
    simp only [Nat.add_zero] at this
    rw [this, at_eq h0 hn]; rfl)

/-- xs[i], a bool. -/
theorem Runs.getB {xs : List Bool} {x : Operand} {T s by' : Nat} {z : List Value} {i : Int} (hT : tyF P T = some (s, false, by', z)) (hx : evalO L x = some (elemPtr v (i.toNat * Enc.sz Bool))) (hv : Sl κ J v xs) (h0 : 0 ≤ i) (hn : i < xs.length) :
    Runs P κ N ⟨d, .load T x, ty, ps, af, gd⟩ L J (.bool (at_ xs i)) :=
  Runs.loadElem hT hx hv (by
    have := cells_get xs i.toNat 0 (by omega) (by decide)
    simp only [Nat.add_zero] at this
    rw [this, at_eq h0 hn]; rfl)

/-- xs[i], a struct. -/
theorem Runs.gets [Inhabited α] {x : Operand} {T by' : Nat} {z : List Value} {i : Int} (hT : tyF P T = some (Enc.sz α, true, by', z)) (hx : evalO L x = some (elemPtr v (i.toNat * Enc.sz α))) (hv : Sl κ J v xs) (h0 : 0 ≤ i) (hn : i < xs.length) :
    Runs P κ N ⟨d, .load T x, ty, ps, af, gd⟩ L J (.agg (Enc.enc (at_ xs i)).toArray) :=
  Runs.loadElems hT hx hv (by omega) (fun j u hj => by
    have hj' : j < Enc.sz α := by rw [← Enc.len (at_ xs i)]; exact (List.getElem?_eq_some_iff.1 hj).1
    rw [cells_get xs i.toNat j (by omega) hj', ← at_eq h0 hn]; exact hj) (Enc.len _)

/-- &xs[i].f -/
theorem Runs.fld {x : Operand} {T k off m : Nat} (h : fldF P T k = some off) (hx : evalO L x = some (elemPtr v m)) (hv : Sl κ J v xs) (hn : 0 < xs.length) :
    Runs P κ N ⟨d, .fieldAddr T x k, ty, ps, af, gd⟩ L J (elemPtr v (m + off)) := Runs.fieldElem h hx hv hn

/-- xs[i].f, of one cell. -/
theorem Runs.getf [Inhabited α] {x : Operand} {T s by' j : Nat} {z : List Value} {i : Int} {u : Value} (hT : tyF P T = some (s, false, by', z)) (hx : evalO L x = some (elemPtr v (i.toNat * Enc.sz α + j))) (hv : Sl κ J v xs) (h0 : 0 ≤ i) (hn : i < xs.length)
    (hu : (Enc.enc (at_ xs i))[j]? = some u) : Runs P κ N ⟨d, .load T x, ty, ps, af, gd⟩ L J u :=
  Runs.loadElem hT hx hv (by
    have hj' : j < Enc.sz α := by rw [← Enc.len (at_ xs i)]; exact (List.getElem?_eq_some_iff.1 hu).1
    rw [cells_get xs i.toNat j (by omega) hj', ← at_eq h0 hn]; exact hu)

/-- xs[i] = y -/
theorem Eff.set {x y : Operand} {T by' e : Nat} {ag : Bool} {z : List Value} {i : Int} {u : Value} {new : α} {I' : List Item} (hT : tyF P T = some (Enc.sz α, ag, by', z)) (hx : evalO L x = some (elemPtr v (i.toNat * Enc.sz α))) (hy : evalO L y = some u)
    (hu : cellsOf u = Enc.enc new) (h0 : 0 ≤ i) (hn : i < xs.length) (hat : At I (vc e v xs) (vc e v (xs.set i.toNat new)) I') : Eff P κ N Q ⟨none, .store T x y, ty, ps, af, gd⟩ L I fun L' I'' => L' = L ∧ I'' = I' := by
  have hs := cells_set xs i.toNat new (by omega)
  have hl := cells_length xs
  refine Eff.storeElem (sz := Enc.sz α) (n := xs.length) (cs := cells xs) (cs' := cells (xs.set i.toNat new)) (e := e) hT hx hy hu (Enc.len _) (Enc.one _) (by omega) ?_ ?_ ?_
  · rw [Enc.len, hl]
    have : (i.toNat + 1) * Enc.sz α ≤ xs.length * Enc.sz α := Nat.mul_le_mul_right _ (by omega)
    rw [Nat.add_mul] at this
    omega
  · rw [Enc.len]; exact hs
  · have := hat
    unfold vc at this
    rw [List.length_set] at this
    exact this

theorem cells_setf {α : Type} [Enc α] {u : Value} {new : α} {j : Nat} (hj : j < Enc.sz α) : ∀ (xs : List α) (i : Nat) (hi : i < xs.length), Enc.enc new = (Enc.enc xs[i]).set j u → (cells xs).set (i * Enc.sz α + j) u = cells (xs.set i new)
  | [], i, hi, _ => by simp at hi
  | x :: xs, 0, _, h => by
    rw [List.set_cons_zero, cells_cons, cells_cons, h, List.set_append_left _ _ (by rw [Enc.len]; omega), Nat.zero_mul, Nat.zero_add]; rfl
  | x :: xs, i + 1, hi, h => by
    have e : (i + 1) * Enc.sz α + j = Enc.sz α + (i * Enc.sz α + j) := by rw [Nat.add_mul]; omega
    rw [List.set_cons_succ, cells_cons, cells_cons, e, List.set_append_right _ _ (by rw [Enc.len]; omega), Enc.len, Nat.add_sub_cancel_left, cells_setf hj xs i (by simpa using hi) h]

/-- xs[i].f = u -/
theorem Eff.setf [Inhabited α] {x y : Operand} {T by' e j : Nat} {z : List Value} {i : Int} {u : Value} {new : α} {I' : List Item} (hT : tyF P T = some (1, false, by', z)) (hx : evalO L x = some (elemPtr v (i.toNat * Enc.sz α + j))) (hy : evalO L y = some u)
    (hu : cellsOf u = [u]) (h1 : u.oneCell' = true) (hj : j < Enc.sz α) (hnew : Enc.enc new = (Enc.enc (at_ xs i)).set j u) (h0 : 0 ≤ i) (hn : i < xs.length) (hat : At I (vc e v xs) (vc e v (xs.set i.toNat new)) I') : Eff P κ N Q ⟨none, .store T x y, ty, ps, af, gd⟩ L I fun L' I'' => L' = L ∧ I'' = I' := by
  have hl := cells_length xs
  have hlt : i.toNat * Enc.sz α + j < (cells xs).length := by
    rw [hl]
    have : (i.toNat + 1) * Enc.sz α ≤ xs.length * Enc.sz α := Nat.mul_le_mul_right _ (by omega)
    rw [Nat.add_mul] at this
    omega
  have hs := cells_setf (u := u) (new := new) hj xs i.toNat (by omega) (by rw [at_eq h0 hn] at hnew; exact hnew)
  refine Eff.storeElem (sz := Enc.sz α) (n := xs.length) (cs := cells xs) (cs' := cells (xs.set i.toNat new)) (e := e) hT hx hy hu rfl (fun w hw => by rw [List.mem_singleton.1 hw]; exact h1) (by omega) hlt ?_ ?_
  · rw [← hs, List.set_eq_take_append_cons_drop, if_pos hlt]; simp
  · have := hat
    unfold vc at this
    rw [List.length_set] at this
    exact this

theorem enc_set_int (n : Int) : cellsOf (I64 n) = Enc.enc n := rfl

/-- append(xs, ys...) -/
theorem Eff.app {x y : Operand} {t e by' dd : Nat} {ag : Bool} {z : List Value} {u : Value} {ys : List α} (ht : P.underlying t = some (.slice e)) (hT : tyF P e = some (Enc.sz α, ag, by', z)) (hzl : z.length = Enc.sz α) (hx : evalO L x = some v) (hy : evalO L y = some u)
    (hv : vc e v xs ∈ I) (hu : Sl κ I u ys) (hby : (xs.length + ys.length) * by' ≤ 140737488355328) (hby0 : 0 < by') (hN : Nat.blt dd N = true) {I' : Option Addr → Nat → List Item} (hat : ∀ ad c, At I (vc e v xs) (vc e (.slice ad (xs ++ ys).length c) (xs ++ ys)) (I' ad c)) :
    Eff P κ N Q ⟨some dd, .call { callee := .builtin .append, args := #[x, y], argTypes := #[t, t] }, ty, ps, af, gd⟩ L I fun L' I'' => ∃ ad c, L' = (dd, .slice ad (xs ++ ys).length c) :: L ∧ I'' = I' ad c := by
  have h63 : xs.length + ys.length ≤ maxLen := by
    have := Nat.le_mul_of_pos_right (xs.length + ys.length) hby0
    simp only [maxLen]; omega
  have h := Eff.append (P := P) (κ := κ) (N := N) (Q := Q) (ty := ty) (ps := ps) (af := af) (gd := gd) (I' := I') ht hT hzl hx hy hv hu (cells_one ys) h63 hby hN fun ad c => by
    have := hat ad c
    unfold vc at this
    rw [List.length_append, cells_append] at this
    exact this
  rw [← List.length_append] at h
  exact h

theorem rep_cells [Inhabited α] : ∀ (n : Nat), (List.replicate n (Enc.enc (default : α))).flatten = cells (List.replicate n (default : α))
  | 0 => rfl
  | n + 1 => by rw [List.replicate_succ, List.replicate_succ, cells_cons, List.flatten_cons, rep_cells n]

theorem Eff.make {x y : Operand} {t e by' n dd : Nat} {m : Int} {ag : Bool} {z : List Value} [Inhabited α] (ht : P.underlying t = some (.slice e)) (hT : tyF P e = some (Enc.sz α, ag, by', z)) (hz : z = Enc.enc (default : α)) (hx : evalO L x = some (I64 m)) (hy : evalO L y = some (I64 m)) (hm : m = (n : Int))
    (hby : n * by' ≤ 281474976710656) (hby0 : 0 < by') (hN : Nat.blt dd N = true) :
    Eff P κ N Q ⟨some dd, .makeSlice t x y, ty, ps, af, gd⟩ L I fun L' I'' => ∃ ad c, L' = (dd, .slice ad (List.replicate n (default : α)).length c) :: L ∧ I'' = vc e (.slice ad (List.replicate n (default : α)).length c) (List.replicate n (default : α)) :: I := by
  subst hm
  have h63 : n ≤ maxLen := by
    have := Nat.le_mul_of_pos_right n hby0
    simp only [maxLen]; omega
  have h := Eff.makeSlice (P := P) (κ := κ) (N := N) (Q := Q) (L := L) (I := I) (ty := ty) (ps := ps) (af := af) (gd := gd) ht hT (by rw [hz, Enc.len]) hx hy h63 hby hN
  have e : (List.replicate n z).flatten = cells (List.replicate n (default : α)) := by rw [hz, rep_cells]
  unfold vc
  rw [List.length_replicate]
  rw [e] at h
  exact h

/-- Where s[l:] begins. -/
def adrop (ad : Option Addr) (c l sz : Nat) : Option Addr := if c = l then ad else ad.map (·.add (l * sz))

theorem Sl.take {ad : Option Addr} {n c h : Nat} (hv : Sl κ I (.slice ad n c) xs) (hh : h ≤ xs.length) : Sl κ I (.slice ad (xs.take h).length c) (xs.take h) := fun w hs => by
  obtain ⟨a, cap, he, h1, h2, h3, h4⟩ := hv w hs
  cases he
  refine ⟨ad, c, rfl, cells_length _, by rw [List.length_take]; omega, h3, fun hc => ?_⟩
  obtain ⟨b, off, rfl, hr⟩ := h4 hc
  refine ⟨b, off, rfl, fun j u hj => hr j u ?_⟩
  rw [cells_take, List.getElem?_take] at hj
  split at hj
  · exact hj
  · cases hj

theorem Sl.drop {ad : Option Addr} {n c l : Nat} (hv : Sl κ I (.slice ad n c) xs) (hl : l ≤ xs.length) : Sl κ I (.slice (adrop ad c l (Enc.sz α)) (xs.drop l).length (c - l)) (xs.drop l) := fun w hs => by
  obtain ⟨a, cap, he, h1, h2, h3, h4⟩ := hv w hs
  cases he
  refine ⟨_, c - l, rfl, by rw [cells_length, List.length_drop], by rw [List.length_drop]; omega, by omega, fun hc => ?_⟩
  obtain ⟨b, off, rfl, hr⟩ := h4 (by omega)
  refine ⟨b, off + l * Enc.sz α, by unfold adrop; rw [if_neg (by omega)]; simp [addr_add], fun j u hj => ?_⟩
  rw [cells_drop, List.getElem?_drop] at hj
  rw [Nat.add_assoc]
  exact hr _ u hj

/-- s[:h] -/
theorem Runs.hi {x y : Operand} {T E by' n c h : Nat} {ag : Bool} {z : List Value} {ad : Option Addr} {m : Int} (ht : P.underlying T = some (.slice E)) (hE : tyF P E = some (Enc.sz α, ag, by', z)) (hx : evalO L x = some (.slice ad n c)) (hy : evalO L y = some (I64 m)) (hm : m = (h : Int))
    (hv : Sl κ J (.slice ad n c) xs) (hh : h ≤ xs.length) : Runs P κ N ⟨d, .slice T x none (some y) none, ty, ps, af, gd⟩ L J (.slice ad (xs.take h).length c) := fun a w ha hs => by
  subst hm
  obtain ⟨_, _, he, _, h2, _⟩ := hv w hs
  cases he
  have := Runs.slice (P := P) (κ := κ) (N := N) (L := L) (J := J) (d := d) (ty := ty) (ps := ps) (af := af) (gd := gd) (l := 0) (h := h) ht hE hx (.inl ⟨rfl, rfl⟩) (.inr ⟨y, rfl, hy⟩) (Nat.zero_le _) (by omega) a w ha hs
  rw [this, List.length_take, Nat.min_eq_left hh]
  have e : (if c = 0 then ad else ad.map (fun x => x.add (0 * Enc.sz α))) = ad := by
    split
    · rfl
    · cases ad <;> simp [Addr.add]
  rw [e]
  rfl

/-- s[l:] -/
theorem Runs.lo {x y : Operand} {T E by' n c l : Nat} {ag : Bool} {z : List Value} {ad : Option Addr} {m : Int} (ht : P.underlying T = some (.slice E)) (hE : tyF P E = some (Enc.sz α, ag, by', z)) (hx : evalO L x = some (.slice ad n c)) (hy : evalO L y = some (I64 m)) (hm : m = (l : Int))
    (hv : Sl κ J (.slice ad n c) xs) (hl : l ≤ xs.length) : Runs P κ N ⟨d, .slice T x (some y) none none, ty, ps, af, gd⟩ L J (.slice (adrop ad c l (Enc.sz α)) (xs.drop l).length (c - l)) := fun a w ha hs => by
  subst hm
  obtain ⟨_, _, he, _, h2, _⟩ := hv w hs
  cases he
  rw [List.length_drop]
  exact Runs.slice (P := P) (κ := κ) (N := N) (L := L) (J := J) (d := d) (ty := ty) (ps := ps) (af := af) (gd := gd) (l := l) ht hE hx (.inr ⟨y, rfl, hy⟩) (.inl ⟨rfl, rfl⟩) hl h2 a w ha hs

/-- []T{..} -/
theorem Eff.bs {t e by' n dd : Nat} {ag : Bool} {z cs : List Value} {parts : List (Nat × Operand)} {vs : List Value} {xs : List α} (ht : P.underlying t = some (.slice e)) (hT : tyF P e = some (Enc.sz α, ag, by', z)) (hzl : z.length = Enc.sz α)
    (hp : evalL L (parts.map (·.2)) = some vs) (hn : 0 < n) (hle : n * Enc.sz α ≤ 16777216) (hxl : xs.length = n)
    (hf : Instr.fill (fun i => some (i * Enc.sz α, Enc.sz α)) (List.replicate n z).flatten.toArray ((parts.map (·.1)).zip vs) = some cs.toArray) (hc : cs = cells xs) (hN : Nat.blt dd N = true) :
    Eff P κ N Q ⟨some dd, .buildSlice t n parts.toArray, ty, ps, af, gd⟩ L I fun L' I'' => ∃ ad, L' = (dd, .slice ad n n) :: L ∧ I'' = vc e (.slice ad n n) xs :: I := by
  have h := Eff.buildSlice (P := P) (κ := κ) (N := N) (Q := Q) (L := L) (I := I) (ty := ty) (ps := ps) (af := af) (gd := gd) (cells := cells xs) ht hT hzl hp (Nat.mul_pos hn Enc.pos) hle (by rw [hf, hc]) (by rw [cells_length, hxl]) hN
  unfold vc
  rw [hxl]
  exact h

theorem Fit.nilvc (e : TypeId) (J : List Item) : Fit κ J (vc e (.slice none 0 0) ([] : List α) :: J) := fun w s => s.vec_nil e (Enc.sz α)

/-- append([]T(nil), ys...) -/
theorem Eff.clone {x y : Operand} {t e by' dd : Nat} {ag : Bool} {z : List Value} {u : Value} {ys : List α} (ht : P.underlying t = some (.slice e)) (hT : tyF P e = some (Enc.sz α, ag, by', z)) (hzl : z.length = Enc.sz α) (hx : evalO L x = some (.slice none 0 0)) (hy : evalO L y = some u)
    (hu : Sl κ I u ys) (hby : ys.length * by' ≤ 140737488355328) (hby0 : 0 < by') (hN : Nat.blt dd N = true) :
    Eff P κ N Q ⟨some dd, .call { callee := .builtin .append, args := #[x, y], argTypes := #[t, t] }, ty, ps, af, gd⟩ L I fun L' I'' => ∃ ad c, L' = (dd, .slice ad ys.length c) :: L ∧ I'' = vc e (.slice ad ys.length c) ys :: I := by
  intro a w ha hs
  have h := Eff.app (P := P) (κ := κ) (N := N) (Q := Q) (L := L) (I := vc e (.slice none 0 0) ([] : List α) :: I) (ty := ty) (ps := ps) (af := af) (gd := gd) (xs := []) (dd := dd) (I' := fun ad c => vc e (.slice ad ([] ++ ys).length c) ([] ++ ys) :: I) ht hT hzl hx hy List.mem_cons_self (Sl.fit hu (Fit.tail (Fit.refl _))) (by simpa using hby) hby0 hN (fun _ _ => At.head _ _ _)
  exact h a w ha (hs.vec_nil e (Enc.sz α))

/-- xs[l:] of an owned slice, xs being given up. -/
theorem reslice {e : TypeId} {ad : Option Addr} {n c l : Nat} {xs : List α} (hl : l ≤ xs.length) : ∀ w, (vc e (.slice ad n c) xs).ok w → (vc e (.slice (adrop ad c l (Enc.sz α)) (xs.drop l).length (c - l)) (xs.drop l)).ok w ∧
    ∀ k, (vc e (.slice (adrop ad c l (Enc.sz α)) (xs.drop l).length (c - l)) (xs.drop l)).fp k → (vc e (.slice ad n c) xs).fp k := by
  intro w h
  obtain ⟨a, cap, hv, h1, h2, h3, h4⟩ := h
  cases hv
  refine ⟨⟨_, c - l, rfl, by rw [cells_length, List.length_drop], by rw [List.length_drop]; omega, by omega, fun hc => ?_⟩, fun k hk => ?_⟩
  · obtain ⟨b, off, cur, rfl, hb, hsz, hcur⟩ := h4 (by omega)
    refine ⟨b, off + l * Enc.sz α, cur, by unfold adrop; rw [if_neg (by omega)]; simp [addr_add], hb, ?_, fun j u hj => ?_⟩
    · rw [Nat.sub_mul]
      have : l * Enc.sz α ≤ c * Enc.sz α := Nat.mul_le_mul_right _ (by omega)
      omega
    · rw [cells_drop, List.getElem?_drop] at hj
      rw [Nat.add_assoc]
      exact hcur _ _ hj
  · obtain ⟨off, n', cap', hv, hc⟩ := hk
    simp only [Value.slice.injEq] at hv
    obtain ⟨hv1, hv2, hv3⟩ := hv
    obtain ⟨b, off', cur, rfl, _⟩ := h4 (by omega)
    unfold adrop at hv1
    rw [if_neg (by omega)] at hv1
    simp only [Option.map_some, addr_add, Option.some.injEq, Addr.mk.injEq] at hv1
    exact ⟨off', xs.length, c, by rw [← hv1.1], by omega⟩

theorem Fit.upd {x x' : Item} {I I' : List Item} (hat : At I x x' I') (h : ∀ w, x.ok w → x'.ok w ∧ ∀ k, x'.fp k → x.fp k) : Fit κ I I' := fun w hs =>
  hs.upd hat rfl rfl rfl (Nat.le_refl _) (fun _ _ _ => rfl) (h w (hs.ok _ hat.mem).1).1 fun k hk => .inl ((h w (hs.ok _ hat.mem).1).2 k hk)
end
end Go.Sl
/- The rules again, with what can be found by itself left out. No conditions. -/
namespace Go.Sl
set_option linter.unusedVariables false

theorem Pick.app {xs I I' : List Item} {x : Item} (h : Pick I x I') : Pick (xs ++ I) x (xs ++ I') := by
  induction xs with
  | nil => exact h
  | cons y xs ih => exact Pick.tail y ih
theorem Sp.appR (xs I : List Item) : Sp (xs ++ I) I := by
  induction xs with
  | nil => exact Sp.refl _
  | cons y xs ih => exact Sp.skip y ih

section
variable {P : Program} {κ : Ctx} {N : Nat} {Q : Exit → Act → World → Prop} {L : Env} {I J : List Item} {ops : Array Oper} {o : Oper} {rest : List Oper}
theorem Fit.m (h : Fit κ I J := by repeat (first | exact Fit.refl _ | apply Fit.tail | exact Fit.appR _ _)) : Fit κ I J := h
theorem Fit.sub (h : J.Sublist I := by repeat (first | exact List.Sublist.refl _ | apply List.Sublist.cons_cons | apply List.Sublist.cons | exact List.sublist_append_right _ _)) : Fit κ I J := Fit.of_sublist h
theorem Fit.s (h : Sp I J := by repeat (first | exact Sp.refl _ | refine Sp.pick (by repeat (first | exact Pick.head _ _ | apply Pick.tail | apply Pick.app)) ?_ | apply Sp.skip | exact Sp.appR _ _)) : Fit κ I J := Fit.sp h

theorem G.r {d : Nat} {v : Value} (hr : Runs P κ N o L I v) (h : G P κ N ops Q rest ((d, v) :: L) I) (hw : Wanted N ops o L := by exact Wanted.plain rfl) (hd : o.dst = some d := by exact rfl) (hN : Nat.blt d N = true := by exact rfl) : G P κ N ops Q (o :: rest) L I := G.read hw hd hN hr h
theorem G.ro {d : Nat} {v : Value} (hr : Runs P κ N o L I v) (h : G P κ N ops Q rest ((d, v) :: L) I) (hw : Wanted N ops o L := by exact Wanted.on rfl rfl rfl) (hd : o.dst = some d := by exact rfl) (hN : Nat.blt d N = true := by exact rfl) : G P κ N ops Q (o :: rest) L I := G.read hw hd hN hr h
theorem G.pu {d : Nat} (h : G P κ N ops Q rest ((d, undef) :: L) I) (hw : Unwanted N ops o L := by exact Unwanted.und rfl rfl rfl) (hd : o.dst = some d := by exact rfl) (hN : Nat.blt d N = true := by exact rfl) : G P κ N ops Q (o :: rest) L I := G.pass hw hd hN h
theorem G.po {d : Nat} (h : G P κ N ops Q rest ((d, undef) :: L) I) (hw : Unwanted N ops o L := by exact Unwanted.off rfl rfl rfl) (hd : o.dst = some d := by exact rfl) (hN : Nat.blt d N = true := by exact rfl) : G P κ N ops Q (o :: rest) L I := G.pass hw hd hN h
theorem G.e {R : Env → List Item → Prop} (he : Eff P κ N Q o L I R) (h : ∀ L' I', R L' I' → G P κ N ops Q rest L' I') (hw : Wanted N ops o L := by exact Wanted.plain rfl) : G P κ N ops Q (o :: rest) L I := G.eff hw he h
theorem G.nt {y : Code} (h : W P κ N y Q L I) : G P κ N ops (Exit.then (y.wp P Q) Q) [] L I := G.nil (V.then h)
theorem W.sr {id : Nat} {l : List Oper} {y : Code} (h : G P κ N l.toArray (Exit.then (y.wp P Q) Q) l L I) : W P κ N (.seq (.region id l.toArray false) y) Q L I := W.seq (W.region h)

theorem D.r {stop fuel : Nat} {listed : Array Bool} {d : Nat} {v : Value} (i : Nat) (hi : ops[i]? = some o) (hrun : Runs P κ N o L J v) (h : D P κ N ops Q J stop fuel (listed.setIfInBounds i true) ((d, v) :: L) I)
    (hw : Wanted N ops o L := by exact Wanted.plain rfl) (hd : o.dst = some d := by exact rfl) (hN : Nat.blt d N = true := by exact rfl) (hns : Region.noSelect ops = true := by kernel_rfl) (hf : Region.free .any ops listed i = true := by kernel_rfl)
    (hr : (Region.ready .any ops listed).contains i = true := by kernel_rfl) (hne : Nat.beq i stop = false := by exact rfl) (hwt : waitsFor .any ops stop i = true := by kernel_rfl) (hQ : ∀ c a u w, Q (.panic c) (a.put o.dst u) w → Q (.panic c) a w := by exact fun _ _ _ _ h => h)
    (hJ : Fit κ I J := by repeat (first | exact Fit.refl _ | apply Fit.tail | exact Fit.appR _ _)) : D P κ N ops Q J stop (fuel + 1) listed L I := D.read i hi hns hf hr hne hwt hQ hw hd hN hJ hrun h
theorem D.ro {stop fuel : Nat} {listed : Array Bool} {d : Nat} {v : Value} (i : Nat) (hi : ops[i]? = some o) (hrun : Runs P κ N o L J v) (h : D P κ N ops Q J stop fuel (listed.setIfInBounds i true) ((d, v) :: L) I)
    (hw : Wanted N ops o L := by exact Wanted.on rfl rfl rfl) (hd : o.dst = some d := by exact rfl) (hN : Nat.blt d N = true := by exact rfl) (hns : Region.noSelect ops = true := by kernel_rfl) (hf : Region.free .any ops listed i = true := by kernel_rfl)
    (hr : (Region.ready .any ops listed).contains i = true := by kernel_rfl) (hne : Nat.beq i stop = false := by exact rfl) (hwt : waitsFor .any ops stop i = true := by kernel_rfl) (hQ : ∀ c a u w, Q (.panic c) (a.put o.dst u) w → Q (.panic c) a w := by exact fun _ _ _ _ h => h)
    (hJ : Fit κ I J := by repeat (first | exact Fit.refl _ | apply Fit.tail | exact Fit.appR _ _)) : D P κ N ops Q J stop (fuel + 1) listed L I := D.read i hi hns hf hr hne hwt hQ hw hd hN hJ hrun h
theorem D.pu {stop fuel : Nat} {listed : Array Bool} {d : Nat} (i : Nat) (hi : ops[i]? = some o) (h : D P κ N ops Q J stop fuel (listed.setIfInBounds i true) ((d, undef) :: L) I)
    (hw : Unwanted N ops o L := by exact Unwanted.und rfl rfl rfl) (hd : o.dst = some d := by exact rfl) (hN : Nat.blt d N = true := by exact rfl) (hns : Region.noSelect ops = true := by kernel_rfl) (hf : Region.free .any ops listed i = true := by kernel_rfl)
    (hr : (Region.ready .any ops listed).contains i = true := by kernel_rfl) (hne : Nat.beq i stop = false := by exact rfl) (hwt : waitsFor .any ops stop i = true := by kernel_rfl) (hQ : ∀ c a u w, Q (.panic c) (a.put o.dst u) w → Q (.panic c) a w := by exact fun _ _ _ _ h => h)
    (hJ : Fit κ I J := by repeat (first | exact Fit.refl _ | apply Fit.tail | exact Fit.appR _ _)) : D P κ N ops Q J stop (fuel + 1) listed L I := D.pass i hi hns hf hr hne hwt hQ hw hd hN hJ h
theorem D.po {stop fuel : Nat} {listed : Array Bool} {d : Nat} (i : Nat) (hi : ops[i]? = some o) (h : D P κ N ops Q J stop fuel (listed.setIfInBounds i true) ((d, undef) :: L) I)
    (hw : Unwanted N ops o L := by exact Unwanted.off rfl rfl rfl) (hd : o.dst = some d := by exact rfl) (hN : Nat.blt d N = true := by exact rfl) (hns : Region.noSelect ops = true := by kernel_rfl) (hf : Region.free .any ops listed i = true := by kernel_rfl)
    (hr : (Region.ready .any ops listed).contains i = true := by kernel_rfl) (hne : Nat.beq i stop = false := by exact rfl) (hwt : waitsFor .any ops stop i = true := by kernel_rfl) (hQ : ∀ c a u w, Q (.panic c) (a.put o.dst u) w → Q (.panic c) a w := by exact fun _ _ _ _ h => h)
    (hJ : Fit κ I J := by repeat (first | exact Fit.refl _ | apply Fit.tail | exact Fit.appR _ _)) : D P κ N ops Q J stop (fuel + 1) listed L I := D.pass i hi hns hf hr hne hwt hQ hw hd hN hJ h
end
section
variable {α : Type} [Enc α] {κ : Ctx} {I J : List Item} {v : Value} {xs : List α}
theorem Sl.f (h : Sl κ I v xs) (hf : Fit κ J I := by repeat (first | exact Fit.refl _ | apply Fit.tail | exact Fit.appR _ _)) : Sl κ J v xs := h.fit hf
theorem Sl.o {e : TypeId} (h : vc e v xs ∈ I := by repeat (first | exact List.mem_cons_self | apply List.mem_cons_of_mem)) : Sl κ I v xs := Sl.vec h
end
section
variable {P : Program} {κ : Ctx} {N : Nat} {Q : Exit → Act → World → Prop} {L : Env} {I J : List Item}
variable {d : Option Tmp} {ty : TypeId} {ps : String} {af : Array Edge} {gd : Option (Nat × Bool)}
/-- One cell of a block. -/
theorem Runs.ld {x : Operand} {T sz by' b o E : Nat} {z cs : List Value} {v : Value} (hT : tyF P T = some (sz, false, by', z)) (hx : evalO L x = some (.pointer (some ⟨b, o, none⟩)) := by exact rfl)
    (hb : blk b cs E ∈ J := by repeat (first | exact List.mem_cons_self | apply List.mem_cons_of_mem)) (hc : cs[o]? = some v := by exact rfl) : Runs P κ N ⟨d, .load T x, ty, ps, af, gd⟩ L J v := Runs.load hT hx hb hc
theorem Runs.lds {x : Operand} {T sz by' b o E : Nat} {z cs vs : List Value} (hT : tyF P T = some (sz, true, by', z)) (hx : evalO L x = some (.pointer (some ⟨b, o, none⟩)) := by exact rfl)
    (hb : blk b cs E ∈ J := by repeat (first | exact List.mem_cons_self | apply List.mem_cons_of_mem)) (hc : (cs.drop o).take sz = vs := by exact rfl) (hl : vs.length = sz := by exact rfl) : Runs P κ N ⟨d, .load T x, ty, ps, af, gd⟩ L J (.agg vs.toArray) := Runs.loads hT hx hb hc hl
theorem Eff.st {x y : Operand} {T sz by' b o E : Nat} {ag : Bool} {z cs vs cs' : List Value} {v : Value} {I' : List Item} (hT : tyF P T = some (sz, ag, by', z)) (hx : evalO L x = some (.pointer (some ⟨b, o, none⟩)) := by exact rfl) (hy : evalO L y = some v := by exact rfl)
    (hv : cellsOf v = vs := by exact rfl) (hl : vs.length = sz := by exact rfl) (h1 : AllOne vs := by repeat (first | exact AllOne.nil | refine AllOne.cons rfl ?_)) (hat : At I (blk b cs E) (blk b cs' E) I' := by repeat (first | exact At.head _ _ _ | apply At.tail)) (hr : o + vs.length ≤ cs.length := by exact Nat.le_of_ble_eq_true rfl) (hcs : cs.take o ++ vs ++ cs.drop (o + vs.length) = cs' := by exact rfl) :
    Eff P κ N Q ⟨none, .store T x y, ty, ps, af, gd⟩ L I fun L' I'' => L' = L ∧ I'' = I' := Eff.store hT hx hy hv hl h1.all hr hcs hat
end
end Go.Sl
namespace Go.Sl
open Go.Proofs
theorem ty3 : tyF Try.prog 3 = some (1, false, 8, [I64 (0)]) := by kernel_rfl
theorem ty4 : tyF Try.prog 4 = some (1, false, 1, [.bool false]) := by kernel_rfl
theorem ty22 : tyF Try.prog 22 = some (1, false, 24, [.slice none 0 0]) := by kernel_rfl
theorem ty24 : tyF Try.prog 24 = some (3, true, 56, [.slice none 0 0, I64 (0), .slice none 0 0]) := by kernel_rfl
theorem fld24_0 : fldF Try.prog 24 0 = some 0 := by kernel_rfl
theorem fld24_1 : fldF Try.prog 24 1 = some 1 := by kernel_rfl
theorem fld24_2 : fldF Try.prog 24 2 = some 2 := by kernel_rfl
theorem pl24 (w : World) : (placesRun Try.prog 24).run Try.prog w = .ok #[(0, 1), (1, 1), (2, 1)] w := by kernel_rfl
theorem ty28 : tyF Try.prog 28 = some (1, false, 24, [.slice none 0 0]) := by kernel_rfl
theorem ty30 : tyF Try.prog 30 = some (4, true, 48, [I64 (0), I64 (0), I64 (0), .slice none 0 0]) := by kernel_rfl
theorem fld30_0 : fldF Try.prog 30 0 = some 0 := by kernel_rfl
theorem fld30_1 : fldF Try.prog 30 1 = some 1 := by kernel_rfl
theorem fld30_2 : fldF Try.prog 30 2 = some 2 := by kernel_rfl
theorem fld30_3 : fldF Try.prog 30 3 = some 3 := by kernel_rfl
theorem pl30 (w : World) : (placesRun Try.prog 30).run Try.prog w = .ok #[(0, 1), (1, 1), (2, 1), (3, 1)] w := by kernel_rfl
theorem ty43 : tyF Try.prog 43 = some (3, true, 24, [I64 (0), I64 (0), I64 (0)]) := by kernel_rfl
theorem fld43_0 : fldF Try.prog 43 0 = some 0 := by kernel_rfl
theorem fld43_1 : fldF Try.prog 43 1 = some 1 := by kernel_rfl
theorem fld43_2 : fldF Try.prog 43 2 = some 2 := by kernel_rfl
theorem pl43 (w : World) : (placesRun Try.prog 43).run Try.prog w = .ok #[(0, 1), (1, 1), (2, 1)] w := by kernel_rfl
theorem ty50 : tyF Try.prog 50 = some (1, false, 24, [.slice none 0 0]) := by kernel_rfl
end Go.Sl
namespace Go.Sl
open Go.Proofs
theorem ty129 : tyF Try.prog 129 = some (2, true, 32, [.slice none 0 0, I64 (0)]) := by kernel_rfl
theorem fld129_0 : fldF Try.prog 129 0 = some 0 := by kernel_rfl
theorem fld129_1 : fldF Try.prog 129 1 = some 1 := by kernel_rfl
theorem pl129 (w : World) : (placesRun Try.prog 129).run Try.prog w = .ok #[(0, 1), (1, 1)] w := by kernel_rfl
theorem ty139 : tyF Try.prog 139 = some (4, true, 32, [I64 (0), I64 (0), I64 (0), I64 (0)]) := by kernel_rfl
theorem fld139_0 : fldF Try.prog 139 0 = some 0 := by kernel_rfl
theorem fld139_1 : fldF Try.prog 139 1 = some 3 := by kernel_rfl
theorem pl139 (w : World) : (placesRun Try.prog 139).run Try.prog w = .ok #[(0, 3), (3, 1)] w := by kernel_rfl
theorem ty140 : tyF Try.prog 140 = some (1, false, 24, [.slice none 0 0]) := by kernel_rfl
theorem ty142 : tyF Try.prog 142 = some (5, true, 104, [.slice none 0 0, .slice none 0 0, .slice none 0 0, .slice none 0 0, I64 (0)]) := by kernel_rfl
theorem fld142_0 : fldF Try.prog 142 0 = some 0 := by kernel_rfl
theorem fld142_1 : fldF Try.prog 142 1 = some 1 := by kernel_rfl
theorem fld142_2 : fldF Try.prog 142 2 = some 2 := by kernel_rfl
theorem fld142_3 : fldF Try.prog 142 3 = some 3 := by kernel_rfl
theorem fld142_4 : fldF Try.prog 142 4 = some 4 := by kernel_rfl
theorem pl142 (w : World) : (placesRun Try.prog 142).run Try.prog w = .ok #[(0, 1), (1, 1), (2, 1), (3, 1), (4, 1)] w := by kernel_rfl
end Go.Sl
namespace Go.Sl
open Go.Proofs
theorem call21 : callable Try.prog 21 = true := by kernel_rfl
theorem call22 : callable Try.prog 22 = true := by kernel_rfl
theorem call23 : callable Try.prog 23 = true := by kernel_rfl
theorem call24 : callable Try.prog 24 = true := by kernel_rfl
theorem call25 : callable Try.prog 25 = true := by kernel_rfl
theorem call26 : callable Try.prog 26 = true := by kernel_rfl
theorem call27 : callable Try.prog 27 = true := by kernel_rfl
theorem call28 : callable Try.prog 28 = true := by kernel_rfl
theorem call29 : callable Try.prog 29 = true := by kernel_rfl
theorem call30 : callable Try.prog 30 = true := by kernel_rfl
theorem call34 : callable Try.prog 34 = true := by kernel_rfl
theorem call35 : callable Try.prog 35 = true := by kernel_rfl
theorem call36 : callable Try.prog 36 = true := by kernel_rfl
theorem call74 : callable Try.prog 74 = true := by kernel_rfl
theorem call93 : callable Try.prog 93 = true := by kernel_rfl
theorem call94 : callable Try.prog 94 = true := by kernel_rfl
theorem call95 : callable Try.prog 95 = true := by kernel_rfl
theorem call96 : callable Try.prog 96 = true := by kernel_rfl
theorem call97 : callable Try.prog 97 = true := by kernel_rfl
theorem call98 : callable Try.prog 98 = true := by kernel_rfl
theorem call99 : callable Try.prog 99 = true := by kernel_rfl
theorem call100 : callable Try.prog 100 = true := by kernel_rfl
theorem call101 : callable Try.prog 101 = true := by kernel_rfl
theorem call102 : callable Try.prog 102 = true := by kernel_rfl
theorem call103 : callable Try.prog 103 = true := by kernel_rfl
theorem call104 : callable Try.prog 104 = true := by kernel_rfl
theorem call105 : callable Try.prog 105 = true := by kernel_rfl
theorem call106 : callable Try.prog 106 = true := by kernel_rfl
theorem call107 : callable Try.prog 107 = true := by kernel_rfl
end Go.Sl
namespace Go.Sl
open Go.Proofs
theorem call164 : callable Try.prog 164 = true := by kernel_rfl
theorem call165 : callable Try.prog 165 = true := by kernel_rfl
theorem call166 : callable Try.prog 166 = true := by kernel_rfl
theorem call167 : callable Try.prog 167 = true := by kernel_rfl
theorem call211 : callable Try.prog 211 = true := by kernel_rfl
theorem call212 : callable Try.prog 212 = true := by kernel_rfl
theorem call213 : callable Try.prog 213 = true := by kernel_rfl
theorem mixed : Try.prog.follows .mixedOrders = true := by kernel_rfl
end Go.Sl

/- Plain facts on lists of numbers. No Go. No conditions. -/
namespace Go.Sl
set_option linter.unusedVariables false

section
variable {α : Type} [Inhabited α]
theorem at_nat (xs : List α) (k : Nat) : at_ xs (k : Int) = xs.getD k default := by simp [at_]
theorem at_get (xs : List α) (k : Nat) (h : k < xs.length) : at_ xs (k : Int) = xs[k] := by simp [at_, h]
theorem at_mem {xs : List α} {i : Int} (h0 : 0 ≤ i) (h : i < xs.length) : at_ xs i ∈ xs := by
  rw [at_eq h0 h]; exact List.getElem_mem _
theorem take_at (xs : List α) (k : Nat) (h : k < xs.length) : xs.take (k + 1) = xs.take k ++ [at_ xs (k : Int)] := by
  rw [at_get xs k h, List.take_succ_eq_append_getElem h]
theorem mem_at {xs : List α} {x : α} (h : x ∈ xs) : ∃ k, k < xs.length ∧ at_ xs (k : Int) = x := by
  obtain ⟨k, hk, he⟩ := List.mem_iff_getElem.1 h
  exact ⟨k, hk, by rw [at_get xs k hk, he]⟩
theorem not_mem_at {xs : List α} {x : α} {k : Nat} (h : ∀ j, j < k → at_ xs (j : Int) ≠ x) (hk : xs.length ≤ k) : x ∉ xs := fun hx => by
  obtain ⟨j, hj, he⟩ := mem_at hx
  exact h j (by omega) he
theorem at_set (xs : List α) (i j : Int) (v : α) (hi : 0 ≤ i) (hj : 0 ≤ j) (hl : i < xs.length) : at_ (xs.set i.toNat v) j = if i = j then v else at_ xs j := by
  unfold at_
  by_cases h : i = j
  · subst h
    have : i.toNat < xs.length := by omega
    simp [List.getD_eq_getElem?_getD, this]
  · have : i.toNat ≠ j.toNat := by omega
    simp [List.getD_eq_getElem?_getD, h, List.getElem?_set_ne this]
theorem at_setn (xs : List α) (k j : Nat) (v : α) (hk : k < xs.length) : at_ (xs.set k v) (j : Int) = if k = j then v else at_ xs (j : Int) := by
  have := at_set xs (k : Int) (j : Int) v (by omega) (by omega) (by omega)
  rw [Int.toNat_natCast] at this
  rw [this]
  by_cases h : k = j
  · simp [h]
  · rw [if_neg (show ¬ (k : Int) = (j : Int) by omega), if_neg h]
theorem at_append_left (xs ys : List α) (k : Nat) (h : k < xs.length) : at_ (xs ++ ys) (k : Int) = at_ xs (k : Int) := by
  rw [at_get _ k (by simp; omega), at_get _ k h, List.getElem_append_left h]
theorem at_last (xs : List α) (y : α) : at_ (xs ++ [y]) (xs.length : Int) = y := by
  rw [at_get _ _ (by simp)]; simp
theorem at_rep (n : Nat) (i : Int) (d : α) (h0 : 0 ≤ i) (h : i < n) : at_ (List.replicate n d) i = d := by
  rw [at_eq h0 (by simpa using h)]; simp
theorem eq_rep {xs : List α} {d : α} (h : ∀ j, j < xs.length → at_ xs (j : Int) = d) : xs = List.replicate xs.length d := by
  refine List.ext_getElem (by simp) fun j h1 h2 => ?_
  have := h j h1
  rw [at_get xs j h1] at this
  simp [this]
theorem drop_at (xs : List α) (k : Nat) (h : k < xs.length) : xs.drop k = at_ xs (k : Int) :: xs.drop (k + 1) := by
  rw [at_get xs k h, List.drop_eq_getElem_cons h]
theorem at_cons_zero (x : α) (xs : List α) : at_ (x :: xs) 0 = x := rfl
end
/-- What a loop over all elements shows: a step further. -/
theorem all_succ {p : Nat → Prop} {k : Nat} (h : ∀ j, j < k → p j) (hk : p k) : ∀ j, j < k + 1 → p j := fun j hj => by
  rcases Nat.lt_succ_iff_lt_or_eq.1 hj with h' | h'
  · exact h j h'
  · subst h'; exact hk
theorem all_zero {p : Nat → Prop} : ∀ j, j < 0 → p j := fun j hj => absurd hj (Nat.not_lt_zero j)
end Go.Sl
namespace Go.Sl
open Go.Proofs
set_option linter.unusedVariables false
set_option linter.unusedSimpArgs false
set_option maxRecDepth 4000
/-- A deck of choices in block b: its list in the slice lv, its place 'at'. -/
abbrev deck (b : Nat) (lv : Value) (i : Int) : Item := blk b [lv, I64 i] 129

theorem Mod_ok {κ : Ctx} {I : List Item} {n k : Int} (h1 : 1 ≤ k) (h2 : k ≤ 1000000000000) :
    CallS Try.prog κ 74 [I64 (n), I64 (k)] I (fun r J => ∃ x : Int, r = I64 x ∧ (0 ≤ x ∧ x < k) ∧ I = J) := by
 have q1 := Int.tmod_lt_of_pos n (b := k) (by omega)
 have q2 := Int.lt_tmod_of_pos n (b := k) (by omega)
 refine CallS.enter (L := [(0, I64 (n)), (1, I64 (k))]) Try.func74 rfl rfl rfl rfl ?_
 refine W.sr ?_
 refine G.r (Runs.assign rfl) ?_
 refine G.nt ?_
 refine W.sr ?_
 refine G.r (Runs.move rfl) ?_
 refine G.r (Runs.move rfl) ?_
 refine G.r (Runs.rem rfl rfl (by omega)) ?_
 refine G.r (Runs.move rfl) ?_
 refine G.r (Runs.add rfl rfl (by unfold InR; omega)) ?_
 refine G.r (Runs.move rfl) ?_
 refine G.r (Runs.rem rfl rfl (by omega)) ?_
 refine G.r (Runs.assign rfl) ?_
 refine G.nt ?_
 refine W.ret ?_
 have t1 := Int.tmod_nonneg k (a := Int.tmod n k + k) (by omega)
 have t2 := Int.tmod_lt_of_pos (Int.tmod n k + k) (b := k) (by omega)
 exact V.ret1 rfl rfl (_) Fit.m ⟨_, rfl, ⟨t1, t2⟩, rfl⟩

theorem Next_base {κ : Ctx} {I : List Item} {b : Nat} {lv : Value} {ls : List Int} {i : Int} (hl : Sl κ (deck b lv i :: I) lv ls) (h0 : 0 ≤ i) {n : Int} (hn : n ≤ 1000000000000) :
    CallS Try.prog κ 25 [.pointer (some ⟨b, 0, none⟩), I64 (n)] (blk b [lv, I64 (i)] 129 :: I) (fun r J => ∃ y : Int × Int, (r = I64 y.1 ∧ (0 ≤ y.1 ∧ (1 ≤ n → y.1 < n) ∧ (n < 1 → y.1 = 0)) ∧ 0 ≤ y.2) ∧ J = [] ++ deck b lv y.2 :: I) := by
 refine CallS.pull hl.le fun hmax => ?_
 refine CallS.enter (L := [(0, .pointer (some ⟨b, 0, none⟩)), (1, I64 (n))]) Try.func25 rfl rfl rfl rfl ?_
 refine W.sr ?_
 refine G.r (Runs.assign rfl) ?_
 refine G.nt ?_
 refine W.seq ?_
 refine W.seq ?_
 refine W.drawn mixed ?_
 refine A.hold (blk b [lv, I64 (i)] 129 :: I) 14 ?_
 refine D.r 0 rfl (Runs.move rfl) ?_
 refine D.r 1 rfl (Runs.lss rfl rfl) ?_
 refine D.r 2 rfl (Runs.move rfl) ?_
 refine D.split (d := 8) rfl (fun g8 => ?_) (fun g8 => ?_)
 ·refine D.po 3 rfl ?_
  refine D.po 4 rfl ?_
  refine D.po 5 rfl ?_
  refine D.po 6 rfl ?_
  refine D.po 7 rfl ?_
  refine D.po 8 rfl ?_
  refine D.po 9 rfl ?_
  refine D.po 10 rfl ?_
  refine D.po 11 rfl ?_
  refine D.po 12 rfl ?_
  refine D.r 13 rfl (Runs.pickt rfl rfl) ?_
  refine D.done (by kernel_rfl) ?_
  refine V.then ?_
  refine W.sub (L' := [(19, _), (0, _), (1, _)]) (Sub.cons rfl (Sub.cons rfl (Sub.cons rfl Sub.nil))) ?_
  refine W.yes rfl ?_
  refine W.sr ?_
  refine G.r (Runs.assign rfl) ?_
  refine G.nt ?_
  refine W.ret ?_
  refine V.then_ret ?_
  exact V.ret1 rfl rfl (_) Fit.m ⟨(0, i), ⟨rfl, ⟨Int.le_refl _, by intro _; show (0 : Int) < n; omega, fun _ => rfl⟩, h0⟩, rfl⟩
 ·refine D.ro 3 rfl (Runs.move rfl) ?_
  refine D.ro 4 rfl (Runs.nilCheck rfl) ?_
  refine D.ro 5 rfl (Runs.fieldAddr fld129_1 rfl) ?_
  refine D.ro 6 rfl (Runs.ld ty3) ?_
  refine D.ro 7 rfl (Runs.move rfl) ?_
  refine D.ro 8 rfl (Runs.nilCheck rfl) ?_
  refine D.ro 9 rfl (Runs.fieldAddr fld129_0 rfl) ?_
  refine D.ro 10 rfl (Runs.ld ty22) ?_
  refine D.ro 11 rfl (Runs.lenT (α := Int) (xs := ls) Try.underlying22 rfl (Sl.f hl)) ?_
  refine D.ro 12 rfl (Runs.geq rfl rfl) ?_
  refine D.r 13 rfl (Runs.pickf rfl rfl) ?_
  refine D.done (by kernel_rfl) ?_
  refine V.then ?_
  refine W.sub (L' := [(19, _), (0, _), (1, _)]) (Sub.cons rfl (Sub.cons rfl (Sub.cons rfl Sub.nil))) ?_
  refine W.ite rfl (fun c19 => ?_) (fun c19 => ?_)
  ·refine W.sr ?_
   refine G.r (Runs.assign rfl) ?_
   refine G.nt ?_
   refine W.ret ?_
   refine V.then_ret ?_
   exact V.ret1 rfl rfl (_) Fit.m ⟨(0, i), ⟨rfl, ⟨Int.le_refl _, by intro _; show (0 : Int) < n; omega, fun _ => rfl⟩, h0⟩, rfl⟩
  ·refine W.skip ?_
   refine V.then ?_
   refine W.seq ?_
   refine W.drawn mixed ?_
   refine A.hold (blk b [lv, I64 (i)] 129 :: I) 11 ?_
   refine D.r 0 rfl (Runs.move rfl) ?_
   refine D.r 1 rfl (Runs.nilCheck rfl) ?_
   refine D.r 2 rfl (Runs.fieldAddr fld129_0 rfl) ?_
   refine D.r 3 rfl (Runs.ld ty22) ?_
   refine D.r 4 rfl (Runs.move rfl) ?_
   refine D.r 5 rfl (Runs.nilCheck rfl) ?_
   refine D.r 6 rfl (Runs.fieldAddr fld129_1 rfl) ?_
   refine D.r 7 rfl (Runs.ld ty3) ?_
   refine D.r 8 rfl (Runs.idx (α := Int) (xs := ls) Try.underlying22 ty3 rfl rfl (Sl.f hl) (by omega) (by omega)) ?_
   refine D.r 9 rfl (Runs.get (xs := ls) ty3 rfl (Sl.f hl) (by omega) (by omega)) ?_
   refine D.r 10 rfl (Runs.assign rfl) ?_
   refine D.done (by kernel_rfl) ?_
   refine V.then ?_
   refine W.sub (L' := [(5, _), (0, _), (1, _)]) (Sub.cons rfl (Sub.cons rfl (Sub.cons rfl Sub.nil))) ?_
   refine W.sr ?_
   refine G.r (Runs.move rfl) ?_
   refine G.r (Runs.nilCheck rfl) ?_
   refine G.r (Runs.fieldAddr fld129_1 rfl) ?_
   refine G.r (Runs.ld ty3) ?_
   refine G.r (Runs.add rfl rfl (by unfold InR; omega)) ?_
   refine G.r (Runs.nilCheck rfl) ?_
   refine G.r (Runs.fieldAddr fld129_1 rfl) ?_
   refine G.e (Eff.st (cs := [_, _]) (vs := [_]) (cs' := [_, _]) ty3) ?_
   rintro _ _ ⟨rfl, rfl⟩
   refine G.nt ?_
   refine W.sr ?_
   refine G.r (Runs.move rfl) ?_
   refine G.r (Runs.move rfl) ?_
   refine G.e (Eff.call call74 rfl rfl (Mod_ok (by omega) (by omega))) ?_
   rintro _ _ ⟨_, _, ⟨x1, rfl, hx1, rfl⟩, rfl, rfl⟩
   refine G.r (Runs.assign rfl) ?_
   refine G.nt ?_
   refine W.sub (L' := [(4, _)]) (Sub.cons rfl Sub.nil) ?_
   refine W.ret ?_
   exact V.ret1 rfl rfl (_) Fit.m ⟨(x1, i + 1), ⟨rfl, ⟨by omega, by omega, by omega⟩, by show 0 ≤ i + 1; omega⟩, rfl⟩

theorem Next_ok {κ : Ctx} {I : List Item} {F : Item → List Item} {b : Nat} {lv : Value} {ls : List Int} {i : Int} (hat : AtF I (deck b lv i) F) (hl : Sl κ I lv ls) (h0 : 0 ≤ i) {n : Int} (hn : n ≤ 1000000000000) :
    CallS Try.prog κ 25 [.pointer (some ⟨b, 0, none⟩), I64 n] I fun r J => ∃ x i', r = I64 x ∧ (0 ≤ x ∧ (1 ≤ n → x < n) ∧ (n < 1 → x = 0)) ∧ 0 ≤ i' ∧ J = F (deck b lv i') :=
  (CallS.at (Z := fun _ => []) (X := fun y : Int × Int => deck b lv y.2) hat fun _ hJ _ => Next_base (hl.fit hJ) h0 hn).mono fun _ _ ⟨y, ⟨h1, h2, h3⟩, h4⟩ => ⟨y.1, y.2, h1, h2, h3, h4⟩

theorem New_ok {κ : Ctx} {I : List Item} {a : Option Addr} {n c : Nat} :
    CallS Try.prog κ 22 [.slice a n c] I (fun r J => ∃ b, r = .pointer (some ⟨b, 0, none⟩) ∧ J = deck b (.slice a n c) 0 :: I) := by
 refine CallS.enter (L := [(0, .slice a n c)]) Try.func22 rfl rfl rfl rfl ?_
 refine W.sr ?_
 refine G.r (Runs.assign rfl) ?_
 refine G.nt ?_
 refine W.sr ?_
 refine G.r (Runs.move rfl) ?_
 refine G.r (Runs.build (cells := [_, _]) ty129 Try.underlying129 pl129 rfl rfl) ?_
 refine G.e (Eff.box (cs := [_, _]) rfl rfl rfl) ?_
 rintro _ _ ⟨b1, rfl, rfl⟩
 refine G.r (Runs.assign rfl) ?_
 refine G.nt ?_
 refine W.ret ?_
 exact V.ret1 rfl rfl (_) Fit.m ⟨b1, rfl, rfl⟩

theorem RHas_ok {κ : Ctx} {I : List Item} {v : Value} {xs : List Int} (hl : Sl κ I v xs) (x : Int) :
    CallS Try.prog κ 95 [v, I64 (x)] I (fun r J => r = .bool (decide (x ∈ xs)) ∧ I = J) := by
 refine CallS.pull hl.le fun hmax => ?_
 refine CallS.enter (L := [(0, v), (1, I64 (x))]) Try.func95 rfl rfl rfl rfl ?_
 refine W.sr ?_
 refine G.r (Runs.assign rfl) ?_
 refine G.nt ?_
 refine W.seq ?_
 refine W.sr ?_
 refine G.r (Runs.move rfl) ?_
 refine G.r (Runs.lenT (α := Int) (xs := xs) Try.underlying22 rfl (Sl.f hl)) ?_
 refine G.r (Runs.move rfl) ?_
 refine G.nt ?_
 refine W.block ?_
 refine W.loop (σ := Nat) (fun s => ([(1, I64 (x)), (7, v), (8, I64 (((xs.length : Nat) : Int))), (9, I64 (((s : Nat) : Int)))] : Env)) (fun s => I) (fun s => (s ≤ xs.length) ∧ (∀ j, j < s → at_ xs (j : Int) ≠ x)) (fun s => xs.length - s) (0) (show ((0 : Nat) ≤ xs.length) ∧ (∀ j, j < (0 : Nat) → at_ xs (j : Int) ≠ x) from ⟨(by omega), all_zero⟩) (Sub.cons rfl (Sub.cons rfl (Sub.cons rfl (Sub.cons (lookI rfl (by omega)) Sub.nil)))) (show Fit κ _ (I) from Fit.sub) ?_
 rintro k hp
 obtain ⟨hk, hn⟩ : (k ≤ xs.length) ∧ (∀ j, j < k → at_ xs (j : Int) ≠ x) := hp
 show W Try.prog κ 17 _ _ ([(1, I64 (x)), (7, v), (8, I64 (((xs.length : Nat) : Int))), (9, I64 (((k : Nat) : Int)))] : Env) (I)
 refine W.sr ?_
 refine G.r (Runs.lss rfl rfl) ?_
 refine G.nt ?_
 refine W.seq ?_
 refine W.ite rfl (fun c10 => ?_) (fun c10 => ?_)
 ·refine W.skip ?_
  refine V.then ?_
  refine W.seq ?_
  refine W.block ?_
  refine W.sr ?_
  refine G.r (Runs.idx (α := Int) (xs := xs) Try.underlying22 ty3 rfl rfl (Sl.f hl) (by omega) (by omega)) ?_
  refine G.r (Runs.get (xs := xs) ty3 rfl (Sl.f hl) (by omega) (by omega)) ?_
  refine G.r (Runs.assign rfl) ?_
  refine G.nt ?_
  refine W.sr ?_
  refine G.r (Runs.move rfl) ?_
  refine G.r (Runs.move rfl) ?_
  refine G.r (Runs.eql rfl rfl) ?_
  refine G.nt ?_
  refine W.ite rfl (fun c15 => ?_) (fun c15 => ?_)
  ·refine W.sr ?_
   refine G.r (Runs.assign rfl) ?_
   refine G.nt ?_
   refine W.ret ?_
   refine V.block_ret ?_
   refine V.then_ret ?_
   refine V.then_ret ?_
   refine V.block_ret ?_
   refine V.then_ret ?_
   have hm : x ∈ xs := by subst c15; exact at_mem (by omega) (by omega)
   exact V.ret1 rfl rfl (_) Fit.m ⟨by rw [decide_eq_true hm], rfl⟩
  ·refine W.skip ?_
   refine V.block_normal ?_
   refine V.then ?_
   refine W.region ?_
   refine G.r (Runs.add rfl rfl (by unfold InR; omega)) ?_
   refine G.r (Runs.move rfl) ?_
   refine G.nil ?_
   exact V.next ((k + 1)) (show ((k + 1 : Nat) ≤ xs.length) ∧ (∀ j, j < (k + 1 : Nat) → at_ xs (j : Int) ≠ x) from ⟨(by omega), (all_succ hn c15)⟩) (show xs.length - (k + 1 : Nat) < xs.length - k from (by omega)) (Sub.cons rfl (Sub.cons rfl (Sub.cons rfl (Sub.cons (lookI rfl (by omega)) Sub.nil)))) (show Fit κ _ (I) from Fit.sub)
 ·refine W.exit ?_
  refine V.then_exit ?_
  refine V.then_exit ?_
  refine V.block_hit ?_
  refine V.then ?_
  refine W.sr ?_
  refine G.r (Runs.assign rfl) ?_
  refine G.nt ?_
  refine W.ret ?_
  have hm : x ∉ xs := not_mem_at hn (by omega)
  exact V.ret1 rfl rfl (_) Fit.m ⟨by rw [decide_eq_false hm], rfl⟩

theorem Index_ok {κ : Ctx} {I : List Item} {v : Value} {xs : List Int} (hl : Sl κ I v xs) (x : Int) :
    CallS Try.prog κ 211 [v, I64 (x)] I (fun r J => ∃ y : Int, r = I64 y ∧ (0 ≤ y ↔ x ∈ xs) ∧ I = J) := by
 refine CallS.pull hl.le fun hmax => ?_
 refine CallS.enter (L := [(0, v), (1, I64 (x))]) Try.func211 rfl rfl rfl rfl ?_
 refine W.sr ?_
 refine G.r (Runs.assign rfl) ?_
 refine G.nt ?_
 refine W.seq ?_
 refine W.sr ?_
 refine G.r (Runs.move rfl) ?_
 refine G.r (Runs.lenT (α := Int) (xs := xs) Try.underlying22 rfl (Sl.f hl)) ?_
 refine G.r (Runs.move rfl) ?_
 refine G.nt ?_
 refine W.block ?_
 refine W.loop (σ := Nat) (fun s => ([(0, v), (1, I64 (x)), (7, I64 (((xs.length : Nat) : Int))), (8, I64 (((s : Nat) : Int)))] : Env)) (fun s => I) (fun s => (s ≤ xs.length) ∧ (∀ j, j < s → at_ xs (j : Int) ≠ x)) (fun s => xs.length - s) (0) (show ((0 : Nat) ≤ xs.length) ∧ (∀ j, j < (0 : Nat) → at_ xs (j : Int) ≠ x) from ⟨(by omega), all_zero⟩) (Sub.cons rfl (Sub.cons rfl (Sub.cons rfl (Sub.cons (lookI rfl (by omega)) Sub.nil)))) (show Fit κ _ (I) from Fit.sub) ?_
 rintro k hp
 obtain ⟨hk, hn⟩ : (k ≤ xs.length) ∧ (∀ j, j < k → at_ xs (j : Int) ≠ x) := hp
 show W Try.prog κ 19 _ _ ([(0, v), (1, I64 (x)), (7, I64 (((xs.length : Nat) : Int))), (8, I64 (((k : Nat) : Int)))] : Env) (I)
 refine W.sr ?_
 refine G.r (Runs.lss rfl rfl) ?_
 refine G.nt ?_
 refine W.seq ?_
 refine W.ite rfl (fun c9 => ?_) (fun c9 => ?_)
 ·refine W.skip ?_
  refine V.then ?_
  refine W.seq ?_
  refine W.block ?_
  refine W.sr ?_
  refine G.r (Runs.move rfl) ?_
  refine G.r (Runs.assign rfl) ?_
  refine G.nt ?_
  refine W.sr ?_
  refine G.r (Runs.move rfl) ?_
  refine G.r (Runs.move rfl) ?_
  refine G.r (Runs.move rfl) ?_
  refine G.r (Runs.idx (α := Int) (xs := xs) Try.underlying22 ty3 rfl rfl (Sl.f hl) (by omega) (by omega)) ?_
  refine G.r (Runs.get (xs := xs) ty3 rfl (Sl.f hl) (by omega) (by omega)) ?_
  refine G.r (Runs.eql rfl rfl) ?_
  refine G.nt ?_
  refine W.ite rfl (fun c16 => ?_) (fun c16 => ?_)
  ·refine W.sr ?_
   refine G.r (Runs.move rfl) ?_
   refine G.r (Runs.assign rfl) ?_
   refine G.nt ?_
   refine W.sub (L' := [(4, _)]) (Sub.cons rfl Sub.nil) ?_
   refine W.ret ?_
   refine V.block_ret ?_
   refine V.then_ret ?_
   refine V.then_ret ?_
   refine V.block_ret ?_
   refine V.then_ret ?_
   have hm : x ∈ xs := by subst c16; exact at_mem (by omega) (by omega)
   exact V.ret1 rfl rfl (_) Fit.m ⟨_, rfl, ⟨fun _ => hm, fun _ => by omega⟩, rfl⟩
  ·refine W.skip ?_
   refine V.block_normal ?_
   refine V.then ?_
   refine W.region ?_
   refine G.r (Runs.add rfl rfl (by unfold InR; omega)) ?_
   refine G.r (Runs.move rfl) ?_
   refine G.nil ?_
   exact V.next ((k + 1)) (show ((k + 1 : Nat) ≤ xs.length) ∧ (∀ j, j < (k + 1 : Nat) → at_ xs (j : Int) ≠ x) from ⟨(by omega), (all_succ hn (fun e => c16 e.symm))⟩) (show xs.length - (k + 1 : Nat) < xs.length - k from (by omega)) (Sub.cons rfl (Sub.cons rfl (Sub.cons rfl (Sub.cons (lookI rfl (by omega)) Sub.nil)))) (show Fit κ _ (I) from Fit.sub)
 ·refine W.exit ?_
  refine V.then_exit ?_
  refine V.then_exit ?_
  refine V.block_hit ?_
  refine V.then ?_
  refine W.sr ?_
  refine G.r (Runs.assign rfl) ?_
  refine G.nt ?_
  refine W.ret ?_
  have hm : x ∉ xs := not_mem_at hn (by omega)
  exact V.ret1 rfl rfl (_) Fit.m ⟨_, rfl, ⟨fun h => absurd h (by decide), fun h => absurd h hm⟩, rfl⟩

theorem Contains_ok {κ : Ctx} {I : List Item} {v : Value} {xs : List Int} (hl : Sl κ I v xs) (x : Int) :
    CallS Try.prog κ 164 [v, I64 (x)] I (fun r J => r = .bool (decide (x ∈ xs)) ∧ I = J) := by
 refine CallS.enter (L := [(0, v), (1, I64 (x))]) Try.func164 rfl rfl rfl rfl ?_
 refine W.sr ?_
 refine G.r (Runs.assign rfl) ?_
 refine G.nt ?_
 refine W.sr ?_
 refine G.r (Runs.move rfl) ?_
 refine G.r (Runs.move rfl) ?_
 refine G.e (Eff.call call211 rfl rfl (Index_ok (Sl.f hl) x)) ?_
 rintro _ _ ⟨_, _, ⟨y1, rfl, hy1, rfl⟩, rfl, rfl⟩
 refine G.r (Runs.geq rfl rfl) ?_
 refine G.r (Runs.assign rfl) ?_
 refine G.nt ?_
 refine W.ret ?_
 exact V.ret1 rfl rfl (_) Fit.m ⟨by rw [decide_eq_decide.2 hy1], rfl⟩

theorem NHas_ok {κ : Ctx} {I : List Item} {v : Value} {xs : List Int} (hl : Sl κ I v xs) (x : Int) :
    CallS Try.prog κ 99 [v, I64 (x)] I (fun r J => r = .bool (decide (x ∈ xs)) ∧ I = J) := by
 refine CallS.enter (L := [(0, v), (1, I64 (x))]) Try.func99 rfl rfl rfl rfl ?_
 refine W.sr ?_
 refine G.r (Runs.assign rfl) ?_
 refine G.nt ?_
 refine W.sr ?_
 refine G.r (Runs.move rfl) ?_
 refine G.r (Runs.move rfl) ?_
 refine G.e (Eff.call call164 rfl rfl (Contains_ok (Sl.f hl) x)) ?_
 rintro _ _ ⟨_, _, ⟨rfl, rfl⟩, rfl, rfl⟩
 refine G.r (Runs.assign rfl) ?_
 refine G.nt ?_
 refine W.ret ?_
 exact V.ret1 rfl rfl (_) Fit.m ⟨rfl, rfl⟩

/-- A set of so many nodes: ascending, each below 'nodes'. -/
def ValidP (xs : List Int) (nodes : Int) : Prop := ∀ j, j < xs.length → (0 ≤ at_ xs (j : Int) ∧ at_ xs (j : Int) < nodes) ∧ (0 < j → at_ xs ((j : Int) - 1) < at_ xs (j : Int))
instance (xs : List Int) (nodes : Int) : Decidable (ValidP xs nodes) := by unfold ValidP; infer_instance

theorem NValid_ok {κ : Ctx} {I : List Item} {v : Value} {xs : List Int} (hl : Sl κ I v xs) (nodes : Int) :
    CallS Try.prog κ 96 [v, I64 (nodes)] I (fun r J => r = .bool (decide (ValidP xs nodes)) ∧ I = J) := by
 refine CallS.pull hl.le fun hmax => ?_
 refine CallS.enter (L := [(0, v), (1, I64 (nodes))]) Try.func96 rfl rfl rfl rfl ?_
 refine W.sr ?_
 refine G.r (Runs.assign rfl) ?_
 refine G.nt ?_
 refine W.seq ?_
 refine W.sr ?_
 refine G.r (Runs.move rfl) ?_
 refine G.r (Runs.lenT (α := Int) (xs := xs) Try.underlying22 rfl (Sl.f hl)) ?_
 refine G.r (Runs.move rfl) ?_
 refine G.nt ?_
 refine W.block ?_
 refine W.loop (σ := Nat) (fun s => ([(0, v), (1, I64 (nodes)), (7, v), (8, I64 (((xs.length : Nat) : Int))), (9, I64 (((s : Nat) : Int)))] : Env)) (fun s => I) (fun s => (s ≤ xs.length) ∧ (∀ j, j < s → (0 ≤ at_ xs (j : Int) ∧ at_ xs (j : Int) < nodes) ∧ (0 < j → at_ xs ((j : Int) - 1) < at_ xs (j : Int)))) (fun s => xs.length - s) (0) (show ((0 : Nat) ≤ xs.length) ∧ (∀ j, j < (0 : Nat) → (0 ≤ at_ xs (j : Int) ∧ at_ xs (j : Int) < nodes) ∧ (0 < j → at_ xs ((j : Int) - 1) < at_ xs (j : Int))) from ⟨(by omega), all_zero⟩) (Sub.cons rfl (Sub.cons rfl (Sub.cons rfl (Sub.cons rfl (Sub.cons (lookI rfl (by omega)) Sub.nil))))) (show Fit κ _ (I) from Fit.sub) ?_
 rintro k hp
 obtain ⟨hk, hn⟩ : (k ≤ xs.length) ∧ (∀ j, j < k → (0 ≤ at_ xs (j : Int) ∧ at_ xs (j : Int) < nodes) ∧ (0 < j → at_ xs ((j : Int) - 1) < at_ xs (j : Int))) := hp
 show W Try.prog κ 35 _ _ ([(0, v), (1, I64 (nodes)), (7, v), (8, I64 (((xs.length : Nat) : Int))), (9, I64 (((k : Nat) : Int)))] : Env) (I)
 refine W.sr ?_
 refine G.r (Runs.lss rfl rfl) ?_
 refine G.nt ?_
 refine W.seq ?_
 refine W.ite rfl (fun c10 => ?_) (fun c10 => ?_)
 ·refine W.skip ?_
  refine V.then ?_
  refine W.seq ?_
  refine W.block ?_
  refine W.sr ?_
  refine G.r (Runs.move rfl) ?_
  refine G.r (Runs.idx (α := Int) (xs := xs) Try.underlying22 ty3 rfl rfl (Sl.f hl) (by omega) (by omega)) ?_
  refine G.r (Runs.get (xs := xs) ty3 rfl (Sl.f hl) (by omega) (by omega)) ?_
  refine G.r (Runs.assign rfl) ?_
  refine G.r (Runs.assign rfl) ?_
  refine G.nt ?_
  refine W.sr ?_
  refine G.r (Runs.move rfl) ?_
  refine G.r (Runs.lss rfl rfl) ?_
  refine G.r (Runs.move rfl) ?_
  refine G.split (d := 16) rfl (fun g16 => ?_) (fun g16 => ?_)
  ·refine G.po ?_
   refine G.po ?_
   refine G.po ?_
   refine G.r (Runs.pickt rfl rfl) ?_
   refine G.r (Runs.move rfl) ?_
   refine G.po ?_
   refine G.po ?_
   refine G.po ?_
   refine G.pu ?_
   refine G.pu ?_
   refine G.pu ?_
   refine G.pu ?_
   refine G.pu ?_
   refine G.pu ?_
   refine G.pu ?_
   refine G.po ?_
   refine G.r (Runs.pickt rfl rfl) ?_
   refine G.nt ?_
   refine W.sub (L' := [(33, _), (0, _), (1, _), (7, _), (8, _), (9, _)]) (Sub.cons rfl (Sub.cons rfl (Sub.cons rfl (Sub.cons rfl (Sub.cons rfl (Sub.cons rfl Sub.nil)))))) ?_
   refine W.yes rfl ?_
   refine W.sr ?_
   refine G.r (Runs.assign rfl) ?_
   refine G.nt ?_
   refine W.ret ?_
   refine V.block_ret ?_
   refine V.then_ret ?_
   refine V.then_ret ?_
   refine V.block_ret ?_
   refine V.then_ret ?_
   have hm : ¬ ValidP xs nodes := fun hv => by have := hv k (by omega); omega
   exact V.ret1 rfl rfl (_) Fit.m ⟨by rw [decide_eq_false hm], rfl⟩
  ·refine G.ro (Runs.move rfl) ?_
   refine G.ro (Runs.move rfl) ?_
   refine G.ro (Runs.geq rfl rfl) ?_
   refine G.r (Runs.pickf rfl rfl) ?_
   refine G.r (Runs.move rfl) ?_
   refine G.split (d := 21) rfl (fun g21 => ?_) (fun g21 => ?_)
   ·refine G.po ?_
    refine G.po ?_
    refine G.po ?_
    refine G.pu ?_
    refine G.pu ?_
    refine G.pu ?_
    refine G.pu ?_
    refine G.pu ?_
    refine G.pu ?_
    refine G.pu ?_
    refine G.po ?_
    refine G.r (Runs.pickt rfl rfl) ?_
    refine G.nt ?_
    refine W.sub (L' := [(33, _), (0, _), (1, _), (7, _), (8, _), (9, _)]) (Sub.cons rfl (Sub.cons rfl (Sub.cons rfl (Sub.cons rfl (Sub.cons rfl (Sub.cons rfl Sub.nil)))))) ?_
    refine W.yes rfl ?_
    refine W.sr ?_
    refine G.r (Runs.assign rfl) ?_
    refine G.nt ?_
    refine W.ret ?_
    refine V.block_ret ?_
    refine V.then_ret ?_
    refine V.then_ret ?_
    refine V.block_ret ?_
    refine V.then_ret ?_
    have hm : ¬ ValidP xs nodes := fun hv => by have := hv k (by omega); omega
    exact V.ret1 rfl rfl (_) Fit.m ⟨by rw [decide_eq_false hm], rfl⟩
   ·refine G.ro (Runs.move rfl) ?_
    refine G.ro (Runs.gtr rfl rfl) ?_
    refine G.ro (Runs.move rfl) ?_
    refine G.split (d := 24) rfl (fun g24 => ?_) (fun g24 => ?_)
    ·refine G.ro (Runs.move rfl) ?_
     refine G.ro (Runs.move rfl) ?_
     refine G.ro (Runs.sub rfl rfl (by unfold InR; omega)) ?_
     refine G.ro (Runs.idx (α := Int) (xs := xs) Try.underlying22 ty3 rfl rfl (Sl.f hl) (by omega) (by omega)) ?_
     refine G.ro (Runs.get (xs := xs) ty3 rfl (Sl.f hl) (by omega) (by omega)) ?_
     refine G.ro (Runs.move rfl) ?_
     refine G.ro (Runs.geq rfl rfl) ?_
     refine G.ro (Runs.pickt rfl rfl) ?_
     refine G.r (Runs.pickf rfl rfl) ?_
     refine G.nt ?_
     refine W.sub (L' := [(33, _), (0, _), (1, _), (7, _), (8, _), (9, _)]) (Sub.cons rfl (Sub.cons rfl (Sub.cons rfl (Sub.cons rfl (Sub.cons rfl (Sub.cons rfl Sub.nil)))))) ?_
     refine W.ite rfl (fun c33 => ?_) (fun c33 => ?_)
     ·refine W.sr ?_
      refine G.r (Runs.assign rfl) ?_
      refine G.nt ?_
      refine W.ret ?_
      refine V.block_ret ?_
      refine V.then_ret ?_
      refine V.then_ret ?_
      refine V.block_ret ?_
      refine V.then_ret ?_
      have hm : ¬ ValidP xs nodes := fun hv => by have := hv k (by omega); have := this.2 (by omega); omega
      exact V.ret1 rfl rfl (_) Fit.m ⟨by rw [decide_eq_false hm], rfl⟩
     ·refine W.skip ?_
      refine V.block_normal ?_
      refine V.then ?_
      refine W.region ?_
      refine G.r (Runs.add rfl rfl (by unfold InR; omega)) ?_
      refine G.r (Runs.move rfl) ?_
      refine G.nil ?_
      exact V.next ((k + 1)) (show ((k + 1 : Nat) ≤ xs.length) ∧ (∀ j, j < (k + 1 : Nat) → (0 ≤ at_ xs (j : Int) ∧ at_ xs (j : Int) < nodes) ∧ (0 < j → at_ xs ((j : Int) - 1) < at_ xs (j : Int))) from ⟨(by omega), (all_succ hn ⟨by omega, fun _ => by omega⟩)⟩) (show xs.length - (k + 1 : Nat) < xs.length - k from (by omega)) (Sub.cons rfl (Sub.cons rfl (Sub.cons rfl (Sub.cons rfl (Sub.cons (lookI rfl (by omega)) Sub.nil))))) (show Fit κ _ (I) from Fit.sub)
    ·refine G.po ?_
     refine G.po ?_
     refine G.po ?_
     refine G.po ?_
     refine G.po ?_
     refine G.po ?_
     refine G.po ?_
     refine G.ro (Runs.pickf rfl rfl) ?_
     refine G.r (Runs.pickf rfl rfl) ?_
     refine G.nt ?_
     refine W.sub (L' := [(33, _), (0, _), (1, _), (7, _), (8, _), (9, _)]) (Sub.cons rfl (Sub.cons rfl (Sub.cons rfl (Sub.cons rfl (Sub.cons rfl (Sub.cons rfl Sub.nil)))))) ?_
     refine W.no rfl ?_
     refine W.skip ?_
     refine V.block_normal ?_
     refine V.then ?_
     refine W.region ?_
     refine G.r (Runs.add rfl rfl (by unfold InR; omega)) ?_
     refine G.r (Runs.move rfl) ?_
     refine G.nil ?_
     exact V.next ((k + 1)) (show ((k + 1 : Nat) ≤ xs.length) ∧ (∀ j, j < (k + 1 : Nat) → (0 ≤ at_ xs (j : Int) ∧ at_ xs (j : Int) < nodes) ∧ (0 < j → at_ xs ((j : Int) - 1) < at_ xs (j : Int))) from ⟨(by omega), (all_succ hn ⟨by omega, fun _ => by omega⟩)⟩) (show xs.length - (k + 1 : Nat) < xs.length - k from (by omega)) (Sub.cons rfl (Sub.cons rfl (Sub.cons rfl (Sub.cons rfl (Sub.cons (lookI rfl (by omega)) Sub.nil))))) (show Fit κ _ (I) from Fit.sub)
 ·refine W.exit ?_
  refine V.then_exit ?_
  refine V.then_exit ?_
  refine V.block_hit ?_
  refine V.then ?_
  refine W.sr ?_
  refine G.r (Runs.assign rfl) ?_
  refine G.nt ?_
  refine W.ret ?_
  have hm : ValidP xs nodes := fun j hj => hn j (by omega)
  exact V.ret1 rfl rfl (_) Fit.m ⟨by rw [decide_eq_true hm], rfl⟩

theorem RValid_ok {κ : Ctx} {I : List Item} {v : Value} {xs : List Int} (hl : Sl κ I v xs) (nodes : Int) :
    CallS Try.prog κ 100 [v, I64 (nodes)] I (fun r J => r = .bool (decide (ValidP xs nodes)) ∧ I = J) := by
 refine CallS.pull hl.le fun hmax => ?_
 refine CallS.enter (L := [(0, v), (1, I64 (nodes))]) Try.func100 rfl rfl rfl rfl ?_
 refine W.sr ?_
 refine G.r (Runs.assign rfl) ?_
 refine G.nt ?_
 refine W.seq ?_
 refine W.sr ?_
 refine G.r (Runs.move rfl) ?_
 refine G.r (Runs.lenT (α := Int) (xs := xs) Try.underlying22 rfl (Sl.f hl)) ?_
 refine G.r (Runs.move rfl) ?_
 refine G.nt ?_
 refine W.block ?_
 refine W.loop (σ := Nat) (fun s => ([(0, v), (1, I64 (nodes)), (7, v), (8, I64 (((xs.length : Nat) : Int))), (9, I64 (((s : Nat) : Int)))] : Env)) (fun s => I) (fun s => (s ≤ xs.length) ∧ (∀ j, j < s → (0 ≤ at_ xs (j : Int) ∧ at_ xs (j : Int) < nodes) ∧ (0 < j → at_ xs ((j : Int) - 1) < at_ xs (j : Int)))) (fun s => xs.length - s) (0) (show ((0 : Nat) ≤ xs.length) ∧ (∀ j, j < (0 : Nat) → (0 ≤ at_ xs (j : Int) ∧ at_ xs (j : Int) < nodes) ∧ (0 < j → at_ xs ((j : Int) - 1) < at_ xs (j : Int))) from ⟨(by omega), all_zero⟩) (Sub.cons rfl (Sub.cons rfl (Sub.cons rfl (Sub.cons rfl (Sub.cons (lookI rfl (by omega)) Sub.nil))))) (show Fit κ _ (I) from Fit.sub) ?_
 rintro k hp
 obtain ⟨hk, hn⟩ : (k ≤ xs.length) ∧ (∀ j, j < k → (0 ≤ at_ xs (j : Int) ∧ at_ xs (j : Int) < nodes) ∧ (0 < j → at_ xs ((j : Int) - 1) < at_ xs (j : Int))) := hp
 show W Try.prog κ 35 _ _ ([(0, v), (1, I64 (nodes)), (7, v), (8, I64 (((xs.length : Nat) : Int))), (9, I64 (((k : Nat) : Int)))] : Env) (I)
 refine W.sr ?_
 refine G.r (Runs.lss rfl rfl) ?_
 refine G.nt ?_
 refine W.seq ?_
 refine W.ite rfl (fun c10 => ?_) (fun c10 => ?_)
 ·refine W.skip ?_
  refine V.then ?_
  refine W.seq ?_
  refine W.block ?_
  refine W.sr ?_
  refine G.r (Runs.move rfl) ?_
  refine G.r (Runs.idx (α := Int) (xs := xs) Try.underlying22 ty3 rfl rfl (Sl.f hl) (by omega) (by omega)) ?_
  refine G.r (Runs.get (xs := xs) ty3 rfl (Sl.f hl) (by omega) (by omega)) ?_
  refine G.r (Runs.assign rfl) ?_
  refine G.r (Runs.assign rfl) ?_
  refine G.nt ?_
  refine W.sr ?_
  refine G.r (Runs.move rfl) ?_
  refine G.r (Runs.lss rfl rfl) ?_
  refine G.r (Runs.move rfl) ?_
  refine G.split (d := 16) rfl (fun g16 => ?_) (fun g16 => ?_)
  ·refine G.po ?_
   refine G.po ?_
   refine G.po ?_
   refine G.r (Runs.pickt rfl rfl) ?_
   refine G.r (Runs.move rfl) ?_
   refine G.po ?_
   refine G.po ?_
   refine G.po ?_
   refine G.pu ?_
   refine G.pu ?_
   refine G.pu ?_
   refine G.pu ?_
   refine G.pu ?_
   refine G.pu ?_
   refine G.pu ?_
   refine G.po ?_
   refine G.r (Runs.pickt rfl rfl) ?_
   refine G.nt ?_
   refine W.sub (L' := [(33, _), (0, _), (1, _), (7, _), (8, _), (9, _)]) (Sub.cons rfl (Sub.cons rfl (Sub.cons rfl (Sub.cons rfl (Sub.cons rfl (Sub.cons rfl Sub.nil)))))) ?_
   refine W.yes rfl ?_
   refine W.sr ?_
   refine G.r (Runs.assign rfl) ?_
   refine G.nt ?_
   refine W.ret ?_
   refine V.block_ret ?_
   refine V.then_ret ?_
   refine V.then_ret ?_
   refine V.block_ret ?_
   refine V.then_ret ?_
   have hm : ¬ ValidP xs nodes := fun hv => by have := hv k (by omega); omega
   exact V.ret1 rfl rfl (_) Fit.m ⟨by rw [decide_eq_false hm], rfl⟩
  ·refine G.ro (Runs.move rfl) ?_
   refine G.ro (Runs.move rfl) ?_
   refine G.ro (Runs.geq rfl rfl) ?_
   refine G.r (Runs.pickf rfl rfl) ?_
   refine G.r (Runs.move rfl) ?_
   refine G.split (d := 21) rfl (fun g21 => ?_) (fun g21 => ?_)
   ·refine G.po ?_
    refine G.po ?_
    refine G.po ?_
    refine G.pu ?_
    refine G.pu ?_
    refine G.pu ?_
    refine G.pu ?_
    refine G.pu ?_
    refine G.pu ?_
    refine G.pu ?_
    refine G.po ?_
    refine G.r (Runs.pickt rfl rfl) ?_
    refine G.nt ?_
    refine W.sub (L' := [(33, _), (0, _), (1, _), (7, _), (8, _), (9, _)]) (Sub.cons rfl (Sub.cons rfl (Sub.cons rfl (Sub.cons rfl (Sub.cons rfl (Sub.cons rfl Sub.nil)))))) ?_
    refine W.yes rfl ?_
    refine W.sr ?_
    refine G.r (Runs.assign rfl) ?_
    refine G.nt ?_
    refine W.ret ?_
    refine V.block_ret ?_
    refine V.then_ret ?_
    refine V.then_ret ?_
    refine V.block_ret ?_
    refine V.then_ret ?_
    have hm : ¬ ValidP xs nodes := fun hv => by have := hv k (by omega); omega
    exact V.ret1 rfl rfl (_) Fit.m ⟨by rw [decide_eq_false hm], rfl⟩
   ·refine G.ro (Runs.move rfl) ?_
    refine G.ro (Runs.gtr rfl rfl) ?_
    refine G.ro (Runs.move rfl) ?_
    refine G.split (d := 24) rfl (fun g24 => ?_) (fun g24 => ?_)
    ·refine G.ro (Runs.move rfl) ?_
     refine G.ro (Runs.move rfl) ?_
     refine G.ro (Runs.sub rfl rfl (by unfold InR; omega)) ?_
     refine G.ro (Runs.idx (α := Int) (xs := xs) Try.underlying22 ty3 rfl rfl (Sl.f hl) (by omega) (by omega)) ?_
     refine G.ro (Runs.get (xs := xs) ty3 rfl (Sl.f hl) (by omega) (by omega)) ?_
     refine G.ro (Runs.move rfl) ?_
     refine G.ro (Runs.geq rfl rfl) ?_
     refine G.ro (Runs.pickt rfl rfl) ?_
     refine G.r (Runs.pickf rfl rfl) ?_
     refine G.nt ?_
     refine W.sub (L' := [(33, _), (0, _), (1, _), (7, _), (8, _), (9, _)]) (Sub.cons rfl (Sub.cons rfl (Sub.cons rfl (Sub.cons rfl (Sub.cons rfl (Sub.cons rfl Sub.nil)))))) ?_
     refine W.ite rfl (fun c33 => ?_) (fun c33 => ?_)
     ·refine W.sr ?_
      refine G.r (Runs.assign rfl) ?_
      refine G.nt ?_
      refine W.ret ?_
      refine V.block_ret ?_
      refine V.then_ret ?_
      refine V.then_ret ?_
      refine V.block_ret ?_
      refine V.then_ret ?_
      have hm : ¬ ValidP xs nodes := fun hv => by have := hv k (by omega); have := this.2 (by omega); omega
      exact V.ret1 rfl rfl (_) Fit.m ⟨by rw [decide_eq_false hm], rfl⟩
     ·refine W.skip ?_
      refine V.block_normal ?_
      refine V.then ?_
      refine W.region ?_
      refine G.r (Runs.add rfl rfl (by unfold InR; omega)) ?_
      refine G.r (Runs.move rfl) ?_
      refine G.nil ?_
      exact V.next ((k + 1)) (show ((k + 1 : Nat) ≤ xs.length) ∧ (∀ j, j < (k + 1 : Nat) → (0 ≤ at_ xs (j : Int) ∧ at_ xs (j : Int) < nodes) ∧ (0 < j → at_ xs ((j : Int) - 1) < at_ xs (j : Int))) from ⟨(by omega), (all_succ hn ⟨by omega, fun _ => by omega⟩)⟩) (show xs.length - (k + 1 : Nat) < xs.length - k from (by omega)) (Sub.cons rfl (Sub.cons rfl (Sub.cons rfl (Sub.cons rfl (Sub.cons (lookI rfl (by omega)) Sub.nil))))) (show Fit κ _ (I) from Fit.sub)
    ·refine G.po ?_
     refine G.po ?_
     refine G.po ?_
     refine G.po ?_
     refine G.po ?_
     refine G.po ?_
     refine G.po ?_
     refine G.ro (Runs.pickf rfl rfl) ?_
     refine G.r (Runs.pickf rfl rfl) ?_
     refine G.nt ?_
     refine W.sub (L' := [(33, _), (0, _), (1, _), (7, _), (8, _), (9, _)]) (Sub.cons rfl (Sub.cons rfl (Sub.cons rfl (Sub.cons rfl (Sub.cons rfl (Sub.cons rfl Sub.nil)))))) ?_
     refine W.no rfl ?_
     refine W.skip ?_
     refine V.block_normal ?_
     refine V.then ?_
     refine W.region ?_
     refine G.r (Runs.add rfl rfl (by unfold InR; omega)) ?_
     refine G.r (Runs.move rfl) ?_
     refine G.nil ?_
     exact V.next ((k + 1)) (show ((k + 1 : Nat) ≤ xs.length) ∧ (∀ j, j < (k + 1 : Nat) → (0 ≤ at_ xs (j : Int) ∧ at_ xs (j : Int) < nodes) ∧ (0 < j → at_ xs ((j : Int) - 1) < at_ xs (j : Int))) from ⟨(by omega), (all_succ hn ⟨by omega, fun _ => by omega⟩)⟩) (show xs.length - (k + 1 : Nat) < xs.length - k from (by omega)) (Sub.cons rfl (Sub.cons rfl (Sub.cons rfl (Sub.cons rfl (Sub.cons (lookI rfl (by omega)) Sub.nil))))) (show Fit κ _ (I) from Fit.sub)
 ·refine W.exit ?_
  refine V.then_exit ?_
  refine V.then_exit ?_
  refine V.block_hit ?_
  refine V.then ?_
  refine W.sr ?_
  refine G.r (Runs.assign rfl) ?_
  refine G.nt ?_
  refine W.ret ?_
  have hm : ValidP xs nodes := fun j hj => hn j (by omega)
  exact V.ret1 rfl rfl (_) Fit.m ⟨by rw [decide_eq_true hm], rfl⟩

end Go.Sl
namespace Go.Sl
open Go.Proofs
set_option linter.unusedVariables false
set_option linter.unusedSimpArgs false
set_option maxRecDepth 4000
/-- The document's comparison of two lists. -/
def cmpL : List Int → List Int → Int
  | [], [] => 0
  | [], _ :: _ => -1
  | _ :: _, [] => 1
  | x :: xs, y :: ys => if y < x then 1 else if x < y then -1 else cmpL xs ys
theorem cmpL_self : ∀ xs, cmpL xs xs = 0
  | [] => rfl
  | x :: xs => by simp only [cmpL]; rw [if_neg (by omega), if_neg (by omega)]; exact cmpL_self xs
theorem cmpL_eq : ∀ xs ys, cmpL xs ys = 0 ↔ xs = ys
  | [], [] => by simp [cmpL]
  | [], _ :: _ => by simp [cmpL]
  | _ :: _, [] => by simp [cmpL]
  | x :: xs, y :: ys => by
    simp only [cmpL]
    split
    · simp; omega
    · split
      · simp; omega
      · rw [cmpL_eq xs ys]
        have : x = y := by omega
        simp [this]
theorem cmpL_drop (xs ys : List Int) (k : Nat) (hx : k < xs.length) (hy : k < ys.length) (h1 : ¬ at_ ys (k : Int) < at_ xs (k : Int)) (h2 : ¬ at_ xs (k : Int) < at_ ys (k : Int)) : cmpL (xs.drop k) (ys.drop k) = cmpL (xs.drop (k + 1)) (ys.drop (k + 1)) := by
  rw [drop_at xs k hx, drop_at ys k hy]
  simp only [cmpL]
  rw [if_neg h1, if_neg h2]
theorem cmpL_drop1 (xs ys : List Int) (k : Nat) (hx : k < xs.length) (h : ys.length ≤ k ∨ (k < ys.length ∧ at_ ys (k : Int) < at_ xs (k : Int))) : cmpL (xs.drop k) (ys.drop k) = 1 := by
  rw [drop_at xs k hx]
  rcases h with h | ⟨hy, h⟩
  · rw [List.drop_eq_nil_of_le h]; rfl
  · rw [drop_at ys k hy]; simp only [cmpL]; rw [if_pos h]
theorem cmpL_dropn (xs ys : List Int) (k : Nat) (hx : k < xs.length) (hy : k < ys.length) (h1 : ¬ at_ ys (k : Int) < at_ xs (k : Int)) (h : at_ xs (k : Int) < at_ ys (k : Int)) : cmpL (xs.drop k) (ys.drop k) = -1 := by
  rw [drop_at xs k hx, drop_at ys k hy]; simp only [cmpL]; rw [if_neg h1, if_pos h]
theorem cmpL_end (xs ys : List Int) (k : Nat) (hx : xs.length ≤ k) : cmpL (xs.drop k) (ys.drop k) = if k < ys.length then -1 else 0 := by
  rw [List.drop_eq_nil_of_le hx]
  split
  · rename_i h; rw [drop_at ys k h]; rfl
  · rename_i h; rw [List.drop_eq_nil_of_le (by omega)]; rfl

theorem Cmp_ok {κ : Ctx} {I : List Item} {u v : Value} {xs ys : List Int} (hu : Sl κ I u xs) (hv : Sl κ I v ys) :
    CallS Try.prog κ 106 [u, v] I (fun r J => r = I64 (cmpL xs ys) ∧ I = J) := by
 refine CallS.pull hu.le fun hmax => ?_
 refine CallS.pull hv.le fun hmax2 => ?_
 refine CallS.enter (L := [(0, u), (1, v)]) Try.func106 rfl rfl rfl rfl ?_
 refine W.sr ?_
 refine G.r (Runs.assign rfl) ?_
 refine G.nt ?_
 refine W.seq ?_
 refine W.sr ?_
 refine G.r (Runs.move rfl) ?_
 refine G.r (Runs.lenT (α := Int) (xs := xs) Try.underlying22 rfl (Sl.f hu)) ?_
 refine G.r (Runs.move rfl) ?_
 refine G.nt ?_
 refine W.block ?_
 refine W.loop (σ := Nat) (fun s => ([(0, u), (1, v), (7, I64 (((xs.length : Nat) : Int))), (8, I64 (((s : Nat) : Int)))] : Env)) (fun s => I) (fun s => (s ≤ xs.length) ∧ (cmpL xs ys = cmpL (xs.drop s) (ys.drop s))) (fun s => xs.length - s) (0) (show ((0 : Nat) ≤ xs.length) ∧ (cmpL xs ys = cmpL (xs.drop (0 : Nat)) (ys.drop (0 : Nat))) from ⟨(by omega), rfl⟩) (Sub.cons rfl (Sub.cons rfl (Sub.cons rfl (Sub.cons (lookI rfl (by omega)) Sub.nil)))) (show Fit κ _ (I) from Fit.sub) ?_
 rintro k hp
 obtain ⟨hk, hc⟩ : (k ≤ xs.length) ∧ (cmpL xs ys = cmpL (xs.drop k) (ys.drop k)) := hp
 show W Try.prog κ 43 _ _ ([(0, u), (1, v), (7, I64 (((xs.length : Nat) : Int))), (8, I64 (((k : Nat) : Int)))] : Env) (I)
 refine W.sr ?_
 refine G.r (Runs.lss rfl rfl) ?_
 refine G.nt ?_
 refine W.seq ?_
 refine W.ite rfl (fun c9 => ?_) (fun c9 => ?_)
 ·refine W.skip ?_
  refine V.then ?_
  refine W.seq ?_
  refine W.block ?_
  refine W.sr ?_
  refine G.r (Runs.move rfl) ?_
  refine G.r (Runs.assign rfl) ?_
  refine G.nt ?_
  refine W.block ?_
  refine W.seq ?_
  refine W.drawn mixed ?_
  refine A.hold (I) 16 ?_
  refine D.r 0 rfl (Runs.move rfl) ?_
  refine D.r 1 rfl (Runs.move rfl) ?_
  refine D.r 2 rfl (Runs.lenT (α := Int) (xs := ys) Try.underlying22 rfl (Sl.f hv)) ?_
  refine D.r 3 rfl (Runs.geq rfl rfl) ?_
  refine D.r 4 rfl (Runs.move rfl) ?_
  refine D.split (d := 16) rfl (fun g16 => ?_) (fun g16 => ?_)
  ·refine D.po 5 rfl ?_
   refine D.po 6 rfl ?_
   refine D.po 7 rfl ?_
   refine D.po 8 rfl ?_
   refine D.po 9 rfl ?_
   refine D.po 10 rfl ?_
   refine D.po 11 rfl ?_
   refine D.po 12 rfl ?_
   refine D.po 13 rfl ?_
   refine D.r 14 rfl (Runs.pickt rfl rfl) ?_
   refine D.r 15 rfl (Runs.assign rfl) ?_
   refine D.done (by kernel_rfl) ?_
   refine V.then ?_
   refine W.sub (L' := [(11, _), (5, _), (0, _), (1, _), (7, _), (8, _)]) (Sub.cons rfl (Sub.cons rfl (Sub.cons rfl (Sub.cons rfl (Sub.cons rfl (Sub.cons rfl Sub.nil)))))) ?_
   refine W.yes rfl ?_
   refine W.sr ?_
   refine G.r (Runs.assign rfl) ?_
   refine G.nt ?_
   refine W.ret ?_
   refine V.block_ret ?_
   refine V.block_ret ?_
   refine V.then_ret ?_
   refine V.then_ret ?_
   refine V.block_ret ?_
   refine V.then_ret ?_
   exact V.ret1 rfl rfl (_) Fit.m ⟨by rw [hc, cmpL_drop1 xs ys k (by omega) (.inl (by omega))], rfl⟩
  ·refine D.ro 5 rfl (Runs.move rfl) ?_
   refine D.ro 6 rfl (Runs.move rfl) ?_
   refine D.ro 7 rfl (Runs.idx (α := Int) (xs := xs) Try.underlying22 ty3 rfl rfl (Sl.f hu) (by omega) (by omega)) ?_
   refine D.ro 8 rfl (Runs.get (xs := xs) ty3 rfl (Sl.f hu) (by omega) (by omega)) ?_
   refine D.ro 9 rfl (Runs.move rfl) ?_
   refine D.ro 10 rfl (Runs.move rfl) ?_
   refine D.ro 11 rfl (Runs.idx (α := Int) (xs := ys) Try.underlying22 ty3 rfl rfl (Sl.f hv) (by omega) (by omega)) ?_
   refine D.ro 12 rfl (Runs.get (xs := ys) ty3 rfl (Sl.f hv) (by omega) (by omega)) ?_
   refine D.ro 13 rfl (Runs.gtr rfl rfl) ?_
   refine D.r 14 rfl (Runs.pickf rfl rfl) ?_
   refine D.r 15 rfl (Runs.assign rfl) ?_
   refine D.done (by kernel_rfl) ?_
   refine V.then ?_
   refine W.sub (L' := [(11, _), (5, _), (0, _), (1, _), (7, _), (8, _)]) (Sub.cons rfl (Sub.cons rfl (Sub.cons rfl (Sub.cons rfl (Sub.cons rfl (Sub.cons rfl Sub.nil)))))) ?_
   refine W.ite rfl (fun c11 => ?_) (fun c11 => ?_)
   ·refine W.sr ?_
    refine G.r (Runs.assign rfl) ?_
    refine G.nt ?_
    refine W.ret ?_
    refine V.block_ret ?_
    refine V.block_ret ?_
    refine V.then_ret ?_
    refine V.then_ret ?_
    refine V.block_ret ?_
    refine V.then_ret ?_
    exact V.ret1 rfl rfl (_) Fit.m ⟨by rw [hc, cmpL_drop1 xs ys k (by omega) (.inr ⟨by omega, by omega⟩)], rfl⟩
   ·refine W.seq ?_
    refine W.drawn mixed ?_
    refine A.hold (I) 10 ?_
    refine D.r 0 rfl (Runs.move rfl) ?_
    refine D.r 1 rfl (Runs.move rfl) ?_
    refine D.r 2 rfl (Runs.idx (α := Int) (xs := xs) Try.underlying22 ty3 rfl rfl (Sl.f hu) (by omega) (by omega)) ?_
    refine D.r 3 rfl (Runs.get (xs := xs) ty3 rfl (Sl.f hu) (by omega) (by omega)) ?_
    refine D.r 4 rfl (Runs.move rfl) ?_
    refine D.r 5 rfl (Runs.move rfl) ?_
    refine D.r 6 rfl (Runs.idx (α := Int) (xs := ys) Try.underlying22 ty3 rfl rfl (Sl.f hv) (by omega) (by omega)) ?_
    refine D.r 7 rfl (Runs.get (xs := ys) ty3 rfl (Sl.f hv) (by omega) (by omega)) ?_
    refine D.r 8 rfl (Runs.lss rfl rfl) ?_
    refine D.r 9 rfl (Runs.assign rfl) ?_
    refine D.done (by kernel_rfl) ?_
    refine V.then ?_
    refine W.sub (L' := [(27, _), (0, _), (1, _), (7, _), (8, _)]) (Sub.cons rfl (Sub.cons rfl (Sub.cons rfl (Sub.cons rfl (Sub.cons rfl Sub.nil))))) ?_
    refine W.ite rfl (fun c27 => ?_) (fun c27 => ?_)
    ·refine W.sr ?_
     refine G.r (Runs.assign rfl) ?_
     refine G.nt ?_
     refine W.ret ?_
     refine V.block_ret ?_
     refine V.block_ret ?_
     refine V.then_ret ?_
     refine V.then_ret ?_
     refine V.block_ret ?_
     refine V.then_ret ?_
     exact V.ret1 rfl rfl (_) Fit.m ⟨by rw [hc, cmpL_dropn xs ys k (by omega) (by omega) (by omega) (by omega)], rfl⟩
    ·refine W.skip ?_
     refine V.block_normal ?_
     refine V.block_normal ?_
     refine V.then ?_
     refine W.region ?_
     refine G.r (Runs.add rfl rfl (by unfold InR; omega)) ?_
     refine G.r (Runs.move rfl) ?_
     refine G.nil ?_
     exact V.next ((k + 1)) (show ((k + 1 : Nat) ≤ xs.length) ∧ (cmpL xs ys = cmpL (xs.drop (k + 1 : Nat)) (ys.drop (k + 1 : Nat))) from ⟨(by omega), (hc.trans (cmpL_drop xs ys k (by omega) (by omega) (by omega) (by omega)))⟩) (show xs.length - (k + 1 : Nat) < xs.length - k from (by omega)) (Sub.cons rfl (Sub.cons rfl (Sub.cons rfl (Sub.cons (lookI rfl (by omega)) Sub.nil)))) (show Fit κ _ (I) from Fit.sub)
 ·refine W.exit ?_
  refine V.then_exit ?_
  refine V.then_exit ?_
  refine V.block_hit ?_
  refine V.then ?_
  refine W.seq ?_
  refine W.sr ?_
  refine G.r (Runs.move rfl) ?_
  refine G.r (Runs.lenT (α := Int) (xs := xs) Try.underlying22 rfl (Sl.f hu)) ?_
  refine G.r (Runs.move rfl) ?_
  refine G.r (Runs.lenT (α := Int) (xs := ys) Try.underlying22 rfl (Sl.f hv)) ?_
  refine G.r (Runs.lss rfl rfl) ?_
  refine G.nt ?_
  refine W.ite rfl (fun c42 => ?_) (fun c42 => ?_)
  ·refine W.sr ?_
   refine G.r (Runs.assign rfl) ?_
   refine G.nt ?_
   refine W.ret ?_
   refine V.then_ret ?_
   exact V.ret1 rfl rfl (_) Fit.m ⟨by rw [hc, cmpL_end xs ys k (by omega), if_pos (by omega)], rfl⟩
  ·refine W.skip ?_
   refine V.then ?_
   refine W.sr ?_
   refine G.r (Runs.assign rfl) ?_
   refine G.nt ?_
   refine W.ret ?_
   exact V.ret1 rfl rfl (_) Fit.m ⟨by rw [hc, cmpL_end xs ys k (by omega), if_neg (by omega)], rfl⟩

theorem Same_ok {κ : Ctx} {I : List Item} {u v : Value} {xs ys : List Int} (hu : Sl κ I u xs) (hv : Sl κ I v ys) :
    CallS Try.prog κ 36 [u, v] I (fun r J => r = .bool (decide (xs = ys)) ∧ I = J) := by
 refine CallS.enter (L := [(0, u), (1, v)]) Try.func36 rfl rfl rfl rfl ?_
 refine W.sr ?_
 refine G.r (Runs.assign rfl) ?_
 refine G.nt ?_
 refine W.sr ?_
 refine G.r (Runs.move rfl) ?_
 refine G.r (Runs.lenT (α := Int) (xs := xs) Try.underlying22 rfl (Sl.f hu)) ?_
 refine G.r (Runs.move rfl) ?_
 refine G.r (Runs.lenT (α := Int) (xs := ys) Try.underlying22 rfl (Sl.f hv)) ?_
 refine G.r (Runs.eql rfl rfl) ?_
 refine G.r (Runs.move rfl) ?_
 refine G.split (d := 10) rfl (fun g10 => ?_) (fun g10 => ?_)
 ·refine G.ro (Runs.move rfl) ?_
  refine G.ro (Runs.move rfl) ?_
  refine G.eff (Wanted.on rfl rfl rfl) (Eff.call call106 rfl rfl (Cmp_ok (Sl.f hu) (Sl.f hv))) ?_
  rintro _ _ ⟨_, _, ⟨rfl, rfl⟩, rfl, rfl⟩
  refine G.ro (Runs.eql rfl rfl) ?_
  refine G.r (Runs.pickt rfl rfl) ?_
  refine G.r (Runs.assign rfl) ?_
  refine G.nt ?_
  refine W.sub (L' := [(4, _)]) (Sub.cons rfl Sub.nil) ?_
  refine W.ret ?_
  have hb : decide (cmpL xs ys = 0) = decide (xs = ys) := by rw [decide_eq_decide]; exact cmpL_eq xs ys
  exact V.ret1 rfl rfl (_) Fit.m ⟨by rw [hb], rfl⟩
 ·refine G.po ?_
  refine G.po ?_
  refine G.po ?_
  refine G.po ?_
  refine G.r (Runs.pickf rfl rfl) ?_
  refine G.r (Runs.assign rfl) ?_
  refine G.nt ?_
  refine W.sub (L' := [(4, _)]) (Sub.cons rfl Sub.nil) ?_
  refine W.ret ?_
  have hb : ¬ xs = ys := fun e => by subst e; exact absurd rfl g10
  exact V.ret1 rfl rfl (_) Fit.m ⟨by rw [decide_eq_false hb], rfl⟩

end Go.Sl
namespace Go.Sl
open Go.Proofs
set_option linter.unusedVariables false
set_option linter.unusedSimpArgs false
set_option maxRecDepth 4000
/-- A number put into a list before the first one that is not less. -/
def putL : List Int → Int → List Int
  | [], x => [x]
  | y :: ys, x => if y < x then y :: putL ys x else if y = x then y :: ys else x :: y :: ys
def ofL (l : List Int) : List Int := l.foldl putL []
theorem putL_at : ∀ (xs : List Int) (i : Nat) (x : Int), i ≤ xs.length → (∀ j, j < i → at_ xs (j : Int) < x) →
    (i < xs.length → at_ xs (i : Int) = x → putL xs x = xs) ∧ ((i = xs.length ∨ (i < xs.length ∧ x < at_ xs (i : Int))) → putL xs x = (xs.take i ++ [x]) ++ xs.drop i)
  | [], i, x, hi, h => by
    obtain rfl : i = 0 := by simpa using hi
    exact ⟨fun h => by simp at h, fun _ => rfl⟩
  | y :: ys, 0, x, hi, h => by
    refine ⟨fun _ e => ?_, fun e => ?_⟩
    · have e' : y = x := e
      simp only [putL]; rw [if_neg (by omega), if_pos e']
    · rcases e with e | ⟨_, e⟩
      · simp at e
      · have e' : x < y := e
        simp only [putL]; rw [if_neg (by omega), if_neg (by omega)]; rfl
  | y :: ys, i + 1, x, hi, h => by
    have h0 : y < x := h 0 (by omega)
    have ha : ∀ j : Nat, at_ (y :: ys) ((j + 1 : Nat) : Int) = at_ ys (j : Int) := fun j => by rw [at_nat, at_nat]; simp
    obtain ⟨h1, h2⟩ := putL_at ys i x (by simpa using hi) fun j hj => by have := h (j + 1) (by omega); rwa [ha] at this
    refine ⟨fun hl e => ?_, fun e => ?_⟩
    · simp only [putL]; rw [if_pos h0, h1 (by simpa using hl) (by rwa [ha] at e)]
    · simp only [putL]; rw [if_pos h0, h2 (by rw [ha] at e; simpa using e)]; rfl
theorem ofL_take (xs : List Int) (k : Nat) (h : k < xs.length) : ofL (xs.take (k + 1)) = putL (ofL (xs.take k)) (at_ xs (k : Int)) := by
  rw [take_at xs k h]; simp [ofL]
theorem mem_putL (x y : Int) : ∀ l, y ∈ putL l x ↔ y = x ∨ y ∈ l
  | [] => by simp [putL]
  | z :: zs => by
    simp only [putL]
    split
    · simp only [List.mem_cons, mem_putL x y zs]
      constructor
      · rintro (h | h | h) <;> simp [h]
      · rintro (h | h | h) <;> simp [h]
    · split
      · rename_i e; subst e; simp
      · simp
theorem mem_foldl_putL (y : Int) : ∀ (l acc : List Int), y ∈ l.foldl putL acc ↔ y ∈ l ∨ y ∈ acc
  | [], acc => by simp
  | x :: l, acc => by
    rw [List.foldl_cons, mem_foldl_putL y l, mem_putL]
    simp only [List.mem_cons]
    constructor
    · rintro (h | h | h) <;> simp [h]
    · rintro ((h | h) | h) <;> simp [h]
theorem mem_ofL (l : List Int) (y : Int) : y ∈ ofL l ↔ y ∈ l := by simp [ofL, mem_foldl_putL]
theorem putL_len (x : Int) : ∀ l, (putL l x).length ≤ l.length + 1
  | [] => by simp [putL]
  | y :: ys => by
    simp only [putL]
    split
    · have := putL_len x ys; simp; omega
    · split <;> simp
theorem ofL_len (l : List Int) : (ofL l).length ≤ l.length := by
  have h : ∀ (l acc : List Int), (l.foldl putL acc).length ≤ l.length + acc.length := fun l => by
    induction l with
    | nil => intro acc; simp
    | cons x l ih => intro acc; have := ih (putL acc x); have := putL_len x acc; simp; omega
  have := h l []
  simpa [ofL] using this
theorem byte_le {n m : Nat} (h : n ≤ m) (hm : m ≤ 17592186044415) : n * 8 ≤ 140737488355328 := by omega

theorem Put_ok {κ : Ctx} {I : List Item} {a : Option Addr} {c : Nat} {xs : List Int} (hb : xs.length < 17592186044415) (x : Int) :
    CallS Try.prog κ 167 [.slice a xs.length c, I64 (x)] (vc 3 (.slice a xs.length c) (xs) :: I) (fun r J => ∃ a' c', r = .slice a' (putL xs x).length c' ∧ J = vc 3 (.slice a' (putL xs x).length c') (putL xs x) :: I) := by
 refine CallS.pull (fun w hs => (Sl.vec (κ := κ) (List.mem_cons_self)).le w hs) fun hmax => ?_
 refine CallS.enter (L := [(0, .slice a xs.length c), (1, I64 (x))]) Try.func167 rfl rfl rfl rfl ?_
 refine W.sr ?_
 refine G.r (Runs.assign rfl) ?_
 refine G.nt ?_
 refine W.sr ?_
 refine G.r (Runs.assign rfl) ?_
 refine G.nt ?_
 refine W.cut (σ := Nat) (fun s => ([(0, .slice a xs.length c), (1, I64 (x)), (5, I64 (((s : Nat) : Int)))] : Env)) (fun s => vc 3 (.slice a xs.length c) (xs) :: I) (fun s => (s ≤ xs.length) ∧ (∀ j, j < s → at_ xs (j : Int) < x) ∧ (s = xs.length ∨ (s < xs.length ∧ ¬ at_ xs (s : Int) < x))) ?_ ?_
 ·refine W.block ?_
  refine W.loop (σ := Nat) (fun s => ([(0, .slice a xs.length c), (1, I64 (x)), (5, I64 (((s : Nat) : Int)))] : Env)) (fun s => vc 3 (.slice a xs.length c) (xs) :: I) (fun s => (s ≤ xs.length) ∧ (∀ j, j < s → at_ xs (j : Int) < x)) (fun s => xs.length - s) (0) (show ((0 : Nat) ≤ xs.length) ∧ (∀ j, j < (0 : Nat) → at_ xs (j : Int) < x) from ⟨(by omega), all_zero⟩) (Sub.cons rfl (Sub.cons rfl (Sub.cons (lookI rfl (by omega)) Sub.nil))) (show Fit κ _ (vc 3 (.slice a xs.length c) (xs) :: I) from Fit.sub) ?_
  rintro i hp
  obtain ⟨hi, hlt⟩ : (i ≤ xs.length) ∧ (∀ j, j < i → at_ xs (j : Int) < x) := hp
  show W Try.prog κ 46 _ _ ([(0, .slice a xs.length c), (1, I64 (x)), (5, I64 (((i : Nat) : Int)))] : Env) (vc 3 (.slice a xs.length c) (xs) :: I)
  refine W.seq ?_
  refine W.sr ?_
  refine G.r (Runs.move rfl) ?_
  refine G.r (Runs.move rfl) ?_
  refine G.r (Runs.lens Try.underlying22 rfl) ?_
  refine G.r (Runs.lss rfl rfl) ?_
  refine G.r (Runs.move rfl) ?_
  refine G.split (d := 11) rfl (fun g11 => ?_) (fun g11 => ?_)
  ·refine G.ro (Runs.move rfl) ?_
   refine G.ro (Runs.move rfl) ?_
   refine G.ro (Runs.idx (α := Int) (xs := xs) Try.underlying22 ty3 rfl rfl Sl.o (by omega) (by omega)) ?_
   refine G.ro (Runs.get (xs := xs) ty3 rfl Sl.o (by omega) (by omega)) ?_
   refine G.ro (Runs.move rfl) ?_
   refine G.ro (Runs.lss rfl rfl) ?_
   refine G.r (Runs.pickt rfl rfl) ?_
   refine G.nt ?_
   refine W.sub (L' := [(18, _), (0, _), (1, _), (5, _)]) (Sub.cons rfl (Sub.cons rfl (Sub.cons rfl (Sub.cons rfl Sub.nil)))) ?_
   refine W.ite rfl (fun c18 => ?_) (fun c18 => ?_)
   ·refine W.skip ?_
    refine V.then ?_
    refine W.block ?_
    refine W.region ?_
    refine G.r (Runs.move rfl) ?_
    refine G.r (Runs.add rfl rfl (by unfold InR; omega)) ?_
    refine G.r (Runs.assign rfl) ?_
    refine G.nil ?_
    refine V.block_normal ?_
    exact V.next ((i + 1)) (show ((i + 1 : Nat) ≤ xs.length) ∧ (∀ j, j < (i + 1 : Nat) → at_ xs (j : Int) < x) from ⟨(by omega), (all_succ hlt (by omega))⟩) (show xs.length - (i + 1 : Nat) < xs.length - i from (by omega)) (Sub.cons rfl (Sub.cons rfl (Sub.cons (lookI rfl (by omega)) Sub.nil))) (show Fit κ _ (vc 3 (.slice a xs.length c) (xs) :: I) from Fit.sub)
   ·refine W.exit ?_
    refine V.then_exit ?_
    refine V.then_exit ?_
    refine V.block_hit ?_
    exact V.mid ((i)) (show ((i : Nat) ≤ xs.length) ∧ (∀ j, j < (i : Nat) → at_ xs (j : Int) < x) ∧ ((i : Nat) = xs.length ∨ ((i : Nat) < xs.length ∧ ¬ at_ xs ((i : Nat) : Int) < x)) from ⟨(by omega), hlt, (by omega)⟩) (Sub.cons rfl (Sub.cons rfl (Sub.cons (lookI rfl (by omega)) Sub.nil))) (show Fit κ _ (vc 3 (.slice a xs.length c) (xs) :: I) from Fit.sub)
  ·refine G.po ?_
   refine G.po ?_
   refine G.po ?_
   refine G.po ?_
   refine G.po ?_
   refine G.po ?_
   refine G.r (Runs.pickf rfl rfl) ?_
   refine G.nt ?_
   refine W.sub (L' := [(18, _), (0, _), (1, _), (5, _)]) (Sub.cons rfl (Sub.cons rfl (Sub.cons rfl (Sub.cons rfl Sub.nil)))) ?_
   refine W.no rfl ?_
   refine W.exit ?_
   refine V.then_exit ?_
   refine V.then_exit ?_
   refine V.block_hit ?_
   exact V.mid ((i)) (show ((i : Nat) ≤ xs.length) ∧ (∀ j, j < (i : Nat) → at_ xs (j : Int) < x) ∧ ((i : Nat) = xs.length ∨ ((i : Nat) < xs.length ∧ ¬ at_ xs ((i : Nat) : Int) < x)) from ⟨(by omega), hlt, (by omega)⟩) (Sub.cons rfl (Sub.cons rfl (Sub.cons (lookI rfl (by omega)) Sub.nil))) (show Fit κ _ (vc 3 (.slice a xs.length c) (xs) :: I) from Fit.sub)
 ·rintro i hp
  obtain ⟨hi, hlt, hst⟩ : (i ≤ xs.length) ∧ (∀ j, j < i → at_ xs (j : Int) < x) ∧ (i = xs.length ∨ (i < xs.length ∧ ¬ at_ xs (i : Int) < x)) := hp
  show W Try.prog κ 46 _ _ ([(0, .slice a xs.length c), (1, I64 (x)), (5, I64 (((i : Nat) : Int)))] : Env) (vc 3 (.slice a xs.length c) (xs) :: I)
  refine W.seq ?_
  refine W.sr ?_
  refine G.r (Runs.move rfl) ?_
  refine G.r (Runs.move rfl) ?_
  refine G.r (Runs.lens Try.underlying22 rfl) ?_
  refine G.r (Runs.lss rfl rfl) ?_
  refine G.r (Runs.move rfl) ?_
  refine G.split (d := 25) rfl (fun g25 => ?_) (fun g25 => ?_)
  ·refine G.ro (Runs.move rfl) ?_
   refine G.ro (Runs.move rfl) ?_
   refine G.ro (Runs.idx (α := Int) (xs := xs) Try.underlying22 ty3 rfl rfl Sl.o (by omega) (by omega)) ?_
   refine G.ro (Runs.get (xs := xs) ty3 rfl Sl.o (by omega) (by omega)) ?_
   refine G.ro (Runs.move rfl) ?_
   refine G.ro (Runs.eql rfl rfl) ?_
   refine G.r (Runs.pickt rfl rfl) ?_
   refine G.nt ?_
   refine W.sub (L' := [(32, _), (0, _), (1, _), (5, _)]) (Sub.cons rfl (Sub.cons rfl (Sub.cons rfl (Sub.cons rfl Sub.nil)))) ?_
   refine W.ite rfl (fun c32 => ?_) (fun c32 => ?_)
   ·refine W.sr ?_
    refine G.r (Runs.move rfl) ?_
    refine G.r (Runs.assign rfl) ?_
    refine G.nt ?_
    refine W.ret ?_
    refine V.then_ret ?_
    have hp := (putL_at xs i x hi hlt).1 (by omega) (by omega)
    exact V.ret1 rfl rfl (_) Fit.m ⟨a, c, by rw [hp], by rw [hp]⟩
   ·refine W.skip ?_
    refine V.then ?_
    refine W.sr ?_
    refine G.r (Runs.move rfl) ?_
    refine G.r (Runs.move rfl) ?_
    refine G.r (Runs.hi (α := Int) (xs := xs) (h := i) Try.underlying22 ty3 rfl rfl (by omega) Sl.o (by omega)) ?_
    refine G.e (Eff.clone (α := Int) (ys := List.take i xs) Try.underlying22 ty3 rfl rfl rfl (Sl.take Sl.o (by omega)) (by simp only [List.length_append, List.length_cons, List.length_nil, List.length_take, List.length_drop]; omega) (by decide) rfl) ?_
    rintro _ _ ⟨ad1, cp2, rfl, rfl⟩
    refine G.r (Runs.assign rfl) ?_
    refine G.nt ?_
    refine W.seq ?_
    refine W.drawn mixed ?_
    refine A.hold (vc 3 (.slice a xs.length c) (xs) :: I) 9 ?_
    refine D.read 0 rfl (by kernel_rfl) (by kernel_rfl) (by kernel_rfl) rfl (by kernel_rfl) (fun _ _ _ _ h => h) (Wanted.plain rfl) rfl rfl Fit.sub (Runs.move rfl) ?_
    refine D.read 1 rfl (by kernel_rfl) (by kernel_rfl) (by kernel_rfl) rfl (by kernel_rfl) (fun _ _ _ _ h => h) (Wanted.plain rfl) rfl rfl Fit.sub (Runs.move rfl) ?_
    refine D.read 4 rfl (by kernel_rfl) (by kernel_rfl) (by kernel_rfl) rfl (by kernel_rfl) (fun _ _ _ _ h => h) (Wanted.plain rfl) rfl rfl Fit.sub (Runs.move rfl) ?_
    refine D.read 5 rfl (by kernel_rfl) (by kernel_rfl) (by kernel_rfl) rfl (by kernel_rfl) (fun _ _ _ _ h => h) (Wanted.plain rfl) rfl rfl Fit.sub (Runs.move rfl) ?_
    refine D.read 6 rfl (by kernel_rfl) (by kernel_rfl) (by kernel_rfl) rfl (by kernel_rfl) (fun _ _ _ _ h => h) (Wanted.plain rfl) rfl rfl Fit.sub (Runs.lo (α := Int) (xs := xs) (l := i) Try.underlying22 ty3 rfl rfl (by omega) Sl.o (by omega)) ?_
    refine D.step (rs := [2]) (by kernel_rfl) rfl rfl (all1 ?_)
    refine Step.eff rfl (Wanted.plain rfl) (Eff.bs (α := Int) (cs := [_]) (xs := [x]) Try.underlying22 ty3 rfl rfl (by decide) (by decide) rfl rfl rfl rfl) ?_
    rintro _ _ ⟨ad3, rfl, rfl⟩
    refine ⟨Fit.sub, ?_⟩
    refine D.step (rs := [3]) (by kernel_rfl) rfl rfl (all1 ?_)
    refine Step.eff rfl (Wanted.plain rfl) (Eff.app (α := Int) (e := 3) (xs := List.take i xs) (ys := ([x] : List Int)) Try.underlying22 ty3 rfl rfl rfl (by repeat (first | exact List.mem_cons_self | apply List.mem_cons_of_mem)) Sl.o (by simp only [List.length_append, List.length_cons, List.length_nil, List.length_take, List.length_drop]; omega) (by decide) rfl (fun _ _ => (by repeat (first | exact At.head _ _ _ | apply At.tail)))) ?_
    rintro _ _ ⟨ad4, cp5, rfl, rfl⟩
    refine ⟨Fit.sub, ?_⟩
    refine D.step (rs := [7]) (by kernel_rfl) rfl rfl (all1 ?_)
    refine Step.eff rfl (Wanted.plain rfl) (Eff.app (α := Int) (e := 3) (xs := (List.take i xs) ++ ([x] : List Int)) (ys := List.drop i xs) Try.underlying22 ty3 rfl rfl rfl (by repeat (first | exact List.mem_cons_self | apply List.mem_cons_of_mem)) (Sl.drop Sl.o (by omega)) (by simp only [List.length_append, List.length_cons, List.length_nil, List.length_take, List.length_drop]; omega) (by decide) rfl (fun _ _ => (by repeat (first | exact At.head _ _ _ | apply At.tail)))) ?_
    rintro _ _ ⟨ad6, cp7, rfl, rfl⟩
    refine ⟨Fit.sub, ?_⟩
    refine D.read 8 rfl (by kernel_rfl) (by kernel_rfl) (by kernel_rfl) rfl (by kernel_rfl) (fun _ _ _ _ h => h) (Wanted.plain rfl) rfl rfl Fit.sub (Runs.assign rfl) ?_
    refine D.done (by kernel_rfl) ?_
    refine V.then ?_
    refine W.sub (L' := [(4, _)]) (Sub.cons rfl Sub.nil) ?_
    refine W.ret ?_
    have hp := (putL_at xs i x hi hlt).2 (by omega)
    exact V.ret1 rfl rfl (vc 3 (.slice ad6 (putL xs x).length cp7) (putL xs x) :: I) (by rw [hp]; exact Fit.sub) ⟨ad6, cp7, by rw [hp], rfl⟩
  ·refine G.po ?_
   refine G.po ?_
   refine G.po ?_
   refine G.po ?_
   refine G.po ?_
   refine G.po ?_
   refine G.r (Runs.pickf rfl rfl) ?_
   refine G.nt ?_
   refine W.sub (L' := [(32, _), (0, _), (1, _), (5, _)]) (Sub.cons rfl (Sub.cons rfl (Sub.cons rfl (Sub.cons rfl Sub.nil)))) ?_
   refine W.no rfl ?_
   refine W.skip ?_
   refine V.then ?_
   refine W.sr ?_
   refine G.r (Runs.move rfl) ?_
   refine G.r (Runs.move rfl) ?_
   refine G.r (Runs.hi (α := Int) (xs := xs) (h := i) Try.underlying22 ty3 rfl rfl (by omega) Sl.o (by omega)) ?_
   refine G.e (Eff.clone (α := Int) (ys := List.take i xs) Try.underlying22 ty3 rfl rfl rfl (Sl.take Sl.o (by omega)) (by simp only [List.length_append, List.length_cons, List.length_nil, List.length_take, List.length_drop]; omega) (by decide) rfl) ?_
   rintro _ _ ⟨ad8, cp9, rfl, rfl⟩
   refine G.r (Runs.assign rfl) ?_
   refine G.nt ?_
   refine W.seq ?_
   refine W.drawn mixed ?_
   refine A.hold (vc 3 (.slice a xs.length c) (xs) :: I) 9 ?_
   refine D.read 0 rfl (by kernel_rfl) (by kernel_rfl) (by kernel_rfl) rfl (by kernel_rfl) (fun _ _ _ _ h => h) (Wanted.plain rfl) rfl rfl Fit.sub (Runs.move rfl) ?_
   refine D.read 1 rfl (by kernel_rfl) (by kernel_rfl) (by kernel_rfl) rfl (by kernel_rfl) (fun _ _ _ _ h => h) (Wanted.plain rfl) rfl rfl Fit.sub (Runs.move rfl) ?_
   refine D.read 4 rfl (by kernel_rfl) (by kernel_rfl) (by kernel_rfl) rfl (by kernel_rfl) (fun _ _ _ _ h => h) (Wanted.plain rfl) rfl rfl Fit.sub (Runs.move rfl) ?_
   refine D.read 5 rfl (by kernel_rfl) (by kernel_rfl) (by kernel_rfl) rfl (by kernel_rfl) (fun _ _ _ _ h => h) (Wanted.plain rfl) rfl rfl Fit.sub (Runs.move rfl) ?_
   refine D.read 6 rfl (by kernel_rfl) (by kernel_rfl) (by kernel_rfl) rfl (by kernel_rfl) (fun _ _ _ _ h => h) (Wanted.plain rfl) rfl rfl Fit.sub (Runs.lo (α := Int) (xs := xs) (l := i) Try.underlying22 ty3 rfl rfl (by omega) Sl.o (by omega)) ?_
   refine D.step (rs := [2]) (by kernel_rfl) rfl rfl (all1 ?_)
   refine Step.eff rfl (Wanted.plain rfl) (Eff.bs (α := Int) (cs := [_]) (xs := [x]) Try.underlying22 ty3 rfl rfl (by decide) (by decide) rfl rfl rfl rfl) ?_
   rintro _ _ ⟨ad10, rfl, rfl⟩
   refine ⟨Fit.sub, ?_⟩
   refine D.step (rs := [3]) (by kernel_rfl) rfl rfl (all1 ?_)
   refine Step.eff rfl (Wanted.plain rfl) (Eff.app (α := Int) (e := 3) (xs := List.take i xs) (ys := ([x] : List Int)) Try.underlying22 ty3 rfl rfl rfl (by repeat (first | exact List.mem_cons_self | apply List.mem_cons_of_mem)) Sl.o (by simp only [List.length_append, List.length_cons, List.length_nil, List.length_take, List.length_drop]; omega) (by decide) rfl (fun _ _ => (by repeat (first | exact At.head _ _ _ | apply At.tail)))) ?_
   rintro _ _ ⟨ad11, cp12, rfl, rfl⟩
   refine ⟨Fit.sub, ?_⟩
   refine D.step (rs := [7]) (by kernel_rfl) rfl rfl (all1 ?_)
   refine Step.eff rfl (Wanted.plain rfl) (Eff.app (α := Int) (e := 3) (xs := (List.take i xs) ++ ([x] : List Int)) (ys := List.drop i xs) Try.underlying22 ty3 rfl rfl rfl (by repeat (first | exact List.mem_cons_self | apply List.mem_cons_of_mem)) (Sl.drop Sl.o (by omega)) (by simp only [List.length_append, List.length_cons, List.length_nil, List.length_take, List.length_drop]; omega) (by decide) rfl (fun _ _ => (by repeat (first | exact At.head _ _ _ | apply At.tail)))) ?_
   rintro _ _ ⟨ad13, cp14, rfl, rfl⟩
   refine ⟨Fit.sub, ?_⟩
   refine D.read 8 rfl (by kernel_rfl) (by kernel_rfl) (by kernel_rfl) rfl (by kernel_rfl) (fun _ _ _ _ h => h) (Wanted.plain rfl) rfl rfl Fit.sub (Runs.assign rfl) ?_
   refine D.done (by kernel_rfl) ?_
   refine V.then ?_
   refine W.sub (L' := [(4, _)]) (Sub.cons rfl Sub.nil) ?_
   refine W.ret ?_
   have hp := (putL_at xs i x hi hlt).2 (by omega)
   exact V.ret1 rfl rfl (vc 3 (.slice ad13 (putL xs x).length cp14) (putL xs x) :: I) (by rw [hp]; exact Fit.sub) ⟨ad13, cp14, by rw [hp], rfl⟩

theorem Put_at {κ : Ctx} {I : List Item} {F : Item → List Item} {a : Option Addr} {c : Nat} {xs : List Int} (hat : AtF I (vc 3 (.slice a xs.length c) xs) F) (hb : xs.length < 17592186044415) (x : Int) :
    CallS Try.prog κ 167 [.slice a xs.length c, I64 x] I fun r J => ∃ a' c', r = .slice a' (putL xs x).length c' ∧ J = F (vc 3 (.slice a' (putL xs x).length c') (putL xs x)) :=
  (CallS.at (Z := fun _ => []) (X := fun y : Option Addr × Nat => vc 3 (.slice y.1 (putL xs x).length y.2) (putL xs x)) (Post := fun r y => r = .slice y.1 (putL xs x).length y.2) hat fun J _ _ => (Put_ok (a := a) (c := c) hb x).mono fun r J' ⟨a', c', h1, h2⟩ => ⟨(a', c'), h1, h2⟩).mono fun _ _ ⟨y, h1, h2⟩ => ⟨y.1, y.2, h1, h2⟩

theorem Of_ok {κ : Ctx} {I : List Item} {v : Value} {xs : List Int} (hl : Sl κ I v xs) (hb : xs.length < 17592186044415) :
    CallS Try.prog κ 107 [v] I (fun r J => ∃ a c, r = .slice a (ofL xs).length c ∧ J = vc 3 (.slice a (ofL xs).length c) (ofL xs) :: I) := by
 refine CallS.pull hl.le fun hmax => ?_
 refine CallS.enter (L := [(0, v)]) Try.func107 rfl rfl rfl rfl ?_
 refine W.sr ?_
 refine G.r (Runs.assign rfl) ?_
 refine G.nt ?_
 refine W.sr ?_
 refine G.r (Runs.assign rfl) ?_
 refine G.nt ?_
 refine W.seq ?_
 refine W.sr ?_
 refine G.r (Runs.move rfl) ?_
 refine G.r (Runs.lenT (α := Int) (xs := xs) Try.underlying22 rfl (Sl.f hl)) ?_
 refine G.r (Runs.move rfl) ?_
 refine G.nt ?_
 refine W.block ?_
 refine W.loop (σ := Nat × (Option Addr) × Nat × (List Int)) (fun s => ([(3, .slice s.2.1 s.2.2.2.length s.2.2.1), (6, v), (7, I64 (((xs.length : Nat) : Int))), (8, I64 (((s.1 : Nat) : Int)))] : Env)) (fun s => vc 3 (.slice s.2.1 s.2.2.2.length s.2.2.1) (s.2.2.2) :: I) (fun s => (s.1 ≤ xs.length) ∧ (s.2.2.2 = ofL (xs.take s.1))) (fun s => xs.length - s.1) (0, none, 0, []) (show ((0 : Nat) ≤ xs.length) ∧ (([] : List Int) = ofL (xs.take (0 : Nat))) from ⟨(by omega), rfl⟩) (Sub.cons (lookV rfl (by first | rfl | simp)) (Sub.cons rfl (Sub.cons rfl (Sub.cons (lookI rfl (by omega)) Sub.nil)))) (show Fit κ _ (vc 3 (.slice (none) ([]).length (0)) (([])) :: I) from (Fit.nilvc _ _)) ?_
 rintro ⟨k, a, c, out⟩ hp
 obtain ⟨hk, ho⟩ : (k ≤ xs.length) ∧ (out = ofL (xs.take k)) := hp
 show W Try.prog κ 17 _ _ ([(3, .slice a out.length c), (6, v), (7, I64 (((xs.length : Nat) : Int))), (8, I64 (((k : Nat) : Int)))] : Env) (vc 3 (.slice a out.length c) (out) :: I)
 refine W.sr ?_
 refine G.r (Runs.lss rfl rfl) ?_
 refine G.nt ?_
 refine W.seq ?_
 refine W.ite rfl (fun c9 => ?_) (fun c9 => ?_)
 ·refine W.skip ?_
  refine V.then ?_
  refine W.seq ?_
  refine W.block ?_
  refine W.sr ?_
  refine G.r (Runs.idx (α := Int) (xs := xs) Try.underlying22 ty3 rfl rfl (Sl.f hl) (by omega) (by omega)) ?_
  refine G.r (Runs.get (xs := xs) ty3 rfl (Sl.f hl) (by omega) (by omega)) ?_
  refine G.r (Runs.assign rfl) ?_
  refine G.nt ?_
  refine W.region ?_
  refine G.r (Runs.move rfl) ?_
  refine G.r (Runs.move rfl) ?_
  refine G.e (Eff.call call167 rfl rfl (Put_at (by repeat (first | exact AtF.head _ _ | apply AtF.tail)) (by rw [ho]; have := ofL_len (xs.take k); simp only [List.length_take] at this; omega) (at_ xs ((k : Nat) : Int)))) ?_
  rintro _ _ ⟨_, _, ⟨ad1, cp2, rfl, rfl⟩, rfl, rfl⟩
  show G Try.prog κ _ _ _ _ ([(14, .slice ad1 (putL out (at_ xs ((k : Nat) : Int))).length cp2), (13, I64 (at_ xs ((k : Nat) : Int))), (12, .slice a out.length c), (5, I64 (at_ xs ((k : Nat) : Int))), (11, I64 (at_ xs ((k : Nat) : Int))), (10, elemPtr (v) ((((k : Nat) : Int)).toNat * Enc.sz Int)), (9, .bool (decide (((k : Nat) : Int) < ((xs.length : Nat) : Int)))), (3, .slice a out.length c), (6, v), (7, I64 (((xs.length : Nat) : Int))), (8, I64 (((k : Nat) : Int)))] : Env) (vc 3 (.slice ad1 (putL out (at_ xs ((k : Nat) : Int))).length cp2) (putL out (at_ xs ((k : Nat) : Int))) :: I)
  refine G.r (Runs.assign rfl) ?_
  refine G.nil ?_
  refine V.block_normal ?_
  refine V.then ?_
  refine W.region ?_
  refine G.r (Runs.add rfl rfl (by unfold InR; omega)) ?_
  refine G.r (Runs.move rfl) ?_
  refine G.nil ?_
  exact V.next ((k + 1), (ad1), (cp2), (putL out (at_ xs ((k : Nat) : Int)))) (show ((k + 1 : Nat) ≤ xs.length) ∧ ((putL out (at_ xs ((k : Nat) : Int)) : List Int) = ofL (xs.take (k + 1 : Nat))) from ⟨(by omega), (by rw [ofL_take xs k (by omega), ← ho])⟩) (show xs.length - (k + 1 : Nat) < xs.length - k from (by omega)) (Sub.cons (lookV rfl (by first | rfl | simp)) (Sub.cons rfl (Sub.cons rfl (Sub.cons (lookI rfl (by omega)) Sub.nil)))) (show Fit κ _ (vc 3 (.slice (ad1) (putL out (at_ xs ((k : Nat) : Int))).length (cp2)) ((putL out (at_ xs ((k : Nat) : Int)))) :: I) from Fit.sub)
 ·refine W.exit ?_
  refine V.then_exit ?_
  refine V.then_exit ?_
  refine V.block_hit ?_
  refine V.then ?_
  refine W.sr ?_
  refine G.r (Runs.move rfl) ?_
  refine G.r (Runs.assign rfl) ?_
  refine G.nt ?_
  refine W.ret ?_
  have hk2 : xs.take k = xs := List.take_of_length_le (by omega)
  rw [hk2] at ho
  subst ho
  exact V.ret1 rfl rfl (_) Fit.m ⟨a, c, rfl, rfl⟩

theorem Union_ok {κ : Ctx} {I : List Item} {u v : Value} {xs ys : List Int} (hu : Sl κ I u xs) (hv : Sl κ I v ys) (hb : xs.length + ys.length < 17592186044415) :
    CallS Try.prog κ 39 [u, v] I (fun r J => ∃ a c, r = .slice a (ofL (xs ++ ys)).length c ∧ J = vc 3 (.slice a (ofL (xs ++ ys)).length c) (ofL (xs ++ ys)) :: I) := by
 refine CallS.enter (L := [(0, u), (1, v)]) Try.func39 rfl rfl rfl rfl ?_
 refine W.sr ?_
 refine G.r (Runs.assign rfl) ?_
 refine G.nt ?_
 refine W.sr ?_
 refine G.r (Runs.move rfl) ?_
 refine G.e (Eff.clone (α := Int) (ys := xs) Try.underlying22 ty3 rfl rfl rfl (Sl.f hu) (by omega) (by decide) rfl) ?_
 rintro _ _ ⟨ad1, cp2, rfl, rfl⟩
 refine G.r (Runs.move rfl) ?_
 refine G.e (Eff.app (α := Int) (e := 3) (xs := xs) (ys := ys) Try.underlying22 ty3 rfl rfl rfl (by repeat (first | exact List.mem_cons_self | apply List.mem_cons_of_mem)) (Sl.f hv) (by omega) (by decide) rfl (fun _ _ => (by repeat (first | exact At.head _ _ _ | apply At.tail)))) ?_
 rintro _ _ ⟨ad3, cp4, rfl, rfl⟩
 refine G.e (Eff.call call107 rfl rfl (Of_ok Sl.o (by simp only [List.length_append]; omega))) ?_
 rintro _ _ ⟨_, _, ⟨ad5, cp6, rfl, rfl⟩, rfl, rfl⟩
 refine G.r (Runs.assign rfl) ?_
 refine G.nt ?_
 refine W.ret ?_
 exact V.ret1 rfl rfl (vc 3 (.slice ad5 (ofL (xs ++ ys)).length cp6) (ofL (xs ++ ys)) :: I) Fit.sub ⟨ad5, cp6, rfl, rfl⟩

def minusL (xs ys : List Int) : List Int := (ofL xs).filter fun x => decide (x ∉ ys)
theorem filter_take (xs : List Int) (p : Int → Bool) (k : Nat) (h : k < xs.length) : (xs.take (k + 1)).filter p = (xs.take k).filter p ++ if p (at_ xs (k : Int)) then [at_ xs (k : Int)] else [] := by
  rw [take_at xs k h, List.filter_append]
  congr 1
  by_cases hp : p (at_ xs (k : Int)) <;> simp [List.filter_cons, hp]
theorem filter_take_yes (xs : List Int) (p : Int → Bool) (k : Nat) (h : k < xs.length) (hp : p (at_ xs (k : Int)) = true) : (xs.take (k + 1)).filter p = (xs.take k).filter p ++ [at_ xs (k : Int)] := by
  rw [filter_take xs p k h, if_pos hp]
theorem filter_take_no (xs : List Int) (p : Int → Bool) (k : Nat) (h : k < xs.length) (hp : p (at_ xs (k : Int)) = false) : (xs.take (k + 1)).filter p = (xs.take k).filter p := by
  rw [filter_take xs p k h, hp]; simp
theorem filter_take_len (xs : List Int) (p : Int → Bool) (k : Nat) : ((xs.take k).filter p).length ≤ xs.length := by
  have h1 := List.length_filter_le p (xs.take k)
  have h2 := List.length_take_le' k xs
  omega

theorem Minus_ok {κ : Ctx} {I : List Item} {u v : Value} {xs ys : List Int} (hu : Sl κ I u xs) (hv : Sl κ I v ys) (hb : xs.length < 17592186044415) :
    CallS Try.prog κ 40 [u, v] I (fun r J => ∃ a c, r = .slice a (minusL xs ys).length c ∧ J = vc 3 (.slice a (minusL xs ys).length c) (minusL xs ys) :: I) := by
 have hol := ofL_len xs
 refine CallS.enter (L := [(0, u), (1, v)]) Try.func40 rfl rfl rfl rfl ?_
 refine W.sr ?_
 refine G.r (Runs.assign rfl) ?_
 refine G.nt ?_
 refine W.sr ?_
 refine G.r (Runs.assign rfl) ?_
 refine G.nt ?_
 refine W.seq ?_
 refine W.sr ?_
 refine G.r (Runs.move rfl) ?_
 refine G.e (Eff.call call107 rfl rfl (Of_ok (Sl.f hu) (by omega))) ?_
 rintro _ _ ⟨_, _, ⟨ad1, cp2, rfl, rfl⟩, rfl, rfl⟩
 refine G.r (Runs.lens Try.underlying22 rfl) ?_
 refine G.r (Runs.move rfl) ?_
 refine G.nt ?_
 refine W.block ?_
 refine W.loop (σ := Nat × (Option Addr) × Nat × (List Int)) (fun s => ([(1, v), (5, .slice s.2.1 s.2.2.2.length s.2.2.1), (9, .slice ad1 (ofL xs).length cp2), (10, I64 ((((ofL xs).length : Nat) : Int))), (11, I64 (((s.1 : Nat) : Int)))] : Env)) (fun s => vc 3 (.slice s.2.1 s.2.2.2.length s.2.2.1) (s.2.2.2) :: vc 3 (.slice ad1 (ofL xs).length cp2) (ofL xs) :: I) (fun s => (s.1 ≤ (ofL xs).length) ∧ (s.2.2.2 = ((ofL xs).take s.1).filter (fun x => decide (x ∉ ys)))) (fun s => (ofL xs).length - s.1) (0, none, 0, []) (show ((0 : Nat) ≤ (ofL xs).length) ∧ (([] : List Int) = ((ofL xs).take (0 : Nat)).filter (fun x => decide (x ∉ ys))) from ⟨(by omega), rfl⟩) (Sub.cons rfl (Sub.cons (lookV rfl (by first | rfl | simp)) (Sub.cons rfl (Sub.cons rfl (Sub.cons (lookI rfl (by omega)) Sub.nil))))) (show Fit κ _ (vc 3 (.slice (none) ([]).length (0)) (([])) :: vc 3 (.slice ad1 (ofL xs).length cp2) (ofL xs) :: I) from (Fit.nilvc _ _)) ?_
 rintro ⟨k, a, c, out⟩ hp
 obtain ⟨hk, ho⟩ : (k ≤ (ofL xs).length) ∧ (out = ((ofL xs).take k).filter (fun x => decide (x ∉ ys))) := hp
 show W Try.prog κ 25 _ _ ([(1, v), (5, .slice a out.length c), (9, .slice ad1 (ofL xs).length cp2), (10, I64 ((((ofL xs).length : Nat) : Int))), (11, I64 (((k : Nat) : Int)))] : Env) (vc 3 (.slice a out.length c) (out) :: vc 3 (.slice ad1 (ofL xs).length cp2) (ofL xs) :: I)
 refine W.sr ?_
 refine G.r (Runs.lss rfl rfl) ?_
 refine G.nt ?_
 refine W.seq ?_
 refine W.ite rfl (fun c12 => ?_) (fun c12 => ?_)
 ·refine W.skip ?_
  refine V.then ?_
  refine W.seq ?_
  refine W.block ?_
  refine W.sr ?_
  refine G.r (Runs.idx (α := Int) (xs := ofL xs) Try.underlying22 ty3 rfl rfl Sl.o (by omega) (by omega)) ?_
  refine G.r (Runs.get (xs := ofL xs) ty3 rfl Sl.o (by omega) (by omega)) ?_
  refine G.r (Runs.assign rfl) ?_
  refine G.nt ?_
  refine W.sr ?_
  refine G.r (Runs.move rfl) ?_
  refine G.r (Runs.move rfl) ?_
  refine G.e (Eff.call call95 rfl rfl (RHas_ok (Sl.f hv) (at_ (ofL xs) ((k : Nat) : Int)))) ?_
  rintro _ _ ⟨_, _, ⟨rfl, rfl⟩, rfl, rfl⟩
  refine G.r (Runs.notd rfl) ?_
  refine G.nt ?_
  refine W.ite rfl (fun c18 => ?_) (fun c18 => ?_)
  ·refine W.region ?_
   refine G.r (Runs.move rfl) ?_
   refine G.r (Runs.move rfl) ?_
   refine G.e (Eff.bs (α := Int) (cs := [_]) (xs := [at_ (ofL xs) ((k : Nat) : Int)]) Try.underlying22 ty3 rfl rfl (by decide) (by decide) rfl rfl rfl rfl) ?_
   rintro _ _ ⟨ad3, rfl, rfl⟩
   refine G.e (Eff.app (α := Int) (e := 3) (xs := out) (ys := ([at_ (ofL xs) ((k : Nat) : Int)] : List Int)) Try.underlying22 ty3 rfl rfl rfl (by repeat (first | exact List.mem_cons_self | apply List.mem_cons_of_mem)) Sl.o (by have := ofL_len xs; simp only [List.length_cons, List.length_nil]; rw [ho]; have := filter_take_len (ofL xs) (fun x => decide (x ∉ ys)) k; omega) (by decide) rfl (fun _ _ => (by repeat (first | exact At.head _ _ _ | apply At.tail)))) ?_
   rintro _ _ ⟨ad4, cp5, rfl, rfl⟩
   refine G.r (Runs.assign rfl) ?_
   refine G.nil ?_
   refine V.block_normal ?_
   refine V.then ?_
   refine W.sub (L' := [(5, _), (1, _), (9, _), (10, _), (11, _)]) (Sub.cons rfl (Sub.cons rfl (Sub.cons rfl (Sub.cons rfl (Sub.cons rfl Sub.nil))))) ?_
   refine W.region ?_
   refine G.r (Runs.add rfl rfl (by unfold InR; omega)) ?_
   refine G.r (Runs.move rfl) ?_
   refine G.nil ?_
   exact V.next ((k + 1), (ad4), (cp5), (out ++ ([at_ (ofL xs) ((k : Nat) : Int)] : List Int))) (show ((k + 1 : Nat) ≤ (ofL xs).length) ∧ ((out ++ ([at_ (ofL xs) ((k : Nat) : Int)] : List Int) : List Int) = ((ofL xs).take (k + 1 : Nat)).filter (fun x => decide (x ∉ ys))) from ⟨(by omega), (by first | rw [filter_take_yes _ _ k (by omega) (decide_eq_true c18), ← ho] | rw [filter_take_no _ _ k (by omega) (decide_eq_false c18), ← ho])⟩) (show (ofL xs).length - (k + 1 : Nat) < (ofL xs).length - k from (by omega)) (Sub.cons rfl (Sub.cons (lookV rfl (by first | rfl | simp)) (Sub.cons rfl (Sub.cons rfl (Sub.cons (lookI rfl (by omega)) Sub.nil))))) (show Fit κ _ (vc 3 (.slice (ad4) (out ++ ([at_ (ofL xs) ((k : Nat) : Int)] : List Int)).length (cp5)) ((out ++ ([at_ (ofL xs) ((k : Nat) : Int)] : List Int))) :: vc 3 (.slice ad1 (ofL xs).length cp2) (ofL xs) :: I) from Fit.sub)
  ·refine W.skip ?_
   refine V.block_normal ?_
   refine V.then ?_
   refine W.region ?_
   refine G.r (Runs.add rfl rfl (by unfold InR; omega)) ?_
   refine G.r (Runs.move rfl) ?_
   refine G.nil ?_
   exact V.next ((k + 1), (a), (c), (out)) (show ((k + 1 : Nat) ≤ (ofL xs).length) ∧ ((out : List Int) = ((ofL xs).take (k + 1 : Nat)).filter (fun x => decide (x ∉ ys))) from ⟨(by omega), (by first | rw [filter_take_yes _ _ k (by omega) (decide_eq_true c18), ← ho] | rw [filter_take_no _ _ k (by omega) (decide_eq_false c18), ← ho])⟩) (show (ofL xs).length - (k + 1 : Nat) < (ofL xs).length - k from (by omega)) (Sub.cons rfl (Sub.cons (lookV rfl (by first | rfl | simp)) (Sub.cons rfl (Sub.cons rfl (Sub.cons (lookI rfl (by omega)) Sub.nil))))) (show Fit κ _ (vc 3 (.slice (a) (out).length (c)) ((out)) :: vc 3 (.slice ad1 (ofL xs).length cp2) (ofL xs) :: I) from Fit.sub)
 ·refine W.exit ?_
  refine V.then_exit ?_
  refine V.then_exit ?_
  refine V.block_hit ?_
  refine V.then ?_
  refine W.sr ?_
  refine G.r (Runs.move rfl) ?_
  refine G.r (Runs.assign rfl) ?_
  refine G.nt ?_
  refine W.ret ?_
  have hk2 : (ofL xs).take k = ofL xs := List.take_of_length_le (by omega)
  rw [hk2] at ho
  have ho2 : out = minusL xs ys := ho
  subst ho2
  exact V.ret1 rfl rfl (vc 3 (.slice a (minusL xs ys).length c) (minusL xs ys) :: I) Fit.sub ⟨a, c, rfl, rfl⟩

theorem Within_ok {κ : Ctx} {I : List Item} {u v : Value} {xs ys : List Int} (hu : Sl κ I u xs) (hv : Sl κ I v ys) :
    CallS Try.prog κ 41 [u, v] I (fun r J => r = .bool (decide (∀ x ∈ xs, x ∈ ys)) ∧ I = J) := by
 refine CallS.pull hu.le fun hmax => ?_
 refine CallS.enter (L := [(0, u), (1, v)]) Try.func41 rfl rfl rfl rfl ?_
 refine W.sr ?_
 refine G.r (Runs.assign rfl) ?_
 refine G.nt ?_
 refine W.seq ?_
 refine W.sr ?_
 refine G.r (Runs.move rfl) ?_
 refine G.r (Runs.lenT (α := Int) (xs := xs) Try.underlying22 rfl (Sl.f hu)) ?_
 refine G.r (Runs.move rfl) ?_
 refine G.nt ?_
 refine W.block ?_
 refine W.loop (σ := Nat) (fun s => ([(1, v), (7, u), (8, I64 (((xs.length : Nat) : Int))), (9, I64 (((s : Nat) : Int)))] : Env)) (fun s => I) (fun s => (s ≤ xs.length) ∧ (∀ j, j < s → at_ xs (j : Int) ∈ ys)) (fun s => xs.length - s) (0) (show ((0 : Nat) ≤ xs.length) ∧ (∀ j, j < (0 : Nat) → at_ xs (j : Int) ∈ ys) from ⟨(by omega), all_zero⟩) (Sub.cons rfl (Sub.cons rfl (Sub.cons rfl (Sub.cons (lookI rfl (by omega)) Sub.nil)))) (show Fit κ _ (I) from Fit.sub) ?_
 rintro k hp
 obtain ⟨hk, hn⟩ : (k ≤ xs.length) ∧ (∀ j, j < k → at_ xs (j : Int) ∈ ys) := hp
 show W Try.prog κ 18 _ _ ([(1, v), (7, u), (8, I64 (((xs.length : Nat) : Int))), (9, I64 (((k : Nat) : Int)))] : Env) (I)
 refine W.sr ?_
 refine G.r (Runs.lss rfl rfl) ?_
 refine G.nt ?_
 refine W.seq ?_
 refine W.ite rfl (fun c10 => ?_) (fun c10 => ?_)
 ·refine W.skip ?_
  refine V.then ?_
  refine W.seq ?_
  refine W.block ?_
  refine W.sr ?_
  refine G.r (Runs.idx (α := Int) (xs := xs) Try.underlying22 ty3 rfl rfl (Sl.f hu) (by omega) (by omega)) ?_
  refine G.r (Runs.get (xs := xs) ty3 rfl (Sl.f hu) (by omega) (by omega)) ?_
  refine G.r (Runs.assign rfl) ?_
  refine G.nt ?_
  refine W.sr ?_
  refine G.r (Runs.move rfl) ?_
  refine G.r (Runs.move rfl) ?_
  refine G.e (Eff.call call95 rfl rfl (RHas_ok (Sl.f hv) (at_ xs ((k : Nat) : Int)))) ?_
  rintro _ _ ⟨_, _, ⟨rfl, rfl⟩, rfl, rfl⟩
  refine G.r (Runs.notd rfl) ?_
  refine G.nt ?_
  refine W.ite rfl (fun c16 => ?_) (fun c16 => ?_)
  ·refine W.sr ?_
   refine G.r (Runs.assign rfl) ?_
   refine G.nt ?_
   refine W.ret ?_
   refine V.block_ret ?_
   refine V.then_ret ?_
   refine V.then_ret ?_
   refine V.block_ret ?_
   refine V.then_ret ?_
   have hm : ¬ ∀ x ∈ xs, x ∈ ys := fun h => c16 (h _ (at_mem (by omega) (by omega)))
   exact V.ret1 rfl rfl (_) Fit.m ⟨by rw [decide_eq_false hm], rfl⟩
  ·refine W.skip ?_
   refine V.block_normal ?_
   refine V.then ?_
   refine W.region ?_
   refine G.r (Runs.add rfl rfl (by unfold InR; omega)) ?_
   refine G.r (Runs.move rfl) ?_
   refine G.nil ?_
   exact V.next ((k + 1)) (show ((k + 1 : Nat) ≤ xs.length) ∧ (∀ j, j < (k + 1 : Nat) → at_ xs (j : Int) ∈ ys) from ⟨(by omega), (all_succ hn (Decidable.of_not_not c16))⟩) (show xs.length - (k + 1 : Nat) < xs.length - k from (by omega)) (Sub.cons rfl (Sub.cons rfl (Sub.cons rfl (Sub.cons (lookI rfl (by omega)) Sub.nil)))) (show Fit κ _ (I) from Fit.sub)
 ·refine W.exit ?_
  refine V.then_exit ?_
  refine V.then_exit ?_
  refine V.block_hit ?_
  refine V.then ?_
  refine W.sr ?_
  refine G.r (Runs.assign rfl) ?_
  refine G.nt ?_
  refine W.ret ?_
  have hm : ∀ x ∈ xs, x ∈ ys := fun x hx => by obtain ⟨j, hj, he⟩ := mem_at hx; rw [← he]; exact hn j (by omega)
  exact V.ret1 rfl rfl (_) Fit.m ⟨by rw [decide_eq_true hm], rfl⟩

end Go.Sl
