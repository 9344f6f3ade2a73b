/- A part of the proofs of statements of this seat: contracts of functions, and the plain laws that they lean on. No conditions. -/
import Derived.Test.YtbimaodbcjjbfaaGreatDoorLib
import Derived.Test.YtbimaodbcjjbfaaGreatDoorTy
/- Ascending lists under a linear order: putting in, sorting, uniqueness. No Go. No conditions. -/
namespace Go.Sl
set_option linter.unusedVariables false
set_option linter.unusedSectionVars false

structure LinO {α : Type} (lt : α → α → Prop) : Prop where
  irr : ∀ a, ¬ lt a a
  tr : ∀ a b c, lt a b → lt b c → lt a c
  tri : ∀ a b, lt a b ∨ a = b ∨ lt b a

section
variable {α : Type} {lt : α → α → Prop}
theorem LinO.asymm (h : LinO lt) {a b : α} (h1 : lt a b) : ¬ lt b a := fun h2 => h.irr a (h.tr a b a h1 h2)
theorem LinO.ne (h : LinO lt) {a b : α} (h1 : lt a b) : a ≠ b := fun e => by subst e; exact h.irr a h1
/-- Two ascending lists with the same members are one. -/
theorem LinO.uniq (h : LinO lt) : ∀ {l m : List α}, l.Pairwise lt → m.Pairwise lt → (∀ x, x ∈ l ↔ x ∈ m) → l = m
  | [], [], _, _, _ => rfl
  | [], y :: ys, _, _, e => absurd ((e y).2 List.mem_cons_self) (by simp)
  | x :: xs, [], _, _, e => absurd ((e x).1 List.mem_cons_self) (by simp)
  | x :: xs, y :: ys, hl, hm, e => by
    obtain ⟨hl1, hl2⟩ := List.pairwise_cons.1 hl
    obtain ⟨hm1, hm2⟩ := List.pairwise_cons.1 hm
    have hxy : x = y := by
      rcases List.mem_cons.1 ((e x).1 List.mem_cons_self) with h1 | h1
      · exact h1
      · rcases List.mem_cons.1 ((e y).2 List.mem_cons_self) with h2 | h2
        · exact h2.symm
        · exact absurd (hl1 y h2) (h.asymm (hm1 x h1))
    subst hxy
    rw [h.uniq hl2 hm2 fun z => ?_]
    constructor
    · intro hz
      rcases List.mem_cons.1 ((e z).1 (List.mem_cons_of_mem _ hz)) with h1 | h1
      · subst h1; exact absurd (hl1 z hz) (h.irr z)
      · exact h1
    · intro hz
      rcases List.mem_cons.1 ((e z).2 (List.mem_cons_of_mem _ hz)) with h1 | h1
      · subst h1; exact absurd (hm1 z hz) (h.irr z)
      · exact h1

variable [DecidableRel lt] [DecidableEq α]
variable (lt) in
/-- x put into a list before the first one that is not less. -/
def insB : List α → α → List α
  | [], x => [x]
  | y :: ys, x => if lt y x then y :: insB ys x else if y = x then y :: ys else x :: y :: ys
variable (lt) in
def sortB (l : List α) : List α := l.foldl (insB lt) []

theorem mem_insB (x y : α) : ∀ l, y ∈ insB lt l x ↔ y = x ∨ y ∈ l
  | [] => by simp [insB]
  | z :: zs => by
    simp only [insB]
    split
    · simp only [List.mem_cons, mem_insB x y zs]
      constructor
      · rintro (h | h | h) <;> simp [h]
      · rintro (h | h | h) <;> simp [h]
    · split
      · rename_i e; subst e; simp
      · simp
theorem mem_foldl_insB (y : α) : ∀ (l acc : List α), y ∈ l.foldl (insB lt) acc ↔ y ∈ l ∨ y ∈ acc
  | [], acc => by simp
  | x :: l, acc => by
    rw [List.foldl_cons, mem_foldl_insB y l, mem_insB]
    simp only [List.mem_cons]
    constructor
    · rintro (h | h | h) <;> simp [h]
    · rintro ((h | h) | h) <;> simp [h]
theorem mem_sortB (l : List α) (y : α) : y ∈ sortB lt l ↔ y ∈ l := by simp [sortB, mem_foldl_insB]
theorem LinO.insB (h : LinO lt) (x : α) : ∀ {l : List α}, l.Pairwise lt → (Sl.insB lt l x).Pairwise lt
  | [], _ => by simp [Sl.insB]
  | y :: ys, hl => by
    obtain ⟨hl1, hl2⟩ := List.pairwise_cons.1 hl
    simp only [Sl.insB]
    split
    · rename_i hyx
      refine List.pairwise_cons.2 ⟨fun z hz => ?_, h.insB x hl2⟩
      rcases (mem_insB x z ys).1 hz with rfl | hz
      · exact hyx
      · exact hl1 z hz
    · rename_i hyx
      split
      · exact hl
      · rename_i hne
        have hxy : lt x y := by
          rcases h.tri x y with h1 | h1 | h1
          · exact h1
          · exact absurd h1.symm hne
          · exact absurd h1 hyx
        refine List.pairwise_cons.2 ⟨fun z hz => ?_, hl⟩
        rcases List.mem_cons.1 hz with rfl | hz
        · exact hxy
        · exact h.tr _ _ _ hxy (hl1 z hz)
theorem LinO.foldB (h : LinO lt) : ∀ (l acc : List α), acc.Pairwise lt → (l.foldl (Sl.insB lt) acc).Pairwise lt
  | [], acc, ha => ha
  | x :: l, acc, ha => h.foldB l _ (h.insB x ha)
theorem LinO.sortB (h : LinO lt) (l : List α) : (Sl.sortB lt l).Pairwise lt := h.foldB l [] List.Pairwise.nil
theorem LinO.sortB_eq (h : LinO lt) {l m : List α} (hl : l.Pairwise lt) (e : ∀ x, x ∈ l ↔ x ∈ m) : Sl.sortB lt m = l :=
  h.uniq (h.sortB m) hl fun x => by rw [mem_sortB]; exact (e x).symm
theorem LinO.sortB_congr (h : LinO lt) {l m : List α} (e : ∀ x, x ∈ l ↔ x ∈ m) : Sl.sortB lt l = Sl.sortB lt m := h.sortB_eq (h.sortB m) fun x => by rw [mem_sortB]; exact (e x).symm
section
variable [Inhabited α]
end
end

/-! ### Ascending lists by places -/
section
variable {α : Type} {lt : α → α → Prop} [Inhabited α]
theorem pairwise_at (l : List α) : l.Pairwise lt ↔ ∀ i j : Nat, i < j → j < l.length → lt (at_ l (i : Int)) (at_ l (j : Int)) := by
  rw [List.pairwise_iff_getElem]
  constructor
  · intro h i j hij hj
    rw [at_get l i (by omega), at_get l j hj]; exact h i j (by omega) hj hij
  · intro h i j hi hj hij
    have := h i j hij hj
    rwa [at_get l i (by omega), at_get l j hj] at this
/-- Neighbours suffice. -/
theorem pairwise_next (htr : ∀ a b c, lt a b → lt b c → lt a c) {l : List α} (h : ∀ i : Nat, i + 1 < l.length → lt (at_ l (i : Int)) (at_ l ((i + 1 : Nat) : Int))) : l.Pairwise lt := by
  rw [pairwise_at]
  intro i j hij
  induction j with
  | zero => omega
  | succ j ih =>
    intro hj
    by_cases e : i = j
    · subst e; exact h i hj
    · exact htr _ _ _ (ih (by omega) (by omega)) (h j hj)
end

/-! ### Pairs of numbers: edges and records -/
structure Pt where
  u : Int
  v : Int
deriving Inhabited, DecidableEq
instance : Enc Pt := ⟨fun a => [I64 a.u, I64 a.v], 2, by omega, fun _ => rfl, fun a x h => by
  simp only [List.mem_cons, List.not_mem_nil, or_false] at h
  rcases h with rfl | rfl <;> rfl⟩
def Pt.lt (a b : Pt) : Prop := a.u < b.u ∨ (a.u = b.u ∧ a.v < b.v)
instance : DecidableRel Pt.lt := fun a b => by unfold Pt.lt; infer_instance
theorem Pt.lin : LinO Pt.lt where
  irr a h := by unfold Pt.lt at h; omega
  tr a b c h1 h2 := by unfold Pt.lt at *; omega
  tri a b := by
    unfold Pt.lt
    by_cases h : a = b
    · exact .inr (.inl h)
    · have : ¬ (a.u = b.u ∧ a.v = b.v) := fun e => h (by cases a; cases b; simp_all)
      omega
theorem Pt.ext_iff' (a b : Pt) : a = b ↔ a.u = b.u ∧ a.v = b.v := by
  constructor
  · rintro rfl; exact ⟨rfl, rfl⟩
  · intro e; cases a; cases b; simp_all
def Pt.swap (a : Pt) : Pt := ⟨a.v, a.u⟩
/-- The order of two pairs as a number. -/
def Pt.cmp (a b : Pt) : Int := if a.u < b.u then -1 else if b.u < a.u then 1 else if a.v < b.v then -1 else if b.v < a.v then 1 else 0
theorem Pt.cmp_lt (a b : Pt) : Pt.cmp a b < 0 ↔ Pt.lt a b := by unfold Pt.cmp Pt.lt; split <;> (try split) <;> (try split) <;> (try split) <;> omega
abbrev AscP (l : List Pt) : Prop := l.Pairwise Pt.lt
end Go.Sl
/- Sums over the numbers below a bound. No Go. No conditions. -/
namespace Go.Sl
set_option linter.unusedVariables false

/-! ### Sums -/
end Go.Sl
namespace Go.Sl
open Go.Proofs
set_option linter.unusedVariables false
set_option linter.unusedSimpArgs false
set_option maxRecDepth 4000
/-- A deck of choices in block b: its list in the slice lv, its place 'at'. -/
abbrev deck (b : Nat) (lv : Value) (i : Int) : Item := blk b [lv, I64 i] 79

theorem Mod_ok {κ : Ctx} {I : List Item} {n k : Int} (h1 : 1 ≤ k) (h2 : k ≤ 1000000000000) :
    CallS Tryz.prog κ 50 [I64 (n), I64 (k)] I (fun r J => ∃ x : Int, r = I64 x ∧ (0 ≤ x ∧ x < k) ∧ I = J) := by
 have q1 := Int.tmod_lt_of_pos n (b := k) (by omega)
 have q2 := Int.lt_tmod_of_pos n (b := k) (by omega)
 refine CallS.enter (L := [(0, I64 (n)), (1, I64 (k))]) Tryz.func50 rfl rfl rfl rfl ?_
 refine W.sr ?_
 refine G.r (Runs.assign rfl) ?_
 refine G.nt ?_
 refine W.sr ?_
 refine G.r (Runs.move rfl) ?_
 refine G.r (Runs.move rfl) ?_
 refine G.r (Runs.rem rfl rfl (by omega)) ?_
 refine G.r (Runs.move rfl) ?_
 refine G.r (Runs.add rfl rfl (by unfold InR; omega)) ?_
 refine G.r (Runs.move rfl) ?_
 refine G.r (Runs.rem rfl rfl (by omega)) ?_
 refine G.r (Runs.assign rfl) ?_
 refine G.nt ?_
 refine W.ret ?_
 have t1 := Int.tmod_nonneg k (a := Int.tmod n k + k) (by omega)
 have t2 := Int.tmod_lt_of_pos (Int.tmod n k + k) (b := k) (by omega)
 exact V.ret1 rfl rfl (_) Fit.m ⟨_, rfl, ⟨t1, t2⟩, rfl⟩

theorem Next_base {κ : Ctx} {I : List Item} {b : Nat} {lv : Value} {ls : List Int} {i : Int} (hl : Sl κ (deck b lv i :: I) lv ls) (h0 : 0 ≤ i) {n : Int} (hn : n ≤ 1000000000000) :
    CallS Tryz.prog κ 10 [.pointer (some ⟨b, 0, none⟩), I64 (n)] (blk b [lv, I64 (i)] 79 :: I) (fun r J => ∃ y : Int × Int, (r = I64 y.1 ∧ (0 ≤ y.1 ∧ (1 ≤ n → y.1 < n) ∧ (n < 1 → y.1 = 0)) ∧ 0 ≤ y.2) ∧ J = [] ++ deck b lv y.2 :: I) := by
 refine CallS.pull hl.le fun hmax => ?_
 refine CallS.enter (L := [(0, .pointer (some ⟨b, 0, none⟩)), (1, I64 (n))]) Tryz.func10 rfl rfl rfl rfl ?_
 refine W.sr ?_
 refine G.r (Runs.assign rfl) ?_
 refine G.nt ?_
 refine W.seq ?_
 refine W.seq ?_
 refine W.drawn mixed ?_
 refine A.hold (blk b [lv, I64 (i)] 79 :: I) 14 ?_
 refine D.r 0 rfl (Runs.move rfl) ?_
 refine D.r 1 rfl (Runs.lss rfl rfl) ?_
 refine D.r 2 rfl (Runs.move rfl) ?_
 refine D.split (d := 8) rfl (fun g8 => ?_) (fun g8 => ?_)
 ·refine D.po 3 rfl ?_
  refine D.po 4 rfl ?_
  refine D.po 5 rfl ?_
  refine D.po 6 rfl ?_
  refine D.po 7 rfl ?_
  refine D.po 8 rfl ?_
  refine D.po 9 rfl ?_
  refine D.po 10 rfl ?_
  refine D.po 11 rfl ?_
  refine D.po 12 rfl ?_
  refine D.r 13 rfl (Runs.pickt rfl rfl) ?_
  refine D.done (by kernel_rfl) ?_
  refine V.then ?_
  refine W.sub (L' := [(19, _), (0, _), (1, _)]) (Sub.cons rfl (Sub.cons rfl (Sub.cons rfl Sub.nil))) ?_
  refine W.yes rfl ?_
  refine W.sr ?_
  refine G.r (Runs.assign rfl) ?_
  refine G.nt ?_
  refine W.ret ?_
  refine V.then_ret ?_
  exact V.ret1 rfl rfl (_) Fit.m ⟨(0, i), ⟨rfl, ⟨Int.le_refl _, by intro _; show (0 : Int) < n; omega, fun _ => rfl⟩, h0⟩, rfl⟩
 ·refine D.ro 3 rfl (Runs.move rfl) ?_
  refine D.ro 4 rfl (Runs.nilCheck rfl) ?_
  refine D.ro 5 rfl (Runs.fieldAddr fld79_1 rfl) ?_
  refine D.ro 6 rfl (Runs.ld ty3) ?_
  refine D.ro 7 rfl (Runs.move rfl) ?_
  refine D.ro 8 rfl (Runs.nilCheck rfl) ?_
  refine D.ro 9 rfl (Runs.fieldAddr fld79_0 rfl) ?_
  refine D.ro 10 rfl (Runs.ld ty22) ?_
  refine D.ro 11 rfl (Runs.lenT (α := Int) (xs := ls) Tryz.underlying22 rfl (Sl.f hl)) ?_
  refine D.ro 12 rfl (Runs.geq rfl rfl) ?_
  refine D.r 13 rfl (Runs.pickf rfl rfl) ?_
  refine D.done (by kernel_rfl) ?_
  refine V.then ?_
  refine W.sub (L' := [(19, _), (0, _), (1, _)]) (Sub.cons rfl (Sub.cons rfl (Sub.cons rfl Sub.nil))) ?_
  refine W.ite rfl (fun c19 => ?_) (fun c19 => ?_)
  ·refine W.sr ?_
   refine G.r (Runs.assign rfl) ?_
   refine G.nt ?_
   refine W.ret ?_
   refine V.then_ret ?_
   exact V.ret1 rfl rfl (_) Fit.m ⟨(0, i), ⟨rfl, ⟨Int.le_refl _, by intro _; show (0 : Int) < n; omega, fun _ => rfl⟩, h0⟩, rfl⟩
  ·refine W.skip ?_
   refine V.then ?_
   refine W.seq ?_
   refine W.drawn mixed ?_
   refine A.hold (blk b [lv, I64 (i)] 79 :: I) 11 ?_
   refine D.r 0 rfl (Runs.move rfl) ?_
   refine D.r 1 rfl (Runs.nilCheck rfl) ?_
   refine D.r 2 rfl (Runs.fieldAddr fld79_0 rfl) ?_
   refine D.r 3 rfl (Runs.ld ty22) ?_
   refine D.r 4 rfl (Runs.move rfl) ?_
   refine D.r 5 rfl (Runs.nilCheck rfl) ?_
   refine D.r 6 rfl (Runs.fieldAddr fld79_1 rfl) ?_
   refine D.r 7 rfl (Runs.ld ty3) ?_
   refine D.r 8 rfl (Runs.idx (α := Int) (xs := ls) Tryz.underlying22 ty3 rfl rfl (Sl.f hl) (by omega) (by omega)) ?_
   refine D.r 9 rfl (Runs.get (xs := ls) ty3 rfl (Sl.f hl) (by omega) (by omega)) ?_
   refine D.r 10 rfl (Runs.assign rfl) ?_
   refine D.done (by kernel_rfl) ?_
   refine V.then ?_
   refine W.sub (L' := [(5, _), (0, _), (1, _)]) (Sub.cons rfl (Sub.cons rfl (Sub.cons rfl Sub.nil))) ?_
   refine W.sr ?_
   refine G.r (Runs.move rfl) ?_
   refine G.r (Runs.nilCheck rfl) ?_
   refine G.r (Runs.fieldAddr fld79_1 rfl) ?_
   refine G.r (Runs.ld ty3) ?_
   refine G.r (Runs.add rfl rfl (by unfold InR; omega)) ?_
   refine G.r (Runs.nilCheck rfl) ?_
   refine G.r (Runs.fieldAddr fld79_1 rfl) ?_
   refine G.e (Eff.st (cs := [_, _]) (vs := [_]) (cs' := [_, _]) ty3) ?_
   rintro _ _ ⟨rfl, rfl⟩
   refine G.nt ?_
   refine W.sr ?_
   refine G.r (Runs.move rfl) ?_
   refine G.r (Runs.move rfl) ?_
   refine G.e (Eff.call call50 rfl rfl (Mod_ok (by omega) (by omega))) ?_
   rintro _ _ ⟨_, _, ⟨x1, rfl, hx1, rfl⟩, rfl, rfl⟩
   refine G.r (Runs.assign rfl) ?_
   refine G.nt ?_
   refine W.sub (L' := [(4, _)]) (Sub.cons rfl Sub.nil) ?_
   refine W.ret ?_
   exact V.ret1 rfl rfl (_) Fit.m ⟨(x1, i + 1), ⟨rfl, ⟨by omega, by omega, by omega⟩, by show 0 ≤ i + 1; omega⟩, rfl⟩

theorem Next_ok {κ : Ctx} {I : List Item} {F : Item → List Item} {b : Nat} {lv : Value} {ls : List Int} {i : Int} (hat : AtF I (deck b lv i) F) (hl : Sl κ I lv ls) (h0 : 0 ≤ i) {n : Int} (hn : n ≤ 1000000000000) :
    CallS Tryz.prog κ 10 [.pointer (some ⟨b, 0, none⟩), I64 n] I fun r J => ∃ x i', r = I64 x ∧ (0 ≤ x ∧ (1 ≤ n → x < n) ∧ (n < 1 → x = 0)) ∧ 0 ≤ i' ∧ J = F (deck b lv i') :=
  (CallS.at (Z := fun _ => []) (X := fun y : Int × Int => deck b lv y.2) hat fun _ hJ _ => Next_base (hl.fit hJ) h0 hn).mono fun _ _ ⟨y, ⟨h1, h2, h3⟩, h4⟩ => ⟨y.1, y.2, h1, h2, h3, h4⟩

theorem New_ok {κ : Ctx} {I : List Item} {a : Option Addr} {n c : Nat} :
    CallS Tryz.prog κ 8 [.slice a n c] I (fun r J => ∃ b, r = .pointer (some ⟨b, 0, none⟩) ∧ J = deck b (.slice a n c) 0 :: I) := by
 refine CallS.enter (L := [(0, .slice a n c)]) Tryz.func8 rfl rfl rfl rfl ?_
 refine W.sr ?_
 refine G.r (Runs.assign rfl) ?_
 refine G.nt ?_
 refine W.sr ?_
 refine G.r (Runs.move rfl) ?_
 refine G.r (Runs.build (cells := [_, _]) ty79 Tryz.underlying79 pl79 rfl rfl) ?_
 refine G.e (Eff.box (cs := [_, _]) rfl rfl rfl) ?_
 rintro _ _ ⟨b1, rfl, rfl⟩
 refine G.r (Runs.assign rfl) ?_
 refine G.nt ?_
 refine W.ret ?_
 exact V.ret1 rfl rfl (_) Fit.m ⟨b1, rfl, rfl⟩

theorem RHas_ok {κ : Ctx} {I : List Item} {v : Value} {xs : List Int} (hl : Sl κ I v xs) (x : Int) :
    CallS Tryz.prog κ 60 [v, I64 (x)] I (fun r J => r = .bool (decide (x ∈ xs)) ∧ I = J) := by
 refine CallS.pull hl.le fun hmax => ?_
 refine CallS.enter (L := [(0, v), (1, I64 (x))]) Tryz.func60 rfl rfl rfl rfl ?_
 refine W.sr ?_
 refine G.r (Runs.assign rfl) ?_
 refine G.nt ?_
 refine W.seq ?_
 refine W.sr ?_
 refine G.r (Runs.move rfl) ?_
 refine G.r (Runs.lenT (α := Int) (xs := xs) Tryz.underlying22 rfl (Sl.f hl)) ?_
 refine G.r (Runs.move rfl) ?_
 refine G.nt ?_
 refine W.block ?_
 refine W.loop (σ := Nat) (fun s => ([(1, I64 (x)), (7, v), (8, I64 (((xs.length : Nat) : Int))), (9, I64 (((s : Nat) : Int)))] : Env)) (fun s => I) (fun s => (s ≤ xs.length) ∧ (∀ j, j < s → at_ xs (j : Int) ≠ x)) (fun s => xs.length - s) (0) (show ((0 : Nat) ≤ xs.length) ∧ (∀ j, j < (0 : Nat) → at_ xs (j : Int) ≠ x) from ⟨(by omega), all_zero⟩) (Sub.cons rfl (Sub.cons rfl (Sub.cons rfl (Sub.cons lookO Sub.nil)))) (show Fit κ _ (I) from Fit.sub) ?_
 rintro k hp
 obtain ⟨hk, hn⟩ : (k ≤ xs.length) ∧ (∀ j, j < k → at_ xs (j : Int) ≠ x) := hp
 show W Tryz.prog κ 17 _ _ ([(1, I64 (x)), (7, v), (8, I64 (((xs.length : Nat) : Int))), (9, I64 (((k : Nat) : Int)))] : Env) (I)
 refine W.sr ?_
 refine G.r (Runs.lss rfl rfl) ?_
 refine G.nt ?_
 refine W.seq ?_
 refine W.ite rfl (fun c10 => ?_) (fun c10 => ?_)
 ·refine W.skip ?_
  refine V.then ?_
  refine W.seq ?_
  refine W.block ?_
  refine W.sr ?_
  refine G.r (Runs.idx (α := Int) (xs := xs) Tryz.underlying22 ty3 rfl rfl (Sl.f hl) (by omega) (by omega)) ?_
  refine G.r (Runs.get (xs := xs) ty3 rfl (Sl.f hl) (by omega) (by omega)) ?_
  refine G.r (Runs.assign rfl) ?_
  refine G.nt ?_
  refine W.sr ?_
  refine G.r (Runs.move rfl) ?_
  refine G.r (Runs.move rfl) ?_
  refine G.r (Runs.eql rfl rfl) ?_
  refine G.nt ?_
  refine W.ite rfl (fun c15 => ?_) (fun c15 => ?_)
  ·refine W.sr ?_
   refine G.r (Runs.assign rfl) ?_
   refine G.nt ?_
   refine W.ret ?_
   refine V.block_ret ?_
   refine V.then_ret ?_
   refine V.then_ret ?_
   refine V.block_ret ?_
   refine V.then_ret ?_
   have hm : x ∈ xs := by subst c15; exact at_mem (by omega) (by omega)
   exact V.ret1 rfl rfl (_) Fit.m ⟨by rw [decide_eq_true hm], rfl⟩
  ·refine W.skip ?_
   refine V.block_normal ?_
   refine V.then ?_
   refine W.region ?_
   refine G.r (Runs.add rfl rfl (by unfold InR; omega)) ?_
   refine G.r (Runs.move rfl) ?_
   refine G.nil ?_
   exact V.next ((k + 1)) (show ((k + 1 : Nat) ≤ xs.length) ∧ (∀ j, j < (k + 1 : Nat) → at_ xs (j : Int) ≠ x) from ⟨(by omega), (all_succ hn c15)⟩) (show xs.length - (k + 1 : Nat) < xs.length - k from (by omega)) (Sub.cons rfl (Sub.cons rfl (Sub.cons rfl (Sub.cons lookO Sub.nil)))) (show Fit κ _ (I) from Fit.sub)
 ·refine W.exit ?_
  refine V.then_exit ?_
  refine V.then_exit ?_
  refine V.block_hit ?_
  refine V.then ?_
  refine W.sr ?_
  refine G.r (Runs.assign rfl) ?_
  refine G.nt ?_
  refine W.ret ?_
  have hm : x ∉ xs := not_mem_at hn (by omega)
  exact V.ret1 rfl rfl (_) Fit.m ⟨by rw [decide_eq_false hm], rfl⟩

/-- A set of so many nodes: ascending, each below 'nodes'. -/
def ValidP (xs : List Int) (nodes : Int) : Prop := ∀ j, j < xs.length → (0 ≤ at_ xs (j : Int) ∧ at_ xs (j : Int) < nodes) ∧ (0 < j → at_ xs ((j : Int) - 1) < at_ xs (j : Int))
instance (xs : List Int) (nodes : Int) : Decidable (ValidP xs nodes) := by unfold ValidP; infer_instance

theorem RValid_ok {κ : Ctx} {I : List Item} {v : Value} {xs : List Int} (hl : Sl κ I v xs) (nodes : Int) :
    CallS Tryz.prog κ 130 [v, I64 (nodes)] I (fun r J => r = .bool (decide (ValidP xs nodes)) ∧ I = J) := by
 refine CallS.pull hl.le fun hmax => ?_
 refine CallS.enter (L := [(0, v), (1, I64 (nodes))]) Tryz.func130 rfl rfl rfl rfl ?_
 refine W.sr ?_
 refine G.r (Runs.assign rfl) ?_
 refine G.nt ?_
 refine W.seq ?_
 refine W.sr ?_
 refine G.r (Runs.move rfl) ?_
 refine G.r (Runs.lenT (α := Int) (xs := xs) Tryz.underlying22 rfl (Sl.f hl)) ?_
 refine G.r (Runs.move rfl) ?_
 refine G.nt ?_
 refine W.block ?_
 refine W.loop (σ := Nat) (fun s => ([(0, v), (1, I64 (nodes)), (7, v), (8, I64 (((xs.length : Nat) : Int))), (9, I64 (((s : Nat) : Int)))] : Env)) (fun s => I) (fun s => (s ≤ xs.length) ∧ (∀ j, j < s → (0 ≤ at_ xs (j : Int) ∧ at_ xs (j : Int) < nodes) ∧ (0 < j → at_ xs ((j : Int) - 1) < at_ xs (j : Int)))) (fun s => xs.length - s) (0) (show ((0 : Nat) ≤ xs.length) ∧ (∀ j, j < (0 : Nat) → (0 ≤ at_ xs (j : Int) ∧ at_ xs (j : Int) < nodes) ∧ (0 < j → at_ xs ((j : Int) - 1) < at_ xs (j : Int))) from ⟨(by omega), all_zero⟩) (Sub.cons rfl (Sub.cons rfl (Sub.cons rfl (Sub.cons rfl (Sub.cons lookO Sub.nil))))) (show Fit κ _ (I) from Fit.sub) ?_
 rintro k hp
 obtain ⟨hk, hn⟩ : (k ≤ xs.length) ∧ (∀ j, j < k → (0 ≤ at_ xs (j : Int) ∧ at_ xs (j : Int) < nodes) ∧ (0 < j → at_ xs ((j : Int) - 1) < at_ xs (j : Int))) := hp
 show W Tryz.prog κ 35 _ _ ([(0, v), (1, I64 (nodes)), (7, v), (8, I64 (((xs.length : Nat) : Int))), (9, I64 (((k : Nat) : Int)))] : Env) (I)
 refine W.sr ?_
 refine G.r (Runs.lss rfl rfl) ?_
 refine G.nt ?_
 refine W.seq ?_
 refine W.ite rfl (fun c10 => ?_) (fun c10 => ?_)
 ·refine W.skip ?_
  refine V.then ?_
  refine W.seq ?_
  refine W.block ?_
  refine W.sr ?_
  refine G.r (Runs.move rfl) ?_
  refine G.r (Runs.idx (α := Int) (xs := xs) Tryz.underlying22 ty3 rfl rfl (Sl.f hl) (by omega) (by omega)) ?_
  refine G.r (Runs.get (xs := xs) ty3 rfl (Sl.f hl) (by omega) (by omega)) ?_
  refine G.r (Runs.assign rfl) ?_
  refine G.r (Runs.assign rfl) ?_
  refine G.nt ?_
  refine W.sr ?_
  refine G.r (Runs.move rfl) ?_
  refine G.r (Runs.lss rfl rfl) ?_
  refine G.r (Runs.move rfl) ?_
  refine G.split (d := 16) rfl (fun g16 => ?_) (fun g16 => ?_)
  ·refine G.po ?_
   refine G.po ?_
   refine G.po ?_
   refine G.r (Runs.pickt rfl rfl) ?_
   refine G.r (Runs.move rfl) ?_
   refine G.po ?_
   refine G.po ?_
   refine G.po ?_
   refine G.pu ?_
   refine G.pu ?_
   refine G.pu ?_
   refine G.pu ?_
   refine G.pu ?_
   refine G.pu ?_
   refine G.pu ?_
   refine G.po ?_
   refine G.r (Runs.pickt rfl rfl) ?_
   refine G.nt ?_
   refine W.sub (L' := [(33, _), (0, _), (1, _), (7, _), (8, _), (9, _)]) (Sub.cons rfl (Sub.cons rfl (Sub.cons rfl (Sub.cons rfl (Sub.cons rfl (Sub.cons rfl Sub.nil)))))) ?_
   refine W.yes rfl ?_
   refine W.sr ?_
   refine G.r (Runs.assign rfl) ?_
   refine G.nt ?_
   refine W.ret ?_
   refine V.block_ret ?_
   refine V.then_ret ?_
   refine V.then_ret ?_
   refine V.block_ret ?_
   refine V.then_ret ?_
   have hm : ¬ ValidP xs nodes := fun hv => by have := hv k (by omega); omega
   exact V.ret1 rfl rfl (_) Fit.m ⟨by rw [decide_eq_false hm], rfl⟩
  ·refine G.ro (Runs.move rfl) ?_
   refine G.ro (Runs.move rfl) ?_
   refine G.ro (Runs.geq rfl rfl) ?_
   refine G.r (Runs.pickf rfl rfl) ?_
   refine G.r (Runs.move rfl) ?_
   refine G.split (d := 21) rfl (fun g21 => ?_) (fun g21 => ?_)
   ·refine G.po ?_
    refine G.po ?_
    refine G.po ?_
    refine G.pu ?_
    refine G.pu ?_
    refine G.pu ?_
    refine G.pu ?_
    refine G.pu ?_
    refine G.pu ?_
    refine G.pu ?_
    refine G.po ?_
    refine G.r (Runs.pickt rfl rfl) ?_
    refine G.nt ?_
    refine W.sub (L' := [(33, _), (0, _), (1, _), (7, _), (8, _), (9, _)]) (Sub.cons rfl (Sub.cons rfl (Sub.cons rfl (Sub.cons rfl (Sub.cons rfl (Sub.cons rfl Sub.nil)))))) ?_
    refine W.yes rfl ?_
    refine W.sr ?_
    refine G.r (Runs.assign rfl) ?_
    refine G.nt ?_
    refine W.ret ?_
    refine V.block_ret ?_
    refine V.then_ret ?_
    refine V.then_ret ?_
    refine V.block_ret ?_
    refine V.then_ret ?_
    have hm : ¬ ValidP xs nodes := fun hv => by have := hv k (by omega); omega
    exact V.ret1 rfl rfl (_) Fit.m ⟨by rw [decide_eq_false hm], rfl⟩
   ·refine G.ro (Runs.move rfl) ?_
    refine G.ro (Runs.gtr rfl rfl) ?_
    refine G.ro (Runs.move rfl) ?_
    refine G.split (d := 24) rfl (fun g24 => ?_) (fun g24 => ?_)
    ·refine G.ro (Runs.move rfl) ?_
     refine G.ro (Runs.move rfl) ?_
     refine G.ro (Runs.sub rfl rfl (by unfold InR; omega)) ?_
     refine G.ro (Runs.idx (α := Int) (xs := xs) Tryz.underlying22 ty3 rfl rfl (Sl.f hl) (by omega) (by omega)) ?_
     refine G.ro (Runs.get (xs := xs) ty3 rfl (Sl.f hl) (by omega) (by omega)) ?_
     refine G.ro (Runs.move rfl) ?_
     refine G.ro (Runs.geq rfl rfl) ?_
     refine G.ro (Runs.pickt rfl rfl) ?_
     refine G.r (Runs.pickf rfl rfl) ?_
     refine G.nt ?_
     refine W.sub (L' := [(33, _), (0, _), (1, _), (7, _), (8, _), (9, _)]) (Sub.cons rfl (Sub.cons rfl (Sub.cons rfl (Sub.cons rfl (Sub.cons rfl (Sub.cons rfl Sub.nil)))))) ?_
     refine W.ite rfl (fun c33 => ?_) (fun c33 => ?_)
     ·refine W.sr ?_
      refine G.r (Runs.assign rfl) ?_
      refine G.nt ?_
      refine W.ret ?_
      refine V.block_ret ?_
      refine V.then_ret ?_
      refine V.then_ret ?_
      refine V.block_ret ?_
      refine V.then_ret ?_
      have hm : ¬ ValidP xs nodes := fun hv => by have := hv k (by omega); have := this.2 (by omega); omega
      exact V.ret1 rfl rfl (_) Fit.m ⟨by rw [decide_eq_false hm], rfl⟩
     ·refine W.skip ?_
      refine V.block_normal ?_
      refine V.then ?_
      refine W.region ?_
      refine G.r (Runs.add rfl rfl (by unfold InR; omega)) ?_
      refine G.r (Runs.move rfl) ?_
      refine G.nil ?_
      exact V.next ((k + 1)) (show ((k + 1 : Nat) ≤ xs.length) ∧ (∀ j, j < (k + 1 : Nat) → (0 ≤ at_ xs (j : Int) ∧ at_ xs (j : Int) < nodes) ∧ (0 < j → at_ xs ((j : Int) - 1) < at_ xs (j : Int))) from ⟨(by omega), (all_succ hn ⟨by omega, fun _ => by omega⟩)⟩) (show xs.length - (k + 1 : Nat) < xs.length - k from (by omega)) (Sub.cons rfl (Sub.cons rfl (Sub.cons rfl (Sub.cons rfl (Sub.cons lookO Sub.nil))))) (show Fit κ _ (I) from Fit.sub)
    ·refine G.po ?_
     refine G.po ?_
     refine G.po ?_
     refine G.po ?_
     refine G.po ?_
     refine G.po ?_
     refine G.po ?_
     refine G.ro (Runs.pickf rfl rfl) ?_
     refine G.r (Runs.pickf rfl rfl) ?_
     refine G.nt ?_
     refine W.sub (L' := [(33, _), (0, _), (1, _), (7, _), (8, _), (9, _)]) (Sub.cons rfl (Sub.cons rfl (Sub.cons rfl (Sub.cons rfl (Sub.cons rfl (Sub.cons rfl Sub.nil)))))) ?_
     refine W.no rfl ?_
     refine W.skip ?_
     refine V.block_normal ?_
     refine V.then ?_
     refine W.region ?_
     refine G.r (Runs.add rfl rfl (by unfold InR; omega)) ?_
     refine G.r (Runs.move rfl) ?_
     refine G.nil ?_
     exact V.next ((k + 1)) (show ((k + 1 : Nat) ≤ xs.length) ∧ (∀ j, j < (k + 1 : Nat) → (0 ≤ at_ xs (j : Int) ∧ at_ xs (j : Int) < nodes) ∧ (0 < j → at_ xs ((j : Int) - 1) < at_ xs (j : Int))) from ⟨(by omega), (all_succ hn ⟨by omega, fun _ => by omega⟩)⟩) (show xs.length - (k + 1 : Nat) < xs.length - k from (by omega)) (Sub.cons rfl (Sub.cons rfl (Sub.cons rfl (Sub.cons rfl (Sub.cons lookO Sub.nil))))) (show Fit κ _ (I) from Fit.sub)
 ·refine W.exit ?_
  refine V.then_exit ?_
  refine V.then_exit ?_
  refine V.block_hit ?_
  refine V.then ?_
  refine W.sr ?_
  refine G.r (Runs.assign rfl) ?_
  refine G.nt ?_
  refine W.ret ?_
  have hm : ValidP xs nodes := fun j hj => hn j (by omega)
  exact V.ret1 rfl rfl (_) Fit.m ⟨by rw [decide_eq_true hm], rfl⟩

end Go.Sl
namespace Go.Sl
open Go.Proofs
set_option linter.unusedVariables false
set_option linter.unusedSimpArgs false
set_option maxRecDepth 4000
/-- The document's comparison of two lists. -/
def cmpL : List Int → List Int → Int
  | [], [] => 0
  | [], _ :: _ => -1
  | _ :: _, [] => 1
  | x :: xs, y :: ys => if y < x then 1 else if x < y then -1 else cmpL xs ys
theorem cmpL_self : ∀ xs, cmpL xs xs = 0
  | [] => rfl
  | x :: xs => by simp only [cmpL]; rw [if_neg (by omega), if_neg (by omega)]; exact cmpL_self xs
theorem cmpL_eq : ∀ xs ys, cmpL xs ys = 0 ↔ xs = ys
  | [], [] => by simp [cmpL]
  | [], _ :: _ => by simp [cmpL]
  | _ :: _, [] => by simp [cmpL]
  | x :: xs, y :: ys => by
    simp only [cmpL]
    split
    · simp; omega
    · split
      · simp; omega
      · rw [cmpL_eq xs ys]
        have : x = y := by omega
        simp [this]
theorem cmpL_drop (xs ys : List Int) (k : Nat) (hx : k < xs.length) (hy : k < ys.length) (h1 : ¬ at_ ys (k : Int) < at_ xs (k : Int)) (h2 : ¬ at_ xs (k : Int) < at_ ys (k : Int)) : cmpL (xs.drop k) (ys.drop k) = cmpL (xs.drop (k + 1)) (ys.drop (k + 1)) := by
  rw [drop_at xs k hx, drop_at ys k hy]
  simp only [cmpL]
  rw [if_neg h1, if_neg h2]
theorem cmpL_drop1 (xs ys : List Int) (k : Nat) (hx : k < xs.length) (h : ys.length ≤ k ∨ (k < ys.length ∧ at_ ys (k : Int) < at_ xs (k : Int))) : cmpL (xs.drop k) (ys.drop k) = 1 := by
  rw [drop_at xs k hx]
  rcases h with h | ⟨hy, h⟩
  · rw [List.drop_eq_nil_of_le h]; rfl
  · rw [drop_at ys k hy]; simp only [cmpL]; rw [if_pos h]
theorem cmpL_dropn (xs ys : List Int) (k : Nat) (hx : k < xs.length) (hy : k < ys.length) (h1 : ¬ at_ ys (k : Int) < at_ xs (k : Int)) (h : at_ xs (k : Int) < at_ ys (k : Int)) : cmpL (xs.drop k) (ys.drop k) = -1 := by
  rw [drop_at xs k hx, drop_at ys k hy]; simp only [cmpL]; rw [if_neg h1, if_pos h]
theorem cmpL_end (xs ys : List Int) (k : Nat) (hx : xs.length ≤ k) : cmpL (xs.drop k) (ys.drop k) = if k < ys.length then -1 else 0 := by
  rw [List.drop_eq_nil_of_le hx]
  split
  · rename_i h; rw [drop_at ys k h]; rfl
  · rename_i h; rw [List.drop_eq_nil_of_le (by omega)]; rfl

theorem Cmp_ok {κ : Ctx} {I : List Item} {u v : Value} {xs ys : List Int} (hu : Sl κ I u xs) (hv : Sl κ I v ys) :
    CallS Tryz.prog κ 53 [u, v] I (fun r J => r = I64 (cmpL xs ys) ∧ I = J) := by
 refine CallS.pull hu.le fun hmax => ?_
 refine CallS.pull hv.le fun hmax2 => ?_
 refine CallS.enter (L := [(0, u), (1, v)]) Tryz.func53 rfl rfl rfl rfl ?_
 refine W.sr ?_
 refine G.r (Runs.assign rfl) ?_
 refine G.nt ?_
 refine W.seq ?_
 refine W.sr ?_
 refine G.r (Runs.move rfl) ?_
 refine G.r (Runs.lenT (α := Int) (xs := xs) Tryz.underlying22 rfl (Sl.f hu)) ?_
 refine G.r (Runs.move rfl) ?_
 refine G.nt ?_
 refine W.block ?_
 refine W.loop (σ := Nat) (fun s => ([(0, u), (1, v), (7, I64 (((xs.length : Nat) : Int))), (8, I64 (((s : Nat) : Int)))] : Env)) (fun s => I) (fun s => (s ≤ xs.length) ∧ (cmpL xs ys = cmpL (xs.drop s) (ys.drop s))) (fun s => xs.length - s) (0) (show ((0 : Nat) ≤ xs.length) ∧ (cmpL xs ys = cmpL (xs.drop (0 : Nat)) (ys.drop (0 : Nat))) from ⟨(by omega), rfl⟩) (Sub.cons rfl (Sub.cons rfl (Sub.cons rfl (Sub.cons lookO Sub.nil)))) (show Fit κ _ (I) from Fit.sub) ?_
 rintro k hp
 obtain ⟨hk, hc⟩ : (k ≤ xs.length) ∧ (cmpL xs ys = cmpL (xs.drop k) (ys.drop k)) := hp
 show W Tryz.prog κ 43 _ _ ([(0, u), (1, v), (7, I64 (((xs.length : Nat) : Int))), (8, I64 (((k : Nat) : Int)))] : Env) (I)
 refine W.sr ?_
 refine G.r (Runs.lss rfl rfl) ?_
 refine G.nt ?_
 refine W.seq ?_
 refine W.ite rfl (fun c9 => ?_) (fun c9 => ?_)
 ·refine W.skip ?_
  refine V.then ?_
  refine W.seq ?_
  refine W.block ?_
  refine W.sr ?_
  refine G.r (Runs.move rfl) ?_
  refine G.r (Runs.assign rfl) ?_
  refine G.nt ?_
  refine W.block ?_
  refine W.seq ?_
  refine W.drawn mixed ?_
  refine A.hold (I) 16 ?_
  refine D.r 0 rfl (Runs.move rfl) ?_
  refine D.r 1 rfl (Runs.move rfl) ?_
  refine D.r 2 rfl (Runs.lenT (α := Int) (xs := ys) Tryz.underlying22 rfl (Sl.f hv)) ?_
  refine D.r 3 rfl (Runs.geq rfl rfl) ?_
  refine D.r 4 rfl (Runs.move rfl) ?_
  refine D.split (d := 16) rfl (fun g16 => ?_) (fun g16 => ?_)
  ·refine D.po 5 rfl ?_
   refine D.po 6 rfl ?_
   refine D.po 7 rfl ?_
   refine D.po 8 rfl ?_
   refine D.po 9 rfl ?_
   refine D.po 10 rfl ?_
   refine D.po 11 rfl ?_
   refine D.po 12 rfl ?_
   refine D.po 13 rfl ?_
   refine D.r 14 rfl (Runs.pickt rfl rfl) ?_
   refine D.r 15 rfl (Runs.assign rfl) ?_
   refine D.done (by kernel_rfl) ?_
   refine V.then ?_
   refine W.sub (L' := [(11, _), (5, _), (0, _), (1, _), (7, _), (8, _)]) (Sub.cons rfl (Sub.cons rfl (Sub.cons rfl (Sub.cons rfl (Sub.cons rfl (Sub.cons rfl Sub.nil)))))) ?_
   refine W.yes rfl ?_
   refine W.sr ?_
   refine G.r (Runs.assign rfl) ?_
   refine G.nt ?_
   refine W.ret ?_
   refine V.block_ret ?_
   refine V.block_ret ?_
   refine V.then_ret ?_
   refine V.then_ret ?_
   refine V.block_ret ?_
   refine V.then_ret ?_
   exact V.ret1 rfl rfl (_) Fit.m ⟨by rw [hc, cmpL_drop1 xs ys k (by omega) (.inl (by omega))], rfl⟩
  ·refine D.ro 5 rfl (Runs.move rfl) ?_
   refine D.ro 6 rfl (Runs.move rfl) ?_
   refine D.ro 7 rfl (Runs.idx (α := Int) (xs := xs) Tryz.underlying22 ty3 rfl rfl (Sl.f hu) (by omega) (by omega)) ?_
   refine D.ro 8 rfl (Runs.get (xs := xs) ty3 rfl (Sl.f hu) (by omega) (by omega)) ?_
   refine D.ro 9 rfl (Runs.move rfl) ?_
   refine D.ro 10 rfl (Runs.move rfl) ?_
   refine D.ro 11 rfl (Runs.idx (α := Int) (xs := ys) Tryz.underlying22 ty3 rfl rfl (Sl.f hv) (by omega) (by omega)) ?_
   refine D.ro 12 rfl (Runs.get (xs := ys) ty3 rfl (Sl.f hv) (by omega) (by omega)) ?_
   refine D.ro 13 rfl (Runs.gtr rfl rfl) ?_
   refine D.r 14 rfl (Runs.pickf rfl rfl) ?_
   refine D.r 15 rfl (Runs.assign rfl) ?_
   refine D.done (by kernel_rfl) ?_
   refine V.then ?_
   refine W.sub (L' := [(11, _), (5, _), (0, _), (1, _), (7, _), (8, _)]) (Sub.cons rfl (Sub.cons rfl (Sub.cons rfl (Sub.cons rfl (Sub.cons rfl (Sub.cons rfl Sub.nil)))))) ?_
   refine W.ite rfl (fun c11 => ?_) (fun c11 => ?_)
   ·refine W.sr ?_
    refine G.r (Runs.assign rfl) ?_
    refine G.nt ?_
    refine W.ret ?_
    refine V.block_ret ?_
    refine V.block_ret ?_
    refine V.then_ret ?_
    refine V.then_ret ?_
    refine V.block_ret ?_
    refine V.then_ret ?_
    exact V.ret1 rfl rfl (_) Fit.m ⟨by rw [hc, cmpL_drop1 xs ys k (by omega) (.inr ⟨by omega, by omega⟩)], rfl⟩
   ·refine W.seq ?_
    refine W.drawn mixed ?_
    refine A.hold (I) 10 ?_
    refine D.r 0 rfl (Runs.move rfl) ?_
    refine D.r 1 rfl (Runs.move rfl) ?_
    refine D.r 2 rfl (Runs.idx (α := Int) (xs := xs) Tryz.underlying22 ty3 rfl rfl (Sl.f hu) (by omega) (by omega)) ?_
    refine D.r 3 rfl (Runs.get (xs := xs) ty3 rfl (Sl.f hu) (by omega) (by omega)) ?_
    refine D.r 4 rfl (Runs.move rfl) ?_
    refine D.r 5 rfl (Runs.move rfl) ?_
    refine D.r 6 rfl (Runs.idx (α := Int) (xs := ys) Tryz.underlying22 ty3 rfl rfl (Sl.f hv) (by omega) (by omega)) ?_
    refine D.r 7 rfl (Runs.get (xs := ys) ty3 rfl (Sl.f hv) (by omega) (by omega)) ?_
    refine D.r 8 rfl (Runs.lss rfl rfl) ?_
    refine D.r 9 rfl (Runs.assign rfl) ?_
    refine D.done (by kernel_rfl) ?_
    refine V.then ?_
    refine W.sub (L' := [(27, _), (0, _), (1, _), (7, _), (8, _)]) (Sub.cons rfl (Sub.cons rfl (Sub.cons rfl (Sub.cons rfl (Sub.cons rfl Sub.nil))))) ?_
    refine W.ite rfl (fun c27 => ?_) (fun c27 => ?_)
    ·refine W.sr ?_
     refine G.r (Runs.assign rfl) ?_
     refine G.nt ?_
     refine W.ret ?_
     refine V.block_ret ?_
     refine V.block_ret ?_
     refine V.then_ret ?_
     refine V.then_ret ?_
     refine V.block_ret ?_
     refine V.then_ret ?_
     exact V.ret1 rfl rfl (_) Fit.m ⟨by rw [hc, cmpL_dropn xs ys k (by omega) (by omega) (by omega) (by omega)], rfl⟩
    ·refine W.skip ?_
     refine V.block_normal ?_
     refine V.block_normal ?_
     refine V.then ?_
     refine W.region ?_
     refine G.r (Runs.add rfl rfl (by unfold InR; omega)) ?_
     refine G.r (Runs.move rfl) ?_
     refine G.nil ?_
     exact V.next ((k + 1)) (show ((k + 1 : Nat) ≤ xs.length) ∧ (cmpL xs ys = cmpL (xs.drop (k + 1 : Nat)) (ys.drop (k + 1 : Nat))) from ⟨(by omega), (hc.trans (cmpL_drop xs ys k (by omega) (by omega) (by omega) (by omega)))⟩) (show xs.length - (k + 1 : Nat) < xs.length - k from (by omega)) (Sub.cons rfl (Sub.cons rfl (Sub.cons rfl (Sub.cons lookO Sub.nil)))) (show Fit κ _ (I) from Fit.sub)
 ·refine W.exit ?_
  refine V.then_exit ?_
  refine V.then_exit ?_
  refine V.block_hit ?_
  refine V.then ?_
  refine W.seq ?_
  refine W.sr ?_
  refine G.r (Runs.move rfl) ?_
  refine G.r (Runs.lenT (α := Int) (xs := xs) Tryz.underlying22 rfl (Sl.f hu)) ?_
  refine G.r (Runs.move rfl) ?_
  refine G.r (Runs.lenT (α := Int) (xs := ys) Tryz.underlying22 rfl (Sl.f hv)) ?_
  refine G.r (Runs.lss rfl rfl) ?_
  refine G.nt ?_
  refine W.ite rfl (fun c42 => ?_) (fun c42 => ?_)
  ·refine W.sr ?_
   refine G.r (Runs.assign rfl) ?_
   refine G.nt ?_
   refine W.ret ?_
   refine V.then_ret ?_
   exact V.ret1 rfl rfl (_) Fit.m ⟨by rw [hc, cmpL_end xs ys k (by omega), if_pos (by omega)], rfl⟩
  ·refine W.skip ?_
   refine V.then ?_
   refine W.sr ?_
   refine G.r (Runs.assign rfl) ?_
   refine G.nt ?_
   refine W.ret ?_
   exact V.ret1 rfl rfl (_) Fit.m ⟨by rw [hc, cmpL_end xs ys k (by omega), if_neg (by omega)], rfl⟩

theorem Same_ok {κ : Ctx} {I : List Item} {u v : Value} {xs ys : List Int} (hu : Sl κ I u xs) (hv : Sl κ I v ys) :
    CallS Tryz.prog κ 14 [u, v] I (fun r J => r = .bool (decide (xs = ys)) ∧ I = J) := by
 refine CallS.enter (L := [(0, u), (1, v)]) Tryz.func14 rfl rfl rfl rfl ?_
 refine W.sr ?_
 refine G.r (Runs.assign rfl) ?_
 refine G.nt ?_
 refine W.sr ?_
 refine G.r (Runs.move rfl) ?_
 refine G.r (Runs.lenT (α := Int) (xs := xs) Tryz.underlying22 rfl (Sl.f hu)) ?_
 refine G.r (Runs.move rfl) ?_
 refine G.r (Runs.lenT (α := Int) (xs := ys) Tryz.underlying22 rfl (Sl.f hv)) ?_
 refine G.r (Runs.eql rfl rfl) ?_
 refine G.r (Runs.move rfl) ?_
 refine G.split (d := 10) rfl (fun g10 => ?_) (fun g10 => ?_)
 ·refine G.ro (Runs.move rfl) ?_
  refine G.ro (Runs.move rfl) ?_
  refine G.eff (Wanted.on rfl rfl rfl) (Eff.call call53 rfl rfl (Cmp_ok (Sl.f hu) (Sl.f hv))) ?_
  rintro _ _ ⟨_, _, ⟨rfl, rfl⟩, rfl, rfl⟩
  refine G.ro (Runs.eql rfl rfl) ?_
  refine G.r (Runs.pickt rfl rfl) ?_
  refine G.r (Runs.assign rfl) ?_
  refine G.nt ?_
  refine W.sub (L' := [(4, _)]) (Sub.cons rfl Sub.nil) ?_
  refine W.ret ?_
  have hb : decide (cmpL xs ys = 0) = decide (xs = ys) := by rw [decide_eq_decide]; exact cmpL_eq xs ys
  exact V.ret1 rfl rfl (_) Fit.m ⟨by rw [hb], rfl⟩
 ·refine G.po ?_
  refine G.po ?_
  refine G.po ?_
  refine G.po ?_
  refine G.r (Runs.pickf rfl rfl) ?_
  refine G.r (Runs.assign rfl) ?_
  refine G.nt ?_
  refine W.sub (L' := [(4, _)]) (Sub.cons rfl Sub.nil) ?_
  refine W.ret ?_
  have hb : ¬ xs = ys := fun e => by subst e; exact absurd rfl g10
  exact V.ret1 rfl rfl (_) Fit.m ⟨by rw [decide_eq_false hb], rfl⟩

end Go.Sl
namespace Go.Sl
open Go.Proofs
set_option linter.unusedVariables false
set_option linter.unusedSimpArgs false
set_option maxRecDepth 4000
/-- A number put into a list before the first one that is not less. -/
def putL : List Int → Int → List Int
  | [], x => [x]
  | y :: ys, x => if y < x then y :: putL ys x else if y = x then y :: ys else x :: y :: ys
def ofL (l : List Int) : List Int := l.foldl putL []
theorem putL_at : ∀ (xs : List Int) (i : Nat) (x : Int), i ≤ xs.length → (∀ j, j < i → at_ xs (j : Int) < x) →
    (i < xs.length → at_ xs (i : Int) = x → putL xs x = xs) ∧ ((i = xs.length ∨ (i < xs.length ∧ x < at_ xs (i : Int))) → putL xs x = (xs.take i ++ [x]) ++ xs.drop i)
  | [], i, x, hi, h => by
    obtain rfl : i = 0 := by simpa using hi
    exact ⟨fun h => by simp at h, fun _ => rfl⟩
  | y :: ys, 0, x, hi, h => by
    refine ⟨fun _ e => ?_, fun e => ?_⟩
    · have e' : y = x := e
      simp only [putL]; rw [if_neg (by omega), if_pos e']
    · rcases e with e | ⟨_, e⟩
      · simp at e
      · have e' : x < y := e
        simp only [putL]; rw [if_neg (by omega), if_neg (by omega)]; rfl
  | y :: ys, i + 1, x, hi, h => by
    have h0 : y < x := h 0 (by omega)
    have ha : ∀ j : Nat, at_ (y :: ys) ((j + 1 : Nat) : Int) = at_ ys (j : Int) := fun j => by rw [at_nat, at_nat]; simp
    obtain ⟨h1, h2⟩ := putL_at ys i x (by simpa using hi) fun j hj => by have := h (j + 1) (by omega); rwa [ha] at this
    refine ⟨fun hl e => ?_, fun e => ?_⟩
    · simp only [putL]; rw [if_pos h0, h1 (by simpa using hl) (by rwa [ha] at e)]
    · simp only [putL]; rw [if_pos h0, h2 (by rw [ha] at e; simpa using e)]; rfl
theorem ofL_take (xs : List Int) (k : Nat) (h : k < xs.length) : ofL (xs.take (k + 1)) = putL (ofL (xs.take k)) (at_ xs (k : Int)) := by
  rw [take_at xs k h]; simp [ofL]
theorem mem_putL (x y : Int) : ∀ l, y ∈ putL l x ↔ y = x ∨ y ∈ l
  | [] => by simp [putL]
  | z :: zs => by
    simp only [putL]
    split
    · simp only [List.mem_cons, mem_putL x y zs]
      constructor
      · rintro (h | h | h) <;> simp [h]
      · rintro (h | h | h) <;> simp [h]
    · split
      · rename_i e; subst e; simp
      · simp
theorem mem_foldl_putL (y : Int) : ∀ (l acc : List Int), y ∈ l.foldl putL acc ↔ y ∈ l ∨ y ∈ acc
  | [], acc => by simp
  | x :: l, acc => by
    rw [List.foldl_cons, mem_foldl_putL y l, mem_putL]
    simp only [List.mem_cons]
    constructor
    · rintro (h | h | h) <;> simp [h]
    · rintro ((h | h) | h) <;> simp [h]
theorem mem_ofL (l : List Int) (y : Int) : y ∈ ofL l ↔ y ∈ l := by simp [ofL, mem_foldl_putL]
theorem putL_len (x : Int) : ∀ l, (putL l x).length ≤ l.length + 1
  | [] => by simp [putL]
  | y :: ys => by
    simp only [putL]
    split
    · have := putL_len x ys; simp; omega
    · split <;> simp
theorem ofL_len (l : List Int) : (ofL l).length ≤ l.length := by
  have h : ∀ (l acc : List Int), (l.foldl putL acc).length ≤ l.length + acc.length := fun l => by
    induction l with
    | nil => intro acc; simp
    | cons x l ih => intro acc; have := ih (putL acc x); have := putL_len x acc; simp; omega
  have := h l []
  simpa [ofL] using this
theorem Put_ok {κ : Ctx} {I : List Item} {a : Option Addr} {c : Nat} {xs : List Int} (hb : xs.length < 17592186044415) (x : Int) :
    CallS Tryz.prog κ 112 [.slice a xs.length c, I64 (x)] (vc 3 (.slice a xs.length c) (xs) :: I) (fun r J => ∃ a' c', r = .slice a' (putL xs x).length c' ∧ J = vc 3 (.slice a' (putL xs x).length c') (putL xs x) :: I) := by
 refine CallS.pull (fun w hs => (Sl.vec (κ := κ) (List.mem_cons_self)).le w hs) fun hmax => ?_
 refine CallS.enter (L := [(0, .slice a xs.length c), (1, I64 (x))]) Tryz.func112 rfl rfl rfl rfl ?_
 refine W.sr ?_
 refine G.r (Runs.assign rfl) ?_
 refine G.nt ?_
 refine W.sr ?_
 refine G.r (Runs.assign rfl) ?_
 refine G.nt ?_
 refine W.cut (σ := Nat) (fun s => ([(0, .slice a xs.length c), (1, I64 (x)), (5, I64 (((s : Nat) : Int)))] : Env)) (fun s => vc 3 (.slice a xs.length c) (xs) :: I) (fun s => (s ≤ xs.length) ∧ (∀ j, j < s → at_ xs (j : Int) < x) ∧ (s = xs.length ∨ (s < xs.length ∧ ¬ at_ xs (s : Int) < x))) ?_ ?_
 ·refine W.block ?_
  refine W.loop (σ := Nat) (fun s => ([(0, .slice a xs.length c), (1, I64 (x)), (5, I64 (((s : Nat) : Int)))] : Env)) (fun s => vc 3 (.slice a xs.length c) (xs) :: I) (fun s => (s ≤ xs.length) ∧ (∀ j, j < s → at_ xs (j : Int) < x)) (fun s => xs.length - s) (0) (show ((0 : Nat) ≤ xs.length) ∧ (∀ j, j < (0 : Nat) → at_ xs (j : Int) < x) from ⟨(by omega), all_zero⟩) (Sub.cons rfl (Sub.cons rfl (Sub.cons lookO Sub.nil))) (show Fit κ _ (vc 3 (.slice a xs.length c) (xs) :: I) from Fit.sub) ?_
  rintro i hp
  obtain ⟨hi, hlt⟩ : (i ≤ xs.length) ∧ (∀ j, j < i → at_ xs (j : Int) < x) := hp
  show W Tryz.prog κ 46 _ _ ([(0, .slice a xs.length c), (1, I64 (x)), (5, I64 (((i : Nat) : Int)))] : Env) (vc 3 (.slice a xs.length c) (xs) :: I)
  refine W.seq ?_
  refine W.sr ?_
  refine G.r (Runs.move rfl) ?_
  refine G.r (Runs.move rfl) ?_
  refine G.r (Runs.lens Tryz.underlying22 rfl) ?_
  refine G.r (Runs.lss rfl rfl) ?_
  refine G.r (Runs.move rfl) ?_
  refine G.split (d := 11) rfl (fun g11 => ?_) (fun g11 => ?_)
  ·refine G.ro (Runs.move rfl) ?_
   refine G.ro (Runs.move rfl) ?_
   refine G.ro (Runs.idx (α := Int) (xs := xs) Tryz.underlying22 ty3 rfl rfl Sl.o (by omega) (by omega)) ?_
   refine G.ro (Runs.get (xs := xs) ty3 rfl Sl.o (by omega) (by omega)) ?_
   refine G.ro (Runs.move rfl) ?_
   refine G.ro (Runs.lss rfl rfl) ?_
   refine G.r (Runs.pickt rfl rfl) ?_
   refine G.nt ?_
   refine W.sub (L' := [(18, _), (0, _), (1, _), (5, _)]) (Sub.cons rfl (Sub.cons rfl (Sub.cons rfl (Sub.cons rfl Sub.nil)))) ?_
   refine W.ite rfl (fun c18 => ?_) (fun c18 => ?_)
   ·refine W.skip ?_
    refine V.then ?_
    refine W.block ?_
    refine W.region ?_
    refine G.r (Runs.move rfl) ?_
    refine G.r (Runs.add rfl rfl (by unfold InR; omega)) ?_
    refine G.r (Runs.assign rfl) ?_
    refine G.nil ?_
    refine V.block_normal ?_
    exact V.next ((i + 1)) (show ((i + 1 : Nat) ≤ xs.length) ∧ (∀ j, j < (i + 1 : Nat) → at_ xs (j : Int) < x) from ⟨(by omega), (all_succ hlt (by omega))⟩) (show xs.length - (i + 1 : Nat) < xs.length - i from (by omega)) (Sub.cons rfl (Sub.cons rfl (Sub.cons lookO Sub.nil))) (show Fit κ _ (vc 3 (.slice a xs.length c) (xs) :: I) from Fit.sub)
   ·refine W.exit ?_
    refine V.then_exit ?_
    refine V.then_exit ?_
    refine V.block_hit ?_
    exact V.mid ((i)) (show ((i : Nat) ≤ xs.length) ∧ (∀ j, j < (i : Nat) → at_ xs (j : Int) < x) ∧ ((i : Nat) = xs.length ∨ ((i : Nat) < xs.length ∧ ¬ at_ xs ((i : Nat) : Int) < x)) from ⟨(by omega), hlt, (by omega)⟩) (Sub.cons rfl (Sub.cons rfl (Sub.cons lookO Sub.nil))) (show Fit κ _ (vc 3 (.slice a xs.length c) (xs) :: I) from Fit.sub)
  ·refine G.po ?_
   refine G.po ?_
   refine G.po ?_
   refine G.po ?_
   refine G.po ?_
   refine G.po ?_
   refine G.r (Runs.pickf rfl rfl) ?_
   refine G.nt ?_
   refine W.sub (L' := [(18, _), (0, _), (1, _), (5, _)]) (Sub.cons rfl (Sub.cons rfl (Sub.cons rfl (Sub.cons rfl Sub.nil)))) ?_
   refine W.no rfl ?_
   refine W.exit ?_
   refine V.then_exit ?_
   refine V.then_exit ?_
   refine V.block_hit ?_
   exact V.mid ((i)) (show ((i : Nat) ≤ xs.length) ∧ (∀ j, j < (i : Nat) → at_ xs (j : Int) < x) ∧ ((i : Nat) = xs.length ∨ ((i : Nat) < xs.length ∧ ¬ at_ xs ((i : Nat) : Int) < x)) from ⟨(by omega), hlt, (by omega)⟩) (Sub.cons rfl (Sub.cons rfl (Sub.cons lookO Sub.nil))) (show Fit κ _ (vc 3 (.slice a xs.length c) (xs) :: I) from Fit.sub)
 ·rintro i hp
  obtain ⟨hi, hlt, hst⟩ : (i ≤ xs.length) ∧ (∀ j, j < i → at_ xs (j : Int) < x) ∧ (i = xs.length ∨ (i < xs.length ∧ ¬ at_ xs (i : Int) < x)) := hp
  show W Tryz.prog κ 46 _ _ ([(0, .slice a xs.length c), (1, I64 (x)), (5, I64 (((i : Nat) : Int)))] : Env) (vc 3 (.slice a xs.length c) (xs) :: I)
  refine W.seq ?_
  refine W.sr ?_
  refine G.r (Runs.move rfl) ?_
  refine G.r (Runs.move rfl) ?_
  refine G.r (Runs.lens Tryz.underlying22 rfl) ?_
  refine G.r (Runs.lss rfl rfl) ?_
  refine G.r (Runs.move rfl) ?_
  refine G.split (d := 25) rfl (fun g25 => ?_) (fun g25 => ?_)
  ·refine G.ro (Runs.move rfl) ?_
   refine G.ro (Runs.move rfl) ?_
   refine G.ro (Runs.idx (α := Int) (xs := xs) Tryz.underlying22 ty3 rfl rfl Sl.o (by omega) (by omega)) ?_
   refine G.ro (Runs.get (xs := xs) ty3 rfl Sl.o (by omega) (by omega)) ?_
   refine G.ro (Runs.move rfl) ?_
   refine G.ro (Runs.eql rfl rfl) ?_
   refine G.r (Runs.pickt rfl rfl) ?_
   refine G.nt ?_
   refine W.sub (L' := [(32, _), (0, _), (1, _), (5, _)]) (Sub.cons rfl (Sub.cons rfl (Sub.cons rfl (Sub.cons rfl Sub.nil)))) ?_
   refine W.ite rfl (fun c32 => ?_) (fun c32 => ?_)
   ·refine W.sr ?_
    refine G.r (Runs.move rfl) ?_
    refine G.r (Runs.assign rfl) ?_
    refine G.nt ?_
    refine W.ret ?_
    refine V.then_ret ?_
    have hp := (putL_at xs i x hi hlt).1 (by omega) (by omega)
    exact V.ret1 rfl rfl (_) Fit.m ⟨a, c, by rw [hp], by rw [hp]⟩
   ·refine W.skip ?_
    refine V.then ?_
    refine W.sr ?_
    refine G.r (Runs.move rfl) ?_
    refine G.r (Runs.move rfl) ?_
    refine G.r (Runs.hi (α := Int) (xs := xs) (h := i) Tryz.underlying22 ty3 rfl rfl (by omega) Sl.o (by omega)) ?_
    refine G.e (Eff.clone (α := Int) (ys := List.take i xs) Tryz.underlying22 ty3 rfl rfl rfl (Sl.take Sl.o (by omega)) (by simp only [List.length_append, List.length_cons, List.length_nil, List.length_take, List.length_drop]; omega) (by decide) rfl) ?_
    rintro _ _ ⟨ad1, cp2, rfl, rfl⟩
    refine G.r (Runs.assign rfl) ?_
    refine G.nt ?_
    refine W.seq ?_
    refine W.drawn mixed ?_
    refine A.hold (vc 3 (.slice a xs.length c) (xs) :: I) 9 ?_
    refine D.r 0 rfl (Runs.move rfl) ?_ (hJ := Fit.sub)
    refine D.r 1 rfl (Runs.move rfl) ?_ (hJ := Fit.sub)
    refine D.r 4 rfl (Runs.move rfl) ?_ (hJ := Fit.sub)
    refine D.r 5 rfl (Runs.move rfl) ?_ (hJ := Fit.sub)
    refine D.r 6 rfl (Runs.lo (α := Int) (xs := xs) (l := i) Tryz.underlying22 ty3 rfl rfl (by omega) Sl.o (by omega)) ?_ (hJ := Fit.sub)
    refine D.step (rs := [2]) (by kernel_rfl) rfl rfl (all1 ?_)
    refine Step.eff rfl (Wanted.plain rfl) (Eff.bs (α := Int) (cs := [_]) (xs := [x]) Tryz.underlying22 ty3 rfl rfl (by decide) (by decide) rfl rfl rfl rfl) ?_
    rintro _ _ ⟨ad3, rfl, rfl⟩
    refine ⟨Fit.sub, ?_⟩
    refine D.step (rs := [3]) (by kernel_rfl) rfl rfl (all1 ?_)
    refine Step.eff rfl (Wanted.plain rfl) (Eff.app (α := Int) (e := 3) (xs := List.take i xs) (ys := ([x] : List Int)) Tryz.underlying22 ty3 rfl rfl rfl (by repeat (first | exact List.mem_cons_self | apply List.mem_cons_of_mem)) Sl.o (by simp only [List.length_append, List.length_cons, List.length_nil, List.length_take, List.length_drop]; omega) (by decide) rfl (fun _ _ => (by repeat (first | exact At.head _ _ _ | apply At.tail)))) ?_
    rintro _ _ ⟨ad4, cp5, rfl, rfl⟩
    refine ⟨Fit.sub, ?_⟩
    refine D.step (rs := [7]) (by kernel_rfl) rfl rfl (all1 ?_)
    refine Step.eff rfl (Wanted.plain rfl) (Eff.app (α := Int) (e := 3) (xs := (List.take i xs) ++ ([x] : List Int)) (ys := List.drop i xs) Tryz.underlying22 ty3 rfl rfl rfl (by repeat (first | exact List.mem_cons_self | apply List.mem_cons_of_mem)) (Sl.drop Sl.o (by omega)) (by simp only [List.length_append, List.length_cons, List.length_nil, List.length_take, List.length_drop]; omega) (by decide) rfl (fun _ _ => (by repeat (first | exact At.head _ _ _ | apply At.tail)))) ?_
    rintro _ _ ⟨ad6, cp7, rfl, rfl⟩
    refine ⟨Fit.sub, ?_⟩
    refine D.r 8 rfl (Runs.assign rfl) ?_ (hJ := Fit.sub)
    refine D.done (by kernel_rfl) ?_
    refine V.then ?_
    refine W.sub (L' := [(4, _)]) (Sub.cons rfl Sub.nil) ?_
    refine W.ret ?_
    have hp := (putL_at xs i x hi hlt).2 (by omega)
    exact V.ret1 rfl rfl (vc 3 (.slice ad6 (putL xs x).length cp7) (putL xs x) :: I) (by rw [hp]; exact Fit.sub) ⟨ad6, cp7, by rw [hp], rfl⟩
  ·refine G.po ?_
   refine G.po ?_
   refine G.po ?_
   refine G.po ?_
   refine G.po ?_
   refine G.po ?_
   refine G.r (Runs.pickf rfl rfl) ?_
   refine G.nt ?_
   refine W.sub (L' := [(32, _), (0, _), (1, _), (5, _)]) (Sub.cons rfl (Sub.cons rfl (Sub.cons rfl (Sub.cons rfl Sub.nil)))) ?_
   refine W.no rfl ?_
   refine W.skip ?_
   refine V.then ?_
   refine W.sr ?_
   refine G.r (Runs.move rfl) ?_
   refine G.r (Runs.move rfl) ?_
   refine G.r (Runs.hi (α := Int) (xs := xs) (h := i) Tryz.underlying22 ty3 rfl rfl (by omega) Sl.o (by omega)) ?_
   refine G.e (Eff.clone (α := Int) (ys := List.take i xs) Tryz.underlying22 ty3 rfl rfl rfl (Sl.take Sl.o (by omega)) (by simp only [List.length_append, List.length_cons, List.length_nil, List.length_take, List.length_drop]; omega) (by decide) rfl) ?_
   rintro _ _ ⟨ad8, cp9, rfl, rfl⟩
   refine G.r (Runs.assign rfl) ?_
   refine G.nt ?_
   refine W.seq ?_
   refine W.drawn mixed ?_
   refine A.hold (vc 3 (.slice a xs.length c) (xs) :: I) 9 ?_
   refine D.r 0 rfl (Runs.move rfl) ?_ (hJ := Fit.sub)
   refine D.r 1 rfl (Runs.move rfl) ?_ (hJ := Fit.sub)
   refine D.r 4 rfl (Runs.move rfl) ?_ (hJ := Fit.sub)
   refine D.r 5 rfl (Runs.move rfl) ?_ (hJ := Fit.sub)
   refine D.r 6 rfl (Runs.lo (α := Int) (xs := xs) (l := i) Tryz.underlying22 ty3 rfl rfl (by omega) Sl.o (by omega)) ?_ (hJ := Fit.sub)
   refine D.step (rs := [2]) (by kernel_rfl) rfl rfl (all1 ?_)
   refine Step.eff rfl (Wanted.plain rfl) (Eff.bs (α := Int) (cs := [_]) (xs := [x]) Tryz.underlying22 ty3 rfl rfl (by decide) (by decide) rfl rfl rfl rfl) ?_
   rintro _ _ ⟨ad10, rfl, rfl⟩
   refine ⟨Fit.sub, ?_⟩
   refine D.step (rs := [3]) (by kernel_rfl) rfl rfl (all1 ?_)
   refine Step.eff rfl (Wanted.plain rfl) (Eff.app (α := Int) (e := 3) (xs := List.take i xs) (ys := ([x] : List Int)) Tryz.underlying22 ty3 rfl rfl rfl (by repeat (first | exact List.mem_cons_self | apply List.mem_cons_of_mem)) Sl.o (by simp only [List.length_append, List.length_cons, List.length_nil, List.length_take, List.length_drop]; omega) (by decide) rfl (fun _ _ => (by repeat (first | exact At.head _ _ _ | apply At.tail)))) ?_
   rintro _ _ ⟨ad11, cp12, rfl, rfl⟩
   refine ⟨Fit.sub, ?_⟩
   refine D.step (rs := [7]) (by kernel_rfl) rfl rfl (all1 ?_)
   refine Step.eff rfl (Wanted.plain rfl) (Eff.app (α := Int) (e := 3) (xs := (List.take i xs) ++ ([x] : List Int)) (ys := List.drop i xs) Tryz.underlying22 ty3 rfl rfl rfl (by repeat (first | exact List.mem_cons_self | apply List.mem_cons_of_mem)) (Sl.drop Sl.o (by omega)) (by simp only [List.length_append, List.length_cons, List.length_nil, List.length_take, List.length_drop]; omega) (by decide) rfl (fun _ _ => (by repeat (first | exact At.head _ _ _ | apply At.tail)))) ?_
   rintro _ _ ⟨ad13, cp14, rfl, rfl⟩
   refine ⟨Fit.sub, ?_⟩
   refine D.r 8 rfl (Runs.assign rfl) ?_ (hJ := Fit.sub)
   refine D.done (by kernel_rfl) ?_
   refine V.then ?_
   refine W.sub (L' := [(4, _)]) (Sub.cons rfl Sub.nil) ?_
   refine W.ret ?_
   have hp := (putL_at xs i x hi hlt).2 (by omega)
   exact V.ret1 rfl rfl (vc 3 (.slice ad13 (putL xs x).length cp14) (putL xs x) :: I) (by rw [hp]; exact Fit.sub) ⟨ad13, cp14, by rw [hp], rfl⟩

theorem Put_at {κ : Ctx} {I : List Item} {F : Item → List Item} {a : Option Addr} {c : Nat} {xs : List Int} (hat : AtF I (vc 3 (.slice a xs.length c) xs) F) (hb : xs.length < 17592186044415) (x : Int) :
    CallS Tryz.prog κ 112 [.slice a xs.length c, I64 x] I fun r J => ∃ a' c', r = .slice a' (putL xs x).length c' ∧ J = F (vc 3 (.slice a' (putL xs x).length c') (putL xs x)) :=
  (CallS.at (Z := fun _ => []) (X := fun y : Option Addr × Nat => vc 3 (.slice y.1 (putL xs x).length y.2) (putL xs x)) (Post := fun r y => r = .slice y.1 (putL xs x).length y.2) hat fun J _ _ => (Put_ok (a := a) (c := c) hb x).mono fun r J' ⟨a', c', h1, h2⟩ => ⟨(a', c'), h1, h2⟩).mono fun _ _ ⟨y, h1, h2⟩ => ⟨y.1, y.2, h1, h2⟩

theorem Of_ok {κ : Ctx} {I : List Item} {v : Value} {xs : List Int} (hl : Sl κ I v xs) (hb : xs.length < 17592186044415) :
    CallS Tryz.prog κ 56 [v] I (fun r J => ∃ a c, r = .slice a (ofL xs).length c ∧ J = vc 3 (.slice a (ofL xs).length c) (ofL xs) :: I) := by
 refine CallS.pull hl.le fun hmax => ?_
 refine CallS.enter (L := [(0, v)]) Tryz.func56 rfl rfl rfl rfl ?_
 refine W.sr ?_
 refine G.r (Runs.assign rfl) ?_
 refine G.nt ?_
 refine W.sr ?_
 refine G.r (Runs.assign rfl) ?_
 refine G.nt ?_
 refine W.seq ?_
 refine W.sr ?_
 refine G.r (Runs.move rfl) ?_
 refine G.r (Runs.lenT (α := Int) (xs := xs) Tryz.underlying22 rfl (Sl.f hl)) ?_
 refine G.r (Runs.move rfl) ?_
 refine G.nt ?_
 refine W.block ?_
 refine W.loop (σ := Nat × (Option Addr) × Nat × (List Int)) (fun s => ([(3, .slice s.2.1 s.2.2.2.length s.2.2.1), (6, v), (7, I64 (((xs.length : Nat) : Int))), (8, I64 (((s.1 : Nat) : Int)))] : Env)) (fun s => vc 3 (.slice s.2.1 s.2.2.2.length s.2.2.1) (s.2.2.2) :: I) (fun s => (s.1 ≤ xs.length) ∧ (s.2.2.2 = ofL (xs.take s.1))) (fun s => xs.length - s.1) (0, none, 0, []) (show ((0 : Nat) ≤ xs.length) ∧ (([] : List Int) = ofL (xs.take (0 : Nat))) from ⟨(by omega), rfl⟩) (Sub.cons (lookV rfl (by first | rfl | simp)) (Sub.cons rfl (Sub.cons rfl (Sub.cons lookO Sub.nil)))) (show Fit κ _ (vc 3 (.slice (none) ([]).length (0)) (([])) :: I) from (Fit.nilvc _ _)) ?_
 rintro ⟨k, a, c, out⟩ hp
 obtain ⟨hk, ho⟩ : (k ≤ xs.length) ∧ (out = ofL (xs.take k)) := hp
 show W Tryz.prog κ 17 _ _ ([(3, .slice a out.length c), (6, v), (7, I64 (((xs.length : Nat) : Int))), (8, I64 (((k : Nat) : Int)))] : Env) (vc 3 (.slice a out.length c) (out) :: I)
 refine W.sr ?_
 refine G.r (Runs.lss rfl rfl) ?_
 refine G.nt ?_
 refine W.seq ?_
 refine W.ite rfl (fun c9 => ?_) (fun c9 => ?_)
 ·refine W.skip ?_
  refine V.then ?_
  refine W.seq ?_
  refine W.block ?_
  refine W.sr ?_
  refine G.r (Runs.idx (α := Int) (xs := xs) Tryz.underlying22 ty3 rfl rfl (Sl.f hl) (by omega) (by omega)) ?_
  refine G.r (Runs.get (xs := xs) ty3 rfl (Sl.f hl) (by omega) (by omega)) ?_
  refine G.r (Runs.assign rfl) ?_
  refine G.nt ?_
  refine W.region ?_
  refine G.r (Runs.move rfl) ?_
  refine G.r (Runs.move rfl) ?_
  refine G.e (Eff.call call112 rfl rfl (Put_at (by repeat (first | exact AtF.head _ _ | apply AtF.tail)) (by rw [ho]; have := ofL_len (xs.take k); simp only [List.length_take] at this; omega) (at_ xs ((k : Nat) : Int)))) ?_
  rintro _ _ ⟨_, _, ⟨ad1, cp2, rfl, rfl⟩, rfl, rfl⟩
  show G Tryz.prog κ _ _ _ _ ([(14, .slice ad1 (putL out (at_ xs ((k : Nat) : Int))).length cp2), (13, I64 (at_ xs ((k : Nat) : Int))), (12, .slice a out.length c), (5, I64 (at_ xs ((k : Nat) : Int))), (11, I64 (at_ xs ((k : Nat) : Int))), (10, elemPtr (v) ((((k : Nat) : Int)).toNat * Enc.sz Int)), (9, .bool (decide (((k : Nat) : Int) < ((xs.length : Nat) : Int)))), (3, .slice a out.length c), (6, v), (7, I64 (((xs.length : Nat) : Int))), (8, I64 (((k : Nat) : Int)))] : Env) (vc 3 (.slice ad1 (putL out (at_ xs ((k : Nat) : Int))).length cp2) (putL out (at_ xs ((k : Nat) : Int))) :: I)
  refine G.r (Runs.assign rfl) ?_
  refine G.nil ?_
  refine V.block_normal ?_
  refine V.then ?_
  refine W.region ?_
  refine G.r (Runs.add rfl rfl (by unfold InR; omega)) ?_
  refine G.r (Runs.move rfl) ?_
  refine G.nil ?_
  exact V.next ((k + 1), (ad1), (cp2), (putL out (at_ xs ((k : Nat) : Int)))) (show ((k + 1 : Nat) ≤ xs.length) ∧ ((putL out (at_ xs ((k : Nat) : Int)) : List Int) = ofL (xs.take (k + 1 : Nat))) from ⟨(by omega), (by rw [ofL_take xs k (by omega), ← ho])⟩) (show xs.length - (k + 1 : Nat) < xs.length - k from (by omega)) (Sub.cons (lookV rfl (by first | rfl | simp)) (Sub.cons rfl (Sub.cons rfl (Sub.cons lookO Sub.nil)))) (show Fit κ _ (vc 3 (.slice (ad1) (putL out (at_ xs ((k : Nat) : Int))).length (cp2)) ((putL out (at_ xs ((k : Nat) : Int)))) :: I) from Fit.sub)
 ·refine W.exit ?_
  refine V.then_exit ?_
  refine V.then_exit ?_
  refine V.block_hit ?_
  refine V.then ?_
  refine W.sr ?_
  refine G.r (Runs.move rfl) ?_
  refine G.r (Runs.assign rfl) ?_
  refine G.nt ?_
  refine W.ret ?_
  have hk2 : xs.take k = xs := List.take_of_length_le (by omega)
  rw [hk2] at ho
  subst ho
  exact V.ret1 rfl rfl (_) Fit.m ⟨a, c, rfl, rfl⟩

theorem Union_ok {κ : Ctx} {I : List Item} {u v : Value} {xs ys : List Int} (hu : Sl κ I u xs) (hv : Sl κ I v ys) (hb : xs.length + ys.length < 17592186044415) :
    CallS Tryz.prog κ 95 [u, v] I (fun r J => ∃ a c, r = .slice a (ofL (xs ++ ys)).length c ∧ J = vc 3 (.slice a (ofL (xs ++ ys)).length c) (ofL (xs ++ ys)) :: I) := by
 refine CallS.enter (L := [(0, u), (1, v)]) Tryz.func95 rfl rfl rfl rfl ?_
 refine W.sr ?_
 refine G.r (Runs.assign rfl) ?_
 refine G.nt ?_
 refine W.sr ?_
 refine G.r (Runs.move rfl) ?_
 refine G.e (Eff.clone (α := Int) (ys := xs) Tryz.underlying22 ty3 rfl rfl rfl (Sl.f hu) (by omega) (by decide) rfl) ?_
 rintro _ _ ⟨ad1, cp2, rfl, rfl⟩
 refine G.r (Runs.move rfl) ?_
 refine G.e (Eff.app (α := Int) (e := 3) (xs := xs) (ys := ys) Tryz.underlying22 ty3 rfl rfl rfl (by repeat (first | exact List.mem_cons_self | apply List.mem_cons_of_mem)) (Sl.f hv) (by omega) (by decide) rfl (fun _ _ => (by repeat (first | exact At.head _ _ _ | apply At.tail)))) ?_
 rintro _ _ ⟨ad3, cp4, rfl, rfl⟩
 refine G.e (Eff.call call56 rfl rfl (Of_ok Sl.o (by simp only [List.length_append]; omega))) ?_
 rintro _ _ ⟨_, _, ⟨ad5, cp6, rfl, rfl⟩, rfl, rfl⟩
 refine G.r (Runs.assign rfl) ?_
 refine G.nt ?_
 refine W.ret ?_
 exact V.ret1 rfl rfl (vc 3 (.slice ad5 (ofL (xs ++ ys)).length cp6) (ofL (xs ++ ys)) :: I) Fit.sub ⟨ad5, cp6, rfl, rfl⟩

def minusL (xs ys : List Int) : List Int := (ofL xs).filter fun x => decide (x ∉ ys)
theorem filter_take (xs : List Int) (p : Int → Bool) (k : Nat) (h : k < xs.length) : (xs.take (k + 1)).filter p = (xs.take k).filter p ++ if p (at_ xs (k : Int)) then [at_ xs (k : Int)] else [] := by
  rw [take_at xs k h, List.filter_append]
  congr 1
  by_cases hp : p (at_ xs (k : Int)) <;> simp [List.filter_cons, hp]
theorem filter_take_yes (xs : List Int) (p : Int → Bool) (k : Nat) (h : k < xs.length) (hp : p (at_ xs (k : Int)) = true) : (xs.take (k + 1)).filter p = (xs.take k).filter p ++ [at_ xs (k : Int)] := by
  rw [filter_take xs p k h, if_pos hp]
theorem filter_take_no (xs : List Int) (p : Int → Bool) (k : Nat) (h : k < xs.length) (hp : p (at_ xs (k : Int)) = false) : (xs.take (k + 1)).filter p = (xs.take k).filter p := by
  rw [filter_take xs p k h, hp]; simp
theorem filter_take_len (xs : List Int) (p : Int → Bool) (k : Nat) : ((xs.take k).filter p).length ≤ xs.length := by
  have h1 := List.length_filter_le p (xs.take k)
  have h2 := List.length_take_le' k xs
  omega

theorem Minus_ok {κ : Ctx} {I : List Item} {u v : Value} {xs ys : List Int} (hu : Sl κ I u xs) (hv : Sl κ I v ys) (hb : xs.length < 17592186044415) :
    CallS Tryz.prog κ 99 [u, v] I (fun r J => ∃ a c, r = .slice a (minusL xs ys).length c ∧ J = vc 3 (.slice a (minusL xs ys).length c) (minusL xs ys) :: I) := by
 have hol := ofL_len xs
 refine CallS.enter (L := [(0, u), (1, v)]) Tryz.func99 rfl rfl rfl rfl ?_
 refine W.sr ?_
 refine G.r (Runs.assign rfl) ?_
 refine G.nt ?_
 refine W.sr ?_
 refine G.r (Runs.assign rfl) ?_
 refine G.nt ?_
 refine W.seq ?_
 refine W.sr ?_
 refine G.r (Runs.move rfl) ?_
 refine G.e (Eff.call call56 rfl rfl (Of_ok (Sl.f hu) (by omega))) ?_
 rintro _ _ ⟨_, _, ⟨ad1, cp2, rfl, rfl⟩, rfl, rfl⟩
 refine G.r (Runs.lens Tryz.underlying22 rfl) ?_
 refine G.r (Runs.move rfl) ?_
 refine G.nt ?_
 refine W.block ?_
 refine W.loop (σ := Nat × (Option Addr) × Nat × (List Int)) (fun s => ([(1, v), (5, .slice s.2.1 s.2.2.2.length s.2.2.1), (9, .slice ad1 (ofL xs).length cp2), (10, I64 ((((ofL xs).length : Nat) : Int))), (11, I64 (((s.1 : Nat) : Int)))] : Env)) (fun s => vc 3 (.slice s.2.1 s.2.2.2.length s.2.2.1) (s.2.2.2) :: vc 3 (.slice ad1 (ofL xs).length cp2) (ofL xs) :: I) (fun s => (s.1 ≤ (ofL xs).length) ∧ (s.2.2.2 = ((ofL xs).take s.1).filter (fun x => decide (x ∉ ys)))) (fun s => (ofL xs).length - s.1) (0, none, 0, []) (show ((0 : Nat) ≤ (ofL xs).length) ∧ (([] : List Int) = ((ofL xs).take (0 : Nat)).filter (fun x => decide (x ∉ ys))) from ⟨(by omega), rfl⟩) (Sub.cons rfl (Sub.cons (lookV rfl (by first | rfl | simp)) (Sub.cons rfl (Sub.cons rfl (Sub.cons lookO Sub.nil))))) (show Fit κ _ (vc 3 (.slice (none) ([]).length (0)) (([])) :: vc 3 (.slice ad1 (ofL xs).length cp2) (ofL xs) :: I) from (Fit.nilvc _ _)) ?_
 rintro ⟨k, a, c, out⟩ hp
 obtain ⟨hk, ho⟩ : (k ≤ (ofL xs).length) ∧ (out = ((ofL xs).take k).filter (fun x => decide (x ∉ ys))) := hp
 show W Tryz.prog κ 25 _ _ ([(1, v), (5, .slice a out.length c), (9, .slice ad1 (ofL xs).length cp2), (10, I64 ((((ofL xs).length : Nat) : Int))), (11, I64 (((k : Nat) : Int)))] : Env) (vc 3 (.slice a out.length c) (out) :: vc 3 (.slice ad1 (ofL xs).length cp2) (ofL xs) :: I)
 refine W.sr ?_
 refine G.r (Runs.lss rfl rfl) ?_
 refine G.nt ?_
 refine W.seq ?_
 refine W.ite rfl (fun c12 => ?_) (fun c12 => ?_)
 ·refine W.skip ?_
  refine V.then ?_
  refine W.seq ?_
  refine W.block ?_
  refine W.sr ?_
  refine G.r (Runs.idx (α := Int) (xs := ofL xs) Tryz.underlying22 ty3 rfl rfl Sl.o (by omega) (by omega)) ?_
  refine G.r (Runs.get (xs := ofL xs) ty3 rfl Sl.o (by omega) (by omega)) ?_
  refine G.r (Runs.assign rfl) ?_
  refine G.nt ?_
  refine W.sr ?_
  refine G.r (Runs.move rfl) ?_
  refine G.r (Runs.move rfl) ?_
  refine G.e (Eff.call call60 rfl rfl (RHas_ok (Sl.f hv) (at_ (ofL xs) ((k : Nat) : Int)))) ?_
  rintro _ _ ⟨_, _, ⟨rfl, rfl⟩, rfl, rfl⟩
  refine G.r (Runs.notd rfl) ?_
  refine G.nt ?_
  refine W.ite rfl (fun c18 => ?_) (fun c18 => ?_)
  ·refine W.region ?_
   refine G.r (Runs.move rfl) ?_
   refine G.r (Runs.move rfl) ?_
   refine G.e (Eff.bs (α := Int) (cs := [_]) (xs := [at_ (ofL xs) ((k : Nat) : Int)]) Tryz.underlying22 ty3 rfl rfl (by decide) (by decide) rfl rfl rfl rfl) ?_
   rintro _ _ ⟨ad3, rfl, rfl⟩
   refine G.e (Eff.app (α := Int) (e := 3) (xs := out) (ys := ([at_ (ofL xs) ((k : Nat) : Int)] : List Int)) Tryz.underlying22 ty3 rfl rfl rfl (by repeat (first | exact List.mem_cons_self | apply List.mem_cons_of_mem)) Sl.o (by have := ofL_len xs; simp only [List.length_cons, List.length_nil]; rw [ho]; have := filter_take_len (ofL xs) (fun x => decide (x ∉ ys)) k; omega) (by decide) rfl (fun _ _ => (by repeat (first | exact At.head _ _ _ | apply At.tail)))) ?_
   rintro _ _ ⟨ad4, cp5, rfl, rfl⟩
   refine G.r (Runs.assign rfl) ?_
   refine G.nil ?_
   refine V.block_normal ?_
   refine V.then ?_
   refine W.sub (L' := [(5, _), (1, _), (9, _), (10, _), (11, _)]) (Sub.cons rfl (Sub.cons rfl (Sub.cons rfl (Sub.cons rfl (Sub.cons rfl Sub.nil))))) ?_
   refine W.region ?_
   refine G.r (Runs.add rfl rfl (by unfold InR; omega)) ?_
   refine G.r (Runs.move rfl) ?_
   refine G.nil ?_
   exact V.next ((k + 1), (ad4), (cp5), (out ++ ([at_ (ofL xs) ((k : Nat) : Int)] : List Int))) (show ((k + 1 : Nat) ≤ (ofL xs).length) ∧ ((out ++ ([at_ (ofL xs) ((k : Nat) : Int)] : List Int) : List Int) = ((ofL xs).take (k + 1 : Nat)).filter (fun x => decide (x ∉ ys))) from ⟨(by omega), (by first | rw [filter_take_yes _ _ k (by omega) (decide_eq_true c18), ← ho] | rw [filter_take_no _ _ k (by omega) (decide_eq_false c18), ← ho])⟩) (show (ofL xs).length - (k + 1 : Nat) < (ofL xs).length - k from (by omega)) (Sub.cons rfl (Sub.cons (lookV rfl (by first | rfl | simp)) (Sub.cons rfl (Sub.cons rfl (Sub.cons lookO Sub.nil))))) (show Fit κ _ (vc 3 (.slice (ad4) (out ++ ([at_ (ofL xs) ((k : Nat) : Int)] : List Int)).length (cp5)) ((out ++ ([at_ (ofL xs) ((k : Nat) : Int)] : List Int))) :: vc 3 (.slice ad1 (ofL xs).length cp2) (ofL xs) :: I) from Fit.sub)
  ·refine W.skip ?_
   refine V.block_normal ?_
   refine V.then ?_
   refine W.region ?_
   refine G.r (Runs.add rfl rfl (by unfold InR; omega)) ?_
   refine G.r (Runs.move rfl) ?_
   refine G.nil ?_
   exact V.next ((k + 1), (a), (c), (out)) (show ((k + 1 : Nat) ≤ (ofL xs).length) ∧ ((out : List Int) = ((ofL xs).take (k + 1 : Nat)).filter (fun x => decide (x ∉ ys))) from ⟨(by omega), (by first | rw [filter_take_yes _ _ k (by omega) (decide_eq_true c18), ← ho] | rw [filter_take_no _ _ k (by omega) (decide_eq_false c18), ← ho])⟩) (show (ofL xs).length - (k + 1 : Nat) < (ofL xs).length - k from (by omega)) (Sub.cons rfl (Sub.cons (lookV rfl (by first | rfl | simp)) (Sub.cons rfl (Sub.cons rfl (Sub.cons lookO Sub.nil))))) (show Fit κ _ (vc 3 (.slice (a) (out).length (c)) ((out)) :: vc 3 (.slice ad1 (ofL xs).length cp2) (ofL xs) :: I) from Fit.sub)
 ·refine W.exit ?_
  refine V.then_exit ?_
  refine V.then_exit ?_
  refine V.block_hit ?_
  refine V.then ?_
  refine W.sr ?_
  refine G.r (Runs.move rfl) ?_
  refine G.r (Runs.assign rfl) ?_
  refine G.nt ?_
  refine W.ret ?_
  have hk2 : (ofL xs).take k = ofL xs := List.take_of_length_le (by omega)
  rw [hk2] at ho
  have ho2 : out = minusL xs ys := ho
  subst ho2
  exact V.ret1 rfl rfl (vc 3 (.slice a (minusL xs ys).length c) (minusL xs ys) :: I) Fit.sub ⟨a, c, rfl, rfl⟩

end Go.Sl
namespace Go.Sl
open Go.Proofs
set_option linter.unusedVariables false
set_option linter.unusedSimpArgs false
set_option maxRecDepth 4000
theorem ValidP_mem {xs : List Int} {w x : Int} (h : ValidP xs w) (hx : x ∈ xs) : 0 ≤ x ∧ x < w := by
  obtain ⟨j, hj, he⟩ := mem_at hx
  rw [← he]; exact (h j hj).1
end Go.Sl
namespace Go.Sl
open Go.Proofs
set_option linter.unusedVariables false
set_option linter.unusedSimpArgs false
set_option maxRecDepth 4000
theorem intLin : LinO (fun a b : Int => a < b) := ⟨fun a h => by omega, fun a b c h1 h2 => by omega, fun a b => by omega⟩
theorem putL_eq (x : Int) : ∀ l, putL l x = insB (fun a b : Int => a < b) l x
  | [] => rfl
  | y :: ys => by simp only [putL, insB, putL_eq x ys]
theorem ofL_eq (l : List Int) : ofL l = sortB (fun a b : Int => a < b) l := by
  unfold ofL sortB
  congr 1
  funext acc x
  exact putL_eq x acc
theorem ofL_asc (l : List Int) : (ofL l).Pairwise (fun a b : Int => a < b) := by rw [ofL_eq]; exact intLin.sortB l
theorem ValidP_iff {l : List Int} {N : Int} : ValidP l N ↔ (∀ x ∈ l, 0 ≤ x ∧ x < N) ∧ l.Pairwise (fun a b : Int => a < b) := by
  constructor
  · intro h
    refine ⟨fun x hx => ValidP_mem h hx, pairwise_next intLin.tr fun i hi => ?_⟩
    have := (h (i + 1) hi).2 (by omega)
    rwa [show ((i + 1 : Nat) : Int) - 1 = (i : Int) from by omega] at this
  · rintro ⟨h1, h2⟩ j hj
    refine ⟨h1 _ (at_mem (by omega) (by omega)), fun h0 => ?_⟩
    have := (pairwise_at l).1 h2 (j - 1) j (by omega) hj
    rwa [show ((j - 1 : Nat) : Int) = (j : Int) - 1 from by omega] at this
end Go.Sl
