/- A part of the proofs of statements of this seat: contracts of functions, and the plain laws that they lean on. No conditions. -/
import Derived.Test.YtbimaodbcjjbfaaLib
import Derived.Test.YtbimaodbcjjbfaaTy
/- Ascending lists under a linear order: putting in, sorting, uniqueness. No Go. No conditions. -/
namespace Go.Sl
set_option linter.unusedVariables false
set_option linter.unusedSectionVars false

structure LinO {α : Type} (lt : α → α → Prop) : Prop where
  irr : ∀ a, ¬ lt a a
  tr : ∀ a b c, lt a b → lt b c → lt a c
  tri : ∀ a b, lt a b ∨ a = b ∨ lt b a

section
variable {α : Type} {lt : α → α → Prop}
theorem LinO.asymm (h : LinO lt) {a b : α} (h1 : lt a b) : ¬ lt b a := fun h2 => h.irr a (h.tr a b a h1 h2)
theorem LinO.ne (h : LinO lt) {a b : α} (h1 : lt a b) : a ≠ b := fun e => by subst e; exact h.irr a h1
/-- Two ascending lists with the same members are one. -/
theorem LinO.uniq (h : LinO lt) : ∀ {l m : List α}, l.Pairwise lt → m.Pairwise lt → (∀ x, x ∈ l ↔ x ∈ m) → l = m
  | [], [], _, _, _ => rfl
  | [], y :: ys, _, _, e => absurd ((e y).2 List.mem_cons_self) (by simp)
  | x :: xs, [], _, _, e => absurd ((e x).1 List.mem_cons_self) (by simp)
  | x :: xs, y :: ys, hl, hm, e => by
    obtain ⟨hl1, hl2⟩ := List.pairwise_cons.1 hl
    obtain ⟨hm1, hm2⟩ := List.pairwise_cons.1 hm
    have hxy : x = y := by
      rcases List.mem_cons.1 ((e x).1 List.mem_cons_self) with h1 | h1
      · exact h1
      · rcases List.mem_cons.1 ((e y).2 List.mem_cons_self) with h2 | h2
        · exact h2.symm
        · exact absurd (hl1 y h2) (h.asymm (hm1 x h1))
    subst hxy
    rw [h.uniq hl2 hm2 fun z => ?_]
    constructor
    · intro hz
      rcases List.mem_cons.1 ((e z).1 (List.mem_cons_of_mem _ hz)) with h1 | h1
      · subst h1; exact absurd (hl1 z hz) (h.irr z)
      · exact h1
    · intro hz
      rcases List.mem_cons.1 ((e z).2 (List.mem_cons_of_mem _ hz)) with h1 | h1
      · subst h1; exact absurd (hm1 z hz) (h.irr z)
      · exact h1

variable [DecidableRel lt] [DecidableEq α]
variable (lt) in
/-- x put into a list before the first one that is not less. -/
def insB : List α → α → List α
  | [], x => [x]
  | y :: ys, x => if lt y x then y :: insB ys x else if y = x then y :: ys else x :: y :: ys
variable (lt) in
def sortB (l : List α) : List α := l.foldl (insB lt) []

theorem mem_insB (x y : α) : ∀ l, y ∈ insB lt l x ↔ y = x ∨ y ∈ l
  | [] => by simp [insB]
  | z :: zs => by
    simp only [insB]
    split
    · simp only [List.mem_cons, mem_insB x y zs]
      constructor
      · rintro (h | h | h) <;> simp [h]
      · rintro (h | h | h) <;> simp [h]
    · split
      · rename_i e; subst e; simp
      · simp
theorem mem_foldl_insB (y : α) : ∀ (l acc : List α), y ∈ l.foldl (insB lt) acc ↔ y ∈ l ∨ y ∈ acc
  | [], acc => by simp
  | x :: l, acc => by
    rw [List.foldl_cons, mem_foldl_insB y l, mem_insB]
    simp only [List.mem_cons]
    constructor
    · rintro (h | h | h) <;> simp [h]
    · rintro ((h | h) | h) <;> simp [h]
theorem mem_sortB (l : List α) (y : α) : y ∈ sortB lt l ↔ y ∈ l := by simp [sortB, mem_foldl_insB]
theorem LinO.insB (h : LinO lt) (x : α) : ∀ {l : List α}, l.Pairwise lt → (Sl.insB lt l x).Pairwise lt
  | [], _ => by simp [Sl.insB]
  | y :: ys, hl => by
    obtain ⟨hl1, hl2⟩ := List.pairwise_cons.1 hl
    simp only [Sl.insB]
    split
    · rename_i hyx
      refine List.pairwise_cons.2 ⟨fun z hz => ?_, h.insB x hl2⟩
      rcases (mem_insB x z ys).1 hz with rfl | hz
      · exact hyx
      · exact hl1 z hz
    · rename_i hyx
      split
      · exact hl
      · rename_i hne
        have hxy : lt x y := by
          rcases h.tri x y with h1 | h1 | h1
          · exact h1
          · exact absurd h1.symm hne
          · exact absurd h1 hyx
        refine List.pairwise_cons.2 ⟨fun z hz => ?_, hl⟩
        rcases List.mem_cons.1 hz with rfl | hz
        · exact hxy
        · exact h.tr _ _ _ hxy (hl1 z hz)
theorem LinO.foldB (h : LinO lt) : ∀ (l acc : List α), acc.Pairwise lt → (l.foldl (Sl.insB lt) acc).Pairwise lt
  | [], acc, ha => ha
  | x :: l, acc, ha => h.foldB l _ (h.insB x ha)
theorem LinO.sortB (h : LinO lt) (l : List α) : (Sl.sortB lt l).Pairwise lt := h.foldB l [] List.Pairwise.nil
theorem LinO.sortB_eq (h : LinO lt) {l m : List α} (hl : l.Pairwise lt) (e : ∀ x, x ∈ l ↔ x ∈ m) : Sl.sortB lt m = l :=
  h.uniq (h.sortB m) hl fun x => by rw [mem_sortB]; exact (e x).symm
theorem LinO.sortB_congr (h : LinO lt) {l m : List α} (e : ∀ x, x ∈ l ↔ x ∈ m) : Sl.sortB lt l = Sl.sortB lt m := h.sortB_eq (h.sortB m) fun x => by rw [mem_sortB]; exact (e x).symm
theorem insB_len (x : α) : ∀ l, (insB lt l x).length ≤ l.length + 1
  | [] => by simp [insB]
  | y :: ys => by
    simp only [insB]
    split
    · have := insB_len x ys; simp; omega
    · split <;> simp
theorem sortB_len (l : List α) : (sortB lt l).length ≤ l.length := by
  have h : ∀ (l acc : List α), (l.foldl (insB lt) acc).length ≤ l.length + acc.length := fun l => by
    induction l with
    | nil => intro acc; simp
    | cons x l ih => intro acc; have := ih (insB lt acc x); have := insB_len (lt := lt) x acc; simp; omega
  have := h l []
  simpa [sortB] using this
section
variable [Inhabited α]
end
end

/-! ### Ascending lists by places -/
section
variable {α : Type} {lt : α → α → Prop} [Inhabited α]
theorem pairwise_at (l : List α) : l.Pairwise lt ↔ ∀ i j : Nat, i < j → j < l.length → lt (at_ l (i : Int)) (at_ l (j : Int)) := by
  rw [List.pairwise_iff_getElem]
  constructor
  · intro h i j hij hj
    rw [at_get l i (by omega), at_get l j hj]; exact h i j (by omega) hj hij
  · intro h i j hi hj hij
    have := h i j hij hj
    rwa [at_get l i (by omega), at_get l j hj] at this
end

/-! ### Pairs of numbers: edges and records -/
structure Pt where
  u : Int
  v : Int
deriving Inhabited, DecidableEq
instance : Enc Pt := ⟨fun a => [I64 a.u, I64 a.v], 2, by omega, fun _ => rfl, fun a x h => by
  simp only [List.mem_cons, List.not_mem_nil, or_false] at h
  rcases h with rfl | rfl <;> rfl⟩
def Pt.lt (a b : Pt) : Prop := a.u < b.u ∨ (a.u = b.u ∧ a.v < b.v)
instance : DecidableRel Pt.lt := fun a b => by unfold Pt.lt; infer_instance
theorem Pt.lin : LinO Pt.lt where
  irr a h := by unfold Pt.lt at h; omega
  tr a b c h1 h2 := by unfold Pt.lt at *; omega
  tri a b := by
    unfold Pt.lt
    by_cases h : a = b
    · exact .inr (.inl h)
    · have : ¬ (a.u = b.u ∧ a.v = b.v) := fun e => h (by cases a; cases b; simp_all)
      omega
theorem Pt.ext_iff' (a b : Pt) : a = b ↔ a.u = b.u ∧ a.v = b.v := by
  constructor
  · rintro rfl; exact ⟨rfl, rfl⟩
  · intro e; cases a; cases b; simp_all
def Pt.swap (a : Pt) : Pt := ⟨a.v, a.u⟩
/-- The order of two pairs as a number. -/
def Pt.cmp (a b : Pt) : Int := if a.u < b.u then -1 else if b.u < a.u then 1 else if a.v < b.v then -1 else if b.v < a.v then 1 else 0
theorem Pt.cmp_lt (a b : Pt) : Pt.cmp a b < 0 ↔ Pt.lt a b := by unfold Pt.cmp Pt.lt; split <;> (try split) <;> (try split) <;> (try split) <;> omega
theorem Pt.cmp_gt (a b : Pt) : 0 < Pt.cmp a b ↔ Pt.lt b a := by unfold Pt.cmp Pt.lt; split <;> (try split) <;> (try split) <;> (try split) <;> omega
abbrev AscP (l : List Pt) : Prop := l.Pairwise Pt.lt
end Go.Sl
/- Sums over the numbers below a bound. No Go. No conditions. -/
namespace Go.Sl
set_option linter.unusedVariables false

/-! ### Sums -/
end Go.Sl
namespace Go.Sl
open Go.Proofs
set_option linter.unusedVariables false
set_option linter.unusedSimpArgs false
set_option maxRecDepth 4000
/-- A deck of choices in block b: its list in the slice lv, its place 'at'. -/
abbrev deck (b : Nat) (lv : Value) (i : Int) : Item := blk b [lv, I64 i] 129

theorem Mod_ok {κ : Ctx} {I : List Item} {n k : Int} (h1 : 1 ≤ k) (h2 : k ≤ 1000000000000) :
    CallS Try.prog κ 74 [I64 (n), I64 (k)] I (fun r J => ∃ x : Int, r = I64 x ∧ (0 ≤ x ∧ x < k) ∧ I = J) := by
 have q1 := Int.tmod_lt_of_pos n (b := k) (by omega)
 have q2 := Int.lt_tmod_of_pos n (b := k) (by omega)
 refine CallS.enter (L := [(0, I64 (n)), (1, I64 (k))]) Try.func74 rfl rfl rfl rfl ?_
 refine W.sr ?_
 refine G.r (Runs.assign rfl) ?_
 refine G.nt ?_
 refine W.sr ?_
 refine G.r (Runs.move rfl) ?_
 refine G.r (Runs.move rfl) ?_
 refine G.r (Runs.rem rfl rfl (by omega)) ?_
 refine G.r (Runs.move rfl) ?_
 refine G.r (Runs.add rfl rfl (by unfold InR; omega)) ?_
 refine G.r (Runs.move rfl) ?_
 refine G.r (Runs.rem rfl rfl (by omega)) ?_
 refine G.r (Runs.assign rfl) ?_
 refine G.nt ?_
 refine W.ret ?_
 have t1 := Int.tmod_nonneg k (a := Int.tmod n k + k) (by omega)
 have t2 := Int.tmod_lt_of_pos (Int.tmod n k + k) (b := k) (by omega)
 exact V.ret1 rfl rfl (_) Fit.m ⟨_, rfl, ⟨t1, t2⟩, rfl⟩

theorem Next_base {κ : Ctx} {I : List Item} {b : Nat} {lv : Value} {ls : List Int} {i : Int} (hl : Sl κ (deck b lv i :: I) lv ls) (h0 : 0 ≤ i) {n : Int} (hn : n ≤ 1000000000000) :
    CallS Try.prog κ 25 [.pointer (some ⟨b, 0, none⟩), I64 (n)] (blk b [lv, I64 (i)] 129 :: I) (fun r J => ∃ y : Int × Int, (r = I64 y.1 ∧ (0 ≤ y.1 ∧ (1 ≤ n → y.1 < n) ∧ (n < 1 → y.1 = 0)) ∧ 0 ≤ y.2) ∧ J = [] ++ deck b lv y.2 :: I) := by
 refine CallS.pull hl.le fun hmax => ?_
 refine CallS.enter (L := [(0, .pointer (some ⟨b, 0, none⟩)), (1, I64 (n))]) Try.func25 rfl rfl rfl rfl ?_
 refine W.sr ?_
 refine G.r (Runs.assign rfl) ?_
 refine G.nt ?_
 refine W.seq ?_
 refine W.seq ?_
 refine W.drawn mixed ?_
 refine A.hold (blk b [lv, I64 (i)] 129 :: I) 14 ?_
 refine D.r 0 rfl (Runs.move rfl) ?_
 refine D.r 1 rfl (Runs.lss rfl rfl) ?_
 refine D.r 2 rfl (Runs.move rfl) ?_
 refine D.split (d := 8) rfl (fun g8 => ?_) (fun g8 => ?_)
 ·refine D.po 3 rfl ?_
  refine D.po 4 rfl ?_
  refine D.po 5 rfl ?_
  refine D.po 6 rfl ?_
  refine D.po 7 rfl ?_
  refine D.po 8 rfl ?_
  refine D.po 9 rfl ?_
  refine D.po 10 rfl ?_
  refine D.po 11 rfl ?_
  refine D.po 12 rfl ?_
  refine D.r 13 rfl (Runs.pickt rfl rfl) ?_
  refine D.done (by kernel_rfl) ?_
  refine V.then ?_
  refine W.sub (L' := [(19, _), (0, _), (1, _)]) (Sub.cons rfl (Sub.cons rfl (Sub.cons rfl Sub.nil))) ?_
  refine W.yes rfl ?_
  refine W.sr ?_
  refine G.r (Runs.assign rfl) ?_
  refine G.nt ?_
  refine W.ret ?_
  refine V.then_ret ?_
  exact V.ret1 rfl rfl (_) Fit.m ⟨(0, i), ⟨rfl, ⟨Int.le_refl _, by intro _; show (0 : Int) < n; omega, fun _ => rfl⟩, h0⟩, rfl⟩
 ·refine D.ro 3 rfl (Runs.move rfl) ?_
  refine D.ro 4 rfl (Runs.nilCheck rfl) ?_
  refine D.ro 5 rfl (Runs.fieldAddr fld129_1 rfl) ?_
  refine D.ro 6 rfl (Runs.ld ty3) ?_
  refine D.ro 7 rfl (Runs.move rfl) ?_
  refine D.ro 8 rfl (Runs.nilCheck rfl) ?_
  refine D.ro 9 rfl (Runs.fieldAddr fld129_0 rfl) ?_
  refine D.ro 10 rfl (Runs.ld ty22) ?_
  refine D.ro 11 rfl (Runs.lenT (α := Int) (xs := ls) Try.underlying22 rfl (Sl.f hl)) ?_
  refine D.ro 12 rfl (Runs.geq rfl rfl) ?_
  refine D.r 13 rfl (Runs.pickf rfl rfl) ?_
  refine D.done (by kernel_rfl) ?_
  refine V.then ?_
  refine W.sub (L' := [(19, _), (0, _), (1, _)]) (Sub.cons rfl (Sub.cons rfl (Sub.cons rfl Sub.nil))) ?_
  refine W.ite rfl (fun c19 => ?_) (fun c19 => ?_)
  ·refine W.sr ?_
   refine G.r (Runs.assign rfl) ?_
   refine G.nt ?_
   refine W.ret ?_
   refine V.then_ret ?_
   exact V.ret1 rfl rfl (_) Fit.m ⟨(0, i), ⟨rfl, ⟨Int.le_refl _, by intro _; show (0 : Int) < n; omega, fun _ => rfl⟩, h0⟩, rfl⟩
  ·refine W.skip ?_
   refine V.then ?_
   refine W.seq ?_
   refine W.drawn mixed ?_
   refine A.hold (blk b [lv, I64 (i)] 129 :: I) 11 ?_
   refine D.r 0 rfl (Runs.move rfl) ?_
   refine D.r 1 rfl (Runs.nilCheck rfl) ?_
   refine D.r 2 rfl (Runs.fieldAddr fld129_0 rfl) ?_
   refine D.r 3 rfl (Runs.ld ty22) ?_
   refine D.r 4 rfl (Runs.move rfl) ?_
   refine D.r 5 rfl (Runs.nilCheck rfl) ?_
   refine D.r 6 rfl (Runs.fieldAddr fld129_1 rfl) ?_
   refine D.r 7 rfl (Runs.ld ty3) ?_
   refine D.r 8 rfl (Runs.idx (α := Int) (xs := ls) Try.underlying22 ty3 rfl rfl (Sl.f hl) (by omega) (by omega)) ?_
   refine D.r 9 rfl (Runs.get (xs := ls) ty3 rfl (Sl.f hl) (by omega) (by omega)) ?_
   refine D.r 10 rfl (Runs.assign rfl) ?_
   refine D.done (by kernel_rfl) ?_
   refine V.then ?_
   refine W.sub (L' := [(5, _), (0, _), (1, _)]) (Sub.cons rfl (Sub.cons rfl (Sub.cons rfl Sub.nil))) ?_
   refine W.sr ?_
   refine G.r (Runs.move rfl) ?_
   refine G.r (Runs.nilCheck rfl) ?_
   refine G.r (Runs.fieldAddr fld129_1 rfl) ?_
   refine G.r (Runs.ld ty3) ?_
   refine G.r (Runs.add rfl rfl (by unfold InR; omega)) ?_
   refine G.r (Runs.nilCheck rfl) ?_
   refine G.r (Runs.fieldAddr fld129_1 rfl) ?_
   refine G.e (Eff.st (cs := [_, _]) (vs := [_]) (cs' := [_, _]) ty3) ?_
   rintro _ _ ⟨rfl, rfl⟩
   refine G.nt ?_
   refine W.sr ?_
   refine G.r (Runs.move rfl) ?_
   refine G.r (Runs.move rfl) ?_
   refine G.e (Eff.call call74 rfl rfl (Mod_ok (by omega) (by omega))) ?_
   rintro _ _ ⟨_, _, ⟨x1, rfl, hx1, rfl⟩, rfl, rfl⟩
   refine G.r (Runs.assign rfl) ?_
   refine G.nt ?_
   refine W.sub (L' := [(4, _)]) (Sub.cons rfl Sub.nil) ?_
   refine W.ret ?_
   exact V.ret1 rfl rfl (_) Fit.m ⟨(x1, i + 1), ⟨rfl, ⟨by omega, by omega, by omega⟩, by show 0 ≤ i + 1; omega⟩, rfl⟩

theorem Next_ok {κ : Ctx} {I : List Item} {F : Item → List Item} {b : Nat} {lv : Value} {ls : List Int} {i : Int} (hat : AtF I (deck b lv i) F) (hl : Sl κ I lv ls) (h0 : 0 ≤ i) {n : Int} (hn : n ≤ 1000000000000) :
    CallS Try.prog κ 25 [.pointer (some ⟨b, 0, none⟩), I64 n] I fun r J => ∃ x i', r = I64 x ∧ (0 ≤ x ∧ (1 ≤ n → x < n) ∧ (n < 1 → x = 0)) ∧ 0 ≤ i' ∧ J = F (deck b lv i') :=
  (CallS.at (Z := fun _ => []) (X := fun y : Int × Int => deck b lv y.2) hat fun _ hJ _ => Next_base (hl.fit hJ) h0 hn).mono fun _ _ ⟨y, ⟨h1, h2, h3⟩, h4⟩ => ⟨y.1, y.2, h1, h2, h3, h4⟩

theorem New_ok {κ : Ctx} {I : List Item} {a : Option Addr} {n c : Nat} :
    CallS Try.prog κ 22 [.slice a n c] I (fun r J => ∃ b, r = .pointer (some ⟨b, 0, none⟩) ∧ J = deck b (.slice a n c) 0 :: I) := by
 refine CallS.enter (L := [(0, .slice a n c)]) Try.func22 rfl rfl rfl rfl ?_
 refine W.sr ?_
 refine G.r (Runs.assign rfl) ?_
 refine G.nt ?_
 refine W.sr ?_
 refine G.r (Runs.move rfl) ?_
 refine G.r (Runs.build (cells := [_, _]) ty129 Try.underlying129 pl129 rfl rfl) ?_
 refine G.e (Eff.box (cs := [_, _]) rfl rfl rfl) ?_
 rintro _ _ ⟨b1, rfl, rfl⟩
 refine G.r (Runs.assign rfl) ?_
 refine G.nt ?_
 refine W.ret ?_
 exact V.ret1 rfl rfl (_) Fit.m ⟨b1, rfl, rfl⟩

end Go.Sl
namespace Go.Sl
open Go.Proofs
set_option linter.unusedVariables false
set_option linter.unusedSimpArgs false
set_option maxRecDepth 4000
end Go.Sl
namespace Go.Sl
open Go.Proofs
set_option linter.unusedVariables false
set_option linter.unusedSimpArgs false
set_option maxRecDepth 4000
end Go.Sl
namespace Go.Sl
open Go.Proofs
set_option linter.unusedVariables false
set_option linter.unusedSimpArgs false
set_option maxRecDepth 4000
end Go.Sl
namespace Go.Sl
open Go.Proofs
set_option linter.unusedVariables false
set_option linter.unusedSimpArgs false
set_option maxRecDepth 4000
end Go.Sl
