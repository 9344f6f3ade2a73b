/- A part of the proofs of statements of this seat: contracts of functions, and the plain laws that they lean on. No conditions. -/
import Derived.Test.YtbimaodbcjjbfaaGreatDoorDir7
namespace Go.Sl
open Go.Proofs
set_option linter.unusedVariables false
set_option linter.unusedSimpArgs false
set_option maxRecDepth 4000
/-- A function of a node. -/
def Fn1 (P : Program) (κ : Ctx) (I : List Item) (g : FuncId) (caps : List Value) (p : Int → Prop) (cf : Int → Int) : Prop := callable P g = true ∧ ∀ (x : Int) (J : List Item), p x → Fit κ J I → CallS P κ g ([] ++ [I64 x] ++ caps) J fun r J' => r = I64 (cf x) ∧ J = J'
def fewS (cf : Int → Int) (s : Int × Int) (v : Int) : Int × Int := if s.1 < 0 ∨ cf v < s.2 then (v, cf v) else s
/-- The first node with the least number, and that. -/
def fewF (cf : Int → Int) (l : List Int) : Int × Int := l.foldl (fewS cf) (-1, 0)
theorem few_take {cf : Int → Int} {l : List Int} {k : Nat} (h : k < l.length) : fewF cf (l.take (k + 1)) = fewS cf (fewF cf (l.take k)) (at_ l (k : Int)) := by unfold fewF; rw [take_at l k h, List.foldl_append]; rfl
theorem few_inv {cf : Int → Int} (hc : ∀ v, 0 ≤ cf v ∧ cf v ≤ 64) : ∀ (l : List Int) (s : Int × Int), (0 ≤ s.2 ∧ s.2 ≤ 64) → (0 ≤ (l.foldl (fewS cf) s).2 ∧ (l.foldl (fewS cf) s).2 ≤ 64) ∧ ((l.foldl (fewS cf) s) = s ∨ (l.foldl (fewS cf) s).1 ∈ l)
  | [], s, h => ⟨h, .inl rfl⟩
  | x :: l, s, h => by
    rw [List.foldl_cons]
    have h1 : 0 ≤ (fewS cf s x).2 ∧ (fewS cf s x).2 ≤ 64 := by unfold fewS; split; (· exact hc x); (· exact h)
    obtain ⟨h2, h3⟩ := few_inv hc l (fewS cf s x) h1
    refine ⟨h2, ?_⟩
    rcases h3 with h3 | h3
    · rw [h3]
      unfold fewS
      split
      · exact .inr List.mem_cons_self
      · exact .inl rfl
    · exact .inr (List.mem_cons_of_mem _ h3)
theorem few_bd {cf : Int → Int} (hc : ∀ v, 0 ≤ cf v ∧ cf v ≤ 64) (l : List Int) : 0 ≤ (fewF cf l).2 ∧ (fewF cf l).2 ≤ 64 := (few_inv hc l (-1, 0) (by omega)).1
theorem few_mem {cf : Int → Int} (hc : ∀ v, 0 ≤ cf v ∧ cf v ≤ 64) {l : List Int} (h : l ≠ []) (h0 : ∀ x ∈ l, 0 ≤ x) : (fewF cf l).1 ∈ l := by
  cases l with
  | nil => exact absurd rfl h
  | cons x l =>
    unfold fewF
    rw [List.foldl_cons]
    have e : fewS cf (-1, 0) x = (x, cf x) := by unfold fewS; rw [if_pos (.inl (by decide))]
    rw [e]
    rcases (few_inv hc l (x, cf x) (hc x)).2 with h1 | h1
    · rw [h1]; exact List.mem_cons_self
    · exact List.mem_cons_of_mem _ h1
def cfA (rows : List (BitVec 64)) (t : BitVec 64) (v : Int) : Int := onesB (at_ rows v &&& t)
theorem cfA_bd (rows : List (BitVec 64)) (t : BitVec 64) (v : Int) : 0 ≤ cfA rows t v ∧ cfA rows t v ≤ 64 := onesB_64 _
theorem mul64 {a b : Int} (ha : 0 ≤ a ∧ a ≤ 64) (hb : 0 ≤ b ∧ b ≤ 64) : 0 ≤ a * b ∧ a * b ≤ 4096 := by
  have := Int.mul_le_mul ha.2 hb.2 hb.1 (by decide)
  exact ⟨Int.mul_nonneg ha.1 hb.1, by omega⟩
def insJ (acc : List (BitVec 64)) (v : Int) (ws : List Int) : List (BitVec 64) := ws.foldl (fun acc w => acc.set w.toNat (at_ acc w ||| bitB v)) acc
/-- From which nodes arcs lead to each. -/
def insK (rows : List (BitVec 64)) : Nat → List (BitVec 64)
  | 0 => List.replicate rows.length (default : BitVec 64)
  | k + 1 => insJ (insK rows k) (k : Int) (listB (at_ rows (k : Int)))
def orT (rows : List (BitVec 64)) : Nat → BitVec 64
  | 0 => 0#64
  | k + 1 => orT rows k ||| at_ rows (k : Int)
theorem insK_succ (rows : List (BitVec 64)) (k : Nat) : insK rows (k + 1) = insJ (insK rows k) (k : Int) (listB (at_ rows (k : Int))) := rfl
theorem orT_succ (rows : List (BitVec 64)) (k : Nat) : orT rows (k + 1) = orT rows k ||| at_ rows (k : Int) := rfl
theorem insJ_take {acc : List (BitVec 64)} {v : Int} {ws : List Int} {j : Nat} (h : j < ws.length) : insJ acc v (ws.take (j + 1)) = (insJ acc v (ws.take j)).set (at_ ws (j : Int)).toNat (at_ (insJ acc v (ws.take j)) (at_ ws (j : Int)) ||| bitB v) := by
  unfold insJ; rw [take_at ws j h, List.foldl_append]; rfl
theorem insJ_len (v : Int) : ∀ (ws : List Int) (acc : List (BitVec 64)), (insJ acc v ws).length = acc.length
  | [], acc => rfl
  | w :: ws, acc => by
    have e : insJ acc v (w :: ws) = insJ (acc.set w.toNat (at_ acc w ||| bitB v)) v ws := rfl
    rw [e, insJ_len v ws, List.length_set]
theorem orT_bit {rows : List (BitVec 64)} : ∀ (k : Nat) (i : Nat), (orT rows k).getLsbD i = true ↔ ∃ v : Nat, v < k ∧ (at_ rows (v : Int)).getLsbD i = true
  | 0, i => by
    show (0#64).getLsbD i = true ↔ _
    simp
  | k + 1, i => by
    rw [orT_succ, BitVec.getLsbD_or, Bool.or_eq_true, orT_bit k i]
    constructor
    · rintro (⟨v, h1, h2⟩ | h)
      · exact ⟨v, by omega, h2⟩
      · exact ⟨k, by omega, h⟩
    · rintro ⟨v, h1, h2⟩
      by_cases e : v = k
      · subst e; exact .inr h2
      · exact .inl ⟨v, by omega, h2⟩
/-- Taking nodes away, one by one. -/
def peelK (rows ins : List (BitVec 64)) : Nat → BitVec 64 → BitVec 64 → Bst → Bst
  | 0, _, _, b => b
  | n + 1, f, t, b => if f = 0#64 ∨ t = 0#64 then b else
      if (fewF (cfA rows t) (listB f)).2 * onesB f ≤ (fewF (cfA ins f) (listB t)).2 * onesB t
      then peelK rows ins n (f &&& ~~~(bitB (fewF (cfA rows t) (listB f)).1)) t (if 0 < cmpF (pairB rows f t).sq b.sq then pairB rows f t else b)
      else peelK rows ins n f (t &&& ~~~(bitB (fewF (cfA ins f) (listB t)).1)) (if 0 < cmpF (pairB rows f t).sq b.sq then pairB rows f t else b)
def peelF (rows : List (BitVec 64)) : Bst := peelK rows (insK rows rows.length) 128 (sendM rows rows.length) (orT rows rows.length) noneB
def peelG (nd : Int) (ars : List Pt) : Bst := if checkD nd ars ≠ 0 then ⟨[], [], 0, ⟨0, 0⟩⟩ else peelF (outB nd ars)
theorem peelK_stop {rows ins : List (BitVec 64)} {f t : BitVec 64} {b : Bst} (h : f = 0#64 ∨ t = 0#64) : ∀ n, peelK rows ins n f t b = b
  | 0 => rfl
  | n + 1 => by unfold peelK; rw [if_pos h]
theorem peelK_from {rows ins : List (BitVec 64)} {f t : BitVec 64} {b : Bst} {n : Nat} (hn : 1 ≤ n) (hf : f ≠ 0#64) (ht : t ≠ 0#64) (h : (fewF (cfA rows t) (listB f)).2 * onesB f ≤ (fewF (cfA ins f) (listB t)).2 * onesB t) : peelK rows ins n f t b = peelK rows ins (n - 1) (f &&& ~~~(bitB (fewF (cfA rows t) (listB f)).1)) t (if 0 < cmpF (pairB rows f t).sq b.sq then pairB rows f t else b) := by
  obtain ⟨m, rfl⟩ : ∃ m, n = m + 1 := ⟨n - 1, by omega⟩
  conv => lhs; unfold peelK
  rw [if_neg (by rintro (e | e); (· exact hf e); (· exact ht e)), if_pos h]; rfl
theorem peelK_to {rows ins : List (BitVec 64)} {f t : BitVec 64} {b : Bst} {n : Nat} (hn : 1 ≤ n) (hf : f ≠ 0#64) (ht : t ≠ 0#64) (h : ¬ (fewF (cfA rows t) (listB f)).2 * onesB f ≤ (fewF (cfA ins f) (listB t)).2 * onesB t) : peelK rows ins n f t b = peelK rows ins (n - 1) f (t &&& ~~~(bitB (fewF (cfA ins f) (listB t)).1)) (if 0 < cmpF (pairB rows f t).sq b.sq then pairB rows f t else b) := by
  obtain ⟨m, rfl⟩ : ∃ m, n = m + 1 := ⟨n - 1, by omega⟩
  conv => lhs; unfold peelK
  rw [if_neg (by rintro (e | e); (· exact hf e); (· exact ht e)), if_neg h]; rfl
theorem drop_bit {f : BitVec 64} {x : Int} (h : x ∈ listB f) : (listB (f &&& ~~~(bitB x))).length < (listB f).length := by
  obtain ⟨h0, h1⟩ := mem_listB.1 h
  have h64 := BitVec.lt_of_getLsbD h1
  unfold listB
  rw [List.length_map, List.length_map]
  refine listN_lt (k := x.toNat) (fun i hi => (getLsb_minus.1 hi).1) ?_ h1
  rw [← Bool.not_eq_true]
  intro hh
  have h2 := (getLsb_minus.1 hh).2
  have h3 := (bitD_one (k := x.toNat) (i := x.toNat) h64).2 rfl
  rw [show ((x.toNat : Nat) : Int) = x by omega, h2] at h3; cases h3
theorem listB_ne {f : BitVec 64} (h : f ≠ 0#64) : listB f ≠ [] := fun e => by rw [listB_step h] at e; cases e
theorem few_in {cf : Int → Int} (hc : ∀ v, 0 ≤ cf v ∧ cf v ≤ 64) {f : BitVec 64} (h : f ≠ 0#64) : (fewF cf (listB f)).1 ∈ listB f := few_mem hc (listB_ne h) fun x hx => (listB_rng hx).1
theorem Fewest_ok {κ : Ctx} {I : List Item} (set : BitVec 64) {g : FuncId} {cp_ : List Value} {p : Int → Prop} {cf : Int → Int} (hcb : Fn1 Tryz.prog κ I g cp_ p cf) (hpx : ∀ x ∈ listB set, p x) (hT : TabRd κ I 0 tzCells) :
    CallS Tryz.prog κ 92 [U64 (set), .func (.func g) #[] cp_.toArray] I (fun r J => r = .tuple #[I64 (fewF cf (listB set)).1, I64 (fewF cf (listB set)).2] ∧ I = J) := by
 refine CallS.enter (L := [(0, U64 (set)), (1, .func (.func g) #[] cp_.toArray)]) Tryz.func92 rfl rfl rfl rfl ?_
 refine W.sr ?_
 refine G.r (Runs.assign rfl) ?_
 refine G.r (Runs.assign rfl) ?_
 refine G.nt ?_
 refine W.sr ?_
 refine G.r (Runs.assign rfl) ?_
 refine G.r (Runs.assign rfl) ?_
 refine G.nt ?_
 refine W.seq ?_
 refine W.sr ?_
 refine G.r (Runs.move rfl) ?_
 refine G.e (Eff.call call54 rfl rfl (MList_ok set (TabRd.fit hT Fit.m))) ?_
 rintro _ _ ⟨_, _, ⟨ad1, cp2, rfl, rfl⟩, rfl, rfl⟩
 refine G.r (Runs.lens Tryz.underlying22 rfl) ?_
 refine G.r (Runs.move rfl) ?_
 refine G.nt ?_
 refine W.block ?_
 refine W.loop (σ := Nat × (Int × Int)) (fun s => ([(1, .func (.func g) #[] cp_.toArray), (6, I64 (s.2.1)), (7, I64 (s.2.2)), (12, .slice ad1 (listB set).length cp2), (13, I64 ((((listB set).length : Nat) : Int))), (14, I64 (((s.1 : Nat) : Int)))] : Env)) (fun s => vc 3 (.slice ad1 (listB set).length cp2) (listB set) :: I) (fun s => (s.1 ≤ (listB set).length) ∧ (s.2 = fewF cf ((listB set).take s.1))) (fun s => (listB set).length - s.1) (0, ((-1, 0) : Int × Int)) (show ((0 : Nat) ≤ (listB set).length) ∧ ((((-1, 0) : Int × Int) : Int × Int) = fewF cf ((listB set).take (0 : Nat))) from ⟨(by omega), rfl⟩) (Sub.cons rfl (Sub.cons lookO (Sub.cons lookO (Sub.cons rfl (Sub.cons rfl (Sub.cons lookO Sub.nil)))))) (show Fit κ _ (vc 3 (.slice ad1 (listB set).length cp2) (listB set) :: I) from Fit.sub) ?_
 rintro ⟨k, sv⟩ hp
 obtain ⟨hk, hsv⟩ : (k ≤ (listB set).length) ∧ (sv = fewF cf ((listB set).take k)) := hp
 show W Tryz.prog κ 33 _ _ ([(1, .func (.func g) #[] cp_.toArray), (6, I64 (sv.1)), (7, I64 (sv.2)), (12, .slice ad1 (listB set).length cp2), (13, I64 ((((listB set).length : Nat) : Int))), (14, I64 (((k : Nat) : Int)))] : Env) (vc 3 (.slice ad1 (listB set).length cp2) (listB set) :: I)
 have hlb := listB_len set
 refine W.sr ?_
 refine G.r (Runs.lss rfl rfl) ?_
 refine G.nt ?_
 refine W.seq ?_
 refine W.ite rfl (fun c15 => ?_) (fun c15 => ?_)
 ·refine W.skip ?_
  refine V.then ?_
  refine W.seq ?_
  refine W.block ?_
  refine W.sr ?_
  refine G.r (Runs.idx (α := Int) (xs := listB set) Tryz.underlying22 ty3 rfl rfl Sl.o (by omega) (by omega)) ?_
  refine G.r (Runs.get (xs := listB set) ty3 rfl Sl.o (by omega) (by omega)) ?_
  refine G.r (Runs.assign rfl) ?_
  refine G.nt ?_
  refine W.sr ?_
  refine G.r (Runs.move rfl) ?_
  refine G.r (Runs.move rfl) ?_
  refine G.e (Eff.callv hcb.1 (first := []) (caps := cp_) rfl rfl rfl (hcb.2 (at_ (listB set) ((k : Nat) : Int)) _ (hpx _ (at_mem (by omega) (by omega))) Fit.m)) ?_
  rintro _ _ ⟨_, _, ⟨rfl, rfl⟩, rfl, rfl⟩
  refine G.r (Runs.assign rfl) ?_
  refine G.nt ?_
  refine W.sub (L' := [(10, _), (9, _), (1, _), (6, _), (7, _), (12, _), (13, _), (14, _)]) (Sub.cons rfl (Sub.cons rfl (Sub.cons rfl (Sub.cons rfl (Sub.cons rfl (Sub.cons rfl (Sub.cons rfl (Sub.cons rfl Sub.nil)))))))) ?_
  refine W.sr ?_
  refine G.r (Runs.move rfl) ?_
  refine G.r (Runs.lss rfl rfl) ?_
  refine G.r (Runs.move rfl) ?_
  refine G.split (d := 23) rfl (fun g23 => ?_) (fun g23 => ?_)
  ·refine G.po ?_
   refine G.po ?_
   refine G.po ?_
   refine G.r (Runs.pickt rfl rfl) ?_
   refine G.nt ?_
   refine W.sub (L' := [(27, _), (10, _), (9, _), (1, _), (6, _), (7, _), (12, _), (13, _), (14, _)]) (Sub.cons rfl (Sub.cons rfl (Sub.cons rfl (Sub.cons rfl (Sub.cons rfl (Sub.cons rfl (Sub.cons rfl (Sub.cons rfl (Sub.cons rfl Sub.nil))))))))) ?_
   refine W.yes rfl ?_
   refine W.region ?_
   refine G.r (Runs.move rfl) ?_
   refine G.r (Runs.move rfl) ?_
   refine G.r (Runs.assign rfl) ?_
   refine G.r (Runs.assign rfl) ?_
   refine G.nil ?_
   refine V.block_normal ?_
   refine V.then ?_
   refine W.region ?_
   refine G.r (Runs.add rfl rfl (by unfold InR; omega)) ?_
   refine G.r (Runs.move rfl) ?_
   refine G.nil ?_
   exact V.next ((k + 1), ((at_ (listB set) ((k : Nat) : Int), cf (at_ (listB set) ((k : Nat) : Int))))) (show ((k + 1 : Nat) ≤ (listB set).length) ∧ (((at_ (listB set) ((k : Nat) : Int), cf (at_ (listB set) ((k : Nat) : Int))) : Int × Int) = fewF cf ((listB set).take (k + 1 : Nat))) from ⟨(by omega), (by rw [few_take (by omega), ← hsv]; unfold fewS; split <;> first | rfl | (exfalso; omega))⟩) (show (listB set).length - (k + 1 : Nat) < (listB set).length - k from (by omega)) (Sub.cons rfl (Sub.cons lookO (Sub.cons lookO (Sub.cons rfl (Sub.cons rfl (Sub.cons lookO Sub.nil)))))) (show Fit κ _ (vc 3 (.slice ad1 (listB set).length cp2) (listB set) :: I) from Fit.sub)
  ·refine G.ro (Runs.move rfl) ?_
   refine G.ro (Runs.move rfl) ?_
   refine G.ro (Runs.lss rfl rfl) ?_
   refine G.r (Runs.pickf rfl rfl) ?_
   refine G.nt ?_
   refine W.sub (L' := [(27, _), (10, _), (9, _), (1, _), (6, _), (7, _), (12, _), (13, _), (14, _)]) (Sub.cons rfl (Sub.cons rfl (Sub.cons rfl (Sub.cons rfl (Sub.cons rfl (Sub.cons rfl (Sub.cons rfl (Sub.cons rfl (Sub.cons rfl Sub.nil))))))))) ?_
   refine W.ite rfl (fun c27 => ?_) (fun c27 => ?_)
   ·refine W.region ?_
    refine G.r (Runs.move rfl) ?_
    refine G.r (Runs.move rfl) ?_
    refine G.r (Runs.assign rfl) ?_
    refine G.r (Runs.assign rfl) ?_
    refine G.nil ?_
    refine V.block_normal ?_
    refine V.then ?_
    refine W.region ?_
    refine G.r (Runs.add rfl rfl (by unfold InR; omega)) ?_
    refine G.r (Runs.move rfl) ?_
    refine G.nil ?_
    exact V.next ((k + 1), ((at_ (listB set) ((k : Nat) : Int), cf (at_ (listB set) ((k : Nat) : Int))))) (show ((k + 1 : Nat) ≤ (listB set).length) ∧ (((at_ (listB set) ((k : Nat) : Int), cf (at_ (listB set) ((k : Nat) : Int))) : Int × Int) = fewF cf ((listB set).take (k + 1 : Nat))) from ⟨(by omega), (by rw [few_take (by omega), ← hsv]; unfold fewS; split <;> first | rfl | (exfalso; omega))⟩) (show (listB set).length - (k + 1 : Nat) < (listB set).length - k from (by omega)) (Sub.cons rfl (Sub.cons lookO (Sub.cons lookO (Sub.cons rfl (Sub.cons rfl (Sub.cons lookO Sub.nil)))))) (show Fit κ _ (vc 3 (.slice ad1 (listB set).length cp2) (listB set) :: I) from Fit.sub)
   ·refine W.skip ?_
    refine V.block_normal ?_
    refine V.then ?_
    refine W.region ?_
    refine G.r (Runs.add rfl rfl (by unfold InR; omega)) ?_
    refine G.r (Runs.move rfl) ?_
    refine G.nil ?_
    exact V.next ((k + 1), ((sv.1, sv.2))) (show ((k + 1 : Nat) ≤ (listB set).length) ∧ (((sv.1, sv.2) : Int × Int) = fewF cf ((listB set).take (k + 1 : Nat))) from ⟨(by omega), (by rw [few_take (by omega), ← hsv]; unfold fewS; split <;> first | rfl | (exfalso; omega))⟩) (show (listB set).length - (k + 1 : Nat) < (listB set).length - k from (by omega)) (Sub.cons rfl (Sub.cons lookO (Sub.cons lookO (Sub.cons rfl (Sub.cons rfl (Sub.cons lookO Sub.nil)))))) (show Fit κ _ (vc 3 (.slice ad1 (listB set).length cp2) (listB set) :: I) from Fit.sub)
 ·refine W.exit ?_
  refine V.then_exit ?_
  refine V.then_exit ?_
  refine V.block_hit ?_
  refine V.then ?_
  refine W.sr ?_
  refine G.r (Runs.move rfl) ?_
  refine G.r (Runs.move rfl) ?_
  refine G.r (Runs.assign rfl) ?_
  refine G.r (Runs.assign rfl) ?_
  refine G.nt ?_
  refine W.ret ?_
  rw [List.take_of_length_le (by omega)] at hsv
  exact V.ret2 rfl rfl rfl (I) Fit.m ⟨by rw [← hsv], rfl⟩

theorem PeelA_ok {κ : Ctx} {I : List Item} {b c : Nat} {ra : Option Addr} {rc n : Nat} {rows : List (BitVec 64)} {t : BitVec 64} (h1 : BlkRd κ I b [.slice ra n rc] 104) (h2 : BlkRd κ I c [U64 t] 86) (hl : Sl κ I (.slice ra n rc) rows) (v : Int) (hv : 0 ≤ v ∧ v < rows.length) :
    CallS Tryz.prog κ 93 [I64 (v), .pointer (some ⟨b, 0, none⟩), .pointer (some ⟨c, 0, none⟩)] I (fun r J => r = I64 (cfA rows t v) ∧ I = J) := by
 refine CallS.enter (L := [(0, I64 (v)), (1, .pointer (some ⟨b, 0, none⟩)), (2, .pointer (some ⟨c, 0, none⟩))]) Tryz.func93 rfl rfl rfl rfl ?_
 refine W.sr ?_
 refine G.r (Runs.assign rfl) ?_
 refine G.nt ?_
 refine W.seq ?_
 refine W.drawn mixed ?_
 refine A.hold (I) 8 ?_
 refine D.r 0 rfl (Runs.loadB ty104 rfl (BlkRd.fit h1 Fit.m) rfl) ?_ (hJ := Fit.sub)
 refine D.r 1 rfl (Runs.move rfl) ?_ (hJ := Fit.sub)
 refine D.r 2 rfl (Runs.idx (α := (BitVec 64)) (xs := rows) Tryz.underlying104 ty86 rfl rfl (Sl.f hl) (by omega) (by omega)) ?_ (hJ := Fit.sub)
 refine D.r 3 rfl (Runs.getf0 (α := (BitVec 64)) (xs := rows) (u := U64 ((at_ rows v))) ty86 rfl (Sl.f hl) (by omega) (by omega) rfl) ?_ (hJ := Fit.sub)
 refine D.r 4 rfl (Runs.loadB ty86 rfl (BlkRd.fit h2 Fit.m) rfl) ?_ (hJ := Fit.sub)
 refine D.r 5 rfl (Runs.andB (a := (at_ rows v)) (b := t) rfl rfl) ?_ (hJ := Fit.sub)
 refine D.step (rs := [6]) (by kernel_rfl) rfl rfl (all1 ?_)
 refine Step.eff rfl (Wanted.plain rfl) (Eff.call call57 rfl rfl (MCount_ok ((at_ rows v) &&& t))) ?_
 rintro _ _ ⟨_, _, ⟨rfl, rfl⟩, rfl, rfl⟩
 refine ⟨Fit.sub, ?_⟩
 refine D.r 7 rfl (Runs.assign rfl) ?_ (hJ := Fit.sub)
 refine D.done (by kernel_rfl) ?_
 refine V.then ?_
 refine W.ret ?_
 exact V.ret1 rfl rfl (I) Fit.m ⟨rfl, rfl⟩

theorem PeelB_ok {κ : Ctx} {I : List Item} {b c : Nat} {ra : Option Addr} {rc n : Nat} {rows : List (BitVec 64)} {t : BitVec 64} (h1 : BlkRd κ I b [.slice ra n rc] 104) (h2 : BlkRd κ I c [U64 t] 86) (hl : Sl κ I (.slice ra n rc) rows) (v : Int) (hv : 0 ≤ v ∧ v < rows.length) :
    CallS Tryz.prog κ 94 [I64 (v), .pointer (some ⟨b, 0, none⟩), .pointer (some ⟨c, 0, none⟩)] I (fun r J => r = I64 (cfA rows t v) ∧ I = J) := by
 refine CallS.enter (L := [(0, I64 (v)), (1, .pointer (some ⟨b, 0, none⟩)), (2, .pointer (some ⟨c, 0, none⟩))]) Tryz.func94 rfl rfl rfl rfl ?_
 refine W.sr ?_
 refine G.r (Runs.assign rfl) ?_
 refine G.nt ?_
 refine W.seq ?_
 refine W.drawn mixed ?_
 refine A.hold (I) 8 ?_
 refine D.r 0 rfl (Runs.loadB ty104 rfl (BlkRd.fit h1 Fit.m) rfl) ?_ (hJ := Fit.sub)
 refine D.r 1 rfl (Runs.move rfl) ?_ (hJ := Fit.sub)
 refine D.r 2 rfl (Runs.idx (α := (BitVec 64)) (xs := rows) Tryz.underlying104 ty86 rfl rfl (Sl.f hl) (by omega) (by omega)) ?_ (hJ := Fit.sub)
 refine D.r 3 rfl (Runs.getf0 (α := (BitVec 64)) (xs := rows) (u := U64 ((at_ rows v))) ty86 rfl (Sl.f hl) (by omega) (by omega) rfl) ?_ (hJ := Fit.sub)
 refine D.r 4 rfl (Runs.loadB ty86 rfl (BlkRd.fit h2 Fit.m) rfl) ?_ (hJ := Fit.sub)
 refine D.r 5 rfl (Runs.andB (a := (at_ rows v)) (b := t) rfl rfl) ?_ (hJ := Fit.sub)
 refine D.step (rs := [6]) (by kernel_rfl) rfl rfl (all1 ?_)
 refine Step.eff rfl (Wanted.plain rfl) (Eff.call call57 rfl rfl (MCount_ok ((at_ rows v) &&& t))) ?_
 rintro _ _ ⟨_, _, ⟨rfl, rfl⟩, rfl, rfl⟩
 refine ⟨Fit.sub, ?_⟩
 refine D.r 7 rfl (Runs.assign rfl) ?_ (hJ := Fit.sub)
 refine D.done (by kernel_rfl) ?_
 refine V.then ?_
 refine W.ret ?_
 exact V.ret1 rfl rfl (I) Fit.m ⟨rfl, rfl⟩

set_option maxHeartbeats 2000000 in
theorem PeelD_ok {κ : Ctx} {I : List Item} {nd : Int} {va : Value} {ars : List Pt} (hl : Sl κ I va ars) (h6 : checkD nd ars = 0 → nd ≤ 6) (hT : TabRd κ I 0 tzCells) :
    CallS Tryz.prog κ 41 [.agg #[I64 (nd), va]] I (fun r J => ∃ a c a2 c2, r = .tuple #[.agg #[.slice a (peelG nd ars).F.length c, .slice a2 (peelG nd ars).T.length c2, I64 (peelG nd ars).n, I64 (peelG nd ars).sq.num, I64 (peelG nd ars).sq.den], I64 (checkD nd ars)] ∧ J = vc 3 (.slice a (peelG nd ars).F.length c) (peelG nd ars).F :: vc 3 (.slice a2 (peelG nd ars).T.length c2) (peelG nd ars).T :: I) := by
 refine CallS.enter (L := [(0, .agg #[I64 (nd), va])]) Tryz.func41 rfl rfl rfl rfl ?_
 refine W.sr ?_
 refine G.e (Eff.box (cs := [_, _]) rfl rfl rfl) ?_
 rintro _ _ ⟨b1, rfl, rfl⟩
 refine G.e (Eff.alloc ty58 rfl) ?_
 rintro _ _ ⟨b2, rfl, rfl⟩
 refine G.r (Runs.assign rfl) ?_
 refine G.nt ?_
 refine W.seq ?_
 refine W.sr ?_
 refine G.r (Runs.lds (vs := [_, _]) ty54) ?_
 refine G.e (Eff.call call43 rfl rfl (CheckD_ok (nd := nd) (Sl.f hl))) ?_
 rintro _ _ ⟨_, _, ⟨rfl, rfl⟩, rfl, rfl⟩
 refine G.r (Runs.assign rfl) ?_
 refine G.nt ?_
 refine W.sr ?_
 refine G.r (Runs.move rfl) ?_
 refine G.r (Runs.neq rfl rfl) ?_
 refine G.nt ?_
 refine W.ite rfl (fun c22 => ?_) (fun c22 => ?_)
 ·refine W.sr ?_
  refine G.r (Runs.build (cells := [_, _, _, _, _]) ty58 Tryz.underlying58 pl58 rfl rfl) ?_
  refine G.r (Runs.move rfl) ?_
  refine G.e (Eff.st (cs := [_, _, _, _, _]) (vs := [_, _, _, _, _]) (cs' := [_, _, _, _, _]) ty58) ?_
  rintro _ _ ⟨rfl, rfl⟩
  refine G.r (Runs.assign rfl) ?_
  refine G.nt ?_
  refine W.ret ?_
  refine V.then_ret ?_
  have hX : (peelG nd ars) = ⟨[], [], 0, ⟨0, 0⟩⟩ := if_pos c22
  exact V.retc1 rfl ty58 rfl rfl (by repeat (first | exact List.mem_cons_self | apply List.mem_cons_of_mem)) rfl (vc 3 (.slice none (peelG nd ars).F.length 0) (peelG nd ars).F :: vc 3 (.slice none (peelG nd ars).T.length 0) (peelG nd ars).T :: I) (by rw [hX]; exact Fit.trans (show Fit κ _ I from Fit.m) (Fit.trans (Fit.nilvc (α := Int) _ _) (Fit.nilvc (α := Int) _ _))) ⟨none, 0, none, 0, by rw [hX]; rfl, rfl⟩
 ·refine W.skip ?_
  refine V.then ?_
  refine W.sr ?_
  refine G.r (Runs.lds (vs := [_, _]) ty54) ?_
  have hd1 : checkD nd ars = 0 := Classical.not_not.1 c22
  have hd := checkD_ok.1 hd1
  have hRD := rowsD_of hd (h6 hd1)
  have hr6 := hRD.len
  refine G.e (Eff.call call74 rfl rfl (Outs_ok (nd := nd) (Sl.f hl))) ?_
  rintro _ _ ⟨_, _, ⟨ad3, cp4, rfl, rfl⟩, rfl, rfl⟩
  have holad3 := outB_len nd ars
  refine G.e (Eff.alloc ty104 rfl) ?_
  rintro _ _ ⟨b5, rfl, rfl⟩
  refine G.e (Eff.st (cs := [_]) (vs := [_]) (cs' := [_]) ty104) ?_
  rintro _ _ ⟨rfl, rfl⟩
  refine G.nt ?_
  refine W.sr ?_
  refine G.r (Runs.ld ty104) ?_
  refine G.r (Runs.lens Tryz.underlying104 rfl) ?_
  refine G.e (Eff.make (α := (BitVec 64)) (n := (outB nd ars).length) Tryz.underlying104 ty86 rfl rfl rfl (by omega) (by omega) (by decide) rfl) ?_
  rintro _ _ ⟨ad6, cp7, rfl, rfl⟩
  refine G.e (Eff.alloc ty104 rfl) ?_
  rintro _ _ ⟨b8, rfl, rfl⟩
  refine G.e (Eff.st (cs := [_]) (vs := [_]) (cs' := [_]) ty104) ?_
  rintro _ _ ⟨rfl, rfl⟩
  refine G.nt ?_
  refine W.sr ?_
  refine G.e (Eff.alloc ty86 rfl) ?_
  rintro _ _ ⟨b9, rfl, rfl⟩
  refine G.e (Eff.alloc ty86 rfl) ?_
  rintro _ _ ⟨b10, rfl, rfl⟩
  refine G.nt ?_
  refine W.seq ?_
  refine W.sr ?_
  refine G.r (Runs.ld ty104) ?_
  refine G.r (Runs.lens Tryz.underlying104 rfl) ?_
  refine G.r (Runs.move rfl) ?_
  refine G.nt ?_
  refine W.block ?_
  refine W.loop (σ := Nat × (BitVec 64) × (BitVec 64) × (List (BitVec 64))) (fun s => ([(2, .pointer (some ⟨b2, 0, none⟩)), (5, .pointer (some ⟨b5, 0, none⟩)), (6, .pointer (some ⟨b8, 0, none⟩)), (7, .pointer (some ⟨b9, 0, none⟩)), (8, .pointer (some ⟨b10, 0, none⟩)), (30, .slice ad3 (outB nd ars).length cp4), (31, I64 ((((outB nd ars).length : Nat) : Int))), (32, I64 (((s.1 : Nat) : Int)))] : Env)) (fun s => blk b10 [U64 (s.2.2.1)] 86 :: blk b9 [U64 (s.2.1)] 86 :: blk b8 [.slice ad6 (List.replicate ((outB nd ars).length) (default : (BitVec 64))).length cp7] 104 :: vc 86 (.slice ad6 (List.replicate ((outB nd ars).length) (default : (BitVec 64))).length cp7) (s.2.2.2) :: blk b5 [.slice ad3 (outB nd ars).length cp4] 104 :: vc 86 (.slice ad3 (outB nd ars).length cp4) (outB nd ars) :: blk b2 [.slice none 0 0, .slice none 0 0, I64 (0), I64 (0), I64 (0)] 58 :: blk b1 [I64 (nd), va] 54 :: I) (fun s => (s.1 ≤ (outB nd ars).length) ∧ (s.2.1 = sendM (outB nd ars) s.1) ∧ (s.2.2.1 = orT (outB nd ars) s.1) ∧ (s.2.2.2 = insK (outB nd ars) s.1) ∧ (s.2.2.2.length = (outB nd ars).length)) (fun s => (outB nd ars).length - s.1) (0, 0#64, 0#64, List.replicate ((outB nd ars).length) (default : (BitVec 64))) (show ((0 : Nat) ≤ (outB nd ars).length) ∧ ((0#64 : BitVec 64) = sendM (outB nd ars) (0 : Nat)) ∧ ((0#64 : BitVec 64) = orT (outB nd ars) (0 : Nat)) ∧ ((List.replicate ((outB nd ars).length) (default : (BitVec 64)) : List (BitVec 64)) = insK (outB nd ars) (0 : Nat)) ∧ ((List.replicate ((outB nd ars).length) (default : (BitVec 64)) : List (BitVec 64)).length = (outB nd ars).length) from ⟨(by omega), rfl, rfl, rfl, (by simp)⟩) (Sub.cons rfl (Sub.cons rfl (Sub.cons rfl (Sub.cons rfl (Sub.cons rfl (Sub.cons rfl (Sub.cons rfl (Sub.cons lookO Sub.nil)))))))) (show Fit κ _ (blk b10 [U64 ((0#64))] 86 :: blk b9 [U64 ((0#64))] 86 :: blk b8 [.slice ad6 (List.replicate ((outB nd ars).length) (default : (BitVec 64))).length cp7] 104 :: vc 86 (.slice ad6 (List.replicate ((outB nd ars).length) (default : (BitVec 64))).length cp7) ((List.replicate ((outB nd ars).length) (default : (BitVec 64)))) :: blk b5 [.slice ad3 (outB nd ars).length cp4] 104 :: vc 86 (.slice ad3 (outB nd ars).length cp4) (outB nd ars) :: blk b2 [.slice none 0 0, .slice none 0 0, I64 (0), I64 (0), I64 (0)] 58 :: blk b1 [I64 (nd), va] 54 :: I) from Fit.s) ?_
  rintro ⟨k, fmq, tmq, iz⟩ hp
  obtain ⟨hk, hfm, htm, hiz, hizl⟩ : (k ≤ (outB nd ars).length) ∧ (fmq = sendM (outB nd ars) k) ∧ (tmq = orT (outB nd ars) k) ∧ (iz = insK (outB nd ars) k) ∧ (iz.length = (outB nd ars).length) := hp
  show W Tryz.prog κ 109 _ _ ([(2, .pointer (some ⟨b2, 0, none⟩)), (5, .pointer (some ⟨b5, 0, none⟩)), (6, .pointer (some ⟨b8, 0, none⟩)), (7, .pointer (some ⟨b9, 0, none⟩)), (8, .pointer (some ⟨b10, 0, none⟩)), (30, .slice ad3 (outB nd ars).length cp4), (31, I64 ((((outB nd ars).length : Nat) : Int))), (32, I64 (((k : Nat) : Int)))] : Env) (blk b10 [U64 (tmq)] 86 :: blk b9 [U64 (fmq)] 86 :: blk b8 [.slice ad6 (List.replicate ((outB nd ars).length) (default : (BitVec 64))).length cp7] 104 :: vc 86 (.slice ad6 (List.replicate ((outB nd ars).length) (default : (BitVec 64))).length cp7) (iz) :: blk b5 [.slice ad3 (outB nd ars).length cp4] 104 :: vc 86 (.slice ad3 (outB nd ars).length cp4) (outB nd ars) :: blk b2 [.slice none 0 0, .slice none 0 0, I64 (0), I64 (0), I64 (0)] 58 :: blk b1 [I64 (nd), va] 54 :: I)
  refine W.sr ?_
  refine G.r (Runs.lss rfl rfl) ?_
  refine G.nt ?_
  refine W.seq ?_
  refine W.ite rfl (fun c33 => ?_) (fun c33 => ?_)
  ·refine W.skip ?_
   refine V.then ?_
   refine W.seq ?_
   refine W.block ?_
   refine W.sr ?_
   refine G.r (Runs.move rfl) ?_
   refine G.r (Runs.idx (α := (BitVec 64)) (xs := outB nd ars) Tryz.underlying104 ty86 rfl rfl Sl.o (by first | omega | exact (hwk (by omega)).1) (by first | omega | (have := (hwk (by omega)).2; omega))) ?_
   refine G.r (Runs.getf0 (α := (BitVec 64)) (xs := outB nd ars) (u := U64 ((at_ (outB nd ars) ((k : Nat) : Int)))) ty86 rfl Sl.o (by first | omega | exact (hwk (by omega)).1) (by first | omega | (have := (hwk (by omega)).2; omega)) rfl) ?_
   refine G.r (Runs.assign rfl) ?_
   refine G.r (Runs.assign rfl) ?_
   refine G.nt ?_
   refine W.sr ?_
   refine G.r (Runs.ld ty86) ?_
   refine G.r (Runs.move rfl) ?_
   refine G.r (Runs.orB (a := tmq) (b := (at_ (outB nd ars) ((k : Nat) : Int))) rfl rfl) ?_
   refine G.e (Eff.st (cs := [_]) (vs := [_]) (cs' := [_]) ty86) ?_
   rintro _ _ ⟨rfl, rfl⟩
   refine G.nt ?_
   refine W.sr ?_
   refine G.r (Runs.move rfl) ?_
   refine G.e (Eff.call call54 rfl rfl (MList_ok (at_ (outB nd ars) ((k : Nat) : Int)) (TabRd.fit hT Fit.m))) ?_
   rintro _ _ ⟨_, _, ⟨ad11, cp12, rfl, rfl⟩, rfl, rfl⟩
   refine G.r (Runs.lens Tryz.underlying22 rfl) ?_
   refine G.r (Runs.move rfl) ?_
   refine G.nt ?_
   refine W.block ?_
   refine W.loop (σ := Nat × (BitVec 64) × (List (BitVec 64))) (fun s => ([(2, .pointer (some ⟨b2, 0, none⟩)), (5, .pointer (some ⟨b5, 0, none⟩)), (6, .pointer (some ⟨b8, 0, none⟩)), (7, .pointer (some ⟨b9, 0, none⟩)), (8, .pointer (some ⟨b10, 0, none⟩)), (9, I64 (((k : Nat) : Int))), (30, .slice ad3 (outB nd ars).length cp4), (31, I64 ((((outB nd ars).length : Nat) : Int))), (32, I64 (((k : Nat) : Int))), (41, .slice ad11 (listB (at_ (outB nd ars) ((k : Nat) : Int))).length cp12), (42, I64 ((((listB (at_ (outB nd ars) ((k : Nat) : Int))).length : Nat) : Int))), (43, I64 (((s.1 : Nat) : Int)))] : Env)) (fun s => vc 3 (.slice ad11 (listB (at_ (outB nd ars) ((k : Nat) : Int))).length cp12) (listB (at_ (outB nd ars) ((k : Nat) : Int))) :: blk b10 [U64 (tmq ||| (at_ (outB nd ars) ((k : Nat) : Int)))] 86 :: blk b9 [U64 (s.2.1)] 86 :: blk b8 [.slice ad6 (List.replicate ((outB nd ars).length) (default : (BitVec 64))).length cp7] 104 :: vc 86 (.slice ad6 (List.replicate ((outB nd ars).length) (default : (BitVec 64))).length cp7) (s.2.2) :: blk b5 [.slice ad3 (outB nd ars).length cp4] 104 :: vc 86 (.slice ad3 (outB nd ars).length cp4) (outB nd ars) :: blk b2 [.slice none 0 0, .slice none 0 0, I64 (0), I64 (0), I64 (0)] 58 :: blk b1 [I64 (nd), va] 54 :: I) (fun s => (s.1 ≤ (listB (at_ (outB nd ars) ((k : Nat) : Int))).length) ∧ (s.2.1 = if s.1 = 0 then fmq else fmq ||| bitB (k : Int)) ∧ (s.2.2 = insJ iz (k : Int) ((listB (at_ (outB nd ars) ((k : Nat) : Int))).take s.1))) (fun s => (listB (at_ (outB nd ars) ((k : Nat) : Int))).length - s.1) (0, fmq, iz) (show ((0 : Nat) ≤ (listB (at_ (outB nd ars) ((k : Nat) : Int))).length) ∧ ((fmq : BitVec 64) = if (0 : Nat) = 0 then fmq else fmq ||| bitB (k : Int)) ∧ ((iz : List (BitVec 64)) = insJ iz (k : Int) ((listB (at_ (outB nd ars) ((k : Nat) : Int))).take (0 : Nat))) from ⟨(by omega), rfl, rfl⟩) (Sub.cons rfl (Sub.cons rfl (Sub.cons rfl (Sub.cons rfl (Sub.cons rfl (Sub.cons rfl (Sub.cons rfl (Sub.cons rfl (Sub.cons rfl (Sub.cons rfl (Sub.cons rfl (Sub.cons lookO Sub.nil)))))))))))) (show Fit κ _ (vc 3 (.slice ad11 (listB (at_ (outB nd ars) ((k : Nat) : Int))).length cp12) (listB (at_ (outB nd ars) ((k : Nat) : Int))) :: blk b10 [U64 (tmq ||| (at_ (outB nd ars) ((k : Nat) : Int)))] 86 :: blk b9 [U64 ((fmq))] 86 :: blk b8 [.slice ad6 (List.replicate ((outB nd ars).length) (default : (BitVec 64))).length cp7] 104 :: vc 86 (.slice ad6 (List.replicate ((outB nd ars).length) (default : (BitVec 64))).length cp7) ((iz)) :: blk b5 [.slice ad3 (outB nd ars).length cp4] 104 :: vc 86 (.slice ad3 (outB nd ars).length cp4) (outB nd ars) :: blk b2 [.slice none 0 0, .slice none 0 0, I64 (0), I64 (0), I64 (0)] 58 :: blk b1 [I64 (nd), va] 54 :: I) from Fit.s) ?_
   rintro ⟨j, fm2, iz2⟩ hp
   obtain ⟨hj, hfm2, hiz2⟩ : (j ≤ (listB (at_ (outB nd ars) ((k : Nat) : Int))).length) ∧ (fm2 = if j = 0 then fmq else fmq ||| bitB (k : Int)) ∧ (iz2 = insJ iz (k : Int) ((listB (at_ (outB nd ars) ((k : Nat) : Int))).take j)) := hp
   show W Tryz.prog κ 109 _ _ ([(2, .pointer (some ⟨b2, 0, none⟩)), (5, .pointer (some ⟨b5, 0, none⟩)), (6, .pointer (some ⟨b8, 0, none⟩)), (7, .pointer (some ⟨b9, 0, none⟩)), (8, .pointer (some ⟨b10, 0, none⟩)), (9, I64 (((k : Nat) : Int))), (30, .slice ad3 (outB nd ars).length cp4), (31, I64 ((((outB nd ars).length : Nat) : Int))), (32, I64 (((k : Nat) : Int))), (41, .slice ad11 (listB (at_ (outB nd ars) ((k : Nat) : Int))).length cp12), (42, I64 ((((listB (at_ (outB nd ars) ((k : Nat) : Int))).length : Nat) : Int))), (43, I64 (((j : Nat) : Int)))] : Env) (vc 3 (.slice ad11 (listB (at_ (outB nd ars) ((k : Nat) : Int))).length cp12) (listB (at_ (outB nd ars) ((k : Nat) : Int))) :: blk b10 [U64 (tmq ||| (at_ (outB nd ars) ((k : Nat) : Int)))] 86 :: blk b9 [U64 (fm2)] 86 :: blk b8 [.slice ad6 (List.replicate ((outB nd ars).length) (default : (BitVec 64))).length cp7] 104 :: vc 86 (.slice ad6 (List.replicate ((outB nd ars).length) (default : (BitVec 64))).length cp7) (iz2) :: blk b5 [.slice ad3 (outB nd ars).length cp4] 104 :: vc 86 (.slice ad3 (outB nd ars).length cp4) (outB nd ars) :: blk b2 [.slice none 0 0, .slice none 0 0, I64 (0), I64 (0), I64 (0)] 58 :: blk b1 [I64 (nd), va] 54 :: I)
   have hwk : j < (listB (at_ (outB nd ars) ((k : Nat) : Int))).length → 0 ≤ at_ (listB (at_ (outB nd ars) ((k : Nat) : Int))) ((j : Nat) : Int) ∧ at_ (listB (at_ (outB nd ars) ((k : Nat) : Int))) ((j : Nat) : Int) < (outB nd ars).length := fun h => by have h1 := at_mem (xs := (listB (at_ (outB nd ars) ((k : Nat) : Int)))) (i := ((j : Nat) : Int)) (by omega) (by omega); obtain ⟨h2, h3⟩ := mem_listB.1 h1; have := hRD.bit _ _ h3; omega
   have hizl2 : iz2.length = (outB nd ars).length := by rw [hiz2, insJ_len]; exact hizl
   have hrkl := listB_len (at_ (outB nd ars) ((k : Nat) : Int))
   refine W.sr ?_
   refine G.r (Runs.lss rfl rfl) ?_
   refine G.nt ?_
   refine W.seq ?_
   refine W.ite rfl (fun c44 => ?_) (fun c44 => ?_)
   ·refine W.skip ?_
    refine V.then ?_
    refine W.seq ?_
    refine W.block ?_
    refine W.sr ?_
    refine G.r (Runs.idx (α := Int) (xs := listB (at_ (outB nd ars) ((k : Nat) : Int))) Tryz.underlying22 ty3 rfl rfl Sl.o (by first | omega | exact (hwk (by omega)).1) (by first | omega | (have := (hwk (by omega)).2; omega))) ?_
    refine G.r (Runs.get (xs := listB (at_ (outB nd ars) ((k : Nat) : Int))) ty3 rfl Sl.o (by first | omega | exact (hwk (by omega)).1) (by first | omega | (have := (hwk (by omega)).2; omega))) ?_
    refine G.r (Runs.assign rfl) ?_
    refine G.nt ?_
    refine W.seq ?_
    refine W.drawn mixed ?_
    refine A.hold (vc 3 (.slice ad11 (listB (at_ (outB nd ars) ((k : Nat) : Int))).length cp12) (listB (at_ (outB nd ars) ((k : Nat) : Int))) :: blk b10 [U64 (tmq ||| (at_ (outB nd ars) ((k : Nat) : Int)))] 86 :: blk b9 [U64 (fm2)] 86 :: blk b8 [.slice ad6 (List.replicate ((outB nd ars).length) (default : (BitVec 64))).length cp7] 104 :: blk b5 [.slice ad3 (outB nd ars).length cp4] 104 :: vc 86 (.slice ad3 (outB nd ars).length cp4) (outB nd ars) :: blk b2 [.slice none 0 0, .slice none 0 0, I64 (0), I64 (0), I64 (0)] 58 :: blk b1 [I64 (nd), va] 54 :: I) 8 ?_
    refine D.r 0 rfl (Runs.ld ty104) ?_ (hJ := Fit.sub)
    refine D.r 1 rfl (Runs.move rfl) ?_ (hJ := Fit.sub)
    refine D.r 4 rfl (Runs.move rfl) ?_ (hJ := Fit.sub)
    refine D.step (rs := [2, 5]) (by kernel_rfl) rfl rfl (all2 ?_ (all1 ?_))
    ·refine Step.read rfl (Wanted.plain rfl) rfl rfl (Runs.idx (α := (BitVec 64)) (xs := iz2) Tryz.underlying104 ty86 rfl rfl Sl.o (by first | omega | exact (hwk (by omega)).1) (by first | omega | (have := (hwk (by omega)).2; omega))) Fit.sub ?_
     refine D.step (rs := [3, 5]) (by kernel_rfl) rfl rfl (all2 ?_ (all1 ?_))
     ·refine Step.read rfl (Wanted.plain rfl) rfl rfl (Runs.getf0 (α := (BitVec 64)) (xs := iz2) (u := U64 ((at_ iz2 (at_ (listB (at_ (outB nd ars) ((k : Nat) : Int))) ((j : Nat) : Int))))) ty86 rfl Sl.o (by first | omega | exact (hwk (by omega)).1) (by first | omega | (have := (hwk (by omega)).2; omega)) rfl) Fit.sub ?_
      refine D.step (rs := [5]) (by kernel_rfl) rfl rfl (all1 ?_)
      refine Step.eff rfl (Wanted.plain rfl) (Eff.call call75 rfl rfl (Bit_ok ((k : Nat) : Int))) ?_
      rintro _ _ ⟨_, _, ⟨rfl, rfl⟩, rfl, rfl⟩
      refine ⟨Fit.sub, ?_⟩
      refine D.r 6 rfl (Runs.orB (a := (at_ iz2 (at_ (listB (at_ (outB nd ars) ((k : Nat) : Int))) ((j : Nat) : Int)))) (b := bitB ((k : Nat) : Int)) rfl rfl) ?_ (hJ := Fit.sub)
      refine D.step (rs := [7]) (by kernel_rfl) rfl rfl (all1 ?_)
      refine Step.read rfl (Wanted.plain rfl) rfl rfl (Runs.idx (α := (BitVec 64)) (xs := iz2) Tryz.underlying104 ty86 rfl rfl Sl.o (by first | omega | exact (hwk (by omega)).1) (by first | omega | (have := (hwk (by omega)).2; omega))) Fit.sub ?_
      refine D.stop (by kernel_rfl) ?_
      refine A.eff (i := 8) (by kernel_rfl) rfl (Wanted.plain rfl) (Eff.set (α := (BitVec 64)) (xs := iz2) (e := 86) (new := (at_ iz2 (at_ (listB (at_ (outB nd ars) ((k : Nat) : Int))) ((j : Nat) : Int))) ||| (bitB ((k : Nat) : Int))) ty86 rfl rfl rfl (by first | omega | exact (hwk (by omega)).1) (by first | omega | (have := (hwk (by omega)).2; omega)) (by repeat (first | exact At.head _ _ _ | apply At.tail))) ?_
      rintro _ _ ⟨rfl, rfl⟩
      refine A.done (by kernel_rfl) ?_
      refine V.then ?_
      refine W.drawn mixed ?_
      refine A.hold (vc 3 (.slice ad11 (listB (at_ (outB nd ars) ((k : Nat) : Int))).length cp12) (listB (at_ (outB nd ars) ((k : Nat) : Int))) :: blk b10 [U64 (tmq ||| (at_ (outB nd ars) ((k : Nat) : Int)))] 86 :: blk b8 [.slice ad6 (List.replicate ((outB nd ars).length) (default : (BitVec 64))).length cp7] 104 :: vc 86 (.slice ad6 (List.replicate ((outB nd ars).length) (default : (BitVec 64))).length cp7) (List.set iz2 (at_ (listB (at_ (outB nd ars) ((k : Nat) : Int))) ((j : Nat) : Int)).toNat ((at_ iz2 (at_ (listB (at_ (outB nd ars) ((k : Nat) : Int))) ((j : Nat) : Int))) ||| (bitB ((k : Nat) : Int)))) :: blk b5 [.slice ad3 (outB nd ars).length cp4] 104 :: vc 86 (.slice ad3 (outB nd ars).length cp4) (outB nd ars) :: blk b2 [.slice none 0 0, .slice none 0 0, I64 (0), I64 (0), I64 (0)] 58 :: blk b1 [I64 (nd), va] 54 :: I) 4 ?_
      refine D.r 1 rfl (Runs.move rfl) ?_ (hJ := Fit.sub)
      refine D.step (rs := [0, 2]) (by kernel_rfl) rfl rfl (all2 ?_ (all1 ?_))
      ·refine Step.read rfl (Wanted.plain rfl) rfl rfl (Runs.ld ty86) Fit.sub ?_
       refine D.step (rs := [2]) (by kernel_rfl) rfl rfl (all1 ?_)
       refine Step.eff rfl (Wanted.plain rfl) (Eff.call call75 rfl rfl (Bit_ok ((k : Nat) : Int))) ?_
       rintro _ _ ⟨_, _, ⟨rfl, rfl⟩, rfl, rfl⟩
       refine ⟨Fit.sub, ?_⟩
       refine D.r 3 rfl (Runs.orB (a := fm2) (b := bitB ((k : Nat) : Int)) rfl rfl) ?_ (hJ := Fit.sub)
       refine D.stop (by kernel_rfl) ?_
       refine A.eff (i := 4) (by kernel_rfl) rfl (Wanted.plain rfl) (Eff.st (cs := [_]) (vs := [_]) (cs' := [_]) ty86) ?_
       rintro _ _ ⟨rfl, rfl⟩
       refine A.done (by kernel_rfl) ?_
       refine V.block_normal ?_
       refine V.then ?_
       refine W.region ?_
       refine G.r (Runs.add rfl rfl (by unfold InR; omega)) ?_
       refine G.r (Runs.move rfl) ?_
       refine G.nil ?_
       exact V.next ((j + 1), (fm2 ||| (bitB ((k : Nat) : Int))), (List.set iz2 (at_ (listB (at_ (outB nd ars) ((k : Nat) : Int))) ((j : Nat) : Int)).toNat ((at_ iz2 (at_ (listB (at_ (outB nd ars) ((k : Nat) : Int))) ((j : Nat) : Int))) ||| (bitB ((k : Nat) : Int))))) (show ((j + 1 : Nat) ≤ (listB (at_ (outB nd ars) ((k : Nat) : Int))).length) ∧ ((fm2 ||| (bitB ((k : Nat) : Int)) : BitVec 64) = if (j + 1 : Nat) = 0 then fmq else fmq ||| bitB (k : Int)) ∧ ((List.set iz2 (at_ (listB (at_ (outB nd ars) ((k : Nat) : Int))) ((j : Nat) : Int)).toNat ((at_ iz2 (at_ (listB (at_ (outB nd ars) ((k : Nat) : Int))) ((j : Nat) : Int))) ||| (bitB ((k : Nat) : Int))) : List (BitVec 64)) = insJ iz (k : Int) ((listB (at_ (outB nd ars) ((k : Nat) : Int))).take (j + 1 : Nat))) from ⟨(by omega), (by rw [if_neg (by omega), hfm2]; by_cases h0 : j = 0; (· rw [if_pos h0]); (· rw [if_neg h0, BitVec.or_assoc, BitVec.or_self])), (by rw [insJ_take (by omega), ← hiz2])⟩) (show (listB (at_ (outB nd ars) ((k : Nat) : Int))).length - (j + 1 : Nat) < (listB (at_ (outB nd ars) ((k : Nat) : Int))).length - j from (by omega)) (Sub.cons rfl (Sub.cons rfl (Sub.cons rfl (Sub.cons rfl (Sub.cons rfl (Sub.cons rfl (Sub.cons rfl (Sub.cons rfl (Sub.cons rfl (Sub.cons rfl (Sub.cons rfl (Sub.cons lookO Sub.nil)))))))))))) (show Fit κ _ (vc 3 (.slice ad11 (listB (at_ (outB nd ars) ((k : Nat) : Int))).length cp12) (listB (at_ (outB nd ars) ((k : Nat) : Int))) :: blk b10 [U64 (tmq ||| (at_ (outB nd ars) ((k : Nat) : Int)))] 86 :: blk b9 [U64 ((fm2 ||| (bitB ((k : Nat) : Int))))] 86 :: blk b8 [.slice ad6 (List.replicate ((outB nd ars).length) (default : (BitVec 64))).length cp7] 104 :: vc 86 (.slice ad6 (List.replicate ((outB nd ars).length) (default : (BitVec 64))).length cp7) ((List.set iz2 (at_ (listB (at_ (outB nd ars) ((k : Nat) : Int))) ((j : Nat) : Int)).toNat ((at_ iz2 (at_ (listB (at_ (outB nd ars) ((k : Nat) : Int))) ((j : Nat) : Int))) ||| (bitB ((k : Nat) : Int))))) :: blk b5 [.slice ad3 (outB nd ars).length cp4] 104 :: vc 86 (.slice ad3 (outB nd ars).length cp4) (outB nd ars) :: blk b2 [.slice none 0 0, .slice none 0 0, I64 (0), I64 (0), I64 (0)] 58 :: blk b1 [I64 (nd), va] 54 :: I) from Fit.s)
      ·refine Step.eff rfl (Wanted.plain rfl) (Eff.call call75 rfl rfl (Bit_ok ((k : Nat) : Int))) ?_
       rintro _ _ ⟨_, _, ⟨rfl, rfl⟩, rfl, rfl⟩
       refine ⟨Fit.sub, ?_⟩
       refine D.step (rs := [0]) (by kernel_rfl) rfl rfl (all1 ?_)
       refine Step.read rfl (Wanted.plain rfl) rfl rfl (Runs.ld ty86) Fit.sub ?_
       refine D.r 3 rfl (Runs.orB (a := fm2) (b := bitB ((k : Nat) : Int)) rfl rfl) ?_ (hJ := Fit.sub)
       refine D.stop (by kernel_rfl) ?_
       refine A.eff (i := 4) (by kernel_rfl) rfl (Wanted.plain rfl) (Eff.st (cs := [_]) (vs := [_]) (cs' := [_]) ty86) ?_
       rintro _ _ ⟨rfl, rfl⟩
       refine A.done (by kernel_rfl) ?_
       refine V.block_normal ?_
       refine V.then ?_
       refine W.region ?_
       refine G.r (Runs.add rfl rfl (by unfold InR; omega)) ?_
       refine G.r (Runs.move rfl) ?_
       refine G.nil ?_
       exact V.next ((j + 1), (fm2 ||| (bitB ((k : Nat) : Int))), (List.set iz2 (at_ (listB (at_ (outB nd ars) ((k : Nat) : Int))) ((j : Nat) : Int)).toNat ((at_ iz2 (at_ (listB (at_ (outB nd ars) ((k : Nat) : Int))) ((j : Nat) : Int))) ||| (bitB ((k : Nat) : Int))))) (show ((j + 1 : Nat) ≤ (listB (at_ (outB nd ars) ((k : Nat) : Int))).length) ∧ ((fm2 ||| (bitB ((k : Nat) : Int)) : BitVec 64) = if (j + 1 : Nat) = 0 then fmq else fmq ||| bitB (k : Int)) ∧ ((List.set iz2 (at_ (listB (at_ (outB nd ars) ((k : Nat) : Int))) ((j : Nat) : Int)).toNat ((at_ iz2 (at_ (listB (at_ (outB nd ars) ((k : Nat) : Int))) ((j : Nat) : Int))) ||| (bitB ((k : Nat) : Int))) : List (BitVec 64)) = insJ iz (k : Int) ((listB (at_ (outB nd ars) ((k : Nat) : Int))).take (j + 1 : Nat))) from ⟨(by omega), (by rw [if_neg (by omega), hfm2]; by_cases h0 : j = 0; (· rw [if_pos h0]); (· rw [if_neg h0, BitVec.or_assoc, BitVec.or_self])), (by rw [insJ_take (by omega), ← hiz2])⟩) (show (listB (at_ (outB nd ars) ((k : Nat) : Int))).length - (j + 1 : Nat) < (listB (at_ (outB nd ars) ((k : Nat) : Int))).length - j from (by omega)) (Sub.cons rfl (Sub.cons rfl (Sub.cons rfl (Sub.cons rfl (Sub.cons rfl (Sub.cons rfl (Sub.cons rfl (Sub.cons rfl (Sub.cons rfl (Sub.cons rfl (Sub.cons rfl (Sub.cons lookO Sub.nil)))))))))))) (show Fit κ _ (vc 3 (.slice ad11 (listB (at_ (outB nd ars) ((k : Nat) : Int))).length cp12) (listB (at_ (outB nd ars) ((k : Nat) : Int))) :: blk b10 [U64 (tmq ||| (at_ (outB nd ars) ((k : Nat) : Int)))] 86 :: blk b9 [U64 ((fm2 ||| (bitB ((k : Nat) : Int))))] 86 :: blk b8 [.slice ad6 (List.replicate ((outB nd ars).length) (default : (BitVec 64))).length cp7] 104 :: vc 86 (.slice ad6 (List.replicate ((outB nd ars).length) (default : (BitVec 64))).length cp7) ((List.set iz2 (at_ (listB (at_ (outB nd ars) ((k : Nat) : Int))) ((j : Nat) : Int)).toNat ((at_ iz2 (at_ (listB (at_ (outB nd ars) ((k : Nat) : Int))) ((j : Nat) : Int))) ||| (bitB ((k : Nat) : Int))))) :: blk b5 [.slice ad3 (outB nd ars).length cp4] 104 :: vc 86 (.slice ad3 (outB nd ars).length cp4) (outB nd ars) :: blk b2 [.slice none 0 0, .slice none 0 0, I64 (0), I64 (0), I64 (0)] 58 :: blk b1 [I64 (nd), va] 54 :: I) from Fit.s)
     ·refine Step.eff rfl (Wanted.plain rfl) (Eff.call call75 rfl rfl (Bit_ok ((k : Nat) : Int))) ?_
      rintro _ _ ⟨_, _, ⟨rfl, rfl⟩, rfl, rfl⟩
      refine ⟨Fit.sub, ?_⟩
      refine D.step (rs := [3]) (by kernel_rfl) rfl rfl (all1 ?_)
      refine Step.read rfl (Wanted.plain rfl) rfl rfl (Runs.getf0 (α := (BitVec 64)) (xs := iz2) (u := U64 ((at_ iz2 (at_ (listB (at_ (outB nd ars) ((k : Nat) : Int))) ((j : Nat) : Int))))) ty86 rfl Sl.o (by first | omega | exact (hwk (by omega)).1) (by first | omega | (have := (hwk (by omega)).2; omega)) rfl) Fit.sub ?_
      refine D.r 6 rfl (Runs.orB (a := (at_ iz2 (at_ (listB (at_ (outB nd ars) ((k : Nat) : Int))) ((j : Nat) : Int)))) (b := bitB ((k : Nat) : Int)) rfl rfl) ?_ (hJ := Fit.sub)
      refine D.step (rs := [7]) (by kernel_rfl) rfl rfl (all1 ?_)
      refine Step.read rfl (Wanted.plain rfl) rfl rfl (Runs.idx (α := (BitVec 64)) (xs := iz2) Tryz.underlying104 ty86 rfl rfl Sl.o (by first | omega | exact (hwk (by omega)).1) (by first | omega | (have := (hwk (by omega)).2; omega))) Fit.sub ?_
      refine D.stop (by kernel_rfl) ?_
      refine A.eff (i := 8) (by kernel_rfl) rfl (Wanted.plain rfl) (Eff.set (α := (BitVec 64)) (xs := iz2) (e := 86) (new := (at_ iz2 (at_ (listB (at_ (outB nd ars) ((k : Nat) : Int))) ((j : Nat) : Int))) ||| (bitB ((k : Nat) : Int))) ty86 rfl rfl rfl (by first | omega | exact (hwk (by omega)).1) (by first | omega | (have := (hwk (by omega)).2; omega)) (by repeat (first | exact At.head _ _ _ | apply At.tail))) ?_
      rintro _ _ ⟨rfl, rfl⟩
      refine A.done (by kernel_rfl) ?_
      refine V.then ?_
      refine W.drawn mixed ?_
      refine A.hold (vc 3 (.slice ad11 (listB (at_ (outB nd ars) ((k : Nat) : Int))).length cp12) (listB (at_ (outB nd ars) ((k : Nat) : Int))) :: blk b10 [U64 (tmq ||| (at_ (outB nd ars) ((k : Nat) : Int)))] 86 :: blk b8 [.slice ad6 (List.replicate ((outB nd ars).length) (default : (BitVec 64))).length cp7] 104 :: vc 86 (.slice ad6 (List.replicate ((outB nd ars).length) (default : (BitVec 64))).length cp7) (List.set iz2 (at_ (listB (at_ (outB nd ars) ((k : Nat) : Int))) ((j : Nat) : Int)).toNat ((at_ iz2 (at_ (listB (at_ (outB nd ars) ((k : Nat) : Int))) ((j : Nat) : Int))) ||| (bitB ((k : Nat) : Int)))) :: blk b5 [.slice ad3 (outB nd ars).length cp4] 104 :: vc 86 (.slice ad3 (outB nd ars).length cp4) (outB nd ars) :: blk b2 [.slice none 0 0, .slice none 0 0, I64 (0), I64 (0), I64 (0)] 58 :: blk b1 [I64 (nd), va] 54 :: I) 4 ?_
      refine D.r 1 rfl (Runs.move rfl) ?_ (hJ := Fit.sub)
      refine D.step (rs := [0, 2]) (by kernel_rfl) rfl rfl (all2 ?_ (all1 ?_))
      ·refine Step.read rfl (Wanted.plain rfl) rfl rfl (Runs.ld ty86) Fit.sub ?_
       refine D.step (rs := [2]) (by kernel_rfl) rfl rfl (all1 ?_)
       refine Step.eff rfl (Wanted.plain rfl) (Eff.call call75 rfl rfl (Bit_ok ((k : Nat) : Int))) ?_
       rintro _ _ ⟨_, _, ⟨rfl, rfl⟩, rfl, rfl⟩
       refine ⟨Fit.sub, ?_⟩
       refine D.r 3 rfl (Runs.orB (a := fm2) (b := bitB ((k : Nat) : Int)) rfl rfl) ?_ (hJ := Fit.sub)
       refine D.stop (by kernel_rfl) ?_
       refine A.eff (i := 4) (by kernel_rfl) rfl (Wanted.plain rfl) (Eff.st (cs := [_]) (vs := [_]) (cs' := [_]) ty86) ?_
       rintro _ _ ⟨rfl, rfl⟩
       refine A.done (by kernel_rfl) ?_
       refine V.block_normal ?_
       refine V.then ?_
       refine W.region ?_
       refine G.r (Runs.add rfl rfl (by unfold InR; omega)) ?_
       refine G.r (Runs.move rfl) ?_
       refine G.nil ?_
       exact V.next ((j + 1), (fm2 ||| (bitB ((k : Nat) : Int))), (List.set iz2 (at_ (listB (at_ (outB nd ars) ((k : Nat) : Int))) ((j : Nat) : Int)).toNat ((at_ iz2 (at_ (listB (at_ (outB nd ars) ((k : Nat) : Int))) ((j : Nat) : Int))) ||| (bitB ((k : Nat) : Int))))) (show ((j + 1 : Nat) ≤ (listB (at_ (outB nd ars) ((k : Nat) : Int))).length) ∧ ((fm2 ||| (bitB ((k : Nat) : Int)) : BitVec 64) = if (j + 1 : Nat) = 0 then fmq else fmq ||| bitB (k : Int)) ∧ ((List.set iz2 (at_ (listB (at_ (outB nd ars) ((k : Nat) : Int))) ((j : Nat) : Int)).toNat ((at_ iz2 (at_ (listB (at_ (outB nd ars) ((k : Nat) : Int))) ((j : Nat) : Int))) ||| (bitB ((k : Nat) : Int))) : List (BitVec 64)) = insJ iz (k : Int) ((listB (at_ (outB nd ars) ((k : Nat) : Int))).take (j + 1 : Nat))) from ⟨(by omega), (by rw [if_neg (by omega), hfm2]; by_cases h0 : j = 0; (· rw [if_pos h0]); (· rw [if_neg h0, BitVec.or_assoc, BitVec.or_self])), (by rw [insJ_take (by omega), ← hiz2])⟩) (show (listB (at_ (outB nd ars) ((k : Nat) : Int))).length - (j + 1 : Nat) < (listB (at_ (outB nd ars) ((k : Nat) : Int))).length - j from (by omega)) (Sub.cons rfl (Sub.cons rfl (Sub.cons rfl (Sub.cons rfl (Sub.cons rfl (Sub.cons rfl (Sub.cons rfl (Sub.cons rfl (Sub.cons rfl (Sub.cons rfl (Sub.cons rfl (Sub.cons lookO Sub.nil)))))))))))) (show Fit κ _ (vc 3 (.slice ad11 (listB (at_ (outB nd ars) ((k : Nat) : Int))).length cp12) (listB (at_ (outB nd ars) ((k : Nat) : Int))) :: blk b10 [U64 (tmq ||| (at_ (outB nd ars) ((k : Nat) : Int)))] 86 :: blk b9 [U64 ((fm2 ||| (bitB ((k : Nat) : Int))))] 86 :: blk b8 [.slice ad6 (List.replicate ((outB nd ars).length) (default : (BitVec 64))).length cp7] 104 :: vc 86 (.slice ad6 (List.replicate ((outB nd ars).length) (default : (BitVec 64))).length cp7) ((List.set iz2 (at_ (listB (at_ (outB nd ars) ((k : Nat) : Int))) ((j : Nat) : Int)).toNat ((at_ iz2 (at_ (listB (at_ (outB nd ars) ((k : Nat) : Int))) ((j : Nat) : Int))) ||| (bitB ((k : Nat) : Int))))) :: blk b5 [.slice ad3 (outB nd ars).length cp4] 104 :: vc 86 (.slice ad3 (outB nd ars).length cp4) (outB nd ars) :: blk b2 [.slice none 0 0, .slice none 0 0, I64 (0), I64 (0), I64 (0)] 58 :: blk b1 [I64 (nd), va] 54 :: I) from Fit.s)
      ·refine Step.eff rfl (Wanted.plain rfl) (Eff.call call75 rfl rfl (Bit_ok ((k : Nat) : Int))) ?_
       rintro _ _ ⟨_, _, ⟨rfl, rfl⟩, rfl, rfl⟩
       refine ⟨Fit.sub, ?_⟩
       refine D.step (rs := [0]) (by kernel_rfl) rfl rfl (all1 ?_)
       refine Step.read rfl (Wanted.plain rfl) rfl rfl (Runs.ld ty86) Fit.sub ?_
       refine D.r 3 rfl (Runs.orB (a := fm2) (b := bitB ((k : Nat) : Int)) rfl rfl) ?_ (hJ := Fit.sub)
       refine D.stop (by kernel_rfl) ?_
       refine A.eff (i := 4) (by kernel_rfl) rfl (Wanted.plain rfl) (Eff.st (cs := [_]) (vs := [_]) (cs' := [_]) ty86) ?_
       rintro _ _ ⟨rfl, rfl⟩
       refine A.done (by kernel_rfl) ?_
       refine V.block_normal ?_
       refine V.then ?_
       refine W.region ?_
       refine G.r (Runs.add rfl rfl (by unfold InR; omega)) ?_
       refine G.r (Runs.move rfl) ?_
       refine G.nil ?_
       exact V.next ((j + 1), (fm2 ||| (bitB ((k : Nat) : Int))), (List.set iz2 (at_ (listB (at_ (outB nd ars) ((k : Nat) : Int))) ((j : Nat) : Int)).toNat ((at_ iz2 (at_ (listB (at_ (outB nd ars) ((k : Nat) : Int))) ((j : Nat) : Int))) ||| (bitB ((k : Nat) : Int))))) (show ((j + 1 : Nat) ≤ (listB (at_ (outB nd ars) ((k : Nat) : Int))).length) ∧ ((fm2 ||| (bitB ((k : Nat) : Int)) : BitVec 64) = if (j + 1 : Nat) = 0 then fmq else fmq ||| bitB (k : Int)) ∧ ((List.set iz2 (at_ (listB (at_ (outB nd ars) ((k : Nat) : Int))) ((j : Nat) : Int)).toNat ((at_ iz2 (at_ (listB (at_ (outB nd ars) ((k : Nat) : Int))) ((j : Nat) : Int))) ||| (bitB ((k : Nat) : Int))) : List (BitVec 64)) = insJ iz (k : Int) ((listB (at_ (outB nd ars) ((k : Nat) : Int))).take (j + 1 : Nat))) from ⟨(by omega), (by rw [if_neg (by omega), hfm2]; by_cases h0 : j = 0; (· rw [if_pos h0]); (· rw [if_neg h0, BitVec.or_assoc, BitVec.or_self])), (by rw [insJ_take (by omega), ← hiz2])⟩) (show (listB (at_ (outB nd ars) ((k : Nat) : Int))).length - (j + 1 : Nat) < (listB (at_ (outB nd ars) ((k : Nat) : Int))).length - j from (by omega)) (Sub.cons rfl (Sub.cons rfl (Sub.cons rfl (Sub.cons rfl (Sub.cons rfl (Sub.cons rfl (Sub.cons rfl (Sub.cons rfl (Sub.cons rfl (Sub.cons rfl (Sub.cons rfl (Sub.cons lookO Sub.nil)))))))))))) (show Fit κ _ (vc 3 (.slice ad11 (listB (at_ (outB nd ars) ((k : Nat) : Int))).length cp12) (listB (at_ (outB nd ars) ((k : Nat) : Int))) :: blk b10 [U64 (tmq ||| (at_ (outB nd ars) ((k : Nat) : Int)))] 86 :: blk b9 [U64 ((fm2 ||| (bitB ((k : Nat) : Int))))] 86 :: blk b8 [.slice ad6 (List.replicate ((outB nd ars).length) (default : (BitVec 64))).length cp7] 104 :: vc 86 (.slice ad6 (List.replicate ((outB nd ars).length) (default : (BitVec 64))).length cp7) ((List.set iz2 (at_ (listB (at_ (outB nd ars) ((k : Nat) : Int))) ((j : Nat) : Int)).toNat ((at_ iz2 (at_ (listB (at_ (outB nd ars) ((k : Nat) : Int))) ((j : Nat) : Int))) ||| (bitB ((k : Nat) : Int))))) :: blk b5 [.slice ad3 (outB nd ars).length cp4] 104 :: vc 86 (.slice ad3 (outB nd ars).length cp4) (outB nd ars) :: blk b2 [.slice none 0 0, .slice none 0 0, I64 (0), I64 (0), I64 (0)] 58 :: blk b1 [I64 (nd), va] 54 :: I) from Fit.s)
    ·refine Step.eff rfl (Wanted.plain rfl) (Eff.call call75 rfl rfl (Bit_ok ((k : Nat) : Int))) ?_
     rintro _ _ ⟨_, _, ⟨rfl, rfl⟩, rfl, rfl⟩
     refine ⟨Fit.sub, ?_⟩
     refine D.step (rs := [2]) (by kernel_rfl) rfl rfl (all1 ?_)
     refine Step.read rfl (Wanted.plain rfl) rfl rfl (Runs.idx (α := (BitVec 64)) (xs := iz2) Tryz.underlying104 ty86 rfl rfl Sl.o (by first | omega | exact (hwk (by omega)).1) (by first | omega | (have := (hwk (by omega)).2; omega))) Fit.sub ?_
     refine D.step (rs := [3]) (by kernel_rfl) rfl rfl (all1 ?_)
     refine Step.read rfl (Wanted.plain rfl) rfl rfl (Runs.getf0 (α := (BitVec 64)) (xs := iz2) (u := U64 ((at_ iz2 (at_ (listB (at_ (outB nd ars) ((k : Nat) : Int))) ((j : Nat) : Int))))) ty86 rfl Sl.o (by first | omega | exact (hwk (by omega)).1) (by first | omega | (have := (hwk (by omega)).2; omega)) rfl) Fit.sub ?_
     refine D.r 6 rfl (Runs.orB (a := (at_ iz2 (at_ (listB (at_ (outB nd ars) ((k : Nat) : Int))) ((j : Nat) : Int)))) (b := bitB ((k : Nat) : Int)) rfl rfl) ?_ (hJ := Fit.sub)
     refine D.step (rs := [7]) (by kernel_rfl) rfl rfl (all1 ?_)
     refine Step.read rfl (Wanted.plain rfl) rfl rfl (Runs.idx (α := (BitVec 64)) (xs := iz2) Tryz.underlying104 ty86 rfl rfl Sl.o (by first | omega | exact (hwk (by omega)).1) (by first | omega | (have := (hwk (by omega)).2; omega))) Fit.sub ?_
     refine D.stop (by kernel_rfl) ?_
     refine A.eff (i := 8) (by kernel_rfl) rfl (Wanted.plain rfl) (Eff.set (α := (BitVec 64)) (xs := iz2) (e := 86) (new := (at_ iz2 (at_ (listB (at_ (outB nd ars) ((k : Nat) : Int))) ((j : Nat) : Int))) ||| (bitB ((k : Nat) : Int))) ty86 rfl rfl rfl (by first | omega | exact (hwk (by omega)).1) (by first | omega | (have := (hwk (by omega)).2; omega)) (by repeat (first | exact At.head _ _ _ | apply At.tail))) ?_
     rintro _ _ ⟨rfl, rfl⟩
     refine A.done (by kernel_rfl) ?_
     refine V.then ?_
     refine W.drawn mixed ?_
     refine A.hold (vc 3 (.slice ad11 (listB (at_ (outB nd ars) ((k : Nat) : Int))).length cp12) (listB (at_ (outB nd ars) ((k : Nat) : Int))) :: blk b10 [U64 (tmq ||| (at_ (outB nd ars) ((k : Nat) : Int)))] 86 :: blk b8 [.slice ad6 (List.replicate ((outB nd ars).length) (default : (BitVec 64))).length cp7] 104 :: vc 86 (.slice ad6 (List.replicate ((outB nd ars).length) (default : (BitVec 64))).length cp7) (List.set iz2 (at_ (listB (at_ (outB nd ars) ((k : Nat) : Int))) ((j : Nat) : Int)).toNat ((at_ iz2 (at_ (listB (at_ (outB nd ars) ((k : Nat) : Int))) ((j : Nat) : Int))) ||| (bitB ((k : Nat) : Int)))) :: blk b5 [.slice ad3 (outB nd ars).length cp4] 104 :: vc 86 (.slice ad3 (outB nd ars).length cp4) (outB nd ars) :: blk b2 [.slice none 0 0, .slice none 0 0, I64 (0), I64 (0), I64 (0)] 58 :: blk b1 [I64 (nd), va] 54 :: I) 4 ?_
     refine D.r 1 rfl (Runs.move rfl) ?_ (hJ := Fit.sub)
     refine D.step (rs := [0, 2]) (by kernel_rfl) rfl rfl (all2 ?_ (all1 ?_))
     ·refine Step.read rfl (Wanted.plain rfl) rfl rfl (Runs.ld ty86) Fit.sub ?_
      refine D.step (rs := [2]) (by kernel_rfl) rfl rfl (all1 ?_)
      refine Step.eff rfl (Wanted.plain rfl) (Eff.call call75 rfl rfl (Bit_ok ((k : Nat) : Int))) ?_
      rintro _ _ ⟨_, _, ⟨rfl, rfl⟩, rfl, rfl⟩
      refine ⟨Fit.sub, ?_⟩
      refine D.r 3 rfl (Runs.orB (a := fm2) (b := bitB ((k : Nat) : Int)) rfl rfl) ?_ (hJ := Fit.sub)
      refine D.stop (by kernel_rfl) ?_
      refine A.eff (i := 4) (by kernel_rfl) rfl (Wanted.plain rfl) (Eff.st (cs := [_]) (vs := [_]) (cs' := [_]) ty86) ?_
      rintro _ _ ⟨rfl, rfl⟩
      refine A.done (by kernel_rfl) ?_
      refine V.block_normal ?_
      refine V.then ?_
      refine W.region ?_
      refine G.r (Runs.add rfl rfl (by unfold InR; omega)) ?_
      refine G.r (Runs.move rfl) ?_
      refine G.nil ?_
      exact V.next ((j + 1), (fm2 ||| (bitB ((k : Nat) : Int))), (List.set iz2 (at_ (listB (at_ (outB nd ars) ((k : Nat) : Int))) ((j : Nat) : Int)).toNat ((at_ iz2 (at_ (listB (at_ (outB nd ars) ((k : Nat) : Int))) ((j : Nat) : Int))) ||| (bitB ((k : Nat) : Int))))) (show ((j + 1 : Nat) ≤ (listB (at_ (outB nd ars) ((k : Nat) : Int))).length) ∧ ((fm2 ||| (bitB ((k : Nat) : Int)) : BitVec 64) = if (j + 1 : Nat) = 0 then fmq else fmq ||| bitB (k : Int)) ∧ ((List.set iz2 (at_ (listB (at_ (outB nd ars) ((k : Nat) : Int))) ((j : Nat) : Int)).toNat ((at_ iz2 (at_ (listB (at_ (outB nd ars) ((k : Nat) : Int))) ((j : Nat) : Int))) ||| (bitB ((k : Nat) : Int))) : List (BitVec 64)) = insJ iz (k : Int) ((listB (at_ (outB nd ars) ((k : Nat) : Int))).take (j + 1 : Nat))) from ⟨(by omega), (by rw [if_neg (by omega), hfm2]; by_cases h0 : j = 0; (· rw [if_pos h0]); (· rw [if_neg h0, BitVec.or_assoc, BitVec.or_self])), (by rw [insJ_take (by omega), ← hiz2])⟩) (show (listB (at_ (outB nd ars) ((k : Nat) : Int))).length - (j + 1 : Nat) < (listB (at_ (outB nd ars) ((k : Nat) : Int))).length - j from (by omega)) (Sub.cons rfl (Sub.cons rfl (Sub.cons rfl (Sub.cons rfl (Sub.cons rfl (Sub.cons rfl (Sub.cons rfl (Sub.cons rfl (Sub.cons rfl (Sub.cons rfl (Sub.cons rfl (Sub.cons lookO Sub.nil)))))))))))) (show Fit κ _ (vc 3 (.slice ad11 (listB (at_ (outB nd ars) ((k : Nat) : Int))).length cp12) (listB (at_ (outB nd ars) ((k : Nat) : Int))) :: blk b10 [U64 (tmq ||| (at_ (outB nd ars) ((k : Nat) : Int)))] 86 :: blk b9 [U64 ((fm2 ||| (bitB ((k : Nat) : Int))))] 86 :: blk b8 [.slice ad6 (List.replicate ((outB nd ars).length) (default : (BitVec 64))).length cp7] 104 :: vc 86 (.slice ad6 (List.replicate ((outB nd ars).length) (default : (BitVec 64))).length cp7) ((List.set iz2 (at_ (listB (at_ (outB nd ars) ((k : Nat) : Int))) ((j : Nat) : Int)).toNat ((at_ iz2 (at_ (listB (at_ (outB nd ars) ((k : Nat) : Int))) ((j : Nat) : Int))) ||| (bitB ((k : Nat) : Int))))) :: blk b5 [.slice ad3 (outB nd ars).length cp4] 104 :: vc 86 (.slice ad3 (outB nd ars).length cp4) (outB nd ars) :: blk b2 [.slice none 0 0, .slice none 0 0, I64 (0), I64 (0), I64 (0)] 58 :: blk b1 [I64 (nd), va] 54 :: I) from Fit.s)
     ·refine Step.eff rfl (Wanted.plain rfl) (Eff.call call75 rfl rfl (Bit_ok ((k : Nat) : Int))) ?_
      rintro _ _ ⟨_, _, ⟨rfl, rfl⟩, rfl, rfl⟩
      refine ⟨Fit.sub, ?_⟩
      refine D.step (rs := [0]) (by kernel_rfl) rfl rfl (all1 ?_)
      refine Step.read rfl (Wanted.plain rfl) rfl rfl (Runs.ld ty86) Fit.sub ?_
      refine D.r 3 rfl (Runs.orB (a := fm2) (b := bitB ((k : Nat) : Int)) rfl rfl) ?_ (hJ := Fit.sub)
      refine D.stop (by kernel_rfl) ?_
      refine A.eff (i := 4) (by kernel_rfl) rfl (Wanted.plain rfl) (Eff.st (cs := [_]) (vs := [_]) (cs' := [_]) ty86) ?_
      rintro _ _ ⟨rfl, rfl⟩
      refine A.done (by kernel_rfl) ?_
      refine V.block_normal ?_
      refine V.then ?_
      refine W.region ?_
      refine G.r (Runs.add rfl rfl (by unfold InR; omega)) ?_
      refine G.r (Runs.move rfl) ?_
      refine G.nil ?_
      exact V.next ((j + 1), (fm2 ||| (bitB ((k : Nat) : Int))), (List.set iz2 (at_ (listB (at_ (outB nd ars) ((k : Nat) : Int))) ((j : Nat) : Int)).toNat ((at_ iz2 (at_ (listB (at_ (outB nd ars) ((k : Nat) : Int))) ((j : Nat) : Int))) ||| (bitB ((k : Nat) : Int))))) (show ((j + 1 : Nat) ≤ (listB (at_ (outB nd ars) ((k : Nat) : Int))).length) ∧ ((fm2 ||| (bitB ((k : Nat) : Int)) : BitVec 64) = if (j + 1 : Nat) = 0 then fmq else fmq ||| bitB (k : Int)) ∧ ((List.set iz2 (at_ (listB (at_ (outB nd ars) ((k : Nat) : Int))) ((j : Nat) : Int)).toNat ((at_ iz2 (at_ (listB (at_ (outB nd ars) ((k : Nat) : Int))) ((j : Nat) : Int))) ||| (bitB ((k : Nat) : Int))) : List (BitVec 64)) = insJ iz (k : Int) ((listB (at_ (outB nd ars) ((k : Nat) : Int))).take (j + 1 : Nat))) from ⟨(by omega), (by rw [if_neg (by omega), hfm2]; by_cases h0 : j = 0; (· rw [if_pos h0]); (· rw [if_neg h0, BitVec.or_assoc, BitVec.or_self])), (by rw [insJ_take (by omega), ← hiz2])⟩) (show (listB (at_ (outB nd ars) ((k : Nat) : Int))).length - (j + 1 : Nat) < (listB (at_ (outB nd ars) ((k : Nat) : Int))).length - j from (by omega)) (Sub.cons rfl (Sub.cons rfl (Sub.cons rfl (Sub.cons rfl (Sub.cons rfl (Sub.cons rfl (Sub.cons rfl (Sub.cons rfl (Sub.cons rfl (Sub.cons rfl (Sub.cons rfl (Sub.cons lookO Sub.nil)))))))))))) (show Fit κ _ (vc 3 (.slice ad11 (listB (at_ (outB nd ars) ((k : Nat) : Int))).length cp12) (listB (at_ (outB nd ars) ((k : Nat) : Int))) :: blk b10 [U64 (tmq ||| (at_ (outB nd ars) ((k : Nat) : Int)))] 86 :: blk b9 [U64 ((fm2 ||| (bitB ((k : Nat) : Int))))] 86 :: blk b8 [.slice ad6 (List.replicate ((outB nd ars).length) (default : (BitVec 64))).length cp7] 104 :: vc 86 (.slice ad6 (List.replicate ((outB nd ars).length) (default : (BitVec 64))).length cp7) ((List.set iz2 (at_ (listB (at_ (outB nd ars) ((k : Nat) : Int))) ((j : Nat) : Int)).toNat ((at_ iz2 (at_ (listB (at_ (outB nd ars) ((k : Nat) : Int))) ((j : Nat) : Int))) ||| (bitB ((k : Nat) : Int))))) :: blk b5 [.slice ad3 (outB nd ars).length cp4] 104 :: vc 86 (.slice ad3 (outB nd ars).length cp4) (outB nd ars) :: blk b2 [.slice none 0 0, .slice none 0 0, I64 (0), I64 (0), I64 (0)] 58 :: blk b1 [I64 (nd), va] 54 :: I) from Fit.s)
   ·refine W.exit ?_
    refine V.then_exit ?_
    refine V.then_exit ?_
    refine V.block_hit ?_
    refine V.block_normal ?_
    refine V.then ?_
    refine W.region ?_
    refine G.r (Runs.add rfl rfl (by unfold InR; omega)) ?_
    refine G.r (Runs.move rfl) ?_
    refine G.nil ?_
    exact V.next ((k + 1), (fm2), (tmq ||| (at_ (outB nd ars) ((k : Nat) : Int))), (iz2)) (show ((k + 1 : Nat) ≤ (outB nd ars).length) ∧ ((fm2 : BitVec 64) = sendM (outB nd ars) (k + 1 : Nat)) ∧ ((tmq ||| (at_ (outB nd ars) ((k : Nat) : Int)) : BitVec 64) = orT (outB nd ars) (k + 1 : Nat)) ∧ ((iz2 : List (BitVec 64)) = insK (outB nd ars) (k + 1 : Nat)) ∧ ((iz2 : List (BitVec 64)).length = (outB nd ars).length) from ⟨(by omega), (by rw [hfm2, sendM_succ, hfm]; by_cases h0 : at_ (outB nd ars) (k : Int) = 0#64; (· rw [if_neg (show ¬ at_ (outB nd ars) (k : Int) ≠ 0#64 from fun h => h h0), if_pos (show j = 0 from by have h8 : (listB (at_ (outB nd ars) ((k : Nat) : Int))).length = 0 := (by rw [h0, listB_zero]; rfl); omega)]); (· rw [if_pos (show at_ (outB nd ars) (k : Int) ≠ 0#64 from h0), if_neg (show ¬ j = 0 from by have := List.length_pos_iff.2 (listB_ne h0); omega)])), (by rw [orT_succ, ← htm]), (by rw [hiz2, insK_succ, ← hiz, List.take_of_length_le (by omega)]), (by rw [hiz2, insJ_len]; exact hizl)⟩) (show (outB nd ars).length - (k + 1 : Nat) < (outB nd ars).length - k from (by omega)) (Sub.cons rfl (Sub.cons rfl (Sub.cons rfl (Sub.cons rfl (Sub.cons rfl (Sub.cons rfl (Sub.cons rfl (Sub.cons lookO Sub.nil)))))))) (show Fit κ _ (blk b10 [U64 ((tmq ||| (at_ (outB nd ars) ((k : Nat) : Int))))] 86 :: blk b9 [U64 ((fm2))] 86 :: blk b8 [.slice ad6 (List.replicate ((outB nd ars).length) (default : (BitVec 64))).length cp7] 104 :: vc 86 (.slice ad6 (List.replicate ((outB nd ars).length) (default : (BitVec 64))).length cp7) ((iz2)) :: blk b5 [.slice ad3 (outB nd ars).length cp4] 104 :: vc 86 (.slice ad3 (outB nd ars).length cp4) (outB nd ars) :: blk b2 [.slice none 0 0, .slice none 0 0, I64 (0), I64 (0), I64 (0)] 58 :: blk b1 [I64 (nd), va] 54 :: I) from Fit.s)
  ·refine W.exit ?_
   refine V.then_exit ?_
   refine V.then_exit ?_
   refine V.block_hit ?_
   refine V.then ?_
   refine W.sr ?_
   refine G.e (Eff.call call76 rfl rfl None0_ok) ?_
   rintro _ _ ⟨_, _, ⟨rfl, rfl⟩, rfl, rfl⟩
   have hkE : k = (outB nd ars).length := by omega
   rw [hkE] at hfm htm hiz
   refine G.e (Eff.alloc ty58 rfl) ?_
   rintro _ _ ⟨b13, rfl, rfl⟩
   refine G.e (Eff.st (cs := [_, _, _, _, _]) (vs := [_, _, _, _, _]) (cs' := [_, _, _, _, _]) ty58) ?_
   rintro _ _ ⟨rfl, rfl⟩
   refine G.nt ?_
   refine W.seq ?_
   refine W.block ?_
   refine W.loop (σ := Nat × (BitVec 64) × (BitVec 64) × (Option Addr) × Nat × (Option Addr) × Nat × Bst) (fun s => ([(2, .pointer (some ⟨b2, 0, none⟩)), (5, .pointer (some ⟨b5, 0, none⟩)), (6, .pointer (some ⟨b8, 0, none⟩)), (7, .pointer (some ⟨b9, 0, none⟩)), (8, .pointer (some ⟨b10, 0, none⟩)), (13, .pointer (some ⟨b13, 0, none⟩))] : Env)) (fun s => vc 3 (.slice s.2.2.2.1 s.2.2.2.2.2.2.2.F.length s.2.2.2.2.1) (s.2.2.2.2.2.2.2.F) :: vc 3 (.slice s.2.2.2.2.2.1 s.2.2.2.2.2.2.2.T.length s.2.2.2.2.2.2.1) (s.2.2.2.2.2.2.2.T) :: blk b13 [.slice s.2.2.2.1 s.2.2.2.2.2.2.2.F.length s.2.2.2.2.1, .slice s.2.2.2.2.2.1 s.2.2.2.2.2.2.2.T.length s.2.2.2.2.2.2.1, I64 (s.2.2.2.2.2.2.2.n), I64 (s.2.2.2.2.2.2.2.sq.num), I64 (s.2.2.2.2.2.2.2.sq.den)] 58 :: blk b10 [U64 (s.2.2.1)] 86 :: blk b9 [U64 (s.2.1)] 86 :: blk b8 [.slice ad6 (List.replicate ((outB nd ars).length) (default : (BitVec 64))).length cp7] 104 :: vc 86 (.slice ad6 (List.replicate ((outB nd ars).length) (default : (BitVec 64))).length cp7) (iz) :: blk b5 [.slice ad3 (outB nd ars).length cp4] 104 :: vc 86 (.slice ad3 (outB nd ars).length cp4) (outB nd ars) :: blk b2 [.slice none 0 0, .slice none 0 0, I64 (0), I64 (0), I64 (0)] 58 :: blk b1 [I64 (nd), va] 54 :: I) (fun s => (peelK (outB nd ars) (insK (outB nd ars) (outB nd ars).length) s.1 s.2.1 s.2.2.1 s.2.2.2.2.2.2.2 = peelF (outB nd ars)) ∧ ((listB s.2.1).length + (listB s.2.2.1).length ≤ s.1) ∧ (∀ i : Nat, s.2.1.getLsbD i = true → i < (outB nd ars).length) ∧ (∀ i : Nat, s.2.2.1.getLsbD i = true → i < (outB nd ars).length) ∧ (FrV s.2.2.2.2.2.2.2.sq)) (fun s => s.1) (128, fmq, tmq, none, 0, none, 0, noneB) (show (peelK (outB nd ars) (insK (outB nd ars) (outB nd ars).length) (128 : Nat) (fmq : BitVec 64) (tmq : BitVec 64) (noneB : Bst) = peelF (outB nd ars)) ∧ ((listB (fmq : BitVec 64)).length + (listB (tmq : BitVec 64)).length ≤ (128 : Nat)) ∧ (∀ i : Nat, (fmq : BitVec 64).getLsbD i = true → i < (outB nd ars).length) ∧ (∀ i : Nat, (tmq : BitVec 64).getLsbD i = true → i < (outB nd ars).length) ∧ (FrV (noneB : Bst).sq) from ⟨(by rw [hfm, htm]; rfl), (by have := listB_len (fmq); have := listB_len (tmq); omega), (fun i hi => by rw [hfm] at hi; exact ((sendM_bit (by omega) i).1 hi).1), (fun i hi => by rw [htm] at hi; obtain ⟨v, _, h⟩ := (orT_bit _ _).1 hi; exact hRD.bit _ _ h), noneB_val⟩) (Sub.cons rfl (Sub.cons rfl (Sub.cons rfl (Sub.cons rfl (Sub.cons rfl (Sub.cons rfl Sub.nil)))))) (show Fit κ _ (vc 3 (.slice (none) (noneB).F.length (0)) ((noneB).F) :: vc 3 (.slice (none) (noneB).T.length (0)) ((noneB).T) :: blk b13 [.slice (none) (noneB).F.length (0), .slice (none) (noneB).T.length (0), I64 ((noneB).n), I64 ((noneB).sq.num), I64 ((noneB).sq.den)] 58 :: blk b10 [U64 ((tmq))] 86 :: blk b9 [U64 ((fmq))] 86 :: blk b8 [.slice ad6 (List.replicate ((outB nd ars).length) (default : (BitVec 64))).length cp7] 104 :: vc 86 (.slice ad6 (List.replicate ((outB nd ars).length) (default : (BitVec 64))).length cp7) (iz) :: blk b5 [.slice ad3 (outB nd ars).length cp4] 104 :: vc 86 (.slice ad3 (outB nd ars).length cp4) (outB nd ars) :: blk b2 [.slice none 0 0, .slice none 0 0, I64 (0), I64 (0), I64 (0)] 58 :: blk b1 [I64 (nd), va] 54 :: I) from (Fit.trans (Fit.nilvc (α := Int) _ _) (Fit.nilvc (α := Int) _ _))) ?_
   rintro ⟨n, fq, tq, fa, fc, ta, tc, bb⟩ hp
   obtain ⟨hpk, hfu, hfb, htb, hv⟩ : (peelK (outB nd ars) (insK (outB nd ars) (outB nd ars).length) n fq tq bb = peelF (outB nd ars)) ∧ ((listB fq).length + (listB tq).length ≤ n) ∧ (∀ i : Nat, fq.getLsbD i = true → i < (outB nd ars).length) ∧ (∀ i : Nat, tq.getLsbD i = true → i < (outB nd ars).length) ∧ (FrV bb.sq) := hp
   show W Tryz.prog κ 109 _ _ ([(2, .pointer (some ⟨b2, 0, none⟩)), (5, .pointer (some ⟨b5, 0, none⟩)), (6, .pointer (some ⟨b8, 0, none⟩)), (7, .pointer (some ⟨b9, 0, none⟩)), (8, .pointer (some ⟨b10, 0, none⟩)), (13, .pointer (some ⟨b13, 0, none⟩))] : Env) (vc 3 (.slice fa bb.F.length fc) (bb.F) :: vc 3 (.slice ta bb.T.length tc) (bb.T) :: blk b13 [.slice fa bb.F.length fc, .slice ta bb.T.length tc, I64 (bb.n), I64 (bb.sq.num), I64 (bb.sq.den)] 58 :: blk b10 [U64 (tq)] 86 :: blk b9 [U64 (fq)] 86 :: blk b8 [.slice ad6 (List.replicate ((outB nd ars).length) (default : (BitVec 64))).length cp7] 104 :: vc 86 (.slice ad6 (List.replicate ((outB nd ars).length) (default : (BitVec 64))).length cp7) (iz) :: blk b5 [.slice ad3 (outB nd ars).length cp4] 104 :: vc 86 (.slice ad3 (outB nd ars).length cp4) (outB nd ars) :: blk b2 [.slice none 0 0, .slice none 0 0, I64 (0), I64 (0), I64 (0)] 58 :: blk b1 [I64 (nd), va] 54 :: I)
   refine W.seq ?_
   refine W.sr ?_
   refine G.r (Runs.ld ty86) ?_
   refine G.r (Runs.neB (a := fq) (b := 0#64) rfl rfl) ?_
   refine G.r (Runs.move rfl) ?_
   refine G.split (d := 64) rfl (fun g64 => ?_) (fun g64 => ?_)
   ·refine G.ro (Runs.ld ty86) ?_
    refine G.ro (Runs.neB (a := tq) (b := 0#64) rfl rfl) ?_
    refine G.r (Runs.pickt rfl rfl) ?_
    refine G.nt ?_
    refine W.ite rfl (fun c67 => ?_) (fun c67 => ?_)
    ·refine W.skip ?_
     refine V.then ?_
     refine W.block ?_
     refine W.cut (σ := (Option Addr) × Nat × (Option Addr) × Nat × Bst) (fun s => ([(2, .pointer (some ⟨b2, 0, none⟩)), (5, .pointer (some ⟨b5, 0, none⟩)), (6, .pointer (some ⟨b8, 0, none⟩)), (7, .pointer (some ⟨b9, 0, none⟩)), (8, .pointer (some ⟨b10, 0, none⟩)), (13, .pointer (some ⟨b13, 0, none⟩))] : Env)) (fun s => vc 3 (.slice s.1 s.2.2.2.2.F.length s.2.1) (s.2.2.2.2.F) :: vc 3 (.slice s.2.2.1 s.2.2.2.2.T.length s.2.2.2.1) (s.2.2.2.2.T) :: blk b13 [.slice s.1 s.2.2.2.2.F.length s.2.1, .slice s.2.2.1 s.2.2.2.2.T.length s.2.2.2.1, I64 (s.2.2.2.2.n), I64 (s.2.2.2.2.sq.num), I64 (s.2.2.2.2.sq.den)] 58 :: blk b10 [U64 (tq)] 86 :: blk b9 [U64 (fq)] 86 :: blk b8 [.slice ad6 (List.replicate ((outB nd ars).length) (default : (BitVec 64))).length cp7] 104 :: vc 86 (.slice ad6 (List.replicate ((outB nd ars).length) (default : (BitVec 64))).length cp7) (iz) :: blk b5 [.slice ad3 (outB nd ars).length cp4] 104 :: vc 86 (.slice ad3 (outB nd ars).length cp4) (outB nd ars) :: blk b2 [.slice none 0 0, .slice none 0 0, I64 (0), I64 (0), I64 (0)] 58 :: blk b1 [I64 (nd), va] 54 :: I) (fun s => (s.2.2.2.2 = if 0 < cmpF (pairB (outB nd ars) fq tq).sq bb.sq then pairB (outB nd ars) fq tq else bb) ∧ (FrV s.2.2.2.2.sq)) ?_ ?_
     ·refine W.sr ?_
      refine G.r (Runs.ld ty104) ?_
      have hfz : fq ≠ 0#64 := g64
      have htz : tq ≠ 0#64 := c67
      have hfl := List.length_pos_iff.2 (listB_ne hfz)
      have htl := List.length_pos_iff.2 (listB_ne htz)
      refine G.r (Runs.ld ty86) ?_
      refine G.r (Runs.ld ty86) ?_
      refine G.e (Eff.call call78 rfl rfl (Pair0_ok Sl.o fq tq (by omega) hfz htz (TabRd.fit hT Fit.m))) ?_
      rintro _ _ ⟨_, _, ⟨ad14, cp15, ad16, cp17, rfl, rfl⟩, rfl, rfl⟩
      refine G.e (Eff.alloc ty58 rfl) ?_
      rintro _ _ ⟨b18, rfl, rfl⟩
      refine G.e (Eff.st (cs := [_, _, _, _, _]) (vs := [_, _, _, _, _]) (cs' := [_, _, _, _, _]) ty58) ?_
      rintro _ _ ⟨rfl, rfl⟩
      refine G.nt ?_
      refine W.sr ?_
      refine G.r (Runs.fieldAddr fld58_3 rfl) ?_
      refine G.r (Runs.lds (vs := [_, _]) ty45) ?_
      refine G.r (Runs.fieldAddr fld58_3 rfl) ?_
      refine G.r (Runs.lds (vs := [_, _]) ty45) ?_
      refine G.e (Eff.call call91 rfl rfl (RatCmp_ok (sqB (outB nd ars) fq tq) bb.sq (by first | exact hv | exact sqB_val hfz htz) (by first | exact hv | exact sqB_val hfz htz))) ?_
      rintro _ _ ⟨_, _, ⟨rfl, rfl⟩, rfl, rfl⟩
      refine G.r (Runs.gtr rfl rfl) ?_
      refine G.nt ?_
      refine W.ite rfl (fun c77 => ?_) (fun c77 => ?_)
      ·refine W.region ?_
       refine G.r (Runs.lds (vs := [_, _, _, _, _]) ty58) ?_
       refine G.e (Eff.st (cs := [_, _, _, _, _]) (vs := [_, _, _, _, _]) (cs' := [_, _, _, _, _]) ty58) ?_
       rintro _ _ ⟨rfl, rfl⟩
       refine G.nil ?_
       exact V.mid ((ad14), (cp15), (ad16), (cp17), (pairB (outB nd ars) fq tq)) (show ((pairB (outB nd ars) fq tq : Bst) = if 0 < cmpF (pairB (outB nd ars) fq tq).sq bb.sq then pairB (outB nd ars) fq tq else bb) ∧ (FrV (pairB (outB nd ars) fq tq : Bst).sq) from ⟨(by first | rw [if_pos (show 0 < cmpF (pairB (outB nd ars) fq tq).sq bb.sq from by first | exact c77 | fail)] | rw [if_neg (show ¬ 0 < cmpF (pairB (outB nd ars) fq tq).sq bb.sq from by first | exact c77 | fail)]), (by first | exact hv | exact sqB_val hfz htz)⟩) (Sub.cons rfl (Sub.cons rfl (Sub.cons rfl (Sub.cons rfl (Sub.cons rfl (Sub.cons rfl Sub.nil)))))) (show Fit κ _ (vc 3 (.slice (ad14) (pairB (outB nd ars) fq tq).F.length (cp15)) ((pairB (outB nd ars) fq tq).F) :: vc 3 (.slice (ad16) (pairB (outB nd ars) fq tq).T.length (cp17)) ((pairB (outB nd ars) fq tq).T) :: blk b13 [.slice (ad14) (pairB (outB nd ars) fq tq).F.length (cp15), .slice (ad16) (pairB (outB nd ars) fq tq).T.length (cp17), I64 ((pairB (outB nd ars) fq tq).n), I64 ((pairB (outB nd ars) fq tq).sq.num), I64 ((pairB (outB nd ars) fq tq).sq.den)] 58 :: blk b10 [U64 (tq)] 86 :: blk b9 [U64 (fq)] 86 :: blk b8 [.slice ad6 (List.replicate ((outB nd ars).length) (default : (BitVec 64))).length cp7] 104 :: vc 86 (.slice ad6 (List.replicate ((outB nd ars).length) (default : (BitVec 64))).length cp7) (iz) :: blk b5 [.slice ad3 (outB nd ars).length cp4] 104 :: vc 86 (.slice ad3 (outB nd ars).length cp4) (outB nd ars) :: blk b2 [.slice none 0 0, .slice none 0 0, I64 (0), I64 (0), I64 (0)] 58 :: blk b1 [I64 (nd), va] 54 :: I) from (by first | exact Fit.s | exact Fit.sub))
      ·refine W.skip ?_
       exact V.mid ((fa), (fc), (ta), (tc), (bb)) (show ((bb : Bst) = if 0 < cmpF (pairB (outB nd ars) fq tq).sq bb.sq then pairB (outB nd ars) fq tq else bb) ∧ (FrV (bb : Bst).sq) from ⟨(by first | rw [if_pos (show 0 < cmpF (pairB (outB nd ars) fq tq).sq bb.sq from by first | exact c77 | fail)] | rw [if_neg (show ¬ 0 < cmpF (pairB (outB nd ars) fq tq).sq bb.sq from by first | exact c77 | fail)]), (by first | exact hv | exact sqB_val hfz htz)⟩) (Sub.cons rfl (Sub.cons rfl (Sub.cons rfl (Sub.cons rfl (Sub.cons rfl (Sub.cons rfl Sub.nil)))))) (show Fit κ _ (vc 3 (.slice (fa) (bb).F.length (fc)) ((bb).F) :: vc 3 (.slice (ta) (bb).T.length (tc)) ((bb).T) :: blk b13 [.slice (fa) (bb).F.length (fc), .slice (ta) (bb).T.length (tc), I64 ((bb).n), I64 ((bb).sq.num), I64 ((bb).sq.den)] 58 :: blk b10 [U64 (tq)] 86 :: blk b9 [U64 (fq)] 86 :: blk b8 [.slice ad6 (List.replicate ((outB nd ars).length) (default : (BitVec 64))).length cp7] 104 :: vc 86 (.slice ad6 (List.replicate ((outB nd ars).length) (default : (BitVec 64))).length cp7) (iz) :: blk b5 [.slice ad3 (outB nd ars).length cp4] 104 :: vc 86 (.slice ad3 (outB nd ars).length cp4) (outB nd ars) :: blk b2 [.slice none 0 0, .slice none 0 0, I64 (0), I64 (0), I64 (0)] 58 :: blk b1 [I64 (nd), va] 54 :: I) from (by first | exact Fit.s | exact Fit.sub))
     ·rintro ⟨fa2, fc2, ta2, tc2, bz⟩ hp
      obtain ⟨hbz, hvz⟩ : (bz = if 0 < cmpF (pairB (outB nd ars) fq tq).sq bb.sq then pairB (outB nd ars) fq tq else bb) ∧ (FrV bz.sq) := hp
      show W Tryz.prog κ 109 _ _ ([(2, .pointer (some ⟨b2, 0, none⟩)), (5, .pointer (some ⟨b5, 0, none⟩)), (6, .pointer (some ⟨b8, 0, none⟩)), (7, .pointer (some ⟨b9, 0, none⟩)), (8, .pointer (some ⟨b10, 0, none⟩)), (13, .pointer (some ⟨b13, 0, none⟩))] : Env) (vc 3 (.slice fa2 bz.F.length fc2) (bz.F) :: vc 3 (.slice ta2 bz.T.length tc2) (bz.T) :: blk b13 [.slice fa2 bz.F.length fc2, .slice ta2 bz.T.length tc2, I64 (bz.n), I64 (bz.sq.num), I64 (bz.sq.den)] 58 :: blk b10 [U64 (tq)] 86 :: blk b9 [U64 (fq)] 86 :: blk b8 [.slice ad6 (List.replicate ((outB nd ars).length) (default : (BitVec 64))).length cp7] 104 :: vc 86 (.slice ad6 (List.replicate ((outB nd ars).length) (default : (BitVec 64))).length cp7) (iz) :: blk b5 [.slice ad3 (outB nd ars).length cp4] 104 :: vc 86 (.slice ad3 (outB nd ars).length cp4) (outB nd ars) :: blk b2 [.slice none 0 0, .slice none 0 0, I64 (0), I64 (0), I64 (0)] 58 :: blk b1 [I64 (nd), va] 54 :: I)
      have hfz : fq ≠ 0#64 := g64
      have htz : tq ≠ 0#64 := c67
      have hfl := List.length_pos_iff.2 (listB_ne hfz)
      have htl := List.length_pos_iff.2 (listB_ne htz)
      refine W.sr ?_
      refine G.r (Runs.ld ty86) ?_
      refine G.r (Runs.makeFunc rfl rfl) ?_
      have hcb1 : Fn1 Tryz.prog κ (vc 3 (.slice fa2 bz.F.length fc2) (bz.F) :: vc 3 (.slice ta2 bz.T.length tc2) (bz.T) :: blk b13 [.slice fa2 bz.F.length fc2, .slice ta2 bz.T.length tc2, I64 (bz.n), I64 (bz.sq.num), I64 (bz.sq.den)] 58 :: blk b10 [U64 (tq)] 86 :: blk b9 [U64 (fq)] 86 :: blk b8 [.slice ad6 (List.replicate ((outB nd ars).length) (default : (BitVec 64))).length cp7] 104 :: vc 86 (.slice ad6 (List.replicate ((outB nd ars).length) (default : (BitVec 64))).length cp7) (iz) :: blk b5 [.slice ad3 (outB nd ars).length cp4] 104 :: vc 86 (.slice ad3 (outB nd ars).length cp4) (outB nd ars) :: blk b2 [.slice none 0 0, .slice none 0 0, I64 (0), I64 (0), I64 (0)] 58 :: blk b1 [I64 (nd), va] 54 :: I) 93 [.pointer (some ⟨b5, 0, none⟩), .pointer (some ⟨b10, 0, none⟩)] (fun v => 0 ≤ v ∧ v < (outB nd ars).length) (cfA (outB nd ars) tq) := ⟨call93, fun v K hv hK => PeelA_ok (rows := (outB nd ars)) (BlkRd.fit (BlkRd.of (by repeat (first | exact List.mem_cons_self | apply List.mem_cons_of_mem))) hK) (BlkRd.fit (BlkRd.of (by repeat (first | exact List.mem_cons_self | apply List.mem_cons_of_mem))) hK) (Sl.fit Sl.o hK) v (by have := hv; omega)⟩
      have hpx1 : ∀ x ∈ listB fq, 0 ≤ x ∧ x < ((outB nd ars).length : Int) := fun x hx => by obtain ⟨h1, h2⟩ := mem_listB.1 hx; have := hfb _ h2; omega
      refine G.e (Eff.call call92 rfl rfl (Fewest_ok fq hcb1 hpx1 (TabRd.fit hT Fit.m))) ?_
      rintro _ _ ⟨_, _, ⟨rfl, rfl⟩, rfl, rfl⟩
      have hx1 := few_bd (cf := cfA (outB nd ars) tq) (cfA_bd _ _) (listB fq)
      have hy1 := drop_bit (few_in (cf := cfA (outB nd ars) tq) (cfA_bd _ _) hfz)
      have hm1 := mul64 hx1 (onesB_64 fq)
      refine G.r (Runs.move rfl) ?_
      refine G.r (Runs.extract rfl rfl) ?_
      refine G.r (Runs.extract rfl rfl) ?_
      refine G.r (Runs.assign rfl) ?_
      refine G.r (Runs.assign rfl) ?_
      refine G.nt ?_
      refine W.sr ?_
      refine G.r (Runs.ld ty86) ?_
      refine G.r (Runs.makeFunc rfl rfl) ?_
      have hcb2 : Fn1 Tryz.prog κ (vc 3 (.slice fa2 bz.F.length fc2) (bz.F) :: vc 3 (.slice ta2 bz.T.length tc2) (bz.T) :: blk b13 [.slice fa2 bz.F.length fc2, .slice ta2 bz.T.length tc2, I64 (bz.n), I64 (bz.sq.num), I64 (bz.sq.den)] 58 :: blk b10 [U64 (tq)] 86 :: blk b9 [U64 (fq)] 86 :: blk b8 [.slice ad6 (List.replicate ((outB nd ars).length) (default : (BitVec 64))).length cp7] 104 :: vc 86 (.slice ad6 (List.replicate ((outB nd ars).length) (default : (BitVec 64))).length cp7) (iz) :: blk b5 [.slice ad3 (outB nd ars).length cp4] 104 :: vc 86 (.slice ad3 (outB nd ars).length cp4) (outB nd ars) :: blk b2 [.slice none 0 0, .slice none 0 0, I64 (0), I64 (0), I64 (0)] 58 :: blk b1 [I64 (nd), va] 54 :: I) 94 [.pointer (some ⟨b8, 0, none⟩), .pointer (some ⟨b9, 0, none⟩)] (fun v => 0 ≤ v ∧ v < (outB nd ars).length) (cfA iz fq) := ⟨call94, fun v K hv hK => PeelB_ok (rows := iz) (BlkRd.fit (BlkRd.of (by repeat (first | exact List.mem_cons_self | apply List.mem_cons_of_mem))) hK) (BlkRd.fit (BlkRd.of (by repeat (first | exact List.mem_cons_self | apply List.mem_cons_of_mem))) hK) (Sl.fit Sl.o hK) v (by have := hv; omega)⟩
      have hpx2 : ∀ x ∈ listB tq, 0 ≤ x ∧ x < ((outB nd ars).length : Int) := fun x hx => by obtain ⟨h1, h2⟩ := mem_listB.1 hx; have := htb _ h2; omega
      refine G.e (Eff.call call92 rfl rfl (Fewest_ok tq hcb2 hpx2 (TabRd.fit hT Fit.m))) ?_
      rintro _ _ ⟨_, _, ⟨rfl, rfl⟩, rfl, rfl⟩
      have hx2 := few_bd (cf := cfA iz fq) (cfA_bd _ _) (listB tq)
      have hy2 := drop_bit (few_in (cf := cfA iz fq) (cfA_bd _ _) htz)
      have hm2 := mul64 hx2 (onesB_64 tq)
      refine G.r (Runs.move rfl) ?_
      refine G.r (Runs.extract rfl rfl) ?_
      refine G.r (Runs.extract rfl rfl) ?_
      refine G.r (Runs.assign rfl) ?_
      refine G.r (Runs.assign rfl) ?_
      refine G.nt ?_
      refine W.seq ?_
      refine W.drawn mixed ?_
      refine A.hold (vc 3 (.slice fa2 bz.F.length fc2) (bz.F) :: vc 3 (.slice ta2 bz.T.length tc2) (bz.T) :: blk b13 [.slice fa2 bz.F.length fc2, .slice ta2 bz.T.length tc2, I64 (bz.n), I64 (bz.sq.num), I64 (bz.sq.den)] 58 :: blk b10 [U64 (tq)] 86 :: blk b9 [U64 (fq)] 86 :: blk b8 [.slice ad6 (List.replicate ((outB nd ars).length) (default : (BitVec 64))).length cp7] 104 :: vc 86 (.slice ad6 (List.replicate ((outB nd ars).length) (default : (BitVec 64))).length cp7) (iz) :: blk b5 [.slice ad3 (outB nd ars).length cp4] 104 :: vc 86 (.slice ad3 (outB nd ars).length cp4) (outB nd ars) :: blk b2 [.slice none 0 0, .slice none 0 0, I64 (0), I64 (0), I64 (0)] 58 :: blk b1 [I64 (nd), va] 54 :: I) 9 ?_
      refine D.r 0 rfl (Runs.move rfl) ?_ (hJ := Fit.sub)
      refine D.r 1 rfl (Runs.ld ty86) ?_ (hJ := Fit.sub)
      refine D.r 4 rfl (Runs.move rfl) ?_ (hJ := Fit.sub)
      refine D.r 5 rfl (Runs.ld ty86) ?_ (hJ := Fit.sub)
      refine D.step (rs := [2]) (by kernel_rfl) rfl rfl (all1 ?_)
      refine Step.eff rfl (Wanted.plain rfl) (Eff.call call57 rfl rfl (MCount_ok fq)) ?_
      rintro _ _ ⟨_, _, ⟨rfl, rfl⟩, rfl, rfl⟩
      refine ⟨Fit.sub, ?_⟩
      refine D.r 3 rfl (Runs.mul rfl rfl (by unfold InR; omega)) ?_ (hJ := Fit.sub)
      refine D.step (rs := [6]) (by kernel_rfl) rfl rfl (all1 ?_)
      refine Step.eff rfl (Wanted.plain rfl) (Eff.call call57 rfl rfl (MCount_ok tq)) ?_
      rintro _ _ ⟨_, _, ⟨rfl, rfl⟩, rfl, rfl⟩
      refine ⟨Fit.sub, ?_⟩
      refine D.r 7 rfl (Runs.mul rfl rfl (by unfold InR; omega)) ?_ (hJ := Fit.sub)
      refine D.r 8 rfl (Runs.leq rfl rfl) ?_ (hJ := Fit.sub)
      refine D.done (by kernel_rfl) ?_
      refine V.then ?_
      refine W.ite rfl (fun c99 => ?_) (fun c99 => ?_)
      ·refine W.drawn mixed ?_
       refine A.hold (vc 3 (.slice fa2 bz.F.length fc2) (bz.F) :: vc 3 (.slice ta2 bz.T.length tc2) (bz.T) :: blk b13 [.slice fa2 bz.F.length fc2, .slice ta2 bz.T.length tc2, I64 (bz.n), I64 (bz.sq.num), I64 (bz.sq.den)] 58 :: blk b10 [U64 (tq)] 86 :: blk b8 [.slice ad6 (List.replicate ((outB nd ars).length) (default : (BitVec 64))).length cp7] 104 :: vc 86 (.slice ad6 (List.replicate ((outB nd ars).length) (default : (BitVec 64))).length cp7) (iz) :: blk b5 [.slice ad3 (outB nd ars).length cp4] 104 :: vc 86 (.slice ad3 (outB nd ars).length cp4) (outB nd ars) :: blk b2 [.slice none 0 0, .slice none 0 0, I64 (0), I64 (0), I64 (0)] 58 :: blk b1 [I64 (nd), va] 54 :: I) 4 ?_
       refine D.r 1 rfl (Runs.move rfl) ?_ (hJ := Fit.sub)
       refine D.step (rs := [0, 2]) (by kernel_rfl) rfl rfl (all2 ?_ (all1 ?_))
       ·refine Step.read rfl (Wanted.plain rfl) rfl rfl (Runs.ld ty86) Fit.sub ?_
        refine D.step (rs := [2]) (by kernel_rfl) rfl rfl (all1 ?_)
        refine Step.eff rfl (Wanted.plain rfl) (Eff.call call75 rfl rfl (Bit_ok ((fewF (cfA (outB nd ars) tq) (listB fq)).1))) ?_
        rintro _ _ ⟨_, _, ⟨rfl, rfl⟩, rfl, rfl⟩
        refine ⟨Fit.sub, ?_⟩
        refine D.r 3 rfl (Runs.andNotB (a := fq) (b := bitB ((fewF (cfA (outB nd ars) tq) (listB fq)).1)) rfl rfl) ?_ (hJ := Fit.sub)
        refine D.stop (by kernel_rfl) ?_
        refine A.eff (i := 4) (by kernel_rfl) rfl (Wanted.plain rfl) (Eff.st (cs := [_]) (vs := [_]) (cs' := [_]) ty86) ?_
        rintro _ _ ⟨rfl, rfl⟩
        refine A.done (by kernel_rfl) ?_
        refine V.block_normal ?_
        exact V.next ((n - 1), (fq &&& ~~~(bitB ((fewF (cfA (outB nd ars) tq) (listB fq)).1))), (tq), (fa2), (fc2), (ta2), (tc2), (bz)) (show (peelK (outB nd ars) (insK (outB nd ars) (outB nd ars).length) (n - 1 : Nat) (fq &&& ~~~(bitB ((fewF (cfA (outB nd ars) tq) (listB fq)).1)) : BitVec 64) (tq : BitVec 64) (bz : Bst) = peelF (outB nd ars)) ∧ ((listB (fq &&& ~~~(bitB ((fewF (cfA (outB nd ars) tq) (listB fq)).1)) : BitVec 64)).length + (listB (tq : BitVec 64)).length ≤ (n - 1 : Nat)) ∧ (∀ i : Nat, (fq &&& ~~~(bitB ((fewF (cfA (outB nd ars) tq) (listB fq)).1)) : BitVec 64).getLsbD i = true → i < (outB nd ars).length) ∧ (∀ i : Nat, (tq : BitVec 64).getLsbD i = true → i < (outB nd ars).length) ∧ (FrV (bz : Bst).sq) from ⟨(by rw [← hpk, peelK_from (by omega) hfz htz (by rw [← hiz]; exact c99), ← hbz, ← hiz]), (by omega), (fun i hi => hfb i (getLsb_minus.1 hi).1), htb, hvz⟩) (show (n - 1 : Nat) < n from (by omega)) (Sub.cons rfl (Sub.cons rfl (Sub.cons rfl (Sub.cons rfl (Sub.cons rfl (Sub.cons rfl Sub.nil)))))) (show Fit κ _ (vc 3 (.slice (fa2) (bz).F.length (fc2)) ((bz).F) :: vc 3 (.slice (ta2) (bz).T.length (tc2)) ((bz).T) :: blk b13 [.slice (fa2) (bz).F.length (fc2), .slice (ta2) (bz).T.length (tc2), I64 ((bz).n), I64 ((bz).sq.num), I64 ((bz).sq.den)] 58 :: blk b10 [U64 ((tq))] 86 :: blk b9 [U64 ((fq &&& ~~~(bitB ((fewF (cfA (outB nd ars) tq) (listB fq)).1))))] 86 :: blk b8 [.slice ad6 (List.replicate ((outB nd ars).length) (default : (BitVec 64))).length cp7] 104 :: vc 86 (.slice ad6 (List.replicate ((outB nd ars).length) (default : (BitVec 64))).length cp7) (iz) :: blk b5 [.slice ad3 (outB nd ars).length cp4] 104 :: vc 86 (.slice ad3 (outB nd ars).length cp4) (outB nd ars) :: blk b2 [.slice none 0 0, .slice none 0 0, I64 (0), I64 (0), I64 (0)] 58 :: blk b1 [I64 (nd), va] 54 :: I) from (by first | exact Fit.s | exact Fit.sub))
       ·refine Step.eff rfl (Wanted.plain rfl) (Eff.call call75 rfl rfl (Bit_ok ((fewF (cfA (outB nd ars) tq) (listB fq)).1))) ?_
        rintro _ _ ⟨_, _, ⟨rfl, rfl⟩, rfl, rfl⟩
        refine ⟨Fit.sub, ?_⟩
        refine D.step (rs := [0]) (by kernel_rfl) rfl rfl (all1 ?_)
        refine Step.read rfl (Wanted.plain rfl) rfl rfl (Runs.ld ty86) Fit.sub ?_
        refine D.r 3 rfl (Runs.andNotB (a := fq) (b := bitB ((fewF (cfA (outB nd ars) tq) (listB fq)).1)) rfl rfl) ?_ (hJ := Fit.sub)
        refine D.stop (by kernel_rfl) ?_
        refine A.eff (i := 4) (by kernel_rfl) rfl (Wanted.plain rfl) (Eff.st (cs := [_]) (vs := [_]) (cs' := [_]) ty86) ?_
        rintro _ _ ⟨rfl, rfl⟩
        refine A.done (by kernel_rfl) ?_
        refine V.block_normal ?_
        exact V.next ((n - 1), (fq &&& ~~~(bitB ((fewF (cfA (outB nd ars) tq) (listB fq)).1))), (tq), (fa2), (fc2), (ta2), (tc2), (bz)) (show (peelK (outB nd ars) (insK (outB nd ars) (outB nd ars).length) (n - 1 : Nat) (fq &&& ~~~(bitB ((fewF (cfA (outB nd ars) tq) (listB fq)).1)) : BitVec 64) (tq : BitVec 64) (bz : Bst) = peelF (outB nd ars)) ∧ ((listB (fq &&& ~~~(bitB ((fewF (cfA (outB nd ars) tq) (listB fq)).1)) : BitVec 64)).length + (listB (tq : BitVec 64)).length ≤ (n - 1 : Nat)) ∧ (∀ i : Nat, (fq &&& ~~~(bitB ((fewF (cfA (outB nd ars) tq) (listB fq)).1)) : BitVec 64).getLsbD i = true → i < (outB nd ars).length) ∧ (∀ i : Nat, (tq : BitVec 64).getLsbD i = true → i < (outB nd ars).length) ∧ (FrV (bz : Bst).sq) from ⟨(by rw [← hpk, peelK_from (by omega) hfz htz (by rw [← hiz]; exact c99), ← hbz, ← hiz]), (by omega), (fun i hi => hfb i (getLsb_minus.1 hi).1), htb, hvz⟩) (show (n - 1 : Nat) < n from (by omega)) (Sub.cons rfl (Sub.cons rfl (Sub.cons rfl (Sub.cons rfl (Sub.cons rfl (Sub.cons rfl Sub.nil)))))) (show Fit κ _ (vc 3 (.slice (fa2) (bz).F.length (fc2)) ((bz).F) :: vc 3 (.slice (ta2) (bz).T.length (tc2)) ((bz).T) :: blk b13 [.slice (fa2) (bz).F.length (fc2), .slice (ta2) (bz).T.length (tc2), I64 ((bz).n), I64 ((bz).sq.num), I64 ((bz).sq.den)] 58 :: blk b10 [U64 ((tq))] 86 :: blk b9 [U64 ((fq &&& ~~~(bitB ((fewF (cfA (outB nd ars) tq) (listB fq)).1))))] 86 :: blk b8 [.slice ad6 (List.replicate ((outB nd ars).length) (default : (BitVec 64))).length cp7] 104 :: vc 86 (.slice ad6 (List.replicate ((outB nd ars).length) (default : (BitVec 64))).length cp7) (iz) :: blk b5 [.slice ad3 (outB nd ars).length cp4] 104 :: vc 86 (.slice ad3 (outB nd ars).length cp4) (outB nd ars) :: blk b2 [.slice none 0 0, .slice none 0 0, I64 (0), I64 (0), I64 (0)] 58 :: blk b1 [I64 (nd), va] 54 :: I) from (by first | exact Fit.s | exact Fit.sub))
      ·refine W.drawn mixed ?_
       refine A.hold (vc 3 (.slice fa2 bz.F.length fc2) (bz.F) :: vc 3 (.slice ta2 bz.T.length tc2) (bz.T) :: blk b13 [.slice fa2 bz.F.length fc2, .slice ta2 bz.T.length tc2, I64 (bz.n), I64 (bz.sq.num), I64 (bz.sq.den)] 58 :: blk b9 [U64 (fq)] 86 :: blk b8 [.slice ad6 (List.replicate ((outB nd ars).length) (default : (BitVec 64))).length cp7] 104 :: vc 86 (.slice ad6 (List.replicate ((outB nd ars).length) (default : (BitVec 64))).length cp7) (iz) :: blk b5 [.slice ad3 (outB nd ars).length cp4] 104 :: vc 86 (.slice ad3 (outB nd ars).length cp4) (outB nd ars) :: blk b2 [.slice none 0 0, .slice none 0 0, I64 (0), I64 (0), I64 (0)] 58 :: blk b1 [I64 (nd), va] 54 :: I) 4 ?_
       refine D.r 1 rfl (Runs.move rfl) ?_ (hJ := Fit.sub)
       refine D.step (rs := [0, 2]) (by kernel_rfl) rfl rfl (all2 ?_ (all1 ?_))
       ·refine Step.read rfl (Wanted.plain rfl) rfl rfl (Runs.ld ty86) Fit.sub ?_
        refine D.step (rs := [2]) (by kernel_rfl) rfl rfl (all1 ?_)
        refine Step.eff rfl (Wanted.plain rfl) (Eff.call call75 rfl rfl (Bit_ok ((fewF (cfA iz fq) (listB tq)).1))) ?_
        rintro _ _ ⟨_, _, ⟨rfl, rfl⟩, rfl, rfl⟩
        refine ⟨Fit.sub, ?_⟩
        refine D.r 3 rfl (Runs.andNotB (a := tq) (b := bitB ((fewF (cfA iz fq) (listB tq)).1)) rfl rfl) ?_ (hJ := Fit.sub)
        refine D.stop (by kernel_rfl) ?_
        refine A.eff (i := 4) (by kernel_rfl) rfl (Wanted.plain rfl) (Eff.st (cs := [_]) (vs := [_]) (cs' := [_]) ty86) ?_
        rintro _ _ ⟨rfl, rfl⟩
        refine A.done (by kernel_rfl) ?_
        refine V.block_normal ?_
        exact V.next ((n - 1), (fq), (tq &&& ~~~(bitB ((fewF (cfA iz fq) (listB tq)).1))), (fa2), (fc2), (ta2), (tc2), (bz)) (show (peelK (outB nd ars) (insK (outB nd ars) (outB nd ars).length) (n - 1 : Nat) (fq : BitVec 64) (tq &&& ~~~(bitB ((fewF (cfA iz fq) (listB tq)).1)) : BitVec 64) (bz : Bst) = peelF (outB nd ars)) ∧ ((listB (fq : BitVec 64)).length + (listB (tq &&& ~~~(bitB ((fewF (cfA iz fq) (listB tq)).1)) : BitVec 64)).length ≤ (n - 1 : Nat)) ∧ (∀ i : Nat, (fq : BitVec 64).getLsbD i = true → i < (outB nd ars).length) ∧ (∀ i : Nat, (tq &&& ~~~(bitB ((fewF (cfA iz fq) (listB tq)).1)) : BitVec 64).getLsbD i = true → i < (outB nd ars).length) ∧ (FrV (bz : Bst).sq) from ⟨(by rw [← hpk, peelK_to (by omega) hfz htz (by rw [← hiz]; exact c99), ← hbz, ← hiz]), (by omega), hfb, (fun i hi => htb i (getLsb_minus.1 hi).1), hvz⟩) (show (n - 1 : Nat) < n from (by omega)) (Sub.cons rfl (Sub.cons rfl (Sub.cons rfl (Sub.cons rfl (Sub.cons rfl (Sub.cons rfl Sub.nil)))))) (show Fit κ _ (vc 3 (.slice (fa2) (bz).F.length (fc2)) ((bz).F) :: vc 3 (.slice (ta2) (bz).T.length (tc2)) ((bz).T) :: blk b13 [.slice (fa2) (bz).F.length (fc2), .slice (ta2) (bz).T.length (tc2), I64 ((bz).n), I64 ((bz).sq.num), I64 ((bz).sq.den)] 58 :: blk b10 [U64 ((tq &&& ~~~(bitB ((fewF (cfA iz fq) (listB tq)).1))))] 86 :: blk b9 [U64 ((fq))] 86 :: blk b8 [.slice ad6 (List.replicate ((outB nd ars).length) (default : (BitVec 64))).length cp7] 104 :: vc 86 (.slice ad6 (List.replicate ((outB nd ars).length) (default : (BitVec 64))).length cp7) (iz) :: blk b5 [.slice ad3 (outB nd ars).length cp4] 104 :: vc 86 (.slice ad3 (outB nd ars).length cp4) (outB nd ars) :: blk b2 [.slice none 0 0, .slice none 0 0, I64 (0), I64 (0), I64 (0)] 58 :: blk b1 [I64 (nd), va] 54 :: I) from (by first | exact Fit.s | exact Fit.sub))
       ·refine Step.eff rfl (Wanted.plain rfl) (Eff.call call75 rfl rfl (Bit_ok ((fewF (cfA iz fq) (listB tq)).1))) ?_
        rintro _ _ ⟨_, _, ⟨rfl, rfl⟩, rfl, rfl⟩
        refine ⟨Fit.sub, ?_⟩
        refine D.step (rs := [0]) (by kernel_rfl) rfl rfl (all1 ?_)
        refine Step.read rfl (Wanted.plain rfl) rfl rfl (Runs.ld ty86) Fit.sub ?_
        refine D.r 3 rfl (Runs.andNotB (a := tq) (b := bitB ((fewF (cfA iz fq) (listB tq)).1)) rfl rfl) ?_ (hJ := Fit.sub)
        refine D.stop (by kernel_rfl) ?_
        refine A.eff (i := 4) (by kernel_rfl) rfl (Wanted.plain rfl) (Eff.st (cs := [_]) (vs := [_]) (cs' := [_]) ty86) ?_
        rintro _ _ ⟨rfl, rfl⟩
        refine A.done (by kernel_rfl) ?_
        refine V.block_normal ?_
        exact V.next ((n - 1), (fq), (tq &&& ~~~(bitB ((fewF (cfA iz fq) (listB tq)).1))), (fa2), (fc2), (ta2), (tc2), (bz)) (show (peelK (outB nd ars) (insK (outB nd ars) (outB nd ars).length) (n - 1 : Nat) (fq : BitVec 64) (tq &&& ~~~(bitB ((fewF (cfA iz fq) (listB tq)).1)) : BitVec 64) (bz : Bst) = peelF (outB nd ars)) ∧ ((listB (fq : BitVec 64)).length + (listB (tq &&& ~~~(bitB ((fewF (cfA iz fq) (listB tq)).1)) : BitVec 64)).length ≤ (n - 1 : Nat)) ∧ (∀ i : Nat, (fq : BitVec 64).getLsbD i = true → i < (outB nd ars).length) ∧ (∀ i : Nat, (tq &&& ~~~(bitB ((fewF (cfA iz fq) (listB tq)).1)) : BitVec 64).getLsbD i = true → i < (outB nd ars).length) ∧ (FrV (bz : Bst).sq) from ⟨(by rw [← hpk, peelK_to (by omega) hfz htz (by rw [← hiz]; exact c99), ← hbz, ← hiz]), (by omega), hfb, (fun i hi => htb i (getLsb_minus.1 hi).1), hvz⟩) (show (n - 1 : Nat) < n from (by omega)) (Sub.cons rfl (Sub.cons rfl (Sub.cons rfl (Sub.cons rfl (Sub.cons rfl (Sub.cons rfl Sub.nil)))))) (show Fit κ _ (vc 3 (.slice (fa2) (bz).F.length (fc2)) ((bz).F) :: vc 3 (.slice (ta2) (bz).T.length (tc2)) ((bz).T) :: blk b13 [.slice (fa2) (bz).F.length (fc2), .slice (ta2) (bz).T.length (tc2), I64 ((bz).n), I64 ((bz).sq.num), I64 ((bz).sq.den)] 58 :: blk b10 [U64 ((tq &&& ~~~(bitB ((fewF (cfA iz fq) (listB tq)).1))))] 86 :: blk b9 [U64 ((fq))] 86 :: blk b8 [.slice ad6 (List.replicate ((outB nd ars).length) (default : (BitVec 64))).length cp7] 104 :: vc 86 (.slice ad6 (List.replicate ((outB nd ars).length) (default : (BitVec 64))).length cp7) (iz) :: blk b5 [.slice ad3 (outB nd ars).length cp4] 104 :: vc 86 (.slice ad3 (outB nd ars).length cp4) (outB nd ars) :: blk b2 [.slice none 0 0, .slice none 0 0, I64 (0), I64 (0), I64 (0)] 58 :: blk b1 [I64 (nd), va] 54 :: I) from (by first | exact Fit.s | exact Fit.sub))
    ·refine W.exit ?_
     refine V.then_exit ?_
     refine V.then_exit ?_
     refine V.block_hit ?_
     refine V.then ?_
     refine W.sr ?_
     refine G.r (Runs.lds (vs := [_, _, _, _, _]) ty58) ?_
     refine G.e (Eff.st (cs := [_, _, _, _, _]) (vs := [_, _, _, _, _]) (cs' := [_, _, _, _, _]) ty58) ?_
     rintro _ _ ⟨rfl, rfl⟩
     refine G.r (Runs.assign rfl) ?_
     refine G.nt ?_
     refine W.ret ?_
     have hX : (peelG nd ars) = bb := by unfold peelG; rw [if_neg (by rw [hd1]; decide), ← hpk]; exact peelK_stop (by first | exact .inr (Classical.not_not.1 c67) | exact .inl (Classical.not_not.1 g64)) n
     exact V.retc1 rfl ty58 rfl rfl (by repeat (first | exact List.mem_cons_self | apply List.mem_cons_of_mem)) rfl (vc 3 (.slice fa (peelG nd ars).F.length fc) (peelG nd ars).F :: vc 3 (.slice ta (peelG nd ars).T.length tc) (peelG nd ars).T :: I) (by rw [hX]; exact Fit.s) ⟨fa, fc, ta, tc, by rw [hX, hd1], rfl⟩
   ·refine G.po ?_
    refine G.po ?_
    refine G.r (Runs.pickf rfl rfl) ?_
    refine G.nt ?_
    refine W.no rfl ?_
    refine W.exit ?_
    refine V.then_exit ?_
    refine V.then_exit ?_
    refine V.block_hit ?_
    refine V.then ?_
    refine W.sr ?_
    refine G.r (Runs.lds (vs := [_, _, _, _, _]) ty58) ?_
    refine G.e (Eff.st (cs := [_, _, _, _, _]) (vs := [_, _, _, _, _]) (cs' := [_, _, _, _, _]) ty58) ?_
    rintro _ _ ⟨rfl, rfl⟩
    refine G.r (Runs.assign rfl) ?_
    refine G.nt ?_
    refine W.ret ?_
    have hX : (peelG nd ars) = bb := by unfold peelG; rw [if_neg (by rw [hd1]; decide), ← hpk]; exact peelK_stop (by first | exact .inr (Classical.not_not.1 c67) | exact .inl (Classical.not_not.1 g64)) n
    exact V.retc1 rfl ty58 rfl rfl (by repeat (first | exact List.mem_cons_self | apply List.mem_cons_of_mem)) rfl (vc 3 (.slice fa (peelG nd ars).F.length fc) (peelG nd ars).F :: vc 3 (.slice ta (peelG nd ars).T.length tc) (peelG nd ars).T :: I) (by rw [hX]; exact Fit.s) ⟨fa, fc, ta, tc, by rw [hX, hd1], rfl⟩

end Go.Sl
