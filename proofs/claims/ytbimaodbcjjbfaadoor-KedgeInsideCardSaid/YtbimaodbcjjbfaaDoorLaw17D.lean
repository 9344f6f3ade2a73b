/- A part of the proofs of statements of this seat: contracts of functions, and the plain laws that they lean on. No conditions. -/
import Derived.Test.YtbimaodbcjjbfaaDoorKed5
import Derived.Test.YtbimaodbcjjbfaaDoorLaw17A
import Derived.Test.YtbimaodbcjjbfaaDoorLaw17B
namespace Go.Sl
open Go.Proofs
set_option linter.unusedVariables false
set_option linter.unusedSimpArgs false
set_option maxRecDepth 4000
def WithinP (a b : List (List Int)) : Prop := ∀ s ∈ a, ∃ t ∈ b, ∀ z ∈ s, z ∈ t
instance (a b : List (List Int)) : Decidable (WithinP a b) := by unfold WithinP; infer_instance
theorem row_mem {rs : List (RowG Int)} {s : List Int} : s ∈ rs.map RowG.xs ↔ ∃ j : Nat, j < rs.length ∧ (at_ rs (j : Int)).xs = s := by
  rw [List.mem_map]
  constructor
  · rintro ⟨x, hx, rfl⟩
    obtain ⟨j, hj, he⟩ := mem_at hx
    exact ⟨j, hj, by rw [he]⟩
  · rintro ⟨j, hj, rfl⟩
    exact ⟨_, at_mem (by omega) (by omega), rfl⟩
theorem within_iff {xs ys : List (RowG Int)} : WithinP (xs.map RowG.xs) (ys.map RowG.xs) ↔ ∀ i : Nat, i < xs.length → ∃ j : Nat, j < ys.length ∧ ∀ z ∈ (at_ xs (i : Int)).xs, z ∈ (at_ ys (j : Int)).xs := by
  constructor
  · intro h i hi
    obtain ⟨t, ht, hz⟩ := h _ (row_mem.2 ⟨i, hi, rfl⟩)
    obtain ⟨j, hj, rfl⟩ := row_mem.1 ht
    exact ⟨j, hj, hz⟩
  · intro h s hs
    obtain ⟨i, hi, rfl⟩ := row_mem.1 hs
    obtain ⟨j, hj, hz⟩ := h i hi
    exact ⟨_, row_mem.2 ⟨j, hj, rfl⟩, hz⟩
theorem wi_yes {P : Nat → Prop} {q : Nat} {b : Bool} (h : b = true ↔ ∃ j, j < q ∧ P j) (hb : b = true) : true = true ↔ ∃ j, j < q + 1 ∧ P j := by
  obtain ⟨j, hj, hp⟩ := h.1 hb
  exact ⟨fun _ => ⟨j, by omega, hp⟩, fun _ => rfl⟩
theorem wi_no {P : Nat → Prop} {q : Nat} {b : Bool} (h : b = true ↔ ∃ j, j < q ∧ P j) (hb : b = false) [Decidable (P q)] : decide (P q) = true ↔ ∃ j, j < q + 1 ∧ P j := by
  rw [decide_eq_true_eq]
  constructor
  · exact fun hp => ⟨q, by omega, hp⟩
  · rintro ⟨j, hj, hp⟩
    rcases Nat.lt_or_ge j q with h1 | h1
    · have := h.2 ⟨j, h1, hp⟩; rw [hb] at this; cases this
    · rwa [show j = q by omega] at hp

theorem WithinA_ok {κ : Ctx} {I : List Item} {va vb : Value} {xs ys : List (RowG Int)} (hx : Sl κ I va xs) (hy : Sl κ I vb ys) (h1 : HeldAll κ I xs) (h2 : HeldAll κ I ys) :
    CallS Tryd.prog κ 59 [va, vb] I (fun r J => r = .bool (decide (WithinP (xs.map RowG.xs) (ys.map RowG.xs))) ∧ I = J) := by
 refine CallS.pull hx.le fun hmax => ?_
 refine CallS.pull hy.le fun hmay => ?_
 refine CallS.enter (L := [(0, va), (1, vb)]) Tryd.func59 rfl rfl rfl rfl ?_
 refine W.sr ?_
 refine G.r (Runs.assign rfl) ?_
 refine G.nt ?_
 refine W.seq ?_
 refine W.sr ?_
 refine G.r (Runs.move rfl) ?_
 refine G.r (Runs.lenT (α := (RowG Int)) (xs := xs) Tryd.underlying50 rfl (Sl.f hx)) ?_
 refine G.r (Runs.move rfl) ?_
 refine G.nt ?_
 refine W.block ?_
 refine W.loop (σ := Nat) (fun s => ([(1, vb), (10, va), (11, I64 (((xs.length : Nat) : Int))), (12, I64 (((s : Nat) : Int)))] : Env)) (fun s => I) (fun s => (s ≤ xs.length) ∧ (∀ i : Nat, i < s → ∃ j : Nat, j < ys.length ∧ ∀ z ∈ (at_ xs (i : Int)).xs, z ∈ (at_ ys (j : Int)).xs)) (fun s => xs.length - s) (0) (show ((0 : Nat) ≤ xs.length) ∧ (∀ i : Nat, i < (0 : Nat) → ∃ j : Nat, j < ys.length ∧ ∀ z ∈ (at_ xs (i : Int)).xs, z ∈ (at_ ys (j : Int)).xs) from ⟨(by omega), all_zero⟩) (Sub.cons rfl (Sub.cons rfl (Sub.cons rfl (Sub.cons lookO Sub.nil)))) (show Fit κ _ (I) from Fit.sub) ?_
 rintro k hp
 obtain ⟨hk, hn⟩ : (k ≤ xs.length) ∧ (∀ i : Nat, i < k → ∃ j : Nat, j < ys.length ∧ ∀ z ∈ (at_ xs (i : Int)).xs, z ∈ (at_ ys (j : Int)).xs) := hp
 show W Tryd.prog κ 32 _ _ ([(1, vb), (10, va), (11, I64 (((xs.length : Nat) : Int))), (12, I64 (((k : Nat) : Int)))] : Env) (I)
 refine W.sr ?_
 refine G.r (Runs.lss rfl rfl) ?_
 refine G.nt ?_
 refine W.seq ?_
 refine W.ite rfl (fun c13 => ?_) (fun c13 => ?_)
 ·refine W.skip ?_
  refine V.then ?_
  refine W.seq ?_
  refine W.block ?_
  refine W.sr ?_
  refine G.r (Runs.idx (α := (RowG Int)) (xs := xs) Tryd.underlying50 ty22 rfl rfl (Sl.f hx) (by omega) (by omega)) ?_
  refine G.r (Runs.getf0 (α := (RowG Int)) (xs := xs) (u := .slice (at_ xs ((k : Nat) : Int)).a (at_ xs ((k : Nat) : Int)).xs.length (at_ xs ((k : Nat) : Int)).c) ty22 rfl (Sl.f hx) (by omega) (by omega) rfl) ?_
  refine G.r (Runs.assign rfl) ?_
  refine G.nt ?_
  refine W.sr ?_
  refine G.r (Runs.assign rfl) ?_
  refine G.nt ?_
  refine W.seq ?_
  refine W.sr ?_
  refine G.r (Runs.move rfl) ?_
  refine G.r (Runs.lenT (α := (RowG Int)) (xs := ys) Tryd.underlying50 rfl (Sl.f hy)) ?_
  refine G.r (Runs.move rfl) ?_
  refine G.nt ?_
  refine W.block ?_
  refine W.loop (σ := Nat × Bool) (fun s => ([(1, vb), (6, .slice (at_ xs ((k : Nat) : Int)).a (at_ xs ((k : Nat) : Int)).xs.length (at_ xs ((k : Nat) : Int)).c), (7, .bool (s.2)), (10, va), (11, I64 (((xs.length : Nat) : Int))), (12, I64 (((k : Nat) : Int))), (16, vb), (17, I64 (((ys.length : Nat) : Int))), (18, I64 (((s.1 : Nat) : Int)))] : Env)) (fun s => I) (fun s => (s.1 ≤ ys.length) ∧ (s.2 = true ↔ ∃ j, j < s.1 ∧ (fun j : Nat => ∀ z ∈ (at_ xs ((k : Nat) : Int)).xs, z ∈ (at_ ys (j : Int)).xs) j)) (fun s => ys.length - s.1) (0, false) (show ((0 : Nat) ≤ ys.length) ∧ ((false : Bool) = true ↔ ∃ j, j < (0 : Nat) ∧ (fun j : Nat => ∀ z ∈ (at_ xs ((k : Nat) : Int)).xs, z ∈ (at_ ys (j : Int)).xs) j) from ⟨(by omega), ⟨fun h => (by cases h), fun ⟨j, hj, _⟩ => absurd hj (Nat.not_lt_zero j)⟩⟩) (Sub.cons rfl (Sub.cons rfl (Sub.cons (lookV rfl (by first | rfl | simp)) (Sub.cons rfl (Sub.cons rfl (Sub.cons rfl (Sub.cons rfl (Sub.cons rfl (Sub.cons lookO Sub.nil))))))))) (show Fit κ _ (I) from Fit.sub) ?_
  rintro ⟨q, inb⟩ hp
  obtain ⟨hq, hin⟩ : (q ≤ ys.length) ∧ (inb = true ↔ ∃ j, j < q ∧ (fun j : Nat => ∀ z ∈ (at_ xs ((k : Nat) : Int)).xs, z ∈ (at_ ys (j : Int)).xs) j) := hp
  show W Tryd.prog κ 32 _ _ ([(1, vb), (6, .slice (at_ xs ((k : Nat) : Int)).a (at_ xs ((k : Nat) : Int)).xs.length (at_ xs ((k : Nat) : Int)).c), (7, .bool (inb)), (10, va), (11, I64 (((xs.length : Nat) : Int))), (12, I64 (((k : Nat) : Int))), (16, vb), (17, I64 (((ys.length : Nat) : Int))), (18, I64 (((q : Nat) : Int)))] : Env) (I)
  refine W.sr ?_
  refine G.r (Runs.lss rfl rfl) ?_
  refine G.nt ?_
  refine W.seq ?_
  refine W.ite rfl (fun c19 => ?_) (fun c19 => ?_)
  ·refine W.skip ?_
   refine V.then ?_
   refine W.seq ?_
   refine W.block ?_
   refine W.sr ?_
   refine G.r (Runs.idx (α := (RowG Int)) (xs := ys) Tryd.underlying50 ty22 rfl rfl (Sl.f hy) (by omega) (by omega)) ?_
   refine G.r (Runs.getf0 (α := (RowG Int)) (xs := ys) (u := .slice (at_ ys ((q : Nat) : Int)).a (at_ ys ((q : Nat) : Int)).xs.length (at_ ys ((q : Nat) : Int)).c) ty22 rfl (Sl.f hy) (by omega) (by omega) rfl) ?_
   refine G.r (Runs.assign rfl) ?_
   refine G.nt ?_
   refine W.region ?_
   refine G.r (Runs.move rfl) ?_
   refine G.r (Runs.move rfl) ?_
   refine G.splitb (d := 23) rfl (fun g23 => ?_) (fun g23 => ?_)
   ·refine G.po ?_
    refine G.po ?_
    refine G.po ?_
    refine G.r (Runs.pickt rfl rfl) ?_
    refine G.r (Runs.assign rfl) ?_
    refine G.nil ?_
    refine V.block_normal ?_
    refine V.then ?_
    refine W.sub (L' := [(7, _), (1, _), (6, _), (10, _), (11, _), (12, _), (16, _), (17, _), (18, _)]) (Sub.cons rfl (Sub.cons rfl (Sub.cons rfl (Sub.cons rfl (Sub.cons rfl (Sub.cons rfl (Sub.cons rfl (Sub.cons rfl (Sub.cons rfl Sub.nil))))))))) ?_
    refine W.region ?_
    refine G.r (Runs.add rfl rfl (by unfold InR; omega)) ?_
    refine G.r (Runs.move rfl) ?_
    refine G.nil ?_
    exact V.next ((q + 1), (true)) (show ((q + 1 : Nat) ≤ ys.length) ∧ ((true : Bool) = true ↔ ∃ j, j < (q + 1 : Nat) ∧ (fun j : Nat => ∀ z ∈ (at_ xs ((k : Nat) : Int)).xs, z ∈ (at_ ys (j : Int)).xs) j) from ⟨(by omega), (wi_yes (P := (fun j : Nat => ∀ z ∈ (at_ xs ((k : Nat) : Int)).xs, z ∈ (at_ ys (j : Int)).xs)) hin g23)⟩) (show ys.length - (q + 1 : Nat) < ys.length - q from (by omega)) (Sub.cons rfl (Sub.cons rfl (Sub.cons (lookV rfl (by first | rfl | simp)) (Sub.cons rfl (Sub.cons rfl (Sub.cons rfl (Sub.cons rfl (Sub.cons rfl (Sub.cons lookO Sub.nil))))))))) (show Fit κ _ (I) from Fit.sub)
   ·refine G.ro (Runs.move rfl) ?_
    refine G.ro (Runs.move rfl) ?_
    refine G.eff (Wanted.on rfl rfl rfl) (Eff.call call24 rfl rfl (Within_ok (Sl.fit (HeldAll.at h1 (i := ((k : Nat) : Int)) (by omega) (by omega)) Fit.m) (Sl.fit (HeldAll.at h2 (i := ((q : Nat) : Int)) (by omega) (by omega)) Fit.m))) ?_
    rintro _ _ ⟨_, _, ⟨rfl, rfl⟩, rfl, rfl⟩
    refine G.r (Runs.pickf rfl rfl) ?_
    refine G.r (Runs.assign rfl) ?_
    refine G.nil ?_
    refine V.block_normal ?_
    refine V.then ?_
    refine W.sub (L' := [(7, _), (1, _), (6, _), (10, _), (11, _), (12, _), (16, _), (17, _), (18, _)]) (Sub.cons rfl (Sub.cons rfl (Sub.cons rfl (Sub.cons rfl (Sub.cons rfl (Sub.cons rfl (Sub.cons rfl (Sub.cons rfl (Sub.cons rfl Sub.nil))))))))) ?_
    refine W.region ?_
    refine G.r (Runs.add rfl rfl (by unfold InR; omega)) ?_
    refine G.r (Runs.move rfl) ?_
    refine G.nil ?_
    exact V.next ((q + 1), (decide (∀ x ∈ ((at_ xs ((k : Nat) : Int)).xs), x ∈ ((at_ ys ((q : Nat) : Int)).xs)))) (show ((q + 1 : Nat) ≤ ys.length) ∧ ((decide (∀ x ∈ ((at_ xs ((k : Nat) : Int)).xs), x ∈ ((at_ ys ((q : Nat) : Int)).xs)) : Bool) = true ↔ ∃ j, j < (q + 1 : Nat) ∧ (fun j : Nat => ∀ z ∈ (at_ xs ((k : Nat) : Int)).xs, z ∈ (at_ ys (j : Int)).xs) j) from ⟨(by omega), (wi_no (P := (fun j : Nat => ∀ z ∈ (at_ xs ((k : Nat) : Int)).xs, z ∈ (at_ ys (j : Int)).xs)) hin g23)⟩) (show ys.length - (q + 1 : Nat) < ys.length - q from (by omega)) (Sub.cons rfl (Sub.cons rfl (Sub.cons (lookV rfl (by first | rfl | simp)) (Sub.cons rfl (Sub.cons rfl (Sub.cons rfl (Sub.cons rfl (Sub.cons rfl (Sub.cons lookO Sub.nil))))))))) (show Fit κ _ (I) from Fit.sub)
  ·refine W.exit ?_
   refine V.then_exit ?_
   refine V.then_exit ?_
   refine V.block_hit ?_
   refine V.then ?_
   refine W.sr ?_
   refine G.r (Runs.move rfl) ?_
   refine G.r (Runs.not rfl) ?_
   refine G.nt ?_
   refine W.cond rfl (fun c30 => ?_) (fun c30 => ?_)
   ·refine W.sr ?_
    refine G.r (Runs.assign rfl) ?_
    refine G.nt ?_
    refine W.ret ?_
    refine V.block_ret ?_
    refine V.then_ret ?_
    refine V.then_ret ?_
    refine V.block_ret ?_
    refine V.then_ret ?_
    exact V.ret1 rfl rfl (I) Fit.m ⟨by rw [decide_eq_false (fun h => by obtain ⟨j, hj, hz⟩ := within_iff.1 h k (by omega); have := hin.2 ⟨j, by omega, hz⟩; rw [this] at c30; cases c30)], rfl⟩
   ·refine W.skip ?_
    refine V.block_normal ?_
    refine V.then ?_
    refine W.region ?_
    refine G.r (Runs.add rfl rfl (by unfold InR; omega)) ?_
    refine G.r (Runs.move rfl) ?_
    refine G.nil ?_
    exact V.next ((k + 1)) (show ((k + 1 : Nat) ≤ xs.length) ∧ (∀ i : Nat, i < (k + 1 : Nat) → ∃ j : Nat, j < ys.length ∧ ∀ z ∈ (at_ xs (i : Int)).xs, z ∈ (at_ ys (j : Int)).xs) from ⟨(by omega), (all_succ hn (by obtain ⟨j, hj, hz⟩ := hin.1 (by simpa using c30); exact ⟨j, by omega, hz⟩))⟩) (show xs.length - (k + 1 : Nat) < xs.length - k from (by omega)) (Sub.cons rfl (Sub.cons rfl (Sub.cons rfl (Sub.cons lookO Sub.nil)))) (show Fit κ _ (I) from Fit.sub)
 ·refine W.exit ?_
  refine V.then_exit ?_
  refine V.then_exit ?_
  refine V.block_hit ?_
  refine V.then ?_
  refine W.sr ?_
  refine G.r (Runs.assign rfl) ?_
  refine G.nt ?_
  refine W.ret ?_
  exact V.ret1 rfl rfl (I) Fit.m ⟨by rw [decide_eq_true (within_iff.2 fun i hi => hn i (by omega))], rfl⟩

theorem lvE_pos {E : List Pt} {S : Int → Bool} {e : Pt} (he : e ∈ E) (hc : cross S e = true) : 1 ≤ lvE E S := by
  unfold lvE
  have := List.length_pos_of_mem (List.mem_filter.2 ⟨he, hc⟩)
  omega
theorem lvE_zero {E : List Pt} {S : Int → Bool} (h : ∀ e ∈ E, cross S e = false) : lvE E S = 0 := by
  unfold lvE
  rw [List.filter_eq_nil_iff.2 fun e he => by rw [h e he]; decide]; rfl
theorem ke_one {nd : Int} {es : List Pt} (hG : GrOk nd es) {x y : Nat} (hx : (x : Int) < nd) (hy : (y : Int) < nd) : Conn (rowsB nd es) (allB nd) x y ↔ KE 1 es (x : Int) (y : Int) := by
  have hr := hG.rng
  have hb := fun z : Nat => bit_all hr (x := z)
  constructor
  · intro hc S h1 h2
    refine Classical.byContradiction fun hn => ?_
    have hz : ∀ e ∈ es, cross S e = false := fun e he => by
      cases hq : cross S e
      · rfl
      · have := lvE_pos he hq; omega
    have key : S (y : Int) = true := Conn.ind (fun j => S (j : Int) = true) h1 (fun a b ha _ hrow hw => by
      have hl := hG.rows.len
      have hadj : adjR (rowsB nd es) (a : Int) (b : Int) := by
        refine ⟨by omega, Classical.byContradiction fun hn => ?_, by rw [mem_listB, Int.toNat_natCast]; exact ⟨by omega, hrow⟩⟩
        rw [at_nat, List.getD_eq_getElem?_getD, List.getElem?_eq_none (by omega)] at hrow
        exact absurd hrow (by show ¬ (0#64).getLsbD b = true; simp)
      rcases ((adj_edge hG).1 hadj).2.2 with h4 | h4
      · have := hz _ h4; unfold cross at this; simp only at this; rw [ha] at this; cases hq : S (b : Int)
        · rw [hq] at this; cases this
        · rfl
      · have := hz _ h4; unfold cross at this; simp only at this; rw [ha] at this; cases hq : S (b : Int)
        · rw [hq] at this; cases this
        · rfl) hc
    rw [h2] at key; cases key
  · intro hk
    refine Classical.byContradiction fun hn => ?_
    have hx64 : x < 64 := by omega
    have hwx : (allB nd).getLsbD x = true := (hb x).2 hx
    have h1 := hk (fun z => decide (0 ≤ z) && (reachB (rowsB nd es) (oneB x) (allB nd)).getLsbD z.toNat) (by simp [(Conn.refl (rows := rowsB nd es) hwx).2]) (by
      have : (reachB (rowsB nd es) (oneB x) (allB nd)).getLsbD y = false := by rw [← Bool.not_eq_true]; exact fun h => hn ⟨hx64, h⟩
      simp [this])
    rw [lvE_zero fun e he => ?_] at h1
    · omega
    · have hed := hG.edge e he
      have hadj : ∀ a b : Int, ((⟨a, b⟩ : Pt) ∈ es ∨ (⟨b, a⟩ : Pt) ∈ es) → 0 ≤ a → 0 ≤ b → b < nd → (reachB (rowsB nd es) (oneB x) (allB nd)).getLsbD a.toNat = true → (reachB (rowsB nd es) (oneB x) (allB nd)).getLsbD b.toNat = true := fun a b hm h0 h2 hbn hra => by
        have h3 := (adj_edge hG).2 ⟨h0, h2, hm⟩
        have h4 := mem_listB.1 h3.2.2
        have h5 := (show Conn (rowsB nd es) (allB nd) x a.toNat from ⟨hx64, hra⟩).step (k := b.toNat) (by rw [show ((a.toNat : Nat) : Int) = a by omega]; exact h4.2) ((hb _).2 (by omega))
        exact h5.2
      unfold cross
      have e1 := hadj e.u e.v (.inl he) (by omega) (by omega) (by omega)
      have e2 := hadj e.v e.u (.inr he) (by omega) (by omega) (by omega)
      simp only [show (0 : Int) ≤ e.u by omega, show (0 : Int) ≤ e.v by omega, decide_true, Bool.true_and]
      cases h7 : (reachB (rowsB nd es) (oneB x) (allB nd)).getLsbD e.u.toNat <;> cases h8 : (reachB (rowsB nd es) (oneB x) (allB nd)).getLsbD e.v.toNat
      · rfl
      · rw [e2 h8] at h7; cases h7
      · rw [e1 h7] at h8; cases h8
      · rfl
theorem cls_one {nd : Int} {es : List Pt} (hG : GrOk nd es) : classesG nd es 1 = compsG nd es := by
  have hc := checkG_ok.2 hG
  unfold classesG compsG
  rw [if_neg (by rw [askE_zero.2 ⟨hG, by decide⟩]; decide), if_neg (by rw [hc]; decide), range_all hG.rng]
  unfold groupsB
  refine (groups_cls (rowsB_sym hG) (fun x y hx hy => ?_) 64 _ .all).symm
  rw [keB_iff]; exact ke_one hG ((bit_all hG.rng).1 hx) ((bit_all hG.rng).1 hy)
/-- A set whose nodes are all together lies in one class. -/
theorem cls_cover {R : Int → Int → Bool} (hs : ∀ x y, R x y = true → R y x = true) (ht : ∀ x y z, R x y = true → R y z = true → R x z = true) : ∀ (n : Nat) (l X : List Int), l.length ≤ n → 0 < X.length → (∀ x ∈ X, x ∈ l) → (∀ x ∈ X, ∀ y ∈ X, R x y = true) → (∀ x, R x x = true) → ∃ t ∈ clsL R n l, ∀ x ∈ X, x ∈ t
  | 0, l, X, hn, h0, hX, _, _ => by
    have hx := hX _ (head_mem h0)
    rw [List.eq_nil_of_length_eq_zero (by omega : l.length = 0)] at hx; cases hx
  | n + 1, l, X, hn, h0, hX, hR, hr => by
    have hl : 0 < l.length := List.length_pos_of_mem (hX _ (head_mem h0))
    rw [clsL_step R hl]
    by_cases hin : ∃ x ∈ X, R (at_ l 0) x = true
    · obtain ⟨x, hx, hxr⟩ := hin
      exact ⟨_, List.mem_cons_self, fun y hy => List.mem_filter.2 ⟨hX y hy, ht _ _ _ hxr (hR x hx y hy)⟩⟩
    · obtain ⟨t, htm, h1⟩ := cls_cover hs ht n (l.filter fun y => !R (at_ l 0) y) X (by have := cls_less (R := R) hl (hr _); omega) h0 (fun x hx => List.mem_filter.2 ⟨hX x hx, by
        cases hq : R (at_ l 0) x
        · rfl
        · exact absurd ⟨x, hx, hq⟩ hin⟩) hR hr
      exact ⟨t, List.mem_cons_of_mem _ htm, h1⟩
theorem parts_cls {nd k : Int} {es : List Pt} {Q : List (List Int)} (hG : GrOk nd es) (hk : 1 ≤ k) (h : PartsR nd es k Q) : WithinP Q (classesG nd es k) := by
  have hA := askE_zero.2 ⟨hG, hk⟩
  intro p hp
  obtain ⟨hv, h2, hkc, hW⟩ := (h.2 hA).1.valid p hp
  unfold classesG
  rw [if_neg (by rw [hA]; decide), range_all hG.rng]
  have hsub : (inS p es).Sublist es := List.filter_sublist
  refine cls_cover (R := keB k es) (fun x y hh => keB_iff.2 (keB_iff.1 hh).symm) (fun x y z h1 h3 => keB_iff.2 ((keB_iff.1 h1).trans (keB_iff.1 h3))) 64 _ p (listB_len _) (by omega) hW (fun x hx y hy => keB_iff.2 fun S h1 h3 => ?_) (fun x => keB_refl _ _ _)
  have := hkc x hx y hy S h1 h3
  have h4 := lvE_mono hsub S
  omega
theorem parts_down {nd k : Int} {es : List Pt} {Q Q' : List (List Int)} (hG : GrOk nd es) (hk : 1 ≤ k) (h : PartsR nd es k Q) (h' : PartsR nd es (k + 1) Q') : WithinP Q' Q := by
  intro p hp
  obtain ⟨hv, h2, hkc, hW⟩ := (h'.2 (askE_zero.2 ⟨hG, by omega⟩)).1.valid p hp
  exact (h.2 (askE_zero.2 ⟨hG, hk⟩)).1.cover p h2 (valid_nodup hv) (fun x hx y hy => (hkc x hx y hy).less (by omega)) hW
theorem parts_deg {nd k v : Int} {es : List Pt} {Q : List (List Int)} (hG : GrOk nd es) (hk : 1 ≤ k) (h : PartsR nd es k Q) {p : List Int} (hp : p ∈ Q) (hv : v ∈ p) : k ≤ ((meetL (nbG nd es v) p).length : Int) := by
  obtain ⟨hva, h2, hkc, hW⟩ := (h.2 (askE_zero.2 ⟨hG, hk⟩)).1.valid p hp
  have hvr := ValidP_mem hva hv
  have hI : GrOk nd (inS p es) := ⟨hG.rng, hG.asc.sublist List.filter_sublist, fun e he => hG.edge e (List.mem_filter.1 he).1⟩
  have hI2 := inS_sub (X := p) (Y := p) (es := es) fun x hx => hx
  obtain ⟨y, hy, hne⟩ : ∃ y ∈ p, y ≠ v := Classical.byContradiction fun hn => by
    have := List.Nodup.length_le_of_subset (l₂ := [v]) (valid_nodup hva) fun z hz => by
      rw [List.mem_singleton]; exact Classical.byContradiction fun hzv => hn ⟨z, hz, hzv⟩
    simp only [List.length_cons, List.length_nil] at this; omega
  have h1 := hkc v hv y hy (inL [v]) (decide_eq_true List.mem_cons_self) (decide_eq_false (by rw [List.mem_singleton]; exact hne))
  have h3 := kt_deg hI hvr
  have h4 : (nbG nd (inS p es) v).length ≤ (meetL (nbG nd es v) p).length := by
    refine List.Nodup.length_le_of_subset ?_ fun z hz => ?_
    · rw [← nb_eq]; exact (listB_asc _).imp fun h => by omega
    · obtain ⟨hz0, hzb⟩ := (mem_nbG hI hvr).1 hz
      have hl := hI.rows.len
      have hadj : adjR (rowsB nd (inS p es)) v z := ⟨hvr.1, by omega, by rw [mem_listB]; exact ⟨hz0, hzb⟩⟩
      have hin : (⟨v, z⟩ : Pt) ∈ inS p es ∨ (⟨z, v⟩ : Pt) ∈ inS p es := ((adj_edge hI).1 hadj).2.2
      have hes : (⟨v, z⟩ : Pt) ∈ es ∨ (⟨z, v⟩ : Pt) ∈ es := hin.imp (fun h => (mem_inS.1 h).1) fun h => (mem_inS.1 h).1
      have hzp : z ∈ p := by
        rcases hin with h | h
        · exact (mem_inS.1 h).2.2
        · exact (mem_inS.1 h).2.1
      refine mem_meetL.2 ⟨(mem_nbG hG hvr).2 ⟨hz0, ?_⟩, hzp⟩
      exact (mem_listB.1 ((adj_edge hG).2 ⟨hvr.1, hz0, hes⟩).2.2).2
  omega

set_option maxHeartbeats 4000000 in
theorem KedgeInside_walk {κ : Ctx} {I : List Item} {la : Option Addr} {ln lc : Nat} {ls : List Int} (hl : Sl κ I (.slice la ln lc) ls) (kk : Int) (hT : TabRd κ I 0 tzCells) :
    CallS Tryd.prog κ 10 [.slice la ln lc, I64 (kk)] I (fun r J => r = .bool true ∧ I = J) := by
 refine CallS.enter (L := [(0, .slice la ln lc), (1, I64 (kk))]) Tryd.func10 rfl rfl rfl rfl ?_
 refine W.sr ?_
 refine G.r (Runs.assign rfl) ?_
 refine G.nt ?_
 refine W.sr ?_
 refine G.r (Runs.move rfl) ?_
 refine G.e (Eff.call call13 rfl rfl New_ok) ?_
 rintro _ _ ⟨_, _, ⟨dk1, rfl, rfl⟩, rfl, rfl⟩
 show G Tryd.prog κ _ _ _ _ ([(22, .pointer (some ⟨dk1, 0, none⟩)), (21, .slice la ln lc), (4, .bool false), (0, .slice la ln lc), (1, I64 (kk))] : Env) (blk dk1 [.slice la ln lc, I64 (0)] 96 :: I)
 have hi0 : (0 : Int) ≤ 0 := Int.le_refl _
 refine G.e (Eff.call call12 rfl rfl (MkGraph_at (by repeat (first | exact AtF.head _ _ | apply AtF.tail)) (fun _ => Sl.fit hl Fit.m) (by omega)  (by omega))) ?_
 rintro _ _ ⟨_, _, ⟨⟨nd2, ad3, cp4, es5, i6⟩, ⟨⟨rfl, hges5⟩, hi6⟩, rfl⟩, rfl, rfl⟩
 show G Tryd.prog κ _ _ _ _ ([(23, .agg #[I64 (nd2), .slice ad3 es5.length cp4]), (22, .pointer (some ⟨dk1, 0, none⟩)), (21, .slice la ln lc), (4, .bool false), (0, .slice la ln lc), (1, I64 (kk))] : Env) (vc 38 (.slice ad3 es5.length cp4) (es5) :: blk dk1 [.slice la ln lc, I64 (i6)] 96 :: I)
 have hi6 : 0 ≤ i6 := hi6
 dsimp only at hges5
 have hG := hges5.2.1
 have hel := hges5.2.2
 have hnd := hges5.1
 have hrng := hG.rng
 refine G.e (Eff.alloc ty25 rfl) ?_
 rintro _ _ ⟨b7, rfl, rfl⟩
 refine G.e (Eff.st (cs := [_, _]) (vs := [_, _]) (cs' := [_, _]) ty25) ?_
 rintro _ _ ⟨rfl, rfl⟩
 refine G.nt ?_
 refine W.sr ?_
 refine G.r (Runs.move rfl) ?_
 refine G.e (Eff.call call54 rfl rfl (Mod_ok (by omega) (by omega))) ?_
 rintro _ _ ⟨_, _, ⟨x8, rfl, hx8, rfl⟩, rfl, rfl⟩
 refine G.r (Runs.add rfl rfl (by unfold InR; omega)) ?_
 refine G.r (Runs.assign rfl) ?_
 have hA1 : askE nd2 es5 (1 + x8) = 0 := askE_zero.2 ⟨hG, by omega⟩
 have hA2 : askE nd2 es5 (1 + x8 + 1) = 0 := askE_zero.2 ⟨hG, by omega⟩
 have hA3 : askE nd2 es5 1 = 0 := askE_zero.2 ⟨hG, by decide⟩
 refine G.nt ?_
 refine W.sr ?_
 refine G.r (Runs.lds (vs := [_, _]) ty25) ?_
 refine G.r (Runs.move rfl) ?_
 refine G.e (Eff.call call57 rfl rfl (KParts_ok (nd := nd2) Sl.o (1 + x8) (TabRd.fit hT Fit.m))) ?_
 rintro _ _ ⟨_, _, ⟨ad9, cp10, rs11, rfl, ⟨hrs11, hbrs11⟩, rfl⟩, rfl, rfl⟩
 refine G.fit (J := vc 22 (.slice ad9 rs11.length cp10) (rs11) :: blk b7 [I64 (nd2), .slice ad3 es5.length cp4] 25 :: vc 38 (.slice ad3 es5.length cp4) (es5) :: blk dk1 [.slice la ln lc, I64 (i6)] 96 :: (ownR 3 rs11 ++ I)) Fit.s ?_
 refine G.r (Runs.move rfl) ?_
 refine G.r (Runs.extract rfl rfl) ?_
 refine G.r (Runs.extract rfl rfl) ?_
 refine G.r (Runs.assign rfl) ?_
 refine G.r (Runs.assign rfl) ?_
 refine G.nt ?_
 refine W.sub (L' := [(8, _), (7, _), (6, _), (5, _)]) (Sub.cons rfl (Sub.cons rfl (Sub.cons rfl (Sub.cons rfl Sub.nil)))) ?_
 refine W.sr ?_
 refine G.r (Runs.lds (vs := [_, _]) ty25) ?_
 refine G.r (Runs.move rfl) ?_
 refine G.r (Runs.add rfl rfl (by unfold InR; omega)) ?_
 refine G.e (Eff.call call57 rfl rfl (KParts_ok (nd := nd2) Sl.o ((1 + x8) + 1) (TabRd.fit hT Fit.m))) ?_
 rintro _ _ ⟨_, _, ⟨ad12, cp13, rs14, rfl, ⟨hrs14, hbrs14⟩, rfl⟩, rfl, rfl⟩
 refine G.fit (J := vc 22 (.slice ad12 rs14.length cp13) (rs14) :: vc 22 (.slice ad9 rs11.length cp10) (rs11) :: blk b7 [I64 (nd2), .slice ad3 es5.length cp4] 25 :: vc 38 (.slice ad3 es5.length cp4) (es5) :: blk dk1 [.slice la ln lc, I64 (i6)] 96 :: (ownR 3 rs14 ++ (ownR 3 rs11 ++ I))) Fit.s ?_
 refine G.r (Runs.move rfl) ?_
 refine G.r (Runs.extract rfl rfl) ?_
 refine G.r (Runs.extract rfl rfl) ?_
 refine G.r (Runs.assign rfl) ?_
 refine G.r (Runs.assign rfl) ?_
 refine G.nt ?_
 refine W.sr ?_
 refine G.r (Runs.lds (vs := [_, _]) ty25) ?_
 refine G.r (Runs.move rfl) ?_
 refine G.e (Eff.call call55 rfl rfl (KClasses_ok (nd := nd2) Sl.o (1 + x8) (TabRd.fit hT Fit.m))) ?_
 rintro _ _ ⟨_, _, ⟨ad15, cp16, rs17, rfl, hrs17, rfl⟩, rfl, rfl⟩
 refine G.fit (J := vc 22 (.slice ad15 rs17.length cp16) (rs17) :: vc 22 (.slice ad12 rs14.length cp13) (rs14) :: vc 22 (.slice ad9 rs11.length cp10) (rs11) :: blk b7 [I64 (nd2), .slice ad3 es5.length cp4] 25 :: vc 38 (.slice ad3 es5.length cp4) (es5) :: blk dk1 [.slice la ln lc, I64 (i6)] 96 :: (ownR 3 rs17 ++ (ownR 3 rs14 ++ (ownR 3 rs11 ++ I)))) Fit.s ?_
 refine G.r (Runs.move rfl) ?_
 refine G.r (Runs.extract rfl rfl) ?_
 refine G.r (Runs.extract rfl rfl) ?_
 refine G.r (Runs.assign rfl) ?_
 refine G.r (Runs.assign rfl) ?_
 refine G.nt ?_
 refine W.sub (L' := [(12, _), (11, _), (10, _), (9, _), (8, _), (7, _), (6, _), (5, _)]) (Sub.cons rfl (Sub.cons rfl (Sub.cons rfl (Sub.cons rfl (Sub.cons rfl (Sub.cons rfl (Sub.cons rfl (Sub.cons rfl Sub.nil)))))))) ?_
 refine W.sr ?_
 refine G.r (Runs.lds (vs := [_, _]) ty25) ?_
 refine G.e (Eff.call call55 rfl rfl (KClasses_ok (nd := nd2) Sl.o 1 (TabRd.fit hT Fit.m))) ?_
 rintro _ _ ⟨_, _, ⟨ad18, cp19, rs20, rfl, hrs20, rfl⟩, rfl, rfl⟩
 refine G.fit (J := vc 22 (.slice ad18 rs20.length cp19) (rs20) :: vc 22 (.slice ad15 rs17.length cp16) (rs17) :: vc 22 (.slice ad12 rs14.length cp13) (rs14) :: vc 22 (.slice ad9 rs11.length cp10) (rs11) :: blk b7 [I64 (nd2), .slice ad3 es5.length cp4] 25 :: vc 38 (.slice ad3 es5.length cp4) (es5) :: blk dk1 [.slice la ln lc, I64 (i6)] 96 :: (ownR 3 rs20 ++ (ownR 3 rs17 ++ (ownR 3 rs14 ++ (ownR 3 rs11 ++ I))))) Fit.s ?_
 refine G.r (Runs.move rfl) ?_
 refine G.r (Runs.extract rfl rfl) ?_
 refine G.r (Runs.extract rfl rfl) ?_
 refine G.r (Runs.assign rfl) ?_
 refine G.r (Runs.assign rfl) ?_
 refine G.nt ?_
 refine W.sub (L' := [(14, _), (13, _), (12, _), (11, _), (10, _), (9, _), (8, _), (7, _), (6, _), (5, _)]) (Sub.cons rfl (Sub.cons rfl (Sub.cons rfl (Sub.cons rfl (Sub.cons rfl (Sub.cons rfl (Sub.cons rfl (Sub.cons rfl (Sub.cons rfl (Sub.cons rfl Sub.nil)))))))))) ?_
 refine W.sr ?_
 refine G.r (Runs.lds (vs := [_, _]) ty25) ?_
 refine G.e (Eff.call call34 rfl rfl (Comps15_ok (nd := nd2) Sl.o (by omega))) ?_
 rintro _ _ ⟨_, _, ⟨ad21, cp22, rs23, rfl, hrs23, rfl⟩, rfl, rfl⟩
 refine G.fit (J := vc 22 (.slice ad21 rs23.length cp22) (rs23) :: vc 22 (.slice ad18 rs20.length cp19) (rs20) :: vc 22 (.slice ad15 rs17.length cp16) (rs17) :: vc 22 (.slice ad12 rs14.length cp13) (rs14) :: vc 22 (.slice ad9 rs11.length cp10) (rs11) :: blk b7 [I64 (nd2), .slice ad3 es5.length cp4] 25 :: vc 38 (.slice ad3 es5.length cp4) (es5) :: blk dk1 [.slice la ln lc, I64 (i6)] 96 :: (ownR 3 rs23 ++ (ownR 3 rs20 ++ (ownR 3 rs17 ++ (ownR 3 rs14 ++ (ownR 3 rs11 ++ I)))))) Fit.s ?_
 refine G.r (Runs.move rfl) ?_
 refine G.r (Runs.extract rfl rfl) ?_
 refine G.r (Runs.extract rfl rfl) ?_
 refine G.r (Runs.assign rfl) ?_
 refine G.r (Runs.assign rfl) ?_
 refine G.nt ?_
 refine W.sub (L' := [(15, _), (14, _), (13, _), (12, _), (11, _), (10, _), (9, _), (8, _), (7, _), (6, _), (5, _)]) (Sub.cons rfl (Sub.cons rfl (Sub.cons rfl (Sub.cons rfl (Sub.cons rfl (Sub.cons rfl (Sub.cons rfl (Sub.cons rfl (Sub.cons rfl (Sub.cons rfl (Sub.cons rfl Sub.nil))))))))))) ?_
 refine W.seq ?_
 refine W.sr ?_
 refine G.r (Runs.move rfl) ?_
 refine G.r (Runs.move rfl) ?_
 refine G.r (Runs.add rfl rfl (by unfold InR; omega)) ?_
 refine G.r (Runs.move rfl) ?_
 refine G.r (Runs.add rfl rfl (by unfold InR; omega)) ?_
 refine G.r (Runs.move rfl) ?_
 refine G.r (Runs.add rfl rfl (by unfold InR; omega)) ?_
 refine G.r (Runs.neq rfl rfl) ?_
 refine G.r (Runs.move rfl) ?_
 refine G.split (d := 64) rfl (fun g64 => ?_) (fun g64 => ?_)
 ·exact absurd (by omega) g64
 ·refine G.ro (Runs.move rfl) ?_
  refine G.ro (Runs.move rfl) ?_
  refine G.eff (Wanted.on rfl rfl rfl) (Eff.call call38 rfl rfl (SameAll_ok Sl.o Sl.o (ownR_in (e := 3) (rs := rs20) (fun x hx => by repeat (first | exact List.mem_append_left _ hx | apply List.mem_append_right | apply List.mem_cons_of_mem))) (ownR_in (e := 3) (rs := rs23) (fun x hx => by repeat (first | exact List.mem_append_left _ hx | apply List.mem_append_right | apply List.mem_cons_of_mem))))) ?_
  rintro _ _ ⟨_, _, ⟨rfl, rfl⟩, rfl, rfl⟩
  refine G.ro (Runs.notd rfl) ?_
  refine G.r (Runs.pickf rfl rfl) ?_
  refine G.nt ?_
  refine W.sub (L' := [(69, _), (11, _), (9, _), (7, _), (6, _), (5, _)]) (Sub.cons rfl (Sub.cons rfl (Sub.cons rfl (Sub.cons rfl (Sub.cons rfl (Sub.cons rfl Sub.nil)))))) ?_
  refine W.ite rfl (fun c69 => ?_) (fun c69 => ?_)
  ·exact absurd (by rw [hrs20, hrs23]; exact cls_one hG) c69
  ·refine W.skip ?_
   refine V.then ?_
   refine W.seq ?_
   refine W.sr ?_
   refine G.r (Runs.move rfl) ?_
   refine G.r (Runs.lens Tryd.underlying50 rfl) ?_
   refine G.r (Runs.move rfl) ?_
   refine G.nt ?_
   refine W.block ?_
   refine W.loop (σ := Nat) (fun s => ([(5, .pointer (some ⟨b7, 0, none⟩)), (6, I64 (1 + x8)), (7, .slice ad9 rs11.length cp10), (9, .slice ad12 rs14.length cp13), (11, .slice ad15 rs17.length cp16), (70, .slice ad9 rs11.length cp10), (71, I64 (((rs11.length : Nat) : Int))), (72, I64 (((s : Nat) : Int)))] : Env)) (fun s => vc 22 (.slice ad21 rs23.length cp22) (rs23) :: vc 22 (.slice ad18 rs20.length cp19) (rs20) :: vc 22 (.slice ad15 rs17.length cp16) (rs17) :: vc 22 (.slice ad12 rs14.length cp13) (rs14) :: vc 22 (.slice ad9 rs11.length cp10) (rs11) :: blk b7 [I64 (nd2), .slice ad3 es5.length cp4] 25 :: vc 38 (.slice ad3 es5.length cp4) (es5) :: blk dk1 [.slice la ln lc, I64 (i6)] 96 :: (ownR 3 rs23 ++ (ownR 3 rs20 ++ (ownR 3 rs17 ++ (ownR 3 rs14 ++ (ownR 3 rs11 ++ I)))))) (fun s => (s ≤ rs11.length)) (fun s => rs11.length - s) (0) (show ((0 : Nat) ≤ rs11.length) from (by omega)) (Sub.cons rfl (Sub.cons rfl (Sub.cons rfl (Sub.cons rfl (Sub.cons rfl (Sub.cons rfl (Sub.cons rfl (Sub.cons lookO Sub.nil)))))))) (show Fit κ _ (vc 22 (.slice ad21 rs23.length cp22) (rs23) :: vc 22 (.slice ad18 rs20.length cp19) (rs20) :: vc 22 (.slice ad15 rs17.length cp16) (rs17) :: vc 22 (.slice ad12 rs14.length cp13) (rs14) :: vc 22 (.slice ad9 rs11.length cp10) (rs11) :: blk b7 [I64 (nd2), .slice ad3 es5.length cp4] 25 :: vc 38 (.slice ad3 es5.length cp4) (es5) :: blk dk1 [.slice la ln lc, I64 (i6)] 96 :: (ownR 3 rs23 ++ (ownR 3 rs20 ++ (ownR 3 rs17 ++ (ownR 3 rs14 ++ (ownR 3 rs11 ++ I)))))) from Fit.sub) ?_
   rintro k hp
   have hk : (k ≤ rs11.length) := hp
   show W Tryd.prog κ 103 _ _ ([(5, .pointer (some ⟨b7, 0, none⟩)), (6, I64 (1 + x8)), (7, .slice ad9 rs11.length cp10), (9, .slice ad12 rs14.length cp13), (11, .slice ad15 rs17.length cp16), (70, .slice ad9 rs11.length cp10), (71, I64 (((rs11.length : Nat) : Int))), (72, I64 (((k : Nat) : Int)))] : Env) (vc 22 (.slice ad21 rs23.length cp22) (rs23) :: vc 22 (.slice ad18 rs20.length cp19) (rs20) :: vc 22 (.slice ad15 rs17.length cp16) (rs17) :: vc 22 (.slice ad12 rs14.length cp13) (rs14) :: vc 22 (.slice ad9 rs11.length cp10) (rs11) :: blk b7 [I64 (nd2), .slice ad3 es5.length cp4] 25 :: vc 38 (.slice ad3 es5.length cp4) (es5) :: blk dk1 [.slice la ln lc, I64 (i6)] 96 :: (ownR 3 rs23 ++ (ownR 3 rs20 ++ (ownR 3 rs17 ++ (ownR 3 rs14 ++ (ownR 3 rs11 ++ I))))))
   have hvk : k < rs11.length → (at_ rs11 ((k : Nat) : Int)).xs ∈ rs11.map RowG.xs := fun h => row_mem.2 ⟨k, h, rfl⟩
   have hvl : k < rs11.length → (at_ rs11 ((k : Nat) : Int)).xs.length ≤ 64 := fun h => by have h1 := (hrs11.2 (askE_zero.2 ⟨hG, by omega⟩)).1.valid _ (hvk h); have h2 := List.Nodup.length_le_of_subset (valid_nodup h1.1) h1.2.2.2; have h3 := listB_len (allB nd2); omega
   refine W.sr ?_
   refine G.r (Runs.lss rfl rfl) ?_
   refine G.nt ?_
   refine W.seq ?_
   refine W.ite rfl (fun c73 => ?_) (fun c73 => ?_)
   ·refine W.skip ?_
    refine V.then ?_
    refine W.seq ?_
    refine W.block ?_
    refine W.sr ?_
    refine G.r (Runs.idx (α := (RowG Int)) (xs := rs11) Tryd.underlying50 ty22 rfl rfl Sl.o (by omega) (by omega)) ?_
    refine G.r (Runs.getf0 (α := (RowG Int)) (xs := rs11) (u := .slice (at_ rs11 ((k : Nat) : Int)).a (at_ rs11 ((k : Nat) : Int)).xs.length (at_ rs11 ((k : Nat) : Int)).c) ty22 rfl Sl.o (by omega) (by omega) rfl) ?_
    refine G.r (Runs.assign rfl) ?_
    refine G.nt ?_
    refine W.sr ?_
    refine G.r (Runs.move rfl) ?_
    refine G.r (Runs.lens Tryd.underlying22 rfl) ?_
    refine G.r (Runs.move rfl) ?_
    refine G.nt ?_
    refine W.sub (L' := [(78, _), (77, _), (76, _), (18, _), (5, _), (6, _), (7, _), (9, _), (11, _), (70, _), (71, _), (72, _)]) (Sub.cons rfl (Sub.cons rfl (Sub.cons rfl (Sub.cons rfl (Sub.cons rfl (Sub.cons rfl (Sub.cons rfl (Sub.cons rfl (Sub.cons rfl (Sub.cons rfl (Sub.cons rfl (Sub.cons rfl Sub.nil)))))))))))) ?_
    refine W.block ?_
    refine W.loop (σ := Nat) (fun s => ([(5, .pointer (some ⟨b7, 0, none⟩)), (6, I64 (1 + x8)), (7, .slice ad9 rs11.length cp10), (9, .slice ad12 rs14.length cp13), (11, .slice ad15 rs17.length cp16), (18, .slice (at_ rs11 ((k : Nat) : Int)).a (at_ rs11 ((k : Nat) : Int)).xs.length (at_ rs11 ((k : Nat) : Int)).c), (70, .slice ad9 rs11.length cp10), (71, I64 (((rs11.length : Nat) : Int))), (72, I64 (((k : Nat) : Int))), (76, .slice (at_ rs11 ((k : Nat) : Int)).a (at_ rs11 ((k : Nat) : Int)).xs.length (at_ rs11 ((k : Nat) : Int)).c), (77, I64 ((((at_ rs11 ((k : Nat) : Int)).xs.length : Nat) : Int))), (78, I64 (((s : Nat) : Int)))] : Env)) (fun s => vc 22 (.slice ad21 rs23.length cp22) (rs23) :: vc 22 (.slice ad18 rs20.length cp19) (rs20) :: vc 22 (.slice ad15 rs17.length cp16) (rs17) :: vc 22 (.slice ad12 rs14.length cp13) (rs14) :: vc 22 (.slice ad9 rs11.length cp10) (rs11) :: blk b7 [I64 (nd2), .slice ad3 es5.length cp4] 25 :: vc 38 (.slice ad3 es5.length cp4) (es5) :: blk dk1 [.slice la ln lc, I64 (i6)] 96 :: (ownR 3 rs23 ++ (ownR 3 rs20 ++ (ownR 3 rs17 ++ (ownR 3 rs14 ++ (ownR 3 rs11 ++ I)))))) (fun s => (s ≤ (at_ rs11 ((k : Nat) : Int)).xs.length)) (fun s => (at_ rs11 ((k : Nat) : Int)).xs.length - s) (0) (show ((0 : Nat) ≤ (at_ rs11 ((k : Nat) : Int)).xs.length) from (by omega)) (Sub.cons rfl (Sub.cons rfl (Sub.cons rfl (Sub.cons rfl (Sub.cons rfl (Sub.cons rfl (Sub.cons rfl (Sub.cons rfl (Sub.cons rfl (Sub.cons rfl (Sub.cons rfl (Sub.cons lookO Sub.nil)))))))))))) (show Fit κ _ (vc 22 (.slice ad21 rs23.length cp22) (rs23) :: vc 22 (.slice ad18 rs20.length cp19) (rs20) :: vc 22 (.slice ad15 rs17.length cp16) (rs17) :: vc 22 (.slice ad12 rs14.length cp13) (rs14) :: vc 22 (.slice ad9 rs11.length cp10) (rs11) :: blk b7 [I64 (nd2), .slice ad3 es5.length cp4] 25 :: vc 38 (.slice ad3 es5.length cp4) (es5) :: blk dk1 [.slice la ln lc, I64 (i6)] 96 :: (ownR 3 rs23 ++ (ownR 3 rs20 ++ (ownR 3 rs17 ++ (ownR 3 rs14 ++ (ownR 3 rs11 ++ I)))))) from Fit.sub) ?_
    rintro j hp
    have hj : (j ≤ (at_ rs11 ((k : Nat) : Int)).xs.length) := hp
    show W Tryd.prog κ 103 _ _ ([(5, .pointer (some ⟨b7, 0, none⟩)), (6, I64 (1 + x8)), (7, .slice ad9 rs11.length cp10), (9, .slice ad12 rs14.length cp13), (11, .slice ad15 rs17.length cp16), (18, .slice (at_ rs11 ((k : Nat) : Int)).a (at_ rs11 ((k : Nat) : Int)).xs.length (at_ rs11 ((k : Nat) : Int)).c), (70, .slice ad9 rs11.length cp10), (71, I64 (((rs11.length : Nat) : Int))), (72, I64 (((k : Nat) : Int))), (76, .slice (at_ rs11 ((k : Nat) : Int)).a (at_ rs11 ((k : Nat) : Int)).xs.length (at_ rs11 ((k : Nat) : Int)).c), (77, I64 ((((at_ rs11 ((k : Nat) : Int)).xs.length : Nat) : Int))), (78, I64 (((j : Nat) : Int)))] : Env) (vc 22 (.slice ad21 rs23.length cp22) (rs23) :: vc 22 (.slice ad18 rs20.length cp19) (rs20) :: vc 22 (.slice ad15 rs17.length cp16) (rs17) :: vc 22 (.slice ad12 rs14.length cp13) (rs14) :: vc 22 (.slice ad9 rs11.length cp10) (rs11) :: blk b7 [I64 (nd2), .slice ad3 es5.length cp4] 25 :: vc 38 (.slice ad3 es5.length cp4) (es5) :: blk dk1 [.slice la ln lc, I64 (i6)] 96 :: (ownR 3 rs23 ++ (ownR 3 rs20 ++ (ownR 3 rs17 ++ (ownR 3 rs14 ++ (ownR 3 rs11 ++ I))))))
    refine W.sr ?_
    refine G.r (Runs.lss rfl rfl) ?_
    refine G.nt ?_
    refine W.seq ?_
    refine W.ite rfl (fun c79 => ?_) (fun c79 => ?_)
    ·refine W.skip ?_
     refine V.then ?_
     refine W.seq ?_
     refine W.block ?_
     refine W.sr ?_
     refine G.r (Runs.idx (α := Int) (xs := (at_ rs11 ((k : Nat) : Int)).xs) Tryd.underlying22 ty3 rfl rfl (HeldAll.at (ownR_in (e := 3) (rs := rs11) (fun x hx => by repeat (first | exact List.mem_append_left _ hx | apply List.mem_append_right | apply List.mem_cons_of_mem))) (i := ((k : Nat) : Int)) (by omega) (by omega)) (by omega) (by omega)) ?_
     refine G.r (Runs.get (xs := (at_ rs11 ((k : Nat) : Int)).xs) ty3 rfl (HeldAll.at (ownR_in (e := 3) (rs := rs11) (fun x hx => by repeat (first | exact List.mem_append_left _ hx | apply List.mem_append_right | apply List.mem_cons_of_mem))) (i := ((k : Nat) : Int)) (by omega) (by omega)) (by omega) (by omega)) ?_
     refine G.r (Runs.assign rfl) ?_
     refine G.nt ?_
     refine W.sub (L' := [(20, _), (5, _), (6, _), (7, _), (9, _), (11, _), (18, _), (70, _), (71, _), (72, _), (76, _), (77, _), (78, _)]) (Sub.cons rfl (Sub.cons rfl (Sub.cons rfl (Sub.cons rfl (Sub.cons rfl (Sub.cons rfl (Sub.cons rfl (Sub.cons rfl (Sub.cons rfl (Sub.cons rfl (Sub.cons rfl (Sub.cons rfl (Sub.cons rfl Sub.nil))))))))))))) ?_
     refine W.sr ?_
     refine G.r (Runs.lds (vs := [_, _]) ty25) ?_
     refine G.r (Runs.move rfl) ?_
     refine G.e (Eff.call call26 rfl rfl (Neigh03_ok (nd := nd2) Sl.o (at_ ((at_ rs11 ((k : Nat) : Int)).xs) ((j : Nat) : Int)) (by omega))) ?_
     rintro _ _ ⟨_, _, ⟨ad24, cp25, rfl, rfl⟩, rfl, rfl⟩
     have hnl84 := nbG_len nd2 es5 (at_ ((at_ rs11 ((k : Nat) : Int)).xs) ((j : Nat) : Int))
     refine G.r (Runs.move rfl) ?_
     refine G.e (Eff.call call25 rfl rfl (Meet_ok Sl.o (HeldAll.at (ownR_in (e := 3) (rs := rs11) (fun x hx => by repeat (first | exact List.mem_append_left _ hx | apply List.mem_append_right | apply List.mem_cons_of_mem))) (i := ((k : Nat) : Int)) (by omega) (by omega)) (by have := nbG_len; first | (refine Nat.lt_of_le_of_lt (nbG_len _ _ _) (by decide)) | omega))) ?_
     rintro _ _ ⟨_, _, ⟨ad26, cp27, rfl, rfl⟩, rfl, rfl⟩
     refine G.r (Runs.lens Tryd.underlying22 rfl) ?_
     refine G.r (Runs.move rfl) ?_
     refine G.r (Runs.lss rfl rfl) ?_
     refine G.nt ?_
     refine W.sub (L' := [(89, _), (5, _), (6, _), (7, _), (9, _), (11, _), (18, _), (70, _), (71, _), (72, _), (76, _), (77, _), (78, _)]) (Sub.cons rfl (Sub.cons rfl (Sub.cons rfl (Sub.cons rfl (Sub.cons rfl (Sub.cons rfl (Sub.cons rfl (Sub.cons rfl (Sub.cons rfl (Sub.cons rfl (Sub.cons rfl (Sub.cons rfl (Sub.cons rfl Sub.nil))))))))))))) ?_
     refine W.ite rfl (fun c89 => ?_) (fun c89 => ?_)
     ·have h9 := parts_deg hG (by omega) hrs11 (hvk (by omega)) (at_mem (xs := (at_ rs11 ((k : Nat) : Int)).xs) (i := ((j : Nat) : Int)) (by omega) (by omega)); omega
     ·refine W.skip ?_
      refine V.block_normal ?_
      refine V.then ?_
      refine W.region ?_
      refine G.r (Runs.add rfl rfl (by unfold InR; omega)) ?_
      refine G.r (Runs.move rfl) ?_
      refine G.nil ?_
      exact V.next ((j + 1)) (show ((j + 1 : Nat) ≤ (at_ rs11 ((k : Nat) : Int)).xs.length) from (by omega)) (show (at_ rs11 ((k : Nat) : Int)).xs.length - (j + 1 : Nat) < (at_ rs11 ((k : Nat) : Int)).xs.length - j from (by omega)) (Sub.cons rfl (Sub.cons rfl (Sub.cons rfl (Sub.cons rfl (Sub.cons rfl (Sub.cons rfl (Sub.cons rfl (Sub.cons rfl (Sub.cons rfl (Sub.cons rfl (Sub.cons rfl (Sub.cons lookO Sub.nil)))))))))))) (show Fit κ _ (vc 22 (.slice ad21 rs23.length cp22) (rs23) :: vc 22 (.slice ad18 rs20.length cp19) (rs20) :: vc 22 (.slice ad15 rs17.length cp16) (rs17) :: vc 22 (.slice ad12 rs14.length cp13) (rs14) :: vc 22 (.slice ad9 rs11.length cp10) (rs11) :: blk b7 [I64 (nd2), .slice ad3 es5.length cp4] 25 :: vc 38 (.slice ad3 es5.length cp4) (es5) :: blk dk1 [.slice la ln lc, I64 (i6)] 96 :: (ownR 3 rs23 ++ (ownR 3 rs20 ++ (ownR 3 rs17 ++ (ownR 3 rs14 ++ (ownR 3 rs11 ++ I)))))) from (Fit.of_sublist (by repeat (first | exact List.Sublist.refl _ | apply List.Sublist.cons_cons | apply List.Sublist.cons | exact List.sublist_append_right _ _ | apply sub_app))))
    ·refine W.exit ?_
     refine V.then_exit ?_
     refine V.then_exit ?_
     refine V.block_hit ?_
     refine V.block_normal ?_
     refine V.then ?_
     refine W.region ?_
     refine G.r (Runs.add rfl rfl (by unfold InR; omega)) ?_
     refine G.r (Runs.move rfl) ?_
     refine G.nil ?_
     exact V.next ((k + 1)) (show ((k + 1 : Nat) ≤ rs11.length) from (by omega)) (show rs11.length - (k + 1 : Nat) < rs11.length - k from (by omega)) (Sub.cons rfl (Sub.cons rfl (Sub.cons rfl (Sub.cons rfl (Sub.cons rfl (Sub.cons rfl (Sub.cons rfl (Sub.cons lookO Sub.nil)))))))) (show Fit κ _ (vc 22 (.slice ad21 rs23.length cp22) (rs23) :: vc 22 (.slice ad18 rs20.length cp19) (rs20) :: vc 22 (.slice ad15 rs17.length cp16) (rs17) :: vc 22 (.slice ad12 rs14.length cp13) (rs14) :: vc 22 (.slice ad9 rs11.length cp10) (rs11) :: blk b7 [I64 (nd2), .slice ad3 es5.length cp4] 25 :: vc 38 (.slice ad3 es5.length cp4) (es5) :: blk dk1 [.slice la ln lc, I64 (i6)] 96 :: (ownR 3 rs23 ++ (ownR 3 rs20 ++ (ownR 3 rs17 ++ (ownR 3 rs14 ++ (ownR 3 rs11 ++ I)))))) from (Fit.of_sublist (by repeat (first | exact List.Sublist.refl _ | apply List.Sublist.cons_cons | apply List.Sublist.cons | exact List.sublist_append_right _ _ | apply sub_app))))
   ·refine W.exit ?_
    refine V.then_exit ?_
    refine V.then_exit ?_
    refine V.block_hit ?_
    refine V.then ?_
    refine W.sr ?_
    refine G.r (Runs.move rfl) ?_
    refine G.r (Runs.move rfl) ?_
    refine G.e (Eff.call call59 rfl rfl (WithinA_ok Sl.o Sl.o (ownR_in (e := 3) (rs := rs11) (fun x hx => by repeat (first | exact List.mem_append_left _ hx | apply List.mem_append_right | apply List.mem_cons_of_mem))) (ownR_in (e := 3) (rs := rs17) (fun x hx => by repeat (first | exact List.mem_append_left _ hx | apply List.mem_append_right | apply List.mem_cons_of_mem))))) ?_
    rintro _ _ ⟨_, _, ⟨rfl, rfl⟩, rfl, rfl⟩
    refine G.r (Runs.move rfl) ?_
    refine G.split (d := 95) rfl (fun g95 => ?_) (fun g95 => ?_)
    ·refine G.ro (Runs.move rfl) ?_
     refine G.ro (Runs.move rfl) ?_
     refine G.eff (Wanted.on rfl rfl rfl) (Eff.call call59 rfl rfl (WithinA_ok Sl.o Sl.o (ownR_in (e := 3) (rs := rs14) (fun x hx => by repeat (first | exact List.mem_append_left _ hx | apply List.mem_append_right | apply List.mem_cons_of_mem))) (ownR_in (e := 3) (rs := rs11) (fun x hx => by repeat (first | exact List.mem_append_left _ hx | apply List.mem_append_right | apply List.mem_cons_of_mem))))) ?_
     rintro _ _ ⟨_, _, ⟨rfl, rfl⟩, rfl, rfl⟩
     refine G.r (Runs.pickt rfl rfl) ?_
     refine G.r (Runs.move rfl) ?_
     refine G.split (d := 100) rfl (fun g100 => ?_) (fun g100 => ?_)
     ·refine G.eff (Wanted.on rfl rfl rfl) (Eff.call call42 rfl rfl (Awake17_ok (TabRd.fit hT Fit.m))) ?_
      rintro _ _ ⟨_, _, ⟨rfl, rfl⟩, rfl, rfl⟩
      refine G.r (Runs.pickt rfl rfl) ?_
      refine G.r (Runs.assign rfl) ?_
      refine G.nt ?_
      refine W.sub (L' := [(4, _)]) (Sub.cons rfl Sub.nil) ?_
      refine W.ret ?_
      exact V.ret1 rfl rfl (I) Fit.m ⟨rfl, rfl⟩
     ·exact absurd (parts_down hG (by omega) hrs11 hrs14) g100
    ·exact absurd (by rw [hrs17]; exact parts_cls hG (by omega) hrs11) g95

end Go.Sl
