/- A part of the proofs of statements of this seat: contracts of functions, and the plain laws that they lean on. No conditions. -/
import Derived.Test.YtbimaodbcjjbfaaDoorLib
import Derived.ScopeJumps
import Derived.Test.YtbimaodbcjjbfaaDoorOps2
import Derived.Test.YtbimaodbcjjbfaaDoorTab
/- A scope with one label, to which the run jumps back. No conditions. -/
namespace Go.Sl
set_option linter.unusedVariables false
section
variable {P : Program} {κ : Ctx} {N : Nat} {Q : Exit → Act → World → Prop} {L : Env} {I : List Item}
theorem W.goto {l : Nat} (h : V κ N Q (.goto l) L I) : W P κ N (.goto l) Q L I := fun a w ha hs => wp_goto (h a w ha hs)
end
end Go.Sl
/- An owned slice cut short; rows that are owned. No conditions. -/
namespace Go.Sl
theorem D.fit {P : Program} {κ : Ctx} {N : Nat} {ops : Array Oper} {Q : Exit → Act → World → Prop} {I J H : List Item} {L : Env} {stop fuel : Nat} {listed : Array Bool} (hf : Fit κ I J) (h : D P κ N ops Q H stop fuel listed L J) : D P κ N ops Q H stop fuel listed L I := fun a w ha hs => h a w ha (hf w hs)
set_option linter.unusedVariables false
set_option linter.unusedSectionVars false
section
variable {α : Type} [Enc α] {κ : Ctx} {I : List Item}
theorem Fit.takevc {e : TypeId} {a : Option Addr} {n c k : Nat} {xs : List α} (hn : n = xs.length) : Fit κ (vc e (.slice a n c) xs :: I) (vc e (.slice a (xs.take k).length c) (xs.take k) :: I) := by
  subst hn
  refine Fit.upd (At.head _ _ _) fun w h => ⟨?_, fun j ⟨o, m, c', hv, hc⟩ => ?_⟩
  · obtain ⟨a', cap, hv, h1, h2, h3, h4⟩ := h
    cases hv
    refine ⟨a, c, rfl, cells_length _, by rw [List.length_take]; omega, h3, fun hc => ?_⟩
    obtain ⟨b, off, cur, ha, hb, h5, h6⟩ := h4 hc
    refine ⟨b, off, cur, ha, hb, h5, fun j u hj => h6 j u ?_⟩
    have e1 : cells xs = cells (xs.take k) ++ cells (xs.drop k) := by rw [← cells_append, List.take_append_drop]
    rw [e1, List.getElem?_append_left (List.getElem?_eq_some_iff.1 hj).1]; exact hj
  · cases hv; exact ⟨o, _, c, rfl, hc⟩
theorem sub_app {A l m : List Item} (h : List.Sublist l m) : List.Sublist l (A ++ m) := h.trans (List.sublist_append_right _ _)
/-- The rows' own slices. -/
def ownR (e : TypeId) (rs : List (RowG α)) : List Item := rs.map fun r => vc e (.slice r.a r.xs.length r.c) r.xs
theorem ownR_held {e : TypeId} {rs : List (RowG α)} : HeldAll κ (ownR e rs ++ I) rs := fun r hr => Sl.vec (List.mem_append_left _ (List.mem_map.2 ⟨r, hr, rfl⟩))
theorem ownR_in {e : TypeId} {rs : List (RowG α)} (h : ∀ x ∈ ownR e rs, x ∈ I) : HeldAll κ I rs := fun r hr => Sl.vec (h _ (List.mem_map.2 ⟨r, hr, rfl⟩))
theorem Fit.ownR_snoc {e : TypeId} {rs : List (RowG α)} {r : RowG α} {A : List Item} : Fit κ (A ++ vc e (.slice r.a r.xs.length r.c) r.xs :: (ownR e rs ++ I)) (A ++ (ownR e (rs ++ [r]) ++ I)) := by
  refine Fit.perm (List.Perm.append_left A ?_)
  have e1 : ownR e (rs ++ [r]) ++ I = ownR e rs ++ vc e (.slice r.a r.xs.length r.c) r.xs :: I := by simp [ownR]
  rw [e1]
  exact List.perm_middle.symm
theorem Fit.ownR_perm {e : TypeId} {rs ys : List (RowG α)} {A : List Item} (h : ys.Perm rs) : Fit κ (A ++ (ownR e rs ++ I)) (A ++ (ownR e ys ++ I)) :=
  Fit.perm (List.Perm.append_left A (List.Perm.append_right I (h.symm.map _)))
end
end Go.Sl
/- What can be reached within a set of nodes, over rows of bits. No Go. No conditions. -/
namespace Go.Sl
set_option linter.unusedVariables false
set_option linter.unusedSimpArgs false
/-- The nodes that can be reached from f within w, step by step. -/
def reachL (rows : List (BitVec 64)) (w : BitVec 64) : Nat → BitVec 64 → BitVec 64 → BitVec 64
  | 0, _, frm => frm
  | n + 1, front, frm => if front = 0#64 then frm else reachL rows w n ((front &&& (front - 1#64)) ||| (at_ rows (tzB front) &&& w &&& ~~~frm)) (frm ||| (at_ rows (tzB front) &&& w &&& ~~~frm))
def reachB (rows : List (BitVec 64)) (f w : BitVec 64) : BitVec 64 := reachL rows w 64 (f &&& w) (f &&& w)
structure ReachI (rows : List (BitVec 64)) (f w front frm : BitVec 64) : Prop where
  start : ∀ i : Nat, (f &&& w).getLsbD i = true → frm.getLsbD i = true
  sub : ∀ i : Nat, frm.getLsbD i = true → w.getLsbD i = true
  fsub : ∀ i : Nat, front.getLsbD i = true → frm.getLsbD i = true
  closed : ∀ i j : Nat, frm.getLsbD i = true → front.getLsbD i = false → (at_ rows (i : Int)).getLsbD j = true → w.getLsbD j = true → frm.getLsbD j = true
  least : ∀ X : Nat → Prop, (∀ i : Nat, (f &&& w).getLsbD i = true → X i) → (∀ i j : Nat, X i → w.getLsbD i = true → (at_ rows (i : Int)).getLsbD j = true → w.getLsbD j = true → X j) → ∀ i : Nat, frm.getLsbD i = true → X i
structure ReachP (rows : List (BitVec 64)) (f w M : BitVec 64) : Prop where
  start : ∀ i : Nat, (f &&& w).getLsbD i = true → M.getLsbD i = true
  sub : ∀ i : Nat, M.getLsbD i = true → w.getLsbD i = true
  closed : ∀ i j : Nat, M.getLsbD i = true → (at_ rows (i : Int)).getLsbD j = true → w.getLsbD j = true → M.getLsbD j = true
  least : ∀ X : Nat → Prop, (∀ i : Nat, (f &&& w).getLsbD i = true → X i) → (∀ i j : Nat, X i → w.getLsbD i = true → (at_ rows (i : Int)).getLsbD j = true → w.getLsbD j = true → X j) → ∀ i : Nat, M.getLsbD i = true → X i
theorem ReachP.uniq {rows : List (BitVec 64)} {f w M N : BitVec 64} (h : ReachP rows f w M) (k : ReachP rows f w N) : M = N := by
  refine BitVec.eq_of_getLsbD_eq fun i _ => ?_
  have e1 := h.least (fun i => N.getLsbD i = true) k.start (fun i j a _ b c => k.closed i j a b c) i
  have e2 := k.least (fun i => M.getLsbD i = true) h.start (fun i j a _ b c => h.closed i j a b c) i
  cases h1 : M.getLsbD i <;> cases h2 : N.getLsbD i <;> simp_all
theorem ReachI.begin {rows : List (BitVec 64)} {f w : BitVec 64} : ReachI rows f w (f &&& w) (f &&& w) :=
  ⟨fun i h => h, fun i h => by rw [BitVec.getLsbD_and, Bool.and_eq_true] at h; exact h.2, fun i h => h, fun i j h h' => absurd h (by rw [h']; decide), fun X h _ i hi => h i hi⟩
theorem ReachI.done {rows : List (BitVec 64)} {f w M : BitVec 64} (h : ReachI rows f w 0#64 M) : ReachP rows f w M :=
  ⟨h.start, h.sub, fun i j a b c => h.closed i j a (by simp) b c, h.least⟩
def reachM (w front frm : BitVec 64) : Nat := (listN (w &&& ~~~(frm &&& ~~~front))).length
theorem listN_lt {a b : BitVec 64} (h : ∀ i : Nat, a.getLsbD i = true → b.getLsbD i = true) {k : Nat} (ha : a.getLsbD k = false) (hb : b.getLsbD k = true) : (listN a).length < (listN b).length := by
  have hn : (k :: listN a).Nodup := List.nodup_cons.2 ⟨fun hm => by { rw [mem_listN, ha] at hm; exact absurd hm (by decide) }, (listN_asc a).imp fun h => by omega⟩
  exact List.Nodup.length_le_of_subset hn fun i hi => by
    rcases List.mem_cons.1 hi with rfl | h1
    · exact mem_listN.2 hb
    · exact mem_listN.2 (h i (mem_listN.1 h1))
theorem ReachI.step {rows : List (BitVec 64)} {f w front frm : BitVec 64} (h : ReachI rows f w front frm) (hf : front ≠ 0#64) :
    ReachI rows f w ((front &&& (front - 1#64)) ||| (at_ rows (tzB front) &&& w &&& ~~~frm)) (frm ||| (at_ rows (tzB front) &&& w &&& ~~~frm)) ∧ reachM w ((front &&& (front - 1#64)) ||| (at_ rows (tzB front) &&& w &&& ~~~frm)) (frm ||| (at_ rows (tzB front) &&& w &&& ~~~frm)) < reachM w front frm := by
  obtain ⟨k, hk, hkb, hlt, he, hp⟩ := least_bit hf
  have htz : tzB front = (k : Int) := tzB_eq hf hk he
  rw [htz]
  have hf1 : ∀ i : Nat, (frm ||| (at_ rows (k : Int) &&& w &&& ~~~frm)).getLsbD i = true ↔ (frm.getLsbD i = true ∨ ((at_ rows (k : Int)).getLsbD i = true ∧ w.getLsbD i = true)) := fun i => by
    by_cases hi : i < 64
    · simp only [BitVec.getLsbD_or, BitVec.getLsbD_and, BitVec.getLsbD_not, hi, decide_true, Bool.true_and]
      cases frm.getLsbD i <;> simp
    · simp [BitVec.getLsbD_of_ge _ _ (show 64 ≤ i by omega)]
  have hf2 : ∀ i : Nat, ((front &&& (front - 1#64)) ||| (at_ rows (k : Int) &&& w &&& ~~~frm)).getLsbD i = true ↔ ((front.getLsbD i = true ∧ i ≠ k) ∨ ((at_ rows (k : Int)).getLsbD i = true ∧ w.getLsbD i = true ∧ frm.getLsbD i = false)) := fun i => by
    by_cases hi : i < 64
    · simp only [BitVec.getLsbD_or, BitVec.getLsbD_and, BitVec.getLsbD_not, hi, decide_true, Bool.true_and]
      have := hp i
      rw [BitVec.getLsbD_and] at this
      rw [this]
      cases frm.getLsbD i <;> simp
    · simp [BitVec.getLsbD_of_ge _ _ (show 64 ≤ i by omega)]
  have hkf := h.fsub k hkb
  have hkw := h.sub k hkf
  refine ⟨⟨fun i hi => (hf1 i).2 (.inl (h.start i hi)), fun i hi => ?_, fun i hi => ?_, fun i j hi hj hr hw => ?_, fun X h1 h2 i hi => ?_⟩, ?_⟩
  · rcases (hf1 i).1 hi with h1 | h1
    · exact h.sub i h1
    · exact h1.2
  · rcases (hf2 i).1 hi with h1 | h1
    · exact (hf1 i).2 (.inl (h.fsub i h1.1))
    · exact (hf1 i).2 (.inr ⟨h1.1, h1.2.1⟩)
  · have hn : ¬ ((front.getLsbD i = true ∧ i ≠ k) ∨ ((at_ rows (k : Int)).getLsbD i = true ∧ w.getLsbD i = true ∧ frm.getLsbD i = false)) := fun hh => by rw [(hf2 i).2 hh] at hj; cases hj
    by_cases hik : i = k
    · subst hik; exact (hf1 j).2 (.inr ⟨hr, hw⟩)
    · rcases (hf1 i).1 hi with h1 | h1
      · have h3 : front.getLsbD i = false := by
          cases h4 : front.getLsbD i
          · rfl
          · exact absurd (.inl ⟨h4, hik⟩) hn
        exact (hf1 j).2 (.inl (h.closed i j h1 h3 hr hw))
      · have h3 : frm.getLsbD i = true := by
          cases h4 : frm.getLsbD i
          · exact absurd (.inr ⟨h1.1, h1.2, h4⟩) hn
          · rfl
        have h3' : front.getLsbD i = false := by
          cases h4 : front.getLsbD i
          · rfl
          · exact absurd (.inl ⟨h4, hik⟩) hn
        exact (hf1 j).2 (.inl (h.closed i j h3 h3' hr hw))
  · rcases (hf1 i).1 hi with h3 | h3
    · exact h.least X h1 h2 i h3
    · exact h2 k i (h.least X h1 h2 k hkf) hkw h3.1 h3.2
  · unfold reachM
    have hx : ∀ (a b : BitVec 64) (i : Nat), (w &&& ~~~(b &&& ~~~a)).getLsbD i = true ↔ (w.getLsbD i = true ∧ ¬ (b.getLsbD i = true ∧ a.getLsbD i = false)) := fun a b i => by
      by_cases hi : i < 64
      · simp only [BitVec.getLsbD_and, BitVec.getLsbD_not, hi, decide_true, Bool.true_and]
        cases a.getLsbD i <;> cases b.getLsbD i <;> simp
      · simp [BitVec.getLsbD_of_ge _ _ (show 64 ≤ i by omega)]
    refine listN_lt (k := k) (fun i hi => ?_) ?_ ((hx _ _ _).2 ⟨hkw, fun hh => by rw [hkb] at hh; exact absurd hh.2 (by decide)⟩)
    · obtain ⟨h1, h2⟩ := (hx _ _ _).1 hi
      refine (hx _ _ _).2 ⟨h1, fun hh => h2 ⟨(hf1 i).2 (.inl hh.1), ?_⟩⟩
      cases h4 : ((front &&& (front - 1#64)) ||| (at_ rows (k : Int) &&& w &&& ~~~frm)).getLsbD i
      · rfl
      · rcases (hf2 i).1 h4 with h5 | h5
        · rw [hh.2] at h5; exact absurd h5.1 (by decide)
        · rw [hh.1] at h5; exact absurd h5.2.2 (by decide)
    · rw [← Bool.not_eq_true]
      intro hh
      refine ((hx _ _ _).1 hh).2 ⟨(hf1 k).2 (.inl hkf), ?_⟩
      cases h4 : ((front &&& (front - 1#64)) ||| (at_ rows (k : Int) &&& w &&& ~~~frm)).getLsbD k
      · rfl
      · rcases (hf2 k).1 h4 with h5 | h5
        · exact absurd rfl h5.2
        · rw [hkf] at h5; exact absurd h5.2.2 (by decide)
theorem ReachI.ends {rows : List (BitVec 64)} {f w : BitVec 64} : ∀ (n : Nat) (front frm : BitVec 64), ReachI rows f w front frm → reachM w front frm ≤ n → ReachP rows f w (reachL rows w n front frm)
  | 0, front, frm, h, hm => by
    have hz : front = 0#64 := Classical.byContradiction fun hf => by have := (h.step hf).2; omega
    subst hz; exact h.done
  | n + 1, front, frm, h, hm => by
    unfold reachL
    by_cases hf : front = 0#64
    · rw [if_pos hf]; subst hf; exact h.done
    · rw [if_neg hf]; exact ReachI.ends n _ _ (h.step hf).1 (by have := (h.step hf).2; omega)
theorem reachB_ok (rows : List (BitVec 64)) (f w : BitVec 64) : ReachP rows f w (reachB rows f w) := ReachI.ends 64 _ _ .begin (listN_len _)
theorem ReachI.eq {rows : List (BitVec 64)} {f w M : BitVec 64} (h : ReachI rows f w 0#64 M) : M = reachB rows f w := h.done.uniq (reachB_ok rows f w)
/-- Rows that go both ways. -/
def SymR (rows : List (BitVec 64)) : Prop := ∀ i j : Nat, (at_ rows (i : Int)).getLsbD j = (at_ rows (j : Int)).getLsbD i
def oneB (i : Nat) : BitVec 64 := 1#64 <<< i
theorem getLsb_oneB {i j : Nat} (hi : i < 64) : (oneB i).getLsbD j = true ↔ j = i := by
  unfold oneB
  rw [BitVec.getLsbD_shiftLeft]
  constructor
  · intro h
    simp only [Bool.and_eq_true, decide_eq_true_eq, Bool.not_eq_true', decide_eq_false_iff_not, BitVec.getLsbD_one] at h
    omega
  · rintro rfl; simp [hi]
/-- j is reached from i. -/
def Conn (rows : List (BitVec 64)) (w : BitVec 64) (i j : Nat) : Prop := i < 64 ∧ (reachB rows (oneB i) w).getLsbD j = true
instance {rows : List (BitVec 64)} {w : BitVec 64} {i j : Nat} : Decidable (Conn rows w i j) := inferInstanceAs (Decidable (_ ∧ _))
theorem Conn.refl {rows : List (BitVec 64)} {w : BitVec 64} {i : Nat} (h : w.getLsbD i = true) : Conn rows w i i := by
  have hi : i < 64 := Classical.byContradiction fun hn => by rw [BitVec.getLsbD_of_ge _ _ (by omega)] at h; cases h
  exact ⟨hi, (reachB_ok _ _ _).start i (by rw [BitVec.getLsbD_and, h, (getLsb_oneB hi).2 rfl]; rfl)⟩
theorem one_and {w : BitVec 64} {i k : Nat} (hi : i < 64) : (oneB i &&& w).getLsbD k = true ↔ k = i ∧ w.getLsbD k = true := by
  rw [BitVec.getLsbD_and, Bool.and_eq_true, getLsb_oneB hi]
theorem Conn.left {rows : List (BitVec 64)} {w : BitVec 64} {i j : Nat} (h : Conn rows w i j) : w.getLsbD i = true := by
  have h64 := h.1
  refine Classical.byContradiction fun hn => ?_
  have := (reachB_ok rows (oneB i) w).least (fun _ => False) (fun k hk => by obtain ⟨rfl, h1⟩ := (one_and h64).1 hk; exact hn h1) (fun _ _ a _ _ _ => a) j h.2
  exact this
theorem Conn.right {rows : List (BitVec 64)} {w : BitVec 64} {i j : Nat} (h : Conn rows w i j) : w.getLsbD j = true := (reachB_ok _ _ _).sub j h.2
theorem Conn.step {rows : List (BitVec 64)} {w : BitVec 64} {i j k : Nat} (h : Conn rows w i j) (hr : (at_ rows (j : Int)).getLsbD k = true) (hw : w.getLsbD k = true) : Conn rows w i k := ⟨h.1, (reachB_ok _ _ _).closed j k h.2 hr hw⟩
/-- Induction along the steps. -/
theorem Conn.ind {rows : List (BitVec 64)} {w : BitVec 64} {i : Nat} (X : Nat → Prop) (h0 : X i) (hs : ∀ j k : Nat, X j → Conn rows w i j → (at_ rows (j : Int)).getLsbD k = true → w.getLsbD k = true → X k) {j : Nat} (h : Conn rows w i j) : X j := by
  have := (reachB_ok rows (oneB i) w).least (fun j => X j ∧ Conn rows w i j) (fun k hk => by obtain ⟨rfl, h1⟩ := (one_and h.1).1 hk; exact ⟨h0, .refl h1⟩) (fun a b hab _ hr hw => ⟨hs a b hab.1 hab.2 hr hw, hab.2.step hr hw⟩) j h.2
  exact this.1
theorem Conn.trans {rows : List (BitVec 64)} {w : BitVec 64} {i j k : Nat} (h : Conn rows w i j) (h' : Conn rows w j k) : Conn rows w i k :=
  Conn.ind (fun k => Conn rows w i k) h (fun _ _ a _ hr hw => a.step hr hw) h'
theorem Conn.symm {rows : List (BitVec 64)} {w : BitVec 64} {i j : Nat} (hs : SymR rows) (h : Conn rows w i j) : Conn rows w j i :=
  Conn.ind (fun j => Conn rows w j i) (.refl h.left) (fun a b h1 h2 hr hw => (Conn.step (.refl hw) (by rw [← hs]; exact hr) h2.right).trans h1) h
/-- What is reached from a set is what is reached from one of its nodes. -/
theorem reach_iff {rows : List (BitVec 64)} {f w : BitVec 64} {j : Nat} : (reachB rows f w).getLsbD j = true ↔ ∃ i, f.getLsbD i = true ∧ Conn rows w i j := by
  constructor
  · intro h
    refine (reachB_ok rows f w).least (fun j => ∃ i, f.getLsbD i = true ∧ Conn rows w i j) (fun i hi => ?_) (fun a b ⟨i, h1, h2⟩ _ hr hw => ⟨i, h1, h2.step hr hw⟩) j h
    rw [BitVec.getLsbD_and, Bool.and_eq_true] at hi
    exact ⟨i, hi.1, .refl hi.2⟩
  · rintro ⟨i, h1, h2⟩
    refine Conn.ind (fun j => (reachB rows f w).getLsbD j = true) ((reachB_ok _ _ _).start i (by rw [BitVec.getLsbD_and, h1, h2.left]; rfl)) (fun a b h3 _ hr hw => (reachB_ok _ _ _).closed a b h3 hr hw) h2
theorem reach_conn {rows : List (BitVec 64)} (hs : SymR rows) {w : BitVec 64} {i j : Nat} (h : Conn rows w i j) : reachB rows (oneB i) w = reachB rows (oneB j) w := by
  refine BitVec.eq_of_getLsbD_eq fun k _ => ?_
  have e1 : (reachB rows (oneB i) w).getLsbD k = true → (reachB rows (oneB j) w).getLsbD k = true := fun h1 => ((h.symm hs).trans ⟨h.1, h1⟩).2
  have hj : j < 64 := (h.symm hs).1
  have e2 : (reachB rows (oneB j) w).getLsbD k = true → (reachB rows (oneB i) w).getLsbD k = true := fun h1 => (h.trans ⟨hj, h1⟩).2
  cases h1 : (reachB rows (oneB i) w).getLsbD k <;> cases h2 : (reachB rows (oneB j) w).getLsbD k <;> simp_all
end Go.Sl
/- Groups of nodes that are reached from one another. No Go. No conditions. -/
namespace Go.Sl
set_option linter.unusedVariables false
set_option linter.unusedSimpArgs false
def groupsL (rows : List (BitVec 64)) (w : BitVec 64) : Nat → BitVec 64 → List (BitVec 64)
  | 0, _ => []
  | n + 1, left => if left = 0#64 then [] else reachB rows (left &&& (-left)) w :: groupsL rows w n (left &&& ~~~(reachB rows (left &&& (-left)) w))
theorem groupsL_zero {rows : List (BitVec 64)} {w : BitVec 64} : ∀ n, groupsL rows w n 0#64 = []
  | 0 => rfl
  | n + 1 => by unfold groupsL; rw [if_pos rfl]
theorem groupsL_succ {rows : List (BitVec 64)} {w left : BitVec 64} (h : left ≠ 0#64) (n : Nat) : groupsL rows w (n + 1) left = reachB rows (left &&& (-left)) w :: groupsL rows w n (left &&& ~~~(reachB rows (left &&& (-left)) w)) := by
  conv => lhs; unfold groupsL
  rw [if_neg h]
def groupsB (rows : List (BitVec 64)) (w : BitVec 64) : List (BitVec 64) := groupsL rows w 64 w
theorem getLsb_minus {a b : BitVec 64} {i : Nat} : (a &&& ~~~b).getLsbD i = true ↔ a.getLsbD i = true ∧ b.getLsbD i = false := by
  by_cases hi : i < 64
  · simp only [BitVec.getLsbD_and, BitVec.getLsbD_not, hi, decide_true, Bool.true_and, Bool.and_eq_true]
    cases b.getLsbD i <;> simp
  · simp [BitVec.getLsbD_of_ge _ _ (show 64 ≤ i by omega)]
/-- The first node that is left: it lies in the group that it begins. -/
theorem left_first {rows : List (BitVec 64)} {w left : BitVec 64} (h : left ≠ 0#64) (hs : ∀ i : Nat, left.getLsbD i = true → w.getLsbD i = true) :
    ∃ k : Nat, k < 64 ∧ tzB left = (k : Int) ∧ left.getLsbD k = true ∧ (∀ j, j < k → left.getLsbD j = false) ∧ left &&& (-left) = oneB k ∧ (reachB rows (oneB k) w).getLsbD k = true := by
  obtain ⟨k, hk, hkb, hlt, he, hp⟩ := least_bit h
  exact ⟨k, hk, tzB_eq h hk he, hkb, hlt, he, (Conn.refl (hs k hkb)).2⟩
theorem groups_less {rows : List (BitVec 64)} {w left : BitVec 64} (h : left ≠ 0#64) (hs : ∀ i : Nat, left.getLsbD i = true → w.getLsbD i = true) : (listN (left &&& ~~~(reachB rows (left &&& (-left)) w))).length < (listN left).length := by
  obtain ⟨k, hk, _, hkb, _, he, hr⟩ := left_first (rows := rows) h hs
  rw [he]
  refine listN_lt (k := k) (fun i hi => (getLsb_minus.1 hi).1) ?_ hkb
  rw [← Bool.not_eq_true]
  intro hh
  rw [(getLsb_minus.1 hh).2] at hr; cases hr
/-- What is left is made of whole groups. -/
def Whole (rows : List (BitVec 64)) (w left : BitVec 64) : Prop := (∀ i : Nat, left.getLsbD i = true → w.getLsbD i = true) ∧ ∀ i j : Nat, left.getLsbD i = true → Conn rows w i j → left.getLsbD j = true
theorem Whole.all {rows : List (BitVec 64)} {w : BitVec 64} : Whole rows w w := ⟨fun _ h => h, fun _ _ _ h => h.right⟩
theorem Whole.rest {rows : List (BitVec 64)} {w left : BitVec 64} (hs : SymR rows) (h : Whole rows w left) (k : Nat) : Whole rows w (left &&& ~~~(reachB rows (oneB k) w)) := by
  refine ⟨fun i hi => h.1 i (getLsb_minus.1 hi).1, fun i j hi hc => ?_⟩
  obtain ⟨h1, h2⟩ := getLsb_minus.1 hi
  refine getLsb_minus.2 ⟨h.2 i j h1 hc, ?_⟩
  rw [← Bool.not_eq_true]
  intro hj
  by_cases hk : k < 64
  · have : Conn rows w k i := Conn.trans ⟨hk, hj⟩ (hc.symm hs)
    have h3 := this.2
    rw [h2] at h3; cases h3
  · have hz : oneB k = 0#64 := by unfold oneB; exact BitVec.shiftLeft_eq_zero (by omega)
    rw [hz] at hj
    obtain ⟨a, ha, _⟩ := reach_iff.1 hj
    simp at ha
theorem listN_split {a m : BitVec 64} (h : ∀ i : Nat, m.getLsbD i = true → a.getLsbD i = true) : (listN a).Perm (listN m ++ listN (a &&& ~~~m)) := by
  refine (List.perm_ext_iff_of_nodup ((listN_asc a).imp fun h => by omega) ?_).2 fun i => ?_
  · rw [List.nodup_append]
    refine ⟨(listN_asc m).imp fun h => by omega, (listN_asc _).imp fun h => by omega, fun i hi j hj hij => ?_⟩
    subst hij
    rw [mem_listN] at hi hj
    rw [(getLsb_minus.1 hj).2] at hi; cases hi
  · rw [List.mem_append, mem_listN, mem_listN, mem_listN, getLsb_minus]
    constructor
    · intro hi
      cases hm : m.getLsbD i
      · exact .inr ⟨hi, rfl⟩
      · exact .inl rfl
    · rintro (hi | hi)
      · exact h i hi
      · exact hi.1
theorem listB_split {a m : BitVec 64} (h : ∀ i : Nat, m.getLsbD i = true → a.getLsbD i = true) : (listB a).Perm (listB m ++ listB (a &&& ~~~m)) := by
  unfold listB
  rw [← List.map_append]
  exact (listN_split h).map _
theorem groups_sub {rows : List (BitVec 64)} {w left : BitVec 64} (h : Whole rows w left) {k : Nat} (hk : left.getLsbD k = true) (i : Nat) (hi : (reachB rows (oneB k) w).getLsbD i = true) : left.getLsbD i = true := by
  have h64 : k < 64 := Classical.byContradiction fun hn => by rw [BitVec.getLsbD_of_ge _ _ (by omega)] at hk; cases hk
  exact h.2 k i hk ⟨h64, hi⟩
theorem groups_perm {rows : List (BitVec 64)} {w : BitVec 64} (hs : SymR rows) : ∀ (n : Nat) (left : BitVec 64), Whole rows w left → (listN left).length ≤ n → ((groupsL rows w n left).map listB).flatten.Perm (listB left)
  | 0, left, h, hn => by
    have : listN left = [] := List.eq_nil_of_length_eq_zero (by omega)
    unfold groupsL listB; rw [this]; exact .refl _
  | n + 1, left, h, hn => by
    by_cases hz : left = 0#64
    · subst hz; rw [groupsL_zero, listB_zero]; exact .refl _
    · have hl := groups_less (rows := rows) hz h.1
      rw [groupsL_succ hz]
      obtain ⟨k, hk, _, hkb, _, he, hr⟩ := left_first (rows := rows) hz h.1
      rw [he] at hl ⊢
      refine List.Perm.trans ?_ (listB_split (groups_sub h hkb)).symm
      simp only [List.map_cons, List.flatten_cons]
      exact List.Perm.append_left _ (groups_perm hs n _ (h.rest hs k) (by omega))
/-- Each group is what is reached from any of its nodes. -/
theorem groups_mem {rows : List (BitVec 64)} {w : BitVec 64} (hs : SymR rows) : ∀ (n : Nat) (left : BitVec 64), Whole rows w left → ∀ m ∈ groupsL rows w n left, m ≠ 0#64 ∧ ∃ k : Nat, k < 64 ∧ left.getLsbD k = true ∧ m = reachB rows (oneB k) w
  | 0, left, h, m, hm => by cases hm
  | n + 1, left, h, m, hm => by
    by_cases hz : left = 0#64
    · subst hz; rw [groupsL_zero] at hm; cases hm
    · rw [groupsL_succ hz] at hm
      obtain ⟨k, hk, _, hkb, _, he, hr⟩ := left_first (rows := rows) hz h.1
      rw [he] at hm
      rcases List.mem_cons.1 hm with rfl | hm
      · exact ⟨fun e => by rw [e] at hr; simp at hr, k, hk, hkb, rfl⟩
      · obtain ⟨h1, j, hj, hjb, e⟩ := groups_mem hs n _ (h.rest hs k) m hm
        exact ⟨h1, j, hj, (getLsb_minus.1 hjb).1, e⟩
def isMin (rows : List (BitVec 64)) (w : BitVec 64) (i : Nat) : Bool := decide (tzB (reachB rows (oneB i) w) = (i : Int))
theorem filter_one {l : List Nat} (hl : l.Nodup) {p : Nat → Bool} {k : Nat} (hk : k ∈ l) (h : ∀ i ∈ l, p i = true ↔ i = k) : (l.filter p).length = 1 := by
  have : l.filter p = [k] := by
    refine List.Perm.eq_singleton ((List.perm_ext_iff_of_nodup (hl.filter _) (by simp)).2 fun i => ?_)
    rw [List.mem_filter, List.mem_singleton]
    exact ⟨fun hi => (h i hi.1).1 hi.2, fun e => by subst e; exact ⟨hk, (h i hk).2 rfl⟩⟩
  rw [this]; rfl
theorem groups_count {rows : List (BitVec 64)} {w : BitVec 64} (hs : SymR rows) : ∀ (n : Nat) (left : BitVec 64), Whole rows w left → (listN left).length ≤ n → (groupsL rows w n left).length = ((listN left).filter (isMin rows w)).length
  | 0, left, h, hn => by
    have : listN left = [] := List.eq_nil_of_length_eq_zero (by omega)
    unfold groupsL; rw [this]; rfl
  | n + 1, left, h, hn => by
    by_cases hz : left = 0#64
    · subst hz; rw [groupsL_zero, listN_zero]; rfl
    · have hl := groups_less (rows := rows) hz h.1
      rw [groupsL_succ hz]
      obtain ⟨k, hk, htz, hkb, hlt, he, hr⟩ := left_first (rows := rows) hz h.1
      rw [he] at hl ⊢
      have hp := (listN_split (groups_sub h hkb)).filter (isMin rows w)
      have hone : ((listN (reachB rows (oneB k) w)).filter (isMin rows w)).length = 1 := by
        refine filter_one ((listN_asc _).imp fun h => by omega) (mem_listN.2 hr) fun i hi => ?_
        rw [mem_listN] at hi
        have hc : Conn rows w k i := ⟨hk, hi⟩
        unfold isMin
        rw [decide_eq_true_eq, ← reach_conn hs hc]
        have hm : reachB rows (oneB k) w ≠ 0#64 := fun e => by rw [e] at hr; simp at hr
        obtain ⟨j, hj, hjb, hjl, hje, _⟩ := least_bit hm
        rw [tzB_eq hm hj hje]
        have hjk : j = k := by
          refine Nat.le_antisymm (Nat.not_lt.1 fun hh => ?_) (Nat.not_lt.1 fun hh => ?_)
          · rw [hjl k hh] at hr; cases hr
          · have := groups_sub h hkb j hjb
            rw [hlt j hh] at this; cases this
        omega
      rw [List.length_cons, hp.length_eq, List.filter_append, List.length_append, hone, groups_count hs n _ (h.rest hs k) (by omega)]
      omega
theorem groups_len {rows : List (BitVec 64)} {w : BitVec 64} (hs : SymR rows) : (groupsB rows w).length = ((listN w).filter (isMin rows w)).length := groups_count hs 64 w .all (listN_len w)
theorem isMin_iff {rows : List (BitVec 64)} {w : BitVec 64} (hs : SymR rows) {i : Nat} (hw : w.getLsbD i = true) : isMin rows w i = true ↔ ∀ j, Conn rows w i j → i ≤ j := by
  have hi : i < 64 := Classical.byContradiction fun hn => by rw [BitVec.getLsbD_of_ge _ _ (by omega)] at hw; cases hw
  have hr := (Conn.refl (rows := rows) hw).2
  have hm : reachB rows (oneB i) w ≠ 0#64 := fun e => by rw [e] at hr; simp at hr
  obtain ⟨j, hj, hjb, hjl, hje, _⟩ := least_bit hm
  unfold isMin
  rw [decide_eq_true_eq, tzB_eq hm hj hje]
  constructor
  · intro e k hk
    refine Nat.not_lt.1 fun hh => ?_
    have h1 := hjl k (by omega)
    have h2 := hk.2
    rw [h1] at h2; cases h2
  · intro h
    have h1 := h j ⟨hi, hjb⟩
    have h2 : ¬ i < j := fun hh => by rw [hjl i hh] at hr; cases hr
    omega
/-- One more edge. -/
structure EdgeMore (rows rows' : List (BitVec 64)) (u v : Nat) : Prop where
  row : ∀ i j : Nat, (at_ rows' (i : Int)).getLsbD j = true ↔ ((at_ rows (i : Int)).getLsbD j = true ∨ (i = u ∧ j = v) ∨ (i = v ∧ j = u))
theorem EdgeMore.conn {rows rows' : List (BitVec 64)} {w : BitVec 64} {u v : Nat} (h : EdgeMore rows rows' u v) (hs : SymR rows) (hu : w.getLsbD u = true) (hv : w.getLsbD v = true) {i j : Nat} :
    Conn rows' w i j ↔ (Conn rows w i j ∨ (Conn rows w i u ∧ Conn rows w v j) ∨ (Conn rows w i v ∧ Conn rows w u j)) := by
  have hup : ∀ {i j : Nat}, Conn rows w i j → Conn rows' w i j := fun {i j} hc => Conn.ind (fun j => Conn rows' w i j) (.refl hc.left) (fun a b h1 _ hr hw => h1.step ((h.row a b).2 (.inl hr)) hw) hc
  constructor
  · intro hc
    refine Conn.ind (fun j => Conn rows w i j ∨ (Conn rows w i u ∧ Conn rows w v j) ∨ (Conn rows w i v ∧ Conn rows w u j)) (.inl (.refl hc.left)) (fun a b h1 _ hr hw => ?_) hc
    rcases (h.row a b).1 hr with h2 | ⟨rfl, rfl⟩ | ⟨rfl, rfl⟩
    · rcases h1 with h3 | h3 | h3
      · exact .inl (h3.step h2 hw)
      · exact .inr (.inl ⟨h3.1, h3.2.step h2 hw⟩)
      · exact .inr (.inr ⟨h3.1, h3.2.step h2 hw⟩)
    · rcases h1 with h3 | h3 | h3
      · exact .inr (.inl ⟨h3, .refl hw⟩)
      · exact .inr (.inl ⟨h3.1, .refl hw⟩)
      · exact .inl h3.1
    · rcases h1 with h3 | h3 | h3
      · exact .inr (.inr ⟨h3, .refl hw⟩)
      · exact .inl h3.1
      · exact .inr (.inr ⟨h3.1, .refl hw⟩)
  · have huv : Conn rows' w u v := (Conn.refl hu).step ((h.row u v).2 (.inr (.inl ⟨rfl, rfl⟩))) hv
    have hvu : Conn rows' w v u := (Conn.refl hv).step ((h.row v u).2 (.inr (.inr ⟨rfl, rfl⟩))) hu
    rintro (h1 | h1 | h1)
    · exact hup h1
    · exact ((hup h1.1).trans huv).trans (hup h1.2)
    · exact ((hup h1.1).trans hvu).trans (hup h1.2)
theorem EdgeMore.sym {rows rows' : List (BitVec 64)} {u v : Nat} (h : EdgeMore rows rows' u v) (hs : SymR rows) : SymR rows' := fun i j => by
  rw [Bool.eq_iff_iff, h.row, h.row, hs i j]
  exact ⟨fun h => h.imp id fun h => h.elim (fun h => .inr ⟨h.2, h.1⟩) fun h => .inl ⟨h.2, h.1⟩, fun h => h.imp id fun h => h.elim (fun h => .inr ⟨h.2, h.1⟩) fun h => .inl ⟨h.2, h.1⟩⟩
theorem EdgeMore.same {rows rows' : List (BitVec 64)} {w : BitVec 64} {u v : Nat} (h : EdgeMore rows rows' u v) (hs : SymR rows) (hu : w.getLsbD u = true) (hv : w.getLsbD v = true) (hj : Conn rows w u v) : (groupsB rows' w).length = (groupsB rows w).length := by
  rw [groups_len hs, groups_len (h.sym hs)]
  congr 1
  refine List.filter_congr fun i hi => ?_
  rw [mem_listN] at hi
  have key : ∀ j, Conn rows' w i j ↔ Conn rows w i j := fun j => by
    rw [h.conn hs hu hv]
    constructor
    · rintro (h1 | h1 | h1)
      · exact h1
      · exact (h1.1.trans hj).trans h1.2
      · exact (h1.1.trans (hj.symm hs)).trans h1.2
    · exact .inl
  have e1 := isMin_iff (h.sym hs) hi
  have e2 := isMin_iff hs hi
  have e3 : (∀ j, Conn rows' w i j → i ≤ j) ↔ (∀ j, Conn rows w i j → i ≤ j) := ⟨fun hh j hc => hh j ((key j).2 hc), fun hh j hc => hh j ((key j).1 hc)⟩
  rw [e3, ← e2] at e1
  cases h1 : isMin rows' w i <;> cases h2 : isMin rows w i <;> simp_all
theorem exists_min {rows : List (BitVec 64)} {w : BitVec 64} (hs : SymR rows) {u : Nat} (hu : w.getLsbD u = true) : ∃ a, Conn rows w u a ∧ ∀ j, Conn rows w u j → a ≤ j := by
  have hr := (Conn.refl (rows := rows) hu).2
  have h64 := (Conn.refl (rows := rows) hu).1
  have hm : reachB rows (oneB u) w ≠ 0#64 := fun e => by rw [e] at hr; simp at hr
  obtain ⟨a, ha, hab, hal, _, _⟩ := least_bit hm
  exact ⟨a, ⟨h64, hab⟩, fun j hj => Nat.not_lt.1 fun hh => by have := hj.2; rw [hal j hh] at this; cases this⟩
theorem EdgeMore.less {rows rows' : List (BitVec 64)} {w : BitVec 64} {u v : Nat} (h : EdgeMore rows rows' u v) (hs : SymR rows) (hu : w.getLsbD u = true) (hv : w.getLsbD v = true) (hj : ¬ Conn rows w u v) : (groupsB rows' w).length + 1 = (groupsB rows w).length := by
  rw [groups_len hs, groups_len (h.sym hs)]
  obtain ⟨a, ha, hal⟩ := exists_min hs hu
  obtain ⟨b, hb, hbl⟩ := exists_min hs hv
  have hab : a ≠ b := fun e => by subst e; exact hj (ha.trans (hb.symm hs))
  have hwa := ha.right
  have hwb := hb.right
  have key : ∀ i : Nat, w.getLsbD i = true → (isMin rows' w i = true ↔ isMin rows w i = true ∧ i ≠ max a b) := fun i hi => by
    rw [isMin_iff (h.sym hs) hi, isMin_iff hs hi]
    constructor
    · intro hh
      refine ⟨fun j hc => hh j ((h.conn hs hu hv).2 (.inl hc)), fun e => ?_⟩
      subst e
      rcases Nat.le_total a b with hle | hle
      · have e : max a b = b := Nat.max_eq_right hle
        rw [e] at hh
        have := hh a ((h.conn hs hu hv).2 (.inr (.inr ⟨hb.symm hs, ha⟩)))
        omega
      · have e : max a b = a := Nat.max_eq_left hle
        rw [e] at hh
        have := hh b ((h.conn hs hu hv).2 (.inr (.inl ⟨ha.symm hs, hb⟩)))
        omega
    · rintro ⟨h1, h2⟩ j hc
      rcases (h.conn hs hu hv).1 hc with h3 | h3 | h3
      · exact h1 j h3
      · have e1 : i = a := Nat.le_antisymm (h1 a (h3.1.trans ha)) (hal i (h3.1.symm hs))
        have := hbl j h3.2
        omega
      · have e1 : i = b := Nat.le_antisymm (h1 b (h3.1.trans hb)) (hbl i (h3.1.symm hs))
        have := hal j h3.2
        omega
  have hmx : w.getLsbD (max a b) = true := by
    rcases Nat.le_total a b with hle | hle
    · rw [Nat.max_eq_right hle]; exact hwb
    · rw [Nat.max_eq_left hle]; exact hwa
  have hmm : isMin rows w (max a b) = true := by
    rw [isMin_iff hs hmx]
    intro j hc
    rcases Nat.le_total a b with hle | hle
    · rw [Nat.max_eq_right hle] at hc ⊢; exact hbl j (hb.trans hc)
    · rw [Nat.max_eq_left hle] at hc ⊢; exact hal j (ha.trans hc)
  have hp : ((listN w).filter (isMin rows w)).Perm (max a b :: (listN w).filter (isMin rows' w)) := by
    have hn : (listN w).Nodup := (listN_asc w).imp fun h => by omega
    refine (List.perm_ext_iff_of_nodup (hn.filter _) (List.nodup_cons.2 ⟨fun hm => ?_, hn.filter _⟩)).2 fun i => ?_
    · have := List.mem_filter.1 hm
      exact ((key _ hmx).1 this.2).2 rfl
    · rw [List.mem_cons, List.mem_filter, List.mem_filter, mem_listN]
      constructor
      · rintro ⟨h1, h2⟩
        by_cases e : i = max a b
        · exact .inl e
        · exact .inr ⟨h1, (key i h1).2 ⟨h2, e⟩⟩
      · rintro (rfl | ⟨h1, h2⟩)
        · exact ⟨hmx, hmm⟩
        · exact ⟨h1, ((key i h1).1 h2).1⟩
  rw [hp.length_eq, List.length_cons]
end Go.Sl
