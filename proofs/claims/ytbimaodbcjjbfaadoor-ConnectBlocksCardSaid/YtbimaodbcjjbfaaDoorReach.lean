/- A part of the proofs of statements of this seat: contracts of functions, and the plain laws that they lean on. No conditions. -/
import Derived.Test.YtbimaodbcjjbfaaDoorTab
/- What can be reached within a set of nodes, over rows of bits. No Go. No conditions. -/
namespace Go.Sl
set_option linter.unusedVariables false
set_option linter.unusedSimpArgs false
/-- The nodes that can be reached from f within w, step by step. -/
def reachL (rows : List (BitVec 64)) (w : BitVec 64) : Nat → BitVec 64 → BitVec 64 → BitVec 64
  | 0, _, frm => frm
  | n + 1, front, frm => if front = 0#64 then frm else reachL rows w n ((front &&& (front - 1#64)) ||| (at_ rows (tzB front) &&& w &&& ~~~frm)) (frm ||| (at_ rows (tzB front) &&& w &&& ~~~frm))
def reachB (rows : List (BitVec 64)) (f w : BitVec 64) : BitVec 64 := reachL rows w 64 (f &&& w) (f &&& w)
structure ReachI (rows : List (BitVec 64)) (f w front frm : BitVec 64) : Prop where
  start : ∀ i : Nat, (f &&& w).getLsbD i = true → frm.getLsbD i = true
  sub : ∀ i : Nat, frm.getLsbD i = true → w.getLsbD i = true
  fsub : ∀ i : Nat, front.getLsbD i = true → frm.getLsbD i = true
  closed : ∀ i j : Nat, frm.getLsbD i = true → front.getLsbD i = false → (at_ rows (i : Int)).getLsbD j = true → w.getLsbD j = true → frm.getLsbD j = true
  least : ∀ X : Nat → Prop, (∀ i : Nat, (f &&& w).getLsbD i = true → X i) → (∀ i j : Nat, X i → w.getLsbD i = true → (at_ rows (i : Int)).getLsbD j = true → w.getLsbD j = true → X j) → ∀ i : Nat, frm.getLsbD i = true → X i
structure ReachP (rows : List (BitVec 64)) (f w M : BitVec 64) : Prop where
  start : ∀ i : Nat, (f &&& w).getLsbD i = true → M.getLsbD i = true
  sub : ∀ i : Nat, M.getLsbD i = true → w.getLsbD i = true
  closed : ∀ i j : Nat, M.getLsbD i = true → (at_ rows (i : Int)).getLsbD j = true → w.getLsbD j = true → M.getLsbD j = true
  least : ∀ X : Nat → Prop, (∀ i : Nat, (f &&& w).getLsbD i = true → X i) → (∀ i j : Nat, X i → w.getLsbD i = true → (at_ rows (i : Int)).getLsbD j = true → w.getLsbD j = true → X j) → ∀ i : Nat, M.getLsbD i = true → X i
theorem ReachP.uniq {rows : List (BitVec 64)} {f w M N : BitVec 64} (h : ReachP rows f w M) (k : ReachP rows f w N) : M = N := by
  refine BitVec.eq_of_getLsbD_eq fun i _ => ?_
  have e1 := h.least (fun i => N.getLsbD i = true) k.start (fun i j a _ b c => k.closed i j a b c) i
  have e2 := k.least (fun i => M.getLsbD i = true) h.start (fun i j a _ b c => h.closed i j a b c) i
  cases h1 : M.getLsbD i <;> cases h2 : N.getLsbD i <;> simp_all
theorem ReachI.begin {rows : List (BitVec 64)} {f w : BitVec 64} : ReachI rows f w (f &&& w) (f &&& w) :=
  ⟨fun i h => h, fun i h => by rw [BitVec.getLsbD_and, Bool.and_eq_true] at h; exact h.2, fun i h => h, fun i j h h' => absurd h (by rw [h']; decide), fun X h _ i hi => h i hi⟩
theorem ReachI.done {rows : List (BitVec 64)} {f w M : BitVec 64} (h : ReachI rows f w 0#64 M) : ReachP rows f w M :=
  ⟨h.start, h.sub, fun i j a b c => h.closed i j a (by simp) b c, h.least⟩
def reachM (w front frm : BitVec 64) : Nat := (listN (w &&& ~~~(frm &&& ~~~front))).length
theorem listN_lt {a b : BitVec 64} (h : ∀ i : Nat, a.getLsbD i = true → b.getLsbD i = true) {k : Nat} (ha : a.getLsbD k = false) (hb : b.getLsbD k = true) : (listN a).length < (listN b).length := by
  have hn : (k :: listN a).Nodup := List.nodup_cons.2 ⟨fun hm => by { rw [mem_listN, ha] at hm; exact absurd hm (by decide) }, (listN_asc a).imp fun h => by omega⟩
  exact List.Nodup.length_le_of_subset hn fun i hi => by
    rcases List.mem_cons.1 hi with rfl | h1
    · exact mem_listN.2 hb
    · exact mem_listN.2 (h i (mem_listN.1 h1))
theorem ReachI.step {rows : List (BitVec 64)} {f w front frm : BitVec 64} (h : ReachI rows f w front frm) (hf : front ≠ 0#64) :
    ReachI rows f w ((front &&& (front - 1#64)) ||| (at_ rows (tzB front) &&& w &&& ~~~frm)) (frm ||| (at_ rows (tzB front) &&& w &&& ~~~frm)) ∧ reachM w ((front &&& (front - 1#64)) ||| (at_ rows (tzB front) &&& w &&& ~~~frm)) (frm ||| (at_ rows (tzB front) &&& w &&& ~~~frm)) < reachM w front frm := by
  obtain ⟨k, hk, hkb, hlt, he, hp⟩ := least_bit hf
  have htz : tzB front = (k : Int) := tzB_eq hf hk he
  rw [htz]
  have hf1 : ∀ i : Nat, (frm ||| (at_ rows (k : Int) &&& w &&& ~~~frm)).getLsbD i = true ↔ (frm.getLsbD i = true ∨ ((at_ rows (k : Int)).getLsbD i = true ∧ w.getLsbD i = true)) := fun i => by
    by_cases hi : i < 64
    · simp only [BitVec.getLsbD_or, BitVec.getLsbD_and, BitVec.getLsbD_not, hi, decide_true, Bool.true_and]
      cases frm.getLsbD i <;> simp
    · simp [BitVec.getLsbD_of_ge _ _ (show 64 ≤ i by omega)]
  have hf2 : ∀ i : Nat, ((front &&& (front - 1#64)) ||| (at_ rows (k : Int) &&& w &&& ~~~frm)).getLsbD i = true ↔ ((front.getLsbD i = true ∧ i ≠ k) ∨ ((at_ rows (k : Int)).getLsbD i = true ∧ w.getLsbD i = true ∧ frm.getLsbD i = false)) := fun i => by
    by_cases hi : i < 64
    · simp only [BitVec.getLsbD_or, BitVec.getLsbD_and, BitVec.getLsbD_not, hi, decide_true, Bool.true_and]
      have := hp i
      rw [BitVec.getLsbD_and] at this
      rw [this]
      cases frm.getLsbD i <;> simp
    · simp [BitVec.getLsbD_of_ge _ _ (show 64 ≤ i by omega)]
  have hkf := h.fsub k hkb
  have hkw := h.sub k hkf
  refine ⟨⟨fun i hi => (hf1 i).2 (.inl (h.start i hi)), fun i hi => ?_, fun i hi => ?_, fun i j hi hj hr hw => ?_, fun X h1 h2 i hi => ?_⟩, ?_⟩
  · rcases (hf1 i).1 hi with h1 | h1
    · exact h.sub i h1
    · exact h1.2
  · rcases (hf2 i).1 hi with h1 | h1
    · exact (hf1 i).2 (.inl (h.fsub i h1.1))
    · exact (hf1 i).2 (.inr ⟨h1.1, h1.2.1⟩)
  · have hn : ¬ ((front.getLsbD i = true ∧ i ≠ k) ∨ ((at_ rows (k : Int)).getLsbD i = true ∧ w.getLsbD i = true ∧ frm.getLsbD i = false)) := fun hh => by rw [(hf2 i).2 hh] at hj; cases hj
    by_cases hik : i = k
    · subst hik; exact (hf1 j).2 (.inr ⟨hr, hw⟩)
    · rcases (hf1 i).1 hi with h1 | h1
      · have h3 : front.getLsbD i = false := by
          cases h4 : front.getLsbD i
          · rfl
          · exact absurd (.inl ⟨h4, hik⟩) hn
        exact (hf1 j).2 (.inl (h.closed i j h1 h3 hr hw))
      · have h3 : frm.getLsbD i = true := by
          cases h4 : frm.getLsbD i
          · exact absurd (.inr ⟨h1.1, h1.2, h4⟩) hn
          · rfl
        have h3' : front.getLsbD i = false := by
          cases h4 : front.getLsbD i
          · rfl
          · exact absurd (.inl ⟨h4, hik⟩) hn
        exact (hf1 j).2 (.inl (h.closed i j h3 h3' hr hw))
  · rcases (hf1 i).1 hi with h3 | h3
    · exact h.least X h1 h2 i h3
    · exact h2 k i (h.least X h1 h2 k hkf) hkw h3.1 h3.2
  · unfold reachM
    have hx : ∀ (a b : BitVec 64) (i : Nat), (w &&& ~~~(b &&& ~~~a)).getLsbD i = true ↔ (w.getLsbD i = true ∧ ¬ (b.getLsbD i = true ∧ a.getLsbD i = false)) := fun a b i => by
      by_cases hi : i < 64
      · simp only [BitVec.getLsbD_and, BitVec.getLsbD_not, hi, decide_true, Bool.true_and]
        cases a.getLsbD i <;> cases b.getLsbD i <;> simp
      · simp [BitVec.getLsbD_of_ge _ _ (show 64 ≤ i by omega)]
    refine listN_lt (k := k) (fun i hi => ?_) ?_ ((hx _ _ _).2 ⟨hkw, fun hh => by rw [hkb] at hh; exact absurd hh.2 (by decide)⟩)
    · obtain ⟨h1, h2⟩ := (hx _ _ _).1 hi
      refine (hx _ _ _).2 ⟨h1, fun hh => h2 ⟨(hf1 i).2 (.inl hh.1), ?_⟩⟩
      cases h4 : ((front &&& (front - 1#64)) ||| (at_ rows (k : Int) &&& w &&& ~~~frm)).getLsbD i
      · rfl
      · rcases (hf2 i).1 h4 with h5 | h5
        · rw [hh.2] at h5; exact absurd h5.1 (by decide)
        · rw [hh.1] at h5; exact absurd h5.2.2 (by decide)
    · rw [← Bool.not_eq_true]
      intro hh
      refine ((hx _ _ _).1 hh).2 ⟨(hf1 k).2 (.inl hkf), ?_⟩
      cases h4 : ((front &&& (front - 1#64)) ||| (at_ rows (k : Int) &&& w &&& ~~~frm)).getLsbD k
      · rfl
      · rcases (hf2 k).1 h4 with h5 | h5
        · exact absurd rfl h5.2
        · rw [hkf] at h5; exact absurd h5.2.2 (by decide)
theorem ReachI.ends {rows : List (BitVec 64)} {f w : BitVec 64} : ∀ (n : Nat) (front frm : BitVec 64), ReachI rows f w front frm → reachM w front frm ≤ n → ReachP rows f w (reachL rows w n front frm)
  | 0, front, frm, h, hm => by
    have hz : front = 0#64 := Classical.byContradiction fun hf => by have := (h.step hf).2; omega
    subst hz; exact h.done
  | n + 1, front, frm, h, hm => by
    unfold reachL
    by_cases hf : front = 0#64
    · rw [if_pos hf]; subst hf; exact h.done
    · rw [if_neg hf]; exact ReachI.ends n _ _ (h.step hf).1 (by have := (h.step hf).2; omega)
theorem reachB_ok (rows : List (BitVec 64)) (f w : BitVec 64) : ReachP rows f w (reachB rows f w) := ReachI.ends 64 _ _ .begin (listN_len _)
theorem ReachI.eq {rows : List (BitVec 64)} {f w M : BitVec 64} (h : ReachI rows f w 0#64 M) : M = reachB rows f w := h.done.uniq (reachB_ok rows f w)
/-- Rows that go both ways. -/
def SymR (rows : List (BitVec 64)) : Prop := ∀ i j : Nat, (at_ rows (i : Int)).getLsbD j = (at_ rows (j : Int)).getLsbD i
def oneB (i : Nat) : BitVec 64 := 1#64 <<< i
theorem getLsb_oneB {i j : Nat} (hi : i < 64) : (oneB i).getLsbD j = true ↔ j = i := by
  unfold oneB
  rw [BitVec.getLsbD_shiftLeft]
  constructor
  · intro h
    simp only [Bool.and_eq_true, decide_eq_true_eq, Bool.not_eq_true', decide_eq_false_iff_not, BitVec.getLsbD_one] at h
    omega
  · rintro rfl; simp [hi]
/-- j is reached from i. -/
def Conn (rows : List (BitVec 64)) (w : BitVec 64) (i j : Nat) : Prop := i < 64 ∧ (reachB rows (oneB i) w).getLsbD j = true
instance {rows : List (BitVec 64)} {w : BitVec 64} {i j : Nat} : Decidable (Conn rows w i j) := inferInstanceAs (Decidable (_ ∧ _))
theorem Conn.refl {rows : List (BitVec 64)} {w : BitVec 64} {i : Nat} (h : w.getLsbD i = true) : Conn rows w i i := by
  have hi : i < 64 := Classical.byContradiction fun hn => by rw [BitVec.getLsbD_of_ge _ _ (by omega)] at h; cases h
  exact ⟨hi, (reachB_ok _ _ _).start i (by rw [BitVec.getLsbD_and, h, (getLsb_oneB hi).2 rfl]; rfl)⟩
theorem one_and {w : BitVec 64} {i k : Nat} (hi : i < 64) : (oneB i &&& w).getLsbD k = true ↔ k = i ∧ w.getLsbD k = true := by
  rw [BitVec.getLsbD_and, Bool.and_eq_true, getLsb_oneB hi]
theorem Conn.left {rows : List (BitVec 64)} {w : BitVec 64} {i j : Nat} (h : Conn rows w i j) : w.getLsbD i = true := by
  have h64 := h.1
  refine Classical.byContradiction fun hn => ?_
  have := (reachB_ok rows (oneB i) w).least (fun _ => False) (fun k hk => by obtain ⟨rfl, h1⟩ := (one_and h64).1 hk; exact hn h1) (fun _ _ a _ _ _ => a) j h.2
  exact this
theorem Conn.right {rows : List (BitVec 64)} {w : BitVec 64} {i j : Nat} (h : Conn rows w i j) : w.getLsbD j = true := (reachB_ok _ _ _).sub j h.2
theorem Conn.step {rows : List (BitVec 64)} {w : BitVec 64} {i j k : Nat} (h : Conn rows w i j) (hr : (at_ rows (j : Int)).getLsbD k = true) (hw : w.getLsbD k = true) : Conn rows w i k := ⟨h.1, (reachB_ok _ _ _).closed j k h.2 hr hw⟩
/-- Induction along the steps. -/
theorem Conn.ind {rows : List (BitVec 64)} {w : BitVec 64} {i : Nat} (X : Nat → Prop) (h0 : X i) (hs : ∀ j k : Nat, X j → Conn rows w i j → (at_ rows (j : Int)).getLsbD k = true → w.getLsbD k = true → X k) {j : Nat} (h : Conn rows w i j) : X j := by
  have := (reachB_ok rows (oneB i) w).least (fun j => X j ∧ Conn rows w i j) (fun k hk => by obtain ⟨rfl, h1⟩ := (one_and h.1).1 hk; exact ⟨h0, .refl h1⟩) (fun a b hab _ hr hw => ⟨hs a b hab.1 hab.2 hr hw, hab.2.step hr hw⟩) j h.2
  exact this.1
theorem Conn.trans {rows : List (BitVec 64)} {w : BitVec 64} {i j k : Nat} (h : Conn rows w i j) (h' : Conn rows w j k) : Conn rows w i k :=
  Conn.ind (fun k => Conn rows w i k) h (fun _ _ a _ hr hw => a.step hr hw) h'
theorem Conn.symm {rows : List (BitVec 64)} {w : BitVec 64} {i j : Nat} (hs : SymR rows) (h : Conn rows w i j) : Conn rows w j i :=
  Conn.ind (fun j => Conn rows w j i) (.refl h.left) (fun a b h1 h2 hr hw => (Conn.step (.refl hw) (by rw [← hs]; exact hr) h2.right).trans h1) h
/-- What is reached from a set is what is reached from one of its nodes. -/
theorem reach_iff {rows : List (BitVec 64)} {f w : BitVec 64} {j : Nat} : (reachB rows f w).getLsbD j = true ↔ ∃ i, f.getLsbD i = true ∧ Conn rows w i j := by
  constructor
  · intro h
    refine (reachB_ok rows f w).least (fun j => ∃ i, f.getLsbD i = true ∧ Conn rows w i j) (fun i hi => ?_) (fun a b ⟨i, h1, h2⟩ _ hr hw => ⟨i, h1, h2.step hr hw⟩) j h
    rw [BitVec.getLsbD_and, Bool.and_eq_true] at hi
    exact ⟨i, hi.1, .refl hi.2⟩
  · rintro ⟨i, h1, h2⟩
    refine Conn.ind (fun j => (reachB rows f w).getLsbD j = true) ((reachB_ok _ _ _).start i (by rw [BitVec.getLsbD_and, h1, h2.left]; rfl)) (fun a b h3 _ hr hw => (reachB_ok _ _ _).closed a b h3 hr hw) h2
theorem reach_conn {rows : List (BitVec 64)} (hs : SymR rows) {w : BitVec 64} {i j : Nat} (h : Conn rows w i j) : reachB rows (oneB i) w = reachB rows (oneB j) w := by
  refine BitVec.eq_of_getLsbD_eq fun k _ => ?_
  have e1 : (reachB rows (oneB i) w).getLsbD k = true → (reachB rows (oneB j) w).getLsbD k = true := fun h1 => ((h.symm hs).trans ⟨h.1, h1⟩).2
  have hj : j < 64 := (h.symm hs).1
  have e2 : (reachB rows (oneB j) w).getLsbD k = true → (reachB rows (oneB i) w).getLsbD k = true := fun h1 => (h.trans ⟨hj, h1⟩).2
  cases h1 : (reachB rows (oneB i) w).getLsbD k <;> cases h2 : (reachB rows (oneB j) w).getLsbD k <;> simp_all
end Go.Sl
