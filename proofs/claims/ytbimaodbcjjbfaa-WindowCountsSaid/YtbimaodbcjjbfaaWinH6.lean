/- A part of the proofs of statements of this seat: contracts of functions, and the plain laws that they lean on. No conditions. -/
import Derived.Test.YtbimaodbcjjbfaaWinF6
import Derived.Test.YtbimaodbcjjbfaaWinD6
import Derived.Test.YtbimaodbcjjbfaaWinC5
/- Windows: what a stream with cuts leads to. The plain laws. No Go. No conditions. -/
namespace Go.Sl
set_option linter.unusedVariables false
set_option linter.unusedSectionVars false
/-! ### Ageing, seen from outside -/
theorem ageL_ind {wd mo T : Int} {P : List Lk → List Ev → Prop} (hs : ∀ xs out, (0 < xs.length ∧ minT xs + wd ≤ T) → P xs out → P (xs.filter (inW 2 wd mo (minT xs + wd) xs)) (out ++ goneL 2 wd mo (minT xs + wd) xs)) :
    ∀ (n : Nat) (xs : List Lk) (out : List Ev), xs.length ≤ n → P xs out → P (ageL wd mo T xs out).1 (ageL wd mo T xs out).2 ∧ ¬ (0 < (ageL wd mo T xs out).1.length ∧ minT (ageL wd mo T xs out).1 + wd ≤ T)
  | n, xs, out, hn, hP => by
    by_cases h : 0 < xs.length ∧ minT xs + wd ≤ T
    · rw [ageL_step h]
      have hl : (xs.filter (inW 2 wd mo (minT xs + wd) xs)).length < xs.length := age_less h.1
      cases n with
      | zero => omega
      | succ n => exact ageL_ind hs n _ _ (by omega) (hs xs out h hP)
    · rw [ageL_stop h]; exact ⟨hP, h⟩
/-- What is set is set among the ones that stay, too. -/
theorem setL_filter {n : Lk} {P : Lk → Bool} (hn : P n = true) {xs : List Lk} (ha : xs.Pairwise Lk.lt) : setL n (xs.filter P) = (setL n xs).filter P := by
  induction xs with
  | nil => simp [setL, hn]
  | cons l ls ih =>
    obtain ⟨h1, h2⟩ := List.pairwise_cons.1 ha
    have hlt : ∀ {z : Lk}, (z.p = n.p ∨ Lk.lt n z) → (∀ x ∈ ls, Lk.lt z x) → setL n (ls.filter P) = n :: ls.filter P := fun {z} hz hx => by
      cases hf : ls.filter P with
      | nil => rfl
      | cons y ys =>
        have hy : Lk.lt z y := hx y (List.mem_filter.1 (by rw [hf]; exact List.mem_cons_self)).1
        unfold setL
        rw [if_pos]
        rcases hz with hz | hz
        · unfold Lk.lt at hy ⊢; rw [← hz]; exact hy
        · exact Pt.lin.tr _ _ _ hz hy
    conv => rhs; unfold setL
    by_cases hl : Lk.lt n l
    · rw [if_pos hl, show (n :: l :: ls).filter P = n :: (l :: ls).filter P by rw [List.filter_cons, if_pos hn]]
      by_cases hp : P l = true
      · rw [show (l :: ls).filter P = l :: ls.filter P by rw [List.filter_cons, if_pos hp]]; unfold setL; rw [if_pos hl]
      · rw [show (l :: ls).filter P = ls.filter P by rw [List.filter_cons, if_neg hp]]; exact hlt (.inr hl) h1
    · rw [if_neg hl]
      by_cases he : l.p = n.p
      · rw [if_pos he, List.filter_cons, List.filter_cons, if_pos hn]
        by_cases hp : P l = true
        · rw [if_pos hp]; unfold setL; rw [if_neg hl, if_pos he]
        · rw [if_neg hp]; exact hlt (.inl he) h1
      · rw [if_neg he, List.filter_cons, List.filter_cons]
        by_cases hp : P l = true
        · rw [if_pos hp, if_pos hp]; conv => lhs; unfold setL
          rw [if_neg hl, if_neg he, ih h2]
        · rw [if_neg hp, if_neg hp]; exact ih h2
theorem stepL_filter {e : Ev} {P : Lk → Bool} (hn : P (lkOf e) = true) {xs : List Lk} (ha : xs.Pairwise Lk.lt) : stepL (xs.filter P) e = (stepL xs e).filter P := by
  unfold stepL
  by_cases h : e.kd = 1
  · rw [if_pos h, if_pos h]; exact setL_filter hn ha
  · rw [if_neg h, if_neg h, List.filter_filter, List.filter_filter]
    exact List.filter_congr fun x _ => Bool.and_comm _ _
theorem pw_all {α : Type} {R : α → α → Prop} (h : ∀ a c, R a c) : ∀ l : List α, l.Pairwise R
  | [] => .nil
  | x :: xs => List.pairwise_cons.2 ⟨fun y _ => h x y, pw_all h xs⟩
def aliveB (wd T : Int) (x : Lk) : Bool := decide (T - x.tm < wd)
theorem inW_alive (wd mo T : Int) (ys xs : List Lk) : xs.filter (inW 2 wd mo T ys) = xs.filter (aliveB wd T) := List.filter_congr fun x _ => inW2 wd mo T ys x
theorem alive_two {wd t T : Int} (h : t ≤ T) (xs : List Lk) : (xs.filter (aliveB wd t)).filter (aliveB wd T) = xs.filter (aliveB wd T) := by
  rw [List.filter_filter]
  refine List.filter_congr fun x _ => ?_
  unfold aliveB
  by_cases h1 : T - x.tm < wd
  · rw [decide_eq_true h1, decide_eq_true (show t - x.tm < wd by omega)]; rfl
  · rw [decide_eq_false h1]; rfl
/-! ### By age -/
structure AgB (nd wd last T : Int) (m : Nat) (all xs : List Lk) (out : List Ev) : Prop where
  inv : SlI nd 2 wd last xs
  st : xs = out.foldl stepL []
  fit : ∀ e ∈ out, FitOk nd e
  asc : out.Pairwise fun a b => a.tm ≤ b.tm
  le : ∀ e ∈ out, e.tm ≤ T
  bef : ∀ e ∈ out, ∀ x ∈ xs, e.tm ≤ x.tm + wd
  al : xs.filter (aliveB wd T) = all.filter (aliveB wd T)
  sum : xs.length + out.length ≤ m
theorem AgB.step {nd wd mo last T : Int} {m : Nat} {all xs : List Lk} {out : List Ev} (h : AgB nd wd last T m all xs out) (h0 : 0 ≤ last) (hT : T ≤ 1048576) (hs : 0 < xs.length ∧ minT xs + wd ≤ T) :
    AgB nd wd last T m all (xs.filter (inW 2 wd mo (minT xs + wd) xs)) (out ++ goneL 2 wd mo (minT xs + wd) xs) := by
  have hf := h.inv.first rfl hs.1
  obtain ⟨⟨x0, hx0, e0⟩, hmin⟩ := minT_spec hs.1
  refine ⟨h.inv.filter _, ?_, fun e he => ?_, List.pairwise_append.2 ⟨h.asc, ?_, fun a ha c hc => ?_⟩, fun e he => ?_, fun e he x hx => ?_, ?_, ?_⟩
  · rw [List.foldl_append, ← h.st, gone_steps h.inv.val]
  · rcases List.mem_append.1 he with he | he
    · exact h.fit e he
    · exact gone_fit h.inv.val (by omega) e he
  · unfold goneL
    rw [List.pairwise_map]
    exact pw_all (fun a c => Int.le_refl _) _
  · unfold goneL at hc
    obtain ⟨z, hz, rfl⟩ := List.mem_map.1 hc
    show a.tm ≤ minT xs + wd
    rw [e0]; exact h.bef a ha x0 hx0
  · rcases List.mem_append.1 he with he | he
    · exact h.le e he
    · unfold goneL at he
      obtain ⟨z, hz, rfl⟩ := List.mem_map.1 he
      exact hs.2
  · obtain ⟨hx1, hx2⟩ := List.mem_filter.1 hx
    rcases List.mem_append.1 he with he | he
    · exact h.bef e he x hx1
    · unfold goneL at he
      obtain ⟨z, hz, rfl⟩ := List.mem_map.1 he
      rw [inW2] at hx2
      have := of_decide_eq_true hx2
      show minT xs + wd ≤ x.tm + wd
      omega
  · rw [inW_alive, alive_two hs.2, h.al]
  · have h1 := gone_len 2 wd mo (minT xs + wd) xs
    have h2 := h.sum
    rw [List.length_append]; omega
theorem AgB.aged {nd wd mo last T : Int} {m : Nat} {all xs : List Lk} {out : List Ev} (h : AgB nd wd last T m all xs out) (h0 : 0 ≤ last) (hl : last ≤ T) (hT : T ≤ 1048576) :
    AgB nd wd T T m all (ageL wd mo T xs out).1 (ageL wd mo T xs out).2 := by
  obtain ⟨h1, h2⟩ := ageL_ind (mo := mo) (P := fun xs out => AgB nd wd last T m all xs out) (fun xs out hs hP => hP.step h0 hT hs) xs.length xs out (Nat.le_refl _) h
  exact { h1 with inv := h1.inv.later hl fun _ => h2 }
/-- What holds behind k events of a stream that slides by age. -/
structure BehB (nd wd : Int) (es : List Ev) (k : Nat) (s : List Lk × List Ev) : Prop where
  inv : SlI nd 2 wd (lastT es k) s.1
  st : s.1 = s.2.foldl stepL []
  fit : ∀ e ∈ s.2, FitOk nd e
  asc : s.2.Pairwise fun a b => a.tm ≤ b.tm
  le : ∀ e ∈ s.2, e.tm ≤ lastT es k
  al : s.1 = ((es.take k).foldl stepL []).filter (aliveB wd (lastT es k))
  sum : s.1.length + s.2.length ≤ 2 * k
theorem filter_alive {nd wd T : Int} {xs : List Lk} (h : SlI nd 2 wd T xs) : xs.filter (aliveB wd T) = xs := List.filter_eq_self.2 fun x hx => by
  have := h.al rfl x hx
  unfold aliveB
  exact decide_eq_true (by omega)
theorem steps_val {nd : Int} (h0 : 0 ≤ nd ∧ nd ≤ 64) : ∀ (es : List Ev) (xs : List Lk), checkS nd xs = 0 → (∀ e ∈ es, FitOk nd e) → checkS nd (es.foldl stepL xs) = 0
  | [], xs, hx, _ => hx
  | e :: es, xs, hx, he => steps_val h0 es (stepL xs e) (stepL_val hx (he e List.mem_cons_self)) fun y hy => he y (List.mem_cons_of_mem _ hy)
theorem valNil {nd : Int} (h0 : 0 ≤ nd ∧ nd ≤ 64) : checkS nd [] = 0 := (SlI.nil (kd := 1) (wd := 0) (last := 0) h0).val
theorem StOk.mem {nd : Int} {es : List Ev} (h : StOk nd es) : ∀ e ∈ es, FitOk nd e := fun e he => by
  obtain ⟨j, hj, rfl⟩ := mem_at he
  exact h.fit j hj
theorem BehB.all {nd wd mo : Int} {es : List Ev} (h : StOk nd es) (hw : 1 ≤ wd) : ∀ k, k ≤ es.length → BehB nd wd es k (slideS 2 wd mo (es.take k))
  | 0, _ => ⟨SlI.nil h.nodes, rfl, fun e he => (by cases he), List.Pairwise.nil, fun e he => (by cases he), rfl, Nat.le_refl _⟩
  | k + 1, hk => by
    have ih := BehB.all (mo := mo) h hw k (by omega)
    have hfe := h.fit k (by omega)
    have hto := h.asc k (by omega)
    have h0 : 0 ≤ lastT es k := by
      cases k with
      | zero => exact Int.le_refl _
      | succ k => rw [lastT_succ]; exact (h.fit k (by omega)).tm.1
    rw [slideS_succ (by omega)]
    generalize hs : slideS 2 wd mo (es.take k) = s at ih ⊢
    generalize hee : at_ es (k : Int) = e at hfe hto ⊢
    obtain ⟨xs, out⟩ := s
    have hA : AgB nd wd (lastT es k) e.tm (2 * k) ((es.take k).foldl stepL []) xs out :=
      ⟨ih.inv, ih.st, ih.fit, ih.asc, fun e' he' => by have := ih.le e' he'; omega, fun e' he' x hx => by have h1 := ih.le e' he'; have h2 := ih.inv.al rfl x hx; omega, by
        have := ih.al
        simp only at this
        rw [this, alive_two hto], ih.sum⟩
    have hG := hA.aged (mo := mo) h0 hto hfe.tm.2
    have hev : evStep 2 wd mo (xs, out) e = (stepL (ageL wd mo e.tm xs out).1 e, (ageL wd mo e.tm xs out).2 ++ [e]) := rfl
    rw [hev]
    generalize ageL wd mo e.tm xs out = a at hG
    have hlt : lastT es (k + 1) = e.tm := by rw [lastT_succ, hee]
    have hI := hG.inv.step hfe rfl (fun _ => hw)
    have hall : checkS nd ((es.take k).foldl stepL []) = 0 := steps_val h.nodes _ _ (valNil h.nodes) fun x hx => h.mem x (List.mem_of_mem_take hx)
    refine ⟨by rw [hlt]; exact hI, ?_, fun x hx => ?_, List.pairwise_append.2 ⟨hG.asc, List.pairwise_singleton _ _, fun x hx y hy => ?_⟩, fun x hx => ?_, ?_, ?_⟩
    · simp only; rw [List.foldl_append, ← hG.st]; rfl
    · rcases List.mem_append.1 hx with hx | hx
      · exact hG.fit x hx
      · rw [List.mem_singleton.1 hx]; exact hfe
    · rw [List.mem_singleton.1 hy]; exact hG.le x hx
    · rw [hlt]
      rcases List.mem_append.1 hx with hx | hx
      · exact hG.le x hx
      · rw [List.mem_singleton.1 hx]; exact Int.le_refl _
    · simp only
      have hal : aliveB wd e.tm (lkOf e) = true := by unfold aliveB; exact decide_eq_true (by show e.tm - e.tm < wd; omega)
      rw [hlt, steps_succ (by omega), hee, ← stepL_filter hal (checkS_ok hall).2.2, ← hG.al, filter_alive hG.inv]
    · have h1 := stepL_len a.1 e
      have h2 := hG.sum
      simp only [List.length_append, List.length_cons, List.length_nil]; omega
/-! ### By number -/
theorem last_of : ∀ (K : List Lk), K ≠ [] → K.Pairwise Lk.lt → ∃ z ∈ K, ∀ y ∈ K, y = z ∨ Lk.late y z
  | [], h, _ => absurd rfl h
  | [x], _, _ => ⟨x, List.mem_cons_self, fun y hy => .inl (by simpa using hy)⟩
  | x :: y :: ys, _, hp => by
    obtain ⟨h1, h2⟩ := List.pairwise_cons.1 hp
    obtain ⟨z, hz, hh⟩ := last_of (y :: ys) (by simp) h2
    have hxz := h1 z hz
    by_cases hl : Lk.late x z
    · exact ⟨z, List.mem_cons_of_mem _ hz, fun w hw => by
        rcases List.mem_cons.1 hw with rfl | hw
        · exact .inr hl
        · exact hh w hw⟩
    · have hl' : Lk.late z x := by unfold Lk.late Lk.lt Pt.lt at *; omega
      refine ⟨x, List.mem_cons_self, fun w hw => ?_⟩
      rcases List.mem_cons.1 hw with rfl | hw
      · exact .inl rfl
      · rcases hh w hw with rfl | hwz
        · exact .inr hl'
        · right; unfold Lk.late Lk.lt Pt.lt at *; omega
theorem one_eq {z : Lk} : ∀ (K : List Lk), K.Pairwise Lk.lt → (K.filter fun y => decide (y = z)).length ≤ 1
  | [], _ => by simp
  | x :: xs, h => by
    obtain ⟨h1, h2⟩ := List.pairwise_cons.1 h
    rw [List.filter_cons]
    by_cases hx : x = z
    · rw [if_pos (by simpa using hx), List.filter_eq_nil_iff.2 fun y hy => ?_]
      · simp
      · intro hd
        have hyz : y = z := of_decide_eq_true hd
        have := h1 y hy
        rw [hx, hyz] at this
        exact Pt.lin.irr _ this
    · rw [if_neg (by simpa using hx)]; exact one_eq xs h2
theorem filt_two (P R : Lk → Bool) : ∀ K : List Lk, (∀ y ∈ K, P y = true ∨ R y = true) → K.length ≤ (K.filter P).length + (K.filter R).length
  | [], _ => by simp
  | x :: xs, h => by
    have ih := filt_two P R xs fun y hy => h y (List.mem_cons_of_mem _ hy)
    have hx := h x List.mem_cons_self
    simp only [List.filter_cons, List.length_cons]
    cases hP : P x <;> cases hR : R x <;> simp_all <;> omega
theorem filt_len {P : Lk → Bool} {K xs : List Lk} (h : K.Sublist xs) : (K.filter P).length ≤ (xs.filter P).length := (h.filter P).length_le
/-- Not more links than that are the last ones by number. -/
theorem last_len {wd mo nw : Int} {xs : List Lk} (ha : xs.Pairwise Lk.lt) (hm : 0 ≤ mo) : ((xs.filter (inW 3 wd mo nw xs)).length : Int) ≤ mo := by
  generalize hK : xs.filter (inW 3 wd mo nw xs) = K
  have hsub : K.Sublist xs := by rw [← hK]; exact List.filter_sublist
  have haK := ha.sublist hsub
  by_cases h0 : K = []
  · rw [h0]; simpa using hm
  · obtain ⟨z, hz, hl⟩ := last_of K h0 haK
    have h1 := filt_two (fun y => decide (Lk.late y z)) (fun y => decide (y = z)) K fun y hy => by
      rcases hl y hy with h | h
      · exact .inr (decide_eq_true h)
      · exact .inl (decide_eq_true h)
    have h2 := one_eq (z := z) K haK
    have h3 := filt_len (P := fun y => decide (Lk.late y z)) hsub
    have h4 : inW 3 wd mo nw xs z = true := by rw [← hK] at hz; exact (List.mem_filter.1 hz).2
    unfold inW at h4
    rw [if_neg (by decide), if_pos rfl] at h4
    have h5 := of_decide_eq_true h4
    unfold rankL at h5
    omega
structure CntB (nd mo : Int) (es : List Ev) (k : Nat) (s : List Lk × List Ev) : Prop where
  inv : SlI nd 3 0 (lastT es k) s.1
  st : s.1 = s.2.foldl stepL []
  fit : ∀ e ∈ s.2, FitOk nd e
  len : (s.1.length : Int) ≤ mo
  sum : s.1.length + s.2.length ≤ 2 * k
theorem evStep3 {wd mo : Int} (s : List Lk × List Ev) (e : Ev) : evStep 3 wd mo s e = ((stepL s.1 e).filter (inW 3 wd mo e.tm (stepL s.1 e)), s.2 ++ [e] ++ goneL 3 wd mo e.tm (stepL s.1 e)) := rfl
theorem CntB.all {nd mo : Int} {es : List Ev} (h : StOk nd es) (hm : 0 ≤ mo) : ∀ k, k ≤ es.length → CntB nd mo es k (slideS 3 0 mo (es.take k))
  | 0, _ => ⟨SlI.nil h.nodes, rfl, fun e he => (by cases he), hm, Nat.le_refl _⟩
  | k + 1, hk => by
    have ih := CntB.all h hm k (by omega)
    have hfe := h.fit k (by omega)
    have hto := h.asc k (by omega)
    rw [slideS_succ (by omega), evStep3]
    generalize slideS 3 0 mo (es.take k) = s at ih ⊢
    generalize hee : at_ es (k : Int) = e at hfe hto ⊢
    have hlt : lastT es (k + 1) = e.tm := by rw [lastT_succ, hee]
    have hI := (ih.inv.later hto (fun h => absurd h (by decide))).step hfe rfl (fun h => absurd h (by decide))
    have hgl := gone_len 3 0 mo e.tm (stepL s.1 e)
    have hsl := stepL_len s.1 e
    have hsum := ih.sum
    refine ⟨by rw [hlt]; exact hI.filter _, ?_, fun x hx => ?_, last_len (checkS_ok hI.val).2.2 hm, ?_⟩
    · simp only; rw [List.foldl_append, List.foldl_append, ← ih.st, ← gone_steps hI.val]; rfl
    · rcases List.mem_append.1 hx with hx | hx
      · rcases List.mem_append.1 hx with hx | hx
        · exact ih.fit x hx
        · rw [List.mem_singleton.1 hx]; exact hfe
      · exact gone_fit hI.val hfe.tm x hx
    · simp only [List.length_append, List.length_cons, List.length_nil]; omega
theorem cnt_prefix {wd mo : Int} {es : List Ev} : ∀ m k : Nat, k + m = es.length → (slideS 3 wd mo (es.take k)).2 <+: (slideS 3 wd mo es).2
  | 0, k, h => by rw [show es.take k = es from List.take_of_length_le (by omega)]; exact List.prefix_rfl
  | m + 1, k, h => by
    have ih := cnt_prefix (wd := wd) (mo := mo) (es := es) m (k + 1) (by omega)
    refine List.IsPrefix.trans ?_ ih
    rw [slideS_succ (by omega), evStep3, List.append_assoc]
    exact List.prefix_append _ _
theorem cnt_take {wd mo : Int} {es : List Ev} {k : Nat} (hk : k ≤ es.length) : (slideS 3 wd mo (es.take k)).2.length ≤ (slideS 3 wd mo es).2.length ∧ (slideS 3 wd mo (es.take k)).2 = (slideS 3 wd mo es).2.take (slideS 3 wd mo (es.take k)).2.length := by
  have h := cnt_prefix (wd := wd) (mo := mo) (es := es) (es.length - k) k (by omega)
  exact ⟨h.length_le, List.prefix_iff_eq_take.1 h⟩
/-! ### All -/
/-! ### For the laws' walks -/
theorem StOk.up {nd : Int} {es : List Ev} (h : StOk nd es) : ∀ k, k ≤ es.length → ∀ j, j < k → (at_ es (j : Int)).tm ≤ lastT es k
  | 0, _, j, hj => absurd hj (Nat.not_lt_zero _)
  | k + 1, hk, j, hj => by
    rw [lastT_succ]
    rcases Nat.lt_succ_iff_lt_or_eq.1 hj with hj | rfl
    · exact Int.le_trans (h.up k (by omega) j hj) (h.asc k (by omega))
    · exact Int.le_refl _
theorem at_takeN {es : List Ev} {m j : Nat} (hj : j < m) (hl : j < es.length) : at_ (es.take m) (j : Int) = at_ es (j : Int) := by
  rw [at_get _ j (by rw [List.length_take]; omega), at_get es j hl, List.getElem_take]
theorem StOk.take {nd : Int} {es : List Ev} (h : StOk nd es) (m : Nat) : StOk nd (es.take m) := by
  have hl : ∀ j, j < (es.take m).length → j < m ∧ j < es.length := fun j hj => by rw [List.length_take] at hj; omega
  refine ⟨h.nodes, by have := h.len; rw [List.length_take]; omega, fun j hj => ?_, fun j hj => ?_⟩
  · rw [at_takeN (hl j hj).1 (hl j hj).2]; exact h.fit j (hl j hj).2
  · rw [at_takeN (hl j hj).1 (hl j hj).2]
    have h1 := h.asc j (hl j hj).2
    have h2 := hl j hj
    unfold lastT at h1 ⊢
    split
    · rename_i h0; rw [if_pos h0] at h1; exact h1
    · rename_i h0
      rw [if_neg h0, show (j : Int) - 1 = ((j - 1 : Nat) : Int) by omega] at h1
      rw [show (j : Int) - 1 = ((j - 1 : Nat) : Int) by omega, at_takeN (by omega) (by omega)]; exact h1
end Go.Sl
namespace Go.Sl
open Go.Proofs
set_option linter.unusedVariables false
set_option linter.unusedSimpArgs false
set_option maxRecDepth 4000
theorem evmod {s x N : Int} (h1 : 0 ≤ s) (h2 : s < N) (h3 : 0 ≤ x) (h4 : x < N - 1) : (0 ≤ Int.tmod (s + 1 + x) N ∧ Int.tmod (s + 1 + x) N < N) ∧ s ≠ Int.tmod (s + 1 + x) N := by
  rw [Int.tmod_eq_emod_of_nonneg (by omega)]
  by_cases h : s + 1 + x < N
  · rw [Int.emod_eq_of_lt (by omega) h]; omega
  · rw [show s + 1 + x = (s + 1 + x - N) + N by omega, Int.add_emod_right, Int.emod_eq_of_lt (by omega) (by omega)]; omega
theorem fit_mk {n kd tm u v w lb sg : Int} (hk : 1 ≤ kd ∧ kd ≤ 3) (ht : 0 ≤ tm ∧ tm ≤ 1048576) (hu : 0 ≤ u ∧ u < n) (hn : n ≤ 64) (hv : kd = 3 → v = 0) (hv2 : kd ≠ 3 → (0 ≤ v ∧ v < n) ∧ u ≠ v) (hr : kd = 1 → rightW w lb sg) (hz : kd ≠ 1 → w = 0 ∧ lb = 0 ∧ sg = 0) : FitOk n ⟨kd, tm, u, v, w, lb, sg⟩ :=
  ⟨hk, ht, ⟨by show 0 ≤ u ∧ u < 64; omega, hv, fun h => by have := hv2 h; show (0 ≤ v ∧ v < 64) ∧ u ≠ v; omega⟩, hr, by
    show u < n ∧ v < n
    by_cases h : kd = 3
    · have := hv h; omega
    · have := hv2 h; omega, hz⟩
/-- Events that were made, up to a time. -/
structure EvOk (n tt : Int) (es : List Ev) : Prop where
  fit : ∀ e ∈ es, FitOk n e
  tm : ∀ e ∈ es, e.tm ≤ tt
  asc : ∀ j : Nat, j < es.length → lastT es j ≤ (at_ es (j : Int)).tm
theorem EvOk.nil {n tt : Int} : EvOk n tt [] := ⟨fun e h => (by cases h), fun e h => (by cases h), fun j h => absurd h (Nat.not_lt_zero _)⟩
theorem EvOk.later {n tt ty : Int} {es : List Ev} (h : EvOk n tt es) (ht : tt ≤ ty) : EvOk n ty es := ⟨h.fit, fun e he => by have := h.tm e he; omega, h.asc⟩
theorem EvOk.push {n tt : Int} {es : List Ev} {e : Ev} (h : EvOk n tt es) (hf : FitOk n e) (ht : e.tm = tt) : EvOk n tt (es ++ [e]) := by
  refine ⟨fun x hx => ?_, fun x hx => ?_, fun j hj => ?_⟩
  · rcases List.mem_append.1 hx with hx | hx
    · exact h.fit x hx
    · rw [List.mem_singleton.1 hx]; exact hf
  · rcases List.mem_append.1 hx with hx | hx
    · exact h.tm x hx
    · rw [List.mem_singleton.1 hx]; omega
  · have hl : lastT (es ++ [e]) j = lastT es j := by
      unfold lastT
      split
      · rfl
      · rw [List.length_append, List.length_singleton] at hj
        rw [show (j : Int) - 1 = ((j - 1 : Nat) : Int) by omega, at_append_left es [e] (j - 1) (by omega)]
    rw [hl]
    by_cases hje : j < es.length
    · rw [at_append_left es [e] j hje]; exact h.asc j hje
    · obtain rfl : j = es.length := by rw [List.length_append, List.length_singleton] at hj; omega
      rw [at_last, ht]
      unfold lastT
      split
      · rw [← ht]; exact hf.tm.1
      · rw [show (es.length : Int) - 1 = ((es.length - 1 : Nat) : Int) by omega]; exact h.tm _ (at_mem (by omega) (by omega))
theorem EvOk.st {n tt : Int} {es : List Ev} (h : EvOk n tt es) (hn : 0 ≤ n ∧ n ≤ 64) (hl : es.length ≤ 65536) : StOk n es := ⟨hn, hl, fun j hj => h.fit _ (at_mem (by omega) (by omega)), h.asc⟩
theorem streamS_ok {nd : Int} {es : List Ev} (hf : ∀ j : Nat, j < es.length → FitOk nd (at_ es (j : Int))) (ha : ∀ j : Nat, j < es.length → lastT es j ≤ (at_ es (j : Int)).tm) : ∀ m k : Nat, k + m = es.length → streamS nd (lastT es k) (es.drop k) = 0
  | 0, k, h => streamS_end (by omega)
  | m + 1, k, h => by
    rw [streamS_step (by omega) (fitE_ok.2 (hf k (by omega))) (by have := ha k (by omega); omega)]
    exact streamS_ok hf ha m (k + 1) (by omega)
theorem StOk.zero {nd : Int} {es : List Ev} (h : StOk nd es) : streamE nd es = 0 := by
  have h1 := h.nodes
  have h2 := h.len
  unfold streamE
  rw [if_neg (by omega), if_neg (by omega)]
  exact streamS_ok h.fit h.asc es.length 0 (by omega)

set_option maxHeartbeats 2000000 in
theorem MkEvent_base {κ : Ctx} {I : List Item} {b : Nat} {lv : Value} {ls : List Int} {i : Int} {n t : Int} (hl : ∀ q, Sl κ (deck b lv q :: I) lv ls) (h0 : 0 ≤ i)  (hn : 2 ≤ n ∧ n ≤ 64) (ht : 0 ≤ t ∧ t ≤ 1000000) :
    CallS Try.prog κ 153 [.pointer (some ⟨b, 0, none⟩), I64 (n), I64 (t)] (blk b [lv, I64 (i)] 129 :: I) (fun r J => ∃ y : Ev × Int, ((r = .agg #[I64 y.1.kd, I64 y.1.tm, I64 y.1.u, I64 y.1.v, I64 y.1.w, I64 y.1.lb, I64 y.1.sg] ∧ FitOk n y.1 ∧ y.1.tm = t) ∧ 0 ≤ y.2) ∧ J = [] ++ deck b lv y.2 :: I) := by
 refine CallS.enter (L := [(0, .pointer (some ⟨b, 0, none⟩)), (1, I64 (n)), (2, I64 (t))]) Try.func153 rfl rfl rfl rfl ?_
 refine W.sr ?_
 refine G.e (Eff.alloc ty122 rfl) ?_
 rintro _ _ ⟨b1, rfl, rfl⟩
 refine G.nt ?_
 refine W.sr ?_
 refine G.r (Runs.move rfl) ?_
 refine G.r (Runs.move rfl) ?_
 refine G.r (Runs.move rfl) ?_
 refine G.e (Eff.call call25 rfl rfl (Next_ok (by repeat (first | exact AtF.head _ _ | apply AtF.tail)) (Sl.fit (hl _) Fit.m) (by omega) (by omega))) ?_
 rintro _ _ ⟨_, _, ⟨x2, i3, rfl, hx2, hi3, rfl⟩, rfl, rfl⟩
 show G Try.prog κ _ _ _ _ ([(12, I64 (x2)), (11, I64 (n)), (10, .pointer (some ⟨b, 0, none⟩)), (9, I64 (t)), (6, .pointer (some ⟨b1, 0, none⟩)), (0, .pointer (some ⟨b, 0, none⟩)), (1, I64 (n)), (2, I64 (t))] : Env) (blk b1 [I64 (0), I64 (0), I64 (0), I64 (0), I64 (0), I64 (0), I64 (0)] 122 :: blk b [lv, I64 (i3)] 129 :: I)
 refine G.r (Runs.build (cells := [_, _, _, _, _, _, _]) ty122 Try.underlying122 pl122 rfl rfl) ?_
 refine G.e (Eff.alloc ty122 rfl) ?_
 rintro _ _ ⟨b4, rfl, rfl⟩
 refine G.e (Eff.st (cs := [_, _, _, _, _, _, _]) (vs := [_, _, _, _, _, _, _]) (cs' := [_, _, _, _, _, _, _]) ty122) ?_
 rintro _ _ ⟨rfl, rfl⟩
 refine G.nt ?_
 refine W.cut (σ := Int × Int) (fun s => ([(0, .pointer (some ⟨b, 0, none⟩)), (2, I64 (t)), (6, .pointer (some ⟨b1, 0, none⟩)), (7, .pointer (some ⟨b4, 0, none⟩))] : Env)) (fun s => blk b4 [I64 (1), I64 (t), I64 (x2), I64 (s.1), I64 (0), I64 (0), I64 (0)] 122 :: blk b1 [I64 (0), I64 (0), I64 (0), I64 (0), I64 (0), I64 (0), I64 (0)] 122 :: blk b [lv, I64 (s.2)] 129 :: I) (fun s => ((0 ≤ s.1 ∧ s.1 < n) ∧ x2 ≠ s.1) ∧ (0 ≤ s.2)) ?_ ?_
 ·refine W.drawn mixed ?_
  refine A.hold (blk b1 [I64 (0), I64 (0), I64 (0), I64 (0), I64 (0), I64 (0), I64 (0)] 122 :: I) 12 ?_
  refine D.r 0 rfl (Runs.fieldAddr fld122_2 rfl) ?_ (hJ := Fit.sub)
  refine D.r 3 rfl (Runs.move rfl) ?_ (hJ := Fit.sub)
  refine D.r 4 rfl (Runs.move rfl) ?_ (hJ := Fit.sub)
  refine D.r 5 rfl (Runs.sub rfl rfl (by unfold InR; omega)) ?_ (hJ := Fit.sub)
  refine D.r 8 rfl (Runs.move rfl) ?_ (hJ := Fit.sub)
  refine D.step (rs := [1, 6]) (by kernel_rfl) rfl rfl (all2 ?_ (all1 ?_))
  ·refine Step.read rfl (Wanted.plain rfl) rfl rfl (Runs.ld ty3) Fit.sub ?_
   refine D.r 2 rfl (Runs.add rfl rfl (by unfold InR; omega)) ?_ (hJ := Fit.sub)
   refine D.step (rs := [6]) (by kernel_rfl) rfl rfl (all1 ?_)
   refine Step.eff rfl (Wanted.plain rfl) (Eff.call call25 rfl rfl (Next_ok (by repeat (first | exact AtF.head _ _ | apply AtF.tail)) (Sl.fit (hl _) Fit.m) (by omega) (by omega))) ?_
   rintro _ _ ⟨_, _, ⟨x5, i6, rfl, hx5, hi6, rfl⟩, rfl, rfl⟩
   refine ⟨Fit.sub, ?_⟩
   show D Try.prog κ _ _ _ _ _ _ _ ([(20, I64 (x5)), (16, I64 (x2 + 1)), (15, I64 (x2)), (22, I64 (n)), (19, I64 (n - 1)), (18, I64 (n)), (17, .pointer (some ⟨b, 0, none⟩)), (14, .pointer (some ⟨b4, 2, none⟩)), (7, .pointer (some ⟨b4, 0, none⟩)), (13, .agg #[I64 (1), I64 (t), I64 (x2), I64 (0), I64 (0), I64 (0), I64 (0)]), (12, I64 (x2)), (11, I64 (n)), (10, .pointer (some ⟨b, 0, none⟩)), (9, I64 (t)), (6, .pointer (some ⟨b1, 0, none⟩)), (0, .pointer (some ⟨b, 0, none⟩)), (1, I64 (n)), (2, I64 (t))] : Env) (blk b4 [I64 (1), I64 (t), I64 (x2), I64 (0), I64 (0), I64 (0), I64 (0)] 122 :: blk b1 [I64 (0), I64 (0), I64 (0), I64 (0), I64 (0), I64 (0), I64 (0)] 122 :: blk b [lv, I64 (i6)] 129 :: I)
   refine D.r 7 rfl (Runs.add rfl rfl (by unfold InR; omega)) ?_ (hJ := Fit.sub)
   refine D.r 9 rfl (Runs.rem rfl rfl (by omega)) ?_ (hJ := Fit.sub)
   refine D.r 10 rfl (Runs.fieldAddr fld122_3 rfl) ?_ (hJ := Fit.sub)
   refine D.step (rs := [11]) (by kernel_rfl) rfl rfl (all1 ?_)
   refine Step.eff rfl (Wanted.plain rfl) (Eff.st (cs := [_, _, _, _, _, _, _]) (vs := [_]) (cs' := [_, _, _, _, _, _, _]) ty3) ?_
   rintro _ _ ⟨rfl, rfl⟩
   refine ⟨Fit.sub, ?_⟩
   refine D.done (by kernel_rfl) ?_
   have htm := evmod (s := x2) (x := x5) (N := n) (by omega) (by omega) (by omega) (by omega)
   exact V.mid ((Int.tmod ((x2 + 1) + x5) n), (i6)) (show ((0 ≤ (Int.tmod ((x2 + 1) + x5) n : Int) ∧ (Int.tmod ((x2 + 1) + x5) n : Int) < n) ∧ x2 ≠ (Int.tmod ((x2 + 1) + x5) n : Int)) ∧ (0 ≤ (i6 : Int)) from ⟨htm, (by omega)⟩) (Sub.cons rfl (Sub.cons rfl (Sub.cons rfl (Sub.cons rfl Sub.nil)))) (show Fit κ _ (blk b4 [I64 (1), I64 (t), I64 (x2), I64 ((Int.tmod ((x2 + 1) + x5) n)), I64 (0), I64 (0), I64 (0)] 122 :: blk b1 [I64 (0), I64 (0), I64 (0), I64 (0), I64 (0), I64 (0), I64 (0)] 122 :: blk b [lv, I64 ((i6))] 129 :: I) from Fit.sub)
  ·refine Step.eff rfl (Wanted.plain rfl) (Eff.call call25 rfl rfl (Next_ok (by repeat (first | exact AtF.head _ _ | apply AtF.tail)) (Sl.fit (hl _) Fit.m) (by omega) (by omega))) ?_
   rintro _ _ ⟨_, _, ⟨x7, i8, rfl, hx7, hi8, rfl⟩, rfl, rfl⟩
   refine ⟨Fit.sub, ?_⟩
   show D Try.prog κ _ _ _ _ _ _ _ ([(20, I64 (x7)), (22, I64 (n)), (19, I64 (n - 1)), (18, I64 (n)), (17, .pointer (some ⟨b, 0, none⟩)), (14, .pointer (some ⟨b4, 2, none⟩)), (7, .pointer (some ⟨b4, 0, none⟩)), (13, .agg #[I64 (1), I64 (t), I64 (x2), I64 (0), I64 (0), I64 (0), I64 (0)]), (12, I64 (x2)), (11, I64 (n)), (10, .pointer (some ⟨b, 0, none⟩)), (9, I64 (t)), (6, .pointer (some ⟨b1, 0, none⟩)), (0, .pointer (some ⟨b, 0, none⟩)), (1, I64 (n)), (2, I64 (t))] : Env) (blk b4 [I64 (1), I64 (t), I64 (x2), I64 (0), I64 (0), I64 (0), I64 (0)] 122 :: blk b1 [I64 (0), I64 (0), I64 (0), I64 (0), I64 (0), I64 (0), I64 (0)] 122 :: blk b [lv, I64 (i8)] 129 :: I)
   refine D.step (rs := [1]) (by kernel_rfl) rfl rfl (all1 ?_)
   refine Step.read rfl (Wanted.plain rfl) rfl rfl (Runs.ld ty3) Fit.sub ?_
   refine D.r 2 rfl (Runs.add rfl rfl (by unfold InR; omega)) ?_ (hJ := Fit.sub)
   refine D.r 7 rfl (Runs.add rfl rfl (by unfold InR; omega)) ?_ (hJ := Fit.sub)
   refine D.r 9 rfl (Runs.rem rfl rfl (by omega)) ?_ (hJ := Fit.sub)
   refine D.r 10 rfl (Runs.fieldAddr fld122_3 rfl) ?_ (hJ := Fit.sub)
   refine D.step (rs := [11]) (by kernel_rfl) rfl rfl (all1 ?_)
   refine Step.eff rfl (Wanted.plain rfl) (Eff.st (cs := [_, _, _, _, _, _, _]) (vs := [_]) (cs' := [_, _, _, _, _, _, _]) ty3) ?_
   rintro _ _ ⟨rfl, rfl⟩
   refine ⟨Fit.sub, ?_⟩
   refine D.done (by kernel_rfl) ?_
   have htm := evmod (s := x2) (x := x7) (N := n) (by omega) (by omega) (by omega) (by omega)
   exact V.mid ((Int.tmod ((x2 + 1) + x7) n), (i8)) (show ((0 ≤ (Int.tmod ((x2 + 1) + x7) n : Int) ∧ (Int.tmod ((x2 + 1) + x7) n : Int) < n) ∧ x2 ≠ (Int.tmod ((x2 + 1) + x7) n : Int)) ∧ (0 ≤ (i8 : Int)) from ⟨htm, (by omega)⟩) (Sub.cons rfl (Sub.cons rfl (Sub.cons rfl (Sub.cons rfl Sub.nil)))) (show Fit κ _ (blk b4 [I64 (1), I64 (t), I64 (x2), I64 ((Int.tmod ((x2 + 1) + x7) n)), I64 (0), I64 (0), I64 (0)] 122 :: blk b1 [I64 (0), I64 (0), I64 (0), I64 (0), I64 (0), I64 (0), I64 (0)] 122 :: blk b [lv, I64 ((i8))] 129 :: I) from Fit.sub)
 ·rintro ⟨vv, i9⟩ hp
  obtain ⟨hvv, hi9⟩ : ((0 ≤ vv ∧ vv < n) ∧ x2 ≠ vv) ∧ (0 ≤ i9) := hp
  show W Try.prog κ 56 _ _ ([(0, .pointer (some ⟨b, 0, none⟩)), (2, I64 (t)), (6, .pointer (some ⟨b1, 0, none⟩)), (7, .pointer (some ⟨b4, 0, none⟩))] : Env) (blk b4 [I64 (1), I64 (t), I64 (x2), I64 (vv), I64 (0), I64 (0), I64 (0)] 122 :: blk b1 [I64 (0), I64 (0), I64 (0), I64 (0), I64 (0), I64 (0), I64 (0)] 122 :: blk b [lv, I64 (i9)] 129 :: I)
  refine W.seq ?_
  refine W.sr ?_
  refine G.r (Runs.move rfl) ?_
  refine G.e (Eff.call call25 rfl rfl (Next_ok (by repeat (first | exact AtF.head _ _ | apply AtF.tail)) (Sl.fit (hl _) Fit.m) (by omega) (by omega))) ?_
  rintro _ _ ⟨_, _, ⟨x9, i10, rfl, hx9, hi10, rfl⟩, rfl, rfl⟩
  show G Try.prog κ _ _ _ _ ([(26, I64 (x9)), (25, .pointer (some ⟨b, 0, none⟩)), (0, .pointer (some ⟨b, 0, none⟩)), (2, I64 (t)), (6, .pointer (some ⟨b1, 0, none⟩)), (7, .pointer (some ⟨b4, 0, none⟩))] : Env) (blk b4 [I64 (1), I64 (t), I64 (x2), I64 (vv), I64 (0), I64 (0), I64 (0)] 122 :: blk b1 [I64 (0), I64 (0), I64 (0), I64 (0), I64 (0), I64 (0), I64 (0)] 122 :: blk b [lv, I64 (i10)] 129 :: I)
  refine G.r (Runs.assign rfl) ?_
  refine G.nt ?_
  refine W.block ?_
  refine W.sr ?_
  refine G.r (Runs.move rfl) ?_
  refine G.r (Runs.geq rfl rfl) ?_
  refine G.r (Runs.assign rfl) ?_
  refine G.nt ?_
  refine W.ite rfl (fun c27 => ?_) (fun c27 => ?_)
  ·refine W.sr ?_
   refine G.r (Runs.move rfl) ?_
   refine G.r (Runs.fieldAddr fld122_2 rfl) ?_
   refine G.r (Runs.ld ty3) ?_
   refine G.r (Runs.build (cells := [_, _, _, _, _, _, _]) ty122 Try.underlying122 pl122 rfl rfl) ?_
   refine G.e (Eff.st (cs := [_, _, _, _, _, _, _]) (vs := [_, _, _, _, _, _, _]) (cs' := [_, _, _, _, _, _, _]) ty122) ?_
   rintro _ _ ⟨rfl, rfl⟩
   refine G.nt ?_
   refine W.sub (L' := [(6, _)]) (Sub.cons rfl Sub.nil) ?_
   refine W.ret ?_
   refine V.block_ret ?_
   refine V.then_ret ?_
   exact V.retc rfl ty122 rfl (by repeat (first | exact List.mem_cons_self | apply List.mem_cons_of_mem)) rfl (blk b [lv, I64 (i10)] 129 :: I) Fit.sub ⟨(⟨3, t, x2, 0, 0, 0, 0⟩, i10), ⟨⟨rfl, fit_mk (by omega) (by omega) (by omega) (by omega) (fun h => by omega) (fun h => by omega) (fun h => by unfold rightW; omega) (fun h => by omega), rfl⟩, by show 0 ≤ i10; omega⟩, rfl⟩
  ·refine W.sr ?_
   refine G.r (Runs.move rfl) ?_
   refine G.r (Runs.geq rfl rfl) ?_
   refine G.r (Runs.assign rfl) ?_
   refine G.nt ?_
   refine W.ite rfl (fun c34 => ?_) (fun c34 => ?_)
   ·refine W.sr ?_
    refine G.r (Runs.move rfl) ?_
    refine G.r (Runs.fieldAddr fld122_2 rfl) ?_
    refine G.r (Runs.ld ty3) ?_
    refine G.r (Runs.fieldAddr fld122_3 rfl) ?_
    refine G.r (Runs.ld ty3) ?_
    refine G.r (Runs.build (cells := [_, _, _, _, _, _, _]) ty122 Try.underlying122 pl122 rfl rfl) ?_
    refine G.e (Eff.st (cs := [_, _, _, _, _, _, _]) (vs := [_, _, _, _, _, _, _]) (cs' := [_, _, _, _, _, _, _]) ty122) ?_
    rintro _ _ ⟨rfl, rfl⟩
    refine G.nt ?_
    refine W.sub (L' := [(6, _)]) (Sub.cons rfl Sub.nil) ?_
    refine W.ret ?_
    refine V.block_ret ?_
    refine V.then_ret ?_
    exact V.retc rfl ty122 rfl (by repeat (first | exact List.mem_cons_self | apply List.mem_cons_of_mem)) rfl (blk b [lv, I64 (i10)] 129 :: I) Fit.sub ⟨(⟨2, t, x2, vv, 0, 0, 0⟩, i10), ⟨⟨rfl, fit_mk (by omega) (by omega) (by omega) (by omega) (fun h => by omega) (fun h => by omega) (fun h => by unfold rightW; omega) (fun h => by omega), rfl⟩, by show 0 ≤ i10; omega⟩, rfl⟩
   ·refine W.skip ?_
    refine V.block_normal ?_
    refine V.then ?_
    refine W.sr ?_
    refine G.r (Runs.move rfl) ?_
    refine G.e (Eff.call call25 rfl rfl (Next_ok (by repeat (first | exact AtF.head _ _ | apply AtF.tail)) (Sl.fit (hl _) Fit.m) (by omega) (by omega))) ?_
    rintro _ _ ⟨_, _, ⟨x11, i12, rfl, hx11, hi12, rfl⟩, rfl, rfl⟩
    show G Try.prog κ _ _ _ _ ([(44, I64 (x11)), (43, .pointer (some ⟨b, 0, none⟩)), (34, .bool (decide (5 ≤ x9))), (36, .bool (decide (5 ≤ x9))), (35, I64 (x9)), (27, .bool (decide (8 ≤ x9))), (29, .bool (decide (8 ≤ x9))), (28, I64 (x9)), (8, I64 (x9)), (26, I64 (x9)), (25, .pointer (some ⟨b, 0, none⟩)), (0, .pointer (some ⟨b, 0, none⟩)), (2, I64 (t)), (6, .pointer (some ⟨b1, 0, none⟩)), (7, .pointer (some ⟨b4, 0, none⟩))] : Env) (blk b4 [I64 (1), I64 (t), I64 (x2), I64 (vv), I64 (0), I64 (0), I64 (0)] 122 :: blk b1 [I64 (0), I64 (0), I64 (0), I64 (0), I64 (0), I64 (0), I64 (0)] 122 :: blk b [lv, I64 (i12)] 129 :: I)
    refine G.r (Runs.add rfl rfl (by unfold InR; omega)) ?_
    refine G.r (Runs.move rfl) ?_
    refine G.e (Eff.call call25 rfl rfl (Next_ok (by repeat (first | exact AtF.head _ _ | apply AtF.tail)) (Sl.fit (hl _) Fit.m) (by omega) (by omega))) ?_
    rintro _ _ ⟨_, _, ⟨x13, i14, rfl, hx13, hi14, rfl⟩, rfl, rfl⟩
    show G Try.prog κ _ _ _ _ ([(47, I64 (x13)), (46, .pointer (some ⟨b, 0, none⟩)), (45, I64 (1 + x11)), (44, I64 (x11)), (43, .pointer (some ⟨b, 0, none⟩)), (34, .bool (decide (5 ≤ x9))), (36, .bool (decide (5 ≤ x9))), (35, I64 (x9)), (27, .bool (decide (8 ≤ x9))), (29, .bool (decide (8 ≤ x9))), (28, I64 (x9)), (8, I64 (x9)), (26, I64 (x9)), (25, .pointer (some ⟨b, 0, none⟩)), (0, .pointer (some ⟨b, 0, none⟩)), (2, I64 (t)), (6, .pointer (some ⟨b1, 0, none⟩)), (7, .pointer (some ⟨b4, 0, none⟩))] : Env) (blk b4 [I64 (1), I64 (t), I64 (x2), I64 (vv), I64 (0), I64 (0), I64 (0)] 122 :: blk b1 [I64 (0), I64 (0), I64 (0), I64 (0), I64 (0), I64 (0), I64 (0)] 122 :: blk b [lv, I64 (i14)] 129 :: I)
    refine G.r (Runs.move rfl) ?_
    refine G.e (Eff.call call25 rfl rfl (Next_ok (by repeat (first | exact AtF.head _ _ | apply AtF.tail)) (Sl.fit (hl _) Fit.m) (by omega) (by omega))) ?_
    rintro _ _ ⟨_, _, ⟨x15, i16, rfl, hx15, hi16, rfl⟩, rfl, rfl⟩
    show G Try.prog κ _ _ _ _ ([(49, I64 (x15)), (48, .pointer (some ⟨b, 0, none⟩)), (47, I64 (x13)), (46, .pointer (some ⟨b, 0, none⟩)), (45, I64 (1 + x11)), (44, I64 (x11)), (43, .pointer (some ⟨b, 0, none⟩)), (34, .bool (decide (5 ≤ x9))), (36, .bool (decide (5 ≤ x9))), (35, I64 (x9)), (27, .bool (decide (8 ≤ x9))), (29, .bool (decide (8 ≤ x9))), (28, I64 (x9)), (8, I64 (x9)), (26, I64 (x9)), (25, .pointer (some ⟨b, 0, none⟩)), (0, .pointer (some ⟨b, 0, none⟩)), (2, I64 (t)), (6, .pointer (some ⟨b1, 0, none⟩)), (7, .pointer (some ⟨b4, 0, none⟩))] : Env) (blk b4 [I64 (1), I64 (t), I64 (x2), I64 (vv), I64 (0), I64 (0), I64 (0)] 122 :: blk b1 [I64 (0), I64 (0), I64 (0), I64 (0), I64 (0), I64 (0), I64 (0)] 122 :: blk b [lv, I64 (i16)] 129 :: I)
    refine G.r (Runs.mul rfl rfl (by unfold InR; omega)) ?_
    refine G.r (Runs.sub rfl rfl (by unfold InR; omega)) ?_
    refine G.r (Runs.fieldAddr fld122_4 rfl) ?_
    refine G.e (Eff.st (cs := [_, _, _, _, _, _, _]) (vs := [_]) (cs' := [_, _, _, _, _, _, _]) ty3) ?_
    rintro _ _ ⟨rfl, rfl⟩
    refine G.r (Runs.fieldAddr fld122_5 rfl) ?_
    refine G.e (Eff.st (cs := [_, _, _, _, _, _, _]) (vs := [_]) (cs' := [_, _, _, _, _, _, _]) ty3) ?_
    rintro _ _ ⟨rfl, rfl⟩
    refine G.r (Runs.fieldAddr fld122_6 rfl) ?_
    refine G.e (Eff.st (cs := [_, _, _, _, _, _, _]) (vs := [_]) (cs' := [_, _, _, _, _, _, _]) ty3) ?_
    rintro _ _ ⟨rfl, rfl⟩
    refine G.nt ?_
    refine W.sub (L' := [(6, _), (7, _)]) (Sub.cons rfl (Sub.cons rfl Sub.nil)) ?_
    refine W.sr ?_
    refine G.r (Runs.lds (vs := [_, _, _, _, _, _, _]) ty122) ?_
    refine G.e (Eff.st (cs := [_, _, _, _, _, _, _]) (vs := [_, _, _, _, _, _, _]) (cs' := [_, _, _, _, _, _, _]) ty122) ?_
    rintro _ _ ⟨rfl, rfl⟩
    refine G.nt ?_
    refine W.ret ?_
    exact V.retc rfl ty122 rfl (by repeat (first | exact List.mem_cons_self | apply List.mem_cons_of_mem)) rfl (blk b [lv, I64 (i16)] 129 :: I) Fit.sub ⟨(⟨1, t, x2, vv, 1 + x11, x13, 1 - (2 * x15)⟩, i16), ⟨⟨rfl, fit_mk (by omega) (by omega) (by omega) (by omega) (fun h => by omega) (fun h => by omega) (fun h => by unfold rightW; omega) (fun h => by omega), rfl⟩, by show 0 ≤ i16; omega⟩, rfl⟩

theorem MkEvent_at {κ : Ctx} {I : List Item} {F : Item → List Item} {b : Nat} {lv : Value} {ls : List Int} {i : Int} {n t : Int} (hat : AtF I (deck b lv i) F) (hl : ∀ q, Sl κ (F (deck b lv q)) lv ls) (h0 : 0 ≤ i)  (hn : 2 ≤ n ∧ n ≤ 64) (ht : 0 ≤ t ∧ t ≤ 1000000) :
    CallS Try.prog κ 153 [.pointer (some ⟨b, 0, none⟩), I64 (n), I64 (t)] I fun r J => ∃ y : Ev × Int, ((r = .agg #[I64 y.1.kd, I64 y.1.tm, I64 y.1.u, I64 y.1.v, I64 y.1.w, I64 y.1.lb, I64 y.1.sg] ∧ FitOk n y.1 ∧ y.1.tm = t) ∧ 0 ≤ y.2) ∧ J = [] ++ F (deck b lv y.2) :=
  CallS.at (Post := fun r (y : Ev × Int) => (r = .agg #[I64 y.1.kd, I64 y.1.tm, I64 y.1.u, I64 y.1.v, I64 y.1.w, I64 y.1.lb, I64 y.1.sg] ∧ FitOk n y.1 ∧ y.1.tm = t) ∧ 0 ≤ y.2) (Z := fun y : Ev × Int => []) (X := fun y : Ev × Int => deck b lv y.2) hat fun J _ hF => MkEvent_base (fun q => (hl q).fit (hF _)) h0  hn ht

set_option maxHeartbeats 2000000 in
theorem MkEvents_base {κ : Ctx} {I : List Item} {b : Nat} {lv : Value} {ls : List Int} {i : Int} {n most : Int} (hl : ∀ q, Sl κ (deck b lv q :: I) lv ls) (h0 : 0 ≤ i)  (hn : 2 ≤ n ∧ n ≤ 64) (hm : 0 ≤ most ∧ most ≤ 20) :
    CallS Try.prog κ 84 [.pointer (some ⟨b, 0, none⟩), I64 (n), I64 (most)] (blk b [lv, I64 (i)] 129 :: I) (fun r J => ∃ y : (Option Addr) × Nat × (List Ev) × Int, ((r = .slice y.1 y.2.2.1.length y.2.1 ∧ (EvOk n 500 y.2.2.1 ∧ (y.2.2.1.length : Int) ≤ most)) ∧ 0 ≤ y.2.2.2) ∧ J = [vc 122 (.slice y.1 y.2.2.1.length y.2.1) y.2.2.1] ++ deck b lv y.2.2.2 :: I) := by
 refine CallS.enter (L := [(0, .pointer (some ⟨b, 0, none⟩)), (1, I64 (n)), (2, I64 (most))]) Try.func84 rfl rfl rfl rfl ?_
 refine W.sr ?_
 refine G.r (Runs.assign rfl) ?_
 refine G.nt ?_
 refine W.sr ?_
 refine G.r (Runs.assign rfl) ?_
 refine G.nt ?_
 refine W.sr ?_
 refine G.r (Runs.move rfl) ?_
 refine G.e (Eff.call call25 rfl rfl (Next_ok (by repeat (first | exact AtF.head _ _ | apply AtF.tail)) (Sl.fit (hl _) Fit.m) (by omega) (by omega))) ?_
 rintro _ _ ⟨_, _, ⟨x1, i2, rfl, hx1, hi2, rfl⟩, rfl, rfl⟩
 show G Try.prog κ _ _ _ _ ([(11, I64 (x1)), (10, .pointer (some ⟨b, 0, none⟩)), (7, .slice none 0 0), (6, .slice none 0 0), (0, .pointer (some ⟨b, 0, none⟩)), (1, I64 (n)), (2, I64 (most))] : Env) (blk b [lv, I64 (i2)] 129 :: I)
 refine G.r (Runs.assign rfl) ?_
 refine G.nt ?_
 refine W.seq ?_
 refine W.sr ?_
 refine G.r (Runs.move rfl) ?_
 refine G.r (Runs.move rfl) ?_
 refine G.r (Runs.add rfl rfl (by unfold InR; omega)) ?_
 refine G.e (Eff.call call25 rfl rfl (Next_ok (by repeat (first | exact AtF.head _ _ | apply AtF.tail)) (Sl.fit (hl _) Fit.m) (by omega) (by omega))) ?_
 rintro _ _ ⟨_, _, ⟨x3, i4, rfl, hx3, hi4, rfl⟩, rfl, rfl⟩
 show G Try.prog κ _ _ _ _ ([(15, I64 (x3)), (14, I64 (most + 1)), (13, I64 (most)), (12, .pointer (some ⟨b, 0, none⟩)), (8, I64 (x1)), (11, I64 (x1)), (10, .pointer (some ⟨b, 0, none⟩)), (7, .slice none 0 0), (6, .slice none 0 0), (0, .pointer (some ⟨b, 0, none⟩)), (1, I64 (n)), (2, I64 (most))] : Env) (blk b [lv, I64 (i4)] 129 :: I)
 refine G.r (Runs.assign rfl) ?_
 refine G.nt ?_
 refine W.block ?_
 refine W.loop (σ := Int × Int × (Option Addr) × Nat × (List Ev) × Int) (fun s => ([(0, .pointer (some ⟨b, 0, none⟩)), (1, I64 (n)), (7, .slice s.2.2.1 s.2.2.2.2.1.length s.2.2.2.1), (8, I64 (s.2.2.2.2.2)), (9, I64 (s.1))] : Env)) (fun s => vc 122 (.slice s.2.2.1 s.2.2.2.2.1.length s.2.2.2.1) (s.2.2.2.2.1) :: blk b [lv, I64 (s.2.1)] 129 :: I) (fun s => (0 ≤ s.1 ∧ (s.2.2.2.2.1.length : Int) + s.1 ≤ most) ∧ (0 ≤ s.2.1) ∧ (EvOk n s.2.2.2.2.2 s.2.2.2.2.1) ∧ (0 ≤ s.2.2.2.2.2 ∧ s.2.2.2.2.2 ≤ 3 + 3 * (s.2.2.2.2.1.length : Int))) (fun s => s.1.toNat) (x3, i4, none, 0, [], x1) (show (0 ≤ (x3 : Int) ∧ (([] : List Ev).length : Int) + (x3 : Int) ≤ most) ∧ (0 ≤ (i4 : Int)) ∧ (EvOk n (x1 : Int) ([] : List Ev)) ∧ (0 ≤ (x1 : Int) ∧ (x1 : Int) ≤ 3 + 3 * (([] : List Ev).length : Int)) from ⟨(by simp only [List.length_nil]; omega), (by omega), EvOk.nil, (by simp only [List.length_nil]; omega)⟩) (Sub.cons rfl (Sub.cons rfl (Sub.cons (lookV rfl (by first | rfl | simp)) (Sub.cons lookO (Sub.cons lookO Sub.nil))))) (show Fit κ _ (vc 122 (.slice (none) ([]).length (0)) (([])) :: blk b [lv, I64 ((i4))] 129 :: I) from (Fit.nilvc _ _)) ?_
 rintro ⟨kq, iqa, a1, c1, out, tt⟩ hp
 obtain ⟨hkq, hiqa, hE, htt⟩ : (0 ≤ kq ∧ (out.length : Int) + kq ≤ most) ∧ (0 ≤ iqa) ∧ (EvOk n tt out) ∧ (0 ≤ tt ∧ tt ≤ 3 + 3 * (out.length : Int)) := hp
 show W Try.prog κ 36 _ _ ([(0, .pointer (some ⟨b, 0, none⟩)), (1, I64 (n)), (7, .slice a1 out.length c1), (8, I64 (tt)), (9, I64 (kq))] : Env) (vc 122 (.slice a1 out.length c1) (out) :: blk b [lv, I64 (iqa)] 129 :: I)
 refine W.seq ?_
 refine W.sr ?_
 refine G.r (Runs.move rfl) ?_
 refine G.r (Runs.gtr rfl rfl) ?_
 refine G.r (Runs.move rfl) ?_
 refine G.split (d := 18) rfl (fun g18 => ?_) (fun g18 => ?_)
 ·refine G.ro (Runs.move rfl) ?_
  refine G.ro (Runs.gtr rfl rfl) ?_
  refine G.r (Runs.pickt rfl rfl) ?_
  refine G.nt ?_
  refine W.ite rfl (fun c21 => ?_) (fun c21 => ?_)
  ·refine W.skip ?_
   refine V.then ?_
   refine W.seq ?_
   refine W.block ?_
   refine W.sr ?_
   refine G.r (Runs.move rfl) ?_
   refine G.r (Runs.move rfl) ?_
   refine G.r (Runs.move rfl) ?_
   refine G.r (Runs.move rfl) ?_
   refine G.e (Eff.call call153 rfl rfl (MkEvent_at (by repeat (first | exact AtF.head _ _ | apply AtF.tail)) (fun _ => Sl.fit (hl _) Fit.m) (by omega)  (by omega) (by omega))) ?_
   rintro _ _ ⟨_, _, ⟨⟨ev5, i6⟩, ⟨⟨rfl, hfev5, htev5⟩, hi6⟩, rfl⟩, rfl, rfl⟩
   show G Try.prog κ _ _ _ _ ([(28, .agg #[I64 (ev5.kd), I64 (ev5.tm), I64 (ev5.u), I64 (ev5.v), I64 (ev5.w), I64 (ev5.lb), I64 (ev5.sg)]), (27, I64 (tt)), (26, I64 (n)), (25, .pointer (some ⟨b, 0, none⟩)), (24, .slice a1 out.length c1), (21, .bool (decide (1 < n))), (20, .bool (decide (1 < n))), (19, I64 (n)), (18, .bool true), (18, .bool (decide (0 < kq))), (17, .bool (decide (0 < kq))), (16, I64 (kq)), (0, .pointer (some ⟨b, 0, none⟩)), (1, I64 (n)), (7, .slice a1 out.length c1), (8, I64 (tt)), (9, I64 (kq))] : Env) (vc 122 (.slice a1 out.length c1) (out) :: blk b [lv, I64 (i6)] 129 :: I)
   have hi6 : 0 ≤ i6 := hi6
   dsimp only at hfev5
   dsimp only at htev5
   refine G.e (Eff.bs (α := Ev) (cs := [I64 (ev5.kd), I64 (ev5.tm), I64 (ev5.u), I64 (ev5.v), I64 (ev5.w), I64 (ev5.lb), I64 (ev5.sg)]) (xs := [⟨ev5.kd, ev5.tm, ev5.u, ev5.v, ev5.w, ev5.lb, ev5.sg⟩]) Try.underlying81 ty122 rfl rfl (by decide) (by decide) rfl (by kernel_rfl) rfl rfl) ?_
   rintro _ _ ⟨ad7, rfl, rfl⟩
   refine G.e (Eff.app (α := Ev) (e := 122) (xs := out) (ys := ([⟨ev5.kd, ev5.tm, ev5.u, ev5.v, ev5.w, ev5.lb, ev5.sg⟩] : List Ev)) Try.underlying81 ty122 rfl rfl rfl (by repeat (first | exact List.mem_cons_self | apply List.mem_cons_of_mem)) Sl.o (by simp only [List.length_cons, List.length_nil]; omega) (by decide) rfl (fun _ _ => (by repeat (first | exact At.head _ _ _ | apply At.tail)))) ?_
   rintro _ _ ⟨ad8, cp9, rfl, rfl⟩
   refine G.r (Runs.assign rfl) ?_
   refine G.nt ?_
   refine W.sub (L' := [(7, _), (0, _), (1, _), (8, _), (9, _)]) (Sub.cons rfl (Sub.cons rfl (Sub.cons rfl (Sub.cons rfl (Sub.cons rfl Sub.nil))))) ?_
   refine W.region ?_
   refine G.r (Runs.move rfl) ?_
   refine G.r (Runs.move rfl) ?_
   refine G.e (Eff.call call25 rfl rfl (Next_ok (by repeat (first | exact AtF.head _ _ | apply AtF.tail)) (Sl.fit (hl _) Fit.m) (by omega) (by omega))) ?_
   rintro _ _ ⟨_, _, ⟨x10, i11, rfl, hx10, hi11, rfl⟩, rfl, rfl⟩
   show G Try.prog κ _ _ _ _ ([(33, I64 (x10)), (32, .pointer (some ⟨b, 0, none⟩)), (31, I64 (tt)), (7, .slice ad8 (out ++ ([⟨ev5.kd, ev5.tm, ev5.u, ev5.v, ev5.w, ev5.lb, ev5.sg⟩] : List Ev)).length cp9), (0, .pointer (some ⟨b, 0, none⟩)), (1, I64 (n)), (8, I64 (tt)), (9, I64 (kq))] : Env) (vc 122 (.slice ad7 1 1) (([⟨ev5.kd, ev5.tm, ev5.u, ev5.v, ev5.w, ev5.lb, ev5.sg⟩] : List Ev)) :: vc 122 (.slice ad8 (out ++ ([⟨ev5.kd, ev5.tm, ev5.u, ev5.v, ev5.w, ev5.lb, ev5.sg⟩] : List Ev)).length cp9) (out ++ ([⟨ev5.kd, ev5.tm, ev5.u, ev5.v, ev5.w, ev5.lb, ev5.sg⟩] : List Ev)) :: blk b [lv, I64 (i11)] 129 :: I)
   refine G.r (Runs.add rfl rfl (by unfold InR; omega)) ?_
   refine G.r (Runs.assign rfl) ?_
   refine G.nil ?_
   refine V.block_normal ?_
   refine V.then ?_
   refine W.region ?_
   refine G.r (Runs.move rfl) ?_
   refine G.r (Runs.sub rfl rfl (by unfold InR; omega)) ?_
   refine G.r (Runs.assign rfl) ?_
   refine G.nil ?_
   exact V.next ((kq - 1), (i11), (ad8), (cp9), (out ++ ([⟨ev5.kd, ev5.tm, ev5.u, ev5.v, ev5.w, ev5.lb, ev5.sg⟩] : List Ev)), (tt + x10)) (show (0 ≤ (kq - 1 : Int) ∧ ((out ++ ([⟨ev5.kd, ev5.tm, ev5.u, ev5.v, ev5.w, ev5.lb, ev5.sg⟩] : List Ev) : List Ev).length : Int) + (kq - 1 : Int) ≤ most) ∧ (0 ≤ (i11 : Int)) ∧ (EvOk n (tt + x10 : Int) (out ++ ([⟨ev5.kd, ev5.tm, ev5.u, ev5.v, ev5.w, ev5.lb, ev5.sg⟩] : List Ev) : List Ev)) ∧ (0 ≤ (tt + x10 : Int) ∧ (tt + x10 : Int) ≤ 3 + 3 * ((out ++ ([⟨ev5.kd, ev5.tm, ev5.u, ev5.v, ev5.w, ev5.lb, ev5.sg⟩] : List Ev) : List Ev).length : Int)) from ⟨(by simp only [List.length_append, List.length_cons, List.length_nil]; omega), (by omega), (EvOk.later (by first | exact hE.push (by assumption) (by assumption) | exact EvOk.push hE (by assumption) (by assumption)) (by omega)), (by simp only [List.length_append, List.length_cons, List.length_nil]; omega)⟩) (show (kq - 1 : Int).toNat < kq.toNat from (by omega)) (Sub.cons rfl (Sub.cons rfl (Sub.cons (lookV rfl (by first | rfl | simp)) (Sub.cons lookO (Sub.cons lookO Sub.nil))))) (show Fit κ _ (vc 122 (.slice (ad8) (out ++ ([⟨ev5.kd, ev5.tm, ev5.u, ev5.v, ev5.w, ev5.lb, ev5.sg⟩] : List Ev)).length (cp9)) ((out ++ ([⟨ev5.kd, ev5.tm, ev5.u, ev5.v, ev5.w, ev5.lb, ev5.sg⟩] : List Ev))) :: blk b [lv, I64 ((i11))] 129 :: I) from Fit.sub)
  ·exact absurd hn.1 (by omega)
 ·refine G.po ?_
  refine G.po ?_
  refine G.r (Runs.pickf rfl rfl) ?_
  refine G.nt ?_
  refine W.no rfl ?_
  refine W.exit ?_
  refine V.then_exit ?_
  refine V.then_exit ?_
  refine V.block_hit ?_
  refine V.then ?_
  refine W.sr ?_
  refine G.r (Runs.move rfl) ?_
  refine G.r (Runs.assign rfl) ?_
  refine G.nt ?_
  refine W.sub (L' := [(6, _)]) (Sub.cons rfl Sub.nil) ?_
  refine W.ret ?_
  exact V.ret1 rfl rfl (vc 122 (.slice a1 out.length c1) (out) :: blk b [lv, I64 (iqa)] 129 :: I) Fit.sub ⟨(a1, c1, out, iqa), ⟨⟨rfl, ⟨hE.later (by omega), by show (out.length : Int) ≤ most; omega⟩⟩, by show 0 ≤ iqa; omega⟩, rfl⟩

theorem MkEvents_at {κ : Ctx} {I : List Item} {F : Item → List Item} {b : Nat} {lv : Value} {ls : List Int} {i : Int} {n most : Int} (hat : AtF I (deck b lv i) F) (hl : ∀ q, Sl κ (F (deck b lv q)) lv ls) (h0 : 0 ≤ i)  (hn : 2 ≤ n ∧ n ≤ 64) (hm : 0 ≤ most ∧ most ≤ 20) :
    CallS Try.prog κ 84 [.pointer (some ⟨b, 0, none⟩), I64 (n), I64 (most)] I fun r J => ∃ y : (Option Addr) × Nat × (List Ev) × Int, ((r = .slice y.1 y.2.2.1.length y.2.1 ∧ (EvOk n 500 y.2.2.1 ∧ (y.2.2.1.length : Int) ≤ most)) ∧ 0 ≤ y.2.2.2) ∧ J = [vc 122 (.slice y.1 y.2.2.1.length y.2.1) y.2.2.1] ++ F (deck b lv y.2.2.2) :=
  CallS.at (Post := fun r (y : (Option Addr) × Nat × (List Ev) × Int) => (r = .slice y.1 y.2.2.1.length y.2.1 ∧ (EvOk n 500 y.2.2.1 ∧ (y.2.2.1.length : Int) ≤ most)) ∧ 0 ≤ y.2.2.2) (Z := fun y : (Option Addr) × Nat × (List Ev) × Int => [vc 122 (.slice y.1 y.2.2.1.length y.2.1) y.2.2.1]) (X := fun y : (Option Addr) × Nat × (List Ev) × Int => deck b lv y.2.2.2) hat fun J _ hF => MkEvents_base (fun q => (hl q).fit (hF _)) h0  hn hm

end Go.Sl
