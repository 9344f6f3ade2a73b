/- A part of the proofs of statements of this seat: contracts of functions, and the plain laws that they lean on. No conditions. -/
import Derived.Test.YtbimaodbcjjbfaaWinC5
import Derived.Test.YtbimaodbcjjbfaaRunsD5
/- Windows: a stream with the cuts of what expires. The plain laws. No Go. No conditions. -/
namespace Go.Sl
set_option linter.unusedVariables false
set_option linter.unusedSectionVars false
/-! ### What an event does to links -/
/-- The link that an event sets. -/
def lkOf (e : Ev) : Lk := ⟨if e.v < e.u then e.v else e.u, if e.u < e.v then e.v else e.u, e.w, e.lb, e.sg, e.tm⟩
def setL (n : Lk) : List Lk → List Lk
  | [] => [n]
  | l :: ls => if Lk.lt n l then n :: l :: ls else if l.p = n.p then n :: ls else l :: setL n ls
/-- The links that an event cuts. -/
def hitE (e : Ev) (l : Lk) : Bool := if e.kd = 2 then decide (l.u = (lkOf e).u ∧ l.v = (lkOf e).v) else decide (l.u = e.u ∨ l.v = e.u)
def stepL (xs : List Lk) (e : Ev) : List Lk := if e.kd = 1 then setL (lkOf e) xs else xs.filter fun l => !hitE e l
def endsE (e : Ev) : Prop := (0 ≤ e.u ∧ e.u < 64) ∧ (e.kd = 3 → e.v = 0) ∧ (e.kd ≠ 3 → (0 ≤ e.v ∧ e.v < 64) ∧ e.u ≠ e.v)
instance (e : Ev) : Decidable (endsE e) := by unfold endsE; infer_instance
/-- The first error of an event. -/
def checkE (e : Ev) : Int := if e.kd < 1 ∨ 3 < e.kd then 8 else if e.tm < 0 ∨ 1048576 < e.tm then 9 else if ¬ endsE e then 6 else if (e.kd = 1 ∧ ¬ rightW e.w e.lb e.sg) ∨ (e.kd ≠ 1 ∧ (e.w ≠ 0 ∨ e.lb ≠ 0 ∨ e.sg ≠ 0)) then 1 else 0
def fitE (nd : Int) (e : Ev) : Int := if checkE e ≠ 0 then checkE e else if nd ≤ e.u ∨ nd ≤ e.v then 6 else 0
section
variable {e : Ev} {nd : Int}
theorem checkE_eight (h : e.kd < 1 ∨ 3 < e.kd) : checkE e = 8 := by unfold checkE; rw [if_pos h]
theorem checkE_nine (h1 : 1 ≤ e.kd ∧ e.kd ≤ 3) (h : e.tm < 0 ∨ 1048576 < e.tm) : checkE e = 9 := by unfold checkE; rw [if_neg (by omega), if_pos h]
theorem checkE_six (h1 : 1 ≤ e.kd ∧ e.kd ≤ 3) (h2 : 0 ≤ e.tm ∧ e.tm ≤ 1048576) (h : ¬ endsE e) : checkE e = 6 := by unfold checkE; rw [if_neg (by omega), if_neg (by omega), if_pos h]
theorem checkE_one (h1 : 1 ≤ e.kd ∧ e.kd ≤ 3) (h2 : 0 ≤ e.tm ∧ e.tm ≤ 1048576) (h3 : endsE e) (h : (e.kd = 1 ∧ ¬ rightW e.w e.lb e.sg) ∨ (e.kd ≠ 1 ∧ (e.w ≠ 0 ∨ e.lb ≠ 0 ∨ e.sg ≠ 0))) : checkE e = 1 := by
  unfold checkE; rw [if_neg (by omega), if_neg (by omega), if_neg (fun h => h h3), if_pos h]
theorem checkE_set (h1 : e.kd = 1) (h2 : 0 ≤ e.tm ∧ e.tm ≤ 1048576) (h3 : endsE e) : checkE e = if rightW e.w e.lb e.sg then 0 else 1 := by
  unfold checkE; rw [if_neg (by omega), if_neg (by omega), if_neg (fun h => h h3)]
  by_cases h4 : rightW e.w e.lb e.sg
  · rw [if_pos h4, if_neg]; rintro (⟨_, h⟩ | ⟨h, _⟩)
    · exact h h4
    · exact h h1
  · rw [if_neg h4, if_pos (.inl ⟨h1, h4⟩)]
theorem checkE_zero (h1 : 1 ≤ e.kd ∧ e.kd ≤ 3) (h2 : 0 ≤ e.tm ∧ e.tm ≤ 1048576) (h3 : endsE e) (h : e.kd = 1 → rightW e.w e.lb e.sg) (h4 : e.kd ≠ 1 → e.w = 0 ∧ e.lb = 0 ∧ e.sg = 0) : checkE e = 0 := by
  unfold checkE; rw [if_neg (by omega), if_neg (by omega), if_neg (fun h => h h3), if_neg]; rintro (⟨a, b⟩ | ⟨a, b⟩)
  · exact b (h a)
  · have := h4 a; omega
end
structure FitOk (nd : Int) (e : Ev) : Prop where
  kind : 1 ≤ e.kd ∧ e.kd ≤ 3
  tm : 0 ≤ e.tm ∧ e.tm ≤ 1048576
  ends : endsE e
  right : e.kd = 1 → rightW e.w e.lb e.sg
  fits : e.u < nd ∧ e.v < nd
  zero : e.kd ≠ 1 → e.w = 0 ∧ e.lb = 0 ∧ e.sg = 0
theorem fitE_ok {nd : Int} {e : Ev} : fitE nd e = 0 ↔ FitOk nd e := by
  constructor
  · intro h
    unfold fitE checkE at h
    by_cases h1 : e.kd < 1 ∨ 3 < e.kd
    · rw [if_pos h1] at h; simp at h
    rw [if_neg h1] at h
    by_cases h2 : e.tm < 0 ∨ 1048576 < e.tm
    · rw [if_pos h2] at h; simp at h
    rw [if_neg h2] at h
    by_cases h3 : ¬ endsE e
    · rw [if_pos h3] at h; simp at h
    rw [if_neg h3] at h
    by_cases h4 : (e.kd = 1 ∧ ¬ rightW e.w e.lb e.sg) ∨ (e.kd ≠ 1 ∧ (e.w ≠ 0 ∨ e.lb ≠ 0 ∨ e.sg ≠ 0))
    · rw [if_pos h4] at h; simp at h
    rw [if_neg h4] at h
    by_cases h5 : nd ≤ e.u ∨ nd ≤ e.v
    · rw [if_neg (by simp), if_pos h5] at h; simp at h
    exact ⟨by omega, by omega, Classical.not_not.1 h3, fun hk => Classical.byContradiction fun hr => h4 (.inl ⟨hk, hr⟩), by omega, fun hk => by omega⟩
  · intro h
    have h1 := h.kind
    have h2 := h.tm
    have h5 := h.fits
    have hc : checkE e = 0 := by
      unfold checkE
      rw [if_neg (by omega), if_neg (by omega), if_neg (by simpa using h.ends), if_neg ?_]
      rintro (⟨a, b⟩ | ⟨a, b⟩)
      · exact b (h.right a)
      · have := h.zero a; omega
    unfold fitE
    rw [if_neg (by simp [hc]), if_neg (by omega)]
theorem lk_lt {a b : Lk} : Lk.lt a b ↔ a.u < b.u ∨ (a.u = b.u ∧ a.v < b.v) := Iff.rfl
theorem lk_p {a b : Lk} : a.p = b.p ↔ a.u = b.u ∧ a.v = b.v := by unfold Lk.p; simp
theorem FitOk.lk {nd : Int} {e : Ev} (h : FitOk nd e) (hk : e.kd ≠ 3) : 0 ≤ (lkOf e).u ∧ (lkOf e).u < (lkOf e).v ∧ (lkOf e).v < nd := by
  have h1 := h.ends.2.2 hk
  have h2 := h.ends.1
  have h3 := h.fits
  unfold lkOf
  simp only
  refine ⟨?_, ?_, ?_⟩ <;> (repeat' split) <;> omega
theorem FitOk.badL {nd : Int} {e : Ev} (h : FitOk nd e) (hk : e.kd = 1) : badL nd (lkOf e) = 0 := by
  have h1 := h.lk (by omega)
  have h2 := h.tm
  exact badL_zero (by omega) (h.right hk) (by show ¬ (e.tm < 0 ∨ 1048576 < e.tm); omega)
theorem mem_setL {n : Lk} {xs : List Lk} {x : Lk} (h : x ∈ setL n xs) : x = n ∨ x ∈ xs := by
  induction xs with
  | nil => simp [setL] at h; exact .inl h
  | cons l ls ih =>
    unfold setL at h
    split at h
    · simpa using h
    · split at h
      · rcases List.mem_cons.1 h with h | h
        · exact .inl h
        · exact .inr (List.mem_cons_of_mem _ h)
      · rcases List.mem_cons.1 h with h | h
        · exact .inr (by rw [h]; exact List.mem_cons_self)
        · rcases ih h with h | h
          · exact .inl h
          · exact .inr (List.mem_cons_of_mem _ h)
theorem setL_asc {n : Lk} {xs : List Lk} (h : xs.Pairwise Lk.lt) : (setL n xs).Pairwise Lk.lt := by
  induction xs with
  | nil => simp [setL]
  | cons l ls ih =>
    obtain ⟨h1, h2⟩ := List.pairwise_cons.1 h
    unfold setL
    by_cases hl : Lk.lt n l
    · rw [if_pos hl]
      refine List.pairwise_cons.2 ⟨fun x hx => ?_, h⟩
      rcases List.mem_cons.1 hx with rfl | hx
      · exact hl
      · exact Pt.lin.tr _ _ _ hl (h1 x hx)
    · rw [if_neg hl]
      by_cases he : l.p = n.p
      · rw [if_pos he]
        refine List.pairwise_cons.2 ⟨fun x hx => ?_, h2⟩
        have := h1 x hx
        unfold Lk.lt at this ⊢
        rw [← he]; exact this
      · rw [if_neg he]
        refine List.pairwise_cons.2 ⟨fun x hx => ?_, ih h2⟩
        rcases mem_setL hx with rfl | hx
        · rw [lk_lt] at hl ⊢; rw [lk_p] at he; omega
        · exact h1 x hx
theorem setL_len (n : Lk) (xs : List Lk) : (setL n xs).length ≤ xs.length + 1 := by
  induction xs with
  | nil => simp [setL]
  | cons l ls ih =>
    unfold setL
    split
    · simp
    · split
      · simp
      · simp; omega
theorem stepL_len (xs : List Lk) (e : Ev) : (stepL xs e).length ≤ xs.length + 1 := by
  unfold stepL
  split
  · exact setL_len _ _
  · exact Nat.le_succ_of_le (List.length_filter_le _ _)
theorem scan0_back {n : Int} : ∀ (xs : List Lk) (q : Lk), (∀ x ∈ xs, badL n x = 0) → (q :: xs).Pairwise Lk.lt → scanL (badL n) Lk.lt (some q) xs = 0
  | [], q, _, _ => rfl
  | p :: ps, q, h1, h2 => by
    obtain ⟨a, b⟩ := List.pairwise_cons.1 h2
    simp only [scanL]
    rw [if_neg (by simp [h1 p List.mem_cons_self]), if_pos (a p List.mem_cons_self)]
    exact scan0_back ps p (fun x hx => h1 x (List.mem_cons_of_mem _ hx)) b
theorem checkS_iff {n : Int} {xs : List Lk} : checkS n xs = 0 ↔ (0 ≤ n ∧ n ≤ 64) ∧ (∀ x ∈ xs, badL n x = 0) ∧ xs.Pairwise Lk.lt := by
  constructor
  · exact checkS_ok
  · rintro ⟨h1, h2, h3⟩
    unfold checkS
    rw [if_neg (by omega)]
    cases xs with
    | nil => rfl
    | cons p ps =>
      simp only [scanL]
      rw [if_neg (by simp [h2 p List.mem_cons_self])]
      exact scan0_back ps p (fun x hx => h2 x (List.mem_cons_of_mem _ hx)) h3
theorem stepL_val {nd : Int} {xs : List Lk} {e : Ev} (h : checkS nd xs = 0) (he : FitOk nd e) : checkS nd (stepL xs e) = 0 := by
  obtain ⟨h1, h2, h3⟩ := checkS_iff.1 h
  refine checkS_iff.2 ⟨h1, ?_⟩
  unfold stepL
  by_cases hk : e.kd = 1
  · rw [if_pos hk]
    refine ⟨fun x hx => ?_, setL_asc h3⟩
    rcases mem_setL hx with rfl | hx
    · exact he.badL hk
    · exact h2 x hx
  · rw [if_neg hk]
    exact ⟨fun x hx => h2 x (List.mem_filter.1 hx).1, h3.sublist List.filter_sublist⟩
theorem filter_val {nd : Int} {xs : List Lk} {P : Lk → Bool} (h : checkS nd xs = 0) : checkS nd (xs.filter P) = 0 := by
  obtain ⟨h1, h2, h3⟩ := checkS_iff.1 h
  exact checkS_iff.2 ⟨h1, fun x hx => h2 x (List.mem_filter.1 hx).1, h3.sublist List.filter_sublist⟩
theorem val_uv {nd : Int} {xs : List Lk} (h : checkS nd xs = 0) : ∀ x ∈ xs, 0 ≤ x.u ∧ x.u < x.v ∧ x.v < nd := fun x hx => by
  have h1 := (checkS_ok h).2.1 x hx
  unfold Sl.badL at h1
  split at h1
  · cases h1
  · omega
/-! ### Cutting what is gone -/
theorem cut_hit (nw : Int) {z : Lk} (hz : z.u < z.v) (l : Lk) : hitE (cutEv nw z) l = decide (l.p = z.p) := by
  unfold hitE lkOf cutEv
  simp only [if_true]
  rw [if_neg (by omega), if_pos hz, decide_eq_decide, lk_p]
theorem cuts_filter (nw : Int) : ∀ (zs xs : List Lk), (∀ z ∈ zs, z.u < z.v) → (zs.map (cutEv nw)).foldl stepL xs = xs.filter fun x => zs.all fun z => !decide (x.p = z.p)
  | [], xs, _ => by simp only [List.map_nil, List.foldl_nil, List.all_nil]; exact (List.filter_eq_self.2 fun _ _ => rfl).symm
  | z :: zs, xs, h => by
    have ih := cuts_filter nw zs (xs.filter fun l => !decide (l.p = z.p)) fun y hy => h y (List.mem_cons_of_mem _ hy)
    have hs : stepL xs (cutEv nw z) = xs.filter fun l => !decide (l.p = z.p) := by
      unfold stepL
      rw [if_neg (by show ¬ (2 : Int) = 1; decide)]
      exact List.filter_congr fun l _ => by rw [cut_hit nw (h z List.mem_cons_self)]
    rw [List.map_cons, List.foldl_cons, hs, ih, List.filter_filter]
    exact List.filter_congr fun x _ => by rw [List.all_cons, Bool.and_comm]
theorem asc_p {xs : List Lk} (h : xs.Pairwise Lk.lt) {x y : Lk} (hx : x ∈ xs) (hy : y ∈ xs) (he : x.p = y.p) : x = y := by
  induction xs with
  | nil => cases hx
  | cons l ls ih =>
    obtain ⟨h1, h2⟩ := List.pairwise_cons.1 h
    have hne : ∀ z ∈ ls, l.p ≠ z.p := fun z hz e => by
      have := h1 z hz
      unfold Lk.lt at this
      rw [e] at this
      exact Pt.lin.irr _ this
    rcases List.mem_cons.1 hx with e1 | e1 <;> rcases List.mem_cons.1 hy with e2 | e2
    · rw [e1, e2]
    · exact absurd (e1 ▸ he) (hne y e2)
    · exact absurd (e2 ▸ he.symm) (hne x e1)
    · exact ih h2 e1 e2
/-- The cuts of what is gone leave what is not. -/
theorem gone_steps {nd kd wd mo nw : Int} {xs : List Lk} (h : checkS nd xs = 0) : (goneL kd wd mo nw xs).foldl stepL xs = xs.filter (inW kd wd mo nw xs) := by
  unfold goneL
  rw [cuts_filter nw _ _ fun z hz => (val_uv h z (List.mem_filter.1 hz).1).2.1]
  refine List.filter_congr fun x hx => ?_
  cases hp : inW kd wd mo nw xs x
  · rw [Bool.eq_false_iff]
    intro ha
    have := List.all_eq_true.1 ha x (List.mem_filter.2 ⟨hx, by rw [hp]; rfl⟩)
    simp at this
  · rw [List.all_eq_true]
    intro z hz
    obtain ⟨hz1, hz2⟩ := List.mem_filter.1 hz
    rw [Bool.not_eq_true', decide_eq_false_iff_not]
    intro he
    have := asc_p (checkS_ok h).2.2 hx hz1 he
    subst this
    rw [hp] at hz2
    cases hz2
theorem gone_len (kd wd mo nw : Int) (xs : List Lk) : (goneL kd wd mo nw xs).length + (xs.filter (inW kd wd mo nw xs)).length = xs.length := by
  unfold goneL
  rw [List.length_map]
  generalize inW kd wd mo nw xs = P
  induction xs with
  | nil => rfl
  | cons x xs ih => simp only [List.filter_cons]; cases P x <;> simp <;> omega
theorem gone_fit {nd kd wd mo nw : Int} {xs : List Lk} (h : checkS nd xs = 0) (ht : 0 ≤ nw ∧ nw ≤ 1048576) : ∀ e ∈ goneL kd wd mo nw xs, FitOk nd e := fun e he => by
  unfold goneL at he
  obtain ⟨x, hx, rfl⟩ := List.mem_map.1 he
  have h1 := val_uv h x (List.mem_filter.1 hx).1
  have h2 := (checkS_ok h).1
  exact ⟨by show (1 : Int) ≤ 2 ∧ (2 : Int) ≤ 3; omega, ht, ⟨by show 0 ≤ x.u ∧ x.u < 64; omega, fun h3 => absurd h3 (by show ¬ (2 : Int) = 3; decide), fun _ => by show (0 ≤ x.v ∧ x.v < 64) ∧ x.u ≠ x.v; omega⟩,
    fun h3 => absurd h3 (by show ¬ (2 : Int) = 1; decide), by show x.u < nd ∧ x.v < nd; omega, fun _ => ⟨rfl, rfl, rfl⟩⟩
/-! ### The least time -/
def minT : List Lk → Int
  | [] => 0
  | x :: xs => xs.foldl (fun m y => if y.tm < m then y.tm else m) x.tm
theorem minT_fold : ∀ (xs : List Lk) (m : Int), xs.foldl (fun m y => if y.tm < m then y.tm else m) m ≤ m ∧ (xs.foldl (fun m y => if y.tm < m then y.tm else m) m = m ∨ ∃ x ∈ xs, xs.foldl (fun m y => if y.tm < m then y.tm else m) m = x.tm) ∧ ∀ y ∈ xs, xs.foldl (fun m y => if y.tm < m then y.tm else m) m ≤ y.tm
  | [], m => ⟨Int.le_refl _, .inl rfl, fun y hy => by cases hy⟩
  | x :: xs, m => by
    rw [List.foldl_cons]
    by_cases hx : x.tm < m
    · rw [if_pos hx]
      obtain ⟨h1, h2, h3⟩ := minT_fold xs x.tm
      refine ⟨by omega, ?_, fun y hy => ?_⟩
      · rcases h2 with h2 | ⟨y, hy, h2⟩
        · exact .inr ⟨x, List.mem_cons_self, h2⟩
        · exact .inr ⟨y, List.mem_cons_of_mem _ hy, h2⟩
      · rcases List.mem_cons.1 hy with rfl | hy
        · exact h1
        · exact h3 y hy
    · rw [if_neg hx]
      obtain ⟨h1, h2, h3⟩ := minT_fold xs m
      refine ⟨h1, ?_, fun y hy => ?_⟩
      · rcases h2 with h2 | ⟨y, hy, h2⟩
        · exact .inl h2
        · exact .inr ⟨y, List.mem_cons_of_mem _ hy, h2⟩
      · rcases List.mem_cons.1 hy with rfl | hy
        · omega
        · exact h3 y hy
theorem minT_spec {xs : List Lk} (h : 0 < xs.length) : (∃ x ∈ xs, minT xs = x.tm) ∧ ∀ y ∈ xs, minT xs ≤ y.tm := by
  cases xs with
  | nil => cases h
  | cons x xs =>
    obtain ⟨h1, h2, h3⟩ := minT_fold xs x.tm
    refine ⟨?_, fun y hy => ?_⟩
    · rcases h2 with h2 | ⟨y, hy, h2⟩
      · exact ⟨x, List.mem_cons_self, h2⟩
      · exact ⟨y, List.mem_cons_of_mem _ hy, h2⟩
    · rcases List.mem_cons.1 hy with rfl | hy
      · exact h1
      · exact h3 y hy
theorem minT_uniq {xs : List Lk} {wd z : Int} (h : (∃ x ∈ xs, z = x.tm + wd) ∧ ∀ y ∈ xs, z ≤ y.tm + wd) : z = minT xs + wd := by
  obtain ⟨⟨x, hx, e⟩, h1⟩ := h
  obtain ⟨⟨y, hy, e2⟩, h2⟩ := minT_spec (List.length_pos_of_mem hx)
  have := h1 y hy
  have := h2 x hx
  omega
/-! ### Ageing -/
theorem inW2 (wd mo nw : Int) (xs : List Lk) (x : Lk) : inW 2 wd mo nw xs x = decide (nw - x.tm < wd) := by unfold inW; rw [if_pos rfl]
def ageX (wd mo : Int) (xs : List Lk) : List Lk := xs.filter (inW 2 wd mo (minT xs + wd) xs)
theorem age_less {wd mo : Int} {xs : List Lk} (h : 0 < xs.length) : (ageX wd mo xs).length < xs.length := by
  unfold ageX
  obtain ⟨⟨x, hx, e⟩, _⟩ := minT_spec h
  have h1 := gone_len 2 wd mo (minT xs + wd) xs
  have h2 : 0 < (goneL 2 wd mo (minT xs + wd) xs).length := by
    unfold goneL
    rw [List.length_map]
    refine List.length_pos_of_mem (a := x) (List.mem_filter.2 ⟨hx, ?_⟩)
    rw [inW2, decide_eq_false (by omega)]; rfl
  omega
/-- The links that are left, and all that was put out, when nothing more expires up to T. -/
def ageL (wd mo T : Int) (xs : List Lk) (out : List Ev) : List Lk × List Ev :=
  if h : 0 < xs.length ∧ minT xs + wd ≤ T then ageL wd mo T (ageX wd mo xs) (out ++ goneL 2 wd mo (minT xs + wd) xs) else (xs, out)
termination_by xs.length
decreasing_by exact age_less h.1
theorem ageL_step {wd mo T : Int} {xs : List Lk} {out : List Ev} (h : 0 < xs.length ∧ minT xs + wd ≤ T) : ageL wd mo T xs out = ageL wd mo T (xs.filter (inW 2 wd mo (minT xs + wd) xs)) (out ++ goneL 2 wd mo (minT xs + wd) xs) := by
  rw [ageL, dif_pos h]; rfl
theorem ageL_stop {wd mo T : Int} {xs : List Lk} {out : List Ev} (h : ¬ (0 < xs.length ∧ minT xs + wd ≤ T)) : ageL wd mo T xs out = (xs, out) := by
  rw [ageL, dif_neg h]
/-! ### The stream -/
def windL (kd wd mo : Int) (b : List Lk × List Ev) (T : Int) : List Lk × List Ev := if kd = 3 then (b.1.filter (inW kd wd mo T b.1), b.2 ++ goneL kd wd mo T b.1) else b
def agedL (kd wd mo T : Int) (s : List Lk × List Ev) : List Lk × List Ev := if kd = 2 then ageL wd mo T s.1 s.2 else s
def evStep (kd wd mo : Int) (s : List Lk × List Ev) (e : Ev) : List Lk × List Ev := windL kd wd mo (stepL (agedL kd wd mo e.tm s).1 e, (agedL kd wd mo e.tm s).2 ++ [e]) e.tm
def slideS (kd wd mo : Int) (es : List Ev) : List Lk × List Ev := es.foldl (evStep kd wd mo) ([], [])
def streamS (nd : Int) : Int → List Ev → Int
  | _, [] => 0
  | last, e :: es => if fitE nd e ≠ 0 then fitE nd e else if e.tm < last then 9 else streamS nd e.tm es
def streamE (nd : Int) (es : List Ev) : Int := if nd < 0 ∨ 64 < nd then 1 else if 65536 < es.length then 3 else streamS nd 0 es
def slideE (nd kd wd mo : Int) (es : List Ev) : Int := if checkW kd wd mo ≠ 0 then checkW kd wd mo else streamE nd es
def lastT (es : List Ev) (k : Nat) : Int := if k = 0 then 0 else (at_ es ((k : Int) - 1)).tm
theorem lastT_succ (es : List Ev) (k : Nat) : lastT es (k + 1) = (at_ es (k : Int)).tm := by
  unfold lastT; rw [if_neg (by omega), show ((k + 1 : Nat) : Int) - 1 = (k : Int) by omega]
section
variable {nd : Int} {es : List Ev} {k : Nat}
theorem streamS_step (hk : k < es.length) (h1 : fitE nd (at_ es (k : Int)) = 0) (h2 : ¬ (at_ es (k : Int)).tm < lastT es k) : streamS nd (lastT es k) (es.drop k) = streamS nd (lastT es (k + 1)) (es.drop (k + 1)) := by
  rw [drop_at es k hk, lastT_succ]; simp only [streamS]; rw [if_neg (by simp [h1]), if_neg h2]
theorem streamS_bad (hk : k < es.length) (h1 : fitE nd (at_ es (k : Int)) ≠ 0) : streamS nd (lastT es k) (es.drop k) = fitE nd (at_ es (k : Int)) := by
  rw [drop_at es k hk]; simp only [streamS]; rw [if_pos h1]
theorem streamS_late (hk : k < es.length) (h1 : fitE nd (at_ es (k : Int)) = 0) (h2 : (at_ es (k : Int)).tm < lastT es k) : streamS nd (lastT es k) (es.drop k) = 9 := by
  rw [drop_at es k hk]; simp only [streamS]; rw [if_neg (by simp [h1]), if_pos h2]
theorem streamS_end (hk : es.length ≤ k) : streamS nd (lastT es k) (es.drop k) = 0 := by rw [List.drop_eq_nil_of_le hk]; rfl
theorem streamS_all (h : streamS nd 0 es = 0) : ∀ k, k ≤ es.length → streamS nd (lastT es k) (es.drop k) = 0 ∧ ∀ j, j < k → FitOk nd (at_ es (j : Int)) ∧ lastT es j ≤ (at_ es (j : Int)).tm
  | 0, _ => ⟨h, fun j hj => absurd hj (Nat.not_lt_zero _)⟩
  | k + 1, hk => by
    obtain ⟨h1, h2⟩ := streamS_all h k (by omega)
    have h3 : fitE nd (at_ es (k : Int)) = 0 := Classical.byContradiction fun hc => hc (by rw [streamS_bad (by omega) hc] at h1; exact h1)
    have h4 : ¬ (at_ es (k : Int)).tm < lastT es k := fun hc => by rw [streamS_late (by omega) h3 hc] at h1; cases h1
    refine ⟨by rw [← streamS_step (by omega) h3 h4]; exact h1, fun j hj => ?_⟩
    rcases Nat.lt_succ_iff_lt_or_eq.1 hj with hj | rfl
    · exact h2 j hj
    · exact ⟨fitE_ok.1 h3, by omega⟩
structure StOk (nd : Int) (es : List Ev) : Prop where
  nodes : 0 ≤ nd ∧ nd ≤ 64
  len : es.length ≤ 65536
  fit : ∀ j : Nat, j < es.length → FitOk nd (at_ es (j : Int))
  asc : ∀ j : Nat, j < es.length → lastT es j ≤ (at_ es (j : Int)).tm
theorem streamE_ok (h : streamE nd es = 0) : StOk nd es := by
  unfold streamE at h
  by_cases h1 : nd < 0 ∨ 64 < nd
  · rw [if_pos h1] at h; cases h
  rw [if_neg h1] at h
  by_cases h2 : 65536 < es.length
  · rw [if_pos h2] at h; cases h
  rw [if_neg h2] at h
  have h3 := (streamS_all h es.length (Nat.le_refl _)).2
  exact ⟨by omega, by omega, fun j hj => (h3 j hj).1, fun j hj => (h3 j hj).2⟩
end
theorem slideS_succ {kd wd mo : Int} {es : List Ev} {k : Nat} (hk : k < es.length) : slideS kd wd mo (es.take (k + 1)) = evStep kd wd mo (slideS kd wd mo (es.take k)) (at_ es (k : Int)) := by
  unfold slideS; rw [take_at es k hk, List.foldl_append]; rfl
theorem steps_succ {xs : List Lk} {es : List Ev} {k : Nat} (hk : k < es.length) : (es.take (k + 1)).foldl stepL xs = stepL ((es.take k).foldl stepL xs) (at_ es (k : Int)) := by
  rw [take_at es k hk, List.foldl_append]; rfl
theorem out_succ {out es : List Ev} {k : Nat} (hk : k < es.length) : out ++ es.take (k + 1) = out ++ es.take k ++ [at_ es (k : Int)] := by
  rw [take_at es k hk, List.append_assoc]
theorem steps_len : ∀ (es : List Ev) (xs : List Lk), (es.foldl stepL xs).length ≤ xs.length + es.length
  | [], xs => Nat.le_refl _
  | e :: es, xs => by
    have h1 := steps_len es (stepL xs e)
    have h2 := stepL_len xs e
    rw [List.foldl_cons, List.length_cons]; omega
/-! ### What holds on the way -/
structure SlI (nd kd wd : Int) (last : Int) (xs : List Lk) : Prop where
  val : checkS nd xs = 0
  tm : ∀ x ∈ xs, x.tm ≤ last
  al : kd = 2 → ∀ x ∈ xs, last < x.tm + wd
section
variable {nd kd wd mo last T : Int} {xs : List Lk} {out : List Ev}
theorem SlI.nil (h : 0 ≤ nd ∧ nd ≤ 64) : SlI nd kd wd last [] := ⟨checkS_iff.2 ⟨h, fun x hx => (by cases hx), List.Pairwise.nil⟩, fun x hx => (by cases hx), fun _ x hx => (by cases hx)⟩
theorem SlI.filter (h : SlI nd kd wd last xs) (P : Lk → Bool) : SlI nd kd wd last (xs.filter P) :=
  ⟨filter_val h.val, fun x hx => h.tm x (List.mem_filter.1 hx).1, fun hk x hx => h.al hk x (List.mem_filter.1 hx).1⟩
theorem SlI.later (h : SlI nd kd wd last xs) (hT : last ≤ T) (hk : kd = 2 → ¬ (0 < xs.length ∧ minT xs + wd ≤ T)) : SlI nd kd wd T xs :=
  ⟨h.val, fun x hx => by have := h.tm x hx; omega, fun h2 x hx => by
    have h3 := hk h2
    have h4 : 0 < xs.length := List.length_pos_of_mem hx
    have h5 := (minT_spec h4).2 x hx
    omega⟩
theorem SlI.step (h : SlI nd kd wd T xs) {e : Ev} (he : FitOk nd e) (ht : e.tm = T) (hw : kd = 2 → 1 ≤ wd) : SlI nd kd wd T (stepL xs e) := by
  have key : ∀ x ∈ stepL xs e, x.tm = T ∨ x ∈ xs := fun x hx => by
    unfold stepL at hx
    split at hx
    · rcases mem_setL hx with rfl | hx
      · exact .inl ht
      · exact .inr hx
    · exact .inr (List.mem_filter.1 hx).1
  refine ⟨stepL_val h.val he, fun x hx => ?_, fun hk x hx => ?_⟩
  · rcases key x hx with h1 | h1
    · omega
    · exact h.tm x h1
  · rcases key x hx with h1 | h1
    · have := hw hk; omega
    · exact h.al hk x h1
theorem SlI.ask (h : SlI nd kd wd last xs) (hc : checkW kd wd mo = 0) {t : Int} (ht : 0 ≤ t ∧ t ≤ 1048576) (hl : last ≤ t) : askE nd xs kd wd mo t = 0 := by
  unfold askE
  rw [if_neg (by simp [hc]), if_neg (by simp [h.val]), if_neg]
  rintro (h1 | h1 | h1)
  · omega
  · omega
  · obtain ⟨x, hx, h2⟩ := List.any_eq_true.1 h1
    have := h.tm x hx
    have := of_decide_eq_true h2
    omega
/-- The time at which the first link expires lies behind the last event. -/
theorem SlI.first (h : SlI nd kd wd last xs) (hk : kd = 2) (h0 : 0 < xs.length) : last < minT xs + wd := by
  obtain ⟨⟨x, hx, e⟩, _⟩ := minT_spec h0
  have := h.al hk x hx
  omega
end
end Go.Sl
/- Windows: setting and cutting links in place. The plain laws. No Go. No conditions. -/
namespace Go.Sl
set_option linter.unusedVariables false
set_option linter.unusedSectionVars false
theorem Lk.cmp_zero (a b : Lk) : Lk.cmp a b = 0 ↔ a.p = b.p := Pt.cmp_zero _ _
theorem setL_app {n : Lk} {ys : List Lk} : ∀ (xs : List Lk), (∀ x ∈ xs, Lk.lt x n) → setL n (xs ++ ys) = xs ++ setL n ys
  | [], _ => rfl
  | x :: xs, h => by
    have h1 := h x List.mem_cons_self
    rw [List.cons_append, List.cons_append]
    conv => lhs; unfold setL
    rw [if_neg (show ¬ Lk.lt n x from fun h2 => Pt.lin.asymm h1 h2), if_neg (fun h2 => by unfold Lk.lt at h1; rw [h2] at h1; exact Pt.lin.irr _ h1), setL_app xs fun y hy => h y (List.mem_cons_of_mem _ hy)]
section
variable {xs : List Lk} {n : Lk} {i : Nat} {q : Bool}
theorem lk_below (h : BFound Lk.cmp xs n i q) (ha : xs.Pairwise Lk.lt) : ∀ x ∈ xs.take i, Lk.lt x n := fun x hx => by
  obtain ⟨j, hj, rfl⟩ := List.getElem_of_mem hx
  rw [List.length_take] at hj
  have hle := h.le
  have e : (xs.take i)[j] = at_ xs (j : Int) := by rw [at_get xs j (by omega)]; simp
  rw [e]
  have h1 := (Lk.cmp_lt _ _).1 (h.low (by omega))
  rw [show (i : Int) - 1 = ((i - 1 : Nat) : Int) by omega] at h1
  by_cases hq : j = i - 1
  · rw [hq]; exact h1
  · exact Pt.lin.tr _ _ _ ((pairwise_at xs).1 ha j (i - 1) (by omega) (by omega)) h1
theorem setL_new (h : BFound Lk.cmp xs n i q) (ha : xs.Pairwise Lk.lt) (hq : q = false) : setL n xs = xs.take i ++ [n] ++ xs.drop i := by
  conv => lhs; rw [← List.take_append_drop i xs]
  rw [setL_app _ (lk_below h ha), List.append_assoc]
  congr 1
  rcases Nat.lt_or_ge i xs.length with hi | hi
  · have h1 := h.is
    rw [hq] at h1
    have h2 := of_decide_eq_false h1.symm
    have h3 := h.high hi
    rw [Lk.cmp_lt] at h3
    rw [drop_at xs i hi]
    unfold setL
    rw [Lk.cmp_zero] at h2
    have h4 : (at_ xs (i : Int)).p ≠ n.p := fun e => h2 ⟨hi, e⟩
    rw [if_pos, List.singleton_append]
    rcases Pt.lin.tri n.p (at_ xs (i : Int)).p with h5 | h5 | h5
    · exact h5
    · exact absurd h5.symm h4
    · exact absurd h5 h3
  · rw [List.drop_eq_nil_of_le hi]; rfl
theorem setL_there (h : BFound Lk.cmp xs n i q) (ha : xs.Pairwise Lk.lt) (hq : q = true) : i < xs.length ∧ setL n xs = xs.set i n := by
  have h1 := h.is
  rw [hq] at h1
  obtain ⟨hi, h2⟩ := of_decide_eq_true h1.symm
  refine ⟨hi, ?_⟩
  rw [Lk.cmp_zero] at h2
  conv => lhs; rw [← List.take_append_drop i xs]
  rw [setL_app _ (lk_below h ha), drop_at xs i hi]
  unfold setL
  rw [if_neg (fun h3 => by unfold Lk.lt at h3; rw [h2] at h3; exact Pt.lin.irr _ h3), if_pos h2, List.set_eq_take_append_cons_drop, if_pos hi]
theorem set_self (hi : i < xs.length) (h : at_ xs (i : Int) = n) : xs.set i n = xs := by
  rw [← h, at_get xs i hi]; exact List.set_getElem_self hi
end
/-! ### Cutting in place -/
section
variable {P : Lk → Bool} {xs : List Lk} {j : Nat}
def keptN (P : Lk → Bool) (xs : List Lk) (j : Nat) : Nat := ((xs.take j).filter P).length
def keepL (P : Lk → Bool) (xs : List Lk) (j : Nat) : List Lk := (xs.take j).filter P ++ xs.drop j
theorem keepL_zero : keepL P xs 0 = xs := by simp [keepL]
theorem keptN_zero : keptN P xs 0 = 0 := by simp [keptN]
theorem keepL_end (h : xs.length ≤ j) : keepL P xs j = xs.filter P := by unfold keepL; rw [List.take_of_length_le h, List.drop_eq_nil_of_le h, List.append_nil]
theorem keepL_len : (keepL P xs j).length = keptN P xs j + (xs.length - j) := by simp [keepL, keptN]
theorem keptN_le : keptN P xs j ≤ j := by
  unfold keptN
  have := List.length_filter_le P (xs.take j)
  rw [List.length_take] at this
  omega
theorem keepL_at (h : j < xs.length) : at_ (keepL P xs j) (keptN P xs j : Int) = at_ xs (j : Int) := by
  have hl := keepL_len (P := P) (xs := xs) (j := j)
  rw [at_get _ _ (by omega), at_get xs j h]
  unfold keepL keptN
  rw [List.getElem_append_right (Nat.le_refl _)]
  simp
theorem keep_yes (h : j < xs.length) (hp : P (at_ xs (j : Int)) = true) : keepL P xs (j + 1) = keepL P xs j ∧ keptN P xs (j + 1) = keptN P xs j + 1 := by
  unfold keepL keptN
  rw [take_at xs j h, List.filter_append, drop_at xs j h]
  simp [hp]
theorem keep_no (h : j < xs.length) (hp : P (at_ xs (j : Int)) = false) : keptN P xs (j + 1) = keptN P xs j := by
  unfold keptN
  rw [take_at xs j h, List.filter_append]
  simp [hp]
theorem keep_copy (h : j < xs.length) (hp : P (at_ xs (j : Int)) = false) {q : Nat} (hq : q = xs.length - j - 1) :
    (keepL P xs j).take (keptN P xs j) ++ ((keepL P xs j).drop (keptN P xs j + 1)).take q ++ (keepL P xs j).drop (keptN P xs j + q) = keepL P xs (j + 1) ++ (keepL P xs j).drop (keptN P xs j + q) := by
  congr 1
  have e : keepL P xs j = (xs.take j).filter P ++ (at_ xs (j : Int) :: xs.drop (j + 1)) := by unfold keepL; rw [← drop_at xs j h]
  have e2 : keepL P xs (j + 1) = (xs.take j).filter P ++ xs.drop (j + 1) := by
    unfold keepL
    rw [take_at xs j h, List.filter_append]
    simp [hp]
  have e3 : keptN P xs j = ((xs.take j).filter P).length := rfl
  rw [e2, e, e3]
  generalize (xs.take j).filter P = A
  rw [List.take_left' rfl, show A.length + 1 = (A ++ [at_ xs (j : Int)]).length by simp, show A ++ at_ xs (j : Int) :: xs.drop (j + 1) = (A ++ [at_ xs (j : Int)]) ++ xs.drop (j + 1) by simp, List.drop_left' rfl, List.take_of_length_le (by rw [List.length_drop]; omega)]
theorem keep_take {zs : List Lk} {m : Nat} (hm : m = (keepL P xs (j + 1)).length) : (keepL P xs (j + 1) ++ zs).take m = keepL P xs (j + 1) := by
  rw [hm]; exact List.take_left' rfl
end
theorem fitgone {nd kd wd mo nw : Int} {xs : List Lk} (h : checkS nd xs = 0) (ht : 0 ≤ nw ∧ nw ≤ 1048576) : ∀ j : Nat, j < (goneL kd wd mo nw xs).length → FitOk nd (at_ (goneL kd wd mo nw xs) (j : Int)) := fun j hj => gone_fit h ht _ (at_mem (by omega) (by omega))
theorem fitone {nd : Int} {e : Ev} (h : FitOk nd e) : ∀ j : Nat, j < [e].length → FitOk nd (at_ [e] (j : Int)) := fun j hj => by
  obtain rfl : j = 0 := by simpa using hj
  exact h
end Go.Sl
namespace Go.Sl
open Go.Proofs
set_option linter.unusedVariables false
set_option linter.unusedSimpArgs false
set_option maxRecDepth 4000
theorem NodeE_ok {κ : Ctx} {I : List Item} (n : Int) :
    CallS Try.prog κ 267 [I64 (n)] I (fun r J => r = .bool (decide (0 ≤ n ∧ n < 64)) ∧ I = J) := by
 refine CallS.enter (L := [(0, I64 (n))]) Try.func267 rfl rfl rfl rfl ?_
 refine W.sr ?_
 refine G.r (Runs.assign rfl) ?_
 refine G.nt ?_
 refine W.sr ?_
 refine G.r (Runs.move rfl) ?_
 refine G.r (Runs.geq rfl rfl) ?_
 refine G.r (Runs.move rfl) ?_
 refine G.split (d := 5) rfl (fun g5 => ?_) (fun g5 => ?_)
 ·refine G.ro (Runs.move rfl) ?_
  refine G.ro (Runs.lss rfl rfl) ?_
  refine G.r (Runs.pickt rfl rfl) ?_
  refine G.r (Runs.assign rfl) ?_
  refine G.nt ?_
  refine W.ret ?_
  exact V.ret1 rfl rfl (I) Fit.m ⟨(by first | exact congrArg Value.bool (decide_eq_decide.2 (by skip; omega)) | exact congrArg Value.bool (decide_eq_true (by skip; omega)).symm | exact congrArg Value.bool (decide_eq_false (by skip; omega)).symm), rfl⟩
 ·refine G.po ?_
  refine G.po ?_
  refine G.r (Runs.pickf rfl rfl) ?_
  refine G.r (Runs.assign rfl) ?_
  refine G.nt ?_
  refine W.ret ?_
  exact V.ret1 rfl rfl (I) Fit.m ⟨(by first | exact congrArg Value.bool (decide_eq_decide.2 (by skip; omega)) | exact congrArg Value.bool (decide_eq_true (by skip; omega)).symm | exact congrArg Value.bool (decide_eq_false (by skip; omega)).symm), rfl⟩

theorem EndsE_ok {κ : Ctx} {I : List Item} (e : Ev) :
    CallS Try.prog κ 246 [.agg #[I64 (e.kd), I64 (e.tm), I64 (e.u), I64 (e.v), I64 (e.w), I64 (e.lb), I64 (e.sg)]] I (fun r J => r = .bool (decide (endsE e)) ∧ I = J) := by
 refine CallS.enter (L := [(0, .agg #[I64 (e.kd), I64 (e.tm), I64 (e.u), I64 (e.v), I64 (e.w), I64 (e.lb), I64 (e.sg)])]) Try.func246 rfl rfl rfl rfl ?_
 refine W.sr ?_
 refine G.e (Eff.box (cs := [_, _, _, _, _, _, _]) rfl rfl rfl) ?_
 rintro _ _ ⟨b1, rfl, rfl⟩
 refine G.r (Runs.assign rfl) ?_
 refine G.nt ?_
 refine W.seq ?_
 refine W.sr ?_
 refine G.r (Runs.fieldAddr fld122_0 rfl) ?_
 refine G.r (Runs.ld ty3) ?_
 refine G.r (Runs.eql rfl rfl) ?_
 refine G.nt ?_
 refine W.ite rfl (fun c5 => ?_) (fun c5 => ?_)
 ·refine W.sr ?_
  refine G.r (Runs.fieldAddr fld122_2 rfl) ?_
  refine G.r (Runs.ld ty3) ?_
  refine G.e (Eff.call call267 rfl rfl (NodeE_ok e.u)) ?_
  rintro _ _ ⟨_, _, ⟨rfl, rfl⟩, rfl, rfl⟩
  refine G.r (Runs.move rfl) ?_
  refine G.split (d := 9) rfl (fun g9 => ?_) (fun g9 => ?_)
  ·refine G.ro (Runs.fieldAddr fld122_3 rfl) ?_
   refine G.ro (Runs.ld ty3) ?_
   refine G.ro (Runs.eql rfl rfl) ?_
   refine G.r (Runs.pickt rfl rfl) ?_
   refine G.r (Runs.assign rfl) ?_
   refine G.nt ?_
   refine W.sub (L' := [(2, _)]) (Sub.cons rfl Sub.nil) ?_
   refine W.ret ?_
   refine V.then_ret ?_
   exact V.ret1 rfl rfl (I) Fit.m ⟨(by first | exact congrArg Value.bool (decide_eq_decide.2 (by unfold endsE; omega)) | exact congrArg Value.bool (decide_eq_true (by unfold endsE; omega)).symm | exact congrArg Value.bool (decide_eq_false (by unfold endsE; omega)).symm), rfl⟩
  ·refine G.po ?_
   refine G.po ?_
   refine G.po ?_
   refine G.r (Runs.pickf rfl rfl) ?_
   refine G.r (Runs.assign rfl) ?_
   refine G.nt ?_
   refine W.sub (L' := [(2, _)]) (Sub.cons rfl Sub.nil) ?_
   refine W.ret ?_
   refine V.then_ret ?_
   exact V.ret1 rfl rfl (I) Fit.m ⟨(by first | exact congrArg Value.bool (decide_eq_decide.2 (by unfold endsE; omega)) | exact congrArg Value.bool (decide_eq_true (by unfold endsE; omega)).symm | exact congrArg Value.bool (decide_eq_false (by unfold endsE; omega)).symm), rfl⟩
 ·refine W.skip ?_
  refine V.then ?_
  refine W.sr ?_
  refine G.r (Runs.fieldAddr fld122_2 rfl) ?_
  refine G.r (Runs.ld ty3) ?_
  refine G.e (Eff.call call267 rfl rfl (NodeE_ok e.u)) ?_
  rintro _ _ ⟨_, _, ⟨rfl, rfl⟩, rfl, rfl⟩
  refine G.r (Runs.move rfl) ?_
  refine G.split (d := 17) rfl (fun g17 => ?_) (fun g17 => ?_)
  ·refine G.ro (Runs.fieldAddr fld122_3 rfl) ?_
   refine G.ro (Runs.ld ty3) ?_
   refine G.eff (Wanted.on rfl rfl rfl) (Eff.call call267 rfl rfl (NodeE_ok e.v)) ?_
   rintro _ _ ⟨_, _, ⟨rfl, rfl⟩, rfl, rfl⟩
   refine G.r (Runs.pickt rfl rfl) ?_
   refine G.r (Runs.move rfl) ?_
   refine G.split (d := 22) rfl (fun g22 => ?_) (fun g22 => ?_)
   ·refine G.ro (Runs.fieldAddr fld122_2 rfl) ?_
    refine G.ro (Runs.ld ty3) ?_
    refine G.ro (Runs.fieldAddr fld122_3 rfl) ?_
    refine G.ro (Runs.ld ty3) ?_
    refine G.ro (Runs.neq rfl rfl) ?_
    refine G.r (Runs.pickt rfl rfl) ?_
    refine G.r (Runs.assign rfl) ?_
    refine G.nt ?_
    refine W.sub (L' := [(2, _)]) (Sub.cons rfl Sub.nil) ?_
    refine W.ret ?_
    exact V.ret1 rfl rfl (I) Fit.m ⟨(by first | exact congrArg Value.bool (decide_eq_decide.2 (by unfold endsE; omega)) | exact congrArg Value.bool (decide_eq_true (by unfold endsE; omega)).symm | exact congrArg Value.bool (decide_eq_false (by unfold endsE; omega)).symm), rfl⟩
   ·refine G.po ?_
    refine G.po ?_
    refine G.po ?_
    refine G.po ?_
    refine G.po ?_
    refine G.r (Runs.pickf rfl rfl) ?_
    refine G.r (Runs.assign rfl) ?_
    refine G.nt ?_
    refine W.sub (L' := [(2, _)]) (Sub.cons rfl Sub.nil) ?_
    refine W.ret ?_
    exact V.ret1 rfl rfl (I) Fit.m ⟨(by first | exact congrArg Value.bool (decide_eq_decide.2 (by unfold endsE; omega)) | exact congrArg Value.bool (decide_eq_true (by unfold endsE; omega)).symm | exact congrArg Value.bool (decide_eq_false (by unfold endsE; omega)).symm), rfl⟩
  ·refine G.po ?_
   refine G.po ?_
   refine G.po ?_
   refine G.r (Runs.pickf rfl rfl) ?_
   refine G.r (Runs.move rfl) ?_
   refine G.po ?_
   refine G.po ?_
   refine G.po ?_
   refine G.po ?_
   refine G.po ?_
   refine G.r (Runs.pickf rfl rfl) ?_
   refine G.r (Runs.assign rfl) ?_
   refine G.nt ?_
   refine W.sub (L' := [(2, _)]) (Sub.cons rfl Sub.nil) ?_
   refine W.ret ?_
   exact V.ret1 rfl rfl (I) Fit.m ⟨(by first | exact congrArg Value.bool (decide_eq_decide.2 (by unfold endsE; omega)) | exact congrArg Value.bool (decide_eq_true (by unfold endsE; omega)).symm | exact congrArg Value.bool (decide_eq_false (by unfold endsE; omega)).symm), rfl⟩

theorem CheckE_ok {κ : Ctx} {I : List Item} (e : Ev) :
    CallS Try.prog κ 205 [.agg #[I64 (e.kd), I64 (e.tm), I64 (e.u), I64 (e.v), I64 (e.w), I64 (e.lb), I64 (e.sg)]] I (fun r J => r = I64 (checkE e) ∧ I = J) := by
 refine CallS.enter (L := [(0, .agg #[I64 (e.kd), I64 (e.tm), I64 (e.u), I64 (e.v), I64 (e.w), I64 (e.lb), I64 (e.sg)])]) Try.func205 rfl rfl rfl rfl ?_
 refine W.sr ?_
 refine G.e (Eff.box (cs := [_, _, _, _, _, _, _]) rfl rfl rfl) ?_
 rintro _ _ ⟨b1, rfl, rfl⟩
 refine G.r (Runs.assign rfl) ?_
 refine G.nt ?_
 refine W.seq ?_
 refine W.block ?_
 refine W.sr ?_
 refine G.r (Runs.fieldAddr fld122_0 rfl) ?_
 refine G.r (Runs.ld ty3) ?_
 refine G.r (Runs.lss rfl rfl) ?_
 refine G.r (Runs.move rfl) ?_
 refine G.split (d := 7) rfl (fun g7 => ?_) (fun g7 => ?_)
 ·refine G.po ?_
  refine G.po ?_
  refine G.po ?_
  refine G.r (Runs.pickt rfl rfl) ?_
  refine G.r (Runs.assign rfl) ?_
  refine G.nt ?_
  refine W.yes rfl ?_
  refine W.sr ?_
  refine G.r (Runs.assign rfl) ?_
  refine G.nt ?_
  refine W.sub (L' := [(2, _)]) (Sub.cons rfl Sub.nil) ?_
  refine W.ret ?_
  refine V.block_ret ?_
  refine V.then_ret ?_
  exact V.ret1 rfl rfl (I) Fit.m ⟨by rw [show checkE e = 8 from checkE_eight (by omega)], rfl⟩
 ·refine G.ro (Runs.fieldAddr fld122_0 rfl) ?_
  refine G.ro (Runs.ld ty3) ?_
  refine G.ro (Runs.gtr rfl rfl) ?_
  refine G.r (Runs.pickf rfl rfl) ?_
  refine G.r (Runs.assign rfl) ?_
  refine G.nt ?_
  refine W.ite rfl (fun c3 => ?_) (fun c3 => ?_)
  ·refine W.sr ?_
   refine G.r (Runs.assign rfl) ?_
   refine G.nt ?_
   refine W.sub (L' := [(2, _)]) (Sub.cons rfl Sub.nil) ?_
   refine W.ret ?_
   refine V.block_ret ?_
   refine V.then_ret ?_
   exact V.ret1 rfl rfl (I) Fit.m ⟨by rw [show checkE e = 8 from checkE_eight (by omega)], rfl⟩
  ·refine W.sr ?_
   refine G.r (Runs.fieldAddr fld122_1 rfl) ?_
   refine G.r (Runs.ld ty3) ?_
   refine G.r (Runs.lss rfl rfl) ?_
   refine G.r (Runs.move rfl) ?_
   refine G.split (d := 16) rfl (fun g16 => ?_) (fun g16 => ?_)
   ·refine G.po ?_
    refine G.po ?_
    refine G.po ?_
    refine G.r (Runs.pickt rfl rfl) ?_
    refine G.r (Runs.assign rfl) ?_
    refine G.nt ?_
    refine W.sub (L' := [(12, _), (1, _)]) (Sub.cons rfl (Sub.cons rfl Sub.nil)) ?_
    refine W.yes rfl ?_
    refine W.sr ?_
    refine G.r (Runs.assign rfl) ?_
    refine G.nt ?_
    refine W.ret ?_
    refine V.block_ret ?_
    refine V.then_ret ?_
    exact V.ret1 rfl rfl (I) Fit.m ⟨by rw [show checkE e = 9 from checkE_nine (by omega) (by omega)], rfl⟩
   ·refine G.ro (Runs.fieldAddr fld122_1 rfl) ?_
    refine G.ro (Runs.ld ty3) ?_
    refine G.ro (Runs.gtr rfl rfl) ?_
    refine G.r (Runs.pickf rfl rfl) ?_
    refine G.r (Runs.assign rfl) ?_
    refine G.nt ?_
    refine W.sub (L' := [(12, _), (1, _)]) (Sub.cons rfl (Sub.cons rfl Sub.nil)) ?_
    refine W.ite rfl (fun c12 => ?_) (fun c12 => ?_)
    ·refine W.sr ?_
     refine G.r (Runs.assign rfl) ?_
     refine G.nt ?_
     refine W.ret ?_
     refine V.block_ret ?_
     refine V.then_ret ?_
     exact V.ret1 rfl rfl (I) Fit.m ⟨by rw [show checkE e = 9 from checkE_nine (by omega) (by omega)], rfl⟩
    ·refine W.sr ?_
     refine G.r (Runs.lds (vs := [_, _, _, _, _, _, _]) ty122) ?_
     refine G.e (Eff.call call246 rfl rfl (EndsE_ok e)) ?_
     rintro _ _ ⟨_, _, ⟨rfl, rfl⟩, rfl, rfl⟩
     refine G.r (Runs.notd rfl) ?_
     refine G.r (Runs.assign rfl) ?_
     refine G.nt ?_
     refine W.ite rfl (fun c21 => ?_) (fun c21 => ?_)
     ·refine W.sr ?_
      refine G.r (Runs.assign rfl) ?_
      refine G.nt ?_
      refine W.ret ?_
      refine V.block_ret ?_
      refine V.then_ret ?_
      exact V.ret1 rfl rfl (I) Fit.m ⟨by rw [show checkE e = 6 from checkE_six (by omega) (by omega) (by first | assumption | (unfold endsE; omega))], rfl⟩
     ·refine W.sr ?_
      refine G.r (Runs.fieldAddr fld122_0 rfl) ?_
      refine G.r (Runs.ld ty3) ?_
      refine G.r (Runs.eql rfl rfl) ?_
      refine G.r (Runs.move rfl) ?_
      refine G.split (d := 29) rfl (fun g29 => ?_) (fun g29 => ?_)
      ·refine G.ro (Runs.fieldAddr fld122_4 rfl) ?_
       refine G.ro (Runs.ld ty3) ?_
       refine G.ro (Runs.fieldAddr fld122_5 rfl) ?_
       refine G.ro (Runs.ld ty3) ?_
       refine G.ro (Runs.fieldAddr fld122_6 rfl) ?_
       refine G.ro (Runs.ld ty3) ?_
       refine G.eff (Wanted.on rfl rfl rfl) (Eff.call call187 rfl rfl (RightW_ok e.w e.lb e.sg)) ?_
       rintro _ _ ⟨_, _, ⟨rfl, rfl⟩, rfl, rfl⟩
       refine G.ro (Runs.notd rfl) ?_
       refine G.r (Runs.pickt rfl rfl) ?_
       refine G.r (Runs.assign rfl) ?_
       refine G.nt ?_
       refine W.sub (L' := [(25, _), (1, _)]) (Sub.cons rfl (Sub.cons rfl Sub.nil)) ?_
       refine W.ite rfl (fun c25 => ?_) (fun c25 => ?_)
       ·refine W.sr ?_
        refine G.r (Runs.assign rfl) ?_
        refine G.nt ?_
        refine W.ret ?_
        refine V.block_ret ?_
        refine V.then_ret ?_
        exact V.ret1 rfl rfl (I) Fit.m ⟨by rw [show checkE e = 1 from checkE_one (by omega) (by omega) (by first | assumption | exact Classical.not_not.1 (by assumption) | (unfold endsE; omega)) (by first | (exact .inr (by omega)) | exact .inl ⟨by omega, by assumption⟩ | exact .inl ⟨by omega, fun h => by simp_all⟩)], rfl⟩
       ·refine W.sr ?_
        refine G.r (Runs.fieldAddr fld122_0 rfl) ?_
        refine G.r (Runs.ld ty3) ?_
        refine G.r (Runs.neq rfl rfl) ?_
        refine G.r (Runs.move rfl) ?_
        refine G.split (d := 43) rfl (fun g43 => ?_) (fun g43 => ?_)
        ·refine G.ro (Runs.fieldAddr fld122_4 rfl) ?_
         refine G.ro (Runs.ld ty3) ?_
         refine G.ro (Runs.neq rfl rfl) ?_
         refine G.ro (Runs.move rfl) ?_
         refine G.split (d := 47) rfl (fun g47 => ?_) (fun g47 => ?_)
         ·refine G.po ?_
          refine G.po ?_
          refine G.po ?_
          refine G.ro (Runs.pickt rfl rfl) ?_
          refine G.ro (Runs.move rfl) ?_
          refine G.po ?_
          refine G.po ?_
          refine G.po ?_
          refine G.ro (Runs.pickt rfl rfl) ?_
          refine G.r (Runs.pickt rfl rfl) ?_
          refine G.r (Runs.assign rfl) ?_
          refine G.nt ?_
          refine W.sub (L' := [(39, _)]) (Sub.cons rfl Sub.nil) ?_
          refine W.yes rfl ?_
          refine W.sr ?_
          refine G.r (Runs.assign rfl) ?_
          refine G.nt ?_
          refine W.ret ?_
          refine V.block_ret ?_
          refine V.then_ret ?_
          exact V.ret1 rfl rfl (I) Fit.m ⟨by rw [show checkE e = 1 from checkE_one (by omega) (by omega) (by first | assumption | exact Classical.not_not.1 (by assumption) | (unfold endsE; omega)) (by first | (exact .inr (by omega)) | exact .inl ⟨by omega, by assumption⟩ | exact .inl ⟨by omega, fun h => by simp_all⟩)], rfl⟩
         ·refine G.ro (Runs.fieldAddr fld122_5 rfl) ?_
          refine G.ro (Runs.ld ty3) ?_
          refine G.ro (Runs.neq rfl rfl) ?_
          refine G.ro (Runs.pickf rfl rfl) ?_
          refine G.ro (Runs.move rfl) ?_
          refine G.split (d := 52) rfl (fun g52 => ?_) (fun g52 => ?_)
          ·refine G.po ?_
           refine G.po ?_
           refine G.po ?_
           refine G.ro (Runs.pickt rfl rfl) ?_
           refine G.r (Runs.pickt rfl rfl) ?_
           refine G.r (Runs.assign rfl) ?_
           refine G.nt ?_
           refine W.sub (L' := [(39, _)]) (Sub.cons rfl Sub.nil) ?_
           refine W.yes rfl ?_
           refine W.sr ?_
           refine G.r (Runs.assign rfl) ?_
           refine G.nt ?_
           refine W.ret ?_
           refine V.block_ret ?_
           refine V.then_ret ?_
           exact V.ret1 rfl rfl (I) Fit.m ⟨by rw [show checkE e = 1 from checkE_one (by omega) (by omega) (by first | assumption | exact Classical.not_not.1 (by assumption) | (unfold endsE; omega)) (by first | (exact .inr (by omega)) | exact .inl ⟨by omega, by assumption⟩ | exact .inl ⟨by omega, fun h => by simp_all⟩)], rfl⟩
          ·refine G.ro (Runs.fieldAddr fld122_6 rfl) ?_
           refine G.ro (Runs.ld ty3) ?_
           refine G.ro (Runs.neq rfl rfl) ?_
           refine G.ro (Runs.pickf rfl rfl) ?_
           refine G.r (Runs.pickt rfl rfl) ?_
           refine G.r (Runs.assign rfl) ?_
           refine G.nt ?_
           refine W.sub (L' := [(39, _)]) (Sub.cons rfl Sub.nil) ?_
           refine W.ite rfl (fun c39 => ?_) (fun c39 => ?_)
           ·refine W.sr ?_
            refine G.r (Runs.assign rfl) ?_
            refine G.nt ?_
            refine W.ret ?_
            refine V.block_ret ?_
            refine V.then_ret ?_
            exact V.ret1 rfl rfl (I) Fit.m ⟨by rw [show checkE e = 1 from checkE_one (by omega) (by omega) (by first | assumption | exact Classical.not_not.1 (by assumption) | (unfold endsE; omega)) (by first | (exact .inr (by omega)) | exact .inl ⟨by omega, by assumption⟩ | exact .inl ⟨by omega, fun h => by simp_all⟩)], rfl⟩
           ·refine W.skip ?_
            refine V.block_normal ?_
            refine V.then ?_
            refine W.sr ?_
            refine G.r (Runs.assign rfl) ?_
            refine G.nt ?_
            refine W.ret ?_
            exact V.ret1 rfl rfl (I) Fit.m ⟨by rw [show checkE e = 0 from checkE_zero (by omega) (by omega) (by first | assumption | exact Classical.not_not.1 (by assumption) | (unfold endsE; omega)) (fun h => by first | (exfalso; omega) | assumption | exact Classical.not_not.1 (by assumption)) (fun h => by omega)], rfl⟩
        ·refine G.po ?_
         refine G.po ?_
         refine G.po ?_
         refine G.po ?_
         refine G.pu ?_
         refine G.pu ?_
         refine G.pu ?_
         refine G.po ?_
         refine G.po ?_
         refine G.pu ?_
         refine G.pu ?_
         refine G.pu ?_
         refine G.po ?_
         refine G.r (Runs.pickf rfl rfl) ?_
         refine G.r (Runs.assign rfl) ?_
         refine G.nt ?_
         refine W.sub (L' := [(39, _)]) (Sub.cons rfl Sub.nil) ?_
         refine W.no rfl ?_
         refine W.skip ?_
         refine V.block_normal ?_
         refine V.then ?_
         refine W.sr ?_
         refine G.r (Runs.assign rfl) ?_
         refine G.nt ?_
         refine W.ret ?_
         exact V.ret1 rfl rfl (I) Fit.m ⟨by rw [show checkE e = 0 from checkE_zero (by omega) (by omega) (by first | assumption | exact Classical.not_not.1 (by assumption) | (unfold endsE; omega)) (fun h => by first | (exfalso; omega) | assumption | exact Classical.not_not.1 (by assumption)) (fun h => by omega)], rfl⟩
      ·refine G.po ?_
       refine G.po ?_
       refine G.po ?_
       refine G.po ?_
       refine G.po ?_
       refine G.po ?_
       refine G.po ?_
       refine G.po ?_
       refine G.r (Runs.pickf rfl rfl) ?_
       refine G.r (Runs.assign rfl) ?_
       refine G.nt ?_
       refine W.sub (L' := [(25, _), (1, _)]) (Sub.cons rfl (Sub.cons rfl Sub.nil)) ?_
       refine W.no rfl ?_
       refine W.sr ?_
       refine G.r (Runs.fieldAddr fld122_0 rfl) ?_
       refine G.r (Runs.ld ty3) ?_
       refine G.r (Runs.neq rfl rfl) ?_
       refine G.r (Runs.move rfl) ?_
       refine G.split (d := 43) rfl (fun g43 => ?_) (fun g43 => ?_)
       ·refine G.ro (Runs.fieldAddr fld122_4 rfl) ?_
        refine G.ro (Runs.ld ty3) ?_
        refine G.ro (Runs.neq rfl rfl) ?_
        refine G.ro (Runs.move rfl) ?_
        refine G.split (d := 47) rfl (fun g47 => ?_) (fun g47 => ?_)
        ·refine G.po ?_
         refine G.po ?_
         refine G.po ?_
         refine G.ro (Runs.pickt rfl rfl) ?_
         refine G.ro (Runs.move rfl) ?_
         refine G.po ?_
         refine G.po ?_
         refine G.po ?_
         refine G.ro (Runs.pickt rfl rfl) ?_
         refine G.r (Runs.pickt rfl rfl) ?_
         refine G.r (Runs.assign rfl) ?_
         refine G.nt ?_
         refine W.sub (L' := [(39, _)]) (Sub.cons rfl Sub.nil) ?_
         refine W.yes rfl ?_
         refine W.sr ?_
         refine G.r (Runs.assign rfl) ?_
         refine G.nt ?_
         refine W.ret ?_
         refine V.block_ret ?_
         refine V.then_ret ?_
         exact V.ret1 rfl rfl (I) Fit.m ⟨by rw [show checkE e = 1 from checkE_one (by omega) (by omega) (by first | assumption | exact Classical.not_not.1 (by assumption) | (unfold endsE; omega)) (by first | (exact .inr (by omega)) | exact .inl ⟨by omega, by assumption⟩ | exact .inl ⟨by omega, fun h => by simp_all⟩)], rfl⟩
        ·refine G.ro (Runs.fieldAddr fld122_5 rfl) ?_
         refine G.ro (Runs.ld ty3) ?_
         refine G.ro (Runs.neq rfl rfl) ?_
         refine G.ro (Runs.pickf rfl rfl) ?_
         refine G.ro (Runs.move rfl) ?_
         refine G.split (d := 52) rfl (fun g52 => ?_) (fun g52 => ?_)
         ·refine G.po ?_
          refine G.po ?_
          refine G.po ?_
          refine G.ro (Runs.pickt rfl rfl) ?_
          refine G.r (Runs.pickt rfl rfl) ?_
          refine G.r (Runs.assign rfl) ?_
          refine G.nt ?_
          refine W.sub (L' := [(39, _)]) (Sub.cons rfl Sub.nil) ?_
          refine W.yes rfl ?_
          refine W.sr ?_
          refine G.r (Runs.assign rfl) ?_
          refine G.nt ?_
          refine W.ret ?_
          refine V.block_ret ?_
          refine V.then_ret ?_
          exact V.ret1 rfl rfl (I) Fit.m ⟨by rw [show checkE e = 1 from checkE_one (by omega) (by omega) (by first | assumption | exact Classical.not_not.1 (by assumption) | (unfold endsE; omega)) (by first | (exact .inr (by omega)) | exact .inl ⟨by omega, by assumption⟩ | exact .inl ⟨by omega, fun h => by simp_all⟩)], rfl⟩
         ·refine G.ro (Runs.fieldAddr fld122_6 rfl) ?_
          refine G.ro (Runs.ld ty3) ?_
          refine G.ro (Runs.neq rfl rfl) ?_
          refine G.ro (Runs.pickf rfl rfl) ?_
          refine G.r (Runs.pickt rfl rfl) ?_
          refine G.r (Runs.assign rfl) ?_
          refine G.nt ?_
          refine W.sub (L' := [(39, _)]) (Sub.cons rfl Sub.nil) ?_
          refine W.ite rfl (fun c39 => ?_) (fun c39 => ?_)
          ·refine W.sr ?_
           refine G.r (Runs.assign rfl) ?_
           refine G.nt ?_
           refine W.ret ?_
           refine V.block_ret ?_
           refine V.then_ret ?_
           exact V.ret1 rfl rfl (I) Fit.m ⟨by rw [show checkE e = 1 from checkE_one (by omega) (by omega) (by first | assumption | exact Classical.not_not.1 (by assumption) | (unfold endsE; omega)) (by first | (exact .inr (by omega)) | exact .inl ⟨by omega, by assumption⟩ | exact .inl ⟨by omega, fun h => by simp_all⟩)], rfl⟩
          ·refine W.skip ?_
           refine V.block_normal ?_
           refine V.then ?_
           refine W.sr ?_
           refine G.r (Runs.assign rfl) ?_
           refine G.nt ?_
           refine W.ret ?_
           exact V.ret1 rfl rfl (I) Fit.m ⟨by rw [show checkE e = 0 from checkE_zero (by omega) (by omega) (by first | assumption | exact Classical.not_not.1 (by assumption) | (unfold endsE; omega)) (fun h => by first | (exfalso; omega) | assumption | exact Classical.not_not.1 (by assumption)) (fun h => by omega)], rfl⟩
       ·refine G.po ?_
        refine G.po ?_
        refine G.po ?_
        refine G.po ?_
        refine G.pu ?_
        refine G.pu ?_
        refine G.pu ?_
        refine G.po ?_
        refine G.po ?_
        refine G.pu ?_
        refine G.pu ?_
        refine G.pu ?_
        refine G.po ?_
        refine G.r (Runs.pickf rfl rfl) ?_
        refine G.r (Runs.assign rfl) ?_
        refine G.nt ?_
        refine W.sub (L' := [(39, _)]) (Sub.cons rfl Sub.nil) ?_
        refine W.no rfl ?_
        refine W.skip ?_
        refine V.block_normal ?_
        refine V.then ?_
        refine W.sr ?_
        refine G.r (Runs.assign rfl) ?_
        refine G.nt ?_
        refine W.ret ?_
        exact V.ret1 rfl rfl (I) Fit.m ⟨by rw [show checkE e = 0 from checkE_zero (by omega) (by omega) (by first | assumption | exact Classical.not_not.1 (by assumption) | (unfold endsE; omega)) (fun h => by first | (exfalso; omega) | assumption | exact Classical.not_not.1 (by assumption)) (fun h => by omega)], rfl⟩

theorem CheckE4_ok {κ : Ctx} {I : List Item} (e : Ev) :
    CallS Try.prog κ 157 [.agg #[I64 (e.kd), I64 (e.tm), I64 (e.u), I64 (e.v), I64 (e.w), I64 (e.lb), I64 (e.sg)]] I (fun r J => r = I64 (checkE e) ∧ I = J) := by
 refine CallS.enter (L := [(0, .agg #[I64 (e.kd), I64 (e.tm), I64 (e.u), I64 (e.v), I64 (e.w), I64 (e.lb), I64 (e.sg)])]) Try.func157 rfl rfl rfl rfl ?_
 refine W.sr ?_
 refine G.e (Eff.box (cs := [_, _, _, _, _, _, _]) rfl rfl rfl) ?_
 rintro _ _ ⟨b1, rfl, rfl⟩
 refine G.r (Runs.assign rfl) ?_
 refine G.nt ?_
 refine W.seq ?_
 refine W.sr ?_
 refine G.r (Runs.fieldAddr fld122_0 rfl) ?_
 refine G.r (Runs.ld ty3) ?_
 refine G.e (Eff.call call208 rfl rfl (From4_ok e.kd 1 3)) ?_
 rintro _ _ ⟨_, _, ⟨rfl, rfl⟩, rfl, rfl⟩
 refine G.r (Runs.notd rfl) ?_
 refine G.nt ?_
 refine W.ite rfl (fun c6 => ?_) (fun c6 => ?_)
 ·refine W.sr ?_
  refine G.r (Runs.assign rfl) ?_
  refine G.nt ?_
  refine W.ret ?_
  refine V.then_ret ?_
  exact V.ret1 rfl rfl (I) Fit.m ⟨by rw [show checkE e = 8 from checkE_eight (by omega)], rfl⟩
 ·refine W.skip ?_
  refine V.then ?_
  refine W.seq ?_
  refine W.sr ?_
  refine G.r (Runs.fieldAddr fld122_1 rfl) ?_
  refine G.r (Runs.ld ty3) ?_
  refine G.e (Eff.call call208 rfl rfl (From4_ok e.tm 0 1048576)) ?_
  rintro _ _ ⟨_, _, ⟨rfl, rfl⟩, rfl, rfl⟩
  refine G.r (Runs.notd rfl) ?_
  refine G.nt ?_
  refine W.ite rfl (fun c10 => ?_) (fun c10 => ?_)
  ·refine W.sr ?_
   refine G.r (Runs.assign rfl) ?_
   refine G.nt ?_
   refine W.ret ?_
   refine V.then_ret ?_
   exact V.ret1 rfl rfl (I) Fit.m ⟨by rw [show checkE e = 9 from checkE_nine (by omega) (by omega)], rfl⟩
  ·refine W.skip ?_
   refine V.then ?_
   refine W.seq ?_
   refine W.sr ?_
   refine G.r (Runs.fieldAddr fld122_2 rfl) ?_
   refine G.r (Runs.ld ty3) ?_
   refine G.e (Eff.call call208 rfl rfl (From4_ok e.u 0 63)) ?_
   rintro _ _ ⟨_, _, ⟨rfl, rfl⟩, rfl, rfl⟩
   refine G.r (Runs.notd rfl) ?_
   refine G.r (Runs.move rfl) ?_
   refine G.split (d := 15) rfl (fun g15 => ?_) (fun g15 => ?_)
   ·refine G.po ?_
    refine G.po ?_
    refine G.po ?_
    refine G.po ?_
    refine G.pu ?_
    refine G.pu ?_
    refine G.pu ?_
    refine G.po ?_
    refine G.r (Runs.pickt rfl rfl) ?_
    refine G.r (Runs.move rfl) ?_
    refine G.po ?_
    refine G.po ?_
    refine G.po ?_
    refine G.po ?_
    refine G.pu ?_
    refine G.pu ?_
    refine G.pu ?_
    refine G.pu ?_
    refine G.pu ?_
    refine G.pu ?_
    refine G.pu ?_
    refine G.pu ?_
    refine G.pu ?_
    refine G.pu ?_
    refine G.pu ?_
    refine G.po ?_
    refine G.r (Runs.pickt rfl rfl) ?_
    refine G.nt ?_
    refine W.sub (L' := [(42, _), (1, _)]) (Sub.cons rfl (Sub.cons rfl Sub.nil)) ?_
    refine W.yes rfl ?_
    refine W.sr ?_
    refine G.r (Runs.assign rfl) ?_
    refine G.nt ?_
    refine W.ret ?_
    refine V.then_ret ?_
    exact V.ret1 rfl rfl (I) Fit.m ⟨by rw [show checkE e = 6 from checkE_six (by omega) (by omega) (by first | assumption | (unfold endsE; omega))], rfl⟩
   ·refine G.ro (Runs.fieldAddr fld122_0 rfl) ?_
    refine G.ro (Runs.ld ty3) ?_
    refine G.ro (Runs.eql rfl rfl) ?_
    refine G.ro (Runs.move rfl) ?_
    refine G.split (d := 19) rfl (fun g19 => ?_) (fun g19 => ?_)
    ·refine G.ro (Runs.fieldAddr fld122_3 rfl) ?_
     refine G.ro (Runs.ld ty3) ?_
     refine G.ro (Runs.neq rfl rfl) ?_
     refine G.ro (Runs.pickt rfl rfl) ?_
     refine G.r (Runs.pickf rfl rfl) ?_
     refine G.r (Runs.move rfl) ?_
     refine G.split (d := 25) rfl (fun g25 => ?_) (fun g25 => ?_)
     ·refine G.po ?_
      refine G.po ?_
      refine G.po ?_
      refine G.po ?_
      refine G.pu ?_
      refine G.pu ?_
      refine G.pu ?_
      refine G.pu ?_
      refine G.pu ?_
      refine G.pu ?_
      refine G.pu ?_
      refine G.pu ?_
      refine G.pu ?_
      refine G.pu ?_
      refine G.pu ?_
      refine G.po ?_
      refine G.r (Runs.pickt rfl rfl) ?_
      refine G.nt ?_
      refine W.sub (L' := [(42, _), (1, _)]) (Sub.cons rfl (Sub.cons rfl Sub.nil)) ?_
      refine W.yes rfl ?_
      refine W.sr ?_
      refine G.r (Runs.assign rfl) ?_
      refine G.nt ?_
      refine W.ret ?_
      refine V.then_ret ?_
      exact V.ret1 rfl rfl (I) Fit.m ⟨by rw [show checkE e = 6 from checkE_six (by omega) (by omega) (by first | assumption | (unfold endsE; omega))], rfl⟩
     ·refine G.ro (Runs.fieldAddr fld122_0 rfl) ?_
      refine G.ro (Runs.ld ty3) ?_
      refine G.ro (Runs.neq rfl rfl) ?_
      refine G.ro (Runs.move rfl) ?_
      refine G.split (d := 29) rfl (fun g29 => ?_) (fun g29 => ?_)
      ·refine G.ro (Runs.fieldAddr fld122_3 rfl) ?_
       refine G.ro (Runs.ld ty3) ?_
       refine G.eff (Wanted.on rfl rfl rfl) (Eff.call call208 rfl rfl (From4_ok e.v 0 63)) ?_
       rintro _ _ ⟨_, _, ⟨rfl, rfl⟩, rfl, rfl⟩
       refine G.ro (Runs.notd rfl) ?_
       refine G.ro (Runs.move rfl) ?_
       refine G.split (d := 34) rfl (fun g34 => ?_) (fun g34 => ?_)
       ·refine G.po ?_
        refine G.po ?_
        refine G.po ?_
        refine G.po ?_
        refine G.po ?_
        refine G.ro (Runs.pickt rfl rfl) ?_
        refine G.ro (Runs.pickt rfl rfl) ?_
        refine G.r (Runs.pickf rfl rfl) ?_
        refine G.nt ?_
        refine W.sub (L' := [(42, _), (1, _)]) (Sub.cons rfl (Sub.cons rfl Sub.nil)) ?_
        refine W.yes rfl ?_
        refine W.sr ?_
        refine G.r (Runs.assign rfl) ?_
        refine G.nt ?_
        refine W.ret ?_
        refine V.then_ret ?_
        exact V.ret1 rfl rfl (I) Fit.m ⟨by rw [show checkE e = 6 from checkE_six (by omega) (by omega) (by first | assumption | (unfold endsE; omega))], rfl⟩
       ·refine G.ro (Runs.fieldAddr fld122_2 rfl) ?_
        refine G.ro (Runs.ld ty3) ?_
        refine G.ro (Runs.fieldAddr fld122_3 rfl) ?_
        refine G.ro (Runs.ld ty3) ?_
        refine G.ro (Runs.eql rfl rfl) ?_
        refine G.ro (Runs.pickf rfl rfl) ?_
        refine G.ro (Runs.pickt rfl rfl) ?_
        refine G.r (Runs.pickf rfl rfl) ?_
        refine G.nt ?_
        refine W.sub (L' := [(42, _), (1, _)]) (Sub.cons rfl (Sub.cons rfl Sub.nil)) ?_
        refine W.ite rfl (fun c42 => ?_) (fun c42 => ?_)
        ·refine W.sr ?_
         refine G.r (Runs.assign rfl) ?_
         refine G.nt ?_
         refine W.ret ?_
         refine V.then_ret ?_
         exact V.ret1 rfl rfl (I) Fit.m ⟨by rw [show checkE e = 6 from checkE_six (by omega) (by omega) (by first | assumption | (unfold endsE; omega))], rfl⟩
        ·refine W.skip ?_
         refine V.then ?_
         refine W.seq ?_
         refine W.sr ?_
         refine G.r (Runs.fieldAddr fld122_0 rfl) ?_
         refine G.r (Runs.ld ty3) ?_
         refine G.r (Runs.eql rfl rfl) ?_
         refine G.nt ?_
         refine W.ite rfl (fun c45 => ?_) (fun c45 => ?_)
         ·refine W.sr ?_
          refine G.r (Runs.fieldAddr fld122_4 rfl) ?_
          refine G.r (Runs.ld ty3) ?_
          refine G.r (Runs.fieldAddr fld122_5 rfl) ?_
          refine G.r (Runs.ld ty3) ?_
          refine G.r (Runs.fieldAddr fld122_6 rfl) ?_
          refine G.r (Runs.ld ty3) ?_
          refine G.e (Eff.call call191 rfl rfl (Attr4_ok e.w e.lb e.sg)) ?_
          rintro _ _ ⟨_, _, ⟨rfl, rfl⟩, rfl, rfl⟩
          refine G.r (Runs.assign rfl) ?_
          refine G.nt ?_
          refine W.ret ?_
          refine V.then_ret ?_
          exact V.ret1 rfl rfl (I) Fit.m ⟨by rw [show checkE e = if rightW e.w e.lb e.sg then 0 else 1 from checkE_set (by omega) (by omega) (by first | assumption | exact Classical.not_not.1 (by assumption) | (unfold endsE; omega))], rfl⟩
         ·refine W.skip ?_
          refine V.then ?_
          refine W.seq ?_
          refine W.sr ?_
          refine G.r (Runs.fieldAddr fld122_4 rfl) ?_
          refine G.r (Runs.ld ty3) ?_
          refine G.r (Runs.neq rfl rfl) ?_
          refine G.r (Runs.move rfl) ?_
          refine G.split (d := 56) rfl (fun g56 => ?_) (fun g56 => ?_)
          ·refine G.po ?_
           refine G.po ?_
           refine G.po ?_
           refine G.r (Runs.pickt rfl rfl) ?_
           refine G.r (Runs.move rfl) ?_
           refine G.po ?_
           refine G.po ?_
           refine G.po ?_
           refine G.r (Runs.pickt rfl rfl) ?_
           refine G.nt ?_
           refine W.sub (L' := [(65, _)]) (Sub.cons rfl Sub.nil) ?_
           refine W.yes rfl ?_
           refine W.sr ?_
           refine G.r (Runs.assign rfl) ?_
           refine G.nt ?_
           refine W.ret ?_
           refine V.then_ret ?_
           exact V.ret1 rfl rfl (I) Fit.m ⟨by rw [show checkE e = 1 from checkE_one (by omega) (by omega) (by first | assumption | exact Classical.not_not.1 (by assumption) | (unfold endsE; omega)) (by first | (exact .inr (by omega)) | exact .inl ⟨by omega, by assumption⟩ | exact .inl ⟨by omega, fun h => by simp_all⟩)], rfl⟩
          ·refine G.ro (Runs.fieldAddr fld122_5 rfl) ?_
           refine G.ro (Runs.ld ty3) ?_
           refine G.ro (Runs.neq rfl rfl) ?_
           refine G.r (Runs.pickf rfl rfl) ?_
           refine G.r (Runs.move rfl) ?_
           refine G.split (d := 61) rfl (fun g61 => ?_) (fun g61 => ?_)
           ·refine G.po ?_
            refine G.po ?_
            refine G.po ?_
            refine G.r (Runs.pickt rfl rfl) ?_
            refine G.nt ?_
            refine W.sub (L' := [(65, _)]) (Sub.cons rfl Sub.nil) ?_
            refine W.yes rfl ?_
            refine W.sr ?_
            refine G.r (Runs.assign rfl) ?_
            refine G.nt ?_
            refine W.ret ?_
            refine V.then_ret ?_
            exact V.ret1 rfl rfl (I) Fit.m ⟨by rw [show checkE e = 1 from checkE_one (by omega) (by omega) (by first | assumption | exact Classical.not_not.1 (by assumption) | (unfold endsE; omega)) (by first | (exact .inr (by omega)) | exact .inl ⟨by omega, by assumption⟩ | exact .inl ⟨by omega, fun h => by simp_all⟩)], rfl⟩
           ·refine G.ro (Runs.fieldAddr fld122_6 rfl) ?_
            refine G.ro (Runs.ld ty3) ?_
            refine G.ro (Runs.neq rfl rfl) ?_
            refine G.r (Runs.pickf rfl rfl) ?_
            refine G.nt ?_
            refine W.sub (L' := [(65, _)]) (Sub.cons rfl Sub.nil) ?_
            refine W.ite rfl (fun c65 => ?_) (fun c65 => ?_)
            ·refine W.sr ?_
             refine G.r (Runs.assign rfl) ?_
             refine G.nt ?_
             refine W.ret ?_
             refine V.then_ret ?_
             exact V.ret1 rfl rfl (I) Fit.m ⟨by rw [show checkE e = 1 from checkE_one (by omega) (by omega) (by first | assumption | exact Classical.not_not.1 (by assumption) | (unfold endsE; omega)) (by first | (exact .inr (by omega)) | exact .inl ⟨by omega, by assumption⟩ | exact .inl ⟨by omega, fun h => by simp_all⟩)], rfl⟩
            ·refine W.skip ?_
             refine V.then ?_
             refine W.sr ?_
             refine G.r (Runs.assign rfl) ?_
             refine G.nt ?_
             refine W.ret ?_
             exact V.ret1 rfl rfl (I) Fit.m ⟨by rw [show checkE e = 0 from checkE_zero (by omega) (by omega) (by first | assumption | exact Classical.not_not.1 (by assumption) | (unfold endsE; omega)) (fun h => by first | (exfalso; omega) | assumption | exact Classical.not_not.1 (by assumption)) (fun h => by omega)], rfl⟩
      ·refine G.po ?_
       refine G.po ?_
       refine G.po ?_
       refine G.po ?_
       refine G.po ?_
       refine G.pu ?_
       refine G.pu ?_
       refine G.pu ?_
       refine G.pu ?_
       refine G.pu ?_
       refine G.po ?_
       refine G.ro (Runs.pickf rfl rfl) ?_
       refine G.r (Runs.pickf rfl rfl) ?_
       refine G.nt ?_
       refine W.sub (L' := [(42, _), (1, _)]) (Sub.cons rfl (Sub.cons rfl Sub.nil)) ?_
       refine W.no rfl ?_
       refine W.skip ?_
       refine V.then ?_
       refine W.seq ?_
       refine W.sr ?_
       refine G.r (Runs.fieldAddr fld122_0 rfl) ?_
       refine G.r (Runs.ld ty3) ?_
       refine G.r (Runs.eql rfl rfl) ?_
       refine G.nt ?_
       refine W.ite rfl (fun c45 => ?_) (fun c45 => ?_)
       ·refine W.sr ?_
        refine G.r (Runs.fieldAddr fld122_4 rfl) ?_
        refine G.r (Runs.ld ty3) ?_
        refine G.r (Runs.fieldAddr fld122_5 rfl) ?_
        refine G.r (Runs.ld ty3) ?_
        refine G.r (Runs.fieldAddr fld122_6 rfl) ?_
        refine G.r (Runs.ld ty3) ?_
        refine G.e (Eff.call call191 rfl rfl (Attr4_ok e.w e.lb e.sg)) ?_
        rintro _ _ ⟨_, _, ⟨rfl, rfl⟩, rfl, rfl⟩
        refine G.r (Runs.assign rfl) ?_
        refine G.nt ?_
        refine W.ret ?_
        refine V.then_ret ?_
        exact V.ret1 rfl rfl (I) Fit.m ⟨by rw [show checkE e = if rightW e.w e.lb e.sg then 0 else 1 from checkE_set (by omega) (by omega) (by first | assumption | exact Classical.not_not.1 (by assumption) | (unfold endsE; omega))], rfl⟩
       ·refine W.skip ?_
        refine V.then ?_
        refine W.seq ?_
        refine W.sr ?_
        refine G.r (Runs.fieldAddr fld122_4 rfl) ?_
        refine G.r (Runs.ld ty3) ?_
        refine G.r (Runs.neq rfl rfl) ?_
        refine G.r (Runs.move rfl) ?_
        refine G.split (d := 56) rfl (fun g56 => ?_) (fun g56 => ?_)
        ·refine G.po ?_
         refine G.po ?_
         refine G.po ?_
         refine G.r (Runs.pickt rfl rfl) ?_
         refine G.r (Runs.move rfl) ?_
         refine G.po ?_
         refine G.po ?_
         refine G.po ?_
         refine G.r (Runs.pickt rfl rfl) ?_
         refine G.nt ?_
         refine W.sub (L' := [(65, _)]) (Sub.cons rfl Sub.nil) ?_
         refine W.yes rfl ?_
         refine W.sr ?_
         refine G.r (Runs.assign rfl) ?_
         refine G.nt ?_
         refine W.ret ?_
         refine V.then_ret ?_
         exact V.ret1 rfl rfl (I) Fit.m ⟨by rw [show checkE e = 1 from checkE_one (by omega) (by omega) (by first | assumption | exact Classical.not_not.1 (by assumption) | (unfold endsE; omega)) (by first | (exact .inr (by omega)) | exact .inl ⟨by omega, by assumption⟩ | exact .inl ⟨by omega, fun h => by simp_all⟩)], rfl⟩
        ·refine G.ro (Runs.fieldAddr fld122_5 rfl) ?_
         refine G.ro (Runs.ld ty3) ?_
         refine G.ro (Runs.neq rfl rfl) ?_
         refine G.r (Runs.pickf rfl rfl) ?_
         refine G.r (Runs.move rfl) ?_
         refine G.split (d := 61) rfl (fun g61 => ?_) (fun g61 => ?_)
         ·refine G.po ?_
          refine G.po ?_
          refine G.po ?_
          refine G.r (Runs.pickt rfl rfl) ?_
          refine G.nt ?_
          refine W.sub (L' := [(65, _)]) (Sub.cons rfl Sub.nil) ?_
          refine W.yes rfl ?_
          refine W.sr ?_
          refine G.r (Runs.assign rfl) ?_
          refine G.nt ?_
          refine W.ret ?_
          refine V.then_ret ?_
          exact V.ret1 rfl rfl (I) Fit.m ⟨by rw [show checkE e = 1 from checkE_one (by omega) (by omega) (by first | assumption | exact Classical.not_not.1 (by assumption) | (unfold endsE; omega)) (by first | (exact .inr (by omega)) | exact .inl ⟨by omega, by assumption⟩ | exact .inl ⟨by omega, fun h => by simp_all⟩)], rfl⟩
         ·refine G.ro (Runs.fieldAddr fld122_6 rfl) ?_
          refine G.ro (Runs.ld ty3) ?_
          refine G.ro (Runs.neq rfl rfl) ?_
          refine G.r (Runs.pickf rfl rfl) ?_
          refine G.nt ?_
          refine W.sub (L' := [(65, _)]) (Sub.cons rfl Sub.nil) ?_
          refine W.ite rfl (fun c65 => ?_) (fun c65 => ?_)
          ·refine W.sr ?_
           refine G.r (Runs.assign rfl) ?_
           refine G.nt ?_
           refine W.ret ?_
           refine V.then_ret ?_
           exact V.ret1 rfl rfl (I) Fit.m ⟨by rw [show checkE e = 1 from checkE_one (by omega) (by omega) (by first | assumption | exact Classical.not_not.1 (by assumption) | (unfold endsE; omega)) (by first | (exact .inr (by omega)) | exact .inl ⟨by omega, by assumption⟩ | exact .inl ⟨by omega, fun h => by simp_all⟩)], rfl⟩
          ·refine W.skip ?_
           refine V.then ?_
           refine W.sr ?_
           refine G.r (Runs.assign rfl) ?_
           refine G.nt ?_
           refine W.ret ?_
           exact V.ret1 rfl rfl (I) Fit.m ⟨by rw [show checkE e = 0 from checkE_zero (by omega) (by omega) (by first | assumption | exact Classical.not_not.1 (by assumption) | (unfold endsE; omega)) (fun h => by first | (exfalso; omega) | assumption | exact Classical.not_not.1 (by assumption)) (fun h => by omega)], rfl⟩
    ·refine G.po ?_
     refine G.po ?_
     refine G.po ?_
     refine G.ro (Runs.pickf rfl rfl) ?_
     refine G.r (Runs.pickf rfl rfl) ?_
     refine G.r (Runs.move rfl) ?_
     refine G.ro (Runs.fieldAddr fld122_0 rfl) ?_
     refine G.ro (Runs.ld ty3) ?_
     refine G.ro (Runs.neq rfl rfl) ?_
     refine G.ro (Runs.move rfl) ?_
     refine G.split (d := 29) rfl (fun g29 => ?_) (fun g29 => ?_)
     ·refine G.ro (Runs.fieldAddr fld122_3 rfl) ?_
      refine G.ro (Runs.ld ty3) ?_
      refine G.eff (Wanted.on rfl rfl rfl) (Eff.call call208 rfl rfl (From4_ok e.v 0 63)) ?_
      rintro _ _ ⟨_, _, ⟨rfl, rfl⟩, rfl, rfl⟩
      refine G.ro (Runs.notd rfl) ?_
      refine G.ro (Runs.move rfl) ?_
      refine G.split (d := 34) rfl (fun g34 => ?_) (fun g34 => ?_)
      ·refine G.po ?_
       refine G.po ?_
       refine G.po ?_
       refine G.po ?_
       refine G.po ?_
       refine G.ro (Runs.pickt rfl rfl) ?_
       refine G.ro (Runs.pickt rfl rfl) ?_
       refine G.r (Runs.pickf rfl rfl) ?_
       refine G.nt ?_
       refine W.sub (L' := [(42, _), (1, _)]) (Sub.cons rfl (Sub.cons rfl Sub.nil)) ?_
       refine W.yes rfl ?_
       refine W.sr ?_
       refine G.r (Runs.assign rfl) ?_
       refine G.nt ?_
       refine W.ret ?_
       refine V.then_ret ?_
       exact V.ret1 rfl rfl (I) Fit.m ⟨by rw [show checkE e = 6 from checkE_six (by omega) (by omega) (by first | assumption | (unfold endsE; omega))], rfl⟩
      ·refine G.ro (Runs.fieldAddr fld122_2 rfl) ?_
       refine G.ro (Runs.ld ty3) ?_
       refine G.ro (Runs.fieldAddr fld122_3 rfl) ?_
       refine G.ro (Runs.ld ty3) ?_
       refine G.ro (Runs.eql rfl rfl) ?_
       refine G.ro (Runs.pickf rfl rfl) ?_
       refine G.ro (Runs.pickt rfl rfl) ?_
       refine G.r (Runs.pickf rfl rfl) ?_
       refine G.nt ?_
       refine W.sub (L' := [(42, _), (1, _)]) (Sub.cons rfl (Sub.cons rfl Sub.nil)) ?_
       refine W.ite rfl (fun c42 => ?_) (fun c42 => ?_)
       ·refine W.sr ?_
        refine G.r (Runs.assign rfl) ?_
        refine G.nt ?_
        refine W.ret ?_
        refine V.then_ret ?_
        exact V.ret1 rfl rfl (I) Fit.m ⟨by rw [show checkE e = 6 from checkE_six (by omega) (by omega) (by first | assumption | (unfold endsE; omega))], rfl⟩
       ·refine W.skip ?_
        refine V.then ?_
        refine W.seq ?_
        refine W.sr ?_
        refine G.r (Runs.fieldAddr fld122_0 rfl) ?_
        refine G.r (Runs.ld ty3) ?_
        refine G.r (Runs.eql rfl rfl) ?_
        refine G.nt ?_
        refine W.ite rfl (fun c45 => ?_) (fun c45 => ?_)
        ·refine W.sr ?_
         refine G.r (Runs.fieldAddr fld122_4 rfl) ?_
         refine G.r (Runs.ld ty3) ?_
         refine G.r (Runs.fieldAddr fld122_5 rfl) ?_
         refine G.r (Runs.ld ty3) ?_
         refine G.r (Runs.fieldAddr fld122_6 rfl) ?_
         refine G.r (Runs.ld ty3) ?_
         refine G.e (Eff.call call191 rfl rfl (Attr4_ok e.w e.lb e.sg)) ?_
         rintro _ _ ⟨_, _, ⟨rfl, rfl⟩, rfl, rfl⟩
         refine G.r (Runs.assign rfl) ?_
         refine G.nt ?_
         refine W.ret ?_
         refine V.then_ret ?_
         exact V.ret1 rfl rfl (I) Fit.m ⟨by rw [show checkE e = if rightW e.w e.lb e.sg then 0 else 1 from checkE_set (by omega) (by omega) (by first | assumption | exact Classical.not_not.1 (by assumption) | (unfold endsE; omega))], rfl⟩
        ·refine W.skip ?_
         refine V.then ?_
         refine W.seq ?_
         refine W.sr ?_
         refine G.r (Runs.fieldAddr fld122_4 rfl) ?_
         refine G.r (Runs.ld ty3) ?_
         refine G.r (Runs.neq rfl rfl) ?_
         refine G.r (Runs.move rfl) ?_
         refine G.split (d := 56) rfl (fun g56 => ?_) (fun g56 => ?_)
         ·refine G.po ?_
          refine G.po ?_
          refine G.po ?_
          refine G.r (Runs.pickt rfl rfl) ?_
          refine G.r (Runs.move rfl) ?_
          refine G.po ?_
          refine G.po ?_
          refine G.po ?_
          refine G.r (Runs.pickt rfl rfl) ?_
          refine G.nt ?_
          refine W.sub (L' := [(65, _)]) (Sub.cons rfl Sub.nil) ?_
          refine W.yes rfl ?_
          refine W.sr ?_
          refine G.r (Runs.assign rfl) ?_
          refine G.nt ?_
          refine W.ret ?_
          refine V.then_ret ?_
          exact V.ret1 rfl rfl (I) Fit.m ⟨by rw [show checkE e = 1 from checkE_one (by omega) (by omega) (by first | assumption | exact Classical.not_not.1 (by assumption) | (unfold endsE; omega)) (by first | (exact .inr (by omega)) | exact .inl ⟨by omega, by assumption⟩ | exact .inl ⟨by omega, fun h => by simp_all⟩)], rfl⟩
         ·refine G.ro (Runs.fieldAddr fld122_5 rfl) ?_
          refine G.ro (Runs.ld ty3) ?_
          refine G.ro (Runs.neq rfl rfl) ?_
          refine G.r (Runs.pickf rfl rfl) ?_
          refine G.r (Runs.move rfl) ?_
          refine G.split (d := 61) rfl (fun g61 => ?_) (fun g61 => ?_)
          ·refine G.po ?_
           refine G.po ?_
           refine G.po ?_
           refine G.r (Runs.pickt rfl rfl) ?_
           refine G.nt ?_
           refine W.sub (L' := [(65, _)]) (Sub.cons rfl Sub.nil) ?_
           refine W.yes rfl ?_
           refine W.sr ?_
           refine G.r (Runs.assign rfl) ?_
           refine G.nt ?_
           refine W.ret ?_
           refine V.then_ret ?_
           exact V.ret1 rfl rfl (I) Fit.m ⟨by rw [show checkE e = 1 from checkE_one (by omega) (by omega) (by first | assumption | exact Classical.not_not.1 (by assumption) | (unfold endsE; omega)) (by first | (exact .inr (by omega)) | exact .inl ⟨by omega, by assumption⟩ | exact .inl ⟨by omega, fun h => by simp_all⟩)], rfl⟩
          ·refine G.ro (Runs.fieldAddr fld122_6 rfl) ?_
           refine G.ro (Runs.ld ty3) ?_
           refine G.ro (Runs.neq rfl rfl) ?_
           refine G.r (Runs.pickf rfl rfl) ?_
           refine G.nt ?_
           refine W.sub (L' := [(65, _)]) (Sub.cons rfl Sub.nil) ?_
           refine W.ite rfl (fun c65 => ?_) (fun c65 => ?_)
           ·refine W.sr ?_
            refine G.r (Runs.assign rfl) ?_
            refine G.nt ?_
            refine W.ret ?_
            refine V.then_ret ?_
            exact V.ret1 rfl rfl (I) Fit.m ⟨by rw [show checkE e = 1 from checkE_one (by omega) (by omega) (by first | assumption | exact Classical.not_not.1 (by assumption) | (unfold endsE; omega)) (by first | (exact .inr (by omega)) | exact .inl ⟨by omega, by assumption⟩ | exact .inl ⟨by omega, fun h => by simp_all⟩)], rfl⟩
           ·refine W.skip ?_
            refine V.then ?_
            refine W.sr ?_
            refine G.r (Runs.assign rfl) ?_
            refine G.nt ?_
            refine W.ret ?_
            exact V.ret1 rfl rfl (I) Fit.m ⟨by rw [show checkE e = 0 from checkE_zero (by omega) (by omega) (by first | assumption | exact Classical.not_not.1 (by assumption) | (unfold endsE; omega)) (fun h => by first | (exfalso; omega) | assumption | exact Classical.not_not.1 (by assumption)) (fun h => by omega)], rfl⟩
     ·refine G.po ?_
      refine G.po ?_
      refine G.po ?_
      refine G.po ?_
      refine G.po ?_
      refine G.pu ?_
      refine G.pu ?_
      refine G.pu ?_
      refine G.pu ?_
      refine G.pu ?_
      refine G.po ?_
      refine G.ro (Runs.pickf rfl rfl) ?_
      refine G.r (Runs.pickf rfl rfl) ?_
      refine G.nt ?_
      refine W.sub (L' := [(42, _), (1, _)]) (Sub.cons rfl (Sub.cons rfl Sub.nil)) ?_
      refine W.no rfl ?_
      refine W.skip ?_
      refine V.then ?_
      refine W.seq ?_
      refine W.sr ?_
      refine G.r (Runs.fieldAddr fld122_0 rfl) ?_
      refine G.r (Runs.ld ty3) ?_
      refine G.r (Runs.eql rfl rfl) ?_
      refine G.nt ?_
      refine W.ite rfl (fun c45 => ?_) (fun c45 => ?_)
      ·refine W.sr ?_
       refine G.r (Runs.fieldAddr fld122_4 rfl) ?_
       refine G.r (Runs.ld ty3) ?_
       refine G.r (Runs.fieldAddr fld122_5 rfl) ?_
       refine G.r (Runs.ld ty3) ?_
       refine G.r (Runs.fieldAddr fld122_6 rfl) ?_
       refine G.r (Runs.ld ty3) ?_
       refine G.e (Eff.call call191 rfl rfl (Attr4_ok e.w e.lb e.sg)) ?_
       rintro _ _ ⟨_, _, ⟨rfl, rfl⟩, rfl, rfl⟩
       refine G.r (Runs.assign rfl) ?_
       refine G.nt ?_
       refine W.ret ?_
       refine V.then_ret ?_
       exact V.ret1 rfl rfl (I) Fit.m ⟨by rw [show checkE e = if rightW e.w e.lb e.sg then 0 else 1 from checkE_set (by omega) (by omega) (by first | assumption | exact Classical.not_not.1 (by assumption) | (unfold endsE; omega))], rfl⟩
      ·refine W.skip ?_
       refine V.then ?_
       refine W.seq ?_
       refine W.sr ?_
       refine G.r (Runs.fieldAddr fld122_4 rfl) ?_
       refine G.r (Runs.ld ty3) ?_
       refine G.r (Runs.neq rfl rfl) ?_
       refine G.r (Runs.move rfl) ?_
       refine G.split (d := 56) rfl (fun g56 => ?_) (fun g56 => ?_)
       ·refine G.po ?_
        refine G.po ?_
        refine G.po ?_
        refine G.r (Runs.pickt rfl rfl) ?_
        refine G.r (Runs.move rfl) ?_
        refine G.po ?_
        refine G.po ?_
        refine G.po ?_
        refine G.r (Runs.pickt rfl rfl) ?_
        refine G.nt ?_
        refine W.sub (L' := [(65, _)]) (Sub.cons rfl Sub.nil) ?_
        refine W.yes rfl ?_
        refine W.sr ?_
        refine G.r (Runs.assign rfl) ?_
        refine G.nt ?_
        refine W.ret ?_
        refine V.then_ret ?_
        exact V.ret1 rfl rfl (I) Fit.m ⟨by rw [show checkE e = 1 from checkE_one (by omega) (by omega) (by first | assumption | exact Classical.not_not.1 (by assumption) | (unfold endsE; omega)) (by first | (exact .inr (by omega)) | exact .inl ⟨by omega, by assumption⟩ | exact .inl ⟨by omega, fun h => by simp_all⟩)], rfl⟩
       ·refine G.ro (Runs.fieldAddr fld122_5 rfl) ?_
        refine G.ro (Runs.ld ty3) ?_
        refine G.ro (Runs.neq rfl rfl) ?_
        refine G.r (Runs.pickf rfl rfl) ?_
        refine G.r (Runs.move rfl) ?_
        refine G.split (d := 61) rfl (fun g61 => ?_) (fun g61 => ?_)
        ·refine G.po ?_
         refine G.po ?_
         refine G.po ?_
         refine G.r (Runs.pickt rfl rfl) ?_
         refine G.nt ?_
         refine W.sub (L' := [(65, _)]) (Sub.cons rfl Sub.nil) ?_
         refine W.yes rfl ?_
         refine W.sr ?_
         refine G.r (Runs.assign rfl) ?_
         refine G.nt ?_
         refine W.ret ?_
         refine V.then_ret ?_
         exact V.ret1 rfl rfl (I) Fit.m ⟨by rw [show checkE e = 1 from checkE_one (by omega) (by omega) (by first | assumption | exact Classical.not_not.1 (by assumption) | (unfold endsE; omega)) (by first | (exact .inr (by omega)) | exact .inl ⟨by omega, by assumption⟩ | exact .inl ⟨by omega, fun h => by simp_all⟩)], rfl⟩
        ·refine G.ro (Runs.fieldAddr fld122_6 rfl) ?_
         refine G.ro (Runs.ld ty3) ?_
         refine G.ro (Runs.neq rfl rfl) ?_
         refine G.r (Runs.pickf rfl rfl) ?_
         refine G.nt ?_
         refine W.sub (L' := [(65, _)]) (Sub.cons rfl Sub.nil) ?_
         refine W.ite rfl (fun c65 => ?_) (fun c65 => ?_)
         ·refine W.sr ?_
          refine G.r (Runs.assign rfl) ?_
          refine G.nt ?_
          refine W.ret ?_
          refine V.then_ret ?_
          exact V.ret1 rfl rfl (I) Fit.m ⟨by rw [show checkE e = 1 from checkE_one (by omega) (by omega) (by first | assumption | exact Classical.not_not.1 (by assumption) | (unfold endsE; omega)) (by first | (exact .inr (by omega)) | exact .inl ⟨by omega, by assumption⟩ | exact .inl ⟨by omega, fun h => by simp_all⟩)], rfl⟩
         ·refine W.skip ?_
          refine V.then ?_
          refine W.sr ?_
          refine G.r (Runs.assign rfl) ?_
          refine G.nt ?_
          refine W.ret ?_
          exact V.ret1 rfl rfl (I) Fit.m ⟨by rw [show checkE e = 0 from checkE_zero (by omega) (by omega) (by first | assumption | exact Classical.not_not.1 (by assumption) | (unfold endsE; omega)) (fun h => by first | (exfalso; omega) | assumption | exact Classical.not_not.1 (by assumption)) (fun h => by omega)], rfl⟩

theorem FitsE_ok {κ : Ctx} {I : List Item} (nd : Int) (e : Ev) :
    CallS Try.prog κ 206 [I64 (nd), .agg #[I64 (e.kd), I64 (e.tm), I64 (e.u), I64 (e.v), I64 (e.w), I64 (e.lb), I64 (e.sg)]] I (fun r J => r = I64 (fitE nd e) ∧ I = J) := by
 refine CallS.enter (L := [(0, I64 (nd)), (1, .agg #[I64 (e.kd), I64 (e.tm), I64 (e.u), I64 (e.v), I64 (e.w), I64 (e.lb), I64 (e.sg)])]) Try.func206 rfl rfl rfl rfl ?_
 refine W.sr ?_
 refine G.e (Eff.box (cs := [_, _, _, _, _, _, _]) rfl rfl rfl) ?_
 rintro _ _ ⟨b1, rfl, rfl⟩
 refine G.r (Runs.assign rfl) ?_
 refine G.nt ?_
 refine W.seq ?_
 refine W.sr ?_
 refine G.r (Runs.lds (vs := [_, _, _, _, _, _, _]) ty122) ?_
 refine G.e (Eff.call call205 rfl rfl (CheckE_ok e)) ?_
 rintro _ _ ⟨_, _, ⟨rfl, rfl⟩, rfl, rfl⟩
 refine G.r (Runs.assign rfl) ?_
 refine G.nt ?_
 refine W.sr ?_
 refine G.r (Runs.move rfl) ?_
 refine G.r (Runs.neq rfl rfl) ?_
 refine G.nt ?_
 refine W.ite rfl (fun c9 => ?_) (fun c9 => ?_)
 ·refine W.sr ?_
  refine G.r (Runs.move rfl) ?_
  refine G.r (Runs.assign rfl) ?_
  refine G.nt ?_
  refine W.ret ?_
  refine V.then_ret ?_
  exact V.ret1 rfl rfl (I) Fit.m ⟨by rw [show fitE nd e = checkE e from (by unfold fitE; rw [if_pos c9])], rfl⟩
 ·refine W.skip ?_
  refine V.then ?_
  refine W.seq ?_
  refine W.sr ?_
  refine G.r (Runs.fieldAddr fld122_2 rfl) ?_
  refine G.r (Runs.ld ty3) ?_
  refine G.r (Runs.move rfl) ?_
  refine G.r (Runs.geq rfl rfl) ?_
  refine G.r (Runs.move rfl) ?_
  refine G.split (d := 15) rfl (fun g15 => ?_) (fun g15 => ?_)
  ·refine G.po ?_
   refine G.po ?_
   refine G.po ?_
   refine G.po ?_
   refine G.r (Runs.pickt rfl rfl) ?_
   refine G.nt ?_
   refine W.sub (L' := [(20, _)]) (Sub.cons rfl Sub.nil) ?_
   refine W.yes rfl ?_
   refine W.sr ?_
   refine G.r (Runs.assign rfl) ?_
   refine G.nt ?_
   refine W.ret ?_
   refine V.then_ret ?_
   exact V.ret1 rfl rfl (I) Fit.m ⟨by rw [show fitE nd e = 6 from (by unfold fitE; rw [if_neg c9, if_pos (by omega)])], rfl⟩
  ·refine G.ro (Runs.fieldAddr fld122_3 rfl) ?_
   refine G.ro (Runs.ld ty3) ?_
   refine G.ro (Runs.move rfl) ?_
   refine G.ro (Runs.geq rfl rfl) ?_
   refine G.r (Runs.pickf rfl rfl) ?_
   refine G.nt ?_
   refine W.sub (L' := [(20, _)]) (Sub.cons rfl Sub.nil) ?_
   refine W.ite rfl (fun c20 => ?_) (fun c20 => ?_)
   ·refine W.sr ?_
    refine G.r (Runs.assign rfl) ?_
    refine G.nt ?_
    refine W.ret ?_
    refine V.then_ret ?_
    exact V.ret1 rfl rfl (I) Fit.m ⟨by rw [show fitE nd e = 6 from (by unfold fitE; rw [if_neg c9, if_pos (by omega)])], rfl⟩
   ·refine W.skip ?_
    refine V.then ?_
    refine W.sr ?_
    refine G.r (Runs.assign rfl) ?_
    refine G.nt ?_
    refine W.ret ?_
    exact V.ret1 rfl rfl (I) Fit.m ⟨by rw [show fitE nd e = 0 from (by unfold fitE; rw [if_neg c9, if_neg (by omega)])], rfl⟩

set_option maxHeartbeats 2000000 in
theorem Set5_ok {κ : Ctx} {I : List Item} (l : Lk) (nw : Int) :
    CallS Try.prog κ 159 [.agg #[I64 (l.u), I64 (l.v), I64 (l.w), I64 (l.lb), I64 (l.sg), I64 (l.tm)], I64 (nw)] I (fun r J => r = .agg #[I64 1, I64 nw, I64 l.u, I64 l.v, I64 l.w, I64 l.lb, I64 l.sg] ∧ I = J) := by
 refine CallS.enter (L := [(0, .agg #[I64 (l.u), I64 (l.v), I64 (l.w), I64 (l.lb), I64 (l.sg), I64 (l.tm)]), (1, I64 (nw))]) Try.func159 rfl rfl rfl rfl ?_
 refine W.sr ?_
 refine G.e (Eff.box (cs := [_, _, _, _, _, _]) rfl rfl rfl) ?_
 rintro _ _ ⟨b1, rfl, rfl⟩
 refine G.e (Eff.alloc ty122 rfl) ?_
 rintro _ _ ⟨b2, rfl, rfl⟩
 refine G.nt ?_
 refine W.sr ?_
 refine G.r (Runs.move rfl) ?_
 refine G.r (Runs.fieldAddr fld158_0 rfl) ?_
 refine G.r (Runs.ld ty3) ?_
 refine G.r (Runs.fieldAddr fld158_1 rfl) ?_
 refine G.r (Runs.ld ty3) ?_
 refine G.r (Runs.fieldAddr fld158_2 rfl) ?_
 refine G.r (Runs.ld ty3) ?_
 refine G.r (Runs.fieldAddr fld158_3 rfl) ?_
 refine G.r (Runs.ld ty3) ?_
 refine G.r (Runs.fieldAddr fld158_4 rfl) ?_
 refine G.r (Runs.ld ty3) ?_
 refine G.r (Runs.build (cells := [_, _, _, _, _, _, _]) ty122 Try.underlying122 pl122 rfl rfl) ?_
 refine G.e (Eff.st (cs := [_, _, _, _, _, _, _]) (vs := [_, _, _, _, _, _, _]) (cs' := [_, _, _, _, _, _, _]) ty122) ?_
 rintro _ _ ⟨rfl, rfl⟩
 refine G.nt ?_
 refine W.sub (L' := [(4, _)]) (Sub.cons rfl Sub.nil) ?_
 refine W.ret ?_
 exact V.retc rfl ty122 rfl (by repeat (first | exact List.mem_cons_self | apply List.mem_cons_of_mem)) rfl (I) Fit.m ⟨rfl, rfl⟩

end Go.Sl
namespace Go.Sl
open Go.Proofs
set_option linter.unusedVariables false
set_option linter.unusedSimpArgs false
set_option maxRecDepth 4000
theorem fitE_chk {nd : Int} {e : Ev} (h : checkE e ≠ 0) : fitE nd e = checkE e := by unfold fitE; rw [if_pos h]

theorem Stream_ok {κ : Ctx} {I : List Item} {nd : Int} {va : Value} {es : List Ev} (hl : Sl κ I va es) :
    CallS Try.prog κ 154 [I64 (nd), va] I (fun r J => r = I64 (streamE nd es) ∧ I = J) := by
 refine CallS.pull hl.le fun hmax => ?_
 refine CallS.enter (L := [(0, I64 (nd)), (1, va)]) Try.func154 rfl rfl rfl rfl ?_
 refine W.sr ?_
 refine G.r (Runs.assign rfl) ?_
 refine G.nt ?_
 refine W.seq ?_
 refine W.block ?_
 refine W.sr ?_
 refine G.r (Runs.move rfl) ?_
 refine G.r (Runs.lss rfl rfl) ?_
 refine G.r (Runs.move rfl) ?_
 refine G.split (d := 13) rfl (fun g13 => ?_) (fun g13 => ?_)
 ·refine G.po ?_
  refine G.po ?_
  refine G.r (Runs.pickt rfl rfl) ?_
  refine G.r (Runs.assign rfl) ?_
  refine G.nt ?_
  refine W.yes rfl ?_
  refine W.sr ?_
  refine G.r (Runs.assign rfl) ?_
  refine G.nt ?_
  refine W.ret ?_
  refine V.block_ret ?_
  refine V.then_ret ?_
  exact V.ret1 rfl rfl (I) Fit.m ⟨by rw [show streamE nd es = 1 from (by unfold streamE; rw [if_pos (by omega)])], rfl⟩
 ·refine G.ro (Runs.move rfl) ?_
  refine G.ro (Runs.gtr rfl rfl) ?_
  refine G.r (Runs.pickf rfl rfl) ?_
  refine G.r (Runs.assign rfl) ?_
  refine G.nt ?_
  refine W.ite rfl (fun c10 => ?_) (fun c10 => ?_)
  ·refine W.sr ?_
   refine G.r (Runs.assign rfl) ?_
   refine G.nt ?_
   refine W.ret ?_
   refine V.block_ret ?_
   refine V.then_ret ?_
   exact V.ret1 rfl rfl (I) Fit.m ⟨by rw [show streamE nd es = 1 from (by unfold streamE; rw [if_pos (by omega)])], rfl⟩
  ·refine W.sr ?_
   refine G.r (Runs.move rfl) ?_
   refine G.r (Runs.lenT (α := Ev) (xs := es) Try.underlying81 rfl (Sl.f hl)) ?_
   refine G.r (Runs.gtr rfl rfl) ?_
   refine G.r (Runs.assign rfl) ?_
   refine G.nt ?_
   refine W.sub (L' := [(17, _), (0, _), (1, _)]) (Sub.cons rfl (Sub.cons rfl (Sub.cons rfl Sub.nil))) ?_
   refine W.ite rfl (fun c17 => ?_) (fun c17 => ?_)
   ·refine W.sr ?_
    refine G.r (Runs.assign rfl) ?_
    refine G.nt ?_
    refine W.ret ?_
    refine V.block_ret ?_
    refine V.then_ret ?_
    exact V.ret1 rfl rfl (I) Fit.m ⟨by rw [show streamE nd es = 3 from (by unfold streamE; rw [if_neg (by omega), if_pos (by omega)])], rfl⟩
   ·refine W.skip ?_
    refine V.block_normal ?_
    refine V.then ?_
    refine W.sr ?_
    refine G.r (Runs.assign rfl) ?_
    refine G.nt ?_
    refine W.seq ?_
    refine W.sr ?_
    refine G.r (Runs.move rfl) ?_
    refine G.r (Runs.lenT (α := Ev) (xs := es) Try.underlying81 rfl (Sl.f hl)) ?_
    refine G.r (Runs.move rfl) ?_
    refine G.nt ?_
    refine W.block ?_
    refine W.loop (σ := Nat) (fun s => ([(0, I64 (nd)), (5, I64 (lastT es s)), (21, va), (22, I64 (((es.length : Nat) : Int))), (23, I64 (((s : Nat) : Int)))] : Env)) (fun s => I) (fun s => (s ≤ es.length) ∧ (streamE nd es = streamS nd (lastT es s) (es.drop s))) (fun s => es.length - s) (0) (show ((0 : Nat) ≤ es.length) ∧ (streamE nd es = streamS nd (lastT es (0 : Nat)) (es.drop (0 : Nat))) from ⟨(by omega), (by unfold streamE; rw [if_neg (by omega), if_neg (by omega)]; rfl)⟩) (Sub.cons rfl (Sub.cons (lookI rfl (by first | omega | (dsimp only <;> omega) | exact (rfl : (0 : Int) = lastT es 0) | exact (lastT_succ es k).symm)) (Sub.cons rfl (Sub.cons rfl (Sub.cons (lookI rfl (by first | omega | (dsimp only <;> omega) | exact (rfl : (0 : Int) = lastT es 0) | exact (lastT_succ es k).symm)) Sub.nil))))) (show Fit κ _ (I) from Fit.sub) ?_
    rintro k hp
    obtain ⟨hk, hs⟩ : (k ≤ es.length) ∧ (streamE nd es = streamS nd (lastT es k) (es.drop k)) := hp
    show W Try.prog κ 45 _ _ ([(0, I64 (nd)), (5, I64 (lastT es k)), (21, va), (22, I64 (((es.length : Nat) : Int))), (23, I64 (((k : Nat) : Int)))] : Env) (I)
    refine W.sr ?_
    refine G.r (Runs.lss rfl rfl) ?_
    refine G.nt ?_
    refine W.seq ?_
    refine W.ite rfl (fun c24 => ?_) (fun c24 => ?_)
    ·refine W.skip ?_
     refine V.then ?_
     refine W.seq ?_
     refine W.block ?_
     refine W.sr ?_
     refine G.r (Runs.idx (α := Ev) (xs := es) Try.underlying81 ty122 rfl rfl (Sl.f hl) (by omega) (by omega)) ?_
     refine G.r (Runs.gets (α := Ev) (xs := es) ty122 rfl (Sl.f hl) (by omega) (by omega)) ?_
     refine G.e (Eff.alloc ty122 rfl) ?_
     rintro _ _ ⟨b1, rfl, rfl⟩
     refine G.e (Eff.st (cs := [_, _, _, _, _, _, _]) (vs := [_, _, _, _, _, _, _]) (cs' := [_, _, _, _, _, _, _]) ty122) ?_
     rintro _ _ ⟨rfl, rfl⟩
     refine G.nt ?_
     refine W.seq ?_
     refine W.sr ?_
     refine G.r (Runs.lds (vs := [_, _, _, _, _, _, _]) ty122) ?_
     refine G.e (Eff.call call205 rfl rfl (CheckE_ok (at_ es ((k : Nat) : Int)))) ?_
     rintro _ _ ⟨_, _, ⟨rfl, rfl⟩, rfl, rfl⟩
     refine G.r (Runs.assign rfl) ?_
     refine G.nt ?_
     refine W.sr ?_
     refine G.r (Runs.move rfl) ?_
     refine G.r (Runs.neq rfl rfl) ?_
     refine G.nt ?_
     refine W.sub (L' := [(30, _), (8, _), (7, _), (0, _), (5, _), (21, _), (22, _), (23, _)]) (Sub.cons rfl (Sub.cons rfl (Sub.cons rfl (Sub.cons rfl (Sub.cons rfl (Sub.cons rfl (Sub.cons rfl (Sub.cons rfl Sub.nil)))))))) ?_
     refine W.ite rfl (fun c30 => ?_) (fun c30 => ?_)
     ·refine W.sr ?_
      refine G.r (Runs.move rfl) ?_
      refine G.r (Runs.assign rfl) ?_
      refine G.nt ?_
      refine W.ret ?_
      refine V.then_ret ?_
      refine V.block_ret ?_
      refine V.then_ret ?_
      refine V.then_ret ?_
      refine V.block_ret ?_
      refine V.then_ret ?_
      exact V.ret1 rfl rfl (I) Fit.m ⟨by rw [show streamE nd es = checkE (at_ es ((k : Nat) : Int)) from (hs.trans ((streamS_bad (by omega) (by rw [fitE_chk c30]; exact c30)).trans (fitE_chk c30)))], rfl⟩
     ·refine W.skip ?_
      refine V.then ?_
      refine W.seq ?_
      refine W.sr ?_
      refine G.r (Runs.move rfl) ?_
      refine G.r (Runs.lds (vs := [_, _, _, _, _, _, _]) ty122) ?_
      refine G.e (Eff.call call206 rfl rfl (FitsE_ok nd (at_ es ((k : Nat) : Int)))) ?_
      rintro _ _ ⟨_, _, ⟨rfl, rfl⟩, rfl, rfl⟩
      refine G.r (Runs.assign rfl) ?_
      refine G.nt ?_
      refine W.sr ?_
      refine G.r (Runs.move rfl) ?_
      refine G.r (Runs.neq rfl rfl) ?_
      refine G.nt ?_
      refine W.sub (L' := [(36, _), (9, _), (7, _), (0, _), (5, _), (21, _), (22, _), (23, _)]) (Sub.cons rfl (Sub.cons rfl (Sub.cons rfl (Sub.cons rfl (Sub.cons rfl (Sub.cons rfl (Sub.cons rfl (Sub.cons rfl Sub.nil)))))))) ?_
      refine W.ite rfl (fun c36 => ?_) (fun c36 => ?_)
      ·refine W.sr ?_
       refine G.r (Runs.move rfl) ?_
       refine G.r (Runs.assign rfl) ?_
       refine G.nt ?_
       refine W.ret ?_
       refine V.then_ret ?_
       refine V.block_ret ?_
       refine V.then_ret ?_
       refine V.then_ret ?_
       refine V.block_ret ?_
       refine V.then_ret ?_
       exact V.ret1 rfl rfl (I) Fit.m ⟨by rw [show streamE nd es = fitE nd (at_ es ((k : Nat) : Int)) from (hs.trans (streamS_bad (by omega) c36))], rfl⟩
      ·refine W.skip ?_
       refine V.then ?_
       refine W.seq ?_
       refine W.sr ?_
       refine G.r (Runs.fieldAddr fld122_1 rfl) ?_
       refine G.r (Runs.ld ty3) ?_
       refine G.r (Runs.move rfl) ?_
       refine G.r (Runs.lss rfl rfl) ?_
       refine G.nt ?_
       refine W.ite rfl (fun c41 => ?_) (fun c41 => ?_)
       ·refine W.sr ?_
        refine G.r (Runs.assign rfl) ?_
        refine G.nt ?_
        refine W.ret ?_
        refine V.then_ret ?_
        refine V.block_ret ?_
        refine V.then_ret ?_
        refine V.then_ret ?_
        refine V.block_ret ?_
        refine V.then_ret ?_
        exact V.ret1 rfl rfl (I) Fit.m ⟨by rw [show streamE nd es = 9 from (hs.trans (streamS_late (by omega) (Classical.not_not.1 c36) (by omega)))], rfl⟩
       ·refine W.skip ?_
        refine V.then ?_
        refine W.region ?_
        refine G.r (Runs.fieldAddr fld122_1 rfl) ?_
        refine G.r (Runs.ld ty3) ?_
        refine G.r (Runs.assign rfl) ?_
        refine G.nil ?_
        refine V.block_normal ?_
        refine V.then ?_
        refine W.sub (L' := [(5, _), (0, _), (21, _), (22, _), (23, _)]) (Sub.cons rfl (Sub.cons rfl (Sub.cons rfl (Sub.cons rfl (Sub.cons rfl Sub.nil))))) ?_
        refine W.region ?_
        refine G.r (Runs.add rfl rfl (by unfold InR; omega)) ?_
        refine G.r (Runs.move rfl) ?_
        refine G.nil ?_
        exact V.next ((k + 1)) (show ((k + 1 : Nat) ≤ es.length) ∧ (streamE nd es = streamS nd (lastT es (k + 1 : Nat)) (es.drop (k + 1 : Nat))) from ⟨(by omega), (hs.trans (streamS_step (by omega) (Classical.not_not.1 c36) (by omega)))⟩) (show es.length - (k + 1 : Nat) < es.length - k from (by omega)) (Sub.cons rfl (Sub.cons (lookI rfl (by first | omega | (dsimp only <;> omega) | exact (rfl : (0 : Int) = lastT es 0) | exact (lastT_succ es k).symm)) (Sub.cons rfl (Sub.cons rfl (Sub.cons (lookI rfl (by first | omega | (dsimp only <;> omega) | exact (rfl : (0 : Int) = lastT es 0) | exact (lastT_succ es k).symm)) Sub.nil))))) (show Fit κ _ (I) from Fit.sub)
    ·refine W.exit ?_
     refine V.then_exit ?_
     refine V.then_exit ?_
     refine V.block_hit ?_
     refine V.then ?_
     refine W.sr ?_
     refine G.r (Runs.assign rfl) ?_
     refine G.nt ?_
     refine W.ret ?_
     exact V.ret1 rfl rfl (I) Fit.m ⟨by rw [show streamE nd es = 0 from (hs.trans (streamS_end (by omega)))], rfl⟩

end Go.Sl
namespace Go.Sl
open Go.Proofs
set_option linter.unusedVariables false
set_option linter.unusedSimpArgs false
set_option maxRecDepth 4000
theorem ov286 : ∀ args w, (callFunc 286 args).run Try.prog w = ((Extern.SlicesOverlaps.overlaps #[69, 69] #[4] args).run Try.prog w).andThen fun v w' => .ok (.value v) w' := fun args w => run_callFunc_extern (e := Extern.SlicesOverlaps.overlaps #[69, 69] #[4]) Try.func286 (by kernel_rfl) (by kernel_rfl) (by kernel_rfl) (by kernel_rfl) args w

set_option maxHeartbeats 8000000 in
theorem InsertL_ok {κ : Ctx} {I : List Item} {a va : Option Addr} {c vcp i : Nat} {xs ys : List Lk} (hi : i ≤ xs.length) (hy : 0 < ys.length) (hsz : xs.length + ys.length ≤ 1000000000) :
    CallS Try.prog κ 269 [.slice a xs.length c, I64 (((i : Nat) : Int)), .slice va ys.length vcp] (vc 158 (.slice a xs.length c) (xs) :: vc 158 (.slice va ys.length vcp) (ys) :: I) (fun r J => ∃ a' c', r = .slice a' (List.take i xs ++ ys ++ List.drop i xs).length c' ∧ J = vc 158 (.slice a' (List.take i xs ++ ys ++ List.drop i xs).length c') (List.take i xs ++ ys ++ List.drop i xs) :: I) := by
 refine CallS.pull (vc.cap List.mem_cons_self) fun hcap => ?_
 have hRl : (List.take i xs ++ ys ++ List.drop i xs).length = xs.length + ys.length := by simp only [List.length_append, List.length_take, List.length_drop]; omega
 refine CallS.enter (L := [(0, .slice a xs.length c), (1, I64 (((i : Nat) : Int))), (2, .slice va ys.length vcp)]) Try.func269 rfl rfl rfl rfl ?_
 refine W.sr ?_
 refine G.r (Runs.assign rfl) ?_
 refine G.nt ?_
 refine W.sr ?_
 refine G.r (Runs.move rfl) ?_
 refine G.r (Runs.move rfl) ?_
 refine G.r (Runs.lo (α := Lk) (xs := xs) (l := i) Try.underlying69 ty158 rfl rfl (by omega) Sl.o (by first | omega | (simp only [List.length_append, List.length_take, List.length_drop, List.length_replicate] <;> omega))) ?_
 refine G.nt ?_
 refine W.sr ?_
 refine G.r (Runs.move rfl) ?_
 refine G.r (Runs.lens Try.underlying69 rfl) ?_
 refine G.r (Runs.assign rfl) ?_
 refine G.nt ?_
 refine W.seq ?_
 refine W.sr ?_
 refine G.r (Runs.move rfl) ?_
 refine G.r (Runs.eql rfl rfl) ?_
 refine G.nt ?_
 refine W.ite rfl (fun c16 => ?_) (fun c16 => ?_)
 ·exact absurd c16 (by omega)
 ·refine W.skip ?_
  refine V.then ?_
  refine W.sr ?_
  refine G.r (Runs.move rfl) ?_
  refine G.r (Runs.lens Try.underlying69 rfl) ?_
  refine G.r (Runs.assign rfl) ?_
  refine G.nt ?_
  refine W.sub (L' := [(8, _), (7, _), (0, _), (1, _), (2, _)]) (Sub.cons rfl (Sub.cons rfl (Sub.cons rfl (Sub.cons rfl (Sub.cons rfl Sub.nil))))) ?_
  refine W.seq ?_
  refine W.sr ?_
  refine G.r (Runs.move rfl) ?_
  refine G.r (Runs.move rfl) ?_
  refine G.r (Runs.eql rfl rfl) ?_
  refine G.nt ?_
  refine W.ite rfl (fun c22 => ?_) (fun c22 => ?_)
  ·refine W.sr ?_
   refine G.r (Runs.move rfl) ?_
   refine G.r (Runs.move rfl) ?_
   refine G.e (Eff.app (α := Lk) (e := 158) (xs := xs) (ys := ys) Try.underlying69 ty158 rfl rfl rfl (by repeat (first | exact List.mem_cons_self | apply List.mem_cons_of_mem)) Sl.o (by omega) (by decide) rfl (fun _ _ => (by repeat (first | exact At.head _ _ _ | apply At.tail)))) ?_
   rintro _ _ ⟨ad1, cp2, rfl, rfl⟩
   refine G.r (Runs.assign rfl) ?_
   refine G.nt ?_
   refine W.ret ?_
   refine V.then_ret ?_
   have hR : List.take i xs ++ ys ++ List.drop i xs = xs ++ ys := by rw [List.take_of_length_le (by omega), List.drop_eq_nil_of_le (by omega), List.append_nil]
   exact V.ret1 rfl rfl (vc 158 (.slice ad1 (List.take i xs ++ ys ++ List.drop i xs).length cp2) (List.take i xs ++ ys ++ List.drop i xs) :: I) (by rw [hR]; exact Fit.s) ⟨ad1, cp2, by rw [hR], rfl⟩
  ·refine W.skip ?_
   refine V.then ?_
   refine W.seq ?_
   refine W.sr ?_
   refine G.r (Runs.move rfl) ?_
   refine G.r (Runs.move rfl) ?_
   refine G.r (Runs.add rfl rfl (by unfold InR; omega)) ?_
   refine G.r (Runs.move rfl) ?_
   refine G.r (Runs.caps Try.underlying69 rfl) ?_
   refine G.r (Runs.gtr rfl rfl) ?_
   refine G.nt ?_
   refine W.sub (L' := [(31, _), (8, _), (7, _), (0, _), (1, _), (2, _)]) (Sub.cons rfl (Sub.cons rfl (Sub.cons rfl (Sub.cons rfl (Sub.cons rfl (Sub.cons rfl Sub.nil)))))) ?_
   refine W.ite rfl (fun c31 => ?_) (fun c31 => ?_)
   ·refine W.sr ?_
    refine G.r (Runs.move rfl) ?_
    refine G.r (Runs.move rfl) ?_
    refine G.r (Runs.hiraw (h := i) Try.underlying69 ty158 rfl rfl (by omega) (by omega)) ?_
    refine G.r (Runs.move rfl) ?_
    refine G.r (Runs.move rfl) ?_
    refine G.r (Runs.add rfl rfl (by unfold InR; omega)) ?_
    refine G.r (Runs.move rfl) ?_
    refine G.r (Runs.sub rfl rfl (by unfold InR; omega)) ?_
    refine G.e (Eff.grow (α := Lk) (xs := xs) (k := xs.length + ys.length - i) Try.underlying69 Try.underlying3 ty158 rfl rfl rfl (by omega) Sl.o (by omega) (by omega) (by omega) (by omega) (by decide) rfl) ?_
    rintro _ _ ⟨ad3, cp4, rfl, rfl⟩
    refine G.r (Runs.assign rfl) ?_
    refine G.pull (p := (List.take i xs ++ List.replicate (xs.length + ys.length - i) (default : Lk)).length ≤ cp4) (vc.cap (by repeat (first | exact List.mem_cons_self | apply List.mem_cons_of_mem))) fun hcap2 => ?_
    have hZl : (List.take i xs ++ List.replicate (xs.length + ys.length - i) (default : Lk)).length = xs.length + ys.length := by simp only [List.length_append, List.length_take, List.length_replicate]; omega
    refine G.nt ?_
    refine W.sub (L' := [(9, _), (7, _), (0, _), (1, _), (2, _)]) (Sub.cons rfl (Sub.cons rfl (Sub.cons rfl (Sub.cons rfl (Sub.cons rfl Sub.nil))))) ?_
    refine W.sr ?_
    refine G.r (Runs.move rfl) ?_
    refine G.r (Runs.move rfl) ?_
    refine G.r (Runs.lo (α := Lk) (xs := List.take i xs ++ List.replicate (xs.length + ys.length - i) (default : Lk)) (l := i) Try.underlying69 ty158 rfl rfl (by omega) Sl.o (by first | omega | (simp only [List.length_append, List.length_take, List.length_drop, List.length_replicate] <;> omega))) ?_
    refine G.r (Runs.move rfl) ?_
    refine G.e (Eff.copyT (α := Lk) (k := i) (q := ys.length) (R := List.take i xs ++ ys ++ List.replicate (xs.length - i) (default : Lk)) (n := (i + (xs.length + ys.length - i))) Try.underlying69 ty158 rfl (by first | omega | (simp only [List.length_append, List.length_take, List.length_drop, List.length_replicate] <;> omega)) rfl Sl.o (by first | omega | (simp only [List.length_append, List.length_take, List.length_drop, List.length_replicate] <;> omega)) (by first | omega | (simp only [List.length_append, List.length_take, List.length_drop, List.length_replicate] <;> omega)) rfl (ins1 hi) (by first | omega | (simp only [List.length_append, List.length_take, List.length_drop, List.length_replicate] <;> omega)) (by repeat (first | exact At.head _ _ _ | apply At.tail))) ?_
    rintro _ _ ⟨rfl, rfl⟩
    refine G.nt ?_
    refine W.seq ?_
    refine W.drawn mixed ?_
    refine A.hold (I) 9 ?_
    refine D.r 0 rfl (Runs.move rfl) ?_ (hJ := Fit.sub)
    refine D.r 1 rfl (Runs.move rfl) ?_ (hJ := Fit.sub)
    refine D.r 2 rfl (Runs.move rfl) ?_ (hJ := Fit.sub)
    refine D.r 3 rfl (Runs.add rfl rfl (by unfold InR; omega)) ?_ (hJ := Fit.sub)
    refine D.r 4 rfl (Runs.loraw (l := (i + ys.length)) Try.underlying69 ty158 rfl rfl (by omega) (by omega) (by omega)) ?_ (hJ := Fit.sub)
    refine D.r 5 rfl (Runs.move rfl) ?_ (hJ := Fit.sub)
    refine D.r 6 rfl (Runs.move rfl) ?_ (hJ := Fit.sub)
    refine D.r 7 rfl (Runs.loraw (l := i) Try.underlying69 ty158 rfl rfl (by omega) (by omega) (by omega)) ?_ (hJ := Fit.sub)
    refine D.step (rs := [8]) (by kernel_rfl) rfl rfl (all1 ?_)
    refine Step.eff rfl (Wanted.plain rfl) (Eff.copyT (α := Lk) (k := (i + ys.length)) (q := (xs.length - i)) (R := List.take i xs ++ ys ++ List.drop i xs) (n := (i + (xs.length + ys.length - i))) Try.underlying69 ty158 rfl (by first | omega | (simp only [List.length_append, List.length_take, List.length_drop, List.length_replicate] <;> omega)) rfl (Sl.dropn (Sl.vec (xs := xs) (by repeat (first | exact List.mem_cons_self | apply List.mem_cons_of_mem))) (by omega) (by omega)) (by first | omega | (simp only [List.length_append, List.length_take, List.length_drop, List.length_replicate] <;> omega)) (by first | omega | (simp only [List.length_append, List.length_take, List.length_drop, List.length_replicate] <;> omega)) rfl (ins2 hi) (by first | omega | (simp only [List.length_append, List.length_take, List.length_drop, List.length_replicate] <;> omega)) (by repeat (first | exact At.head _ _ _ | apply At.tail))) ?_
    rintro _ _ ⟨rfl, rfl⟩
    refine ⟨Fit.sub, ?_⟩
    refine D.done (by kernel_rfl) ?_
    refine V.then ?_
    refine W.sub (L' := [(9, _)]) (Sub.cons rfl Sub.nil) ?_
    refine W.sr ?_
    refine G.r (Runs.move rfl) ?_
    refine G.r (Runs.assign rfl) ?_
    refine G.nt ?_
    refine W.ret ?_
    refine V.then_ret ?_
    exact V.ret1 rfl rfl (vc 158 (.slice ad3 (List.take i xs ++ ys ++ List.drop i xs).length cp4) (List.take i xs ++ ys ++ List.drop i xs) :: I) (by rw [show (List.take i xs ++ ys ++ List.drop i xs).length = i + (xs.length + ys.length - i) by omega]; exact Fit.s) ⟨ad3, cp4, by rw [show (List.take i xs ++ ys ++ List.drop i xs).length = i + (xs.length + ys.length - i) by omega], rfl⟩
   ·refine W.skip ?_
    refine V.then ?_
    refine W.sr ?_
    refine G.r (Runs.move rfl) ?_
    refine G.r (Runs.move rfl) ?_
    refine G.r (Runs.move rfl) ?_
    refine G.r (Runs.add rfl rfl (by unfold InR; omega)) ?_
    refine G.r (Runs.hiraw (h := xs.length + ys.length) Try.underlying69 ty158 rfl rfl (by omega) (by omega)) ?_
    refine G.r (Runs.assign rfl) ?_
    refine G.room (h := xs.length + ys.length) (by repeat (first | exact AtF.head _ _ | apply AtF.tail)) rfl (by omega) (by omega) (fun js hjs => ?_)
    show G Try.prog κ _ _ _ _ ([(0, .slice a (xs.length + ys.length) c), (60, .slice a (xs.length + ys.length) c), (59, I64 (((xs.length : Nat) : Int) + ((ys.length : Nat) : Int))), (58, I64 (((ys.length : Nat) : Int))), (57, I64 (((xs.length : Nat) : Int))), (56, .slice a xs.length c), (31, .bool (decide (((c : Nat) : Int) < (((xs.length : Nat) : Int) + ((ys.length : Nat) : Int))))), (8, I64 (((xs.length : Nat) : Int))), (7, I64 (((ys.length : Nat) : Int))), (0, .slice a xs.length c), (1, I64 (((i : Nat) : Int))), (2, .slice va ys.length vcp)] : Env) (vec 158 (Enc.sz Lk) (.slice a (xs.length + ys.length) c) (xs.length + ys.length) (cells xs ++ js) :: vc 158 (.slice va ys.length vcp) (ys) :: I)
    refine G.nt ?_
    refine W.seq ?_
    refine W.sr ?_
    refine G.r (Runs.move rfl) ?_
    refine G.r (Runs.move rfl) ?_
    refine G.r (Runs.move rfl) ?_
    refine G.r (Runs.move rfl) ?_
    refine G.r (Runs.add rfl rfl (by unfold InR; omega)) ?_
    refine G.r (Runs.loraw (l := (i + ys.length)) Try.underlying69 ty158 rfl rfl (by omega) (by omega) (by omega)) ?_
    refine G.e (Eff.overlaps (k := i + ys.length) ov286 Try.underlying69 ty158 rfl rfl (by omega) (by omega) (by omega) (show Fit κ _ (vc 158 (.slice va ys.length vcp) ys :: vec 158 (Enc.sz Lk) (.slice a (xs.length + ys.length) c) (xs.length + ys.length) (cells xs ++ js) :: I) from Fit.sp (Sp.pick (Pick.tail _ (Pick.head _ _)) (Sp.refl _))) (Nat.mul_pos (by omega) Enc.pos) rfl) ?_
    rintro _ _ ⟨rfl, rfl⟩
    refine G.r (Runs.not rfl) ?_
    refine G.nt ?_
    refine W.sub (L' := [(68, _), (0, _), (8, _), (7, _), (1, _), (2, _)]) (Sub.cons rfl (Sub.cons rfl (Sub.cons rfl (Sub.cons rfl (Sub.cons rfl (Sub.cons rfl Sub.nil)))))) ?_
    refine W.yes rfl ?_
    refine W.seq ?_
    refine W.drawn mixed ?_
    refine A.hold (I) 9 ?_
    refine D.r 0 rfl (Runs.move rfl) ?_ (hJ := Fit.sub)
    refine D.r 1 rfl (Runs.move rfl) ?_ (hJ := Fit.sub)
    refine D.r 2 rfl (Runs.move rfl) ?_ (hJ := Fit.sub)
    refine D.r 3 rfl (Runs.add rfl rfl (by unfold InR; omega)) ?_ (hJ := Fit.sub)
    refine D.r 4 rfl (Runs.loraw (l := (i + ys.length)) Try.underlying69 ty158 rfl rfl (by omega) (by omega) (by omega)) ?_ (hJ := Fit.sub)
    refine D.r 5 rfl (Runs.move rfl) ?_ (hJ := Fit.sub)
    refine D.r 6 rfl (Runs.move rfl) ?_ (hJ := Fit.sub)
    refine D.r 7 rfl (Runs.loraw (l := i) Try.underlying69 ty158 rfl rfl (by omega) (by omega) (by omega)) ?_ (hJ := Fit.sub)
    refine D.step (rs := [8]) (by kernel_rfl) rfl rfl (all1 ?_)
    refine Step.eff rfl (Wanted.plain rfl) (Eff.copyR (sz := Enc.sz Lk) (n := xs.length + ys.length) (cs := (cells xs ++ js)) (k := (i + ys.length)) (q := (xs.length - i)) Try.underlying69 ty158 rfl (by omega) rfl (SlRd.dropR (SlRd.vec (by repeat (first | exact List.mem_cons_self | apply List.mem_cons_of_mem))) (by omega)) (by omega) (by omega) (ins_one hi) rfl (by repeat (first | exact At.head _ _ _ | apply At.tail))) ?_
    rintro _ _ ⟨rfl, rfl⟩
    refine ⟨Fit.sub, ?_⟩
    show D Try.prog κ _ _ _ _ _ _ _ ([(77, I64 ((((xs.length - i) : Nat) : Int))), (76, .slice (adrop a c i (Enc.sz Lk)) ((xs.length + ys.length) - i) (c - i)), (75, I64 (((i : Nat) : Int))), (74, .slice a (xs.length + ys.length) c), (73, .slice (adrop a c (i + ys.length) (Enc.sz Lk)) ((xs.length + ys.length) - (i + ys.length)) (c - (i + ys.length))), (72, I64 (((i : Nat) : Int) + ((ys.length : Nat) : Int))), (71, I64 (((ys.length : Nat) : Int))), (70, I64 (((i : Nat) : Int))), (69, .slice a (xs.length + ys.length) c), (68, .bool true), (0, .slice a (xs.length + ys.length) c), (8, I64 (((xs.length : Nat) : Int))), (7, I64 (((ys.length : Nat) : Int))), (1, I64 (((i : Nat) : Int))), (2, .slice va ys.length vcp)] : Env) (vec 158 (Enc.sz Lk) (.slice a (xs.length + ys.length) c) (xs.length + ys.length) (List.take ((i + ys.length) * Enc.sz Lk) (cells xs ++ js) ++ List.take ((xs.length - i) * Enc.sz Lk) (List.drop (i * Enc.sz Lk) (cells xs ++ js)) ++ List.drop ((i + ys.length) * Enc.sz Lk + (xs.length - i) * Enc.sz Lk) (cells xs ++ js)) :: vc 158 (.slice va ys.length vcp) (ys) :: I)
    refine D.done (by kernel_rfl) ?_
    refine V.then ?_
    refine W.sub (L' := [(0, _), (1, _), (2, _)]) (Sub.cons rfl (Sub.cons rfl (Sub.cons rfl Sub.nil))) ?_
    refine W.sr ?_
    refine G.r (Runs.move rfl) ?_
    refine G.r (Runs.move rfl) ?_
    refine G.r (Runs.loraw (l := i) Try.underlying69 ty158 rfl rfl (by omega) (by omega) (by omega)) ?_
    refine G.r (Runs.move rfl) ?_
    refine G.e (Eff.copyR (sz := Enc.sz Lk) (n := xs.length + ys.length) (cs := (List.take ((i + ys.length) * Enc.sz Lk) (cells xs ++ js) ++ List.take ((xs.length - i) * Enc.sz Lk) (List.drop (i * Enc.sz Lk) (cells xs ++ js)) ++ List.drop ((i + ys.length) * Enc.sz Lk + (xs.length - i) * Enc.sz Lk) (cells xs ++ js))) (k := i) (q := ys.length) Try.underlying69 ty158 rfl (by omega) rfl (show Sl κ _ (.slice va ys.length vcp) ys from (Sl.vec (e := 158) (xs := ys) (by repeat (first | exact List.mem_cons_self | apply List.mem_cons_of_mem)))) (by omega) (by omega) (fun u hu => cells_one ys u (List.mem_of_mem_take hu)) rfl (by repeat (first | exact At.head _ _ _ | apply At.tail))) ?_
    rintro _ _ ⟨rfl, rfl⟩
    show G Try.prog κ _ _ _ _ ([(82, I64 (((ys.length : Nat) : Int))), (81, .slice va ys.length vcp), (80, .slice (adrop a c i (Enc.sz Lk)) ((xs.length + ys.length) - i) (c - i)), (79, I64 (((i : Nat) : Int))), (78, .slice a (xs.length + ys.length) c), (0, .slice a (xs.length + ys.length) c), (1, I64 (((i : Nat) : Int))), (2, .slice va ys.length vcp)] : Env) (vec 158 (Enc.sz Lk) (.slice a (xs.length + ys.length) c) (xs.length + ys.length) (List.take (i * Enc.sz Lk) (List.take ((i + ys.length) * Enc.sz Lk) (cells xs ++ js) ++ List.take ((xs.length - i) * Enc.sz Lk) (List.drop (i * Enc.sz Lk) (cells xs ++ js)) ++ List.drop ((i + ys.length) * Enc.sz Lk + (xs.length - i) * Enc.sz Lk) (cells xs ++ js)) ++ List.take (ys.length * Enc.sz Lk) (cells ys) ++ List.drop (i * Enc.sz Lk + ys.length * Enc.sz Lk) (List.take ((i + ys.length) * Enc.sz Lk) (cells xs ++ js) ++ List.take ((xs.length - i) * Enc.sz Lk) (List.drop (i * Enc.sz Lk) (cells xs ++ js)) ++ List.drop ((i + ys.length) * Enc.sz Lk + (xs.length - i) * Enc.sz Lk) (cells xs ++ js))) :: vc 158 (.slice va ys.length vcp) (ys) :: I)
    refine G.nt ?_
    refine W.sr ?_
    refine G.r (Runs.move rfl) ?_
    refine G.r (Runs.assign rfl) ?_
    refine G.nt ?_
    refine W.ret ?_
    refine V.then_ret ?_
    have hC : (List.take (i * Enc.sz Lk) (List.take ((i + ys.length) * Enc.sz Lk) (cells xs ++ js) ++ List.take ((xs.length - i) * Enc.sz Lk) (List.drop (i * Enc.sz Lk) (cells xs ++ js)) ++ List.drop ((i + ys.length) * Enc.sz Lk + (xs.length - i) * Enc.sz Lk) (cells xs ++ js)) ++ List.take (ys.length * Enc.sz Lk) (cells ys) ++ List.drop (i * Enc.sz Lk + ys.length * Enc.sz Lk) (List.take ((i + ys.length) * Enc.sz Lk) (cells xs ++ js) ++ List.take ((xs.length - i) * Enc.sz Lk) (List.drop (i * Enc.sz Lk) (cells xs ++ js)) ++ List.drop ((i + ys.length) * Enc.sz Lk + (xs.length - i) * Enc.sz Lk) (cells xs ++ js))) = cells (List.take i xs ++ ys ++ List.drop i xs) := ins_cells hi hjs
    exact V.ret1 rfl rfl (vc 158 (.slice a (List.take i xs ++ ys ++ List.drop i xs).length c) (List.take i xs ++ ys ++ List.drop i xs) :: I) (by rw [hC]; show Fit κ _ (vec 158 _ (.slice a (List.take i xs ++ ys ++ List.drop i xs).length c) (List.take i xs ++ ys ++ List.drop i xs).length (cells (List.take i xs ++ ys ++ List.drop i xs)) :: I); rw [hRl]; exact Fit.s) ⟨a, c, by rw [hRl], rfl⟩

theorem InsertL_two {κ : Ctx} {I : List Item} {a va : Option Addr} {n m c vcp i : Nat} {xs ys : List Lk} {K : List Item} (hf : Fit κ I (vc 158 (.slice a n c) xs :: vc 158 (.slice va m vcp) ys :: K)) (hn : n = xs.length) (hm : m = ys.length) (hi : i ≤ xs.length) (hy : 0 < ys.length) (hsz : xs.length + ys.length ≤ 1000000000) :
    CallS Try.prog κ 269 [.slice a n c, I64 ((i : Nat) : Int), .slice va m vcp] I (fun r J => ∃ a' c', r = .slice a' (List.take i xs ++ ys ++ List.drop i xs).length c' ∧ J = vc 158 (.slice a' (List.take i xs ++ ys ++ List.drop i xs).length c') (List.take i xs ++ ys ++ List.drop i xs) :: K) := by
  subst hn hm
  exact CallS.fit hf (InsertL_ok hi hy hsz)

theorem BSearchL {κ : Ctx} {I : List Item} {v : Value} {xs : List Lk} (hl : Sl κ I v xs) (x : Lk) {g : FuncId} {cp_ : List Value} {cf : Lk → Lk → Int} (hcb : Cmps Try.prog κ I g cp_ cf) (hsz : xs.length ≤ 1000000000000) :
    CallS Try.prog κ 268 [v, .agg #[I64 (x.u), I64 (x.v), I64 (x.w), I64 (x.lb), I64 (x.sg), I64 (x.tm)], .func (.func g) #[] cp_.toArray] I (fun r J => ∃ i b, r = .tuple #[I64 ((i : Nat) : Int), .bool b] ∧ BFound cf xs x i b ∧ I = J) := by
 refine CallS.pull hl.le fun hmax => ?_
 refine CallS.enter (L := [(0, v), (1, .agg #[I64 (x.u), I64 (x.v), I64 (x.w), I64 (x.lb), I64 (x.sg), I64 (x.tm)]), (2, .func (.func g) #[] cp_.toArray)]) Try.func268 rfl rfl rfl rfl ?_
 refine W.sr ?_
 refine G.e (Eff.box (cs := [_, _, _, _, _, _]) rfl rfl rfl) ?_
 rintro _ _ ⟨b1, rfl, rfl⟩
 refine G.r (Runs.assign rfl) ?_
 refine G.r (Runs.assign rfl) ?_
 refine G.nt ?_
 refine W.sr ?_
 refine G.r (Runs.move rfl) ?_
 refine G.r (Runs.lenT (α := Lk) (xs := xs) Try.underlying69 rfl (Sl.f hl)) ?_
 refine G.r (Runs.assign rfl) ?_
 refine G.nt ?_
 refine W.sr ?_
 refine G.r (Runs.move rfl) ?_
 refine G.r (Runs.assign rfl) ?_
 refine G.r (Runs.assign rfl) ?_
 refine G.nt ?_
 refine W.seq ?_
 refine W.block ?_
 refine W.loop (σ := Nat × Nat) (fun s => ([(0, v), (2, .func (.func g) #[] cp_.toArray), (4, .pointer (some ⟨b1, 0, none⟩)), (8, I64 (((xs.length : Nat) : Int))), (9, I64 (((s.1 : Nat) : Int))), (10, I64 (((s.2 : Nat) : Int)))] : Env)) (fun s => blk b1 [I64 (x.u), I64 (x.v), I64 (x.w), I64 (x.lb), I64 (x.sg), I64 (x.tm)] 158 :: I) (fun s => (s.1 ≤ s.2) ∧ (s.2 ≤ xs.length) ∧ (0 < s.1 → cf (at_ xs ((s.1 : Int) - 1)) x < 0) ∧ (s.2 < xs.length → ¬ cf (at_ xs (s.2 : Int)) x < 0)) (fun s => s.2 - s.1) (0, xs.length) (show ((0 : Nat) ≤ (xs.length : Nat)) ∧ ((xs.length : Nat) ≤ xs.length) ∧ (0 < (0 : Nat) → cf (at_ xs (((0 : Nat) : Int) - 1)) x < 0) ∧ ((xs.length : Nat) < xs.length → ¬ cf (at_ xs ((xs.length : Nat) : Int)) x < 0) from ⟨(by omega), (by omega), (fun h => absurd h (by decide)), (fun h => absurd h (by omega))⟩) (Sub.cons rfl (Sub.cons rfl (Sub.cons rfl (Sub.cons rfl (Sub.cons lookO (Sub.cons lookO Sub.nil)))))) (show Fit κ _ (blk b1 [I64 (x.u), I64 (x.v), I64 (x.w), I64 (x.lb), I64 (x.sg), I64 (x.tm)] 158 :: I) from Fit.sub) ?_
 rintro ⟨i, j⟩ hp
 obtain ⟨hij, hj, hlo, hhi⟩ : (i ≤ j) ∧ (j ≤ xs.length) ∧ (0 < i → cf (at_ xs ((i : Int) - 1)) x < 0) ∧ (j < xs.length → ¬ cf (at_ xs (j : Int)) x < 0) := hp
 show W Try.prog κ 49 _ _ ([(0, v), (2, .func (.func g) #[] cp_.toArray), (4, .pointer (some ⟨b1, 0, none⟩)), (8, I64 (((xs.length : Nat) : Int))), (9, I64 (((i : Nat) : Int))), (10, I64 (((j : Nat) : Int)))] : Env) (blk b1 [I64 (x.u), I64 (x.v), I64 (x.w), I64 (x.lb), I64 (x.sg), I64 (x.tm)] 158 :: I)
 refine W.seq ?_
 refine W.sr ?_
 refine G.r (Runs.move rfl) ?_
 refine G.r (Runs.move rfl) ?_
 refine G.r (Runs.lss rfl rfl) ?_
 refine G.nt ?_
 refine W.ite rfl (fun c17 => ?_) (fun c17 => ?_)
 ·refine W.skip ?_
  refine V.then ?_
  refine W.block ?_
  refine W.sr ?_
  refine G.r (Runs.move rfl) ?_
  refine G.r (Runs.move rfl) ?_
  refine G.r (Runs.add rfl rfl (by unfold InR; omega)) ?_
  refine G.r (Runs.convU Try.underlying3 Try.underlying230 rfl (by omega)) ?_
  refine G.r (Runs.shr1 rfl rfl) ?_
  refine G.r (Runs.convI Try.underlying230 Try.underlying3 rfl (by unfold InR; omega)) ?_
  refine G.r (Runs.assign rfl) ?_
  refine G.nt ?_
  refine W.sub (L' := [(11, _), (0, _), (2, _), (4, _), (8, _), (9, _), (10, _)]) (Sub.cons rfl (Sub.cons rfl (Sub.cons rfl (Sub.cons rfl (Sub.cons rfl (Sub.cons rfl (Sub.cons rfl Sub.nil))))))) ?_
  refine W.seq ?_
  refine W.drawn mixed ?_
  refine A.hold (blk b1 [I64 (x.u), I64 (x.v), I64 (x.w), I64 (x.lb), I64 (x.sg), I64 (x.tm)] 158 :: I) 8 ?_
  refine D.r 0 rfl (Runs.move rfl) ?_ (hJ := Fit.sub)
  refine D.r 1 rfl (Runs.move rfl) ?_ (hJ := Fit.sub)
  refine D.r 2 rfl (Runs.move rfl) ?_ (hJ := Fit.sub)
  refine D.r 3 rfl (Runs.idx (α := Lk) (xs := xs) Try.underlying69 ty158 rfl rfl (Sl.f hl) (by omega) (by omega)) ?_ (hJ := Fit.sub)
  refine D.r 4 rfl (Runs.gets (α := Lk) (xs := xs) ty158 rfl (Sl.f hl) (by omega) (by omega)) ?_ (hJ := Fit.sub)
  refine D.r 5 rfl (Runs.lds (vs := [_, _, _, _, _, _]) ty158) ?_ (hJ := Fit.sub)
  refine D.step (rs := [6]) (by kernel_rfl) rfl rfl (all1 ?_)
  refine Step.eff rfl (Wanted.plain rfl) (Eff.callv hcb.1 (first := []) (caps := cp_) rfl rfl rfl (hcb.2 (at_ xs ((((i : Nat) : Int) + ((j : Nat) : Int)) / 2)) x _ Fit.m)) ?_
  rintro _ _ ⟨_, _, ⟨rfl, rfl⟩, rfl, rfl⟩
  refine ⟨Fit.sub, ?_⟩
  refine D.r 7 rfl (Runs.lss rfl rfl) ?_ (hJ := Fit.sub)
  refine D.done (by kernel_rfl) ?_
  refine V.then ?_
  refine W.sub (L' := [(31, _), (11, _), (0, _), (2, _), (4, _), (8, _), (9, _), (10, _)]) (Sub.cons rfl (Sub.cons rfl (Sub.cons rfl (Sub.cons rfl (Sub.cons rfl (Sub.cons rfl (Sub.cons rfl (Sub.cons rfl Sub.nil)))))))) ?_
  refine W.ite rfl (fun c31 => ?_) (fun c31 => ?_)
  ·refine W.region ?_
   refine G.r (Runs.move rfl) ?_
   refine G.r (Runs.add rfl rfl (by unfold InR; omega)) ?_
   refine G.r (Runs.assign rfl) ?_
   refine G.nil ?_
   refine V.block_normal ?_
   exact V.next (((i + j) / 2 + 1), (j)) (show (((i + j) / 2 + 1 : Nat) ≤ (j : Nat)) ∧ ((j : Nat) ≤ xs.length) ∧ (0 < ((i + j) / 2 + 1 : Nat) → cf (at_ xs ((((i + j) / 2 + 1 : Nat) : Int) - 1)) x < 0) ∧ ((j : Nat) < xs.length → ¬ cf (at_ xs ((j : Nat) : Int)) x < 0) from ⟨(by omega), (by omega), (fun _ => by rw [show (((i + j) / 2 + 1 : Nat) : Int) - 1 = (((i : Nat) : Int) + ((j : Nat) : Int)) / 2 by omega]; exact c31), hhi⟩) (show (j : Nat) - ((i + j) / 2 + 1 : Nat) < j - i from (by omega)) (Sub.cons rfl (Sub.cons rfl (Sub.cons rfl (Sub.cons rfl (Sub.cons lookO (Sub.cons lookO Sub.nil)))))) (show Fit κ _ (blk b1 [I64 (x.u), I64 (x.v), I64 (x.w), I64 (x.lb), I64 (x.sg), I64 (x.tm)] 158 :: I) from Fit.sub)
  ·refine W.region ?_
   refine G.r (Runs.move rfl) ?_
   refine G.r (Runs.assign rfl) ?_
   refine G.nil ?_
   refine V.block_normal ?_
   exact V.next ((i), ((i + j) / 2)) (show ((i : Nat) ≤ ((i + j) / 2 : Nat)) ∧ (((i + j) / 2 : Nat) ≤ xs.length) ∧ (0 < (i : Nat) → cf (at_ xs (((i : Nat) : Int) - 1)) x < 0) ∧ (((i + j) / 2 : Nat) < xs.length → ¬ cf (at_ xs (((i + j) / 2 : Nat) : Int)) x < 0) from ⟨(by omega), (by omega), hlo, (fun _ => by rw [show (((i + j) / 2 : Nat) : Int) = (((i : Nat) : Int) + ((j : Nat) : Int)) / 2 by omega]; exact c31)⟩) (show ((i + j) / 2 : Nat) - (i : Nat) < j - i from (by omega)) (Sub.cons rfl (Sub.cons rfl (Sub.cons rfl (Sub.cons rfl (Sub.cons lookO (Sub.cons lookO Sub.nil)))))) (show Fit κ _ (blk b1 [I64 (x.u), I64 (x.v), I64 (x.w), I64 (x.lb), I64 (x.sg), I64 (x.tm)] 158 :: I) from Fit.sub)
 ·refine W.exit ?_
  refine V.then_exit ?_
  refine V.then_exit ?_
  refine V.block_hit ?_
  refine V.then ?_
  refine W.seq ?_
  refine W.drawn mixed ?_
  refine A.hold (blk b1 [I64 (x.u), I64 (x.v), I64 (x.w), I64 (x.lb), I64 (x.sg), I64 (x.tm)] 158 :: I) 16 ?_
  refine D.r 0 rfl (Runs.move rfl) ?_ (hJ := Fit.sub)
  refine D.r 1 rfl (Runs.move rfl) ?_ (hJ := Fit.sub)
  refine D.r 2 rfl (Runs.move rfl) ?_ (hJ := Fit.sub)
  refine D.r 3 rfl (Runs.lss rfl rfl) ?_ (hJ := Fit.sub)
  refine D.r 4 rfl (Runs.move rfl) ?_ (hJ := Fit.sub)
  refine D.split (d := 39) rfl (fun g39 => ?_) (fun g39 => ?_)
  ·refine D.read 5 rfl (by kernel_rfl) (by kernel_rfl) (by kernel_rfl) rfl (by kernel_rfl) (fun _ _ _ _ h => h) (Wanted.on rfl rfl rfl) rfl rfl Fit.sub (Runs.move rfl) ?_
   refine D.read 6 rfl (by kernel_rfl) (by kernel_rfl) (by kernel_rfl) rfl (by kernel_rfl) (fun _ _ _ _ h => h) (Wanted.on rfl rfl rfl) rfl rfl Fit.sub (Runs.move rfl) ?_
   refine D.read 7 rfl (by kernel_rfl) (by kernel_rfl) (by kernel_rfl) rfl (by kernel_rfl) (fun _ _ _ _ h => h) (Wanted.on rfl rfl rfl) rfl rfl Fit.sub (Runs.move rfl) ?_
   refine D.read 8 rfl (by kernel_rfl) (by kernel_rfl) (by kernel_rfl) rfl (by kernel_rfl) (fun _ _ _ _ h => h) (Wanted.on rfl rfl rfl) rfl rfl Fit.sub (Runs.idx (α := Lk) (xs := xs) Try.underlying69 ty158 rfl rfl (Sl.f hl) (by omega) (by omega)) ?_
   refine D.read 9 rfl (by kernel_rfl) (by kernel_rfl) (by kernel_rfl) rfl (by kernel_rfl) (fun _ _ _ _ h => h) (Wanted.on rfl rfl rfl) rfl rfl Fit.sub (Runs.gets (α := Lk) (xs := xs) ty158 rfl (Sl.f hl) (by omega) (by omega)) ?_
   refine D.read 10 rfl (by kernel_rfl) (by kernel_rfl) (by kernel_rfl) rfl (by kernel_rfl) (fun _ _ _ _ h => h) (Wanted.on rfl rfl rfl) rfl rfl Fit.sub (Runs.lds (vs := [_, _, _, _, _, _]) ty158) ?_
   refine D.step (rs := [11]) (by kernel_rfl) rfl rfl (all1 ?_)
   refine Step.eff rfl (Wanted.on rfl rfl rfl) (Eff.callv hcb.1 (first := []) (caps := cp_) rfl rfl rfl (hcb.2 (at_ xs ((i : Nat) : Int)) x _ Fit.m)) ?_
   rintro _ _ ⟨_, _, ⟨rfl, rfl⟩, rfl, rfl⟩
   refine ⟨Fit.sub, ?_⟩
   refine D.read 12 rfl (by kernel_rfl) (by kernel_rfl) (by kernel_rfl) rfl (by kernel_rfl) (fun _ _ _ _ h => h) (Wanted.on rfl rfl rfl) rfl rfl Fit.sub (Runs.eql rfl rfl) ?_
   refine D.r 13 rfl (Runs.pickt rfl rfl) ?_ (hJ := Fit.sub)
   refine D.r 14 rfl (Runs.assign rfl) ?_ (hJ := Fit.sub)
   refine D.r 15 rfl (Runs.assign rfl) ?_ (hJ := Fit.sub)
   refine D.done (by kernel_rfl) ?_
   refine V.then ?_
   refine W.sub (L' := [(7, _), (6, _)]) (Sub.cons rfl (Sub.cons rfl Sub.nil)) ?_
   refine W.ret ?_
   have hie : i = j := by omega
   subst hie
   exact V.ret2 rfl rfl rfl (I) Fit.m ⟨i, _, rfl, ⟨hj, hlo, hhi, (decide_eq_decide.2 ⟨fun h => ⟨by omega, h⟩, fun h => h.2⟩)⟩, rfl⟩
  ·refine D.pass 5 rfl (by kernel_rfl) (by kernel_rfl) (by kernel_rfl) rfl (by kernel_rfl) (fun _ _ _ _ h => h) (Unwanted.off rfl rfl rfl) rfl rfl Fit.sub ?_
   refine D.pass 6 rfl (by kernel_rfl) (by kernel_rfl) (by kernel_rfl) rfl (by kernel_rfl) (fun _ _ _ _ h => h) (Unwanted.off rfl rfl rfl) rfl rfl Fit.sub ?_
   refine D.pass 7 rfl (by kernel_rfl) (by kernel_rfl) (by kernel_rfl) rfl (by kernel_rfl) (fun _ _ _ _ h => h) (Unwanted.off rfl rfl rfl) rfl rfl Fit.sub ?_
   refine D.pass 8 rfl (by kernel_rfl) (by kernel_rfl) (by kernel_rfl) rfl (by kernel_rfl) (fun _ _ _ _ h => h) (Unwanted.off rfl rfl rfl) rfl rfl Fit.sub ?_
   refine D.pass 9 rfl (by kernel_rfl) (by kernel_rfl) (by kernel_rfl) rfl (by kernel_rfl) (fun _ _ _ _ h => h) (Unwanted.off rfl rfl rfl) rfl rfl Fit.sub ?_
   refine D.pass 10 rfl (by kernel_rfl) (by kernel_rfl) (by kernel_rfl) rfl (by kernel_rfl) (fun _ _ _ _ h => h) (Unwanted.off rfl rfl rfl) rfl rfl Fit.sub ?_
   refine D.pass 11 rfl (by kernel_rfl) (by kernel_rfl) (by kernel_rfl) rfl (by kernel_rfl) (fun _ _ _ _ h => h) (Unwanted.off rfl rfl rfl) rfl rfl Fit.sub ?_
   refine D.pass 12 rfl (by kernel_rfl) (by kernel_rfl) (by kernel_rfl) rfl (by kernel_rfl) (fun _ _ _ _ h => h) (Unwanted.off rfl rfl rfl) rfl rfl Fit.sub ?_
   refine D.r 13 rfl (Runs.pickf rfl rfl) ?_ (hJ := Fit.sub)
   refine D.r 14 rfl (Runs.assign rfl) ?_ (hJ := Fit.sub)
   refine D.r 15 rfl (Runs.assign rfl) ?_ (hJ := Fit.sub)
   refine D.done (by kernel_rfl) ?_
   refine V.then ?_
   refine W.sub (L' := [(7, _), (6, _)]) (Sub.cons rfl (Sub.cons rfl Sub.nil)) ?_
   refine W.ret ?_
   have hie : i = j := by omega
   subst hie
   exact V.ret2 rfl rfl rfl (I) Fit.m ⟨i, _, rfl, ⟨hj, hlo, hhi, ((decide_eq_false (fun h => by omega)).symm)⟩, rfl⟩

theorem OrderL_cmps {κ : Ctx} {I : List Item} : Cmps Try.prog κ I 188 [] Lk.cmp := ⟨call188, fun x y J hf => OrderL_ok x y⟩

end Go.Sl
namespace Go.Sl
open Go.Proofs
set_option linter.unusedVariables false
set_option linter.unusedSimpArgs false
set_option maxRecDepth 4000
set_option maxHeartbeats 1000000 in
theorem SetP_base {κ : Ctx} {I : List Item} {e : Ev} {a0 : Option Addr} {c0 : Nat} {xs : List Lk} (ha : xs.Pairwise Lk.lt) (hsz : xs.length ≤ 1000000) :
    CallS Try.prog κ 247 [.slice a0 xs.length c0, .agg #[I64 (e.kd), I64 (e.tm), I64 (e.u), I64 (e.v), I64 (e.w), I64 (e.lb), I64 (e.sg)]] (vc 158 (.slice a0 xs.length c0) (xs) :: I) (fun r J => ∃ y : Option Addr × Nat × Value, (r = .tuple #[.slice y.1 (setL (lkOf e) xs).length y.2.1, y.2.2]) ∧ J = [] ++ vc 158 (.slice y.1 (setL (lkOf e) xs).length y.2.1) (setL (lkOf e) xs) :: I) := by
 refine CallS.enter (L := [(0, .slice a0 xs.length c0), (1, .agg #[I64 (e.kd), I64 (e.tm), I64 (e.u), I64 (e.v), I64 (e.w), I64 (e.lb), I64 (e.sg)])]) Try.func247 rfl rfl rfl rfl ?_
 refine W.sr ?_
 refine G.e (Eff.box (cs := [_, _, _, _, _, _, _]) rfl rfl rfl) ?_
 rintro _ _ ⟨b1, rfl, rfl⟩
 refine G.r (Runs.assign rfl) ?_
 refine G.r (Runs.assign rfl) ?_
 refine G.nt ?_
 refine W.sr ?_
 refine G.r (Runs.fieldAddr fld122_2 rfl) ?_
 refine G.r (Runs.ld ty3) ?_
 refine G.r (Runs.fieldAddr fld122_3 rfl) ?_
 refine G.r (Runs.ld ty3) ?_
 refine G.r (Runs.min rfl rfl) ?_
 refine G.r (Runs.fieldAddr fld122_2 rfl) ?_
 refine G.r (Runs.ld ty3) ?_
 refine G.r (Runs.fieldAddr fld122_3 rfl) ?_
 refine G.r (Runs.ld ty3) ?_
 refine G.r (Runs.max rfl rfl) ?_
 refine G.r (Runs.fieldAddr fld122_4 rfl) ?_
 refine G.r (Runs.ld ty3) ?_
 refine G.r (Runs.fieldAddr fld122_5 rfl) ?_
 refine G.r (Runs.ld ty3) ?_
 refine G.r (Runs.fieldAddr fld122_6 rfl) ?_
 refine G.r (Runs.ld ty3) ?_
 refine G.r (Runs.fieldAddr fld122_1 rfl) ?_
 refine G.r (Runs.ld ty3) ?_
 refine G.r (Runs.build (cells := [_, _, _, _, _, _]) ty158 Try.underlying158 pl158 rfl rfl) ?_
 refine G.e (Eff.alloc ty158 rfl) ?_
 rintro _ _ ⟨b2, rfl, rfl⟩
 refine G.e (Eff.st (cs := [_, _, _, _, _, _]) (vs := [_, _, _, _, _, _]) (cs' := [_, _, _, _, _, _]) ty158) ?_
 rintro _ _ ⟨rfl, rfl⟩
 refine G.nt ?_
 refine W.sub (L' := [(6, _), (3, _), (0, _)]) (Sub.cons rfl (Sub.cons rfl (Sub.cons rfl Sub.nil))) ?_
 refine W.sr ?_
 refine G.r (Runs.move rfl) ?_
 refine G.r (Runs.lds (vs := [_, _, _, _, _, _]) ty158) ?_
 refine G.e (Eff.call call268 rfl rfl (BSearchL Sl.o (⟨if e.v < e.u then e.v else e.u, if e.u < e.v then e.v else e.u, e.w, e.lb, e.sg, e.tm⟩ : Lk) OrderL_cmps (by omega))) ?_
 rintro _ _ ⟨_, _, ⟨i3, q4, rfl, hi3, rfl⟩, rfl, rfl⟩
 refine G.r (Runs.move rfl) ?_
 have hile := hi3.le
 refine G.r (Runs.extract rfl rfl) ?_
 refine G.r (Runs.extract rfl rfl) ?_
 refine G.r (Runs.assign rfl) ?_
 refine G.r (Runs.assign rfl) ?_
 refine G.nt ?_
 refine W.seq ?_
 refine W.seq ?_
 refine W.drawn mixed ?_
 refine A.hold (blk b2 [I64 (if e.v < e.u then e.v else e.u), I64 (if e.u < e.v then e.v else e.u), I64 (e.w), I64 (e.lb), I64 (e.sg), I64 (e.tm)] 158 :: blk b1 [I64 (e.kd), I64 (e.tm), I64 (e.u), I64 (e.v), I64 (e.w), I64 (e.lb), I64 (e.sg)] 122 :: vc 158 (.slice a0 xs.length c0) (xs) :: I) 9 ?_
 refine D.r 0 rfl (Runs.move rfl) ?_ (hJ := Fit.sub)
 refine D.r 1 rfl (Runs.move rfl) ?_ (hJ := Fit.sub)
 refine D.splitb (d := 35) rfl (fun g35 => ?_) (fun g35 => ?_)
 ·have hil := (setL_there hi3 ha g35).1
  refine D.read 2 rfl (by kernel_rfl) (by kernel_rfl) (by kernel_rfl) rfl (by kernel_rfl) (fun _ _ _ _ h => h) (Wanted.on rfl rfl rfl) rfl rfl Fit.sub (Runs.move rfl) ?_
  refine D.read 3 rfl (by kernel_rfl) (by kernel_rfl) (by kernel_rfl) rfl (by kernel_rfl) (fun _ _ _ _ h => h) (Wanted.on rfl rfl rfl) rfl rfl Fit.sub (Runs.move rfl) ?_
  refine D.read 4 rfl (by kernel_rfl) (by kernel_rfl) (by kernel_rfl) rfl (by kernel_rfl) (fun _ _ _ _ h => h) (Wanted.on rfl rfl rfl) rfl rfl Fit.sub (Runs.idx (α := Lk) (xs := xs) Try.underlying69 ty158 rfl rfl Sl.o (by omega) (by omega)) ?_
  refine D.read 5 rfl (by kernel_rfl) (by kernel_rfl) (by kernel_rfl) rfl (by kernel_rfl) (fun _ _ _ _ h => h) (Wanted.on rfl rfl rfl) rfl rfl Fit.sub (Runs.gets (α := Lk) (xs := xs) ty158 rfl Sl.o (by omega) (by omega)) ?_
  refine D.read 6 rfl (by kernel_rfl) (by kernel_rfl) (by kernel_rfl) rfl (by kernel_rfl) (fun _ _ _ _ h => h) (Wanted.on rfl rfl rfl) rfl rfl Fit.sub (Runs.lds (vs := [_, _, _, _, _, _]) ty158) ?_
  refine D.read 7 rfl (by kernel_rfl) (by kernel_rfl) (by kernel_rfl) rfl (by kernel_rfl) (fun _ _ _ _ h => h) (Wanted.on rfl rfl rfl) rfl rfl Fit.sub (Runs.eqlT (α := Lk) (a := (at_ xs ((i3 : Nat) : Int))) (b := (⟨if e.v < e.u then e.v else e.u, if e.u < e.v then e.v else e.u, e.w, e.lb, e.sg, e.tm⟩ : Lk)) eqt158 rfl rfl) ?_
  refine D.r 8 rfl (Runs.pickt rfl rfl) ?_ (hJ := Fit.sub)
  refine D.done (by kernel_rfl) ?_
  refine V.then ?_
  refine W.sub (L' := [(42, _), (8, _), (7, _), (6, _), (3, _), (0, _)]) (Sub.cons rfl (Sub.cons rfl (Sub.cons rfl (Sub.cons rfl (Sub.cons rfl (Sub.cons rfl Sub.nil)))))) ?_
  refine W.ite rfl (fun c42 => ?_) (fun c42 => ?_)
  ·refine W.sr ?_
   refine G.r (Runs.move rfl) ?_
   refine G.r (Runs.assign rfl) ?_
   refine G.r (Runs.assign rfl) ?_
   refine G.nt ?_
   refine W.ret ?_
   refine V.then_ret ?_
   have hst : i3 < xs.length ∧ (setL (lkOf e) xs) = xs.set i3 (lkOf e) := setL_there hi3 ha g35
   have hE : xs = (setL (lkOf e) xs) := by rw [hst.2]; exact (set_self (n := lkOf e) hst.1 c42).symm
   exact V.ret2 rfl rfl rfl ([] ++ vc 158 (.slice a0 (setL (lkOf e) xs).length c0) (setL (lkOf e) xs) :: I) (by rw [← hE]; exact Fit.sub) ⟨⟨a0, c0, .slice none 0 0⟩, by rw [← hE], rfl⟩
  ·refine W.skip ?_
   refine V.then ?_
   refine W.seq ?_
   refine W.sr ?_
   refine G.r (Runs.move rfl) ?_
   refine G.r (Runs.not rfl) ?_
   refine G.nt ?_
   refine W.cond rfl (fun c45 => ?_) (fun c45 => ?_)
   ·rw [g35] at c45; exact absurd c45 (by decide)
   ·refine W.sr ?_
    refine G.r (Runs.move rfl) ?_
    refine G.e (Eff.call call219 rfl rfl (CloneL (xs := xs) Sl.o (by omega))) ?_
    rintro _ _ ⟨_, _, ⟨ad5, cp6, rfl, rfl⟩, rfl, rfl⟩
    refine G.r (Runs.assign rfl) ?_
    refine G.nt ?_
    refine W.region ?_
    refine G.r (Runs.move rfl) ?_
    refine G.r (Runs.move rfl) ?_
    refine G.r (Runs.lds (vs := [_, _, _, _, _, _]) ty158) ?_
    refine G.r (Runs.idx (α := Lk) (xs := xs) Try.underlying69 ty158 rfl rfl Sl.o (by omega) (by omega)) ?_
    refine G.e (Eff.set (α := Lk) (xs := xs) (e := 158) (new := ⟨if e.v < e.u then e.v else e.u, if e.u < e.v then e.v else e.u, e.w, e.lb, e.sg, e.tm⟩) ty158 rfl rfl rfl (by omega) (by omega) (by repeat (first | exact At.head _ _ _ | apply At.tail))) ?_
    rintro _ _ ⟨rfl, rfl⟩
    refine G.nt ?_
    refine W.sub (L' := [(0, _), (6, _), (3, _)]) (Sub.cons rfl (Sub.cons rfl (Sub.cons rfl Sub.nil))) ?_
    refine W.seq ?_
    refine W.drawn mixed ?_
    refine A.hold (vc 158 (.slice ad5 xs.length cp6) (List.set xs (((i3 : Nat) : Int)).toNat (⟨if e.v < e.u then e.v else e.u, if e.u < e.v then e.v else e.u, e.w, e.lb, e.sg, e.tm⟩)) :: blk b2 [I64 (if e.v < e.u then e.v else e.u), I64 (if e.u < e.v then e.v else e.u), I64 (e.w), I64 (e.lb), I64 (e.sg), I64 (e.tm)] 158 :: vc 158 (.slice a0 xs.length c0) (xs) :: I) 5 ?_
    refine D.r 0 rfl (Runs.fieldAddr fld158_0 rfl) ?_ (hJ := Fit.sub)
    refine D.r 1 rfl (Runs.ld ty3) ?_ (hJ := Fit.sub)
    refine D.r 4 rfl (Runs.fieldAddr fld122_2 rfl) ?_ (hJ := Fit.sub)
    refine D.step (rs := [2, 5]) (by kernel_rfl) rfl rfl (all2 ?_ (all1 ?_))
    ·refine Step.read rfl (Wanted.plain rfl) rfl rfl (Runs.fieldAddr fld158_1 rfl) Fit.sub ?_
     refine D.step (rs := [3, 5]) (by kernel_rfl) rfl rfl (all2 ?_ (all1 ?_))
     ·refine Step.read rfl (Wanted.plain rfl) rfl rfl (Runs.ld ty3) Fit.sub ?_
      refine D.stop (by kernel_rfl) ?_
      refine A.eff (i := 5) (by kernel_rfl) rfl (Wanted.plain rfl) (Eff.st (cs := [_, _, _, _, _, _, _]) (vs := [_]) (cs' := [_, _, _, _, _, _, _]) ty3) ?_
      rintro _ _ ⟨rfl, rfl⟩
      refine A.read (i := 6) (by kernel_rfl) rfl (Wanted.plain rfl) rfl rfl (Runs.fieldAddr fld122_3 rfl) ?_
      refine A.eff (i := 7) (by kernel_rfl) rfl (Wanted.plain rfl) (Eff.st (cs := [_, _, _, _, _, _, _]) (vs := [_]) (cs' := [_, _, _, _, _, _, _]) ty3) ?_
      rintro _ _ ⟨rfl, rfl⟩
      refine A.done (by kernel_rfl) ?_
      refine V.then ?_
      refine W.seq ?_
      refine W.drawn mixed ?_
      refine A.hold (vc 158 (.slice ad5 xs.length cp6) (List.set xs (((i3 : Nat) : Int)).toNat (⟨if e.v < e.u then e.v else e.u, if e.u < e.v then e.v else e.u, e.w, e.lb, e.sg, e.tm⟩)) :: blk b2 [I64 (if e.v < e.u then e.v else e.u), I64 (if e.u < e.v then e.v else e.u), I64 (e.w), I64 (e.lb), I64 (e.sg), I64 (e.tm)] 158 :: blk b1 [I64 (e.kd), I64 (e.tm), I64 (if e.v < e.u then e.v else e.u), I64 (if e.u < e.v then e.v else e.u), I64 (e.w), I64 (e.lb), I64 (e.sg)] 122 :: vc 158 (.slice a0 xs.length c0) (xs) :: I) 5 ?_
      refine D.r 0 rfl (Runs.move rfl) ?_
      refine D.r 1 rfl (Runs.lds (vs := [_, _, _, _, _, _, _]) ty122) ?_
      refine D.r 3 rfl (Runs.assign rfl) ?_
      refine D.step (rs := [2]) (by kernel_rfl) rfl rfl (all1 ?_)
      refine Step.eff rfl (Wanted.plain rfl) (Eff.bs (α := Ev) (cs := [I64 (e.kd), I64 (e.tm), I64 (if e.v < e.u then e.v else e.u), I64 (if e.u < e.v then e.v else e.u), I64 (e.w), I64 (e.lb), I64 (e.sg)]) (xs := [⟨e.kd, e.tm, if e.v < e.u then e.v else e.u, if e.u < e.v then e.v else e.u, e.w, e.lb, e.sg⟩]) Try.underlying81 ty122 rfl rfl (by decide) (by decide) rfl (by kernel_rfl) rfl rfl) ?_
      rintro _ _ ⟨ad7, rfl, rfl⟩
      refine ⟨Fit.m, ?_⟩
      refine D.r 4 rfl (Runs.assign rfl) ?_
      refine D.done (by kernel_rfl) ?_
      refine V.then ?_
      refine W.sub (L' := [(5, _), (4, _)]) (Sub.cons rfl (Sub.cons rfl Sub.nil)) ?_
      refine W.ret ?_
      have hE : List.set xs (((i3 : Nat) : Int)).toNat (⟨if e.v < e.u then e.v else e.u, if e.u < e.v then e.v else e.u, e.w, e.lb, e.sg, e.tm⟩) = (setL (lkOf e) xs) := (setL_there hi3 ha g35).2.symm
      have hEl : (setL (lkOf e) xs).length = xs.length := by rw [← hE, List.length_set]
      exact V.ret2 rfl rfl rfl ([] ++ vc 158 (.slice ad5 (setL (lkOf e) xs).length cp6) (setL (lkOf e) xs) :: I) (by rw [hEl, ← hE]; exact Fit.sub) ⟨⟨ad5, cp6, .slice ad7 1 1⟩, by rw [hEl], rfl⟩
     ·refine Step.eff rfl (Wanted.plain rfl) (Eff.st (cs := [_, _, _, _, _, _, _]) (vs := [_]) (cs' := [_, _, _, _, _, _, _]) ty3) ?_
      rintro _ _ ⟨rfl, rfl⟩
      refine ⟨Fit.sub, ?_⟩
      refine D.step (rs := [3]) (by kernel_rfl) rfl rfl (all1 ?_)
      refine Step.read rfl (Wanted.plain rfl) rfl rfl (Runs.ld ty3) Fit.sub ?_
      refine D.step (rs := [6]) (by kernel_rfl) rfl rfl (all1 ?_)
      refine Step.read rfl (Wanted.plain rfl) rfl rfl (Runs.fieldAddr fld122_3 rfl) Fit.sub ?_
      refine D.step (rs := [7]) (by kernel_rfl) rfl rfl (all1 ?_)
      refine Step.eff rfl (Wanted.plain rfl) (Eff.st (cs := [_, _, _, _, _, _, _]) (vs := [_]) (cs' := [_, _, _, _, _, _, _]) ty3) ?_
      rintro _ _ ⟨rfl, rfl⟩
      refine ⟨Fit.sub, ?_⟩
      refine D.done (by kernel_rfl) ?_
      refine V.then ?_
      refine W.seq ?_
      refine W.drawn mixed ?_
      refine A.hold (vc 158 (.slice ad5 xs.length cp6) (List.set xs (((i3 : Nat) : Int)).toNat (⟨if e.v < e.u then e.v else e.u, if e.u < e.v then e.v else e.u, e.w, e.lb, e.sg, e.tm⟩)) :: blk b2 [I64 (if e.v < e.u then e.v else e.u), I64 (if e.u < e.v then e.v else e.u), I64 (e.w), I64 (e.lb), I64 (e.sg), I64 (e.tm)] 158 :: blk b1 [I64 (e.kd), I64 (e.tm), I64 (if e.v < e.u then e.v else e.u), I64 (if e.u < e.v then e.v else e.u), I64 (e.w), I64 (e.lb), I64 (e.sg)] 122 :: vc 158 (.slice a0 xs.length c0) (xs) :: I) 5 ?_
      refine D.r 0 rfl (Runs.move rfl) ?_
      refine D.r 1 rfl (Runs.lds (vs := [_, _, _, _, _, _, _]) ty122) ?_
      refine D.r 3 rfl (Runs.assign rfl) ?_
      refine D.step (rs := [2]) (by kernel_rfl) rfl rfl (all1 ?_)
      refine Step.eff rfl (Wanted.plain rfl) (Eff.bs (α := Ev) (cs := [I64 (e.kd), I64 (e.tm), I64 (if e.v < e.u then e.v else e.u), I64 (if e.u < e.v then e.v else e.u), I64 (e.w), I64 (e.lb), I64 (e.sg)]) (xs := [⟨e.kd, e.tm, if e.v < e.u then e.v else e.u, if e.u < e.v then e.v else e.u, e.w, e.lb, e.sg⟩]) Try.underlying81 ty122 rfl rfl (by decide) (by decide) rfl (by kernel_rfl) rfl rfl) ?_
      rintro _ _ ⟨ad8, rfl, rfl⟩
      refine ⟨Fit.m, ?_⟩
      refine D.r 4 rfl (Runs.assign rfl) ?_
      refine D.done (by kernel_rfl) ?_
      refine V.then ?_
      refine W.sub (L' := [(5, _), (4, _)]) (Sub.cons rfl (Sub.cons rfl Sub.nil)) ?_
      refine W.ret ?_
      have hE : List.set xs (((i3 : Nat) : Int)).toNat (⟨if e.v < e.u then e.v else e.u, if e.u < e.v then e.v else e.u, e.w, e.lb, e.sg, e.tm⟩) = (setL (lkOf e) xs) := (setL_there hi3 ha g35).2.symm
      have hEl : (setL (lkOf e) xs).length = xs.length := by rw [← hE, List.length_set]
      exact V.ret2 rfl rfl rfl ([] ++ vc 158 (.slice ad5 (setL (lkOf e) xs).length cp6) (setL (lkOf e) xs) :: I) (by rw [hEl, ← hE]; exact Fit.sub) ⟨⟨ad5, cp6, .slice ad8 1 1⟩, by rw [hEl], rfl⟩
    ·refine Step.eff rfl (Wanted.plain rfl) (Eff.st (cs := [_, _, _, _, _, _, _]) (vs := [_]) (cs' := [_, _, _, _, _, _, _]) ty3) ?_
     rintro _ _ ⟨rfl, rfl⟩
     refine ⟨Fit.sub, ?_⟩
     refine D.step (rs := [2]) (by kernel_rfl) rfl rfl (all1 ?_)
     refine Step.read rfl (Wanted.plain rfl) rfl rfl (Runs.fieldAddr fld158_1 rfl) Fit.sub ?_
     refine D.step (rs := [3]) (by kernel_rfl) rfl rfl (all1 ?_)
     refine Step.read rfl (Wanted.plain rfl) rfl rfl (Runs.ld ty3) Fit.sub ?_
     refine D.step (rs := [6]) (by kernel_rfl) rfl rfl (all1 ?_)
     refine Step.read rfl (Wanted.plain rfl) rfl rfl (Runs.fieldAddr fld122_3 rfl) Fit.sub ?_
     refine D.step (rs := [7]) (by kernel_rfl) rfl rfl (all1 ?_)
     refine Step.eff rfl (Wanted.plain rfl) (Eff.st (cs := [_, _, _, _, _, _, _]) (vs := [_]) (cs' := [_, _, _, _, _, _, _]) ty3) ?_
     rintro _ _ ⟨rfl, rfl⟩
     refine ⟨Fit.sub, ?_⟩
     refine D.done (by kernel_rfl) ?_
     refine V.then ?_
     refine W.seq ?_
     refine W.drawn mixed ?_
     refine A.hold (vc 158 (.slice ad5 xs.length cp6) (List.set xs (((i3 : Nat) : Int)).toNat (⟨if e.v < e.u then e.v else e.u, if e.u < e.v then e.v else e.u, e.w, e.lb, e.sg, e.tm⟩)) :: blk b2 [I64 (if e.v < e.u then e.v else e.u), I64 (if e.u < e.v then e.v else e.u), I64 (e.w), I64 (e.lb), I64 (e.sg), I64 (e.tm)] 158 :: blk b1 [I64 (e.kd), I64 (e.tm), I64 (if e.v < e.u then e.v else e.u), I64 (if e.u < e.v then e.v else e.u), I64 (e.w), I64 (e.lb), I64 (e.sg)] 122 :: vc 158 (.slice a0 xs.length c0) (xs) :: I) 5 ?_
     refine D.r 0 rfl (Runs.move rfl) ?_
     refine D.r 1 rfl (Runs.lds (vs := [_, _, _, _, _, _, _]) ty122) ?_
     refine D.r 3 rfl (Runs.assign rfl) ?_
     refine D.step (rs := [2]) (by kernel_rfl) rfl rfl (all1 ?_)
     refine Step.eff rfl (Wanted.plain rfl) (Eff.bs (α := Ev) (cs := [I64 (e.kd), I64 (e.tm), I64 (if e.v < e.u then e.v else e.u), I64 (if e.u < e.v then e.v else e.u), I64 (e.w), I64 (e.lb), I64 (e.sg)]) (xs := [⟨e.kd, e.tm, if e.v < e.u then e.v else e.u, if e.u < e.v then e.v else e.u, e.w, e.lb, e.sg⟩]) Try.underlying81 ty122 rfl rfl (by decide) (by decide) rfl (by kernel_rfl) rfl rfl) ?_
     rintro _ _ ⟨ad9, rfl, rfl⟩
     refine ⟨Fit.m, ?_⟩
     refine D.r 4 rfl (Runs.assign rfl) ?_
     refine D.done (by kernel_rfl) ?_
     refine V.then ?_
     refine W.sub (L' := [(5, _), (4, _)]) (Sub.cons rfl (Sub.cons rfl Sub.nil)) ?_
     refine W.ret ?_
     have hE : List.set xs (((i3 : Nat) : Int)).toNat (⟨if e.v < e.u then e.v else e.u, if e.u < e.v then e.v else e.u, e.w, e.lb, e.sg, e.tm⟩) = (setL (lkOf e) xs) := (setL_there hi3 ha g35).2.symm
     have hEl : (setL (lkOf e) xs).length = xs.length := by rw [← hE, List.length_set]
     exact V.ret2 rfl rfl rfl ([] ++ vc 158 (.slice ad5 (setL (lkOf e) xs).length cp6) (setL (lkOf e) xs) :: I) (by rw [hEl, ← hE]; exact Fit.sub) ⟨⟨ad5, cp6, .slice ad9 1 1⟩, by rw [hEl], rfl⟩
 ·refine D.pass 2 rfl (by kernel_rfl) (by kernel_rfl) (by kernel_rfl) rfl (by kernel_rfl) (fun _ _ _ _ h => h) (Unwanted.off rfl rfl rfl) rfl rfl Fit.sub ?_
  refine D.pass 3 rfl (by kernel_rfl) (by kernel_rfl) (by kernel_rfl) rfl (by kernel_rfl) (fun _ _ _ _ h => h) (Unwanted.off rfl rfl rfl) rfl rfl Fit.sub ?_
  refine D.pass 4 rfl (by kernel_rfl) (by kernel_rfl) (by kernel_rfl) rfl (by kernel_rfl) (fun _ _ _ _ h => h) (Unwanted.off rfl rfl rfl) rfl rfl Fit.sub ?_
  refine D.pass 5 rfl (by kernel_rfl) (by kernel_rfl) (by kernel_rfl) rfl (by kernel_rfl) (fun _ _ _ _ h => h) (Unwanted.off rfl rfl rfl) rfl rfl Fit.sub ?_
  refine D.pass 6 rfl (by kernel_rfl) (by kernel_rfl) (by kernel_rfl) rfl (by kernel_rfl) (fun _ _ _ _ h => h) (Unwanted.off rfl rfl rfl) rfl rfl Fit.sub ?_
  refine D.pass 7 rfl (by kernel_rfl) (by kernel_rfl) (by kernel_rfl) rfl (by kernel_rfl) (fun _ _ _ _ h => h) (Unwanted.off rfl rfl rfl) rfl rfl Fit.sub ?_
  refine D.r 8 rfl (Runs.pickf rfl rfl) ?_ (hJ := Fit.sub)
  refine D.done (by kernel_rfl) ?_
  refine V.then ?_
  refine W.sub (L' := [(42, _), (8, _), (7, _), (6, _), (3, _), (0, _)]) (Sub.cons rfl (Sub.cons rfl (Sub.cons rfl (Sub.cons rfl (Sub.cons rfl (Sub.cons rfl Sub.nil)))))) ?_
  refine W.no rfl ?_
  refine W.skip ?_
  refine V.then ?_
  refine W.seq ?_
  refine W.sr ?_
  refine G.r (Runs.move rfl) ?_
  refine G.r (Runs.not rfl) ?_
  refine G.nt ?_
  refine W.cond rfl (fun c45 => ?_) (fun c45 => ?_)
  ·refine W.drawn mixed ?_
   refine A.hold (blk b2 [I64 (if e.v < e.u then e.v else e.u), I64 (if e.u < e.v then e.v else e.u), I64 (e.w), I64 (e.lb), I64 (e.sg), I64 (e.tm)] 158 :: blk b1 [I64 (e.kd), I64 (e.tm), I64 (e.u), I64 (e.v), I64 (e.w), I64 (e.lb), I64 (e.sg)] 122 :: vc 158 (.slice a0 xs.length c0) (xs) :: I) 7 ?_
   refine D.r 0 rfl (Runs.move rfl) ?_ (hJ := Fit.sub)
   refine D.r 2 rfl (Runs.move rfl) ?_ (hJ := Fit.sub)
   refine D.r 3 rfl (Runs.lds (vs := [_, _, _, _, _, _]) ty158) ?_ (hJ := Fit.sub)
   refine D.step (rs := [1, 4]) (by kernel_rfl) rfl rfl (all2 ?_ (all1 ?_))
   ·refine Step.eff rfl (Wanted.plain rfl) (Eff.call call219 rfl rfl (CloneL (xs := xs) Sl.o (by omega))) ?_
    rintro _ _ ⟨_, _, ⟨ad10, cp11, rfl, rfl⟩, rfl, rfl⟩
    refine ⟨Fit.sub, ?_⟩
    refine D.step (rs := [4]) (by kernel_rfl) rfl rfl (all1 ?_)
    refine Step.eff rfl (Wanted.plain rfl) (Eff.bs (α := Lk) (cs := [I64 (if e.v < e.u then e.v else e.u), I64 (if e.u < e.v then e.v else e.u), I64 (e.w), I64 (e.lb), I64 (e.sg), I64 (e.tm)]) (xs := [⟨if e.v < e.u then e.v else e.u, if e.u < e.v then e.v else e.u, e.w, e.lb, e.sg, e.tm⟩]) Try.underlying69 ty158 rfl rfl (by decide) (by decide) rfl (by kernel_rfl) rfl rfl) ?_
    rintro _ _ ⟨ad12, rfl, rfl⟩
    refine ⟨Fit.sub, ?_⟩
    refine D.step (rs := [5]) (by kernel_rfl) rfl rfl (all1 ?_)
    refine Step.eff rfl (Wanted.plain rfl) (Eff.call call269 rfl rfl (InsertL_two (i := i3) (xs := xs) (ys := ([⟨if e.v < e.u then e.v else e.u, if e.u < e.v then e.v else e.u, e.w, e.lb, e.sg, e.tm⟩] : List Lk)) (show Fit κ _ (vc 158 (.slice ad10 xs.length cp11) (xs) :: vc 158 (.slice ad12 1 1) (([⟨if e.v < e.u then e.v else e.u, if e.u < e.v then e.v else e.u, e.w, e.lb, e.sg, e.tm⟩] : List Lk)) :: blk b2 [I64 (if e.v < e.u then e.v else e.u), I64 (if e.u < e.v then e.v else e.u), I64 (e.w), I64 (e.lb), I64 (e.sg), I64 (e.tm)] 158 :: blk b1 [I64 (e.kd), I64 (e.tm), I64 (e.u), I64 (e.v), I64 (e.w), I64 (e.lb), I64 (e.sg)] 122 :: vc 158 (.slice a0 xs.length c0) (xs) :: I) from Fit.s) rfl rfl (by omega) (by simp only [List.length_cons]; omega) (by simp only [List.length_cons, List.length_nil]; omega))) ?_
    rintro _ _ ⟨_, _, ⟨ad13, cp14, rfl, rfl⟩, rfl, rfl⟩
    refine ⟨Fit.sub, ?_⟩
    show D Try.prog κ _ _ _ _ _ _ _ ([(51, .slice ad13 (List.take i3 xs ++ ([⟨if e.v < e.u then e.v else e.u, if e.u < e.v then e.v else e.u, e.w, e.lb, e.sg, e.tm⟩] : List Lk) ++ List.drop i3 xs).length cp14), (50, .slice ad12 1 1), (47, .slice ad10 xs.length cp11), (49, .agg #[I64 (if e.v < e.u then e.v else e.u), I64 (if e.u < e.v then e.v else e.u), I64 (e.w), I64 (e.lb), I64 (e.sg), I64 (e.tm)]), (48, I64 (((i3 : Nat) : Int))), (46, .slice a0 xs.length c0), (45, .bool (!q4)), (44, .bool (q4)), (42, .bool false), (8, .bool (q4)), (7, I64 (((i3 : Nat) : Int))), (6, .pointer (some ⟨b2, 0, none⟩)), (3, .pointer (some ⟨b1, 0, none⟩)), (0, .slice a0 xs.length c0)] : Env) (vc 158 (.slice ad13 (List.take i3 xs ++ ([⟨if e.v < e.u then e.v else e.u, if e.u < e.v then e.v else e.u, e.w, e.lb, e.sg, e.tm⟩] : List Lk) ++ List.drop i3 xs).length cp14) (List.take i3 xs ++ ([⟨if e.v < e.u then e.v else e.u, if e.u < e.v then e.v else e.u, e.w, e.lb, e.sg, e.tm⟩] : List Lk) ++ List.drop i3 xs) :: blk b2 [I64 (if e.v < e.u then e.v else e.u), I64 (if e.u < e.v then e.v else e.u), I64 (e.w), I64 (e.lb), I64 (e.sg), I64 (e.tm)] 158 :: blk b1 [I64 (e.kd), I64 (e.tm), I64 (e.u), I64 (e.v), I64 (e.w), I64 (e.lb), I64 (e.sg)] 122 :: vc 158 (.slice a0 xs.length c0) (xs) :: I)
    refine D.r 6 rfl (Runs.assign rfl) ?_ (hJ := Fit.sub)
    refine D.done (by kernel_rfl) ?_
    refine V.then ?_
    refine W.sub (L' := [(0, _), (6, _), (3, _)]) (Sub.cons rfl (Sub.cons rfl (Sub.cons rfl Sub.nil))) ?_
    refine W.seq ?_
    refine W.drawn mixed ?_
    refine A.hold (vc 158 (.slice ad13 (List.take i3 xs ++ ([⟨if e.v < e.u then e.v else e.u, if e.u < e.v then e.v else e.u, e.w, e.lb, e.sg, e.tm⟩] : List Lk) ++ List.drop i3 xs).length cp14) (List.take i3 xs ++ ([⟨if e.v < e.u then e.v else e.u, if e.u < e.v then e.v else e.u, e.w, e.lb, e.sg, e.tm⟩] : List Lk) ++ List.drop i3 xs) :: blk b2 [I64 (if e.v < e.u then e.v else e.u), I64 (if e.u < e.v then e.v else e.u), I64 (e.w), I64 (e.lb), I64 (e.sg), I64 (e.tm)] 158 :: vc 158 (.slice a0 xs.length c0) (xs) :: I) 5 ?_
    refine D.r 0 rfl (Runs.fieldAddr fld158_0 rfl) ?_ (hJ := Fit.sub)
    refine D.r 1 rfl (Runs.ld ty3) ?_ (hJ := Fit.sub)
    refine D.r 4 rfl (Runs.fieldAddr fld122_2 rfl) ?_ (hJ := Fit.sub)
    refine D.step (rs := [2, 5]) (by kernel_rfl) rfl rfl (all2 ?_ (all1 ?_))
    ·refine Step.read rfl (Wanted.plain rfl) rfl rfl (Runs.fieldAddr fld158_1 rfl) Fit.sub ?_
     refine D.step (rs := [3, 5]) (by kernel_rfl) rfl rfl (all2 ?_ (all1 ?_))
     ·refine Step.read rfl (Wanted.plain rfl) rfl rfl (Runs.ld ty3) Fit.sub ?_
      refine D.stop (by kernel_rfl) ?_
      refine A.eff (i := 5) (by kernel_rfl) rfl (Wanted.plain rfl) (Eff.st (cs := [_, _, _, _, _, _, _]) (vs := [_]) (cs' := [_, _, _, _, _, _, _]) ty3) ?_
      rintro _ _ ⟨rfl, rfl⟩
      refine A.read (i := 6) (by kernel_rfl) rfl (Wanted.plain rfl) rfl rfl (Runs.fieldAddr fld122_3 rfl) ?_
      refine A.eff (i := 7) (by kernel_rfl) rfl (Wanted.plain rfl) (Eff.st (cs := [_, _, _, _, _, _, _]) (vs := [_]) (cs' := [_, _, _, _, _, _, _]) ty3) ?_
      rintro _ _ ⟨rfl, rfl⟩
      refine A.done (by kernel_rfl) ?_
      refine V.then ?_
      refine W.seq ?_
      refine W.drawn mixed ?_
      refine A.hold (vc 158 (.slice ad13 (List.take i3 xs ++ ([⟨if e.v < e.u then e.v else e.u, if e.u < e.v then e.v else e.u, e.w, e.lb, e.sg, e.tm⟩] : List Lk) ++ List.drop i3 xs).length cp14) (List.take i3 xs ++ ([⟨if e.v < e.u then e.v else e.u, if e.u < e.v then e.v else e.u, e.w, e.lb, e.sg, e.tm⟩] : List Lk) ++ List.drop i3 xs) :: blk b2 [I64 (if e.v < e.u then e.v else e.u), I64 (if e.u < e.v then e.v else e.u), I64 (e.w), I64 (e.lb), I64 (e.sg), I64 (e.tm)] 158 :: blk b1 [I64 (e.kd), I64 (e.tm), I64 (if e.v < e.u then e.v else e.u), I64 (if e.u < e.v then e.v else e.u), I64 (e.w), I64 (e.lb), I64 (e.sg)] 122 :: vc 158 (.slice a0 xs.length c0) (xs) :: I) 5 ?_
      refine D.r 0 rfl (Runs.move rfl) ?_
      refine D.r 1 rfl (Runs.lds (vs := [_, _, _, _, _, _, _]) ty122) ?_
      refine D.r 3 rfl (Runs.assign rfl) ?_
      refine D.step (rs := [2]) (by kernel_rfl) rfl rfl (all1 ?_)
      refine Step.eff rfl (Wanted.plain rfl) (Eff.bs (α := Ev) (cs := [I64 (e.kd), I64 (e.tm), I64 (if e.v < e.u then e.v else e.u), I64 (if e.u < e.v then e.v else e.u), I64 (e.w), I64 (e.lb), I64 (e.sg)]) (xs := [⟨e.kd, e.tm, if e.v < e.u then e.v else e.u, if e.u < e.v then e.v else e.u, e.w, e.lb, e.sg⟩]) Try.underlying81 ty122 rfl rfl (by decide) (by decide) rfl (by kernel_rfl) rfl rfl) ?_
      rintro _ _ ⟨ad15, rfl, rfl⟩
      refine ⟨Fit.m, ?_⟩
      refine D.r 4 rfl (Runs.assign rfl) ?_
      refine D.done (by kernel_rfl) ?_
      refine V.then ?_
      refine W.sub (L' := [(5, _), (4, _)]) (Sub.cons rfl (Sub.cons rfl Sub.nil)) ?_
      refine W.ret ?_
      have hE : List.take i3 xs ++ ([⟨if e.v < e.u then e.v else e.u, if e.u < e.v then e.v else e.u, e.w, e.lb, e.sg, e.tm⟩] : List Lk) ++ List.drop i3 xs = (setL (lkOf e) xs) := (setL_new hi3 ha g35).symm
      exact V.ret2 rfl rfl rfl ([] ++ vc 158 (.slice ad13 (setL (lkOf e) xs).length cp14) (setL (lkOf e) xs) :: I) (by rw [← hE]; exact Fit.sub) ⟨⟨ad13, cp14, .slice ad15 1 1⟩, by rw [← hE], rfl⟩
     ·refine Step.eff rfl (Wanted.plain rfl) (Eff.st (cs := [_, _, _, _, _, _, _]) (vs := [_]) (cs' := [_, _, _, _, _, _, _]) ty3) ?_
      rintro _ _ ⟨rfl, rfl⟩
      refine ⟨Fit.sub, ?_⟩
      refine D.step (rs := [3]) (by kernel_rfl) rfl rfl (all1 ?_)
      refine Step.read rfl (Wanted.plain rfl) rfl rfl (Runs.ld ty3) Fit.sub ?_
      refine D.step (rs := [6]) (by kernel_rfl) rfl rfl (all1 ?_)
      refine Step.read rfl (Wanted.plain rfl) rfl rfl (Runs.fieldAddr fld122_3 rfl) Fit.sub ?_
      refine D.step (rs := [7]) (by kernel_rfl) rfl rfl (all1 ?_)
      refine Step.eff rfl (Wanted.plain rfl) (Eff.st (cs := [_, _, _, _, _, _, _]) (vs := [_]) (cs' := [_, _, _, _, _, _, _]) ty3) ?_
      rintro _ _ ⟨rfl, rfl⟩
      refine ⟨Fit.sub, ?_⟩
      refine D.done (by kernel_rfl) ?_
      refine V.then ?_
      refine W.seq ?_
      refine W.drawn mixed ?_
      refine A.hold (vc 158 (.slice ad13 (List.take i3 xs ++ ([⟨if e.v < e.u then e.v else e.u, if e.u < e.v then e.v else e.u, e.w, e.lb, e.sg, e.tm⟩] : List Lk) ++ List.drop i3 xs).length cp14) (List.take i3 xs ++ ([⟨if e.v < e.u then e.v else e.u, if e.u < e.v then e.v else e.u, e.w, e.lb, e.sg, e.tm⟩] : List Lk) ++ List.drop i3 xs) :: blk b2 [I64 (if e.v < e.u then e.v else e.u), I64 (if e.u < e.v then e.v else e.u), I64 (e.w), I64 (e.lb), I64 (e.sg), I64 (e.tm)] 158 :: blk b1 [I64 (e.kd), I64 (e.tm), I64 (if e.v < e.u then e.v else e.u), I64 (if e.u < e.v then e.v else e.u), I64 (e.w), I64 (e.lb), I64 (e.sg)] 122 :: vc 158 (.slice a0 xs.length c0) (xs) :: I) 5 ?_
      refine D.r 0 rfl (Runs.move rfl) ?_
      refine D.r 1 rfl (Runs.lds (vs := [_, _, _, _, _, _, _]) ty122) ?_
      refine D.r 3 rfl (Runs.assign rfl) ?_
      refine D.step (rs := [2]) (by kernel_rfl) rfl rfl (all1 ?_)
      refine Step.eff rfl (Wanted.plain rfl) (Eff.bs (α := Ev) (cs := [I64 (e.kd), I64 (e.tm), I64 (if e.v < e.u then e.v else e.u), I64 (if e.u < e.v then e.v else e.u), I64 (e.w), I64 (e.lb), I64 (e.sg)]) (xs := [⟨e.kd, e.tm, if e.v < e.u then e.v else e.u, if e.u < e.v then e.v else e.u, e.w, e.lb, e.sg⟩]) Try.underlying81 ty122 rfl rfl (by decide) (by decide) rfl (by kernel_rfl) rfl rfl) ?_
      rintro _ _ ⟨ad16, rfl, rfl⟩
      refine ⟨Fit.m, ?_⟩
      refine D.r 4 rfl (Runs.assign rfl) ?_
      refine D.done (by kernel_rfl) ?_
      refine V.then ?_
      refine W.sub (L' := [(5, _), (4, _)]) (Sub.cons rfl (Sub.cons rfl Sub.nil)) ?_
      refine W.ret ?_
      have hE : List.take i3 xs ++ ([⟨if e.v < e.u then e.v else e.u, if e.u < e.v then e.v else e.u, e.w, e.lb, e.sg, e.tm⟩] : List Lk) ++ List.drop i3 xs = (setL (lkOf e) xs) := (setL_new hi3 ha g35).symm
      exact V.ret2 rfl rfl rfl ([] ++ vc 158 (.slice ad13 (setL (lkOf e) xs).length cp14) (setL (lkOf e) xs) :: I) (by rw [← hE]; exact Fit.sub) ⟨⟨ad13, cp14, .slice ad16 1 1⟩, by rw [← hE], rfl⟩
    ·refine Step.eff rfl (Wanted.plain rfl) (Eff.st (cs := [_, _, _, _, _, _, _]) (vs := [_]) (cs' := [_, _, _, _, _, _, _]) ty3) ?_
     rintro _ _ ⟨rfl, rfl⟩
     refine ⟨Fit.sub, ?_⟩
     refine D.step (rs := [2]) (by kernel_rfl) rfl rfl (all1 ?_)
     refine Step.read rfl (Wanted.plain rfl) rfl rfl (Runs.fieldAddr fld158_1 rfl) Fit.sub ?_
     refine D.step (rs := [3]) (by kernel_rfl) rfl rfl (all1 ?_)
     refine Step.read rfl (Wanted.plain rfl) rfl rfl (Runs.ld ty3) Fit.sub ?_
     refine D.step (rs := [6]) (by kernel_rfl) rfl rfl (all1 ?_)
     refine Step.read rfl (Wanted.plain rfl) rfl rfl (Runs.fieldAddr fld122_3 rfl) Fit.sub ?_
     refine D.step (rs := [7]) (by kernel_rfl) rfl rfl (all1 ?_)
     refine Step.eff rfl (Wanted.plain rfl) (Eff.st (cs := [_, _, _, _, _, _, _]) (vs := [_]) (cs' := [_, _, _, _, _, _, _]) ty3) ?_
     rintro _ _ ⟨rfl, rfl⟩
     refine ⟨Fit.sub, ?_⟩
     refine D.done (by kernel_rfl) ?_
     refine V.then ?_
     refine W.seq ?_
     refine W.drawn mixed ?_
     refine A.hold (vc 158 (.slice ad13 (List.take i3 xs ++ ([⟨if e.v < e.u then e.v else e.u, if e.u < e.v then e.v else e.u, e.w, e.lb, e.sg, e.tm⟩] : List Lk) ++ List.drop i3 xs).length cp14) (List.take i3 xs ++ ([⟨if e.v < e.u then e.v else e.u, if e.u < e.v then e.v else e.u, e.w, e.lb, e.sg, e.tm⟩] : List Lk) ++ List.drop i3 xs) :: blk b2 [I64 (if e.v < e.u then e.v else e.u), I64 (if e.u < e.v then e.v else e.u), I64 (e.w), I64 (e.lb), I64 (e.sg), I64 (e.tm)] 158 :: blk b1 [I64 (e.kd), I64 (e.tm), I64 (if e.v < e.u then e.v else e.u), I64 (if e.u < e.v then e.v else e.u), I64 (e.w), I64 (e.lb), I64 (e.sg)] 122 :: vc 158 (.slice a0 xs.length c0) (xs) :: I) 5 ?_
     refine D.r 0 rfl (Runs.move rfl) ?_
     refine D.r 1 rfl (Runs.lds (vs := [_, _, _, _, _, _, _]) ty122) ?_
     refine D.r 3 rfl (Runs.assign rfl) ?_
     refine D.step (rs := [2]) (by kernel_rfl) rfl rfl (all1 ?_)
     refine Step.eff rfl (Wanted.plain rfl) (Eff.bs (α := Ev) (cs := [I64 (e.kd), I64 (e.tm), I64 (if e.v < e.u then e.v else e.u), I64 (if e.u < e.v then e.v else e.u), I64 (e.w), I64 (e.lb), I64 (e.sg)]) (xs := [⟨e.kd, e.tm, if e.v < e.u then e.v else e.u, if e.u < e.v then e.v else e.u, e.w, e.lb, e.sg⟩]) Try.underlying81 ty122 rfl rfl (by decide) (by decide) rfl (by kernel_rfl) rfl rfl) ?_
     rintro _ _ ⟨ad17, rfl, rfl⟩
     refine ⟨Fit.m, ?_⟩
     refine D.r 4 rfl (Runs.assign rfl) ?_
     refine D.done (by kernel_rfl) ?_
     refine V.then ?_
     refine W.sub (L' := [(5, _), (4, _)]) (Sub.cons rfl (Sub.cons rfl Sub.nil)) ?_
     refine W.ret ?_
     have hE : List.take i3 xs ++ ([⟨if e.v < e.u then e.v else e.u, if e.u < e.v then e.v else e.u, e.w, e.lb, e.sg, e.tm⟩] : List Lk) ++ List.drop i3 xs = (setL (lkOf e) xs) := (setL_new hi3 ha g35).symm
     exact V.ret2 rfl rfl rfl ([] ++ vc 158 (.slice ad13 (setL (lkOf e) xs).length cp14) (setL (lkOf e) xs) :: I) (by rw [← hE]; exact Fit.sub) ⟨⟨ad13, cp14, .slice ad17 1 1⟩, by rw [← hE], rfl⟩
   ·refine Step.eff rfl (Wanted.plain rfl) (Eff.bs (α := Lk) (cs := [I64 (if e.v < e.u then e.v else e.u), I64 (if e.u < e.v then e.v else e.u), I64 (e.w), I64 (e.lb), I64 (e.sg), I64 (e.tm)]) (xs := [⟨if e.v < e.u then e.v else e.u, if e.u < e.v then e.v else e.u, e.w, e.lb, e.sg, e.tm⟩]) Try.underlying69 ty158 rfl rfl (by decide) (by decide) rfl (by kernel_rfl) rfl rfl) ?_
    rintro _ _ ⟨ad18, rfl, rfl⟩
    refine ⟨Fit.sub, ?_⟩
    refine D.step (rs := [1]) (by kernel_rfl) rfl rfl (all1 ?_)
    refine Step.eff rfl (Wanted.plain rfl) (Eff.call call219 rfl rfl (CloneL (xs := xs) Sl.o (by omega))) ?_
    rintro _ _ ⟨_, _, ⟨ad19, cp20, rfl, rfl⟩, rfl, rfl⟩
    refine ⟨Fit.sub, ?_⟩
    refine D.step (rs := [5]) (by kernel_rfl) rfl rfl (all1 ?_)
    refine Step.eff rfl (Wanted.plain rfl) (Eff.call call269 rfl rfl (InsertL_two (i := i3) (xs := xs) (ys := ([⟨if e.v < e.u then e.v else e.u, if e.u < e.v then e.v else e.u, e.w, e.lb, e.sg, e.tm⟩] : List Lk)) (show Fit κ _ (vc 158 (.slice ad19 xs.length cp20) (xs) :: vc 158 (.slice ad18 1 1) (([⟨if e.v < e.u then e.v else e.u, if e.u < e.v then e.v else e.u, e.w, e.lb, e.sg, e.tm⟩] : List Lk)) :: blk b2 [I64 (if e.v < e.u then e.v else e.u), I64 (if e.u < e.v then e.v else e.u), I64 (e.w), I64 (e.lb), I64 (e.sg), I64 (e.tm)] 158 :: blk b1 [I64 (e.kd), I64 (e.tm), I64 (e.u), I64 (e.v), I64 (e.w), I64 (e.lb), I64 (e.sg)] 122 :: vc 158 (.slice a0 xs.length c0) (xs) :: I) from Fit.s) rfl rfl (by omega) (by simp only [List.length_cons]; omega) (by simp only [List.length_cons, List.length_nil]; omega))) ?_
    rintro _ _ ⟨_, _, ⟨ad21, cp22, rfl, rfl⟩, rfl, rfl⟩
    refine ⟨Fit.sub, ?_⟩
    show D Try.prog κ _ _ _ _ _ _ _ ([(51, .slice ad21 (List.take i3 xs ++ ([⟨if e.v < e.u then e.v else e.u, if e.u < e.v then e.v else e.u, e.w, e.lb, e.sg, e.tm⟩] : List Lk) ++ List.drop i3 xs).length cp22), (47, .slice ad19 xs.length cp20), (50, .slice ad18 1 1), (49, .agg #[I64 (if e.v < e.u then e.v else e.u), I64 (if e.u < e.v then e.v else e.u), I64 (e.w), I64 (e.lb), I64 (e.sg), I64 (e.tm)]), (48, I64 (((i3 : Nat) : Int))), (46, .slice a0 xs.length c0), (45, .bool (!q4)), (44, .bool (q4)), (42, .bool false), (8, .bool (q4)), (7, I64 (((i3 : Nat) : Int))), (6, .pointer (some ⟨b2, 0, none⟩)), (3, .pointer (some ⟨b1, 0, none⟩)), (0, .slice a0 xs.length c0)] : Env) (vc 158 (.slice ad21 (List.take i3 xs ++ ([⟨if e.v < e.u then e.v else e.u, if e.u < e.v then e.v else e.u, e.w, e.lb, e.sg, e.tm⟩] : List Lk) ++ List.drop i3 xs).length cp22) (List.take i3 xs ++ ([⟨if e.v < e.u then e.v else e.u, if e.u < e.v then e.v else e.u, e.w, e.lb, e.sg, e.tm⟩] : List Lk) ++ List.drop i3 xs) :: blk b2 [I64 (if e.v < e.u then e.v else e.u), I64 (if e.u < e.v then e.v else e.u), I64 (e.w), I64 (e.lb), I64 (e.sg), I64 (e.tm)] 158 :: blk b1 [I64 (e.kd), I64 (e.tm), I64 (e.u), I64 (e.v), I64 (e.w), I64 (e.lb), I64 (e.sg)] 122 :: vc 158 (.slice a0 xs.length c0) (xs) :: I)
    refine D.r 6 rfl (Runs.assign rfl) ?_ (hJ := Fit.sub)
    refine D.done (by kernel_rfl) ?_
    refine V.then ?_
    refine W.sub (L' := [(0, _), (6, _), (3, _)]) (Sub.cons rfl (Sub.cons rfl (Sub.cons rfl Sub.nil))) ?_
    refine W.seq ?_
    refine W.drawn mixed ?_
    refine A.hold (vc 158 (.slice ad21 (List.take i3 xs ++ ([⟨if e.v < e.u then e.v else e.u, if e.u < e.v then e.v else e.u, e.w, e.lb, e.sg, e.tm⟩] : List Lk) ++ List.drop i3 xs).length cp22) (List.take i3 xs ++ ([⟨if e.v < e.u then e.v else e.u, if e.u < e.v then e.v else e.u, e.w, e.lb, e.sg, e.tm⟩] : List Lk) ++ List.drop i3 xs) :: blk b2 [I64 (if e.v < e.u then e.v else e.u), I64 (if e.u < e.v then e.v else e.u), I64 (e.w), I64 (e.lb), I64 (e.sg), I64 (e.tm)] 158 :: vc 158 (.slice a0 xs.length c0) (xs) :: I) 5 ?_
    refine D.r 0 rfl (Runs.fieldAddr fld158_0 rfl) ?_ (hJ := Fit.sub)
    refine D.r 1 rfl (Runs.ld ty3) ?_ (hJ := Fit.sub)
    refine D.r 4 rfl (Runs.fieldAddr fld122_2 rfl) ?_ (hJ := Fit.sub)
    refine D.step (rs := [2, 5]) (by kernel_rfl) rfl rfl (all2 ?_ (all1 ?_))
    ·refine Step.read rfl (Wanted.plain rfl) rfl rfl (Runs.fieldAddr fld158_1 rfl) Fit.sub ?_
     refine D.step (rs := [3, 5]) (by kernel_rfl) rfl rfl (all2 ?_ (all1 ?_))
     ·refine Step.read rfl (Wanted.plain rfl) rfl rfl (Runs.ld ty3) Fit.sub ?_
      refine D.stop (by kernel_rfl) ?_
      refine A.eff (i := 5) (by kernel_rfl) rfl (Wanted.plain rfl) (Eff.st (cs := [_, _, _, _, _, _, _]) (vs := [_]) (cs' := [_, _, _, _, _, _, _]) ty3) ?_
      rintro _ _ ⟨rfl, rfl⟩
      refine A.read (i := 6) (by kernel_rfl) rfl (Wanted.plain rfl) rfl rfl (Runs.fieldAddr fld122_3 rfl) ?_
      refine A.eff (i := 7) (by kernel_rfl) rfl (Wanted.plain rfl) (Eff.st (cs := [_, _, _, _, _, _, _]) (vs := [_]) (cs' := [_, _, _, _, _, _, _]) ty3) ?_
      rintro _ _ ⟨rfl, rfl⟩
      refine A.done (by kernel_rfl) ?_
      refine V.then ?_
      refine W.seq ?_
      refine W.drawn mixed ?_
      refine A.hold (vc 158 (.slice ad21 (List.take i3 xs ++ ([⟨if e.v < e.u then e.v else e.u, if e.u < e.v then e.v else e.u, e.w, e.lb, e.sg, e.tm⟩] : List Lk) ++ List.drop i3 xs).length cp22) (List.take i3 xs ++ ([⟨if e.v < e.u then e.v else e.u, if e.u < e.v then e.v else e.u, e.w, e.lb, e.sg, e.tm⟩] : List Lk) ++ List.drop i3 xs) :: blk b2 [I64 (if e.v < e.u then e.v else e.u), I64 (if e.u < e.v then e.v else e.u), I64 (e.w), I64 (e.lb), I64 (e.sg), I64 (e.tm)] 158 :: blk b1 [I64 (e.kd), I64 (e.tm), I64 (if e.v < e.u then e.v else e.u), I64 (if e.u < e.v then e.v else e.u), I64 (e.w), I64 (e.lb), I64 (e.sg)] 122 :: vc 158 (.slice a0 xs.length c0) (xs) :: I) 5 ?_
      refine D.r 0 rfl (Runs.move rfl) ?_
      refine D.r 1 rfl (Runs.lds (vs := [_, _, _, _, _, _, _]) ty122) ?_
      refine D.r 3 rfl (Runs.assign rfl) ?_
      refine D.step (rs := [2]) (by kernel_rfl) rfl rfl (all1 ?_)
      refine Step.eff rfl (Wanted.plain rfl) (Eff.bs (α := Ev) (cs := [I64 (e.kd), I64 (e.tm), I64 (if e.v < e.u then e.v else e.u), I64 (if e.u < e.v then e.v else e.u), I64 (e.w), I64 (e.lb), I64 (e.sg)]) (xs := [⟨e.kd, e.tm, if e.v < e.u then e.v else e.u, if e.u < e.v then e.v else e.u, e.w, e.lb, e.sg⟩]) Try.underlying81 ty122 rfl rfl (by decide) (by decide) rfl (by kernel_rfl) rfl rfl) ?_
      rintro _ _ ⟨ad23, rfl, rfl⟩
      refine ⟨Fit.m, ?_⟩
      refine D.r 4 rfl (Runs.assign rfl) ?_
      refine D.done (by kernel_rfl) ?_
      refine V.then ?_
      refine W.sub (L' := [(5, _), (4, _)]) (Sub.cons rfl (Sub.cons rfl Sub.nil)) ?_
      refine W.ret ?_
      have hE : List.take i3 xs ++ ([⟨if e.v < e.u then e.v else e.u, if e.u < e.v then e.v else e.u, e.w, e.lb, e.sg, e.tm⟩] : List Lk) ++ List.drop i3 xs = (setL (lkOf e) xs) := (setL_new hi3 ha g35).symm
      exact V.ret2 rfl rfl rfl ([] ++ vc 158 (.slice ad21 (setL (lkOf e) xs).length cp22) (setL (lkOf e) xs) :: I) (by rw [← hE]; exact Fit.sub) ⟨⟨ad21, cp22, .slice ad23 1 1⟩, by rw [← hE], rfl⟩
     ·refine Step.eff rfl (Wanted.plain rfl) (Eff.st (cs := [_, _, _, _, _, _, _]) (vs := [_]) (cs' := [_, _, _, _, _, _, _]) ty3) ?_
      rintro _ _ ⟨rfl, rfl⟩
      refine ⟨Fit.sub, ?_⟩
      refine D.step (rs := [3]) (by kernel_rfl) rfl rfl (all1 ?_)
      refine Step.read rfl (Wanted.plain rfl) rfl rfl (Runs.ld ty3) Fit.sub ?_
      refine D.step (rs := [6]) (by kernel_rfl) rfl rfl (all1 ?_)
      refine Step.read rfl (Wanted.plain rfl) rfl rfl (Runs.fieldAddr fld122_3 rfl) Fit.sub ?_
      refine D.step (rs := [7]) (by kernel_rfl) rfl rfl (all1 ?_)
      refine Step.eff rfl (Wanted.plain rfl) (Eff.st (cs := [_, _, _, _, _, _, _]) (vs := [_]) (cs' := [_, _, _, _, _, _, _]) ty3) ?_
      rintro _ _ ⟨rfl, rfl⟩
      refine ⟨Fit.sub, ?_⟩
      refine D.done (by kernel_rfl) ?_
      refine V.then ?_
      refine W.seq ?_
      refine W.drawn mixed ?_
      refine A.hold (vc 158 (.slice ad21 (List.take i3 xs ++ ([⟨if e.v < e.u then e.v else e.u, if e.u < e.v then e.v else e.u, e.w, e.lb, e.sg, e.tm⟩] : List Lk) ++ List.drop i3 xs).length cp22) (List.take i3 xs ++ ([⟨if e.v < e.u then e.v else e.u, if e.u < e.v then e.v else e.u, e.w, e.lb, e.sg, e.tm⟩] : List Lk) ++ List.drop i3 xs) :: blk b2 [I64 (if e.v < e.u then e.v else e.u), I64 (if e.u < e.v then e.v else e.u), I64 (e.w), I64 (e.lb), I64 (e.sg), I64 (e.tm)] 158 :: blk b1 [I64 (e.kd), I64 (e.tm), I64 (if e.v < e.u then e.v else e.u), I64 (if e.u < e.v then e.v else e.u), I64 (e.w), I64 (e.lb), I64 (e.sg)] 122 :: vc 158 (.slice a0 xs.length c0) (xs) :: I) 5 ?_
      refine D.r 0 rfl (Runs.move rfl) ?_
      refine D.r 1 rfl (Runs.lds (vs := [_, _, _, _, _, _, _]) ty122) ?_
      refine D.r 3 rfl (Runs.assign rfl) ?_
      refine D.step (rs := [2]) (by kernel_rfl) rfl rfl (all1 ?_)
      refine Step.eff rfl (Wanted.plain rfl) (Eff.bs (α := Ev) (cs := [I64 (e.kd), I64 (e.tm), I64 (if e.v < e.u then e.v else e.u), I64 (if e.u < e.v then e.v else e.u), I64 (e.w), I64 (e.lb), I64 (e.sg)]) (xs := [⟨e.kd, e.tm, if e.v < e.u then e.v else e.u, if e.u < e.v then e.v else e.u, e.w, e.lb, e.sg⟩]) Try.underlying81 ty122 rfl rfl (by decide) (by decide) rfl (by kernel_rfl) rfl rfl) ?_
      rintro _ _ ⟨ad24, rfl, rfl⟩
      refine ⟨Fit.m, ?_⟩
      refine D.r 4 rfl (Runs.assign rfl) ?_
      refine D.done (by kernel_rfl) ?_
      refine V.then ?_
      refine W.sub (L' := [(5, _), (4, _)]) (Sub.cons rfl (Sub.cons rfl Sub.nil)) ?_
      refine W.ret ?_
      have hE : List.take i3 xs ++ ([⟨if e.v < e.u then e.v else e.u, if e.u < e.v then e.v else e.u, e.w, e.lb, e.sg, e.tm⟩] : List Lk) ++ List.drop i3 xs = (setL (lkOf e) xs) := (setL_new hi3 ha g35).symm
      exact V.ret2 rfl rfl rfl ([] ++ vc 158 (.slice ad21 (setL (lkOf e) xs).length cp22) (setL (lkOf e) xs) :: I) (by rw [← hE]; exact Fit.sub) ⟨⟨ad21, cp22, .slice ad24 1 1⟩, by rw [← hE], rfl⟩
    ·refine Step.eff rfl (Wanted.plain rfl) (Eff.st (cs := [_, _, _, _, _, _, _]) (vs := [_]) (cs' := [_, _, _, _, _, _, _]) ty3) ?_
     rintro _ _ ⟨rfl, rfl⟩
     refine ⟨Fit.sub, ?_⟩
     refine D.step (rs := [2]) (by kernel_rfl) rfl rfl (all1 ?_)
     refine Step.read rfl (Wanted.plain rfl) rfl rfl (Runs.fieldAddr fld158_1 rfl) Fit.sub ?_
     refine D.step (rs := [3]) (by kernel_rfl) rfl rfl (all1 ?_)
     refine Step.read rfl (Wanted.plain rfl) rfl rfl (Runs.ld ty3) Fit.sub ?_
     refine D.step (rs := [6]) (by kernel_rfl) rfl rfl (all1 ?_)
     refine Step.read rfl (Wanted.plain rfl) rfl rfl (Runs.fieldAddr fld122_3 rfl) Fit.sub ?_
     refine D.step (rs := [7]) (by kernel_rfl) rfl rfl (all1 ?_)
     refine Step.eff rfl (Wanted.plain rfl) (Eff.st (cs := [_, _, _, _, _, _, _]) (vs := [_]) (cs' := [_, _, _, _, _, _, _]) ty3) ?_
     rintro _ _ ⟨rfl, rfl⟩
     refine ⟨Fit.sub, ?_⟩
     refine D.done (by kernel_rfl) ?_
     refine V.then ?_
     refine W.seq ?_
     refine W.drawn mixed ?_
     refine A.hold (vc 158 (.slice ad21 (List.take i3 xs ++ ([⟨if e.v < e.u then e.v else e.u, if e.u < e.v then e.v else e.u, e.w, e.lb, e.sg, e.tm⟩] : List Lk) ++ List.drop i3 xs).length cp22) (List.take i3 xs ++ ([⟨if e.v < e.u then e.v else e.u, if e.u < e.v then e.v else e.u, e.w, e.lb, e.sg, e.tm⟩] : List Lk) ++ List.drop i3 xs) :: blk b2 [I64 (if e.v < e.u then e.v else e.u), I64 (if e.u < e.v then e.v else e.u), I64 (e.w), I64 (e.lb), I64 (e.sg), I64 (e.tm)] 158 :: blk b1 [I64 (e.kd), I64 (e.tm), I64 (if e.v < e.u then e.v else e.u), I64 (if e.u < e.v then e.v else e.u), I64 (e.w), I64 (e.lb), I64 (e.sg)] 122 :: vc 158 (.slice a0 xs.length c0) (xs) :: I) 5 ?_
     refine D.r 0 rfl (Runs.move rfl) ?_
     refine D.r 1 rfl (Runs.lds (vs := [_, _, _, _, _, _, _]) ty122) ?_
     refine D.r 3 rfl (Runs.assign rfl) ?_
     refine D.step (rs := [2]) (by kernel_rfl) rfl rfl (all1 ?_)
     refine Step.eff rfl (Wanted.plain rfl) (Eff.bs (α := Ev) (cs := [I64 (e.kd), I64 (e.tm), I64 (if e.v < e.u then e.v else e.u), I64 (if e.u < e.v then e.v else e.u), I64 (e.w), I64 (e.lb), I64 (e.sg)]) (xs := [⟨e.kd, e.tm, if e.v < e.u then e.v else e.u, if e.u < e.v then e.v else e.u, e.w, e.lb, e.sg⟩]) Try.underlying81 ty122 rfl rfl (by decide) (by decide) rfl (by kernel_rfl) rfl rfl) ?_
     rintro _ _ ⟨ad25, rfl, rfl⟩
     refine ⟨Fit.m, ?_⟩
     refine D.r 4 rfl (Runs.assign rfl) ?_
     refine D.done (by kernel_rfl) ?_
     refine V.then ?_
     refine W.sub (L' := [(5, _), (4, _)]) (Sub.cons rfl (Sub.cons rfl Sub.nil)) ?_
     refine W.ret ?_
     have hE : List.take i3 xs ++ ([⟨if e.v < e.u then e.v else e.u, if e.u < e.v then e.v else e.u, e.w, e.lb, e.sg, e.tm⟩] : List Lk) ++ List.drop i3 xs = (setL (lkOf e) xs) := (setL_new hi3 ha g35).symm
     exact V.ret2 rfl rfl rfl ([] ++ vc 158 (.slice ad21 (setL (lkOf e) xs).length cp22) (setL (lkOf e) xs) :: I) (by rw [← hE]; exact Fit.sub) ⟨⟨ad21, cp22, .slice ad25 1 1⟩, by rw [← hE], rfl⟩
  ·rw [g35] at c45; exact absurd c45 (by decide)

end Go.Sl
