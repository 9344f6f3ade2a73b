/- A part of the proofs of statements of this seat: contracts of functions, and the plain laws that they lean on. No conditions. -/
import Derived.Test.YtfkcohmipjhfcaaGreatDoorP6
set_option linter.unusedVariables false
set_option linter.unusedSimpArgs false
set_option linter.unusedSectionVars false
/- The graphs of a history, time by time: the plain functions. No Go. No conditions. -/
namespace Go.Sl
def cutAt (wd : Int) (l : Lk) : Ev := ⟨2, l.tm + wd, l.u, l.v, 0, 0, 0⟩
def lateP (kd wd : Int) (l : Lk) : Bool := decide (kd = 2 ∧ l.tm + wd ≤ 1048576)
def lateL (kd wd : Int) (xs : List Lk) : List Ev := (xs.filter (lateP kd wd)).map (cutAt wd)
def evC (a b : Ev) : Int := if a.tm < b.tm then -1 else if b.tm < a.tm then 1 else 0
def linksL (es : List Ev) : List Lk := es.foldl stepL []
def allE (kd wd mo : Int) (es : List Ev) : List Ev := (slideS kd wd mo es).2 ++ isortG evC (lateL kd wd (linksL (slideS kd wd mo es).2))
def edgesK (xs : List Lk) : List Pt := xs.map fun l => ⟨l.u, l.v⟩
def atK (kd wd mo : Int) (es : List Ev) (T : Int) : List Lk := linksL ((allE kd wd mo es).takeWhile fun e => decide (e.tm ≤ T))
def timesL (kd wd mo : Int) (es : List Ev) : List Int := 0 :: ((slideS kd wd mo es).2.map Ev.tm ++ (lateL kd wd (linksL (slideS kd wd mo es).2)).map Ev.tm)
theorem linksL_take {es : List Ev} {k : Nat} (h : k < es.length) : linksL (es.take (k + 1)) = stepL (linksL (es.take k)) (at_ es (k : Int)) := by
 unfold linksL; rw [Cx es k h, List.foldl_append]; rfl
theorem lateL_take {kd wd : Int} {xs : List Lk} {k : Nat} (h : k < xs.length) : lateL kd wd (xs.take (k + 1)) = lateL kd wd (xs.take k) ++ if lateP kd wd (at_ xs (k : Int)) = true then [cutAt wd (at_ xs (k : Int))] else [] := by
 unfold lateL
 rw [Cx xs k h, List.filter_append, List.map_append]
 congr 1
 by_cases hp : lateP kd wd (at_ xs (k : Int)) = true
 ·rw [if_pos hp]; simp [List.filter_cons, hp]
 ·rw [if_neg hp]; simp [List.filter_cons, hp]
theorem lateL_len (kd wd : Int) (xs : List Lk) : (lateL kd wd xs).length ≤ xs.length := by
 unfold lateL; rw [List.length_map]; exact List.length_filter_le _ _
structure Moment (E : List Ev) (fst : Bool) (j : Nat) (t : Int) (own : Bool) (j' : Nat) : Prop where
 le : j ≤ j' ∧ j' ≤ E.length
 same : ∀ i : Nat, j ≤ i → i < j' → (at_ E (i : Int)).tm = t
 stop : j' < E.length → (at_ E (j' : Int)).tm ≠ t
 own : own = decide (j < j')
 first : fst = true → t = 0 ∧ j = 0
 next : fst = false → j < E.length ∧ t = (at_ E (j : Int)).tm
theorem takeWhile_take {α : Type} [Inhabited α] {p : α → Bool} : ∀ {E : List α} {j : Nat}, j ≤ E.length → (∀ i : Nat, i < j → p (at_ E (i : Int)) = true) → (j < E.length → p (at_ E (j : Int)) = false) → E.takeWhile p = E.take j
 | [], j, _, _, _ => by simp
 | x :: E, 0, _, _, h => by
  have h1 := h (by simp)
  rw [show at_ (x :: E) ((0 : Nat) : Int) = x from rfl] at h1
  simp [List.takeWhile_cons, h1]
 | x :: E, j + 1, hj, ha, h => by
  have h0 := ha 0 om
  rw [show at_ (x :: E) ((0 : Nat) : Int) = x from rfl] at h0
  have e : ∀ i : Nat, at_ (x :: E) ((i + 1 : Nat) : Int) = at_ E (i : Int) := fun i => by rw [at_nat, at_nat]; rfl
  have ih := takeWhile_take (p := p) (E := E) (j := j) (by simpa using hj) (fun i hi => by rw [← e]; exact ha (i + 1) om) (fun hl => by rw [← e]; exact h (by simpa using hl))
  simp [List.takeWhile_cons, h0, ih]
theorem atK_stop {kd wd mo T : Int} {es : List Ev} {j : Nat} (hj : j ≤ (allE kd wd mo es).length) (ha : ∀ i : Nat, i < j → (at_ (allE kd wd mo es) (i : Int)).tm ≤ T) (h : j < (allE kd wd mo es).length → T < (at_ (allE kd wd mo es) (j : Int)).tm) : atK kd wd mo es T = linksL ((allE kd wd mo es).take j) := by
 unfold atK
 rw [takeWhile_take hj (fun i hi => decide_eq_true (ha i hi)) fun hl => decide_eq_false (by have := h hl; omega)]
end Go.Sl
namespace Go.Sl
open Go.Proofs
set_option maxRecDepth 4000
theorem checkS_tm' {nd : Int} {xs : List Lk} (h : checkS nd xs = 0) : ∀ x ∈ xs, 0 ≤ x.tm ∧ x.tm ≤ 1048576 := fun x hx => badL_tm ((checkS_ok h).2.1 x hx)
theorem First_ok {κ : Ctx} {I : List Item} {nd wd : Int} {va : Value} {xs : List Lk} (hl : Sl κ I va xs) (hb : ∀ x ∈ xs, 0 ≤ x.tm ∧ x.tm ≤ 1048576) (hw : 0 ≤ wd ∧ wd ≤ 1048576) :
    CallS Tryz.prog κ 252 [.agg #[I64 (nd), va], I64 (wd)] I (fun r J => ∃ z : Int, r = .tuple #[I64 z, .bool (decide (0 < xs.length))] ∧ ((0 < xs.length → (∃ x ∈ xs, z = x.tm + wd) ∧ ∀ y ∈ xs, z ≤ y.tm + wd) ∧ (xs.length = 0 → z = 0)) ∧ I = J) := by
 refine B8 hl.le fun hmax => ?_
 refine Ce2 Tryz.func252 rfl rfl ?_
 refine Ah (Ge1 (Bd (cs := [_, _]) rfl rfl rfl) fun b1 => Ga rfl (Ga rfl (Af (As (Ah (Gf fld111_1 rfl (Gl ty109 ?_)))))))
 refine Gr (Bz (α := Lk) (xs := xs) Aw rfl (Bh hl)) (Gr (Bi rfl rfl) (Af (A7 rfl (fun c10 => ?_) (fun c10 => ?_))))
 ·exact Ah (Ga rfl (Ga rfl (Af (Ay (Aj (Cy rfl rfl rfl (I) A1 ⟨0, by rw [decide_eq_false om], ⟨fun h => by omega, fun _ => rfl⟩, rfl⟩))))))
 ·refine A2 (Ak (Ah (Gf fld111_1 rfl (Gl ty109 ?_))))
  refine G.e (Al call292 rfl rfl (MinF_ok (Bh hl) om FirstC_cmps)) ?_
  rintro _ _ ⟨_, _, ⟨xm2, rfl, hmxm2, rfl⟩, rfl, rfl⟩
  have hxb := hb _ hmxm2.1
  refine Ge1 (A8 ty146 rfl) fun b3 => Ge0 (Dh ty146) ?_
  refine Af (Ah (Gf fld146_5 rfl (Gl ty3 ?_)))
  exact Gm rfl (Gr (Rad rfl rfl) (Ga rfl (Ga rfl (Af (Aq (S2 5 4 rfl rfl) (Ay (Cy rfl rfl rfl (I) A1 ⟨_, by rw [decide_eq_true om], ⟨fun _ => ⟨⟨xm2, hmxm2.1, rfl⟩, fun y hy => by have := hmxm2.2 y hy; omega⟩, fun h => by omega⟩, rfl⟩)))))))
end Go.Sl
/- What holds of the events of a history, with the cuts of what expires later. The plain laws. No Go. No conditions. -/
namespace Go.Sl
theorem ageL_len (wd mo T : Int) (xs : List Lk) (out : List Ev) : (ageL wd mo T xs out).1.length ≤ xs.length := by
 have h := ageL_ind (wd := wd) (mo := mo) (T := T) (P := fun ys _ => ys.length ≤ xs.length) (fun ys o hs hP => Nat.le_trans (List.length_filter_le _ _) hP) xs.length xs out (Nat.le_refl _) (Nat.le_refl _)
 exact h.1
theorem slide_take_len {kd wd mo : Int} {es : List Ev} : ∀ k, k ≤ es.length → (slideS kd wd mo (es.take k)).1.length ≤ k
 | 0, _ => Nat.le_refl _
 | k + 1, hk => by
  have ih := slide_take_len (kd := kd) (wd := wd) (mo := mo) (es := es) k om
  rw [slideS_succ om]
  generalize slideS kd wd mo (es.take k) = s at ih ⊢
  have h1 : (agedL kd wd mo (at_ es (k : Int)).tm s).1.length ≤ s.1.length := by
   unfold agedL
   split
   ·exact ageL_len _ _ _ _ _
   ·exact Nat.le_refl _
  have h2 := stepL_len (agedL kd wd mo (at_ es (k : Int)).tm s).1 (at_ es (k : Int))
  unfold evStep windL
  split
  ·have h3 := List.length_filter_le (inW kd wd mo (at_ es (k : Int)).tm (stepL (agedL kd wd mo (at_ es (k : Int)).tm s).1 (at_ es (k : Int)))) (stepL (agedL kd wd mo (at_ es (k : Int)).tm s).1 (at_ es (k : Int)))
   simp only
   omega
  ·simp only
   omega
structure HistOk (nd kd wd mo : Int) (es : List Ev) : Prop where
 st : StOk nd es
 win : checkW kd wd mo = 0
theorem checkW_cases {kd wd mo : Int} (h : checkW kd wd mo = 0) : (kd = 1 ∧ wd = 0 ∧ mo = 0) ∨ (kd = 2 ∧ (1 ≤ wd ∧ wd ≤ 1048576) ∧ mo = 0) ∨ (kd = 3 ∧ wd = 0 ∧ 0 ≤ mo ∧ mo ≤ 2016) := by
 unfold checkW at h
 split at h
 ·cases h
 ·split at h
  ·cases h
  ·omega
section
variable {nd kd wd mo : Int} {es : List Ev}
theorem HistOk.fit (h : HistOk nd kd wd mo es) : ∀ e ∈ (slideS kd wd mo es).2, FitOk nd e := by
 have he : es.take es.length = es := List.take_length
 rcases checkW_cases h.win with ⟨rfl, rfl, rfl⟩ | ⟨rfl, hw, rfl⟩ | ⟨rfl, rfl, hm⟩
 ·rw [all_same]; exact h.st.mem
 ·have := (BehB.all (mo := 0) h.st hw.1 es.length (Nat.le_refl _)).fit
  rwa [he] at this
 ·have := (CntB.all h.st hm.1 es.length (Nat.le_refl _)).fit
  rwa [he] at this
theorem HistOk.links (h : HistOk nd kd wd mo es) : (slideS kd wd mo es).1 = linksL (slideS kd wd mo es).2 := by
 have he : es.take es.length = es := List.take_length
 rcases checkW_cases h.win with ⟨rfl, rfl, rfl⟩ | ⟨rfl, hw, rfl⟩ | ⟨rfl, rfl, hm⟩
 ·rw [all_same]
  have : ∀ k, k ≤ es.length → (slideS 1 0 0 (es.take k)).1 = linksL (es.take k) := fun k => by
   induction k with
   | zero => intro _; rfl
   | succ k ih =>
    intro hk
    rw [slideS_succ om, linksL_take om, ← ih om]; rfl
  have := this es.length (Nat.le_refl _)
  rwa [he] at this
 ·have := (BehB.all (mo := 0) h.st hw.1 es.length (Nat.le_refl _)).st
  rwa [he] at this
 ·have := (CntB.all h.st hm.1 es.length (Nat.le_refl _)).st
  rwa [he] at this
theorem HistOk.len (h : HistOk nd kd wd mo es) : (linksL (slideS kd wd mo es).2).length ≤ es.length := by
 have he : es.take es.length = es := List.take_length
 rw [← h.links]
 have := slide_take_len (kd := kd) (wd := wd) (mo := mo) es.length (Nat.le_refl _)
 rwa [he] at this
theorem HistOk.len2 (h : HistOk nd kd wd mo es) : (slideS kd wd mo es).2.length ≤ 2 * es.length := by
 have he : es.take es.length = es := List.take_length
 rcases checkW_cases h.win with ⟨rfl, rfl, rfl⟩ | ⟨rfl, hw, rfl⟩ | ⟨rfl, rfl, hm⟩
 ·rw [all_same]; omega
 ·have := (BehB.all (mo := 0) h.st hw.1 es.length (Nat.le_refl _)).sum
  rw [he] at this; omega
 ·have := (CntB.all h.st hm.1 es.length (Nat.le_refl _)).sum
  rw [he] at this; omega
theorem links_val (h0 : 0 ≤ nd ∧ nd ≤ 64) {E : List Ev} (hf : ∀ e ∈ E, FitOk nd e) (k : Nat) : checkS nd (linksL (E.take k)) = 0 := steps_val h0 _ _ (valNil h0) fun e he => hf e (List.mem_of_mem_take he)
theorem cutAt_fit {l : Lk} {X : List Lk} (hv : checkS nd X = 0) (hl : l ∈ X) (hw : 0 ≤ wd) (hp : lateP kd wd l = true) : FitOk nd (cutAt wd l) := by
 have h1 := of_decide_eq_true hp
 have h2 := val_uv hv l hl
 have h3 := checkS_tm' hv l hl
 have h4 := (checkS_iff.1 hv).1
 refine ⟨by show 1 ≤ (2 : Int) ∧ (2 : Int) ≤ 3; decide, ?_, ⟨?_, fun h => absurd h (by show ¬ (2 : Int) = 3; decide), fun _ => ?_⟩, fun h => absurd h (by show ¬ (2 : Int) = 1; decide), ?_, fun _ => ⟨rfl, rfl, rfl⟩⟩
 ·show 0 ≤ l.tm + wd ∧ l.tm + wd ≤ 1048576; omega
 ·show 0 ≤ l.u ∧ l.u < 64; omega
 ·show (0 ≤ l.v ∧ l.v < 64) ∧ l.u ≠ l.v; omega
 ·show l.u < nd ∧ l.v < nd; omega
theorem late_fit {X : List Lk} (hv : checkS nd X = 0) (hw : 0 ≤ wd) : ∀ e ∈ isortG evC (lateL kd wd X), FitOk nd e := fun e he => by
 rw [(isort_permG _ _).mem_iff] at he
 obtain ⟨l, hl, rfl⟩ := List.mem_map.1 he
 have hl2 := List.mem_filter.1 hl
 exact cutAt_fit hv hl2.1 hw hl2.2
theorem HistOk.allFit (h : HistOk nd kd wd mo es) : ∀ e ∈ allE kd wd mo es, FitOk nd e := fun e he => by
 rcases List.mem_append.1 he with he | he
 ·exact h.fit e he
 ·have hv : checkS nd (linksL (slideS kd wd mo es).2) = 0 := by
   have := links_val h.st.nodes h.fit (slideS kd wd mo es).2.length
   rwa [List.take_length] at this
  exact late_fit hv (checkW_wd h.win).1 e he
theorem edgesK_ok {X : List Lk} (h : checkS nd X = 0) : GrOk nd (edgesK X) := by
 have h1 := checkS_iff.1 h
 refine ⟨h1.1, ?_, fun e he => ?_⟩
 ·show (edgesK X).Pairwise Pt.lt
  unfold edgesK
  exact List.Pairwise.map _ (fun a b hab => hab) h1.2.2
 ·obtain ⟨l, hl, rfl⟩ := List.mem_map.1 he
  exact val_uv h l hl
theorem edgesK_len (X : List Lk) : (edgesK X).length = X.length := List.length_map ..
def atG (kd wd mo : Int) (es : List Ev) (T : Int) : List Pt := edgesK (atK kd wd mo es T)
theorem atK_take (kd wd mo T : Int) (es : List Ev) : ∃ j, atK kd wd mo es T = linksL ((allE kd wd mo es).take j) := by
 unfold atK
 have hp : (allE kd wd mo es).takeWhile (fun e => decide (e.tm ≤ T)) <+: allE kd wd mo es := List.takeWhile_prefix _
 exact ⟨_, by rw [List.prefix_iff_eq_take.1 hp]⟩
theorem HistOk.graph (h : HistOk nd kd wd mo es) (T : Int) : GrOk nd (atG kd wd mo es T) := by
 obtain ⟨j, hj⟩ := atK_take kd wd mo T es
 unfold atG
 rw [hj]
 exact edgesK_ok (links_val h.st.nodes h.allFit j)
end
end Go.Sl
namespace Go.Sl
open Go.Proofs
set_option maxRecDepth 4000
variable {κ : Ctx} {I : List Item}
theorem NodeE_ok (n : Int) :
    CallS Tryz.prog κ 291 [I64 (n)] I (fun r J => r = .bool (decide (0 ≤ n ∧ n < 64)) ∧ I = J) := by
 refine Ce1 Tryz.func291 rfl rfl ?_
 refine Ah (Ga rfl (Af (Ah (Gm rfl (Gr (Cc rfl rfl) (Gm rfl (Bk (d := 5) rfl (fun g5 => ?_) (fun g5 => ?_))))))))
 ·exact Gro (Ad rfl) (Gro (Ba rfl rfl) (Gr (Ao rfl rfl) (Ga rfl (Af (Ay (A3 rfl rfl (I) A1 ⟨(by first | exact congrArg Value.bool (decide_eq_decide.2 (by skip; omega)) | exact congrArg Value.bool (decide_eq_true (by skip; omega)).symm | exact congrArg Value.bool (decide_eq_false (by skip; omega)).symm), rfl⟩))))))
 ·exact Gpo (Gpo (Gr (Ar rfl rfl) (Ga rfl (Af (Ay (A3 rfl rfl (I) A1 ⟨(by first | exact congrArg Value.bool (decide_eq_decide.2 (by skip; omega)) | exact congrArg Value.bool (decide_eq_true (by skip; omega)).symm | exact congrArg Value.bool (decide_eq_false (by skip; omega)).symm), rfl⟩))))))
theorem EndsE_ok (e : Ev) :
    CallS Tryz.prog κ 250 [.agg #[I64 (e.kd), I64 (e.tm), I64 (e.u), I64 (e.v), I64 (e.w), I64 (e.lb), I64 (e.sg)]] I (fun r J => r = .bool (decide (endsE e)) ∧ I = J) := by
 refine Ce1 Tryz.func250 rfl rfl ?_
 refine Ah (Ge1 (Bd (cs := [_, _, _, _, _, _, _]) rfl rfl rfl) fun b1 => Ga rfl (Af (As (Ah (Gf fld108_0 rfl (Gl ty3 ?_))))))
 refine Gr (Bi rfl rfl) (Af (A7 rfl (fun c5 => ?_) (fun c5 => ?_)))
 ·refine Ah (Gf fld108_2 rfl (Gl ty3 ?_))
  refine Gc0 (Al call291 rfl rfl (NodeE_ok e.u)) ?_
  refine Gm rfl (Bk (d := 9) rfl (fun g9 => ?_) (fun g9 => ?_))
  ·refine Gro (Ab fld108_3 rfl) (Gro (Au ty3) ?_)
   exact Gro (Bi rfl rfl) (Gr (Ao rfl rfl) (Ga rfl (Af (Aq (S1 2 rfl) (Ay (Aj (A3 rfl rfl (I) A1 ⟨(by first | exact congrArg Value.bool (decide_eq_decide.2 (by unfold endsE; omega)) | exact congrArg Value.bool (decide_eq_true (by unfold endsE; omega)).symm | exact congrArg Value.bool (decide_eq_false (by unfold endsE; omega)).symm), rfl⟩)))))))
  ·exact Gpo (Gpo (Gpo (Gr (Ar rfl rfl) (Ga rfl (Af (Aq (S1 2 rfl) (Ay (Aj (A3 rfl rfl (I) A1 ⟨(by first | exact congrArg Value.bool (decide_eq_decide.2 (by unfold endsE; omega)) | exact congrArg Value.bool (decide_eq_true (by unfold endsE; omega)).symm | exact congrArg Value.bool (decide_eq_false (by unfold endsE; omega)).symm), rfl⟩)))))))))
 ·refine A2 (Ak (Ah (Gf fld108_2 rfl (Gl ty3 ?_))))
  refine Gc0 (Al call291 rfl rfl (NodeE_ok e.u)) ?_
  refine Gm rfl (Bk (d := 17) rfl (fun g17 => ?_) (fun g17 => ?_))
  ·refine Gro (Ab fld108_3 rfl) (Gro (Au ty3) ?_)
   refine D6 (Cp rfl rfl rfl) (Al call291 rfl rfl (NodeE_ok e.v)) ?_
   rintro _ _ ⟨_, _, ⟨rfl, rfl⟩, rfl, rfl⟩
   refine Gr (Ao rfl rfl) (Gm rfl (Bk (d := 22) rfl (fun g22 => ?_) (fun g22 => ?_)))
   ·refine Gro (Ab fld108_2 rfl) (Gro (Au ty3) ?_)
    refine Gro (Ab fld108_3 rfl) (Gro (Au ty3) ?_)
    exact Gro (Bv rfl rfl) (Gr (Ao rfl rfl) (Ga rfl (Af (Aq (S1 2 rfl) (Ay (A3 rfl rfl (I) A1 ⟨(by first | exact congrArg Value.bool (decide_eq_decide.2 (by unfold endsE; omega)) | exact congrArg Value.bool (decide_eq_true (by unfold endsE; omega)).symm | exact congrArg Value.bool (decide_eq_false (by unfold endsE; omega)).symm), rfl⟩))))))
   ·exact Gpo (Gpo (Gpo (Gpo (Gpo (Gr (Ar rfl rfl) (Ga rfl (Af (Aq (S1 2 rfl) (Ay (A3 rfl rfl (I) A1 ⟨(by first | exact congrArg Value.bool (decide_eq_decide.2 (by unfold endsE; omega)) | exact congrArg Value.bool (decide_eq_true (by unfold endsE; omega)).symm | exact congrArg Value.bool (decide_eq_false (by unfold endsE; omega)).symm), rfl⟩))))))))))
  ·exact Gpo (Gpo (Gpo (Gr (Ar rfl rfl) (Gm rfl (Gpo (Gpo (Gpo (Gpo (Gpo (Gr (Ar rfl rfl) (Ga rfl (Af (Aq (S1 2 rfl) (Ay (A3 rfl rfl (I) A1 ⟨(by first | exact congrArg Value.bool (decide_eq_decide.2 (by unfold endsE; omega)) | exact congrArg Value.bool (decide_eq_true (by unfold endsE; omega)).symm | exact congrArg Value.bool (decide_eq_false (by unfold endsE; omega)).symm), rfl⟩)))))))))))))))
theorem CheckE_ok (e : Ev) :
    CallS Tryz.prog κ 209 [.agg #[I64 (e.kd), I64 (e.tm), I64 (e.u), I64 (e.v), I64 (e.w), I64 (e.lb), I64 (e.sg)]] I (fun r J => r = I64 (checkE e) ∧ I = J) := by
 refine Ce1 Tryz.func209 rfl rfl ?_
 refine Ah (Ge1 (Bd (cs := [_, _, _, _, _, _, _]) rfl rfl rfl) fun b1 => Ga rfl (Af (As (A0 (Ah (Gf fld108_0 rfl (Gl ty3 ?_)))))))
 refine Gr (Ba rfl rfl) (Gm rfl (Bk (d := 7) rfl (fun g7 => ?_) (fun g7 => ?_)))
 ·exact Gpo (Gpo (Gpo (Gr (Ao rfl rfl) (Ga rfl (Af (Co rfl (Ah (Ga rfl (Af (Aq (S1 2 rfl) (Ay (Ap (Aj (A3 rfl rfl (I) A1 ⟨by rw [show checkE e = 8 from checkE_eight om], rfl⟩))))))))))))))
 ·refine Gro (Ab fld108_0 rfl) (Gro (Au ty3) ?_)
  refine Gro (B0 rfl rfl) (Gr (Ar rfl rfl) (Ga rfl (Af (A7 rfl (fun c3 => ?_) (fun c3 => ?_)))))
  ·exact Ah (Ga rfl (Af (Aq (S1 2 rfl) (Ay (Ap (Aj (A3 rfl rfl (I) A1 ⟨by rw [show checkE e = 8 from checkE_eight om], rfl⟩)))))))
  ·refine Ah (Gf fld108_1 rfl (Gl ty3 ?_))
   refine Gr (Ba rfl rfl) (Gm rfl (Bk (d := 16) rfl (fun g16 => ?_) (fun g16 => ?_)))
   ·exact Gpo (Gpo (Gpo (Gr (Ao rfl rfl) (Ga rfl (Af (Aq (S2 12 1 rfl rfl) (Co rfl (Ah (Ga rfl (Af (Ay (Ap (Aj (A3 rfl rfl (I) A1 ⟨by rw [show checkE e = 9 from checkE_nine om om], rfl⟩))))))))))))))
   ·refine Gro (Ab fld108_1 rfl) (Gro (Au ty3) ?_)
    refine Gro (B0 rfl rfl) (Gr (Ar rfl rfl) (Ga rfl (Af (Aq (S2 12 1 rfl rfl) (A7 rfl (fun c12 => ?_) (fun c12 => ?_))))))
    ·exact Ah (Ga rfl (Af (Ay (Ap (Aj (A3 rfl rfl (I) A1 ⟨by rw [show checkE e = 9 from checkE_nine om om], rfl⟩))))))
    ·refine Ah (Gl7 ty108 ?_)
     refine Gc0 (Al call250 rfl rfl (EndsE_ok e)) ?_
     refine Gr (Dw rfl) (Ga rfl (Af (A7 rfl (fun c21 => ?_) (fun c21 => ?_))))
     ·exact Ah (Ga rfl (Af (Ay (Ap (Aj (A3 rfl rfl (I) A1 ⟨by rw [show checkE e = 6 from checkE_six om om (by first | assumption | (unfold endsE; omega))], rfl⟩))))))
     ·refine Ah (Gf fld108_0 rfl (Gl ty3 ?_))
      refine Gr (Bi rfl rfl) (Gm rfl (Bk (d := 29) rfl (fun g29 => ?_) (fun g29 => ?_)))
      ·refine Gro (Ab fld108_4 rfl) (Gro (Au ty3) ?_)
       refine Gro (Ab fld108_5 rfl) (Gro (Au ty3) ?_)
       refine Gro (Ab fld108_6 rfl) (Gro (Au ty3) ?_)
       refine D6 (Cp rfl rfl rfl) (Al call251 rfl rfl (RightW_ok e.w e.lb e.sg)) ?_
       rintro _ _ ⟨_, _, ⟨rfl, rfl⟩, rfl, rfl⟩
       refine Gro (Dw rfl) (Gr (Ao rfl rfl) (Ga rfl (Af (Aq (S2 25 1 rfl rfl) (A7 rfl (fun c25 => ?_) (fun c25 => ?_))))))
       ·exact Ah (Ga rfl (Af (Ay (Ap (Aj (A3 rfl rfl (I) A1 ⟨by rw [show checkE e = 1 from checkE_one om om (by first | assumption | exact Classical.not_not.1 asm | (unfold endsE; omega)) (by first | (exact .inr om) | exact .inl ⟨by omega, by assumption⟩ | exact .inl ⟨by omega, fun h => by simp_all⟩)], rfl⟩))))))
       ·refine Ah (Gf fld108_0 rfl (Gl ty3 ?_))
        refine Gr (Bv rfl rfl) (Gm rfl (Bk (d := 43) rfl (fun g43 => ?_) (fun g43 => ?_)))
        ·refine Gro (Ab fld108_4 rfl) (Gro (Au ty3) ?_)
         refine Gro (Bv rfl rfl) (Gro (Ad rfl) (Bk (d := 47) rfl (fun g47 => ?_) (fun g47 => ?_)))
         ·exact Gpo (Gpo (Gpo (Gro (Ao rfl rfl) (Gro (Ad rfl) (Gpo (Gpo (Gpo (Gro (Ao rfl rfl) (Gr (Ao rfl rfl) (Ga rfl (Af (Aq (S1 39 rfl) (Co rfl (Ah (Ga rfl (Af (Ay (Ap (Aj (A3 rfl rfl (I) A1 ⟨by rw [show checkE e = 1 from checkE_one om om (by first | assumption | exact Classical.not_not.1 asm | (unfold endsE; omega)) (by first | (exact .inr om) | exact .inl ⟨by omega, by assumption⟩ | exact .inl ⟨by omega, fun h => by simp_all⟩)], rfl⟩))))))))))))))))))))
         ·refine Gro (Ab fld108_5 rfl) (Gro (Au ty3) ?_)
          refine Gro (Bv rfl rfl) (Gro (Ar rfl rfl) (Gro (Ad rfl) (Bk (d := 52) rfl (fun g52 => ?_) (fun g52 => ?_))))
          ·exact Gpo (Gpo (Gpo (Gro (Ao rfl rfl) (Gr (Ao rfl rfl) (Ga rfl (Af (Aq (S1 39 rfl) (Co rfl (Ah (Ga rfl (Af (Ay (Ap (Aj (A3 rfl rfl (I) A1 ⟨by rw [show checkE e = 1 from checkE_one om om (by first | assumption | exact Classical.not_not.1 asm | (unfold endsE; omega)) (by first | (exact .inr om) | exact .inl ⟨by omega, by assumption⟩ | exact .inl ⟨by omega, fun h => by simp_all⟩)], rfl⟩)))))))))))))))
          ·refine Gro (Ab fld108_6 rfl) (Gro (Au ty3) ?_)
           refine Gro (Bv rfl rfl) (Gro (Ar rfl rfl) (Gr (Ao rfl rfl) (Ga rfl (Af (Aq (S1 39 rfl) (A7 rfl (fun c39 => ?_) (fun c39 => ?_)))))))
           ·exact Ah (Ga rfl (Af (Ay (Ap (Aj (A3 rfl rfl (I) A1 ⟨by rw [show checkE e = 1 from checkE_one om om (by first | assumption | exact Classical.not_not.1 asm | (unfold endsE; omega)) (by first | (exact .inr om) | exact .inl ⟨by omega, by assumption⟩ | exact .inl ⟨by omega, fun h => by simp_all⟩)], rfl⟩))))))
           ·exact A2 (Ai (Ak (Ah (Ga rfl (Af (Ay (A3 rfl rfl (I) A1 ⟨by rw [show checkE e = 0 from checkE_zero om om (by first | assumption | exact Classical.not_not.1 asm | (unfold endsE; omega)) (fun h => by first | (exfalso; omega) | assumption | exact Classical.not_not.1 asm) (fun h => by omega)], rfl⟩)))))))
        ·exact Gpo (Gpo (Gpo (Gpo (Gpu (Gpu (Gpu (Gpo (Gpo (Gpu (Gpu (Gpu (Gpo (Gr (Ar rfl rfl) (Ga rfl (Af (Aq (S1 39 rfl) (Di rfl (A2 (Ai (Ak (Ah (Ga rfl (Af (Ay (A3 rfl rfl (I) A1 ⟨by rw [show checkE e = 0 from checkE_zero om om (by first | assumption | exact Classical.not_not.1 asm | (unfold endsE; omega)) (fun h => by first | (exfalso; omega) | assumption | exact Classical.not_not.1 asm) (fun h => by omega)], rfl⟩)))))))))))))))))))))))))
      ·refine Gpo (Gpo (Gpo (Gpo (Gpo (Gpo (Gpo (Gpo (Gr (Ar rfl rfl) (Ga rfl (Af (Aq (S2 25 1 rfl rfl) (Di rfl (Ah (Gf fld108_0 rfl (Gl ty3 ?_)))))))))))))))
       refine Gr (Bv rfl rfl) (Gm rfl (Bk (d := 43) rfl (fun g43 => ?_) (fun g43 => ?_)))
       ·refine Gro (Ab fld108_4 rfl) (Gro (Au ty3) ?_)
        refine Gro (Bv rfl rfl) (Gro (Ad rfl) (Bk (d := 47) rfl (fun g47 => ?_) (fun g47 => ?_)))
        ·exact Gpo (Gpo (Gpo (Gro (Ao rfl rfl) (Gro (Ad rfl) (Gpo (Gpo (Gpo (Gro (Ao rfl rfl) (Gr (Ao rfl rfl) (Ga rfl (Af (Aq (S1 39 rfl) (Co rfl (Ah (Ga rfl (Af (Ay (Ap (Aj (A3 rfl rfl (I) A1 ⟨by rw [show checkE e = 1 from checkE_one om om (by first | assumption | exact Classical.not_not.1 asm | (unfold endsE; omega)) (by first | (exact .inr om) | exact .inl ⟨by omega, by assumption⟩ | exact .inl ⟨by omega, fun h => by simp_all⟩)], rfl⟩))))))))))))))))))))
        ·refine Gro (Ab fld108_5 rfl) (Gro (Au ty3) ?_)
         refine Gro (Bv rfl rfl) (Gro (Ar rfl rfl) (Gro (Ad rfl) (Bk (d := 52) rfl (fun g52 => ?_) (fun g52 => ?_))))
         ·exact Gpo (Gpo (Gpo (Gro (Ao rfl rfl) (Gr (Ao rfl rfl) (Ga rfl (Af (Aq (S1 39 rfl) (Co rfl (Ah (Ga rfl (Af (Ay (Ap (Aj (A3 rfl rfl (I) A1 ⟨by rw [show checkE e = 1 from checkE_one om om (by first | assumption | exact Classical.not_not.1 asm | (unfold endsE; omega)) (by first | (exact .inr om) | exact .inl ⟨by omega, by assumption⟩ | exact .inl ⟨by omega, fun h => by simp_all⟩)], rfl⟩)))))))))))))))
         ·refine Gro (Ab fld108_6 rfl) (Gro (Au ty3) ?_)
          refine Gro (Bv rfl rfl) (Gro (Ar rfl rfl) (Gr (Ao rfl rfl) (Ga rfl (Af (Aq (S1 39 rfl) (A7 rfl (fun c39 => ?_) (fun c39 => ?_)))))))
          ·exact Ah (Ga rfl (Af (Ay (Ap (Aj (A3 rfl rfl (I) A1 ⟨by rw [show checkE e = 1 from checkE_one om om (by first | assumption | exact Classical.not_not.1 asm | (unfold endsE; omega)) (by first | (exact .inr om) | exact .inl ⟨by omega, by assumption⟩ | exact .inl ⟨by omega, fun h => by simp_all⟩)], rfl⟩))))))
          ·exact A2 (Ai (Ak (Ah (Ga rfl (Af (Ay (A3 rfl rfl (I) A1 ⟨by rw [show checkE e = 0 from checkE_zero om om (by first | assumption | exact Classical.not_not.1 asm | (unfold endsE; omega)) (fun h => by first | (exfalso; omega) | assumption | exact Classical.not_not.1 asm) (fun h => by omega)], rfl⟩)))))))
       ·exact Gpo (Gpo (Gpo (Gpo (Gpu (Gpu (Gpu (Gpo (Gpo (Gpu (Gpu (Gpu (Gpo (Gr (Ar rfl rfl) (Ga rfl (Af (Aq (S1 39 rfl) (Di rfl (A2 (Ai (Ak (Ah (Ga rfl (Af (Ay (A3 rfl rfl (I) A1 ⟨by rw [show checkE e = 0 from checkE_zero om om (by first | assumption | exact Classical.not_not.1 asm | (unfold endsE; omega)) (fun h => by first | (exfalso; omega) | assumption | exact Classical.not_not.1 asm) (fun h => by omega)], rfl⟩)))))))))))))))))))))))))
theorem FitsE_ok (nd : Int) (e : Ev) :
    CallS Tryz.prog κ 210 [I64 (nd), .agg #[I64 (e.kd), I64 (e.tm), I64 (e.u), I64 (e.v), I64 (e.w), I64 (e.lb), I64 (e.sg)]] I (fun r J => r = I64 (fitE nd e) ∧ I = J) := by
 refine Ce2 Tryz.func210 rfl rfl ?_
 refine Ah (Ge1 (Bd (cs := [_, _, _, _, _, _, _]) rfl rfl rfl) fun b1 => Ga rfl (Af (As (Ah (Gl7 ty108 ?_)))))
 refine Gc0 (Al call209 rfl rfl (CheckE_ok e)) ?_
 refine Ga rfl (Af (Ah (Gm rfl (Gr (Bv rfl rfl) (Af (A7 rfl (fun c9 => ?_) (fun c9 => ?_)))))))
 ·exact Ah (Gm rfl (Ga rfl (Af (Ay (Aj (A3 rfl rfl (I) A1 ⟨by rw [show fitE nd e = checkE e from (by unfold fitE; rw [if_pos c9])], rfl⟩))))))
 ·refine A2 (Ak (As (Ah (Gf fld108_2 rfl (Gl ty3 ?_)))))
  refine Gm rfl (Gr (Cc rfl rfl) (Gm rfl (Bk (d := 15) rfl (fun g15 => ?_) (fun g15 => ?_))))
  ·exact Gpo (Gpo (Gpo (Gpo (Gr (Ao rfl rfl) (Af (Aq (S1 20 rfl) (Co rfl (Ah (Ga rfl (Af (Ay (Aj (A3 rfl rfl (I) A1 ⟨by rw [show fitE nd e = 6 from (by unfold fitE; rw [if_neg c9, if_pos om])], rfl⟩)))))))))))))
  ·refine Gro (Ab fld108_3 rfl) (Gro (Au ty3) ?_)
   refine Gro (Ad rfl) (Gro (Cc rfl rfl) (Gr (Ar rfl rfl) (Af (Aq (S1 20 rfl) (A7 rfl (fun c20 => ?_) (fun c20 => ?_))))))
   ·exact Ah (Ga rfl (Af (Ay (Aj (A3 rfl rfl (I) A1 ⟨by rw [show fitE nd e = 6 from (by unfold fitE; rw [if_neg c9, if_pos om])], rfl⟩)))))
   ·exact A2 (Ak (Ah (Ga rfl (Af (Ay (A3 rfl rfl (I) A1 ⟨by rw [show fitE nd e = 0 from (by unfold fitE; rw [if_neg c9, if_neg om])], rfl⟩))))))
theorem fitE_chk {nd : Int} {e : Ev} (h : checkE e ≠ 0) : fitE nd e = checkE e := by unfold fitE; rw [if_pos h]
theorem Stream_ok {κ : Ctx} {I : List Item} {nd : Int} {va : Value} {es : List Ev} (hl : Sl κ I va es) :
    CallS Tryz.prog κ 139 [I64 (nd), va] I (fun r J => r = I64 (streamE nd es) ∧ I = J) := by
 refine B8 hl.le fun hmax => ?_
 refine Ce2 Tryz.func139 rfl rfl ?_
 refine Ah (Ga rfl (Af (As (A0 (Ah (Gm rfl (Gr (Ba rfl rfl) (Gm rfl (Bk (d := 13) rfl (fun g13 => ?_) (fun g13 => ?_))))))))))
 ·exact Gpo (Gpo (Gr (Ao rfl rfl) (Ga rfl (Af (Co rfl (Ah (Ga rfl (Af (Ay (Ap (Aj (A3 rfl rfl (I) A1 ⟨by rw [show streamE nd es = 1 from (by unfold streamE; rw [if_pos om])], rfl⟩))))))))))))
 ·refine Gro (Ad rfl) (Gro (B0 rfl rfl) (Gr (Ar rfl rfl) (Ga rfl (Af (A7 rfl (fun c10 => ?_) (fun c10 => ?_))))))
  ·exact Ah (Ga rfl (Af (Ay (Ap (Aj (A3 rfl rfl (I) A1 ⟨by rw [show streamE nd es = 1 from (by unfold streamE; rw [if_pos om])], rfl⟩))))))
  ·refine Ah (Gm rfl (Gr (Bz (α := Ev) (xs := es) A5 rfl (Bh hl)) (Gr (B0 rfl rfl) (Ga rfl (Af (Aq (S3 17 0 1 rfl rfl rfl) (A7 rfl (fun c17 => ?_) (fun c17 => ?_))))))))
   ·exact Ah (Ga rfl (Af (Ay (Ap (Aj (A3 rfl rfl (I) A1 ⟨by rw [show streamE nd es = 3 from (by unfold streamE; rw [if_neg om, if_pos om])], rfl⟩))))))
   ·refine A2 (Ai (Ak (Ah (Ga rfl (Af (As (Ah (Gm rfl (Gr (Bz (α := Ev) (xs := es) A5 rfl (Bh hl)) (Gm rfl (Af (A0 (Bu (σ := Nat) (fun s => ([(0, I64 (nd)), (5, I64 (lastT es s)), (21, va), (22, I64 (((es.length : Nat) : Int))), (23, I64 (((s : Nat) : Int)))] : Env)) (fun s => I) (fun s => (s ≤ es.length) ∧ (streamE nd es = streamS nd (lastT es s) (es.drop s))) (fun s => es.length - s) (0) (show ((0 : Nat) ≤ es.length) ∧ (streamE nd es = streamS nd (lastT es (0 : Nat)) (es.drop (0 : Nat))) from ⟨om, (by unfold streamE; rw [if_neg om, if_neg om]; rfl)⟩) (Aa rfl (Aa (C0 rfl (by first | omega | (dsimp only <;> omega) | exact (rfl : (0 : Int) = lastT es 0) | exact (lastT_succ es k).symm)) (Aa rfl (Aa rfl (Aa (C0 rfl (by first | omega | (dsimp only <;> omega) | exact (rfl : (0 : Int) = lastT es 0) | exact (lastT_succ es k).symm)) Bg))))) (show Fit κ _ (I) from Az) ?_)))))))))))))
    rintro k hp
    obtain ⟨hk, hs⟩ := hp
    refine Ah (Gr (Ba rfl rfl) (Af (As (A7 rfl (fun c24 => ?_) (fun c24 => ?_)))))
    ·refine A2 (Ak (As (A0 (Ah (Gr (Ax (α := Ev) (xs := es) A5 ty108 rfl rfl (Bh hl) om om) (Gr (Bp (α := Ev) (xs := es) ty108 rfl (Bh hl) om om) (Ge1 (A8 ty108 rfl) fun b1 => Ge0 (Es7_7 ty108) ?_)))))))
     refine Af (As (Ah (Gl7 ty108 ?_)))
     refine Gc0 (Al call209 rfl rfl (CheckE_ok (at_ es (k : Int)))) ?_
     refine Ga rfl (Af (Ah (Gm rfl (Gr (Bv rfl rfl) (Af (Aq (S8 30 8 7 0 5 21 22 23 rfl rfl rfl rfl rfl rfl rfl rfl) (A7 rfl (fun c30 => ?_) (fun c30 => ?_))))))))
     ·exact Ah (Gm rfl (Ga rfl (Af (Ay (Aj (Ap (Aj (Aj (Ap (Aj (A3 rfl rfl (I) A1 ⟨by rw [show streamE nd es = checkE (at_ es (k : Int)) from (hs.trans ((streamS_bad om (by rw [fitE_chk c30]; exact c30)).trans (fitE_chk c30)))], rfl⟩)))))))))))
     ·refine A2 (Ak (As (Ah (Gm rfl (Gl7 ty108 ?_)))))
      refine Gc0 (Al call210 rfl rfl (FitsE_ok nd (at_ es (k : Int)))) ?_
      refine Ga rfl (Af (Ah (Gm rfl (Gr (Bv rfl rfl) (Af (Aq (S8 36 9 7 0 5 21 22 23 rfl rfl rfl rfl rfl rfl rfl rfl) (A7 rfl (fun c36 => ?_) (fun c36 => ?_))))))))
      ·exact Ah (Gm rfl (Ga rfl (Af (Ay (Aj (Ap (Aj (Aj (Ap (Aj (A3 rfl rfl (I) A1 ⟨by rw [show streamE nd es = fitE nd (at_ es (k : Int)) from (hs.trans (streamS_bad om c36))], rfl⟩)))))))))))
      ·refine A2 (Ak (As (Ah (Gf fld108_1 rfl (Gl ty3 ?_)))))
       refine Gm rfl (Gr (Ba rfl rfl) (Af (A7 rfl (fun c41 => ?_) (fun c41 => ?_))))
       ·exact Ah (Ga rfl (Af (Ay (Aj (Ap (Aj (Aj (Ap (Aj (A3 rfl rfl (I) A1 ⟨by rw [show streamE nd es = 9 from (hs.trans (streamS_late om (Classical.not_not.1 c36) om))], rfl⟩))))))))))
       ·refine A2 (Ak (Av (Gf fld108_1 rfl (Gl ty3 ?_))))
        exact Ga rfl (Bf (Ai (Ak (Aq (S5 5 0 21 22 23 rfl rfl rfl rfl rfl) (Av (Gr (Rad rfl rfl) (Gm rfl (Bf (B1 ((k + 1)) ⟨om, (hs.trans (streamS_step om (Classical.not_not.1 c36) om))⟩ (hL := (Aa rfl (Aa (C0 rfl (by first | omega | (dsimp only <;> omega) | exact (rfl : (0 : Int) = lastT es 0) | exact (lastT_succ es k).symm)) (Aa rfl (Aa rfl (Aa (C0 rfl (by first | omega | (dsimp only <;> omega) | exact (rfl : (0 : Int) = lastT es 0) | exact (lastT_succ es k).symm)) Bg)))))))))))))))
    ·exact Br (Am (Am (A6 (Ak (Ah (Ga rfl (Af (Ay (A3 rfl rfl (I) A1 ⟨by rw [show streamE nd es = 0 from (hs.trans (streamS_end om))], rfl⟩)))))))))
variable {κ : Ctx} {I : List Item}
theorem ov324 : ∀ args w, (callFunc 324 args).run Tryz.prog w = ((Extern.SlicesOverlaps.overlaps #[109, 109] #[4] args).run Tryz.prog w).andThen fun v w' => .ok (.value v) w' := fun args w => run_callFunc_extern (e := Extern.SlicesOverlaps.overlaps #[109, 109] #[4]) Tryz.func324 kr kr kr kr args w
set_option maxHeartbeats 8000000 in
theorem InsertL_ok {a va : Option Addr} {c vcp i : Nat} {xs ys : List Lk} (hi : i ≤ xs.length) (hy : 0 < ys.length) (hsz : xs.length + ys.length ≤ 1000000000) :
    CallS Tryz.prog κ 303 [.slice a xs.length c, I64 ((i : Int)), .slice va ys.length vcp] (vc 146 (.slice a xs.length c) (xs) :: vc 146 (.slice va ys.length vcp) (ys) :: I) (fun r J => ∃ a' c', r = .slice a' (List.take i xs ++ ys ++ List.drop i xs).length c' ∧ J = vc 146 (.slice a' (List.take i xs ++ ys ++ List.drop i xs).length c') (List.take i xs ++ ys ++ List.drop i xs) :: I) := by
 refine B8 (vc.cap List.mem_cons_self) fun hcap => ?_
 have hRl : (List.take i xs ++ ys ++ List.drop i xs).length = xs.length + ys.length := by simp only [List.length_append, List.length_take, List.length_drop]; omega
 refine Ce3 Tryz.func303 rfl rfl ?_
 refine Ah (Ga rfl (Af (Ah (Gm rfl (Gm rfl (Gr (Ej (α := Lk) (xs := xs) (l := i) Aw ty146 rfl rfl om Be lat) (Af (Ah (Gm rfl (Gr (Bl Aw rfl) (Ga rfl (Af (As (Ah (Gm rfl (Gr (Bi rfl rfl) (Af (A7 rfl (fun c16 => ?_) (fun c16 => ?_)))))))))))))))))))
 ·exact absurd c16 om
 ·refine A2 (Ak (Ah (Gm rfl (Gr (Bl Aw rfl) (Ga rfl (Af (Aq (S5 8 7 0 1 2 rfl rfl rfl rfl rfl) (As (Ah (Gm rfl (Gm rfl (Gr (Bi rfl rfl) (Af (A7 rfl (fun c22 => ?_) (fun c22 => ?_)))))))))))))))
  ·refine Ah (Gm rfl (Gm rfl (Ge2 (Ci (α := Lk) (e := 146) (xs := xs) (ys := ys) Aw ty146 rfl rfl rfl mm Be om dc rfl (fun _ _ => am)) fun ad1 cp2 => ?_)))
   refine Ga rfl (Af (Ay (Aj ?_)))
   have hR : List.take i xs ++ ys ++ List.drop i xs = xs ++ ys := by rw [List.take_of_length_le om, List.drop_eq_nil_of_le om, List.append_nil]
   exact A3 rfl rfl (vc 146 (.slice ad1 (List.take i xs ++ ys ++ List.drop i xs).length cp2) (List.take i xs ++ ys ++ List.drop i xs) :: I) (by rw [hR]; exact B4) ⟨ad1, cp2, by rw [hR], rfl⟩
  ·refine A2 (Ak (As (Ah (Gm rfl (Gm rfl (Gr (Rad rfl rfl) (Gm rfl (Gr (Runs.caps Aw rfl) (Gr (B0 rfl rfl) (Af (Aq (S6 31 8 7 0 1 2 rfl rfl rfl rfl rfl rfl) (A7 rfl (fun c31 => ?_) (fun c31 => ?_)))))))))))))
   ·refine Ah (Gm rfl (Gm rfl (Gr (Runs.hiraw (h := i) Aw ty146 rfl rfl om om) (Gm rfl (Gm rfl (Gr (Rad rfl rfl) (Gm rfl (Gr (Rsu rfl rfl) (Ge2 (Eff.grow (α := Lk) (xs := xs) (k := xs.length + ys.length - i) Aw B2 ty146 rfl rfl rfl om Be om om om om dc rfl) fun ad3 cp4 => ?_)))))))))
    refine Ga rfl (G.pull (p := (List.take i xs ++ List.replicate (xs.length + ys.length - i) (default : Lk)).length ≤ cp4) (vc.cap mm) fun hcap2 => ?_)
    have hZl : (List.take i xs ++ List.replicate (xs.length + ys.length - i) (default : Lk)).length = xs.length + ys.length := by simp only [List.length_append, List.length_take, List.length_replicate]; omega
    refine Af (Aq (S5 9 7 0 1 2 rfl rfl rfl rfl rfl) (Ah (Gm rfl (Gm rfl (Gr (Ej (α := Lk) (xs := List.take i xs ++ List.replicate (xs.length + ys.length - i) (default : Lk)) (l := i) Aw ty146 rfl rfl om Be lat) (Gm rfl (Ge0 (Eff.copyT (α := Lk) (k := i) (q := ys.length) (R := List.take i xs ++ ys ++ List.replicate (xs.length - i) (default : Lk)) (n := (i + (xs.length + ys.length - i))) Aw ty146 rfl lat rfl Be lat lat rfl (ins1 hi) lat am) ?_)))))))
    refine Af (As (Bj mixed (Bm (I) 9 (Dr 0 rfl (Ad rfl) (Dr 1 rfl (Ad rfl) (Dr 2 rfl (Ad rfl) (Dr 3 rfl (Rad rfl rfl) (Dr 4 rfl (D8 (l := (i + ys.length)) Aw ty146 rfl rfl om om om) (Dr 5 rfl (Ad rfl) (Dr 6 rfl (Ad rfl) (Dr 7 rfl (D8 (l := i) Aw ty146 rfl rfl om om om) (Ds1 8 (Se0 rfl (Eff.copyT (α := Lk) (k := (i + ys.length)) (q := (xs.length - i)) (R := List.take i xs ++ ys ++ List.drop i xs) (n := (i + (xs.length + ys.length - i))) Aw ty146 rfl lat rfl (Em (Ek (xs := xs) mm) om om) lat lat rfl (ins2 hi) lat am) ?_)))))))))))))
    exact Dz (Ak (Aq (S1 9 rfl) (Ah (Gm rfl (Ga rfl (Af (Ay (Aj (A3 rfl rfl (vc 146 (.slice ad3 (List.take i xs ++ ys ++ List.drop i xs).length cp4) (List.take i xs ++ ys ++ List.drop i xs) :: I) (by rw [show (List.take i xs ++ ys ++ List.drop i xs).length = i + (xs.length + ys.length - i) by omega]; exact B4) ⟨ad3, cp4, by rw [show (List.take i xs ++ ys ++ List.drop i xs).length = i + (xs.length + ys.length - i) by omega], rfl⟩)))))))))
   ·refine A2 (Ak (Ah (Gm rfl (Gm rfl (Gm rfl (Gr (Rad rfl rfl) (Gr (Runs.hiraw (h := xs.length + ys.length) Aw ty146 rfl rfl om om) (Ga rfl (G.room (h := xs.length + ys.length) (by repeat (first | exact AtF.head _ _ | apply AtF.tail)) rfl om om (fun js hjs => ?_))))))))))
    show G Tryz.prog κ _ _ _ _ ([(0, .slice a (xs.length + ys.length) c), (60, .slice a (xs.length + ys.length) c), (59, I64 (((xs.length : Nat) : Int) + ((ys.length : Nat) : Int))), (58, I64 (((ys.length : Nat) : Int))), (57, I64 (((xs.length : Nat) : Int))), (56, .slice a xs.length c), (31, .bool (decide ((c : Int) < (((xs.length : Nat) : Int) + ((ys.length : Nat) : Int))))), (8, I64 (((xs.length : Nat) : Int))), (7, I64 (((ys.length : Nat) : Int))), (0, .slice a xs.length c), (1, I64 ((i : Int))), (2, .slice va ys.length vcp)] : Env) (vec 146 (Enc.sz Lk) (.slice a (xs.length + ys.length) c) (xs.length + ys.length) (cells xs ++ js) :: vc 146 (.slice va ys.length vcp) (ys) :: I)
    refine Af (As (Ah (Gm rfl (Gm rfl (Gm rfl (Gm rfl (Gr (Rad rfl rfl) (Gr (D8 (l := (i + ys.length)) Aw ty146 rfl rfl om om om) (Ge0 (Eff.overlaps (k := i + ys.length) ov324 Aw ty146 rfl rfl om om om (show Fit κ _ (vc 146 (.slice va ys.length vcp) ys :: vec 146 (Enc.sz Lk) (.slice a (xs.length + ys.length) c) (xs.length + ys.length) (cells xs ++ js) :: I) from Fit.sp (Sp.pick (Pick.tail _ (Pick.head _ _)) (Sp.refl _))) (Nat.mul_pos om Enc.pos) rfl) ?_)))))))))
    refine Gr (B9 rfl) (Af (Aq (S6 68 0 8 7 1 2 rfl rfl rfl rfl rfl rfl) (Co rfl (As (Bj mixed (Bm (I) 9 (Dr 0 rfl (Ad rfl) (Dr 1 rfl (Ad rfl) (Dr 2 rfl (Ad rfl) (Dr 3 rfl (Rad rfl rfl) (Dr 4 rfl (D8 (l := (i + ys.length)) Aw ty146 rfl rfl om om om) (Dr 5 rfl (Ad rfl) (Dr 6 rfl (Ad rfl) (Dr 7 rfl (D8 (l := i) Aw ty146 rfl rfl om om om) (Ds1 8 (Se0 rfl (Eff.copyR (sz := Enc.sz Lk) (n := xs.length + ys.length) (cs := (cells xs ++ js)) (k := (i + ys.length)) (q := (xs.length - i)) Aw ty146 rfl om rfl (SlRd.dropR (SlRd.vec mm) om) om om (ins_one hi) rfl am) ?_))))))))))))))))
    show D Tryz.prog κ _ _ _ _ _ _ _ ([(77, I64 ((((xs.length - i) : Nat) : Int))), (76, .slice (adrop a c i (Enc.sz Lk)) ((xs.length + ys.length) - i) (c - i)), (75, I64 ((i : Int))), (74, .slice a (xs.length + ys.length) c), (73, .slice (adrop a c (i + ys.length) (Enc.sz Lk)) ((xs.length + ys.length) - (i + ys.length)) (c - (i + ys.length))), (72, I64 ((i : Int) + ((ys.length : Nat) : Int))), (71, I64 (((ys.length : Nat) : Int))), (70, I64 ((i : Int))), (69, .slice a (xs.length + ys.length) c), (68, .bool true), (0, .slice a (xs.length + ys.length) c), (8, I64 (((xs.length : Nat) : Int))), (7, I64 (((ys.length : Nat) : Int))), (1, I64 ((i : Int))), (2, .slice va ys.length vcp)] : Env) (vec 146 (Enc.sz Lk) (.slice a (xs.length + ys.length) c) (xs.length + ys.length) (List.take ((i + ys.length) * Enc.sz Lk) (cells xs ++ js) ++ List.take ((xs.length - i) * Enc.sz Lk) (List.drop (i * Enc.sz Lk) (cells xs ++ js)) ++ List.drop ((i + ys.length) * Enc.sz Lk + (xs.length - i) * Enc.sz Lk) (cells xs ++ js)) :: vc 146 (.slice va ys.length vcp) (ys) :: I)
    refine Dz (Ak (Aq (S3 0 1 2 rfl rfl rfl) (Ah (Gm rfl (Gm rfl (Gr (D8 (l := i) Aw ty146 rfl rfl om om om) (Gm rfl (Ge0 (Eff.copyR (sz := Enc.sz Lk) (n := xs.length + ys.length) (cs := (List.take ((i + ys.length) * Enc.sz Lk) (cells xs ++ js) ++ List.take ((xs.length - i) * Enc.sz Lk) (List.drop (i * Enc.sz Lk) (cells xs ++ js)) ++ List.drop ((i + ys.length) * Enc.sz Lk + (xs.length - i) * Enc.sz Lk) (cells xs ++ js))) (k := i) (q := ys.length) Aw ty146 rfl om rfl (show Sl κ _ (.slice va ys.length vcp) ys from (Ek (e := 146) (xs := ys) mm)) om om (fun u hu => cells_one ys u (List.mem_of_mem_take hu)) rfl am) ?_))))))))
    show G Tryz.prog κ _ _ _ _ ([(82, I64 (((ys.length : Nat) : Int))), (81, .slice va ys.length vcp), (80, .slice (adrop a c i (Enc.sz Lk)) ((xs.length + ys.length) - i) (c - i)), (79, I64 ((i : Int))), (78, .slice a (xs.length + ys.length) c), (0, .slice a (xs.length + ys.length) c), (1, I64 ((i : Int))), (2, .slice va ys.length vcp)] : Env) (vec 146 (Enc.sz Lk) (.slice a (xs.length + ys.length) c) (xs.length + ys.length) (List.take (i * Enc.sz Lk) (List.take ((i + ys.length) * Enc.sz Lk) (cells xs ++ js) ++ List.take ((xs.length - i) * Enc.sz Lk) (List.drop (i * Enc.sz Lk) (cells xs ++ js)) ++ List.drop ((i + ys.length) * Enc.sz Lk + (xs.length - i) * Enc.sz Lk) (cells xs ++ js)) ++ List.take (ys.length * Enc.sz Lk) (cells ys) ++ List.drop (i * Enc.sz Lk + ys.length * Enc.sz Lk) (List.take ((i + ys.length) * Enc.sz Lk) (cells xs ++ js) ++ List.take ((xs.length - i) * Enc.sz Lk) (List.drop (i * Enc.sz Lk) (cells xs ++ js)) ++ List.drop ((i + ys.length) * Enc.sz Lk + (xs.length - i) * Enc.sz Lk) (cells xs ++ js))) :: vc 146 (.slice va ys.length vcp) (ys) :: I)
    refine Af (Ah (Gm rfl (Ga rfl (Af (Ay (Aj ?_))))))
    have hC : (List.take (i * Enc.sz Lk) (List.take ((i + ys.length) * Enc.sz Lk) (cells xs ++ js) ++ List.take ((xs.length - i) * Enc.sz Lk) (List.drop (i * Enc.sz Lk) (cells xs ++ js)) ++ List.drop ((i + ys.length) * Enc.sz Lk + (xs.length - i) * Enc.sz Lk) (cells xs ++ js)) ++ List.take (ys.length * Enc.sz Lk) (cells ys) ++ List.drop (i * Enc.sz Lk + ys.length * Enc.sz Lk) (List.take ((i + ys.length) * Enc.sz Lk) (cells xs ++ js) ++ List.take ((xs.length - i) * Enc.sz Lk) (List.drop (i * Enc.sz Lk) (cells xs ++ js)) ++ List.drop ((i + ys.length) * Enc.sz Lk + (xs.length - i) * Enc.sz Lk) (cells xs ++ js))) = cells (List.take i xs ++ ys ++ List.drop i xs) := ins_cells hi hjs
    exact A3 rfl rfl (vc 146 (.slice a (List.take i xs ++ ys ++ List.drop i xs).length c) (List.take i xs ++ ys ++ List.drop i xs) :: I) (by rw [hC]; show Fit κ _ (vec 146 _ (.slice a (List.take i xs ++ ys ++ List.drop i xs).length c) (List.take i xs ++ ys ++ List.drop i xs).length (cells (List.take i xs ++ ys ++ List.drop i xs)) :: I); rw [hRl]; exact B4) ⟨a, c, by rw [hRl], rfl⟩
theorem InsertL_two {a va : Option Addr} {n m c vcp i : Nat} {xs ys : List Lk} {K : List Item} (hf : Fit κ I (vc 146 (.slice a n c) xs :: vc 146 (.slice va m vcp) ys :: K)) (hn : n = xs.length) (hm : m = ys.length) (hi : i ≤ xs.length) (hy : 0 < ys.length) (hsz : xs.length + ys.length ≤ 1000000000) :
  CallS Tryz.prog κ 303 [.slice a n c, I64 (i : Int), .slice va m vcp] I (fun r J => ∃ a' c', r = .slice a' (List.take i xs ++ ys ++ List.drop i xs).length c' ∧ J = vc 146 (.slice a' (List.take i xs ++ ys ++ List.drop i xs).length c') (List.take i xs ++ ys ++ List.drop i xs) :: K) := by
 subst hn hm
 exact Ck hf (InsertL_ok hi hy hsz)
theorem BSearchL {v : Value} {xs : List Lk} (hl : Sl κ I v xs) (x : Lk) {g : FuncId} {cp_ : List Value} {cf : Lk → Lk → Int} (hcb : Cmps Tryz.prog κ I g cp_ cf) (hsz : xs.length ≤ 1000000000000) :
    CallS Tryz.prog κ 302 [v, .agg #[I64 (x.u), I64 (x.v), I64 (x.w), I64 (x.lb), I64 (x.sg), I64 (x.tm)], .func (.func g) #[] cp_.toArray] I (fun r J => ∃ i b, r = .tuple #[I64 ((i : Nat) : Int), .bool b] ∧ BFound cf xs x i b ∧ I = J) := by
 refine B8 hl.le fun hmax => ?_
 refine Ce3 Tryz.func302 rfl rfl ?_
 refine Ah (Ge1 (Bd (cs := [_, _, _, _, _, _]) rfl rfl rfl) fun b1 => Ga rfl (Ga rfl (Af (Ah (Gm rfl (Gr (Bz (α := Lk) (xs := xs) Aw rfl (Bh hl)) (Ga rfl (Af (Ah (Gm rfl (Ga rfl (Ga rfl (Af (As (A0 (Bu (σ := Nat × Nat) (fun s => ([(0, v), (2, .func (.func g) #[] cp_.toArray), (4, .pointer (some ⟨b1, 0, none⟩)), (8, I64 (((xs.length : Nat) : Int))), (9, I64 (((s.1 : Nat) : Int))), (10, I64 (((s.2 : Nat) : Int)))] : Env)) (fun s => blk b1 [I64 (x.u), I64 (x.v), I64 (x.w), I64 (x.lb), I64 (x.sg), I64 (x.tm)] 146 :: I) (fun s => (s.1 ≤ s.2) ∧ (s.2 ≤ xs.length) ∧ (0 < s.1 → cf (at_ xs ((s.1 : Int) - 1)) x < 0) ∧ (s.2 < xs.length → ¬ cf (at_ xs (s.2 : Int)) x < 0)) (fun s => s.2 - s.1) (0, xs.length) (show ((0 : Nat) ≤ (xs.length : Nat)) ∧ ((xs.length : Nat) ≤ xs.length) ∧ (0 < (0 : Nat) → cf (at_ xs (((0 : Nat) : Int) - 1)) x < 0) ∧ ((xs.length : Nat) < xs.length → ¬ cf (at_ xs ((xs.length : Nat) : Int)) x < 0) from ⟨om, om, (fun h => absurd h dc), (fun h => absurd h om)⟩) (Aa rfl (Aa rfl (Aa rfl (Aa rfl (Aa Cf (Aa Cf Bg)))))) (show Fit κ _ (blk b1 [I64 (x.u), I64 (x.v), I64 (x.w), I64 (x.lb), I64 (x.sg), I64 (x.tm)] 146 :: I) from Az) ?_))))))))))))))))
 rintro ⟨i, j⟩ hp
 dsimp only at hp ⊢
 obtain ⟨hij, hj, hlo, hhi⟩ := hp
 refine As (Ah (Gm rfl (Gm rfl (Gr (Ba rfl rfl) (Af (A7 rfl (fun c17 => ?_) (fun c17 => ?_)))))))
 ·refine A2 (Ak (A0 (Ah (Gm rfl (Gm rfl (Gr (Rad rfl rfl) (Gr (Runs.convU B2 Ed rfl om) (Gr (Runs.shr1 rfl rfl) (Gr (Runs.convI Ed B2 rfl (by unfold InR; omega)) (Ga rfl (Af (Aq (S7 11 0 2 4 8 9 10 rfl rfl rfl rfl rfl rfl rfl) (As (Bj mixed (Bm (blk b1 [I64 (x.u), I64 (x.v), I64 (x.w), I64 (x.lb), I64 (x.sg), I64 (x.tm)] 146 :: I) 8 (Dr 0 rfl (Ad rfl) (Dr 1 rfl (Ad rfl) (Dr 2 rfl (Ad rfl) (Dr 3 rfl (Ax (α := Lk) (xs := xs) Aw ty146 rfl rfl (Bh hl) om om) (Dr 4 rfl (Bp (α := Lk) (xs := xs) ty146 rfl (Bh hl) om om) (Dr 5 rfl (Bq (vs := [_, _, _, _, _, _]) ty146) ?_)))))))))))))))))))))
  refine Ds1 6 (Se rfl (Cu hcb.1 (first := []) (caps := cp_) rfl rfl rfl (hcb.2 (at_ xs (((i : Int) + (j : Int)) / 2)) x _ A1)) ?_)
  rintro _ _ ⟨_, _, ⟨rfl, rfl⟩, rfl, rfl⟩
  refine ⟨Az, ?_⟩
  refine Dr 7 rfl (Ba rfl rfl) (Dz (Ak (Aq (S8 31 11 0 2 4 8 9 10 rfl rfl rfl rfl rfl rfl rfl rfl) (A7 rfl (fun c31 => ?_) (fun c31 => ?_)))))
  ·exact Av (Gm rfl (Gr (Rad rfl rfl) (Ga rfl (Bf (Ai (B1 (((i + j) / 2 + 1), (j)) (by dsimp only; exact ⟨om, om, (fun _ => by rw [show (((i + j) / 2 + 1 : Nat) : Int) - 1 = ((i : Int) + (j : Int)) / 2 by omega]; exact c31), hhi⟩)))))))
  ·exact Av (Gm rfl (Ga rfl (Bf (Ai (B1 ((i), ((i + j) / 2)) (by dsimp only; exact ⟨om, om, hlo, (fun _ => by rw [show (((i + j) / 2 : Nat) : Int) = ((i : Int) + (j : Int)) / 2 by omega]; exact c31)⟩))))))
 ·refine Br (Am (Am (A6 (Ak (As (Bj mixed (Bm (blk b1 [I64 (x.u), I64 (x.v), I64 (x.w), I64 (x.lb), I64 (x.sg), I64 (x.tm)] 146 :: I) 16 (Dr 0 rfl (Ad rfl) (Dr 1 rfl (Ad rfl) (Dr 2 rfl (Ad rfl) (Dr 3 rfl (Ba rfl rfl) (Dr 4 rfl (Ad rfl) (C4 (d := 39) rfl (fun g39 => ?_) (fun g39 => ?_))))))))))))))
  ·refine Dro 5 rfl (Ad rfl) (Dro 6 rfl (Ad rfl) (Dro 7 rfl (Ad rfl) (Dro 8 rfl (Ax (α := Lk) (xs := xs) Aw ty146 rfl rfl (Bh hl) om om) (Dro 9 rfl (Bp (α := Lk) (xs := xs) ty146 rfl (Bh hl) om om) (Dro 10 rfl (Bq (vs := [_, _, _, _, _, _]) ty146) ?_)))))
   refine Ds1 11 (Se rfl (Cu hcb.1 (first := []) (caps := cp_) rfl rfl rfl (hcb.2 (at_ xs (i : Int)) x _ A1)) ?_)
   rintro _ _ ⟨_, _, ⟨rfl, rfl⟩, rfl, rfl⟩
   refine ⟨Az, ?_⟩
   refine Dro 12 rfl (Bi rfl rfl) (Dr 13 rfl (Ao rfl rfl) (Dr 14 rfl (A9 rfl) (Dr 15 rfl (A9 rfl) (Dz (Ak (Aq (S2 7 6 rfl rfl) (Ay ?_)))))))
   have hie : i = j := by omega
   subst hie
   exact Cy rfl rfl rfl (I) A1 ⟨i, _, rfl, ⟨hj, hlo, hhi, (decide_eq_decide.2 ⟨fun h => ⟨by omega, h⟩, fun h => h.2⟩)⟩, rfl⟩
  ·refine Dpo 5 rfl (Dpo 6 rfl (Dpo 7 rfl (Dpo 8 rfl (Dpo 9 rfl (Dpo 10 rfl (Dpo 11 rfl (Dpo 12 rfl (Dr 13 rfl (Ar rfl rfl) (Dr 14 rfl (A9 rfl) (Dr 15 rfl (A9 rfl) (Dz (Ak (Aq (S2 7 6 rfl rfl) (Ay ?_))))))))))))))
   have hie : i = j := by omega
   subst hie
   exact Cy rfl rfl rfl (I) A1 ⟨i, _, rfl, ⟨hj, hlo, hhi, ((decide_eq_false (fun h => by omega)).symm)⟩, rfl⟩
theorem OrderL_cmps : Cmps Tryz.prog κ I 255 [] Lk.cmp := ⟨call255, fun x y J hf => OrderL_ok x y⟩
end Go.Sl
