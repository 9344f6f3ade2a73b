/- A part of the proofs of statements of this seat: contracts of functions, and the plain laws that they lean on. No conditions. -/
import Derived.Test.YtbimaodbcjjbfaaDoorNet
/- Layers and sending along them: the plain law. No Go. -/
namespace Go.Sl
set_option linter.unusedVariables false

/-! ### Half arcs -/
structure Half where
  frm : Int
  dst : Int
  cap : Int
  left : Int
deriving Inhabited

def fromH (n : Net) (i : Int) : Int := if i % 2 = 0 then (at_ n.arcs (i / 2)).frm else (at_ n.arcs (i / 2)).dst
def toH (n : Net) (i : Int) : Int := if i % 2 = 0 then (at_ n.arcs (i / 2)).dst else (at_ n.arcs (i / 2)).frm
def leftH (n : Net) (f : List Int) (i : Int) : Int := if i % 2 = 0 then (at_ n.arcs (i / 2)).cap - at_ f (i / 2) else at_ f (i / 2)
def mateH (i : Int) : Int := if i % 2 = 0 then i + 1 else i - 1
/-- i is the number of a half arc. -/
def InH (n : Net) (i : Int) : Prop := 0 ≤ i ∧ i < 2 * n.arcs.length

def CapF (n : Net) (f : List Int) : Prop := ∀ k : Nat, k < n.arcs.length → 0 ≤ at_ f (k : Int) ∧ at_ f (k : Int) ≤ (at_ n.arcs (k : Int)).cap

/-- hs holds the flow f. -/
structure HOk (n : Net) (f : List Int) (hs : List Half) : Prop where
  len : (hs.length : Int) = 2 * n.arcs.length
  flen : f.length = n.arcs.length
  cap : CapF n f
  get : ∀ i, InH n i → (at_ hs i).frm = fromH n i ∧ (at_ hs i).dst = toH n i ∧ (at_ hs i).left = leftH n f i

/-- The rows of half arcs by the node that they leave. -/
structure ROk (n : Net) (rs : List (List Int)) : Prop where
  len : (rs.length : Int) = n.nodes
  all : ∀ v, 0 ≤ v → v < n.nodes → ∀ i ∈ at_ rs v, InH n i ∧ fromH n i = v
  has : ∀ i, InH n i → i ∈ at_ rs (fromH n i)

section
variable {n : Net} {f g : List Int} {hs : List Half} {rs : List (List Int)} {i j : Int}

theorem InH.half (h : InH n i) : 0 ≤ i / 2 ∧ i / 2 < n.arcs.length := by unfold InH at h; omega
theorem InH.mate (h : InH n i) : InH n (mateH i) := by unfold InH mateH at *; split <;> omega
theorem mate_mate (i : Int) : mateH (mateH i) = i := by unfold mateH; split <;> split <;> omega
theorem mate_ne (i : Int) : mateH i ≠ i := by unfold mateH; split <;> omega
theorem mate_half (i : Int) : mateH i / 2 = i / 2 := by unfold mateH; split <;> omega
theorem mate_par (i : Int) : mateH i % 2 = 0 ↔ ¬ i % 2 = 0 := by unfold mateH; split <;> omega
theorem from_mate (n : Net) (i : Int) : fromH n (mateH i) = toH n i := by
  unfold fromH toH; rw [mate_half]
  by_cases h : i % 2 = 0
  · rw [if_neg (fun h' => (mate_par i).1 h' h), if_pos h]
  · rw [if_pos ((mate_par i).2 h), if_neg h]
theorem to_mate (n : Net) (i : Int) : toH n (mateH i) = fromH n i := by rw [← from_mate, mate_mate]
theorem left_sum (n : Net) (f : List Int) (i : Int) : leftH n f i + leftH n f (mateH i) = (at_ n.arcs (i / 2)).cap := by
  unfold leftH; rw [mate_half]
  by_cases h : i % 2 = 0
  · rw [if_neg (fun h' => (mate_par i).1 h' h), if_pos h]; omega
  · rw [if_pos ((mate_par i).2 h), if_neg h]; omega
theorem left_ok (hc : CapF n f) (h : InH n i) : 0 ≤ leftH n f i ∧ leftH n f i ≤ (at_ n.arcs (i / 2)).cap := by
  have := cap_ok hc h.half.1 h.half.2
  unfold leftH
  split <;> omega
theorem from_ok (hok : n.Ok) (h : InH n i) : (0 ≤ fromH n i ∧ fromH n i < n.nodes) ∧ (0 ≤ toH n i ∧ toH n i < n.nodes) ∧ fromH n i ≠ toH n i := by
  have := arc_ok hok h.half.1 h.half.2
  unfold fromH toH
  split <;> omega

/-- d more over half arc i. -/
def pushF (f : List Int) (i d : Int) : List Int := if i % 2 = 0 then f.set (i / 2).toNat (at_ f (i / 2) + d) else f.set (i / 2).toNat (at_ f (i / 2) - d)
def pushHs (hs : List Half) (i d : Int) : List Half :=
  (hs.set i.toNat { at_ hs i with left := (at_ hs i).left - d }).set (mateH i).toNat { at_ (hs.set i.toNat { at_ hs i with left := (at_ hs i).left - d }) (mateH i) with left := (at_ (hs.set i.toNat { at_ hs i with left := (at_ hs i).left - d }) (mateH i)).left + d }

theorem pushF_len (d : Int) : (pushF f i d).length = f.length := by unfold pushF; split <;> simp
theorem pushF_at (hl : f.length = n.arcs.length) (h : InH n i) (d : Int) (hj : 0 ≤ j) : at_ (pushF f i d) j = at_ f j + if i / 2 = j then (if i % 2 = 0 then d else -d) else 0 := by
  have := h.half
  unfold pushF
  by_cases hp : i % 2 = 0
  · rw [if_pos hp, if_pos hp, at_set f (i / 2) j _ (by omega) hj (by omega)]
    split
    · rename_i e; rw [e]
    · omega
  · rw [if_neg hp, if_neg hp, at_set f (i / 2) j _ (by omega) hj (by omega)]
    split
    · rename_i e; rw [e]; omega
    · omega
theorem left_push (hl : f.length = n.arcs.length) (h : InH n i) (d : Int) (hj : InH n j) : leftH n (pushF f i d) j = leftH n f j + (if j = i then -d else 0) + (if j = mateH i then d else 0) := by
  have h1 := h.half
  have h2 := hj.half
  unfold leftH
  rw [pushF_at hl h d h2.1]
  unfold mateH
  by_cases hi : i % 2 = 0 <;> by_cases hjp : j % 2 = 0 <;> by_cases hh : i / 2 = j / 2
  all_goals simp only [hi, hjp, hh, if_true, if_false]
  all_goals (repeat' split) <;> omega
theorem pushF_cap (hl : f.length = n.arcs.length) (hc : CapF n f) (h : InH n i) {d : Int} (h0 : 0 ≤ d) (hd : d ≤ leftH n f i) : CapF n (pushF f i d) := fun k hk => by
  rw [pushF_at hl h d (by omega)]
  have := hc k hk
  unfold leftH at hd
  by_cases hi : i % 2 = 0 <;> by_cases hh : i / 2 = (k : Int)
  all_goals simp only [hi, if_true, if_false] at hd
  all_goals simp only [hi, hh, if_true, if_false]
  all_goals (try rw [hh] at hd)
  all_goals omega
theorem netF_push (hl : f.length = n.arcs.length) (h : InH n i) (d z : Int) : netF n (pushF f i d) z = netF n f z + (if fromH n i = z then d else 0) - (if toH n i = z then d else 0) := by
  have h1 := h.half
  unfold pushF fromH toH
  have e : ((((i / 2).toNat : Nat)) : Int) = i / 2 := by omega
  by_cases hp : i % 2 = 0
  · rw [if_pos hp, if_pos hp, if_pos hp, netF_set (by omega) hl, e]
    split <;> split <;> omega
  · rw [if_neg hp, if_neg hp, if_neg hp, netF_set (by omega) hl, e]
    split <;> split <;> omega
theorem HOk.push (h : HOk n f hs) (hi : InH n i) {d : Int} (h0 : 0 ≤ d) (hd : d ≤ leftH n f i) : HOk n (pushF f i d) (pushHs hs i d) := by
  have hl := h.len
  have hm := hi.mate
  refine ⟨by unfold pushHs; simp; exact h.len, (pushF_len d).trans h.flen, pushF_cap h.flen h.cap hi h0 hd, fun j hj => ?_⟩
  have hne := mate_ne i
  have e1 : at_ (hs.set i.toNat { at_ hs i with left := (at_ hs i).left - d }) (mateH i) = at_ hs (mateH i) := by
    rw [at_set hs i _ _ hi.1 hm.1 (by have := hi.2; omega), if_neg (fun e => hne e.symm)]
  have ej : at_ (pushHs hs i d) j = if mateH i = j then { at_ hs (mateH i) with left := (at_ hs (mateH i)).left + d } else if i = j then { at_ hs i with left := (at_ hs i).left - d } else at_ hs j := by
    unfold pushHs
    rw [at_set _ (mateH i) j _ hm.1 hj.1 (by rw [List.length_set]; have := hm.2; omega), e1, at_set hs i j _ hi.1 hj.1 (by have := hi.2; omega)]
  rw [ej, left_push h.flen hi d hj]
  by_cases a : mateH i = j
  · subst a
    rw [if_pos rfl, if_neg hne, if_pos rfl]
    have := h.get _ hm
    exact ⟨this.1, this.2.1, by show (at_ hs (mateH i)).left + d = _; omega⟩
  · rw [if_neg a, if_neg (show ¬ j = mateH i from fun e => a e.symm)]
    by_cases b : i = j
    · subst b
      rw [if_pos rfl, if_pos rfl]
      have := h.get _ hi
      exact ⟨this.1, this.2.1, by show (at_ hs i).left - d = _; omega⟩
    · rw [if_neg b, if_neg (show ¬ j = i from fun e => b e.symm)]
      have := h.get _ hj
      exact ⟨this.1, this.2.1, by omega⟩

/-! ### What shut means of half arcs -/
theorem shut_half {S : Int → Bool} : Shut n f S ↔ ∀ i, InH n i → S (fromH n i) = true → 0 < leftH n f i → S (toH n i) = true := by
  constructor
  · intro h i hi hs hl
    have h1 := hi.half
    have e : ((((i / 2).toNat : Nat)) : Int) = i / 2 := by omega
    have := h (i / 2).toNat (by omega)
    rw [e] at this
    unfold fromH at hs
    unfold leftH at hl
    unfold toH
    by_cases hp : i % 2 = 0
    · rw [if_pos hp] at *; exact this.1 hs (by omega)
    · rw [if_neg hp] at *; exact this.2 hs hl
  · intro h k hk
    have h1 := h (2 * (k : Int)) (by unfold InH; omega)
    have h2 := h (2 * (k : Int) + 1) (by unfold InH; omega)
    unfold fromH toH leftH at h1 h2
    rw [if_pos (by omega), if_pos (by omega), if_pos (by omega), show (2 * (k : Int)) / 2 = k from by omega] at h1
    rw [if_neg (by omega), if_neg (by omega), if_neg (by omega), show (2 * (k : Int) + 1) / 2 = k from by omega] at h2
    exact ⟨fun a b => h1 a (by omega), h2⟩

/-! ### Ways along the layers -/
/-- From z there is a way to the sink along the levels L, with something left. -/
inductive Adm (n : Net) (f L : List Int) : Int → Prop
  | sink : Adm n f L n.sink
  | step (i : Int) : InH n i → 0 < leftH n f i → at_ L (toH n i) = at_ L (fromH n i) + 1 → Adm n f L (toH n i) → Adm n f L (fromH n i)

/-- Half arcs of a layer have not more left in f' than in f. -/
def Less (n : Net) (L f f' : List Int) : Prop := ∀ i, InH n i → at_ L (toH n i) = at_ L (fromH n i) + 1 → leftH n f' i ≤ leftH n f i
theorem Less.refl (n : Net) (L f : List Int) : Less n L f f := fun _ _ _ => Int.le_refl _
theorem Less.trans {L h : List Int} (a : Less n L f g) (b : Less n L g h) : Less n L f h := fun i hi hl => Int.le_trans (b i hi hl) (a i hi hl)
theorem Adm.less {L f' : List Int} (hl : Less n L f f') {z : Int} (h : Adm n f' L z) : Adm n f L z := by
  induction h with
  | sink => exact .sink
  | step i hi hp hL _ ih => exact .step i hi (by have := hl i hi hL; omega) hL ih

/-- Half arcs that are useless are behind the marks nx. -/
def Dead (n : Net) (rs : List (List Int)) (L f nx : List Int) : Prop := ∀ u, 0 ≤ u → u < n.nodes → ∀ j : Nat, (j : Int) < at_ nx u → j < (at_ rs u).length →
  ¬ (0 < leftH n f (at_ (at_ rs u) (j : Int)) ∧ at_ L (toH n (at_ (at_ rs u) (j : Int))) = at_ L u + 1 ∧ Adm n f L (toH n (at_ (at_ rs u) (j : Int))))
theorem Dead.less {L f' nx : List Int} (hr : ROk n rs) (hl : Less n L f f') (h : Dead n rs L f nx) : Dead n rs L f' nx := fun u h0 h1 j hj hjl ⟨a, b, c⟩ => by
  have hm := hr.all u h0 h1 _ (at_mem (xs := at_ rs u) (i := (j : Int)) (by omega) (by omega))
  refine h u h0 h1 j hj hjl ⟨?_, b, c.less hl⟩
  have := hl _ hm.1 (by rw [hm.2]; exact b)
  omega
theorem Dead.adv {L nx : List Int} {v : Int} (h : Dead n rs L f nx) (hv : 0 ≤ v ∧ v < nx.length) (hx : 0 ≤ at_ nx v)
    (hd : ¬ (0 < leftH n f (at_ (at_ rs v) (at_ nx v)) ∧ at_ L (toH n (at_ (at_ rs v) (at_ nx v))) = at_ L v + 1 ∧ Adm n f L (toH n (at_ (at_ rs v) (at_ nx v))))) : Dead n rs L f (nx.set v.toNat (at_ nx v + 1)) := fun u h0 h1 j hj hjl => by
  rw [at_set nx v u _ hv.1 h0 hv.2] at hj
  by_cases e : v = u
  · subst e
    rw [if_pos rfl] at hj
    by_cases hj' : (j : Int) < at_ nx v
    · exact h v h0 h1 j hj' hjl
    · rw [show (j : Int) = at_ nx v from by omega]; exact hd
  · rw [if_neg e] at hj; exact h u h0 h1 j hj hjl
theorem Dead.not {L nx : List Int} {v : Int} (hr : ROk n rs) (h : Dead n rs L f nx) (hv : 0 ≤ v ∧ v < n.nodes) (hs : v ≠ n.sink) (hx : (at_ rs v).length ≤ at_ nx v) : ¬ Adm n f L v := fun ha => by
  cases ha with
  | sink => exact hs rfl
  | step i hi hp hL hA =>
    obtain ⟨j, hj, e⟩ := mem_at (hr.has i hi)
    refine h _ hv.1 hv.2 j (by omega) hj ?_
    rw [e]; exact ⟨hp, hL, hA⟩

/-- What sending d from v to the sink does. -/
structure PushR (n : Net) (rs : List (List Int)) (L : List Int) (v d : Int) (f nx f' nx' : List Int) : Prop where
  len : f'.length = n.arcs.length
  cap : CapF n f'
  net : ∀ z, netF n f' z = netF n f z + (if v = z then d else 0) - (if n.sink = z then d else 0)
  less : Less n L f f'
  same : ∀ i, InH n i → (at_ L (fromH n i) < at_ L v ∨ at_ L (toH n i) < at_ L v) → leftH n f' i = leftH n f i
  dead : Dead n rs L f' nx'
  nlen : nx'.length = nx.length
  nge : ∀ z, 0 ≤ z → z < n.nodes → 0 ≤ at_ nx' z
  nsame : ∀ z, 0 ≤ z → z < n.nodes → z ≠ v → at_ L z ≤ at_ L v → at_ nx' z = at_ nx z
  zero : d = 0 → f' = f

variable {L nx f' nx' : List Int} {v d : Int}
theorem PushR.start (hl : f.length = n.arcs.length) (hc : CapF n f) (hd : Dead n rs L f nx) (hx : ∀ z, 0 ≤ z → z < n.nodes → 0 ≤ at_ nx z) (v : Int) : PushR n rs L v 0 f nx f nx :=
  ⟨hl, hc, fun z => by simp, Less.refl _ _ _, fun _ _ _ => rfl, hd, rfl, hx, fun _ _ _ _ _ => rfl, fun _ => rfl⟩

/-- The mark moves on. -/
theorem PushR.adv (h : PushR n rs L v d f nx f' nx') (hv : 0 ≤ v ∧ v < nx'.length)
    (hd : ¬ (0 < leftH n f' (at_ (at_ rs v) (at_ nx' v)) ∧ at_ L (toH n (at_ (at_ rs v) (at_ nx' v))) = at_ L v + 1 ∧ Adm n f' L (toH n (at_ (at_ rs v) (at_ nx' v))))) (hn : v < n.nodes) : PushR n rs L v d f nx f' (nx'.set v.toNat (at_ nx' v + 1)) :=
  ⟨h.len, h.cap, h.net, h.less, h.same, h.dead.adv hv (h.nge v hv.1 hn) hd, by rw [List.length_set]; exact h.nlen, fun z h0 h1 => by
    rw [at_set nx' v z _ hv.1 h0 hv.2]
    have := h.nge v hv.1 hn
    have := h.nge z h0 h1
    split <;> omega, fun z h0 h1 hz hL => by
    rw [at_set nx' v z _ hv.1 h0 hv.2, if_neg (fun e => hz e.symm)]; exact h.nsame z h0 h1 hz hL, h.zero⟩

theorem pushF_zero (hl : f.length = n.arcs.length) (hi : InH n i) : pushF f i 0 = f := by
  have h1 := hi.half
  have e : ∀ x : Int, x = at_ f (i / 2) → f.set (i / 2).toNat x = f := fun x hx => by
    subst hx
    rw [at_eq (by omega) (by omega)]
    exact List.set_getElem_self _
  unfold pushF
  split
  · exact e _ (by omega)
  · exact e _ (by omega)

/-- Sending further, from half arc i on, and over it. -/
theorem PushR.put (hok : n.Ok) (hr : ROk n rs) {i e : Int} {g ng : List Int} (h : PushR n rs L v d f nx f' nx') (hi : InH n i) (hf : fromH n i = v) (hL : at_ L (toH n i) = at_ L v + 1)
    (h0 : 0 ≤ d) (he : 0 ≤ e) (hle : e ≤ leftH n f' i) (h2 : PushR n rs L (toH n i) e f' nx' g ng) : PushR n rs L v (d + e) f nx (pushF g i e) ng ∧ at_ ng v = at_ nx' v ∧ leftH n g i = leftH n f' i := by
  have hfo := from_ok hok hi
  have hs : leftH n g i = leftH n f' i := h2.same i hi (.inl (by rw [hf]; omega))
  have hless : Less n L g (pushF g i e) := fun j hj hLj => by
    rw [left_push h2.len hi e hj]
    by_cases a : j = mateH i
    · subst a
      rw [to_mate, from_mate, hf] at hLj
      omega
    · rw [if_neg a]; split <;> omega
  refine ⟨⟨(pushF_len e).trans h2.len, pushF_cap h2.len h2.cap hi he (by omega), fun z => ?_, (h.less.trans h2.less).trans hless, fun j hj hjL => ?_, h2.dead.less hr hless, h2.nlen.trans h.nlen, h2.nge, fun z hz0 hz1 hz hzL => ?_, fun hde => ?_⟩, h2.nsame v (by omega) (by omega) (by omega) (by omega), hs⟩
  · rw [netF_push h2.len hi, h2.net, h.net, hf]
    repeat' split
    all_goals omega
  · have h3 : leftH n g j = leftH n f' j := h2.same j hj (by omega)
    rw [left_push h2.len hi e hj, h3, h.same j hj hjL]
    have a1 : j ≠ i := fun e => by subst e; rw [hf] at hjL; omega
    have a2 : j ≠ mateH i := fun e => by subst e; rw [to_mate, from_mate, hf] at hjL; omega
    rw [if_neg a1, if_neg a2]; omega
  · rw [h2.nsame z hz0 hz1 (fun e => by subst e; omega) (by omega), h.nsame z hz0 hz1 hz hzL]
  · have e0 : e = 0 := by omega
    have d0 : d = 0 := by omega
    subst e0
    rw [pushF_zero h2.len hi, h2.zero rfl, h.zero d0]

/-- Behind it the half arc is of no more use. -/
theorem PushR.used {i e m : Int} {g : List Int} (hi : InH n i) (hm : e < m ∨ leftH n g i = e) (hq : e < m → ¬ Adm n g L (toH n i)) (hg : g.length = n.arcs.length) (he : 0 ≤ e) (hL : at_ L (toH n i) = at_ L (fromH n i) + 1) : ¬ (0 < leftH n (pushF g i e) i ∧ at_ L (toH n i) = at_ L (fromH n i) + 1 ∧ Adm n (pushF g i e) L (toH n i)) := fun ⟨a, _, c⟩ => by
  have hless : Less n L g (pushF g i e) := fun j hj hLj => by
    rw [left_push hg hi e hj]
    by_cases a : j = mateH i
    · subst a
      rw [to_mate, from_mate] at hLj
      omega
    · rw [if_neg a]; split <;> omega
  rcases hm with hm | hm
  · exact hq hm (c.less hless)
  · rw [left_push hg hi e hi, if_pos rfl, if_neg (fun e => mate_ne i e.symm)] at a
    omega

/-! ### The layers -/
structure LvOk (n : Net) (f L : List Int) : Prop where
  len : (L.length : Int) = n.nodes
  src : at_ L n.source = 0
  low : ∀ z, 0 ≤ z → z < n.nodes → -1 ≤ at_ L z ∧ at_ L z < n.nodes
  clos : ∀ i, InH n i → 0 ≤ at_ L (fromH n i) → 0 < leftH n f i → 0 ≤ at_ L (toH n i)
  par : ∀ z, 0 ≤ z → z < n.nodes → 0 ≤ at_ L z → z ≠ n.source → ∃ i, InH n i ∧ toH n i = z ∧ 0 < leftH n f i ∧ 0 ≤ at_ L (fromH n i) ∧ at_ L z = at_ L (fromH n i) + 1

theorem LvOk.adm (hok : n.Ok) (h : LvOk n f L) {z : Int} (hz : Adm n f L z) : ∀ m : Nat, 0 ≤ z → z < n.nodes → at_ L z = m → Adm n f L n.source := fun m => by
  induction m generalizing z with
  | zero =>
    intro h0 h1 hm
    by_cases hs : z = n.source
    · subst hs; exact hz
    · obtain ⟨i, hi, he, hl, hf, hq⟩ := h.par z h0 h1 (by omega) hs
      omega
  | succ m ih =>
    intro h0 h1 hm
    by_cases hs : z = n.source
    · subst hs; exact hz
    · obtain ⟨i, hi, he, hl, hf, hq⟩ := h.par z h0 h1 (by omega) hs
      have hfo := from_ok hok hi
      subst he
      exact ih (.step i hi hl hq hz) hfo.1.1 hfo.1.2 (by omega)
theorem LvOk.go (hok : n.Ok) (h : LvOk n f L) (hs : 0 ≤ at_ L n.sink) : Adm n f L n.source :=
  h.adm hok .sink (at_ L n.sink).toNat hok.snk.1 hok.snk.2 (by omega)
theorem LvOk.end (hok : n.Ok) (h : LvOk n f L) (hs : ¬ 0 ≤ at_ L n.sink) : ∃ S : Int → Bool, Shut n f S ∧ S n.source = true ∧ S n.sink = false :=
  ⟨fun z => decide (0 ≤ at_ L z), shut_half.2 fun i hi a b => decide_eq_true (h.clos i hi (of_decide_eq_true a) b), decide_eq_true (by rw [h.src]; omega), decide_eq_false hs⟩

/-- A round of greatest. -/
theorem PushR.flow (hok : n.Ok) (hf : IsFlow n f) (h : PushR n rs L n.source d f nx f' nx') : IsFlow n f' ∧ netF n f' n.source = netF n f n.source + d := by
  have hne := hok.ne
  refine ⟨⟨h.len, h.cap, fun v h0 h1 hs ht => ?_⟩, ?_⟩
  · rw [h.net v, if_neg (fun e => hs e.symm), if_neg (fun e => ht e.symm), hf.cons v h0 h1 hs ht]; rfl
  · rw [h.net, if_pos rfl, if_neg (fun e => hne e.symm)]; omega
end

/-- The state of the search by layers: todo waits; of node x the first q of its half arcs have been looked at. -/
structure LI (n : Net) (f : List Int) (rs : List (List Int)) (L todo : List Int) (x : Int) (q : Nat) : Prop where
  len : (L.length : Int) = n.nodes
  src : at_ L n.source = 0
  low : ∀ z, 0 ≤ z → z < n.nodes → -1 ≤ at_ L z ∧ at_ L z + un L < n.nodes
  wait : ∀ z ∈ todo, (0 ≤ z ∧ z < n.nodes) ∧ 0 ≤ at_ L z
  clos : ∀ z, 0 ≤ z → z < n.nodes → 0 ≤ at_ L z → z ∉ todo → ∀ j : Nat, j < (at_ rs z).length → (z = x → j < q) → 0 < leftH n f (at_ (at_ rs z) (j : Int)) → 0 ≤ at_ L (toH n (at_ (at_ rs z) (j : Int)))
  par : ∀ z, 0 ≤ z → z < n.nodes → 0 ≤ at_ L z → z ≠ n.source → ∃ i, InH n i ∧ toH n i = z ∧ 0 < leftH n f i ∧ 0 ≤ at_ L (fromH n i) ∧ at_ L z = at_ L (fromH n i) + 1
  cur : 0 ≤ x → x < n.nodes ∧ 0 ≤ at_ L x

section
variable {n : Net} {f L todo : List Int} {rs : List (List Int)} {x : Int} {q : Nat}

theorem LI.put (hok : n.Ok) (h : LI n f rs L todo x q) (hx : 0 ≤ x) {i : Int} (hi : InH n i) (hf : fromH n i = x) (hl : 0 < leftH n f i) (hn : at_ L (toH n i) < 0) :
    LI n f rs (L.set (toH n i).toNat (at_ L x + 1)) (todo ++ [toH n i]) x q ∧ un (L.set (toH n i).toNat (at_ L x + 1)) + 1 = un L := by
  have hfo := from_ok hok hi
  have hlen := h.len
  have hc : (0 ≤ x ∧ x < n.nodes) ∧ 0 ≤ at_ L x := ⟨⟨hx, (h.cur hx).1⟩, (h.cur hx).2⟩
  have hlo := h.low _ hfo.2.1.1 hfo.2.1.2
  have hlx := h.low _ hc.1.1 hc.1.2
  have hu := un_set (out := L) (y := toH n i) (i := at_ L x + 1) (by omega) (by omega) (by omega)
  generalize hy : toH n i = y at *
  have hat : ∀ z, 0 ≤ z → at_ (L.set y.toNat (at_ L x + 1)) z = if y = z then at_ L x + 1 else at_ L z := fun z hz => at_set L y z _ hfo.2.1.1 hz (by omega)
  have hge : ∀ z, 0 ≤ z → 0 ≤ at_ L z → 0 ≤ at_ (L.set y.toNat (at_ L x + 1)) z := fun z hz hp => by rw [hat z hz]; split <;> omega
  refine ⟨⟨by rw [List.length_set]; exact h.len, ?_, fun z h0 h1 => ?_, fun z hz => ?_, fun z h0 h1 hz hzt j hj hjq hjl => ?_, fun z h0 h1 hz hs => ?_, fun _ => ⟨hc.1.2, hge x hc.1.1 hc.2⟩⟩, hu⟩
  · have := hok.src
    rw [hat _ this.1, if_neg (fun e => by subst e; have := h.src; omega)]; exact h.src
  · have hz := h.low z h0 h1
    rw [hat z h0]
    split <;> omega
  · rcases List.mem_append.1 hz with hz | hz
    · have := h.wait z hz
      exact ⟨this.1, hge z this.1.1 this.2⟩
    · rw [List.mem_singleton.1 hz]
      exact ⟨hfo.2.1, by rw [hat y hfo.2.1.1, if_pos rfl]; omega⟩
  · have hzy : y ≠ z := fun e => hzt (List.mem_append_right _ (List.mem_singleton.2 e.symm))
    rw [hat z h0, if_neg hzy] at hz
    have := h.clos z h0 h1 hz (fun hm => hzt (List.mem_append_left _ hm)) j hj hjq hjl
    generalize toH n (at_ (at_ rs z) (j : Int)) = t at this ⊢
    by_cases hneg : 0 ≤ t
    · exact hge _ hneg this
    · have e0 : ∀ M : List Int, at_ M t = at_ M 0 := fun M => by unfold at_; rw [show t.toNat = (0 : Int).toNat from by omega]
      rw [e0] at this ⊢; exact hge 0 (by omega) (by omega)
  · rw [hat z h0] at hz ⊢
    by_cases hzy : y = z
    · rw [if_pos hzy]
      have hxy : y ≠ x := fun e => by subst e; omega
      exact ⟨i, hi, hy.trans hzy, hl, by rw [hf]; exact hge x hc.1.1 hc.2, by rw [hf, hat x hc.1.1, if_neg hxy]⟩
    · rw [if_neg hzy] at hz ⊢
      obtain ⟨k, hk, he, hkl, hkf, hkq⟩ := h.par z h0 h1 hz hs
      have hko := from_ok hok hk
      have hky : y ≠ fromH n k := fun e => by rw [← e] at hkf; omega
      exact ⟨k, hk, he, hkl, hge _ hko.1.1 hkf, by rw [hat _ hko.1.1, if_neg hky]; exact hkq⟩

theorem LI.inc (h : LI n f rs L todo x q) (hd : 0 < leftH n f (at_ (at_ rs x) (q : Int)) → 0 ≤ at_ L (toH n (at_ (at_ rs x) (q : Int)))) : LI n f rs L todo x (q + 1) :=
  ⟨h.len, h.src, h.low, h.wait, fun z h0 h1 hz hzt j hj hjq hjl => by
    by_cases e : z = x ∧ j = q
    · obtain ⟨rfl, rfl⟩ := e; exact hd hjl
    · exact h.clos z h0 h1 hz hzt j hj (fun ez => by have := hjq ez; have : j ≠ q := fun ej => e ⟨ez, ej⟩; omega) hjl, h.par, h.cur⟩
/-- The node at the head of what waits is taken. -/
theorem LI.next (h : LI n f rs L todo (-1) 0) (ht : 0 < todo.length) : LI n f rs L (todo.drop 1) (at_ todo 0) 0 := by
  obtain ⟨x, t, rfl⟩ : ∃ x t, todo = x :: t := by cases todo with
    | nil => simp at ht
    | cons x t => exact ⟨x, t, rfl⟩
  show LI n f rs L t x 0
  refine ⟨h.len, h.src, h.low, fun z hz => h.wait z (List.mem_cons_of_mem _ hz), fun z h0 h1 hz hzt j hj hjq hjl => ?_, h.par, fun _ => ?_⟩
  · by_cases e : z = x
    · have := hjq e; omega
    · have hzm : z ∉ x :: t := fun hm => by
        rcases List.mem_cons.1 hm with hm | hm
        · exact e hm
        · exact hzt hm
      exact h.clos z h0 h1 hz hzm j hj (fun ez => by omega) hjl
  · have := h.wait x List.mem_cons_self
    exact ⟨this.1.2, this.2⟩
theorem LI.over (h : LI n f rs L todo x q) (hq : (at_ rs x).length ≤ q) : LI n f rs L todo (-1) 0 :=
  ⟨h.len, h.src, h.low, h.wait, fun z h0 h1 hz hzt j hj _ hjl => h.clos z h0 h1 hz hzt j hj (fun e => by subst e; omega) hjl, h.par, fun h => by omega⟩
theorem LI.done (hok : n.Ok) (hr : ROk n rs) (h : LI n f rs L todo (-1) 0) (ht : ¬ 0 < todo.length) : LvOk n f L := by
  obtain rfl : todo = [] := List.eq_nil_of_length_eq_zero (by omega)
  exact ⟨h.len, h.src, fun z h0 h1 => by have := h.low z h0 h1; omega, fun i hi hf hl => by
    have hfo := from_ok hok hi
    obtain ⟨j, hj, e⟩ := mem_at (hr.has i hi)
    have := h.clos _ hfo.1.1 hfo.1.2 hf (by simp) j hj (fun e => by omega) (by rw [e]; exact hl)
    rwa [e] at this, h.par⟩
theorem LI.start (hok : n.Ok) {L0 : List Int} (hl : (L0.length : Int) = n.nodes) (h0 : ∀ j : Nat, j < L0.length → at_ L0 (j : Int) = -1) : LI n f rs (L0.set n.source.toNat 0) [n.source] (-1) 0 ∧ un (L0.set n.source.toNat 0) + 1 = n.nodes.toNat := by
  have hs := hok.src
  have h0' : ∀ z : Int, 0 ≤ z → z < n.nodes → at_ L0 z = -1 := fun z a b => at_all (p := fun z => at_ L0 z = -1) h0 a (by omega)
  have hat : ∀ z, 0 ≤ z → at_ (L0.set n.source.toNat 0) z = if n.source = z then 0 else at_ L0 z := fun z hz => at_set L0 _ z _ hs.1 hz (by omega)
  have hu := un_set (out := L0) (y := n.source) (i := 0) (by omega) (h0' _ hs.1 hs.2) (by omega)
  have hu0 : un L0 = n.nodes.toNat := by
    have e := eq_rep h0
    unfold un
    rw [e, List.count_replicate_self]; omega
  refine ⟨⟨by rw [List.length_set]; exact hl, by rw [hat _ hs.1, if_pos rfl], fun z a b => ?_, fun z hz => ?_, fun z a b hz hzt => ?_, fun z a b hz hne => ?_, fun h => by omega⟩, by omega⟩
  · rw [hat z a, h0' z a b]; split <;> omega
  · rw [List.mem_singleton.1 hz]; exact ⟨hs, by rw [hat _ hs.1, if_pos rfl]; omega⟩
  · exfalso
    have : n.source ≠ z := fun e => hzt (by rw [e]; exact List.mem_singleton.2 rfl)
    rw [hat z a, if_neg this, h0' z a b] at hz; omega
  · exfalso
    rw [hat z a, if_neg (fun e => hne e.symm), h0' z a b] at hz; omega
end
theorem at_zero_append {α : Type} [Inhabited α] {w : List α} {y : List α} (h : 0 < w.length) : at_ (w ++ y) 0 = at_ w 0 := by
  cases w with
  | nil => simp at h
  | cons x t => rfl
theorem drop_one_append {α : Type} {w y : List α} (h : 0 < w.length) : (w ++ y).drop 1 = w.drop 1 ++ y := by
  cases w with
  | nil => simp at h
  | cons x t => rfl

/-! ### What is reached -/
/-- What can go over half arc i in the direction of the search. -/
def goH (n : Net) (f : List Int) (ag : Bool) (i : Int) : Int := if ag then leftH n f (mateH i) else leftH n f i
def ShutG (n : Net) (f : List Int) (ag : Bool) (S : Int → Bool) : Prop := ∀ i, InH n i → S (fromH n i) = true → 0 < goH n f ag i → S (toH n i) = true

/-- The state of the search: todo waits; of node x the first q of its half arcs have been looked at. -/
structure RI (n : Net) (f : List Int) (ag : Bool) (v : Int) (rs : List (List Int)) (seen : List Bool) (todo : List Int) (x : Int) (q : Nat) : Prop where
  len : (seen.length : Int) = n.nodes
  src : at_ seen v = true
  wait : ∀ z ∈ todo, (0 ≤ z ∧ z < n.nodes) ∧ at_ seen z = true
  clos : ∀ z, 0 ≤ z → z < n.nodes → at_ seen z = true → z ∉ todo → ∀ j : Nat, j < (at_ rs z).length → (z = x → j < q) → 0 < goH n f ag (at_ (at_ rs z) (j : Int)) → at_ seen (toH n (at_ (at_ rs z) (j : Int))) = true
  sound : ∀ S : Int → Bool, ShutG n f ag S → S v = true → ∀ z, 0 ≤ z → z < n.nodes → at_ seen z = true → S z = true
  cur : 0 ≤ x → x < n.nodes ∧ at_ seen x = true

def unB (l : List Bool) : Nat := l.count false
theorem unB_set {l : List Bool} {y : Int} (hy : 0 ≤ y ∧ y < l.length) (h : at_ l y = false) : unB (l.set y.toNat true) + 1 = unB l := by
  unfold unB
  have hl : y.toNat < l.length := by omega
  have hg : l[y.toNat] = false := by rw [at_eq hy.1 hy.2] at h; exact h
  rw [List.count_set hl]
  have hpos : 0 < l.count false := List.count_pos_iff.2 (hg ▸ List.getElem_mem hl)
  have e1 : (l[y.toNat] == false) = true := by simp [hg]
  have e2 : (true == false) = false := rfl
  rw [e1, e2]
  simp only [if_true, Bool.false_eq_true, if_false]
  omega

section
variable {n : Net} {f todo : List Int} {ag : Bool} {v : Int} {seen : List Bool} {rs : List (List Int)} {x : Int} {q : Nat}
theorem RI.put (hok : n.Ok) (h : RI n f ag v rs seen todo x q) (hx : 0 ≤ x) (hv : 0 ≤ v) {i : Int} (hi : InH n i) (hf : fromH n i = x) (hl : 0 < goH n f ag i) (hn : at_ seen (toH n i) = false) :
    RI n f ag v rs (seen.set (toH n i).toNat true) (todo ++ [toH n i]) x q ∧ unB (seen.set (toH n i).toNat true) + 1 = unB seen := by
  have hfo := from_ok hok hi
  have hlen := h.len
  have hc := h.cur hx
  have hu := unB_set (l := seen) (y := toH n i) (by omega) hn
  have hti : ∀ S : Int → Bool, ShutG n f ag S → S x = true → S (toH n i) = true := fun S hS hs => hS i hi (by rw [hf]; exact hs) hl
  generalize hy : toH n i = y at *
  have hat : ∀ z, 0 ≤ z → at_ (seen.set y.toNat true) z = if y = z then true else at_ seen z := fun z hz => at_set seen y z _ hfo.2.1.1 hz (by omega)
  have hge : ∀ z, 0 ≤ z → at_ seen z = true → at_ (seen.set y.toNat true) z = true := fun z hz hp => by rw [hat z hz]; split <;> first | rfl | exact hp
  refine ⟨⟨by rw [List.length_set]; exact h.len, hge v hv h.src, fun z hz => ?_, fun z h0 h1 hz hzt j hj hjq hjl => ?_, fun S hS hs z h0 h1 hz => ?_, fun _ => ⟨hc.1, hge x hx hc.2⟩⟩, hu⟩
  · rcases List.mem_append.1 hz with hz | hz
    · have := h.wait z hz
      exact ⟨this.1, hge z this.1.1 this.2⟩
    · rw [List.mem_singleton.1 hz]
      exact ⟨hfo.2.1, by rw [hat y hfo.2.1.1, if_pos rfl]⟩
  · have hzy : y ≠ z := fun e => hzt (List.mem_append_right _ (List.mem_singleton.2 e.symm))
    rw [hat z h0, if_neg hzy] at hz
    have := h.clos z h0 h1 hz (fun hm => hzt (List.mem_append_left _ hm)) j hj hjq hjl
    generalize toH n (at_ (at_ rs z) (j : Int)) = t at this ⊢
    by_cases hneg : 0 ≤ t
    · exact hge _ hneg this
    · have e0 : ∀ M : List Bool, at_ M t = at_ M 0 := fun M => by unfold at_; rw [show t.toNat = (0 : Int).toNat from by omega]
      rw [e0] at this ⊢; exact hge 0 (by omega) (by omega)
  · rw [hat z h0] at hz
    by_cases hzy : y = z
    · subst hzy
      exact hti S hS (h.sound S hS hs x hx hc.1 hc.2)
    · rw [if_neg hzy] at hz
      exact h.sound S hS hs z h0 h1 hz
theorem RI.inc (h : RI n f ag v rs seen todo x q) (hd : 0 < goH n f ag (at_ (at_ rs x) (q : Int)) → at_ seen (toH n (at_ (at_ rs x) (q : Int))) = true) : RI n f ag v rs seen todo x (q + 1) :=
  ⟨h.len, h.src, h.wait, fun z h0 h1 hz hzt j hj hjq hjl => by
    by_cases e : z = x ∧ j = q
    · obtain ⟨rfl, rfl⟩ := e; exact hd hjl
    · exact h.clos z h0 h1 hz hzt j hj (fun ez => by have := hjq ez; have : j ≠ q := fun ej => e ⟨ez, ej⟩; omega) hjl, h.sound, h.cur⟩
theorem RI.next (h : RI n f ag v rs seen todo (-1) 0) (ht : 0 < todo.length) : RI n f ag v rs seen (todo.drop 1) (at_ todo 0) 0 := by
  obtain ⟨x, t, rfl⟩ : ∃ x t, todo = x :: t := by cases todo with
    | nil => simp at ht
    | cons x t => exact ⟨x, t, rfl⟩
  show RI n f ag v rs seen t x 0
  refine ⟨h.len, h.src, fun z hz => h.wait z (List.mem_cons_of_mem _ hz), fun z h0 h1 hz hzt j hj hjq hjl => ?_, h.sound, fun _ => ?_⟩
  · by_cases e : z = x
    · have := hjq e; omega
    · have hzm : z ∉ x :: t := fun hm => by
        rcases List.mem_cons.1 hm with hm | hm
        · exact e hm
        · exact hzt hm
      exact h.clos z h0 h1 hz hzm j hj (fun ez => by omega) hjl
  · have := h.wait x List.mem_cons_self
    exact ⟨this.1.2, this.2⟩
theorem RI.over (h : RI n f ag v rs seen todo x q) (hq : (at_ rs x).length ≤ q) : RI n f ag v rs seen todo (-1) 0 :=
  ⟨h.len, h.src, h.wait, fun z h0 h1 hz hzt j hj _ hjl => h.clos z h0 h1 hz hzt j hj (fun e => by subst e; omega) hjl, h.sound, fun h => by omega⟩
theorem RI.start (hv : 0 ≤ v ∧ v < n.nodes) {s0 : List Bool} (hl : (s0.length : Int) = n.nodes) (h0 : ∀ z : Int, 0 ≤ z → z < n.nodes → at_ s0 z = false) : RI n f ag v rs (s0.set v.toNat true) [v] (-1) 0 := by
  have hat : ∀ z, 0 ≤ z → at_ (s0.set v.toNat true) z = if v = z then true else at_ s0 z := fun z hz => at_set s0 _ z _ hv.1 hz (by omega)
  refine ⟨by rw [List.length_set]; exact hl, by rw [hat _ hv.1, if_pos rfl], fun z hz => ?_, fun z a b hz hzt => ?_, fun S hS hs z a b hz => ?_, fun h => by omega⟩
  · rw [List.mem_singleton.1 hz]; exact ⟨hv, by rw [hat _ hv.1, if_pos rfl]⟩
  · exfalso
    have : v ≠ z := fun e => hzt (by rw [e]; exact List.mem_singleton.2 rfl)
    rw [hat z a, if_neg this, h0 z a b] at hz; cases hz
  · by_cases e : v = z
    · subst e; exact hs
    · rw [hat z a, if_neg e, h0 z a b] at hz; cases hz
/-- What the search ends with. -/
structure Seen (n : Net) (f : List Int) (ag : Bool) (v : Int) (seen : List Bool) : Prop where
  len : (seen.length : Int) = n.nodes
  src : at_ seen v = true
  shut : ShutG n f ag fun z => at_ seen z
  sound : ∀ S : Int → Bool, ShutG n f ag S → S v = true → ∀ z, 0 ≤ z → z < n.nodes → at_ seen z = true → S z = true
theorem RI.done (hok : n.Ok) (hr : ROk n rs) (h : RI n f ag v rs seen todo (-1) 0) (ht : ¬ 0 < todo.length) : Seen n f ag v seen := by
  obtain rfl : todo = [] := List.eq_nil_of_length_eq_zero (by omega)
  exact ⟨h.len, h.src, fun i hi hf hl => by
    have hfo := from_ok hok hi
    obtain ⟨j, hj, e⟩ := mem_at (hr.has i hi)
    have := h.clos _ hfo.1.1 hfo.1.2 hf (by simp) j hj (fun e => by omega) (by rw [e]; exact hl)
    rwa [e] at this, h.sound⟩

/-- A flow to which nothing can be added. -/
structure Full (n : Net) (f : List Int) (val : Int) : Prop where
  flow : IsFlow n f
  val : val = netF n f n.source
  ends : ∃ S : Int → Bool, Shut n f S ∧ S n.source = true ∧ S n.sink = false

theorem shutG_fwd {S : Int → Bool} : ShutG n f false S ↔ Shut n f S := by rw [shut_half]; rfl
theorem shutG_bwd {S : Int → Bool} : ShutG n f true (fun z => !S z) ↔ Shut n f S := by
  rw [shut_half]
  constructor
  · intro h i hi a b
    have h0 : (!S (fromH n (mateH i))) = true → 0 < goH n f true (mateH i) → (!S (toH n (mateH i))) = true := h (mateH i) hi.mate
    rw [from_mate, to_mate] at h0
    unfold goH at h0
    rw [mate_mate, if_pos rfl] at h0
    cases hs : S (toH n i)
    · have h1 := h0 (by rw [hs]; rfl) b
      rw [a] at h1; cases h1
    · rfl
  · intro h i hi a b
    unfold goH at b
    rw [if_pos rfl] at b
    have a' : (!S (fromH n i)) = true := a
    have h0 := h (mateH i) hi.mate
    rw [from_mate, to_mate] at h0
    show (!S (toH n i)) = true
    cases hs : S (toH n i)
    · rfl
    · have h1 := h0 hs b
      rw [h1] at a'; cases a'

theorem Seen.least (hok : n.Ok) {val : Int} (hf : Full n f val) (h : Seen n f false n.source seen) : Least n f fun z => decide (0 ≤ z ∧ z < n.nodes) && at_ seen z := by
  have hs := hok.src
  have ht := hok.snk
  refine ⟨by simp [hs, h.src], ?_, shut_half.2 fun i hi a b => ?_, fun S hS hv z hz => ?_⟩
  · obtain ⟨S, h1, h2, h3⟩ := hf.ends
    cases e : at_ seen n.sink
    · simp
    · have := h.sound S (shutG_fwd.2 h1) h2 _ ht.1 ht.2 e
      rw [h3] at this; cases this
  · have hfo := from_ok hok hi
    simp only [Bool.and_eq_true, decide_eq_true_iff] at a ⊢
    exact ⟨hfo.2.1, h.shut i hi a.2 b⟩
  · simp only [Bool.and_eq_true, decide_eq_true_iff] at hz
    exact h.sound S (shutG_fwd.2 hS) hv z hz.1.1 hz.1.2 hz.2
theorem Seen.great (hok : n.Ok) {val : Int} (hf : Full n f val) (h : Seen n f true n.sink seen) : Great n f fun z => !at_ seen z := by
  have hs := hok.src
  have ht := hok.snk
  refine ⟨?_, by rw [h.src]; rfl, ?_, fun S hS hv z h0 h1 hz => ?_⟩
  · obtain ⟨S, h1, h2, h3⟩ := hf.ends
    cases e : at_ seen n.source
    · rfl
    · have := h.sound (fun z => !S z) (shutG_bwd.2 h1) (by rw [h3]; rfl) _ hs.1 hs.2 e
      rw [h2] at this; cases this
  · refine shutG_bwd.1 ?_
    have e : (fun z => !!at_ seen z) = fun z => at_ seen z := by funext z; simp
    rw [e]; exact h.shut
  · cases e : at_ seen z
    · rfl
    · have := h.sound (fun z => !S z) (shutG_bwd.2 hS) (by rw [hv]; rfl) z h0 h1 e
      rw [hz] at this; cases this
end
end Go.Sl
namespace Go.Sl
theorem nat_xor_one (n : Nat) : n ^^^ 1 = if n % 2 = 0 then n + 1 else n - 1 := by
  have h1 : (n ^^^ 1) / 2 = n / 2 := by rw [Nat.xor_div_two]; simp
  have h2 : (n ^^^ 1) % 2 = 1 ↔ ¬ (n % 2 = 1 ↔ 1 % 2 = 1) := Nat.xor_mod_two_eq_one
  split <;> omega
theorem xor_mate {i : Int} (h0 : 0 ≤ i) (h1 : i < 4611686018427387904) : bits .xor .i64 i 1 = mateH i := by
  obtain ⟨n, rfl⟩ : ∃ n : Nat, i = (n : Int) := ⟨i.toNat, by omega⟩
  have e : (BitVec.ofInt 64 (n : Int) ^^^ BitVec.ofInt 64 1).toNat = n ^^^ 1 := by
    rw [BitVec.toNat_xor, BitVec.toNat_ofInt, BitVec.toNat_ofInt]
    congr 1
    omega
  have e2 : bits .xor .i64 (n : Int) 1 = IntKind.i64.wrap (((n ^^^ 1 : Nat)) : Int) := by
    unfold bits
    show IntKind.i64.wrap ((BitVec.ofInt 64 (n : Int) ^^^ BitVec.ofInt 64 1).toNat : Int) = _
    rw [e]
  rw [e2, nat_xor_one]
  unfold mateH
  split <;> split <;> rw [IntKind.wrap_i64] <;> omega
end Go.Sl
namespace Go.Sl
open Go.Proofs
set_option linter.unusedVariables false
set_option linter.unusedSimpArgs false
set_option maxRecDepth 4000
theorem Way_ok {κ : Ctx} {I : List Item} {n : Net} {f : List Int} {v u : Value} (hl : Sl κ I v n.arcs) (hu : Sl κ I u f) (hok : n.Ok) (hfl : f.length = n.arcs.length) :
    CallS Tryd.prog κ 128 [.agg #[I64 (n.nodes), I64 (n.source), I64 (n.sink), v], u] I (fun r J => ∃ a c out, r = .slice a out.length c ∧ WaySpec n f out ∧ J = vc 3 (.slice a out.length c) out :: I) := by
 have hlim := hok.lim
 have hsrc := hok.src
 refine CallS.enter (L := [(0, .agg #[I64 (n.nodes), I64 (n.source), I64 (n.sink), v]), (1, u)]) Tryd.func128 rfl rfl rfl rfl ?_
 refine W.sr ?_
 refine G.e (Eff.box (cs := [_, _, _, _]) rfl rfl rfl) ?_
 rintro _ _ ⟨b1, rfl, rfl⟩
 refine G.r (Runs.assign rfl) ?_
 refine G.nt ?_
 refine W.sr ?_
 refine G.r (Runs.fieldAddr fld124_0 rfl) ?_
 refine G.r (Runs.ld ty3) ?_
 refine G.e (Eff.make (α := Int) (n := n.nodes.toNat) Tryd.underlying22 ty3 rfl rfl rfl (by omega) (by omega) (by decide) rfl) ?_
 rintro _ _ ⟨ad2, cp3, rfl, rfl⟩
 refine G.r (Runs.assign rfl) ?_
 refine G.nt ?_
 refine W.seq ?_
 refine W.sr ?_
 refine G.r (Runs.move rfl) ?_
 refine G.r (Runs.lens Tryd.underlying22 rfl) ?_
 refine G.r (Runs.move rfl) ?_
 refine G.nt ?_
 refine W.block ?_
 refine W.loop (σ := Nat × (List Int)) (fun s => ([(1, u), (2, .pointer (some ⟨b1, 0, none⟩)), (5, .slice ad2 (List.replicate n.nodes.toNat (default : Int)).length cp3), (15, I64 ((((List.replicate n.nodes.toNat (default : Int)).length : Nat) : Int))), (16, I64 (((s.1 : Nat) : Int)))] : Env)) (fun s => vc 3 (.slice ad2 (List.replicate n.nodes.toNat (default : Int)).length cp3) (s.2) :: blk b1 [I64 (n.nodes), I64 (n.source), I64 (n.sink), v] 124 :: I) (fun s => (s.1 ≤ n.nodes.toNat) ∧ (s.2.length = n.nodes.toNat) ∧ (∀ j, j < s.1 → at_ s.2 (j : Int) = -1)) (fun s => n.nodes.toNat - s.1) (0, List.replicate n.nodes.toNat (default : Int)) (show ((0 : Nat) ≤ n.nodes.toNat) ∧ ((List.replicate n.nodes.toNat (default : Int) : List Int).length = n.nodes.toNat) ∧ (∀ j, j < (0 : Nat) → at_ (List.replicate n.nodes.toNat (default : Int) : List Int) (j : Int) = -1) from ⟨(by omega), (by simp), all_zero⟩) (Sub.cons rfl (Sub.cons rfl (Sub.cons rfl (Sub.cons rfl (Sub.cons lookO Sub.nil))))) (show Fit κ _ (vc 3 (.slice ad2 (List.replicate n.nodes.toNat (default : Int)).length cp3) ((List.replicate n.nodes.toNat (default : Int))) :: blk b1 [I64 (n.nodes), I64 (n.source), I64 (n.sink), v] 124 :: I) from Fit.sub) ?_
 rintro ⟨k, out⟩ hp
 obtain ⟨hk, hol, ho⟩ : (k ≤ n.nodes.toNat) ∧ (out.length = n.nodes.toNat) ∧ (∀ j, j < k → at_ out (j : Int) = -1) := hp
 show W Tryd.prog κ 112 _ _ ([(1, u), (2, .pointer (some ⟨b1, 0, none⟩)), (5, .slice ad2 (List.replicate n.nodes.toNat (default : Int)).length cp3), (15, I64 ((((List.replicate n.nodes.toNat (default : Int)).length : Nat) : Int))), (16, I64 (((k : Nat) : Int)))] : Env) (vc 3 (.slice ad2 (List.replicate n.nodes.toNat (default : Int)).length cp3) (out) :: blk b1 [I64 (n.nodes), I64 (n.source), I64 (n.sink), v] 124 :: I)
 have hrl : (List.replicate n.nodes.toNat (default : Int)).length = n.nodes.toNat := List.length_replicate
 refine W.sr ?_
 refine G.r (Runs.lss rfl rfl) ?_
 refine G.nt ?_
 refine W.seq ?_
 refine W.ite rfl (fun c17 => ?_) (fun c17 => ?_)
 ·refine W.skip ?_
  refine V.then ?_
  refine W.seq ?_
  refine W.block ?_
  refine W.sr ?_
  refine G.r (Runs.move rfl) ?_
  refine G.r (Runs.assign rfl) ?_
  refine G.nt ?_
  refine W.region ?_
  refine G.r (Runs.move rfl) ?_
  refine G.r (Runs.move rfl) ?_
  refine G.r (Runs.idx (α := Int) (xs := out) Tryd.underlying22 ty3 rfl rfl Sl.o (by omega) (by omega)) ?_
  refine G.e (Eff.set (α := Int) (xs := out) (e := 3) (new := -1) ty3 rfl rfl rfl (by omega) (by omega) (by repeat (first | exact At.head _ _ _ | apply At.tail))) ?_
  rintro _ _ ⟨rfl, rfl⟩
  refine G.nil ?_
  refine V.block_normal ?_
  refine V.then ?_
  refine W.region ?_
  refine G.r (Runs.add rfl rfl (by unfold InR; omega)) ?_
  refine G.r (Runs.move rfl) ?_
  refine G.nil ?_
  exact V.next ((k + 1), (List.set out ((k : Nat) : Int).toNat (-1))) (show ((k + 1 : Nat) ≤ n.nodes.toNat) ∧ ((List.set out ((k : Nat) : Int).toNat (-1) : List Int).length = n.nodes.toNat) ∧ (∀ j, j < (k + 1 : Nat) → at_ (List.set out ((k : Nat) : Int).toNat (-1) : List Int) (j : Int) = -1) from ⟨(by omega), (by rw [List.length_set]; exact hol), (fun j hj => by rw [at_set out _ _ _ (by omega) (by omega) (by omega)]; split; rfl; exact ho j (by omega))⟩) (show n.nodes.toNat - (k + 1 : Nat) < n.nodes.toNat - k from (by omega)) (Sub.cons rfl (Sub.cons rfl (Sub.cons rfl (Sub.cons rfl (Sub.cons lookO Sub.nil))))) (show Fit κ _ (vc 3 (.slice ad2 (List.replicate n.nodes.toNat (default : Int)).length cp3) ((List.set out ((k : Nat) : Int).toNat (-1))) :: blk b1 [I64 (n.nodes), I64 (n.source), I64 (n.sink), v] 124 :: I) from Fit.sub)
 ·refine W.exit ?_
  refine V.then_exit ?_
  refine V.then_exit ?_
  refine V.block_hit ?_
  refine V.then ?_
  refine W.sr ?_
  refine G.r (Runs.move rfl) ?_
  refine G.r (Runs.fieldAddr fld124_1 rfl) ?_
  refine G.r (Runs.ld ty3) ?_
  refine G.r (Runs.fieldAddr fld124_3 rfl) ?_
  refine G.r (Runs.ld ty122) ?_
  refine G.r (Runs.lenT (α := Arc) (xs := n.arcs) Tryd.underlying122 rfl (Sl.f hl)) ?_
  refine G.r (Runs.idx (α := Int) (xs := out) Tryd.underlying22 ty3 rfl rfl Sl.o (by omega) (by omega)) ?_
  refine G.e (Eff.set (α := Int) (xs := out) (e := 3) (new := ((n.arcs.length : Nat) : Int)) ty3 rfl rfl rfl (by omega) (by omega) (by repeat (first | exact At.head _ _ _ | apply At.tail))) ?_
  rintro _ _ ⟨rfl, rfl⟩
  have hout : out = List.replicate n.nodes.toNat (-1) := by rw [← hol]; exact eq_rep fun j hj => ho j (by omega)
  refine G.nt ?_
  refine W.sr ?_
  refine G.r (Runs.fieldAddr fld124_1 rfl) ?_
  refine G.r (Runs.ld ty3) ?_
  refine G.e (Eff.bs (α := Int) (cs := [_]) (xs := [n.source]) Tryd.underlying22 ty3 rfl rfl (by decide) (by decide) rfl rfl rfl rfl) ?_
  rintro _ _ ⟨ad4, rfl, rfl⟩
  refine G.r (Runs.assign rfl) ?_
  refine G.nt ?_
  refine W.sub (L' := [(7, _), (1, _), (2, _), (5, _)]) (Sub.cons rfl (Sub.cons rfl (Sub.cons rfl (Sub.cons rfl Sub.nil)))) ?_
  refine W.seq ?_
  refine W.block ?_
  refine W.loop (σ := (List Int) × (Option Addr) × Nat × (List Int) × Int) (fun s => ([(1, u), (2, .pointer (some ⟨b1, 0, none⟩)), (5, .slice ad2 (List.replicate n.nodes.toNat (default : Int)).length cp3), (7, .slice s.2.1 s.2.2.2.1.length s.2.2.1)] : Env)) (fun s => vc 3 (.slice s.2.1 s.2.2.2.1.length s.2.2.1) (s.2.2.2.1) :: vc 3 (.slice ad2 (List.replicate n.nodes.toNat (default : Int)).length cp3) (s.1) :: blk b1 [I64 (n.nodes), I64 (n.source), I64 (n.sink), v] 124 :: I) (fun s => (WI n f s.1 s.2.2.2.1 s.2.2.2.2 n.arcs.length n.arcs.length) ∧ (un s.1 + s.2.2.2.1.length ≤ 5000)) (fun s => un s.1 + s.2.2.2.1.length) (List.set out (n.source).toNat (((n.arcs.length : Nat) : Int)), ad4, 1, [n.source], n.source) (show (WI n f (List.set out (n.source).toNat (((n.arcs.length : Nat) : Int)) : List Int) ([n.source] : List Int) (n.source : Int) n.arcs.length n.arcs.length) ∧ (un (List.set out (n.source).toNat (((n.arcs.length : Nat) : Int)) : List Int) + ([n.source] : List Int).length ≤ 5000) from ⟨(by subst hout; exact WI.start hok (by omega)), (by have := un_le (List.set out n.source.toNat ((n.arcs.length : Nat) : Int)); rw [List.length_set] at this; simp only [List.length_cons, List.length_nil]; have := hok.lim; omega)⟩) (Sub.cons rfl (Sub.cons rfl (Sub.cons rfl (Sub.cons (lookV rfl (by first | rfl | simp)) Sub.nil)))) (show Fit κ _ (vc 3 (.slice (ad4) ([n.source]).length (1)) (([n.source])) :: vc 3 (.slice ad2 (List.replicate n.nodes.toNat (default : Int)).length cp3) ((List.set out (n.source).toNat (((n.arcs.length : Nat) : Int)))) :: blk b1 [I64 (n.nodes), I64 (n.source), I64 (n.sink), v] 124 :: I) from Fit.sub) ?_
  rintro ⟨out, a, c, todo, x⟩ hp
  obtain ⟨hW, hbd⟩ : (WI n f out todo x n.arcs.length n.arcs.length) ∧ (un out + todo.length ≤ 5000) := hp
  show W Tryd.prog κ 112 _ _ ([(1, u), (2, .pointer (some ⟨b1, 0, none⟩)), (5, .slice ad2 (List.replicate n.nodes.toNat (default : Int)).length cp3), (7, .slice a todo.length c)] : Env) (vc 3 (.slice a todo.length c) (todo) :: vc 3 (.slice ad2 (List.replicate n.nodes.toNat (default : Int)).length cp3) (out) :: blk b1 [I64 (n.nodes), I64 (n.source), I64 (n.sink), v] 124 :: I)
  have hlen := hW.len
  refine W.seq ?_
  refine W.sr ?_
  refine G.r (Runs.move rfl) ?_
  refine G.r (Runs.lens Tryd.underlying22 rfl) ?_
  refine G.r (Runs.gtr rfl rfl) ?_
  refine G.nt ?_
  refine W.ite rfl (fun c35 => ?_) (fun c35 => ?_)
  ·refine W.skip ?_
   refine V.then ?_
   refine W.block ?_
   refine W.sr ?_
   refine G.r (Runs.move rfl) ?_
   refine G.r (Runs.idx (α := Int) (xs := todo) Tryd.underlying22 ty3 rfl rfl Sl.o (by omega) (by omega)) ?_
   refine G.r (Runs.get (xs := todo) ty3 rfl Sl.o (by omega) (by omega)) ?_
   refine G.r (Runs.assign rfl) ?_
   refine G.nt ?_
   refine W.sr ?_
   refine G.r (Runs.move rfl) ?_
   refine G.r (Runs.lo (α := Int) (xs := todo) (l := 1) Tryd.underlying22 ty3 rfl rfl (by omega) Sl.o (by omega)) ?_
   refine G.fit (J := vc 3 (.slice (adrop a c 1 (Enc.sz Int)) (List.drop 1 todo).length (c - 1)) (List.drop 1 todo) :: vc 3 (.slice ad2 (List.replicate n.nodes.toNat (default : Int)).length cp3) (out) :: blk b1 [I64 (n.nodes), I64 (n.source), I64 (n.sink), v] 124 :: I) (Fit.upd (by repeat (first | exact At.head _ _ _ | apply At.tail)) (reslice (l := 1) (by omega))) ?_
   refine G.r (Runs.assign rfl) ?_
   refine G.nt ?_
   refine W.sub (L' := [(7, _), (8, _), (1, _), (2, _), (5, _)]) (Sub.cons rfl (Sub.cons rfl (Sub.cons rfl (Sub.cons rfl (Sub.cons rfl Sub.nil))))) ?_
   refine W.sr ?_
   refine G.r (Runs.fieldAddr fld124_3 rfl) ?_
   refine G.r (Runs.ld ty122) ?_
   refine G.r (Runs.lenT (α := Arc) (xs := n.arcs) Tryd.underlying122 rfl (Sl.f hl)) ?_
   refine G.r (Runs.move rfl) ?_
   refine G.nt ?_
   refine W.block ?_
   refine W.loop (σ := Nat × (List Int) × (Option Addr) × Nat × (List Int)) (fun s => ([(1, u), (2, .pointer (some ⟨b1, 0, none⟩)), (5, .slice ad2 (List.replicate n.nodes.toNat (default : Int)).length cp3), (7, .slice s.2.2.1 s.2.2.2.2.length s.2.2.2.1), (8, I64 (at_ todo 0)), (42, v), (43, I64 (((n.arcs.length : Nat) : Int))), (44, I64 (((s.1 : Nat) : Int)))] : Env)) (fun s => vc 3 (.slice s.2.2.1 s.2.2.2.2.length s.2.2.2.1) (s.2.2.2.2) :: vc 3 (.slice ad2 (List.replicate n.nodes.toNat (default : Int)).length cp3) (s.2.1) :: blk b1 [I64 (n.nodes), I64 (n.source), I64 (n.sink), v] 124 :: I) (fun s => (s.1 ≤ n.arcs.length) ∧ (WI n f s.2.1 s.2.2.2.2 (at_ todo 0) s.1 s.1) ∧ (un s.2.1 + s.2.2.2.2.length + 1 = un out + todo.length)) (fun s => n.arcs.length - s.1) (0, out, (adrop a c 1 (Enc.sz Int)), (c - 1), List.drop 1 todo) (show ((0 : Nat) ≤ n.arcs.length) ∧ (WI n f (out : List Int) (List.drop 1 todo : List Int) (at_ todo 0) (0 : Nat) (0 : Nat)) ∧ (un (out : List Int) + (List.drop 1 todo : List Int).length + 1 = un out + todo.length) from ⟨(by omega), (hW.pop (Nat.le_refl _) (by omega)), (by rw [List.length_drop]; omega)⟩) (Sub.cons rfl (Sub.cons rfl (Sub.cons rfl (Sub.cons (lookV rfl (by first | rfl | simp)) (Sub.cons rfl (Sub.cons rfl (Sub.cons rfl (Sub.cons lookO Sub.nil)))))))) (show Fit κ _ (vc 3 (.slice ((adrop a c 1 (Enc.sz Int))) (List.drop 1 todo).length ((c - 1))) ((List.drop 1 todo)) :: vc 3 (.slice ad2 (List.replicate n.nodes.toNat (default : Int)).length cp3) ((out)) :: blk b1 [I64 (n.nodes), I64 (n.source), I64 (n.sink), v] 124 :: I) from Fit.sub) ?_
   rintro ⟨k, out1, a1, c1, todo1⟩ hp
   obtain ⟨hk, hW1, hmu1⟩ : (k ≤ n.arcs.length) ∧ (WI n f out1 todo1 (at_ todo 0) k k) ∧ (un out1 + todo1.length + 1 = un out + todo.length) := hp
   show W Tryd.prog κ 112 _ _ ([(1, u), (2, .pointer (some ⟨b1, 0, none⟩)), (5, .slice ad2 (List.replicate n.nodes.toNat (default : Int)).length cp3), (7, .slice a1 todo1.length c1), (8, I64 (at_ todo 0)), (42, v), (43, I64 (((n.arcs.length : Nat) : Int))), (44, I64 (((k : Nat) : Int)))] : Env) (vc 3 (.slice a1 todo1.length c1) (todo1) :: vc 3 (.slice ad2 (List.replicate n.nodes.toNat (default : Int)).length cp3) (out1) :: blk b1 [I64 (n.nodes), I64 (n.source), I64 (n.sink), v] 124 :: I)
   have hlen := hW1.len
   refine W.sr ?_
   refine G.r (Runs.lss rfl rfl) ?_
   refine G.nt ?_
   refine W.seq ?_
   refine W.ite rfl (fun c45 => ?_) (fun c45 => ?_)
   ·refine W.skip ?_
    refine V.then ?_
    refine W.seq ?_
    refine W.block ?_
    refine W.sr ?_
    refine G.r (Runs.move rfl) ?_
    refine G.r (Runs.idx (α := Arc) (xs := n.arcs) Tryd.underlying122 ty161 rfl rfl (Sl.f hl) (by omega) (by omega)) ?_
    have hb := hok.arc (at_ n.arcs ((k : Nat) : Int)) (at_mem (by omega) (by omega))
    refine G.r (Runs.gets (α := Arc) (xs := n.arcs) ty161 rfl (Sl.f hl) (by omega) (by omega)) ?_
    refine G.e (Eff.alloc ty161 rfl) ?_
    rintro _ _ ⟨b5, rfl, rfl⟩
    refine G.r (Runs.assign rfl) ?_
    refine G.e (Eff.st (cs := [_, _, _]) (vs := [_, _, _]) (cs' := [_, _, _]) ty161) ?_
    rintro _ _ ⟨rfl, rfl⟩
    refine G.nt ?_
    refine W.sub (L' := [(9, _), (10, _), (1, _), (2, _), (5, _), (7, _), (8, _), (42, _), (43, _), (44, _)]) (Sub.cons rfl (Sub.cons rfl (Sub.cons rfl (Sub.cons rfl (Sub.cons rfl (Sub.cons rfl (Sub.cons rfl (Sub.cons rfl (Sub.cons rfl (Sub.cons rfl Sub.nil)))))))))) ?_
    refine W.cut (σ := (List Int) × (Option Addr) × Nat × (List Int)) (fun s => ([(1, u), (2, .pointer (some ⟨b1, 0, none⟩)), (5, .slice ad2 (List.replicate n.nodes.toNat (default : Int)).length cp3), (7, .slice s.2.1 s.2.2.2.length s.2.2.1), (8, I64 (at_ todo 0)), (9, I64 (((k : Nat) : Int))), (10, .pointer (some ⟨b5, 0, none⟩)), (42, v), (43, I64 (((n.arcs.length : Nat) : Int))), (44, I64 (((k : Nat) : Int)))] : Env)) (fun s => blk b5 [I64 ((at_ n.arcs ((k : Nat) : Int)).frm), I64 ((at_ n.arcs ((k : Nat) : Int)).dst), I64 ((at_ n.arcs ((k : Nat) : Int)).cap)] 161 :: vc 3 (.slice s.2.1 s.2.2.2.length s.2.2.1) (s.2.2.2) :: vc 3 (.slice ad2 (List.replicate n.nodes.toNat (default : Int)).length cp3) (s.1) :: blk b1 [I64 (n.nodes), I64 (n.source), I64 (n.sink), v] 124 :: I) (fun s => (WI n f s.1 s.2.2.2 (at_ todo 0) (k + 1) k) ∧ (un s.1 + s.2.2.2.length + 1 = un out + todo.length)) ?_ ?_
    ·refine W.seq ?_
     refine W.drawn mixed ?_
     refine A.hold (blk b5 [I64 ((at_ n.arcs ((k : Nat) : Int)).frm), I64 ((at_ n.arcs ((k : Nat) : Int)).dst), I64 ((at_ n.arcs ((k : Nat) : Int)).cap)] 161 :: vc 3 (.slice a1 todo1.length c1) (todo1) :: vc 3 (.slice ad2 (List.replicate n.nodes.toNat (default : Int)).length cp3) (out1) :: blk b1 [I64 (n.nodes), I64 (n.source), I64 (n.sink), v] 124 :: I) 21 ?_
     refine D.r 0 rfl (Runs.fieldAddr fld161_0 rfl) ?_
     refine D.r 1 rfl (Runs.ld ty3) ?_
     refine D.r 2 rfl (Runs.move rfl) ?_
     refine D.r 3 rfl (Runs.eql rfl rfl) ?_
     refine D.r 4 rfl (Runs.move rfl) ?_
     refine D.split (d := 53) rfl (fun g53 => ?_) (fun g53 => ?_)
     ·refine D.ro 5 rfl (Runs.move rfl) ?_
      refine D.ro 6 rfl (Runs.fieldAddr fld161_1 rfl) ?_
      refine D.ro 7 rfl (Runs.ld ty3) ?_
      refine D.ro 8 rfl (Runs.idx (α := Int) (xs := out1) Tryd.underlying22 ty3 rfl rfl Sl.o (by omega) (by omega)) ?_
      refine D.ro 9 rfl (Runs.get (xs := out1) ty3 rfl Sl.o (by omega) (by omega)) ?_
      refine D.ro 10 rfl (Runs.eql rfl rfl) ?_
      refine D.r 11 rfl (Runs.pickt rfl rfl) ?_
      refine D.r 12 rfl (Runs.move rfl) ?_
      refine D.split (d := 61) rfl (fun g61 => ?_) (fun g61 => ?_)
      ·refine D.ro 13 rfl (Runs.move rfl) ?_
       refine D.ro 14 rfl (Runs.move rfl) ?_
       refine D.ro 15 rfl (Runs.idx (α := Int) (xs := f) Tryd.underlying22 ty3 rfl rfl (Sl.f hu) (by omega) (by omega)) ?_
       refine D.ro 16 rfl (Runs.get (xs := f) ty3 rfl (Sl.f hu) (by omega) (by omega)) ?_
       refine D.ro 17 rfl (Runs.fieldAddr fld161_2 rfl) ?_
       refine D.ro 18 rfl (Runs.ld ty3) ?_
       refine D.ro 19 rfl (Runs.lss rfl rfl) ?_
       refine D.r 20 rfl (Runs.pickt rfl rfl) ?_
       refine D.done (by kernel_rfl) ?_
       refine V.then ?_
       refine W.sub (L' := [(69, _), (9, _), (10, _), (1, _), (2, _), (5, _), (7, _), (8, _), (42, _), (43, _), (44, _)]) (Sub.cons rfl (Sub.cons rfl (Sub.cons rfl (Sub.cons rfl (Sub.cons rfl (Sub.cons rfl (Sub.cons rfl (Sub.cons rfl (Sub.cons rfl (Sub.cons rfl (Sub.cons rfl Sub.nil))))))))))) ?_
       refine W.ite rfl (fun c69 => ?_) (fun c69 => ?_)
       ·refine W.sr ?_
        refine G.r (Runs.move rfl) ?_
        refine G.r (Runs.fieldAddr fld161_1 rfl) ?_
        refine G.r (Runs.ld ty3) ?_
        refine G.r (Runs.move rfl) ?_
        refine G.r (Runs.idx (α := Int) (xs := out1) Tryd.underlying22 ty3 rfl rfl Sl.o (by omega) (by omega)) ?_
        refine G.e (Eff.set (α := Int) (xs := out1) (e := 3) (new := ((k : Nat) : Int)) ty3 rfl rfl rfl (by omega) (by omega) (by repeat (first | exact At.head _ _ _ | apply At.tail))) ?_
        rintro _ _ ⟨rfl, rfl⟩
        refine G.nt ?_
        refine W.sub (L' := [(9, _), (10, _), (1, _), (2, _), (5, _), (7, _), (8, _), (42, _), (43, _), (44, _)]) (Sub.cons rfl (Sub.cons rfl (Sub.cons rfl (Sub.cons rfl (Sub.cons rfl (Sub.cons rfl (Sub.cons rfl (Sub.cons rfl (Sub.cons rfl (Sub.cons rfl Sub.nil)))))))))) ?_
        refine W.region ?_
        refine G.r (Runs.move rfl) ?_
        refine G.r (Runs.fieldAddr fld161_1 rfl) ?_
        refine G.r (Runs.ld ty3) ?_
        refine G.e (Eff.bs (α := Int) (cs := [_]) (xs := [(at_ n.arcs ((k : Nat) : Int)).dst]) Tryd.underlying22 ty3 rfl rfl (by decide) (by decide) rfl rfl rfl rfl) ?_
        rintro _ _ ⟨ad6, rfl, rfl⟩
        refine G.e (Eff.app (α := Int) (e := 3) (xs := todo1) (ys := ([(at_ n.arcs ((k : Nat) : Int)).dst] : List Int)) Tryd.underlying22 ty3 rfl rfl rfl (by repeat (first | exact List.mem_cons_self | apply List.mem_cons_of_mem)) Sl.o (by simp only [List.length_cons, List.length_nil]; omega) (by decide) rfl (fun _ _ => (by repeat (first | exact At.head _ _ _ | apply At.tail)))) ?_
        rintro _ _ ⟨ad7, cp8, rfl, rfl⟩
        have hput1 := hW1.put (y := (at_ n.arcs ((k : Nat) : Int)).dst) (i := ((k : Nat) : Int)) (by omega) g61 (.inl ⟨by omega, by omega, rfl, c69, g53⟩)
        refine G.r (Runs.assign rfl) ?_
        refine G.nil ?_
        exact V.mid ((List.set out1 ((at_ n.arcs ((k : Nat) : Int)).dst).toNat (((k : Nat) : Int))), (ad7), (cp8), (todo1 ++ ([(at_ n.arcs ((k : Nat) : Int)).dst] : List Int))) (show (WI n f (List.set out1 ((at_ n.arcs ((k : Nat) : Int)).dst).toNat (((k : Nat) : Int)) : List Int) (todo1 ++ ([(at_ n.arcs ((k : Nat) : Int)).dst] : List Int) : List Int) (at_ todo 0) (k + 1) k) ∧ (un (List.set out1 ((at_ n.arcs ((k : Nat) : Int)).dst).toNat (((k : Nat) : Int)) : List Int) + (todo1 ++ ([(at_ n.arcs ((k : Nat) : Int)).dst] : List Int) : List Int).length + 1 = un out + todo.length) from ⟨(by first | exact hW1.fwd (fun a _ => absurd a g53) | exact hW1.fwd (fun _ _ => ⟨by omega, g61⟩) | exact hW1.fwd (fun _ b => absurd b c69) | exact (hput1.1).fwd (fun _ _ => (Rd.set (by omega) (by omega)).2 (.inl rfl))), (by first | exact hmu1 | (rw [List.length_append]; simp only [List.length_cons, List.length_nil]; have := hput1.2; omega))⟩) (Sub.cons rfl (Sub.cons rfl (Sub.cons rfl (Sub.cons (lookV rfl (by first | rfl | simp)) (Sub.cons rfl (Sub.cons rfl (Sub.cons rfl (Sub.cons rfl (Sub.cons rfl (Sub.cons rfl Sub.nil)))))))))) (show Fit κ _ (blk b5 [I64 ((at_ n.arcs ((k : Nat) : Int)).frm), I64 ((at_ n.arcs ((k : Nat) : Int)).dst), I64 ((at_ n.arcs ((k : Nat) : Int)).cap)] 161 :: vc 3 (.slice (ad7) (todo1 ++ ([(at_ n.arcs ((k : Nat) : Int)).dst] : List Int)).length (cp8)) ((todo1 ++ ([(at_ n.arcs ((k : Nat) : Int)).dst] : List Int))) :: vc 3 (.slice ad2 (List.replicate n.nodes.toNat (default : Int)).length cp3) ((List.set out1 ((at_ n.arcs ((k : Nat) : Int)).dst).toNat (((k : Nat) : Int)))) :: blk b1 [I64 (n.nodes), I64 (n.source), I64 (n.sink), v] 124 :: I) from Fit.sub)
       ·refine W.skip ?_
        exact V.mid ((out1), (a1), (c1), (todo1)) (show (WI n f (out1 : List Int) (todo1 : List Int) (at_ todo 0) (k + 1) k) ∧ (un (out1 : List Int) + (todo1 : List Int).length + 1 = un out + todo.length) from ⟨(by first | exact hW1.fwd (fun a _ => absurd a g53) | exact hW1.fwd (fun _ _ => ⟨by omega, g61⟩) | exact hW1.fwd (fun _ b => absurd b c69) | exact (hput1.1).fwd (fun _ _ => (Rd.set (by omega) (by omega)).2 (.inl rfl))), (by first | exact hmu1 | (rw [List.length_append]; simp only [List.length_cons, List.length_nil]; have := hput1.2; omega))⟩) (Sub.cons rfl (Sub.cons rfl (Sub.cons rfl (Sub.cons (lookV rfl (by first | rfl | simp)) (Sub.cons rfl (Sub.cons rfl (Sub.cons rfl (Sub.cons rfl (Sub.cons rfl (Sub.cons rfl Sub.nil)))))))))) (show Fit κ _ (blk b5 [I64 ((at_ n.arcs ((k : Nat) : Int)).frm), I64 ((at_ n.arcs ((k : Nat) : Int)).dst), I64 ((at_ n.arcs ((k : Nat) : Int)).cap)] 161 :: vc 3 (.slice (a1) (todo1).length (c1)) ((todo1)) :: vc 3 (.slice ad2 (List.replicate n.nodes.toNat (default : Int)).length cp3) ((out1)) :: blk b1 [I64 (n.nodes), I64 (n.source), I64 (n.sink), v] 124 :: I) from Fit.sub)
      ·refine D.po 13 rfl ?_
       refine D.po 14 rfl ?_
       refine D.po 15 rfl ?_
       refine D.po 16 rfl ?_
       refine D.po 17 rfl ?_
       refine D.po 18 rfl ?_
       refine D.po 19 rfl ?_
       refine D.r 20 rfl (Runs.pickf rfl rfl) ?_
       refine D.done (by kernel_rfl) ?_
       refine V.then ?_
       refine W.sub (L' := [(69, _), (9, _), (10, _), (1, _), (2, _), (5, _), (7, _), (8, _), (42, _), (43, _), (44, _)]) (Sub.cons rfl (Sub.cons rfl (Sub.cons rfl (Sub.cons rfl (Sub.cons rfl (Sub.cons rfl (Sub.cons rfl (Sub.cons rfl (Sub.cons rfl (Sub.cons rfl (Sub.cons rfl Sub.nil))))))))))) ?_
       refine W.no rfl ?_
       refine W.skip ?_
       exact V.mid ((out1), (a1), (c1), (todo1)) (show (WI n f (out1 : List Int) (todo1 : List Int) (at_ todo 0) (k + 1) k) ∧ (un (out1 : List Int) + (todo1 : List Int).length + 1 = un out + todo.length) from ⟨(by first | exact hW1.fwd (fun a _ => absurd a g53) | exact hW1.fwd (fun _ _ => ⟨by omega, g61⟩) | exact hW1.fwd (fun _ b => absurd b c69) | exact (hput1.1).fwd (fun _ _ => (Rd.set (by omega) (by omega)).2 (.inl rfl))), (by first | exact hmu1 | (rw [List.length_append]; simp only [List.length_cons, List.length_nil]; have := hput1.2; omega))⟩) (Sub.cons rfl (Sub.cons rfl (Sub.cons rfl (Sub.cons (lookV rfl (by first | rfl | simp)) (Sub.cons rfl (Sub.cons rfl (Sub.cons rfl (Sub.cons rfl (Sub.cons rfl (Sub.cons rfl Sub.nil)))))))))) (show Fit κ _ (blk b5 [I64 ((at_ n.arcs ((k : Nat) : Int)).frm), I64 ((at_ n.arcs ((k : Nat) : Int)).dst), I64 ((at_ n.arcs ((k : Nat) : Int)).cap)] 161 :: vc 3 (.slice (a1) (todo1).length (c1)) ((todo1)) :: vc 3 (.slice ad2 (List.replicate n.nodes.toNat (default : Int)).length cp3) ((out1)) :: blk b1 [I64 (n.nodes), I64 (n.source), I64 (n.sink), v] 124 :: I) from Fit.sub)
     ·refine D.po 5 rfl ?_
      refine D.po 6 rfl ?_
      refine D.po 7 rfl ?_
      refine D.po 8 rfl ?_
      refine D.po 9 rfl ?_
      refine D.po 10 rfl ?_
      refine D.r 11 rfl (Runs.pickf rfl rfl) ?_
      refine D.r 12 rfl (Runs.move rfl) ?_
      refine D.po 13 rfl ?_
      refine D.po 14 rfl ?_
      refine D.po 15 rfl ?_
      refine D.po 16 rfl ?_
      refine D.po 17 rfl ?_
      refine D.po 18 rfl ?_
      refine D.po 19 rfl ?_
      refine D.r 20 rfl (Runs.pickf rfl rfl) ?_
      refine D.done (by kernel_rfl) ?_
      refine V.then ?_
      refine W.sub (L' := [(69, _), (9, _), (10, _), (1, _), (2, _), (5, _), (7, _), (8, _), (42, _), (43, _), (44, _)]) (Sub.cons rfl (Sub.cons rfl (Sub.cons rfl (Sub.cons rfl (Sub.cons rfl (Sub.cons rfl (Sub.cons rfl (Sub.cons rfl (Sub.cons rfl (Sub.cons rfl (Sub.cons rfl Sub.nil))))))))))) ?_
      refine W.no rfl ?_
      refine W.skip ?_
      exact V.mid ((out1), (a1), (c1), (todo1)) (show (WI n f (out1 : List Int) (todo1 : List Int) (at_ todo 0) (k + 1) k) ∧ (un (out1 : List Int) + (todo1 : List Int).length + 1 = un out + todo.length) from ⟨(by first | exact hW1.fwd (fun a _ => absurd a g53) | exact hW1.fwd (fun _ _ => ⟨by omega, g61⟩) | exact hW1.fwd (fun _ b => absurd b c69) | exact (hput1.1).fwd (fun _ _ => (Rd.set (by omega) (by omega)).2 (.inl rfl))), (by first | exact hmu1 | (rw [List.length_append]; simp only [List.length_cons, List.length_nil]; have := hput1.2; omega))⟩) (Sub.cons rfl (Sub.cons rfl (Sub.cons rfl (Sub.cons (lookV rfl (by first | rfl | simp)) (Sub.cons rfl (Sub.cons rfl (Sub.cons rfl (Sub.cons rfl (Sub.cons rfl (Sub.cons rfl Sub.nil)))))))))) (show Fit κ _ (blk b5 [I64 ((at_ n.arcs ((k : Nat) : Int)).frm), I64 ((at_ n.arcs ((k : Nat) : Int)).dst), I64 ((at_ n.arcs ((k : Nat) : Int)).cap)] 161 :: vc 3 (.slice (a1) (todo1).length (c1)) ((todo1)) :: vc 3 (.slice ad2 (List.replicate n.nodes.toNat (default : Int)).length cp3) ((out1)) :: blk b1 [I64 (n.nodes), I64 (n.source), I64 (n.sink), v] 124 :: I) from Fit.sub)
    ·rintro ⟨out2, a2, c2, todo2⟩ hp
     obtain ⟨hW2, hmu2⟩ : (WI n f out2 todo2 (at_ todo 0) (k + 1) k) ∧ (un out2 + todo2.length + 1 = un out + todo.length) := hp
     show W Tryd.prog κ 112 _ _ ([(1, u), (2, .pointer (some ⟨b1, 0, none⟩)), (5, .slice ad2 (List.replicate n.nodes.toNat (default : Int)).length cp3), (7, .slice a2 todo2.length c2), (8, I64 (at_ todo 0)), (9, I64 (((k : Nat) : Int))), (10, .pointer (some ⟨b5, 0, none⟩)), (42, v), (43, I64 (((n.arcs.length : Nat) : Int))), (44, I64 (((k : Nat) : Int)))] : Env) (blk b5 [I64 ((at_ n.arcs ((k : Nat) : Int)).frm), I64 ((at_ n.arcs ((k : Nat) : Int)).dst), I64 ((at_ n.arcs ((k : Nat) : Int)).cap)] 161 :: vc 3 (.slice a2 todo2.length c2) (todo2) :: vc 3 (.slice ad2 (List.replicate n.nodes.toNat (default : Int)).length cp3) (out2) :: blk b1 [I64 (n.nodes), I64 (n.source), I64 (n.sink), v] 124 :: I)
     have hlen2 := hW2.len
     refine W.sr ?_
     refine G.r (Runs.fieldAddr fld161_1 rfl) ?_
     refine G.r (Runs.ld ty3) ?_
     refine G.r (Runs.move rfl) ?_
     refine G.r (Runs.eql rfl rfl) ?_
     refine G.r (Runs.move rfl) ?_
     refine G.split (d := 84) rfl (fun g84 => ?_) (fun g84 => ?_)
     ·refine G.ro (Runs.move rfl) ?_
      refine G.ro (Runs.fieldAddr fld161_0 rfl) ?_
      refine G.ro (Runs.ld ty3) ?_
      refine G.ro (Runs.idx (α := Int) (xs := out2) Tryd.underlying22 ty3 rfl rfl Sl.o (by omega) (by omega)) ?_
      refine G.ro (Runs.get (xs := out2) ty3 rfl Sl.o (by omega) (by omega)) ?_
      refine G.ro (Runs.eql rfl rfl) ?_
      refine G.r (Runs.pickt rfl rfl) ?_
      refine G.r (Runs.move rfl) ?_
      refine G.split (d := 92) rfl (fun g92 => ?_) (fun g92 => ?_)
      ·refine G.ro (Runs.move rfl) ?_
       refine G.ro (Runs.move rfl) ?_
       refine G.ro (Runs.idx (α := Int) (xs := f) Tryd.underlying22 ty3 rfl rfl (Sl.f hu) (by omega) (by omega)) ?_
       refine G.ro (Runs.get (xs := f) ty3 rfl (Sl.f hu) (by omega) (by omega)) ?_
       refine G.ro (Runs.gtr rfl rfl) ?_
       refine G.r (Runs.pickt rfl rfl) ?_
       refine G.nt ?_
       refine W.sub (L' := [(98, _), (1, _), (2, _), (5, _), (7, _), (8, _), (9, _), (10, _), (42, _), (43, _), (44, _)]) (Sub.cons rfl (Sub.cons rfl (Sub.cons rfl (Sub.cons rfl (Sub.cons rfl (Sub.cons rfl (Sub.cons rfl (Sub.cons rfl (Sub.cons rfl (Sub.cons rfl (Sub.cons rfl Sub.nil))))))))))) ?_
       refine W.ite rfl (fun c98 => ?_) (fun c98 => ?_)
       ·refine W.sr ?_
        refine G.r (Runs.move rfl) ?_
        refine G.r (Runs.fieldAddr fld161_0 rfl) ?_
        refine G.r (Runs.ld ty3) ?_
        refine G.r (Runs.move rfl) ?_
        refine G.r (Runs.sub rfl rfl (by unfold InR; omega)) ?_
        refine G.r (Runs.idx (α := Int) (xs := out2) Tryd.underlying22 ty3 rfl rfl Sl.o (by omega) (by omega)) ?_
        refine G.e (Eff.set (α := Int) (xs := out2) (e := 3) (new := (-2) - ((k : Nat) : Int)) ty3 rfl rfl rfl (by omega) (by omega) (by repeat (first | exact At.head _ _ _ | apply At.tail))) ?_
        rintro _ _ ⟨rfl, rfl⟩
        refine G.nt ?_
        refine W.sub (L' := [(1, _), (2, _), (5, _), (7, _), (8, _), (10, _), (42, _), (43, _), (44, _)]) (Sub.cons rfl (Sub.cons rfl (Sub.cons rfl (Sub.cons rfl (Sub.cons rfl (Sub.cons rfl (Sub.cons rfl (Sub.cons rfl (Sub.cons rfl Sub.nil))))))))) ?_
        refine W.region ?_
        refine G.r (Runs.move rfl) ?_
        refine G.r (Runs.fieldAddr fld161_0 rfl) ?_
        refine G.r (Runs.ld ty3) ?_
        refine G.e (Eff.bs (α := Int) (cs := [_]) (xs := [(at_ n.arcs ((k : Nat) : Int)).frm]) Tryd.underlying22 ty3 rfl rfl (by decide) (by decide) rfl rfl rfl rfl) ?_
        rintro _ _ ⟨ad9, rfl, rfl⟩
        refine G.e (Eff.app (α := Int) (e := 3) (xs := todo2) (ys := ([(at_ n.arcs ((k : Nat) : Int)).frm] : List Int)) Tryd.underlying22 ty3 rfl rfl rfl (by repeat (first | exact List.mem_cons_self | apply List.mem_cons_of_mem)) Sl.o (by simp only [List.length_cons, List.length_nil]; omega) (by decide) rfl (fun _ _ => (by repeat (first | exact At.head _ _ _ | apply At.tail)))) ?_
        rintro _ _ ⟨ad10, cp11, rfl, rfl⟩
        have hput2 := hW2.put (y := (at_ n.arcs ((k : Nat) : Int)).frm) (i := -2 - ((k : Nat) : Int)) (by omega) g92 (.inr (by rw [show -2 - (-2 - ((k : Nat) : Int)) = ((k : Nat) : Int) from by omega]; exact ⟨by omega, by omega, rfl, c98, g84⟩))
        refine G.r (Runs.assign rfl) ?_
        refine G.nil ?_
        refine V.block_normal ?_
        refine V.then ?_
        refine W.sub (L' := [(7, _), (1, _), (2, _), (5, _), (8, _), (42, _), (43, _), (44, _)]) (Sub.cons rfl (Sub.cons rfl (Sub.cons rfl (Sub.cons rfl (Sub.cons rfl (Sub.cons rfl (Sub.cons rfl (Sub.cons rfl Sub.nil)))))))) ?_
        refine W.region ?_
        refine G.r (Runs.add rfl rfl (by unfold InR; omega)) ?_
        refine G.r (Runs.move rfl) ?_
        refine G.nil ?_
        exact V.next ((k + 1), (List.set out2 ((at_ n.arcs ((k : Nat) : Int)).frm).toNat ((-2) - ((k : Nat) : Int))), (ad10), (cp11), (todo2 ++ ([(at_ n.arcs ((k : Nat) : Int)).frm] : List Int))) (show ((k + 1 : Nat) ≤ n.arcs.length) ∧ (WI n f (List.set out2 ((at_ n.arcs ((k : Nat) : Int)).frm).toNat ((-2) - ((k : Nat) : Int)) : List Int) (todo2 ++ ([(at_ n.arcs ((k : Nat) : Int)).frm] : List Int) : List Int) (at_ todo 0) (k + 1 : Nat) (k + 1 : Nat)) ∧ (un (List.set out2 ((at_ n.arcs ((k : Nat) : Int)).frm).toNat ((-2) - ((k : Nat) : Int)) : List Int) + (todo2 ++ ([(at_ n.arcs ((k : Nat) : Int)).frm] : List Int) : List Int).length + 1 = un out + todo.length) from ⟨(by omega), (by first | exact hW2.bwd (fun a _ => absurd a g84) | exact hW2.bwd (fun _ _ => ⟨by omega, g92⟩) | exact hW2.bwd (fun _ b => absurd b c98) | exact (hput2.1).bwd (fun _ _ => (Rd.set (by omega) (by omega)).2 (.inl rfl))), (by first | exact hmu2 | (rw [List.length_append]; simp only [List.length_cons, List.length_nil]; have := hput2.2; omega))⟩) (show n.arcs.length - (k + 1 : Nat) < n.arcs.length - k from (by omega)) (Sub.cons rfl (Sub.cons rfl (Sub.cons rfl (Sub.cons (lookV rfl (by first | rfl | simp)) (Sub.cons rfl (Sub.cons rfl (Sub.cons rfl (Sub.cons lookO Sub.nil)))))))) (show Fit κ _ (vc 3 (.slice (ad10) (todo2 ++ ([(at_ n.arcs ((k : Nat) : Int)).frm] : List Int)).length (cp11)) ((todo2 ++ ([(at_ n.arcs ((k : Nat) : Int)).frm] : List Int))) :: vc 3 (.slice ad2 (List.replicate n.nodes.toNat (default : Int)).length cp3) ((List.set out2 ((at_ n.arcs ((k : Nat) : Int)).frm).toNat ((-2) - ((k : Nat) : Int)))) :: blk b1 [I64 (n.nodes), I64 (n.source), I64 (n.sink), v] 124 :: I) from Fit.sub)
       ·refine W.skip ?_
        refine V.block_normal ?_
        refine V.then ?_
        refine W.region ?_
        refine G.r (Runs.add rfl rfl (by unfold InR; omega)) ?_
        refine G.r (Runs.move rfl) ?_
        refine G.nil ?_
        exact V.next ((k + 1), (out2), (a2), (c2), (todo2)) (show ((k + 1 : Nat) ≤ n.arcs.length) ∧ (WI n f (out2 : List Int) (todo2 : List Int) (at_ todo 0) (k + 1 : Nat) (k + 1 : Nat)) ∧ (un (out2 : List Int) + (todo2 : List Int).length + 1 = un out + todo.length) from ⟨(by omega), (by first | exact hW2.bwd (fun a _ => absurd a g84) | exact hW2.bwd (fun _ _ => ⟨by omega, g92⟩) | exact hW2.bwd (fun _ b => absurd b c98) | exact (hput2.1).bwd (fun _ _ => (Rd.set (by omega) (by omega)).2 (.inl rfl))), (by first | exact hmu2 | (rw [List.length_append]; simp only [List.length_cons, List.length_nil]; have := hput2.2; omega))⟩) (show n.arcs.length - (k + 1 : Nat) < n.arcs.length - k from (by omega)) (Sub.cons rfl (Sub.cons rfl (Sub.cons rfl (Sub.cons (lookV rfl (by first | rfl | simp)) (Sub.cons rfl (Sub.cons rfl (Sub.cons rfl (Sub.cons lookO Sub.nil)))))))) (show Fit κ _ (vc 3 (.slice (a2) (todo2).length (c2)) ((todo2)) :: vc 3 (.slice ad2 (List.replicate n.nodes.toNat (default : Int)).length cp3) ((out2)) :: blk b1 [I64 (n.nodes), I64 (n.source), I64 (n.sink), v] 124 :: I) from Fit.sub)
      ·refine G.po ?_
       refine G.po ?_
       refine G.po ?_
       refine G.po ?_
       refine G.po ?_
       refine G.r (Runs.pickf rfl rfl) ?_
       refine G.nt ?_
       refine W.sub (L' := [(98, _), (1, _), (2, _), (5, _), (7, _), (8, _), (9, _), (10, _), (42, _), (43, _), (44, _)]) (Sub.cons rfl (Sub.cons rfl (Sub.cons rfl (Sub.cons rfl (Sub.cons rfl (Sub.cons rfl (Sub.cons rfl (Sub.cons rfl (Sub.cons rfl (Sub.cons rfl (Sub.cons rfl Sub.nil))))))))))) ?_
       refine W.no rfl ?_
       refine W.skip ?_
       refine V.block_normal ?_
       refine V.then ?_
       refine W.region ?_
       refine G.r (Runs.add rfl rfl (by unfold InR; omega)) ?_
       refine G.r (Runs.move rfl) ?_
       refine G.nil ?_
       exact V.next ((k + 1), (out2), (a2), (c2), (todo2)) (show ((k + 1 : Nat) ≤ n.arcs.length) ∧ (WI n f (out2 : List Int) (todo2 : List Int) (at_ todo 0) (k + 1 : Nat) (k + 1 : Nat)) ∧ (un (out2 : List Int) + (todo2 : List Int).length + 1 = un out + todo.length) from ⟨(by omega), (by first | exact hW2.bwd (fun a _ => absurd a g84) | exact hW2.bwd (fun _ _ => ⟨by omega, g92⟩) | exact hW2.bwd (fun _ b => absurd b c98) | exact (hput2.1).bwd (fun _ _ => (Rd.set (by omega) (by omega)).2 (.inl rfl))), (by first | exact hmu2 | (rw [List.length_append]; simp only [List.length_cons, List.length_nil]; have := hput2.2; omega))⟩) (show n.arcs.length - (k + 1 : Nat) < n.arcs.length - k from (by omega)) (Sub.cons rfl (Sub.cons rfl (Sub.cons rfl (Sub.cons (lookV rfl (by first | rfl | simp)) (Sub.cons rfl (Sub.cons rfl (Sub.cons rfl (Sub.cons lookO Sub.nil)))))))) (show Fit κ _ (vc 3 (.slice (a2) (todo2).length (c2)) ((todo2)) :: vc 3 (.slice ad2 (List.replicate n.nodes.toNat (default : Int)).length cp3) ((out2)) :: blk b1 [I64 (n.nodes), I64 (n.source), I64 (n.sink), v] 124 :: I) from Fit.sub)
     ·refine G.po ?_
      refine G.po ?_
      refine G.po ?_
      refine G.po ?_
      refine G.po ?_
      refine G.po ?_
      refine G.r (Runs.pickf rfl rfl) ?_
      refine G.r (Runs.move rfl) ?_
      refine G.po ?_
      refine G.po ?_
      refine G.po ?_
      refine G.po ?_
      refine G.po ?_
      refine G.r (Runs.pickf rfl rfl) ?_
      refine G.nt ?_
      refine W.sub (L' := [(98, _), (1, _), (2, _), (5, _), (7, _), (8, _), (9, _), (10, _), (42, _), (43, _), (44, _)]) (Sub.cons rfl (Sub.cons rfl (Sub.cons rfl (Sub.cons rfl (Sub.cons rfl (Sub.cons rfl (Sub.cons rfl (Sub.cons rfl (Sub.cons rfl (Sub.cons rfl (Sub.cons rfl Sub.nil))))))))))) ?_
      refine W.no rfl ?_
      refine W.skip ?_
      refine V.block_normal ?_
      refine V.then ?_
      refine W.region ?_
      refine G.r (Runs.add rfl rfl (by unfold InR; omega)) ?_
      refine G.r (Runs.move rfl) ?_
      refine G.nil ?_
      exact V.next ((k + 1), (out2), (a2), (c2), (todo2)) (show ((k + 1 : Nat) ≤ n.arcs.length) ∧ (WI n f (out2 : List Int) (todo2 : List Int) (at_ todo 0) (k + 1 : Nat) (k + 1 : Nat)) ∧ (un (out2 : List Int) + (todo2 : List Int).length + 1 = un out + todo.length) from ⟨(by omega), (by first | exact hW2.bwd (fun a _ => absurd a g84) | exact hW2.bwd (fun _ _ => ⟨by omega, g92⟩) | exact hW2.bwd (fun _ b => absurd b c98) | exact (hput2.1).bwd (fun _ _ => (Rd.set (by omega) (by omega)).2 (.inl rfl))), (by first | exact hmu2 | (rw [List.length_append]; simp only [List.length_cons, List.length_nil]; have := hput2.2; omega))⟩) (show n.arcs.length - (k + 1 : Nat) < n.arcs.length - k from (by omega)) (Sub.cons rfl (Sub.cons rfl (Sub.cons rfl (Sub.cons (lookV rfl (by first | rfl | simp)) (Sub.cons rfl (Sub.cons rfl (Sub.cons rfl (Sub.cons lookO Sub.nil)))))))) (show Fit κ _ (vc 3 (.slice (a2) (todo2).length (c2)) ((todo2)) :: vc 3 (.slice ad2 (List.replicate n.nodes.toNat (default : Int)).length cp3) ((out2)) :: blk b1 [I64 (n.nodes), I64 (n.source), I64 (n.sink), v] 124 :: I) from Fit.sub)
   ·refine W.exit ?_
    refine V.then_exit ?_
    refine V.then_exit ?_
    refine V.block_hit ?_
    refine V.block_normal ?_
    exact V.next ((out1), (a1), (c1), (todo1), (at_ todo 0)) (show (WI n f (out1 : List Int) (todo1 : List Int) (at_ todo 0 : Int) n.arcs.length n.arcs.length) ∧ (un (out1 : List Int) + (todo1 : List Int).length ≤ 5000) from ⟨(by rw [show n.arcs.length = k from by omega]; exact hW1), (by omega)⟩) (show un (out1 : List Int) + (todo1 : List Int).length < un out + todo.length from (by omega)) (Sub.cons rfl (Sub.cons rfl (Sub.cons rfl (Sub.cons (lookV rfl (by first | rfl | simp)) Sub.nil)))) (show Fit κ _ (vc 3 (.slice (a1) (todo1).length (c1)) ((todo1)) :: vc 3 (.slice ad2 (List.replicate n.nodes.toNat (default : Int)).length cp3) ((out1)) :: blk b1 [I64 (n.nodes), I64 (n.source), I64 (n.sink), v] 124 :: I) from Fit.sub)
  ·refine W.exit ?_
   refine V.then_exit ?_
   refine V.then_exit ?_
   refine V.block_hit ?_
   refine V.then ?_
   refine W.sr ?_
   refine G.r (Runs.move rfl) ?_
   refine G.r (Runs.assign rfl) ?_
   refine G.nt ?_
   refine W.ret ?_
   have ht0 : todo = [] := List.eq_nil_of_length_eq_zero (by omega)
   subst ht0
   have hlo : (List.replicate n.nodes.toNat (default : Int)).length = out.length := by rw [List.length_replicate]; omega
   exact V.ret1 rfl rfl (vc 3 (.slice ad2 (List.replicate n.nodes.toNat (default : Int)).length cp3) out :: I) Fit.sub ⟨ad2, cp3, out, by rw [hlo], hW.spec (Nat.le_refl _), by rw [hlo]⟩

end Go.Sl
namespace Go.Sl
open Go.Proofs
set_option linter.unusedVariables false
set_option linter.unusedSimpArgs false
set_option maxRecDepth 4000
theorem RPush_base {κ : Ctx} {I : List Item} {n : Net} {f out : List Int} {v u : Value} {a : Option Addr} {c m : Nat} (hl : ∀ g : List Int, Sl κ (vc 3 (.slice a m c) g :: I) v n.arcs) (hu : ∀ g : List Int, Sl κ (vc 3 (.slice a m c) g :: I) u out) (hok : n.Ok) (hf : IsFlow n f) (hway : WaySpec n f out) (hsink : Rd out n.sink) :
    CallS Tryd.prog κ 129 [.agg #[I64 (n.nodes), I64 (n.source), I64 (n.sink), v], .slice a m c, u] (vc 3 (.slice a m c) (f) :: I) (fun r J => ∃ y : Int × List Int, (r = I64 y.1 ∧ IsFlow n y.2 ∧ netF n y.2 n.source = netF n f n.source + y.1 ∧ 1 ≤ y.1) ∧ J = [] ++ vc 3 (.slice a m c) y.2 :: I) := by
 obtain ⟨rk, B, hB, hpar⟩ := hway.par
 have hlim := hok.lim
 have hlen := hway.len
 have hfl := hf.len
 have hsnk := hok.snk
 refine CallS.enter (L := [(0, .agg #[I64 (n.nodes), I64 (n.source), I64 (n.sink), v]), (1, .slice a m c), (2, u)]) Tryd.func129 rfl rfl rfl rfl ?_
 refine W.sr ?_
 refine G.e (Eff.box (cs := [_, _, _, _]) rfl rfl rfl) ?_
 rintro _ _ ⟨b1, rfl, rfl⟩
 refine G.r (Runs.assign rfl) ?_
 refine G.nt ?_
 refine W.sr ?_
 refine G.r (Runs.assign rfl) ?_
 refine G.nt ?_
 refine W.seq ?_
 refine W.sr ?_
 refine G.r (Runs.fieldAddr fld124_2 rfl) ?_
 refine G.r (Runs.ld ty3) ?_
 refine G.r (Runs.assign rfl) ?_
 refine G.nt ?_
 refine W.block ?_
 refine W.loop (σ := Nat × Int) (fun s => ([(1, .slice a m c), (2, u), (3, .pointer (some ⟨b1, 0, none⟩)), (7, I64 (s.2)), (8, I64 (itN n out s.1))] : Env)) (fun s => blk b1 [I64 (n.nodes), I64 (n.source), I64 (n.sink), v] 124 :: vc 3 (.slice a m c) (f) :: I) (fun s => (PW n f out rk s.1 s.2)) (fun s => rk (itN n out s.1)) (0, 1099511627776) (show (PW n f out rk (0 : Nat) (1099511627776 : Int)) from (PW.start hsink)) (Sub.cons rfl (Sub.cons rfl (Sub.cons rfl (Sub.cons (lookI rfl (by first | rfl | exact it_pos (by assumption) | exact it_neg (by assumption) | omega)) (Sub.cons (lookI rfl (by first | rfl | exact it_pos (by assumption) | exact it_neg (by assumption) | omega)) Sub.nil))))) (show Fit κ _ (blk b1 [I64 (n.nodes), I64 (n.source), I64 (n.sink), v] 124 :: vc 3 (.slice a m c) (f) :: I) from Fit.sub) ?_
 rintro ⟨j, most⟩ hp
 have hpw : (PW n f out rk j most) := hp
 show W Tryd.prog κ 98 _ _ ([(1, .slice a m c), (2, u), (3, .pointer (some ⟨b1, 0, none⟩)), (7, I64 (most)), (8, I64 (itN n out j))] : Env) (blk b1 [I64 (n.nodes), I64 (n.source), I64 (n.sink), v] 124 :: vc 3 (.slice a m c) (f) :: I)
 have hrd := hpw.rd j (Nat.le_refl _)
 have hrd1 := hrd.1
 refine W.seq ?_
 refine W.sr ?_
 refine G.r (Runs.move rfl) ?_
 refine G.r (Runs.fieldAddr fld124_1 rfl) ?_
 refine G.r (Runs.ld ty3) ?_
 refine G.r (Runs.neq rfl rfl) ?_
 refine G.nt ?_
 refine W.ite rfl (fun c17 => ?_) (fun c17 => ?_)
 ·refine W.skip ?_
  refine V.then ?_
  refine W.block ?_
  refine W.sr ?_
  refine G.r (Runs.move rfl) ?_
  refine G.r (Runs.move rfl) ?_
  refine G.r (Runs.idx (α := Int) (xs := out) Tryd.underlying22 ty3 rfl rfl (Sl.fit (hu _) Fit.m) (by omega) (by omega)) ?_
  refine G.r (Runs.get (xs := out) ty3 rfl (Sl.fit (hu _) Fit.m) (by omega) (by omega)) ?_
  have hp := hpar _ hrd c17
  refine G.r (Runs.assign rfl) ?_
  refine G.nt ?_
  refine W.sub (L' := [(9, _), (1, _), (2, _), (3, _), (7, _)]) (Sub.cons rfl (Sub.cons rfl (Sub.cons rfl (Sub.cons rfl (Sub.cons rfl Sub.nil))))) ?_
  refine W.sr ?_
  refine G.r (Runs.move rfl) ?_
  refine G.r (Runs.geq rfl rfl) ?_
  refine G.nt ?_
  refine W.ite rfl (fun c23 => ?_) (fun c23 => ?_)
  ·refine W.drawn mixed ?_
   refine A.hold (blk b1 [I64 (n.nodes), I64 (n.source), I64 (n.sink), v] 124 :: vc 3 (.slice a m c) (f) :: I) 21 ?_
   refine D.r 0 rfl (Runs.move rfl) ?_
   have hq := hp.pos c23
   have hac := arc_ok hok (i := (at_ out (itN n out j))) (by omega) (by omega)
   have hcp := cap_ok hf.cap (i := (at_ out (itN n out j))) (by omega) (by omega)
   refine D.r 1 rfl (Runs.fieldAddr fld124_3 rfl) ?_
   refine D.r 2 rfl (Runs.ld ty122) ?_
   refine D.r 3 rfl (Runs.move rfl) ?_
   refine D.r 4 rfl (Runs.idx (α := Arc) (xs := n.arcs) Tryd.underlying122 ty161 rfl rfl (Sl.fit (hl _) Fit.m) (by omega) (by omega)) ?_
   refine D.r 5 rfl (Runs.fld (α := Arc) (xs := n.arcs) fld161_2 rfl (Sl.fit (hl _) Fit.m) (by omega)) ?_
   refine D.r 6 rfl (Runs.getf (α := Arc) (xs := n.arcs) (u := I64 ((at_ n.arcs (at_ out (itN n out j))).cap)) ty3 rfl (Sl.fit (hl _) Fit.m) (by omega) (by omega) rfl) ?_
   refine D.r 7 rfl (Runs.move rfl) ?_
   refine D.r 8 rfl (Runs.move rfl) ?_
   refine D.r 9 rfl (Runs.idx (α := Int) (xs := f) Tryd.underlying22 ty3 rfl rfl Sl.o (by omega) (by omega)) ?_
   refine D.r 10 rfl (Runs.get (xs := f) ty3 rfl Sl.o (by omega) (by omega)) ?_
   refine D.r 11 rfl (Runs.sub rfl rfl (by unfold InR; omega)) ?_
   refine D.r 12 rfl (Runs.min rfl rfl) ?_
   refine D.r 13 rfl (Runs.fieldAddr fld124_3 rfl) ?_
   refine D.r 14 rfl (Runs.ld ty122) ?_
   refine D.r 15 rfl (Runs.move rfl) ?_
   refine D.r 16 rfl (Runs.idx (α := Arc) (xs := n.arcs) Tryd.underlying122 ty161 rfl rfl (Sl.fit (hl _) Fit.m) (by omega) (by omega)) ?_
   refine D.r 17 rfl (Runs.fld (α := Arc) (xs := n.arcs) fld161_0 rfl (Sl.fit (hl _) Fit.m) (by omega)) ?_
   refine D.r 18 rfl (Runs.getf (α := Arc) (xs := n.arcs) (u := I64 ((at_ n.arcs (at_ out (itN n out j))).frm)) ty3 rfl (Sl.fit (hl _) Fit.m) (by omega) (by omega) rfl) ?_
   refine D.r 19 rfl (Runs.assign rfl) ?_
   refine D.r 20 rfl (Runs.assign rfl) ?_
   refine D.done (by kernel_rfl) ?_
   refine V.block_normal ?_
   exact V.next ((j + 1), (if (((at_ n.arcs (at_ out (itN n out j))).cap) - (at_ f (at_ out (itN n out j)))) < most then (((at_ n.arcs (at_ out (itN n out j))).cap) - (at_ f (at_ out (itN n out j)))) else most)) (show (PW n f out rk (j + 1 : Nat) (if (((at_ n.arcs (at_ out (itN n out j))).cap) - (at_ f (at_ out (itN n out j)))) < most then (((at_ n.arcs (at_ out (itN n out j))).cap) - (at_ f (at_ out (itN n out j)))) else most : Int)) from (by have h9 := hpw.step c17 hp; first | (rw [rsN_pos c23] at h9; exact h9) | (rw [rsN_neg c23] at h9; exact h9))) (show rk (itN n out (j + 1 : Nat)) < rk (itN n out j) from (par_rd hp).2.1) (Sub.cons rfl (Sub.cons rfl (Sub.cons rfl (Sub.cons (lookI rfl (by first | rfl | exact it_pos (by assumption) | exact it_neg (by assumption) | omega)) (Sub.cons (lookI rfl (by first | rfl | exact it_pos (by assumption) | exact it_neg (by assumption) | omega)) Sub.nil))))) (show Fit κ _ (blk b1 [I64 (n.nodes), I64 (n.source), I64 (n.sink), v] 124 :: vc 3 (.slice a m c) (f) :: I) from Fit.sub)
  ·refine W.drawn mixed ?_
   refine A.hold (blk b1 [I64 (n.nodes), I64 (n.source), I64 (n.sink), v] 124 :: vc 3 (.slice a m c) (f) :: I) 16 ?_
   refine D.r 0 rfl (Runs.move rfl) ?_
   have hq := hp.neg c23
   have hac := arc_ok hok (i := (-2 - at_ out (itN n out j))) (by omega) (by omega)
   have hcp := cap_ok hf.cap (i := (-2 - at_ out (itN n out j))) (by omega) (by omega)
   refine D.r 1 rfl (Runs.move rfl) ?_
   refine D.r 2 rfl (Runs.move rfl) ?_
   refine D.r 3 rfl (Runs.sub rfl rfl (by unfold InR; omega)) ?_
   refine D.r 4 rfl (Runs.idx (α := Int) (xs := f) Tryd.underlying22 ty3 rfl rfl Sl.o (by omega) (by omega)) ?_
   refine D.r 5 rfl (Runs.get (xs := f) ty3 rfl Sl.o (by omega) (by omega)) ?_
   refine D.r 6 rfl (Runs.min rfl rfl) ?_
   refine D.r 7 rfl (Runs.fieldAddr fld124_3 rfl) ?_
   refine D.r 8 rfl (Runs.ld ty122) ?_
   refine D.r 9 rfl (Runs.move rfl) ?_
   refine D.r 10 rfl (Runs.sub rfl rfl (by unfold InR; omega)) ?_
   refine D.r 11 rfl (Runs.idx (α := Arc) (xs := n.arcs) Tryd.underlying122 ty161 rfl rfl (Sl.fit (hl _) Fit.m) (by omega) (by omega)) ?_
   refine D.r 12 rfl (Runs.fld (α := Arc) (xs := n.arcs) fld161_1 rfl (Sl.fit (hl _) Fit.m) (by omega)) ?_
   refine D.r 13 rfl (Runs.getf (α := Arc) (xs := n.arcs) (u := I64 ((at_ n.arcs ((-2) - (at_ out (itN n out j)))).dst)) ty3 rfl (Sl.fit (hl _) Fit.m) (by omega) (by omega) rfl) ?_
   refine D.r 14 rfl (Runs.assign rfl) ?_
   refine D.r 15 rfl (Runs.assign rfl) ?_
   refine D.done (by kernel_rfl) ?_
   refine V.block_normal ?_
   exact V.next ((j + 1), (if (at_ f ((-2) - (at_ out (itN n out j)))) < most then (at_ f ((-2) - (at_ out (itN n out j)))) else most)) (show (PW n f out rk (j + 1 : Nat) (if (at_ f ((-2) - (at_ out (itN n out j)))) < most then (at_ f ((-2) - (at_ out (itN n out j)))) else most : Int)) from (by have h9 := hpw.step c17 hp; first | (rw [rsN_pos c23] at h9; exact h9) | (rw [rsN_neg c23] at h9; exact h9))) (show rk (itN n out (j + 1 : Nat)) < rk (itN n out j) from (par_rd hp).2.1) (Sub.cons rfl (Sub.cons rfl (Sub.cons rfl (Sub.cons (lookI rfl (by first | rfl | exact it_pos (by assumption) | exact it_neg (by assumption) | omega)) (Sub.cons (lookI rfl (by first | rfl | exact it_pos (by assumption) | exact it_neg (by assumption) | omega)) Sub.nil))))) (show Fit κ _ (blk b1 [I64 (n.nodes), I64 (n.source), I64 (n.sink), v] 124 :: vc 3 (.slice a m c) (f) :: I) from Fit.sub)
 ·refine W.exit ?_
  refine V.then_exit ?_
  refine V.then_exit ?_
  refine V.block_hit ?_
  refine V.then ?_
  refine W.seq ?_
  refine W.sr ?_
  refine G.r (Runs.fieldAddr fld124_2 rfl) ?_
  refine G.r (Runs.ld ty3) ?_
  refine G.r (Runs.assign rfl) ?_
  have hJ : itN n out j = n.source := Decidable.of_not_not c17
  refine G.nt ?_
  refine W.block ?_
  refine W.loop (σ := Nat × (List Int)) (fun s => ([(1, .slice a m c), (2, u), (3, .pointer (some ⟨b1, 0, none⟩)), (7, I64 (most)), (10, I64 (itN n out s.1))] : Env)) (fun s => blk b1 [I64 (n.nodes), I64 (n.source), I64 (n.sink), v] 124 :: vc 3 (.slice a m c) (s.2) :: I) (fun s => (s.1 ≤ j) ∧ (PI n f out most s.1 s.2)) (fun s => j - s.1) (0, f) (show ((0 : Nat) ≤ j) ∧ (PI n f out most (0 : Nat) (f : List Int)) from ⟨(by omega), (PI.start hf _)⟩) (Sub.cons rfl (Sub.cons rfl (Sub.cons rfl (Sub.cons rfl (Sub.cons (lookI rfl (by first | rfl | exact it_pos (by assumption) | exact it_neg (by assumption) | omega)) Sub.nil))))) (show Fit κ _ (blk b1 [I64 (n.nodes), I64 (n.source), I64 (n.sink), v] 124 :: vc 3 (.slice a m c) ((f)) :: I) from Fit.sub) ?_
  rintro ⟨i, f1⟩ hp
  obtain ⟨hi, hpi⟩ : (i ≤ j) ∧ (PI n f out most i f1) := hp
  show W Tryd.prog κ 98 _ _ ([(1, .slice a m c), (2, u), (3, .pointer (some ⟨b1, 0, none⟩)), (7, I64 (most)), (10, I64 (itN n out i))] : Env) (blk b1 [I64 (n.nodes), I64 (n.source), I64 (n.sink), v] 124 :: vc 3 (.slice a m c) (f1) :: I)
  have hrd := hpw.rd i hi
  have hrd1 := hrd.1
  have hfl1 := hpi.len
  have hpos := hpw.pos
  refine W.seq ?_
  refine W.sr ?_
  refine G.r (Runs.move rfl) ?_
  refine G.r (Runs.fieldAddr fld124_1 rfl) ?_
  refine G.r (Runs.ld ty3) ?_
  refine G.r (Runs.neq rfl rfl) ?_
  refine G.nt ?_
  refine W.ite rfl (fun c62 => ?_) (fun c62 => ?_)
  ·refine W.skip ?_
   refine V.then ?_
   refine W.block ?_
   refine W.sr ?_
   refine G.r (Runs.move rfl) ?_
   refine G.r (Runs.move rfl) ?_
   refine G.r (Runs.idx (α := Int) (xs := out) Tryd.underlying22 ty3 rfl rfl (Sl.fit (hu _) Fit.m) (by omega) (by omega)) ?_
   refine G.r (Runs.get (xs := out) ty3 rfl (Sl.fit (hu _) Fit.m) (by omega) (by omega)) ?_
   have hij := it_lt hi hJ c62
   have hp := hpw.par i hij
   have hr1 := hpw.res i hij
   refine G.r (Runs.assign rfl) ?_
   refine G.nt ?_
   refine W.sub (L' := [(11, _), (1, _), (2, _), (3, _), (7, _)]) (Sub.cons rfl (Sub.cons rfl (Sub.cons rfl (Sub.cons rfl (Sub.cons rfl Sub.nil))))) ?_
   refine W.sr ?_
   refine G.r (Runs.move rfl) ?_
   refine G.r (Runs.geq rfl rfl) ?_
   refine G.nt ?_
   refine W.ite rfl (fun c68 => ?_) (fun c68 => ?_)
   ·refine W.sr ?_
    refine G.r (Runs.move rfl) ?_
    have hq := hp.pos c68
    have hac := arc_ok hok (i := (at_ out (itN n out i))) (by omega) (by omega)
    have hcp := cap_ok hpi.cap (i := (at_ out (itN n out i))) (by omega) (by omega)
    rw [rsN_pos c68] at hr1
    have hcp0 := cap_ok hf.cap (i := (at_ out (itN n out i))) (by omega) (by omega)
    refine G.r (Runs.move rfl) ?_
    refine G.r (Runs.idx (α := Int) (xs := f1) Tryd.underlying22 ty3 rfl rfl Sl.o (by omega) (by omega)) ?_
    refine G.r (Runs.get (xs := f1) ty3 rfl Sl.o (by omega) (by omega)) ?_
    refine G.r (Runs.move rfl) ?_
    refine G.r (Runs.add rfl rfl (by unfold InR; omega)) ?_
    refine G.r (Runs.idx (α := Int) (xs := f1) Tryd.underlying22 ty3 rfl rfl Sl.o (by omega) (by omega)) ?_
    refine G.e (Eff.set (α := Int) (xs := f1) (e := 3) (new := (at_ f1 (at_ out (itN n out i))) + most) ty3 rfl rfl rfl (by omega) (by omega) (by repeat (first | exact At.head _ _ _ | apply At.tail))) ?_
    rintro _ _ ⟨rfl, rfl⟩
    refine G.nt ?_
    refine W.sub (L' := [(11, _), (1, _), (2, _), (3, _), (7, _)]) (Sub.cons rfl (Sub.cons rfl (Sub.cons rfl (Sub.cons rfl (Sub.cons rfl Sub.nil))))) ?_
    refine W.region ?_
    refine G.r (Runs.fieldAddr fld124_3 rfl) ?_
    refine G.r (Runs.ld ty122) ?_
    refine G.r (Runs.move rfl) ?_
    refine G.r (Runs.idx (α := Arc) (xs := n.arcs) Tryd.underlying122 ty161 rfl rfl (Sl.fit (hl _) Fit.m) (by omega) (by omega)) ?_
    refine G.r (Runs.fld (α := Arc) (xs := n.arcs) fld161_0 rfl (Sl.fit (hl _) Fit.m) (by omega)) ?_
    refine G.r (Runs.getf (α := Arc) (xs := n.arcs) (u := I64 ((at_ n.arcs (at_ out (itN n out i))).frm)) ty3 rfl (Sl.fit (hl _) Fit.m) (by omega) (by omega) rfl) ?_
    refine G.r (Runs.assign rfl) ?_
    refine G.nil ?_
    refine V.block_normal ?_
    exact V.next ((i + 1), (List.set f1 (at_ out (itN n out i)).toNat ((at_ f1 (at_ out (itN n out i))) + most))) (show ((i + 1 : Nat) ≤ j) ∧ (PI n f out most (i + 1 : Nat) (List.set f1 (at_ out (itN n out i)).toNat ((at_ f1 (at_ out (itN n out i))) + most) : List Int)) from ⟨(by omega), (by first | exact (hpi.step hpw hij).1 c68 | exact (hpi.step hpw hij).2 (by omega))⟩) (show j - (i + 1 : Nat) < j - i from (by omega)) (Sub.cons rfl (Sub.cons rfl (Sub.cons rfl (Sub.cons rfl (Sub.cons (lookI rfl (by first | rfl | exact it_pos (by assumption) | exact it_neg (by assumption) | omega)) Sub.nil))))) (show Fit κ _ (blk b1 [I64 (n.nodes), I64 (n.source), I64 (n.sink), v] 124 :: vc 3 (.slice a m c) ((List.set f1 (at_ out (itN n out i)).toNat ((at_ f1 (at_ out (itN n out i))) + most))) :: I) from Fit.sub)
   ·refine W.sr ?_
    refine G.r (Runs.move rfl) ?_
    have hq := hp.neg c68
    have hac := arc_ok hok (i := (-2 - at_ out (itN n out i))) (by omega) (by omega)
    have hcp := cap_ok hpi.cap (i := (-2 - at_ out (itN n out i))) (by omega) (by omega)
    rw [rsN_neg c68] at hr1
    have hcp0 := cap_ok hf.cap (i := (-2 - at_ out (itN n out i))) (by omega) (by omega)
    refine G.r (Runs.move rfl) ?_
    refine G.r (Runs.sub rfl rfl (by unfold InR; omega)) ?_
    refine G.r (Runs.idx (α := Int) (xs := f1) Tryd.underlying22 ty3 rfl rfl Sl.o (by omega) (by omega)) ?_
    refine G.r (Runs.get (xs := f1) ty3 rfl Sl.o (by omega) (by omega)) ?_
    refine G.r (Runs.move rfl) ?_
    refine G.r (Runs.sub rfl rfl (by unfold InR; omega)) ?_
    refine G.r (Runs.idx (α := Int) (xs := f1) Tryd.underlying22 ty3 rfl rfl Sl.o (by omega) (by omega)) ?_
    refine G.e (Eff.set (α := Int) (xs := f1) (e := 3) (new := (at_ f1 ((-2) - (at_ out (itN n out i)))) - most) ty3 rfl rfl rfl (by omega) (by omega) (by repeat (first | exact At.head _ _ _ | apply At.tail))) ?_
    rintro _ _ ⟨rfl, rfl⟩
    refine G.nt ?_
    refine W.sub (L' := [(11, _), (1, _), (2, _), (3, _), (7, _)]) (Sub.cons rfl (Sub.cons rfl (Sub.cons rfl (Sub.cons rfl (Sub.cons rfl Sub.nil))))) ?_
    refine W.region ?_
    refine G.r (Runs.fieldAddr fld124_3 rfl) ?_
    refine G.r (Runs.ld ty122) ?_
    refine G.r (Runs.move rfl) ?_
    refine G.r (Runs.sub rfl rfl (by unfold InR; omega)) ?_
    refine G.r (Runs.idx (α := Arc) (xs := n.arcs) Tryd.underlying122 ty161 rfl rfl (Sl.fit (hl _) Fit.m) (by omega) (by omega)) ?_
    refine G.r (Runs.fld (α := Arc) (xs := n.arcs) fld161_1 rfl (Sl.fit (hl _) Fit.m) (by omega)) ?_
    refine G.r (Runs.getf (α := Arc) (xs := n.arcs) (u := I64 ((at_ n.arcs ((-2) - (at_ out (itN n out i)))).dst)) ty3 rfl (Sl.fit (hl _) Fit.m) (by omega) (by omega) rfl) ?_
    refine G.r (Runs.assign rfl) ?_
    refine G.nil ?_
    refine V.block_normal ?_
    exact V.next ((i + 1), (List.set f1 ((-2) - (at_ out (itN n out i))).toNat ((at_ f1 ((-2) - (at_ out (itN n out i)))) - most))) (show ((i + 1 : Nat) ≤ j) ∧ (PI n f out most (i + 1 : Nat) (List.set f1 ((-2) - (at_ out (itN n out i))).toNat ((at_ f1 ((-2) - (at_ out (itN n out i)))) - most) : List Int)) from ⟨(by omega), (by first | exact (hpi.step hpw hij).1 c68 | exact (hpi.step hpw hij).2 (by omega))⟩) (show j - (i + 1 : Nat) < j - i from (by omega)) (Sub.cons rfl (Sub.cons rfl (Sub.cons rfl (Sub.cons rfl (Sub.cons (lookI rfl (by first | rfl | exact it_pos (by assumption) | exact it_neg (by assumption) | omega)) Sub.nil))))) (show Fit κ _ (blk b1 [I64 (n.nodes), I64 (n.source), I64 (n.sink), v] 124 :: vc 3 (.slice a m c) ((List.set f1 ((-2) - (at_ out (itN n out i))).toNat ((at_ f1 ((-2) - (at_ out (itN n out i)))) - most))) :: I) from Fit.sub)
  ·refine W.exit ?_
   refine V.then_exit ?_
   refine V.then_exit ?_
   refine V.block_hit ?_
   refine V.then ?_
   refine W.sr ?_
   refine G.r (Runs.move rfl) ?_
   refine G.r (Runs.assign rfl) ?_
   refine G.nt ?_
   refine W.ret ?_
   have hij := hpw.eq hi (Decidable.of_not_not c62)
   subst hij
   have hd := hpi.done hok hf (Decidable.of_not_not c17)
   exact V.ret1 rfl rfl (vc 3 (.slice a m c) f1 :: I) Fit.sub ⟨(most, f1), ⟨rfl, hd.1, hd.2, hpw.pos.1⟩, rfl⟩

theorem RPush_at {κ : Ctx} {I : List Item} {F : Item → List Item} {n : Net} {f out : List Int} {v u : Value} {a : Option Addr} {c m : Nat} (hat : AtF I (vc 3 (.slice a m c) f) F) (hl : ∀ g : List Int, Sl κ (F (vc 3 (.slice a m c) g)) v n.arcs) (hu : ∀ g : List Int, Sl κ (F (vc 3 (.slice a m c) g)) u out)
    (hok : n.Ok) (hf : IsFlow n f) (hway : WaySpec n f out) (hsink : Rd out n.sink) :
    CallS Tryd.prog κ 129 [.agg #[I64 n.nodes, I64 n.source, I64 n.sink, v], .slice a m c, u] I fun r J => ∃ d f', r = I64 d ∧ IsFlow n f' ∧ netF n f' n.source = netF n f n.source + d ∧ 1 ≤ d ∧ J = F (vc 3 (.slice a m c) f') :=
  (CallS.at (Post := fun r (y : Int × List Int) => r = I64 y.1 ∧ IsFlow n y.2 ∧ netF n y.2 n.source = netF n f n.source + y.1 ∧ 1 ≤ y.1) (Z := fun _ => []) (X := fun y : Int × List Int => vc 3 (.slice a m c) y.2) hat fun J _ hF => RPush_base (fun g => (hl g).fit (hF _)) (fun g => (hu g).fit (hF _)) hok hf hway hsink).mono fun _ _ ⟨y, ⟨h1, h2, h3, h4⟩, h5⟩ => ⟨y.1, y.2, h1, h2, h3, h4, h5⟩

end Go.Sl
namespace Go.Sl
open Go.Proofs
set_option linter.unusedVariables false
set_option linter.unusedSimpArgs false
set_option maxRecDepth 4000
theorem RMax_ok {κ : Ctx} {I : List Item} {n : Net} {v : Value} (hl : Sl κ I v n.arcs) (hok : n.Ok) :
    CallS Tryd.prog κ 91 [.agg #[I64 (n.nodes), I64 (n.source), I64 (n.sink), v]] I (fun r J => ∃ a c f a' c' side val, r = .tuple #[.agg #[.slice a f.length c, I64 val, .slice a' side.length c'], I64 0] ∧ MaxF n f side val ∧ J = vc 3 (.slice a' side.length c') side :: vc 3 (.slice a f.length c) f :: I) := by
 have hlim := hok.lim
 have hsnk := hok.snk
 have hsrc := hok.src
 refine CallS.enter (L := [(0, .agg #[I64 (n.nodes), I64 (n.source), I64 (n.sink), v])]) Tryd.func91 rfl rfl rfl rfl ?_
 refine W.sr ?_
 refine G.e (Eff.box (cs := [_, _, _, _]) rfl rfl rfl) ?_
 rintro _ _ ⟨b1, rfl, rfl⟩
 refine G.e (Eff.alloc ty119 rfl) ?_
 rintro _ _ ⟨b2, rfl, rfl⟩
 refine G.r (Runs.assign rfl) ?_
 refine G.nt ?_
 refine W.seq ?_
 refine W.sr ?_
 refine G.r (Runs.lds (vs := [_, _, _, _]) ty124) ?_
 refine G.e (Eff.call call127 rfl rfl (RCheck_ok (n := n) (Sl.f hl))) ?_
 rintro _ _ ⟨_, _, ⟨rfl, rfl⟩, rfl, rfl⟩
 refine G.r (Runs.assign rfl) ?_
 refine G.nt ?_
 refine W.sr ?_
 refine G.r (Runs.move rfl) ?_
 refine G.r (Runs.neq rfl rfl) ?_
 refine G.nt ?_
 refine W.ite rfl (fun c11 => ?_) (fun c11 => ?_)
 ·exact absurd (checkN_ok.2 hok) c11
 ·refine W.skip ?_
  refine V.then ?_
  refine W.sr ?_
  refine G.r (Runs.fieldAddr fld124_3 rfl) ?_
  refine G.r (Runs.ld ty122) ?_
  refine G.r (Runs.lenT (α := Arc) (xs := n.arcs) Tryd.underlying122 rfl (Sl.f hl)) ?_
  refine G.e (Eff.make (α := Int) (n := n.arcs.length) Tryd.underlying22 ty3 rfl rfl rfl (by omega) (by omega) (by decide) rfl) ?_
  rintro _ _ ⟨ad3, cp4, rfl, rfl⟩
  refine G.r (Runs.build (cells := [_, _, _]) ty119 Tryd.underlying119 pl119 rfl rfl) ?_
  refine G.e (Eff.alloc ty119 rfl) ?_
  rintro _ _ ⟨b5, rfl, rfl⟩
  refine G.e (Eff.st (cs := [_, _, _]) (vs := [_, _, _]) (cs' := [_, _, _]) ty119) ?_
  rintro _ _ ⟨rfl, rfl⟩
  refine G.nt ?_
  refine W.sub (L' := [(5, _), (2, _), (1, _)]) (Sub.cons rfl (Sub.cons rfl (Sub.cons rfl Sub.nil))) ?_
  refine W.block ?_
  refine W.loop (σ := (List Int) × Int) (fun s => ([(1, .pointer (some ⟨b1, 0, none⟩)), (2, .pointer (some ⟨b2, 0, none⟩)), (5, .pointer (some ⟨b5, 0, none⟩))] : Env)) (fun s => blk b5 [.slice ad3 (List.replicate n.arcs.length (default : Int)).length cp4, I64 (s.2), .slice none 0 0] 119 :: vc 3 (.slice ad3 (List.replicate n.arcs.length (default : Int)).length cp4) (s.1) :: blk b2 [.slice none 0 0, I64 (0), .slice none 0 0] 119 :: blk b1 [I64 (n.nodes), I64 (n.source), I64 (n.sink), v] 124 :: I) (fun s => (IsFlow n s.1) ∧ (s.2 = netF n s.1 n.source) ∧ (0 ≤ s.2)) (fun s => (18014398509481984 - s.2).toNat) (List.replicate n.arcs.length (default : Int), 0) (show (IsFlow n (List.replicate n.arcs.length (default : Int) : List Int)) ∧ ((0 : Int) = netF n (List.replicate n.arcs.length (default : Int) : List Int) n.source) ∧ (0 ≤ (0 : Int)) from ⟨(flow_zero n hok).1, (flow_zero n hok).2.symm, (by omega)⟩) (Sub.cons rfl (Sub.cons rfl (Sub.cons rfl Sub.nil))) (show Fit κ _ (blk b5 [.slice ad3 (List.replicate n.arcs.length (default : Int)).length cp4, I64 ((0)), .slice none 0 0] 119 :: vc 3 (.slice ad3 (List.replicate n.arcs.length (default : Int)).length cp4) ((List.replicate n.arcs.length (default : Int))) :: blk b2 [.slice none 0 0, I64 (0), .slice none 0 0] 119 :: blk b1 [I64 (n.nodes), I64 (n.source), I64 (n.sink), v] 124 :: I) from Fit.sub) ?_
  rintro ⟨f, val⟩ hp
  obtain ⟨hf, hval, hv0⟩ : (IsFlow n f) ∧ (val = netF n f n.source) ∧ (0 ≤ val) := hp
  show W Tryd.prog κ 56 _ _ ([(1, .pointer (some ⟨b1, 0, none⟩)), (2, .pointer (some ⟨b2, 0, none⟩)), (5, .pointer (some ⟨b5, 0, none⟩))] : Env) (blk b5 [.slice ad3 (List.replicate n.arcs.length (default : Int)).length cp4, I64 (val), .slice none 0 0] 119 :: vc 3 (.slice ad3 (List.replicate n.arcs.length (default : Int)).length cp4) (f) :: blk b2 [.slice none 0 0, I64 (0), .slice none 0 0] 119 :: blk b1 [I64 (n.nodes), I64 (n.source), I64 (n.sink), v] 124 :: I)
  have hfl := hf.len
  have hvb := value_le hok hf (fun z => z == n.source) (by simp) (by simpa using fun e => hok.ne e.symm)
  have hcb := (cut_nonneg_le hok (fun z => z == n.source)).2
  refine W.block ?_
  refine W.sr ?_
  refine G.r (Runs.lds (vs := [_, _, _, _]) ty124) ?_
  refine G.r (Runs.fieldAddr fld119_0 rfl) ?_
  refine G.r (Runs.ld ty22) ?_
  refine G.e (Eff.call call128 rfl rfl (Way_ok (n := n) (Sl.f hl) Sl.o hok hf.len)) ?_
  rintro _ _ ⟨_, _, ⟨ad6, cp7, w8, rfl, hw8, rfl⟩, rfl, rfl⟩
  have hwl := hw8.len
  refine G.r (Runs.assign rfl) ?_
  refine G.nt ?_
  refine W.seq ?_
  refine W.sr ?_
  refine G.r (Runs.move rfl) ?_
  refine G.r (Runs.fieldAddr fld124_2 rfl) ?_
  refine G.r (Runs.ld ty3) ?_
  refine G.r (Runs.idx (α := Int) (xs := w8) Tryd.underlying22 ty3 rfl rfl Sl.o (by omega) (by omega)) ?_
  refine G.r (Runs.get (xs := w8) ty3 rfl Sl.o (by omega) (by omega)) ?_
  refine G.r (Runs.eql rfl rfl) ?_
  refine G.nt ?_
  refine W.sub (L' := [(28, _), (6, _), (1, _), (2, _), (5, _)]) (Sub.cons rfl (Sub.cons rfl (Sub.cons rfl (Sub.cons rfl (Sub.cons rfl Sub.nil))))) ?_
  refine W.ite rfl (fun c28 => ?_) (fun c28 => ?_)
  ·refine W.seq ?_
   refine W.sr ?_
   refine G.r (Runs.fieldAddr fld124_0 rfl) ?_
   refine G.r (Runs.ld ty3) ?_
   refine G.r (Runs.move rfl) ?_
   refine G.nt ?_
   refine W.block ?_
   refine W.loop (σ := Nat × (Option Addr) × Nat × (List Int)) (fun s => ([(2, .pointer (some ⟨b2, 0, none⟩)), (5, .pointer (some ⟨b5, 0, none⟩)), (6, .slice ad6 w8.length cp7), (30, I64 (n.nodes)), (31, I64 (((s.1 : Nat) : Int)))] : Env)) (fun s => vc 3 (.slice s.2.1 s.2.2.2.length s.2.2.1) (s.2.2.2) :: vc 3 (.slice ad6 w8.length cp7) (w8) :: blk b5 [.slice ad3 (List.replicate n.arcs.length (default : Int)).length cp4, I64 (val), .slice s.2.1 s.2.2.2.length s.2.2.1] 119 :: vc 3 (.slice ad3 (List.replicate n.arcs.length (default : Int)).length cp4) (f) :: blk b2 [.slice none 0 0, I64 (0), .slice none 0 0] 119 :: blk b1 [I64 (n.nodes), I64 (n.source), I64 (n.sink), v] 124 :: I) (fun s => (s.1 ≤ n.nodes.toNat) ∧ (s.2.2.2 = sideL s.1 (fun z => decide (Rd w8 z)))) (fun s => n.nodes.toNat - s.1) (0, none, 0, []) (show ((0 : Nat) ≤ n.nodes.toNat) ∧ (([] : List Int) = sideL (0 : Nat) (fun z => decide (Rd w8 z))) from ⟨(by omega), rfl⟩) (Sub.cons rfl (Sub.cons rfl (Sub.cons rfl (Sub.cons rfl (Sub.cons lookO Sub.nil))))) (show Fit κ _ (vc 3 (.slice (none) ([]).length (0)) (([])) :: vc 3 (.slice ad6 w8.length cp7) (w8) :: blk b5 [.slice ad3 (List.replicate n.arcs.length (default : Int)).length cp4, I64 (val), .slice (none) ([]).length (0)] 119 :: vc 3 (.slice ad3 (List.replicate n.arcs.length (default : Int)).length cp4) (f) :: blk b2 [.slice none 0 0, I64 (0), .slice none 0 0] 119 :: blk b1 [I64 (n.nodes), I64 (n.source), I64 (n.sink), v] 124 :: I) from (Fit.nilvc _ _)) ?_
   rintro ⟨k, a, c, side⟩ hp
   obtain ⟨hk, hs⟩ : (k ≤ n.nodes.toNat) ∧ (side = sideL k (fun z => decide (Rd w8 z))) := hp
   show W Tryd.prog κ 56 _ _ ([(2, .pointer (some ⟨b2, 0, none⟩)), (5, .pointer (some ⟨b5, 0, none⟩)), (6, .slice ad6 w8.length cp7), (30, I64 (n.nodes)), (31, I64 (((k : Nat) : Int)))] : Env) (vc 3 (.slice a side.length c) (side) :: vc 3 (.slice ad6 w8.length cp7) (w8) :: blk b5 [.slice ad3 (List.replicate n.arcs.length (default : Int)).length cp4, I64 (val), .slice a side.length c] 119 :: vc 3 (.slice ad3 (List.replicate n.arcs.length (default : Int)).length cp4) (f) :: blk b2 [.slice none 0 0, I64 (0), .slice none 0 0] 119 :: blk b1 [I64 (n.nodes), I64 (n.source), I64 (n.sink), v] 124 :: I)
   have hsl : side.length ≤ k := by rw [hs]; exact sideL_len _ _
   refine W.sr ?_
   refine G.r (Runs.lss rfl rfl) ?_
   refine G.nt ?_
   refine W.seq ?_
   refine W.ite rfl (fun c32 => ?_) (fun c32 => ?_)
   ·refine W.skip ?_
    refine V.then ?_
    refine W.seq ?_
    refine W.block ?_
    refine W.sr ?_
    refine G.r (Runs.move rfl) ?_
    refine G.r (Runs.assign rfl) ?_
    refine G.nt ?_
    refine W.sr ?_
    refine G.r (Runs.move rfl) ?_
    refine G.r (Runs.move rfl) ?_
    refine G.r (Runs.idx (α := Int) (xs := w8) Tryd.underlying22 ty3 rfl rfl Sl.o (by omega) (by omega)) ?_
    refine G.r (Runs.get (xs := w8) ty3 rfl Sl.o (by omega) (by omega)) ?_
    refine G.r (Runs.neq rfl rfl) ?_
    refine G.nt ?_
    refine W.ite rfl (fun c38 => ?_) (fun c38 => ?_)
    ·refine W.region ?_
     refine G.r (Runs.fieldAddr fld119_2 rfl) ?_
     refine G.r (Runs.ld ty22) ?_
     refine G.r (Runs.move rfl) ?_
     refine G.e (Eff.bs (α := Int) (cs := [_]) (xs := [((k : Nat) : Int)]) Tryd.underlying22 ty3 rfl rfl (by decide) (by decide) rfl rfl rfl rfl) ?_
     rintro _ _ ⟨ad9, rfl, rfl⟩
     refine G.e (Eff.app (α := Int) (e := 3) (xs := side) (ys := ([((k : Nat) : Int)] : List Int)) Tryd.underlying22 ty3 rfl rfl rfl (by repeat (first | exact List.mem_cons_self | apply List.mem_cons_of_mem)) Sl.o (by simp only [List.length_cons, List.length_nil]; omega) (by decide) rfl (fun _ _ => (by repeat (first | exact At.head _ _ _ | apply At.tail)))) ?_
     rintro _ _ ⟨ad10, cp11, rfl, rfl⟩
     refine G.r (Runs.fieldAddr fld119_2 rfl) ?_
     refine G.e (Eff.st (cs := [_, _, _]) (vs := [_]) (cs' := [_, _, _]) ty22) ?_
     rintro _ _ ⟨rfl, rfl⟩
     refine G.nil ?_
     refine V.block_normal ?_
     refine V.then ?_
     refine W.sub (L' := [(2, _), (5, _), (6, _), (30, _), (31, _)]) (Sub.cons rfl (Sub.cons rfl (Sub.cons rfl (Sub.cons rfl (Sub.cons rfl Sub.nil))))) ?_
     refine W.region ?_
     refine G.r (Runs.add rfl rfl (by unfold InR; omega)) ?_
     refine G.r (Runs.move rfl) ?_
     refine G.nil ?_
     exact V.next ((k + 1), (ad10), (cp11), (side ++ ([((k : Nat) : Int)] : List Int))) (show ((k + 1 : Nat) ≤ n.nodes.toNat) ∧ ((side ++ ([((k : Nat) : Int)] : List Int) : List Int) = sideL (k + 1 : Nat) (fun z => decide (Rd w8 z))) from ⟨(by omega), (by first | (rw [hs, sideL_yes]; exact decide_eq_true ⟨by omega, c38⟩) | (rw [hs, sideL_no]; exact decide_eq_false fun h => c38 h.2))⟩) (show n.nodes.toNat - (k + 1 : Nat) < n.nodes.toNat - k from (by omega)) (Sub.cons rfl (Sub.cons rfl (Sub.cons rfl (Sub.cons rfl (Sub.cons lookO Sub.nil))))) (show Fit κ _ (vc 3 (.slice (ad10) (side ++ ([((k : Nat) : Int)] : List Int)).length (cp11)) ((side ++ ([((k : Nat) : Int)] : List Int))) :: vc 3 (.slice ad6 w8.length cp7) (w8) :: blk b5 [.slice ad3 (List.replicate n.arcs.length (default : Int)).length cp4, I64 (val), .slice (ad10) (side ++ ([((k : Nat) : Int)] : List Int)).length (cp11)] 119 :: vc 3 (.slice ad3 (List.replicate n.arcs.length (default : Int)).length cp4) (f) :: blk b2 [.slice none 0 0, I64 (0), .slice none 0 0] 119 :: blk b1 [I64 (n.nodes), I64 (n.source), I64 (n.sink), v] 124 :: I) from Fit.sub)
    ·refine W.skip ?_
     refine V.block_normal ?_
     refine V.then ?_
     refine W.region ?_
     refine G.r (Runs.add rfl rfl (by unfold InR; omega)) ?_
     refine G.r (Runs.move rfl) ?_
     refine G.nil ?_
     exact V.next ((k + 1), (a), (c), (side)) (show ((k + 1 : Nat) ≤ n.nodes.toNat) ∧ ((side : List Int) = sideL (k + 1 : Nat) (fun z => decide (Rd w8 z))) from ⟨(by omega), (by first | (rw [hs, sideL_yes]; exact decide_eq_true ⟨by omega, c38⟩) | (rw [hs, sideL_no]; exact decide_eq_false fun h => c38 h.2))⟩) (show n.nodes.toNat - (k + 1 : Nat) < n.nodes.toNat - k from (by omega)) (Sub.cons rfl (Sub.cons rfl (Sub.cons rfl (Sub.cons rfl (Sub.cons lookO Sub.nil))))) (show Fit κ _ (vc 3 (.slice (a) (side).length (c)) ((side)) :: vc 3 (.slice ad6 w8.length cp7) (w8) :: blk b5 [.slice ad3 (List.replicate n.arcs.length (default : Int)).length cp4, I64 (val), .slice (a) (side).length (c)] 119 :: vc 3 (.slice ad3 (List.replicate n.arcs.length (default : Int)).length cp4) (f) :: blk b2 [.slice none 0 0, I64 (0), .slice none 0 0] 119 :: blk b1 [I64 (n.nodes), I64 (n.source), I64 (n.sink), v] 124 :: I) from Fit.sub)
   ·refine W.exit ?_
    refine V.then_exit ?_
    refine V.then_exit ?_
    refine V.block_hit ?_
    refine V.then ?_
    refine W.sr ?_
    refine G.r (Runs.lds (vs := [_, _, _]) ty119) ?_
    refine G.e (Eff.st (cs := [_, _, _]) (vs := [_, _, _]) (cs' := [_, _, _]) ty119) ?_
    rintro _ _ ⟨rfl, rfl⟩
    refine G.r (Runs.assign rfl) ?_
    refine G.nt ?_
    refine W.ret ?_
    refine V.then_ret ?_
    refine V.block_ret ?_
    refine V.then_ret ?_
    refine V.block_ret ?_
    have hkn : k = n.nodes.toNat := by omega
    subst hkn
    have hfl2 : (List.replicate n.arcs.length (default : Int)).length = f.length := by rw [List.length_replicate, hfl]
    exact V.retc1 rfl ty119 rfl rfl (by repeat (first | exact List.mem_cons_self | apply List.mem_cons_of_mem)) rfl (vc 3 (.slice a side.length c) side :: vc 3 (.slice ad3 (List.replicate n.arcs.length (default : Int)).length cp4) f :: I) Fit.sub ⟨ad3, cp4, f, a, c, side, val, by rw [hfl2], ⟨hf, hval, _, hw8.least hok c28, hs⟩, by rw [hfl2]⟩
  ·refine W.skip ?_
   refine V.then ?_
   refine W.drawn mixed ?_
   refine A.hold (blk b5 [.slice ad3 (List.replicate n.arcs.length (default : Int)).length cp4, I64 (val), .slice none 0 0] 119 :: blk b2 [.slice none 0 0, I64 (0), .slice none 0 0] 119 :: blk b1 [I64 (n.nodes), I64 (n.source), I64 (n.sink), v] 124 :: I) 9 ?_
   refine D.r 0 rfl (Runs.fieldAddr fld119_1 rfl) ?_ (hJ := Fit.sub)
   refine D.r 1 rfl (Runs.ld ty3) ?_ (hJ := Fit.sub)
   refine D.r 2 rfl (Runs.lds (vs := [_, _, _, _]) ty124) ?_ (hJ := Fit.sub)
   refine D.r 3 rfl (Runs.fieldAddr fld119_0 rfl) ?_ (hJ := Fit.sub)
   refine D.r 4 rfl (Runs.ld ty22) ?_ (hJ := Fit.sub)
   refine D.r 5 rfl (Runs.move rfl) ?_ (hJ := Fit.sub)
   refine D.step (rs := [6]) (by kernel_rfl) rfl rfl (all1 ?_)
   refine Step.eff rfl (Wanted.plain rfl) (Eff.call call129 rfl rfl (RPush_at (n := n) (by repeat (first | exact AtF.head _ _ | apply AtF.tail)) (fun _ => Sl.fit hl Fit.m) (fun _ => Sl.vec (by repeat (first | exact List.mem_cons_self | apply List.mem_cons_of_mem))) hok hf hw8 ⟨by omega, c28⟩)) ?_
   rintro _ _ ⟨_, _, ⟨d12, f13, rfl, hf13, hvf13, hdd12, rfl⟩, rfl, rfl⟩
   refine ⟨Fit.sub, ?_⟩
   show D Tryd.prog κ _ _ _ _ _ _ _ ([(53, I64 (d12)), (52, .slice ad6 w8.length cp7), (51, .slice ad3 (List.replicate n.arcs.length (default : Int)).length cp4), (50, .pointer (some ⟨b5, 0, none⟩)), (49, .agg #[I64 (n.nodes), I64 (n.source), I64 (n.sink), v]), (48, I64 (val)), (47, .pointer (some ⟨b5, 1, none⟩)), (28, .bool (decide ((at_ w8 n.sink) = (-1)))), (6, .slice ad6 w8.length cp7), (1, .pointer (some ⟨b1, 0, none⟩)), (2, .pointer (some ⟨b2, 0, none⟩)), (5, .pointer (some ⟨b5, 0, none⟩))] : Env) (vc 3 (.slice ad6 w8.length cp7) (w8) :: blk b5 [.slice ad3 (List.replicate n.arcs.length (default : Int)).length cp4, I64 (val), .slice none 0 0] 119 :: vc 3 (.slice ad3 (List.replicate n.arcs.length (default : Int)).length cp4) (f13) :: blk b2 [.slice none 0 0, I64 (0), .slice none 0 0] 119 :: blk b1 [I64 (n.nodes), I64 (n.source), I64 (n.sink), v] 124 :: I)
   have h9 := value_le hok hf13 (fun z => z == n.source) (by simp) (by simpa using fun e => hok.ne e.symm)
   refine D.r 7 rfl (Runs.add rfl rfl (by unfold InR; omega)) ?_ (hJ := Fit.sub)
   refine D.r 8 rfl (Runs.fieldAddr fld119_1 rfl) ?_ (hJ := Fit.sub)
   refine D.stop (by kernel_rfl) ?_
   refine A.eff (i := 9) (by kernel_rfl) rfl (Wanted.plain rfl) (Eff.st (cs := [_, _, _]) (vs := [_]) (cs' := [_, _, _]) ty3) ?_
   rintro _ _ ⟨rfl, rfl⟩
   refine A.done (by kernel_rfl) ?_
   refine V.block_normal ?_
   exact V.next ((f13), (val + d12)) (show (IsFlow n (f13 : List Int)) ∧ ((val + d12 : Int) = netF n (f13 : List Int) n.source) ∧ (0 ≤ (val + d12 : Int)) from ⟨hf13, (by rw [hval]; exact hvf13.symm), (by omega)⟩) (show (18014398509481984 - (val + d12 : Int)).toNat < (18014398509481984 - val).toNat from (by omega)) (Sub.cons rfl (Sub.cons rfl (Sub.cons rfl Sub.nil))) (show Fit κ _ (blk b5 [.slice ad3 (List.replicate n.arcs.length (default : Int)).length cp4, I64 ((val + d12)), .slice none 0 0] 119 :: vc 3 (.slice ad3 (List.replicate n.arcs.length (default : Int)).length cp4) ((f13)) :: blk b2 [.slice none 0 0, I64 (0), .slice none 0 0] 119 :: blk b1 [I64 (n.nodes), I64 (n.source), I64 (n.sink), v] 124 :: I) from Fit.sub)

end Go.Sl
namespace Go.Sl
open Go.Proofs
set_option linter.unusedVariables false
set_option linter.unusedSimpArgs false
set_option maxRecDepth 4000

end Go.Sl
namespace Go.Sl
open Go.Proofs
set_option linter.unusedVariables false
set_option linter.unusedSimpArgs false
set_option maxRecDepth 4000
end Go.Sl
namespace Go.Sl
open Go.Proofs
set_option linter.unusedVariables false
set_option linter.unusedSimpArgs false
set_option maxRecDepth 4000
end Go.Sl
