/- A part of the proofs of statements of this seat: contracts of functions, and the plain laws that they lean on. No conditions. -/
import Derived.Test.YtbimaodbcjjbfaaDoorNet
/- Layers and sending along them: the plain law. No Go. -/
namespace Go.Sl
set_option linter.unusedVariables false

/-! ### Half arcs -/
structure Half where
  frm : Int
  dst : Int
  cap : Int
  left : Int
deriving Inhabited

def fromH (n : Net) (i : Int) : Int := if i % 2 = 0 then (at_ n.arcs (i / 2)).frm else (at_ n.arcs (i / 2)).dst
def toH (n : Net) (i : Int) : Int := if i % 2 = 0 then (at_ n.arcs (i / 2)).dst else (at_ n.arcs (i / 2)).frm
def leftH (n : Net) (f : List Int) (i : Int) : Int := if i % 2 = 0 then (at_ n.arcs (i / 2)).cap - at_ f (i / 2) else at_ f (i / 2)
def mateH (i : Int) : Int := if i % 2 = 0 then i + 1 else i - 1
/-- i is the number of a half arc. -/
def InH (n : Net) (i : Int) : Prop := 0 ≤ i ∧ i < 2 * n.arcs.length

def CapF (n : Net) (f : List Int) : Prop := ∀ k : Nat, k < n.arcs.length → 0 ≤ at_ f (k : Int) ∧ at_ f (k : Int) ≤ (at_ n.arcs (k : Int)).cap

/-- hs holds the flow f. -/
structure HOk (n : Net) (f : List Int) (hs : List Half) : Prop where
  len : (hs.length : Int) = 2 * n.arcs.length
  flen : f.length = n.arcs.length
  cap : CapF n f
  get : ∀ i, InH n i → (at_ hs i).frm = fromH n i ∧ (at_ hs i).dst = toH n i ∧ (at_ hs i).left = leftH n f i

/-- The rows of half arcs by the node that they leave. -/
structure ROk (n : Net) (rs : List (List Int)) : Prop where
  len : (rs.length : Int) = n.nodes
  all : ∀ v, 0 ≤ v → v < n.nodes → ∀ i ∈ at_ rs v, InH n i ∧ fromH n i = v
  has : ∀ i, InH n i → i ∈ at_ rs (fromH n i)

section
variable {n : Net} {f g : List Int} {hs : List Half} {rs : List (List Int)} {i j : Int}

theorem InH.half (h : InH n i) : 0 ≤ i / 2 ∧ i / 2 < n.arcs.length := by unfold InH at h; omega
theorem InH.mate (h : InH n i) : InH n (mateH i) := by unfold InH mateH at *; split <;> omega
theorem mate_mate (i : Int) : mateH (mateH i) = i := by unfold mateH; split <;> split <;> omega
theorem mate_ne (i : Int) : mateH i ≠ i := by unfold mateH; split <;> omega
theorem mate_half (i : Int) : mateH i / 2 = i / 2 := by unfold mateH; split <;> omega
theorem mate_par (i : Int) : mateH i % 2 = 0 ↔ ¬ i % 2 = 0 := by unfold mateH; split <;> omega
theorem from_mate (n : Net) (i : Int) : fromH n (mateH i) = toH n i := by
  unfold fromH toH; rw [mate_half]
  by_cases h : i % 2 = 0
  · rw [if_neg (fun h' => (mate_par i).1 h' h), if_pos h]
  · rw [if_pos ((mate_par i).2 h), if_neg h]
theorem to_mate (n : Net) (i : Int) : toH n (mateH i) = fromH n i := by rw [← from_mate, mate_mate]
theorem left_sum (n : Net) (f : List Int) (i : Int) : leftH n f i + leftH n f (mateH i) = (at_ n.arcs (i / 2)).cap := by
  unfold leftH; rw [mate_half]
  by_cases h : i % 2 = 0
  · rw [if_neg (fun h' => (mate_par i).1 h' h), if_pos h]; omega
  · rw [if_pos ((mate_par i).2 h), if_neg h]; omega
theorem left_ok (hc : CapF n f) (h : InH n i) : 0 ≤ leftH n f i ∧ leftH n f i ≤ (at_ n.arcs (i / 2)).cap := by
  have := cap_ok hc h.half.1 h.half.2
  unfold leftH
  split <;> omega
theorem from_ok (hok : n.Ok) (h : InH n i) : (0 ≤ fromH n i ∧ fromH n i < n.nodes) ∧ (0 ≤ toH n i ∧ toH n i < n.nodes) ∧ fromH n i ≠ toH n i := by
  have := arc_ok hok h.half.1 h.half.2
  unfold fromH toH
  split <;> omega

/-- d more over half arc i. -/
def pushF (f : List Int) (i d : Int) : List Int := if i % 2 = 0 then f.set (i / 2).toNat (at_ f (i / 2) + d) else f.set (i / 2).toNat (at_ f (i / 2) - d)
def pushHs (hs : List Half) (i d : Int) : List Half :=
  (hs.set i.toNat { at_ hs i with left := (at_ hs i).left - d }).set (mateH i).toNat { at_ (hs.set i.toNat { at_ hs i with left := (at_ hs i).left - d }) (mateH i) with left := (at_ (hs.set i.toNat { at_ hs i with left := (at_ hs i).left - d }) (mateH i)).left + d }

theorem pushF_len (d : Int) : (pushF f i d).length = f.length := by unfold pushF; split <;> simp
theorem pushF_at (hl : f.length = n.arcs.length) (h : InH n i) (d : Int) (hj : 0 ≤ j) : at_ (pushF f i d) j = at_ f j + if i / 2 = j then (if i % 2 = 0 then d else -d) else 0 := by
  have := h.half
  unfold pushF
  by_cases hp : i % 2 = 0
  · rw [if_pos hp, if_pos hp, at_set f (i / 2) j _ (by omega) hj (by omega)]
    split
    · rename_i e; rw [e]
    · omega
  · rw [if_neg hp, if_neg hp, at_set f (i / 2) j _ (by omega) hj (by omega)]
    split
    · rename_i e; rw [e]; omega
    · omega
theorem left_push (hl : f.length = n.arcs.length) (h : InH n i) (d : Int) (hj : InH n j) : leftH n (pushF f i d) j = leftH n f j + (if j = i then -d else 0) + (if j = mateH i then d else 0) := by
  have h1 := h.half
  have h2 := hj.half
  unfold leftH
  rw [pushF_at hl h d h2.1]
  unfold mateH
  by_cases hi : i % 2 = 0 <;> by_cases hjp : j % 2 = 0 <;> by_cases hh : i / 2 = j / 2
  all_goals simp only [hi, hjp, hh, if_true, if_false]
  all_goals (repeat' split) <;> omega
theorem pushF_cap (hl : f.length = n.arcs.length) (hc : CapF n f) (h : InH n i) {d : Int} (h0 : 0 ≤ d) (hd : d ≤ leftH n f i) : CapF n (pushF f i d) := fun k hk => by
  rw [pushF_at hl h d (by omega)]
  have := hc k hk
  unfold leftH at hd
  by_cases hi : i % 2 = 0 <;> by_cases hh : i / 2 = (k : Int)
  all_goals simp only [hi, if_true, if_false] at hd
  all_goals simp only [hi, hh, if_true, if_false]
  all_goals (try rw [hh] at hd)
  all_goals omega
theorem netF_push (hl : f.length = n.arcs.length) (h : InH n i) (d z : Int) : netF n (pushF f i d) z = netF n f z + (if fromH n i = z then d else 0) - (if toH n i = z then d else 0) := by
  have h1 := h.half
  unfold pushF fromH toH
  have e : ((((i / 2).toNat : Nat)) : Int) = i / 2 := by omega
  by_cases hp : i % 2 = 0
  · rw [if_pos hp, if_pos hp, if_pos hp, netF_set (by omega) hl, e]
    split <;> split <;> omega
  · rw [if_neg hp, if_neg hp, if_neg hp, netF_set (by omega) hl, e]
    split <;> split <;> omega
theorem HOk.push (h : HOk n f hs) (hi : InH n i) {d : Int} (h0 : 0 ≤ d) (hd : d ≤ leftH n f i) : HOk n (pushF f i d) (pushHs hs i d) := by
  have hl := h.len
  have hm := hi.mate
  refine ⟨by unfold pushHs; simp; exact h.len, (pushF_len d).trans h.flen, pushF_cap h.flen h.cap hi h0 hd, fun j hj => ?_⟩
  have hne := mate_ne i
  have e1 : at_ (hs.set i.toNat { at_ hs i with left := (at_ hs i).left - d }) (mateH i) = at_ hs (mateH i) := by
    rw [at_set hs i _ _ hi.1 hm.1 (by have := hi.2; omega), if_neg (fun e => hne e.symm)]
  have ej : at_ (pushHs hs i d) j = if mateH i = j then { at_ hs (mateH i) with left := (at_ hs (mateH i)).left + d } else if i = j then { at_ hs i with left := (at_ hs i).left - d } else at_ hs j := by
    unfold pushHs
    rw [at_set _ (mateH i) j _ hm.1 hj.1 (by rw [List.length_set]; have := hm.2; omega), e1, at_set hs i j _ hi.1 hj.1 (by have := hi.2; omega)]
  rw [ej, left_push h.flen hi d hj]
  by_cases a : mateH i = j
  · subst a
    rw [if_pos rfl, if_neg hne, if_pos rfl]
    have := h.get _ hm
    exact ⟨this.1, this.2.1, by show (at_ hs (mateH i)).left + d = _; omega⟩
  · rw [if_neg a, if_neg (show ¬ j = mateH i from fun e => a e.symm)]
    by_cases b : i = j
    · subst b
      rw [if_pos rfl, if_pos rfl]
      have := h.get _ hi
      exact ⟨this.1, this.2.1, by show (at_ hs i).left - d = _; omega⟩
    · rw [if_neg b, if_neg (show ¬ j = i from fun e => b e.symm)]
      have := h.get _ hj
      exact ⟨this.1, this.2.1, by omega⟩

/-! ### What shut means of half arcs -/
theorem shut_half {S : Int → Bool} : Shut n f S ↔ ∀ i, InH n i → S (fromH n i) = true → 0 < leftH n f i → S (toH n i) = true := by
  constructor
  · intro h i hi hs hl
    have h1 := hi.half
    have e : ((((i / 2).toNat : Nat)) : Int) = i / 2 := by omega
    have := h (i / 2).toNat (by omega)
    rw [e] at this
    unfold fromH at hs
    unfold leftH at hl
    unfold toH
    by_cases hp : i % 2 = 0
    · rw [if_pos hp] at *; exact this.1 hs (by omega)
    · rw [if_neg hp] at *; exact this.2 hs hl
  · intro h k hk
    have h1 := h (2 * (k : Int)) (by unfold InH; omega)
    have h2 := h (2 * (k : Int) + 1) (by unfold InH; omega)
    unfold fromH toH leftH at h1 h2
    rw [if_pos (by omega), if_pos (by omega), if_pos (by omega), show (2 * (k : Int)) / 2 = k from by omega] at h1
    rw [if_neg (by omega), if_neg (by omega), if_neg (by omega), show (2 * (k : Int) + 1) / 2 = k from by omega] at h2
    exact ⟨fun a b => h1 a (by omega), h2⟩

/-! ### Ways along the layers -/
/-- From z there is a way to the sink along the levels L, with something left. -/
inductive Adm (n : Net) (f L : List Int) : Int → Prop
  | sink : Adm n f L n.sink
  | step (i : Int) : InH n i → 0 < leftH n f i → at_ L (toH n i) = at_ L (fromH n i) + 1 → Adm n f L (toH n i) → Adm n f L (fromH n i)

/-- Half arcs of a layer have not more left in f' than in f. -/
def Less (n : Net) (L f f' : List Int) : Prop := ∀ i, InH n i → at_ L (toH n i) = at_ L (fromH n i) + 1 → leftH n f' i ≤ leftH n f i
theorem Less.refl (n : Net) (L f : List Int) : Less n L f f := fun _ _ _ => Int.le_refl _
theorem Less.trans {L h : List Int} (a : Less n L f g) (b : Less n L g h) : Less n L f h := fun i hi hl => Int.le_trans (b i hi hl) (a i hi hl)
theorem Adm.less {L f' : List Int} (hl : Less n L f f') {z : Int} (h : Adm n f' L z) : Adm n f L z := by
  induction h with
  | sink => exact .sink
  | step i hi hp hL _ ih => exact .step i hi (by have := hl i hi hL; omega) hL ih

/-- Half arcs that are useless are behind the marks nx. -/
def Dead (n : Net) (rs : List (List Int)) (L f nx : List Int) : Prop := ∀ u, 0 ≤ u → u < n.nodes → ∀ j : Nat, (j : Int) < at_ nx u → j < (at_ rs u).length →
  ¬ (0 < leftH n f (at_ (at_ rs u) (j : Int)) ∧ at_ L (toH n (at_ (at_ rs u) (j : Int))) = at_ L u + 1 ∧ Adm n f L (toH n (at_ (at_ rs u) (j : Int))))
theorem Dead.less {L f' nx : List Int} (hr : ROk n rs) (hl : Less n L f f') (h : Dead n rs L f nx) : Dead n rs L f' nx := fun u h0 h1 j hj hjl ⟨a, b, c⟩ => by
  have hm := hr.all u h0 h1 _ (at_mem (xs := at_ rs u) (i := (j : Int)) (by omega) (by omega))
  refine h u h0 h1 j hj hjl ⟨?_, b, c.less hl⟩
  have := hl _ hm.1 (by rw [hm.2]; exact b)
  omega
theorem Dead.adv {L nx : List Int} {v : Int} (h : Dead n rs L f nx) (hv : 0 ≤ v ∧ v < nx.length) (hx : 0 ≤ at_ nx v)
    (hd : ¬ (0 < leftH n f (at_ (at_ rs v) (at_ nx v)) ∧ at_ L (toH n (at_ (at_ rs v) (at_ nx v))) = at_ L v + 1 ∧ Adm n f L (toH n (at_ (at_ rs v) (at_ nx v))))) : Dead n rs L f (nx.set v.toNat (at_ nx v + 1)) := fun u h0 h1 j hj hjl => by
  rw [at_set nx v u _ hv.1 h0 hv.2] at hj
  by_cases e : v = u
  · subst e
    rw [if_pos rfl] at hj
    by_cases hj' : (j : Int) < at_ nx v
    · exact h v h0 h1 j hj' hjl
    · rw [show (j : Int) = at_ nx v from by omega]; exact hd
  · rw [if_neg e] at hj; exact h u h0 h1 j hj hjl
theorem Dead.not {L nx : List Int} {v : Int} (hr : ROk n rs) (h : Dead n rs L f nx) (hv : 0 ≤ v ∧ v < n.nodes) (hs : v ≠ n.sink) (hx : (at_ rs v).length ≤ at_ nx v) : ¬ Adm n f L v := fun ha => by
  cases ha with
  | sink => exact hs rfl
  | step i hi hp hL hA =>
    obtain ⟨j, hj, e⟩ := mem_at (hr.has i hi)
    refine h _ hv.1 hv.2 j (by omega) hj ?_
    rw [e]; exact ⟨hp, hL, hA⟩

/-- What sending d from v to the sink does. -/
structure PushR (n : Net) (rs : List (List Int)) (L : List Int) (v d : Int) (f nx f' nx' : List Int) : Prop where
  len : f'.length = n.arcs.length
  cap : CapF n f'
  net : ∀ z, netF n f' z = netF n f z + (if v = z then d else 0) - (if n.sink = z then d else 0)
  less : Less n L f f'
  same : ∀ i, InH n i → (at_ L (fromH n i) < at_ L v ∨ at_ L (toH n i) < at_ L v) → leftH n f' i = leftH n f i
  dead : Dead n rs L f' nx'
  nlen : nx'.length = nx.length
  nge : ∀ z, 0 ≤ z → z < n.nodes → 0 ≤ at_ nx' z
  nsame : ∀ z, 0 ≤ z → z < n.nodes → z ≠ v → at_ L z ≤ at_ L v → at_ nx' z = at_ nx z
  zero : d = 0 → f' = f

variable {L nx f' nx' : List Int} {v d : Int}
theorem PushR.start (hl : f.length = n.arcs.length) (hc : CapF n f) (hd : Dead n rs L f nx) (hx : ∀ z, 0 ≤ z → z < n.nodes → 0 ≤ at_ nx z) (v : Int) : PushR n rs L v 0 f nx f nx :=
  ⟨hl, hc, fun z => by simp, Less.refl _ _ _, fun _ _ _ => rfl, hd, rfl, hx, fun _ _ _ _ _ => rfl, fun _ => rfl⟩

/-- The mark moves on. -/
theorem PushR.adv (h : PushR n rs L v d f nx f' nx') (hv : 0 ≤ v ∧ v < nx'.length)
    (hd : ¬ (0 < leftH n f' (at_ (at_ rs v) (at_ nx' v)) ∧ at_ L (toH n (at_ (at_ rs v) (at_ nx' v))) = at_ L v + 1 ∧ Adm n f' L (toH n (at_ (at_ rs v) (at_ nx' v))))) (hn : v < n.nodes) : PushR n rs L v d f nx f' (nx'.set v.toNat (at_ nx' v + 1)) :=
  ⟨h.len, h.cap, h.net, h.less, h.same, h.dead.adv hv (h.nge v hv.1 hn) hd, by rw [List.length_set]; exact h.nlen, fun z h0 h1 => by
    rw [at_set nx' v z _ hv.1 h0 hv.2]
    have := h.nge v hv.1 hn
    have := h.nge z h0 h1
    split <;> omega, fun z h0 h1 hz hL => by
    rw [at_set nx' v z _ hv.1 h0 hv.2, if_neg (fun e => hz e.symm)]; exact h.nsame z h0 h1 hz hL, h.zero⟩

theorem pushF_zero (hl : f.length = n.arcs.length) (hi : InH n i) : pushF f i 0 = f := by
  have h1 := hi.half
  have e : ∀ x : Int, x = at_ f (i / 2) → f.set (i / 2).toNat x = f := fun x hx => by
    subst hx
    rw [at_eq (by omega) (by omega)]
    exact List.set_getElem_self _
  unfold pushF
  split
  · exact e _ (by omega)
  · exact e _ (by omega)

/-- Sending further, from half arc i on, and over it. -/
theorem PushR.put (hok : n.Ok) (hr : ROk n rs) {i e : Int} {g ng : List Int} (h : PushR n rs L v d f nx f' nx') (hi : InH n i) (hf : fromH n i = v) (hL : at_ L (toH n i) = at_ L v + 1)
    (h0 : 0 ≤ d) (he : 0 ≤ e) (hle : e ≤ leftH n f' i) (h2 : PushR n rs L (toH n i) e f' nx' g ng) : PushR n rs L v (d + e) f nx (pushF g i e) ng ∧ at_ ng v = at_ nx' v ∧ leftH n g i = leftH n f' i := by
  have hfo := from_ok hok hi
  have hs : leftH n g i = leftH n f' i := h2.same i hi (.inl (by rw [hf]; omega))
  have hless : Less n L g (pushF g i e) := fun j hj hLj => by
    rw [left_push h2.len hi e hj]
    by_cases a : j = mateH i
    · subst a
      rw [to_mate, from_mate, hf] at hLj
      omega
    · rw [if_neg a]; split <;> omega
  refine ⟨⟨(pushF_len e).trans h2.len, pushF_cap h2.len h2.cap hi he (by omega), fun z => ?_, (h.less.trans h2.less).trans hless, fun j hj hjL => ?_, h2.dead.less hr hless, h2.nlen.trans h.nlen, h2.nge, fun z hz0 hz1 hz hzL => ?_, fun hde => ?_⟩, h2.nsame v (by omega) (by omega) (by omega) (by omega), hs⟩
  · rw [netF_push h2.len hi, h2.net, h.net, hf]
    repeat' split
    all_goals omega
  · have h3 : leftH n g j = leftH n f' j := h2.same j hj (by omega)
    rw [left_push h2.len hi e hj, h3, h.same j hj hjL]
    have a1 : j ≠ i := fun e => by subst e; rw [hf] at hjL; omega
    have a2 : j ≠ mateH i := fun e => by subst e; rw [to_mate, from_mate, hf] at hjL; omega
    rw [if_neg a1, if_neg a2]; omega
  · rw [h2.nsame z hz0 hz1 (fun e => by subst e; omega) (by omega), h.nsame z hz0 hz1 hz hzL]
  · have e0 : e = 0 := by omega
    have d0 : d = 0 := by omega
    subst e0
    rw [pushF_zero h2.len hi, h2.zero rfl, h.zero d0]

/-- Behind it the half arc is of no more use. -/
theorem PushR.used {i e m : Int} {g : List Int} (hi : InH n i) (hm : e < m ∨ leftH n g i = e) (hq : e < m → ¬ Adm n g L (toH n i)) (hg : g.length = n.arcs.length) (he : 0 ≤ e) (hL : at_ L (toH n i) = at_ L (fromH n i) + 1) : ¬ (0 < leftH n (pushF g i e) i ∧ at_ L (toH n i) = at_ L (fromH n i) + 1 ∧ Adm n (pushF g i e) L (toH n i)) := fun ⟨a, _, c⟩ => by
  have hless : Less n L g (pushF g i e) := fun j hj hLj => by
    rw [left_push hg hi e hj]
    by_cases a : j = mateH i
    · subst a
      rw [to_mate, from_mate] at hLj
      omega
    · rw [if_neg a]; split <;> omega
  rcases hm with hm | hm
  · exact hq hm (c.less hless)
  · rw [left_push hg hi e hi, if_pos rfl, if_neg (fun e => mate_ne i e.symm)] at a
    omega

/-! ### The layers -/
structure LvOk (n : Net) (f L : List Int) : Prop where
  len : (L.length : Int) = n.nodes
  src : at_ L n.source = 0
  low : ∀ z, 0 ≤ z → z < n.nodes → -1 ≤ at_ L z ∧ at_ L z < n.nodes
  clos : ∀ i, InH n i → 0 ≤ at_ L (fromH n i) → 0 < leftH n f i → 0 ≤ at_ L (toH n i)
  par : ∀ z, 0 ≤ z → z < n.nodes → 0 ≤ at_ L z → z ≠ n.source → ∃ i, InH n i ∧ toH n i = z ∧ 0 < leftH n f i ∧ 0 ≤ at_ L (fromH n i) ∧ at_ L z = at_ L (fromH n i) + 1

theorem LvOk.adm (hok : n.Ok) (h : LvOk n f L) {z : Int} (hz : Adm n f L z) : ∀ m : Nat, 0 ≤ z → z < n.nodes → at_ L z = m → Adm n f L n.source := fun m => by
  induction m generalizing z with
  | zero =>
    intro h0 h1 hm
    by_cases hs : z = n.source
    · subst hs; exact hz
    · obtain ⟨i, hi, he, hl, hf, hq⟩ := h.par z h0 h1 (by omega) hs
      omega
  | succ m ih =>
    intro h0 h1 hm
    by_cases hs : z = n.source
    · subst hs; exact hz
    · obtain ⟨i, hi, he, hl, hf, hq⟩ := h.par z h0 h1 (by omega) hs
      have hfo := from_ok hok hi
      subst he
      exact ih (.step i hi hl hq hz) hfo.1.1 hfo.1.2 (by omega)
theorem LvOk.go (hok : n.Ok) (h : LvOk n f L) (hs : 0 ≤ at_ L n.sink) : Adm n f L n.source :=
  h.adm hok .sink (at_ L n.sink).toNat hok.snk.1 hok.snk.2 (by omega)
theorem LvOk.end (hok : n.Ok) (h : LvOk n f L) (hs : ¬ 0 ≤ at_ L n.sink) : ∃ S : Int → Bool, Shut n f S ∧ S n.source = true ∧ S n.sink = false :=
  ⟨fun z => decide (0 ≤ at_ L z), shut_half.2 fun i hi a b => decide_eq_true (h.clos i hi (of_decide_eq_true a) b), decide_eq_true (by rw [h.src]; omega), decide_eq_false hs⟩

/-- A round of greatest. -/
theorem PushR.flow (hok : n.Ok) (hf : IsFlow n f) (h : PushR n rs L n.source d f nx f' nx') : IsFlow n f' ∧ netF n f' n.source = netF n f n.source + d := by
  have hne := hok.ne
  refine ⟨⟨h.len, h.cap, fun v h0 h1 hs ht => ?_⟩, ?_⟩
  · rw [h.net v, if_neg (fun e => hs e.symm), if_neg (fun e => ht e.symm), hf.cons v h0 h1 hs ht]; rfl
  · rw [h.net, if_pos rfl, if_neg (fun e => hne e.symm)]; omega
end

/-- The state of the search by layers: todo waits; of node x the first q of its half arcs have been looked at. -/
structure LI (n : Net) (f : List Int) (rs : List (List Int)) (L todo : List Int) (x : Int) (q : Nat) : Prop where
  len : (L.length : Int) = n.nodes
  src : at_ L n.source = 0
  low : ∀ z, 0 ≤ z → z < n.nodes → -1 ≤ at_ L z ∧ at_ L z + un L < n.nodes
  wait : ∀ z ∈ todo, (0 ≤ z ∧ z < n.nodes) ∧ 0 ≤ at_ L z
  clos : ∀ z, 0 ≤ z → z < n.nodes → 0 ≤ at_ L z → z ∉ todo → ∀ j : Nat, j < (at_ rs z).length → (z = x → j < q) → 0 < leftH n f (at_ (at_ rs z) (j : Int)) → 0 ≤ at_ L (toH n (at_ (at_ rs z) (j : Int)))
  par : ∀ z, 0 ≤ z → z < n.nodes → 0 ≤ at_ L z → z ≠ n.source → ∃ i, InH n i ∧ toH n i = z ∧ 0 < leftH n f i ∧ 0 ≤ at_ L (fromH n i) ∧ at_ L z = at_ L (fromH n i) + 1
  cur : 0 ≤ x → x < n.nodes ∧ 0 ≤ at_ L x

section
variable {n : Net} {f L todo : List Int} {rs : List (List Int)} {x : Int} {q : Nat}

theorem LI.put (hok : n.Ok) (h : LI n f rs L todo x q) (hx : 0 ≤ x) {i : Int} (hi : InH n i) (hf : fromH n i = x) (hl : 0 < leftH n f i) (hn : at_ L (toH n i) < 0) :
    LI n f rs (L.set (toH n i).toNat (at_ L x + 1)) (todo ++ [toH n i]) x q ∧ un (L.set (toH n i).toNat (at_ L x + 1)) + 1 = un L := by
  have hfo := from_ok hok hi
  have hlen := h.len
  have hc : (0 ≤ x ∧ x < n.nodes) ∧ 0 ≤ at_ L x := ⟨⟨hx, (h.cur hx).1⟩, (h.cur hx).2⟩
  have hlo := h.low _ hfo.2.1.1 hfo.2.1.2
  have hlx := h.low _ hc.1.1 hc.1.2
  have hu := un_set (out := L) (y := toH n i) (i := at_ L x + 1) (by omega) (by omega) (by omega)
  generalize hy : toH n i = y at *
  have hat : ∀ z, 0 ≤ z → at_ (L.set y.toNat (at_ L x + 1)) z = if y = z then at_ L x + 1 else at_ L z := fun z hz => at_set L y z _ hfo.2.1.1 hz (by omega)
  have hge : ∀ z, 0 ≤ z → 0 ≤ at_ L z → 0 ≤ at_ (L.set y.toNat (at_ L x + 1)) z := fun z hz hp => by rw [hat z hz]; split <;> omega
  refine ⟨⟨by rw [List.length_set]; exact h.len, ?_, fun z h0 h1 => ?_, fun z hz => ?_, fun z h0 h1 hz hzt j hj hjq hjl => ?_, fun z h0 h1 hz hs => ?_, fun _ => ⟨hc.1.2, hge x hc.1.1 hc.2⟩⟩, hu⟩
  · have := hok.src
    rw [hat _ this.1, if_neg (fun e => by subst e; have := h.src; omega)]; exact h.src
  · have hz := h.low z h0 h1
    rw [hat z h0]
    split <;> omega
  · rcases List.mem_append.1 hz with hz | hz
    · have := h.wait z hz
      exact ⟨this.1, hge z this.1.1 this.2⟩
    · rw [List.mem_singleton.1 hz]
      exact ⟨hfo.2.1, by rw [hat y hfo.2.1.1, if_pos rfl]; omega⟩
  · have hzy : y ≠ z := fun e => hzt (List.mem_append_right _ (List.mem_singleton.2 e.symm))
    rw [hat z h0, if_neg hzy] at hz
    have := h.clos z h0 h1 hz (fun hm => hzt (List.mem_append_left _ hm)) j hj hjq hjl
    generalize toH n (at_ (at_ rs z) (j : Int)) = t at this ⊢
    by_cases hneg : 0 ≤ t
    · exact hge _ hneg this
    · have e0 : ∀ M : List Int, at_ M t = at_ M 0 := fun M => by unfold at_; rw [show t.toNat = (0 : Int).toNat from by omega]
      rw [e0] at this ⊢; exact hge 0 (by omega) (by omega)
  · rw [hat z h0] at hz ⊢
    by_cases hzy : y = z
    · rw [if_pos hzy]
      have hxy : y ≠ x := fun e => by subst e; omega
      exact ⟨i, hi, hy.trans hzy, hl, by rw [hf]; exact hge x hc.1.1 hc.2, by rw [hf, hat x hc.1.1, if_neg hxy]⟩
    · rw [if_neg hzy] at hz ⊢
      obtain ⟨k, hk, he, hkl, hkf, hkq⟩ := h.par z h0 h1 hz hs
      have hko := from_ok hok hk
      have hky : y ≠ fromH n k := fun e => by rw [← e] at hkf; omega
      exact ⟨k, hk, he, hkl, hge _ hko.1.1 hkf, by rw [hat _ hko.1.1, if_neg hky]; exact hkq⟩

theorem LI.inc (h : LI n f rs L todo x q) (hd : 0 < leftH n f (at_ (at_ rs x) (q : Int)) → 0 ≤ at_ L (toH n (at_ (at_ rs x) (q : Int)))) : LI n f rs L todo x (q + 1) :=
  ⟨h.len, h.src, h.low, h.wait, fun z h0 h1 hz hzt j hj hjq hjl => by
    by_cases e : z = x ∧ j = q
    · obtain ⟨rfl, rfl⟩ := e; exact hd hjl
    · exact h.clos z h0 h1 hz hzt j hj (fun ez => by have := hjq ez; have : j ≠ q := fun ej => e ⟨ez, ej⟩; omega) hjl, h.par, h.cur⟩
/-- The node at the head of what waits is taken. -/
theorem LI.next (h : LI n f rs L todo (-1) 0) (ht : 0 < todo.length) : LI n f rs L (todo.drop 1) (at_ todo 0) 0 := by
  obtain ⟨x, t, rfl⟩ : ∃ x t, todo = x :: t := by cases todo with
    | nil => simp at ht
    | cons x t => exact ⟨x, t, rfl⟩
  show LI n f rs L t x 0
  refine ⟨h.len, h.src, h.low, fun z hz => h.wait z (List.mem_cons_of_mem _ hz), fun z h0 h1 hz hzt j hj hjq hjl => ?_, h.par, fun _ => ?_⟩
  · by_cases e : z = x
    · have := hjq e; omega
    · have hzm : z ∉ x :: t := fun hm => by
        rcases List.mem_cons.1 hm with hm | hm
        · exact e hm
        · exact hzt hm
      exact h.clos z h0 h1 hz hzm j hj (fun ez => by omega) hjl
  · have := h.wait x List.mem_cons_self
    exact ⟨this.1.2, this.2⟩
theorem LI.over (h : LI n f rs L todo x q) (hq : (at_ rs x).length ≤ q) : LI n f rs L todo (-1) 0 :=
  ⟨h.len, h.src, h.low, h.wait, fun z h0 h1 hz hzt j hj _ hjl => h.clos z h0 h1 hz hzt j hj (fun e => by subst e; omega) hjl, h.par, fun h => by omega⟩
theorem LI.done (hok : n.Ok) (hr : ROk n rs) (h : LI n f rs L todo (-1) 0) (ht : ¬ 0 < todo.length) : LvOk n f L := by
  obtain rfl : todo = [] := List.eq_nil_of_length_eq_zero (by omega)
  exact ⟨h.len, h.src, fun z h0 h1 => by have := h.low z h0 h1; omega, fun i hi hf hl => by
    have hfo := from_ok hok hi
    obtain ⟨j, hj, e⟩ := mem_at (hr.has i hi)
    have := h.clos _ hfo.1.1 hfo.1.2 hf (by simp) j hj (fun e => by omega) (by rw [e]; exact hl)
    rwa [e] at this, h.par⟩
theorem LI.start (hok : n.Ok) {L0 : List Int} (hl : (L0.length : Int) = n.nodes) (h0 : ∀ j : Nat, j < L0.length → at_ L0 (j : Int) = -1) : LI n f rs (L0.set n.source.toNat 0) [n.source] (-1) 0 ∧ un (L0.set n.source.toNat 0) + 1 = n.nodes.toNat := by
  have hs := hok.src
  have h0' : ∀ z : Int, 0 ≤ z → z < n.nodes → at_ L0 z = -1 := fun z a b => at_all (p := fun z => at_ L0 z = -1) h0 a (by omega)
  have hat : ∀ z, 0 ≤ z → at_ (L0.set n.source.toNat 0) z = if n.source = z then 0 else at_ L0 z := fun z hz => at_set L0 _ z _ hs.1 hz (by omega)
  have hu := un_set (out := L0) (y := n.source) (i := 0) (by omega) (h0' _ hs.1 hs.2) (by omega)
  have hu0 : un L0 = n.nodes.toNat := by
    have e := eq_rep h0
    unfold un
    rw [e, List.count_replicate_self]; omega
  refine ⟨⟨by rw [List.length_set]; exact hl, by rw [hat _ hs.1, if_pos rfl], fun z a b => ?_, fun z hz => ?_, fun z a b hz hzt => ?_, fun z a b hz hne => ?_, fun h => by omega⟩, by omega⟩
  · rw [hat z a, h0' z a b]; split <;> omega
  · rw [List.mem_singleton.1 hz]; exact ⟨hs, by rw [hat _ hs.1, if_pos rfl]; omega⟩
  · exfalso
    have : n.source ≠ z := fun e => hzt (by rw [e]; exact List.mem_singleton.2 rfl)
    rw [hat z a, if_neg this, h0' z a b] at hz; omega
  · exfalso
    rw [hat z a, if_neg (fun e => hne e.symm), h0' z a b] at hz; omega
end
theorem at_zero_append {α : Type} [Inhabited α] {w : List α} {y : List α} (h : 0 < w.length) : at_ (w ++ y) 0 = at_ w 0 := by
  cases w with
  | nil => simp at h
  | cons x t => rfl
theorem drop_one_append {α : Type} {w y : List α} (h : 0 < w.length) : (w ++ y).drop 1 = w.drop 1 ++ y := by
  cases w with
  | nil => simp at h
  | cons x t => rfl

/-! ### What is reached -/
/-- What can go over half arc i in the direction of the search. -/
def goH (n : Net) (f : List Int) (ag : Bool) (i : Int) : Int := if ag then leftH n f (mateH i) else leftH n f i
def ShutG (n : Net) (f : List Int) (ag : Bool) (S : Int → Bool) : Prop := ∀ i, InH n i → S (fromH n i) = true → 0 < goH n f ag i → S (toH n i) = true

/-- The state of the search: todo waits; of node x the first q of its half arcs have been looked at. -/
structure RI (n : Net) (f : List Int) (ag : Bool) (v : Int) (rs : List (List Int)) (seen : List Bool) (todo : List Int) (x : Int) (q : Nat) : Prop where
  len : (seen.length : Int) = n.nodes
  src : at_ seen v = true
  wait : ∀ z ∈ todo, (0 ≤ z ∧ z < n.nodes) ∧ at_ seen z = true
  clos : ∀ z, 0 ≤ z → z < n.nodes → at_ seen z = true → z ∉ todo → ∀ j : Nat, j < (at_ rs z).length → (z = x → j < q) → 0 < goH n f ag (at_ (at_ rs z) (j : Int)) → at_ seen (toH n (at_ (at_ rs z) (j : Int))) = true
  sound : ∀ S : Int → Bool, ShutG n f ag S → S v = true → ∀ z, 0 ≤ z → z < n.nodes → at_ seen z = true → S z = true
  cur : 0 ≤ x → x < n.nodes ∧ at_ seen x = true

def unB (l : List Bool) : Nat := l.count false
theorem unB_set {l : List Bool} {y : Int} (hy : 0 ≤ y ∧ y < l.length) (h : at_ l y = false) : unB (l.set y.toNat true) + 1 = unB l := by
  unfold unB
  have hl : y.toNat < l.length := by omega
  have hg : l[y.toNat] = false := by rw [at_eq hy.1 hy.2] at h; exact h
  rw [List.count_set hl]
  have hpos : 0 < l.count false := List.count_pos_iff.2 (hg ▸ List.getElem_mem hl)
  have e1 : (l[y.toNat] == false) = true := by simp [hg]
  have e2 : (true == false) = false := rfl
  rw [e1, e2]
  simp only [if_true, Bool.false_eq_true, if_false]
  omega

section
variable {n : Net} {f todo : List Int} {ag : Bool} {v : Int} {seen : List Bool} {rs : List (List Int)} {x : Int} {q : Nat}
theorem RI.put (hok : n.Ok) (h : RI n f ag v rs seen todo x q) (hx : 0 ≤ x) (hv : 0 ≤ v) {i : Int} (hi : InH n i) (hf : fromH n i = x) (hl : 0 < goH n f ag i) (hn : at_ seen (toH n i) = false) :
    RI n f ag v rs (seen.set (toH n i).toNat true) (todo ++ [toH n i]) x q ∧ unB (seen.set (toH n i).toNat true) + 1 = unB seen := by
  have hfo := from_ok hok hi
  have hlen := h.len
  have hc := h.cur hx
  have hu := unB_set (l := seen) (y := toH n i) (by omega) hn
  have hti : ∀ S : Int → Bool, ShutG n f ag S → S x = true → S (toH n i) = true := fun S hS hs => hS i hi (by rw [hf]; exact hs) hl
  generalize hy : toH n i = y at *
  have hat : ∀ z, 0 ≤ z → at_ (seen.set y.toNat true) z = if y = z then true else at_ seen z := fun z hz => at_set seen y z _ hfo.2.1.1 hz (by omega)
  have hge : ∀ z, 0 ≤ z → at_ seen z = true → at_ (seen.set y.toNat true) z = true := fun z hz hp => by rw [hat z hz]; split <;> first | rfl | exact hp
  refine ⟨⟨by rw [List.length_set]; exact h.len, hge v hv h.src, fun z hz => ?_, fun z h0 h1 hz hzt j hj hjq hjl => ?_, fun S hS hs z h0 h1 hz => ?_, fun _ => ⟨hc.1, hge x hx hc.2⟩⟩, hu⟩
  · rcases List.mem_append.1 hz with hz | hz
    · have := h.wait z hz
      exact ⟨this.1, hge z this.1.1 this.2⟩
    · rw [List.mem_singleton.1 hz]
      exact ⟨hfo.2.1, by rw [hat y hfo.2.1.1, if_pos rfl]⟩
  · have hzy : y ≠ z := fun e => hzt (List.mem_append_right _ (List.mem_singleton.2 e.symm))
    rw [hat z h0, if_neg hzy] at hz
    have := h.clos z h0 h1 hz (fun hm => hzt (List.mem_append_left _ hm)) j hj hjq hjl
    generalize toH n (at_ (at_ rs z) (j : Int)) = t at this ⊢
    by_cases hneg : 0 ≤ t
    · exact hge _ hneg this
    · have e0 : ∀ M : List Bool, at_ M t = at_ M 0 := fun M => by unfold at_; rw [show t.toNat = (0 : Int).toNat from by omega]
      rw [e0] at this ⊢; exact hge 0 (by omega) (by omega)
  · rw [hat z h0] at hz
    by_cases hzy : y = z
    · subst hzy
      exact hti S hS (h.sound S hS hs x hx hc.1 hc.2)
    · rw [if_neg hzy] at hz
      exact h.sound S hS hs z h0 h1 hz
theorem RI.inc (h : RI n f ag v rs seen todo x q) (hd : 0 < goH n f ag (at_ (at_ rs x) (q : Int)) → at_ seen (toH n (at_ (at_ rs x) (q : Int))) = true) : RI n f ag v rs seen todo x (q + 1) :=
  ⟨h.len, h.src, h.wait, fun z h0 h1 hz hzt j hj hjq hjl => by
    by_cases e : z = x ∧ j = q
    · obtain ⟨rfl, rfl⟩ := e; exact hd hjl
    · exact h.clos z h0 h1 hz hzt j hj (fun ez => by have := hjq ez; have : j ≠ q := fun ej => e ⟨ez, ej⟩; omega) hjl, h.sound, h.cur⟩
theorem RI.next (h : RI n f ag v rs seen todo (-1) 0) (ht : 0 < todo.length) : RI n f ag v rs seen (todo.drop 1) (at_ todo 0) 0 := by
  obtain ⟨x, t, rfl⟩ : ∃ x t, todo = x :: t := by cases todo with
    | nil => simp at ht
    | cons x t => exact ⟨x, t, rfl⟩
  show RI n f ag v rs seen t x 0
  refine ⟨h.len, h.src, fun z hz => h.wait z (List.mem_cons_of_mem _ hz), fun z h0 h1 hz hzt j hj hjq hjl => ?_, h.sound, fun _ => ?_⟩
  · by_cases e : z = x
    · have := hjq e; omega
    · have hzm : z ∉ x :: t := fun hm => by
        rcases List.mem_cons.1 hm with hm | hm
        · exact e hm
        · exact hzt hm
      exact h.clos z h0 h1 hz hzm j hj (fun ez => by omega) hjl
  · have := h.wait x List.mem_cons_self
    exact ⟨this.1.2, this.2⟩
theorem RI.over (h : RI n f ag v rs seen todo x q) (hq : (at_ rs x).length ≤ q) : RI n f ag v rs seen todo (-1) 0 :=
  ⟨h.len, h.src, h.wait, fun z h0 h1 hz hzt j hj _ hjl => h.clos z h0 h1 hz hzt j hj (fun e => by subst e; omega) hjl, h.sound, fun h => by omega⟩
theorem RI.start (hv : 0 ≤ v ∧ v < n.nodes) {s0 : List Bool} (hl : (s0.length : Int) = n.nodes) (h0 : ∀ z : Int, 0 ≤ z → z < n.nodes → at_ s0 z = false) : RI n f ag v rs (s0.set v.toNat true) [v] (-1) 0 := by
  have hat : ∀ z, 0 ≤ z → at_ (s0.set v.toNat true) z = if v = z then true else at_ s0 z := fun z hz => at_set s0 _ z _ hv.1 hz (by omega)
  refine ⟨by rw [List.length_set]; exact hl, by rw [hat _ hv.1, if_pos rfl], fun z hz => ?_, fun z a b hz hzt => ?_, fun S hS hs z a b hz => ?_, fun h => by omega⟩
  · rw [List.mem_singleton.1 hz]; exact ⟨hv, by rw [hat _ hv.1, if_pos rfl]⟩
  · exfalso
    have : v ≠ z := fun e => hzt (by rw [e]; exact List.mem_singleton.2 rfl)
    rw [hat z a, if_neg this, h0 z a b] at hz; cases hz
  · by_cases e : v = z
    · subst e; exact hs
    · rw [hat z a, if_neg e, h0 z a b] at hz; cases hz
/-- What the search ends with. -/
structure Seen (n : Net) (f : List Int) (ag : Bool) (v : Int) (seen : List Bool) : Prop where
  len : (seen.length : Int) = n.nodes
  src : at_ seen v = true
  shut : ShutG n f ag fun z => at_ seen z
  sound : ∀ S : Int → Bool, ShutG n f ag S → S v = true → ∀ z, 0 ≤ z → z < n.nodes → at_ seen z = true → S z = true
theorem RI.done (hok : n.Ok) (hr : ROk n rs) (h : RI n f ag v rs seen todo (-1) 0) (ht : ¬ 0 < todo.length) : Seen n f ag v seen := by
  obtain rfl : todo = [] := List.eq_nil_of_length_eq_zero (by omega)
  exact ⟨h.len, h.src, fun i hi hf hl => by
    have hfo := from_ok hok hi
    obtain ⟨j, hj, e⟩ := mem_at (hr.has i hi)
    have := h.clos _ hfo.1.1 hfo.1.2 hf (by simp) j hj (fun e => by omega) (by rw [e]; exact hl)
    rwa [e] at this, h.sound⟩

/-- A flow to which nothing can be added. -/
structure Full (n : Net) (f : List Int) (val : Int) : Prop where
  flow : IsFlow n f
  val : val = netF n f n.source
  ends : ∃ S : Int → Bool, Shut n f S ∧ S n.source = true ∧ S n.sink = false

theorem shutG_fwd {S : Int → Bool} : ShutG n f false S ↔ Shut n f S := by rw [shut_half]; rfl
theorem shutG_bwd {S : Int → Bool} : ShutG n f true (fun z => !S z) ↔ Shut n f S := by
  rw [shut_half]
  constructor
  · intro h i hi a b
    have h0 : (!S (fromH n (mateH i))) = true → 0 < goH n f true (mateH i) → (!S (toH n (mateH i))) = true := h (mateH i) hi.mate
    rw [from_mate, to_mate] at h0
    unfold goH at h0
    rw [mate_mate, if_pos rfl] at h0
    cases hs : S (toH n i)
    · have h1 := h0 (by rw [hs]; rfl) b
      rw [a] at h1; cases h1
    · rfl
  · intro h i hi a b
    unfold goH at b
    rw [if_pos rfl] at b
    have a' : (!S (fromH n i)) = true := a
    have h0 := h (mateH i) hi.mate
    rw [from_mate, to_mate] at h0
    show (!S (toH n i)) = true
    cases hs : S (toH n i)
    · rfl
    · have h1 := h0 hs b
      rw [h1] at a'; cases a'

theorem Seen.least (hok : n.Ok) {val : Int} (hf : Full n f val) (h : Seen n f false n.source seen) : Least n f fun z => decide (0 ≤ z ∧ z < n.nodes) && at_ seen z := by
  have hs := hok.src
  have ht := hok.snk
  refine ⟨by simp [hs, h.src], ?_, shut_half.2 fun i hi a b => ?_, fun S hS hv z hz => ?_⟩
  · obtain ⟨S, h1, h2, h3⟩ := hf.ends
    cases e : at_ seen n.sink
    · simp
    · have := h.sound S (shutG_fwd.2 h1) h2 _ ht.1 ht.2 e
      rw [h3] at this; cases this
  · have hfo := from_ok hok hi
    simp only [Bool.and_eq_true, decide_eq_true_iff] at a ⊢
    exact ⟨hfo.2.1, h.shut i hi a.2 b⟩
  · simp only [Bool.and_eq_true, decide_eq_true_iff] at hz
    exact h.sound S (shutG_fwd.2 hS) hv z hz.1.1 hz.1.2 hz.2
theorem Seen.great (hok : n.Ok) {val : Int} (hf : Full n f val) (h : Seen n f true n.sink seen) : Great n f fun z => !at_ seen z := by
  have hs := hok.src
  have ht := hok.snk
  refine ⟨?_, by rw [h.src]; rfl, ?_, fun S hS hv z h0 h1 hz => ?_⟩
  · obtain ⟨S, h1, h2, h3⟩ := hf.ends
    cases e : at_ seen n.source
    · rfl
    · have := h.sound (fun z => !S z) (shutG_bwd.2 h1) (by rw [h3]; rfl) _ hs.1 hs.2 e
      rw [h2] at this; cases this
  · refine shutG_bwd.1 ?_
    have e : (fun z => !!at_ seen z) = fun z => at_ seen z := by funext z; simp
    rw [e]; exact h.shut
  · cases e : at_ seen z
    · rfl
    · have := h.sound (fun z => !S z) (shutG_bwd.2 hS) (by rw [hv]; rfl) z h0 h1 e
      rw [hz] at this; cases this
end
end Go.Sl
namespace Go.Sl
theorem nat_xor_one (n : Nat) : n ^^^ 1 = if n % 2 = 0 then n + 1 else n - 1 := by
  have h1 : (n ^^^ 1) / 2 = n / 2 := by rw [Nat.xor_div_two]; simp
  have h2 : (n ^^^ 1) % 2 = 1 ↔ ¬ (n % 2 = 1 ↔ 1 % 2 = 1) := Nat.xor_mod_two_eq_one
  split <;> omega
theorem xor_mate {i : Int} (h0 : 0 ≤ i) (h1 : i < 4611686018427387904) : bits .xor .i64 i 1 = mateH i := by
  obtain ⟨n, rfl⟩ : ∃ n : Nat, i = (n : Int) := ⟨i.toNat, by omega⟩
  have e : (BitVec.ofInt 64 (n : Int) ^^^ BitVec.ofInt 64 1).toNat = n ^^^ 1 := by
    rw [BitVec.toNat_xor, BitVec.toNat_ofInt, BitVec.toNat_ofInt]
    congr 1
    omega
  have e2 : bits .xor .i64 (n : Int) 1 = IntKind.i64.wrap (((n ^^^ 1 : Nat)) : Int) := by
    unfold bits
    show IntKind.i64.wrap ((BitVec.ofInt 64 (n : Int) ^^^ BitVec.ofInt 64 1).toNat : Int) = _
    rw [e]
  rw [e2, nat_xor_one]
  unfold mateH
  split <;> split <;> rw [IntKind.wrap_i64] <;> omega
end Go.Sl
namespace Go.Sl
open Go.Proofs
set_option linter.unusedVariables false
set_option linter.unusedSimpArgs false
set_option maxRecDepth 4000
end Go.Sl
namespace Go.Sl
open Go.Proofs
set_option linter.unusedVariables false
set_option linter.unusedSimpArgs false
set_option maxRecDepth 4000
end Go.Sl
namespace Go.Sl
open Go.Proofs
set_option linter.unusedVariables false
set_option linter.unusedSimpArgs false
set_option maxRecDepth 4000
end Go.Sl
namespace Go.Sl
open Go.Proofs
set_option linter.unusedVariables false
set_option linter.unusedSimpArgs false
set_option maxRecDepth 4000

end Go.Sl
namespace Go.Sl
open Go.Proofs
set_option linter.unusedVariables false
set_option linter.unusedSimpArgs false
set_option maxRecDepth 4000
end Go.Sl
namespace Go.Sl
open Go.Proofs
set_option linter.unusedVariables false
set_option linter.unusedSimpArgs false
set_option maxRecDepth 4000
end Go.Sl
