/- A part of the proof of FlowProvesSaid: contracts of the functions that it reaches, and the plain laws that they lean on. No conditions. -/
import Derived.Test.YtbimaodbcjjbfaaPart02
import Derived.Test.YtbimaodbcjjbfaaPart01
/- Layers and sending along them: the plain law. No Go. -/
namespace Go.Sl
set_option linter.unusedVariables false

/-! ### Half arcs -/
structure Half where
  frm : Int
  dst : Int
  cap : Int
  left : Int
deriving Inhabited

def fromH (n : Net) (i : Int) : Int := if i % 2 = 0 then (at_ n.arcs (i / 2)).frm else (at_ n.arcs (i / 2)).dst
def toH (n : Net) (i : Int) : Int := if i % 2 = 0 then (at_ n.arcs (i / 2)).dst else (at_ n.arcs (i / 2)).frm
def leftH (n : Net) (f : List Int) (i : Int) : Int := if i % 2 = 0 then (at_ n.arcs (i / 2)).cap - at_ f (i / 2) else at_ f (i / 2)
def mateH (i : Int) : Int := if i % 2 = 0 then i + 1 else i - 1
/-- i is the number of a half arc. -/
def InH (n : Net) (i : Int) : Prop := 0 ≤ i ∧ i < 2 * n.arcs.length

def CapF (n : Net) (f : List Int) : Prop := ∀ k : Nat, k < n.arcs.length → 0 ≤ at_ f (k : Int) ∧ at_ f (k : Int) ≤ (at_ n.arcs (k : Int)).cap

/-- hs holds the flow f. -/
structure HOk (n : Net) (f : List Int) (hs : List Half) : Prop where
  len : (hs.length : Int) = 2 * n.arcs.length
  flen : f.length = n.arcs.length
  cap : CapF n f
  get : ∀ i, InH n i → (at_ hs i).frm = fromH n i ∧ (at_ hs i).dst = toH n i ∧ (at_ hs i).left = leftH n f i

/-- The rows of half arcs by the node that they leave. -/
structure ROk (n : Net) (rs : List (List Int)) : Prop where
  len : (rs.length : Int) = n.nodes
  all : ∀ v, 0 ≤ v → v < n.nodes → ∀ i ∈ at_ rs v, InH n i ∧ fromH n i = v
  has : ∀ i, InH n i → i ∈ at_ rs (fromH n i)

section
variable {n : Net} {f g : List Int} {hs : List Half} {rs : List (List Int)} {i j : Int}

theorem InH.half (h : InH n i) : 0 ≤ i / 2 ∧ i / 2 < n.arcs.length := by unfold InH at h; omega
theorem InH.mate (h : InH n i) : InH n (mateH i) := by unfold InH mateH at *; split <;> omega
theorem mate_mate (i : Int) : mateH (mateH i) = i := by unfold mateH; split <;> split <;> omega
theorem mate_ne (i : Int) : mateH i ≠ i := by unfold mateH; split <;> omega
theorem mate_half (i : Int) : mateH i / 2 = i / 2 := by unfold mateH; split <;> omega
theorem mate_par (i : Int) : mateH i % 2 = 0 ↔ ¬ i % 2 = 0 := by unfold mateH; split <;> omega
theorem from_mate (n : Net) (i : Int) : fromH n (mateH i) = toH n i := by
  unfold fromH toH; rw [mate_half]
  by_cases h : i % 2 = 0
  · rw [if_neg (fun h' => (mate_par i).1 h' h), if_pos h]
  · rw [if_pos ((mate_par i).2 h), if_neg h]
theorem to_mate (n : Net) (i : Int) : toH n (mateH i) = fromH n i := by rw [← from_mate, mate_mate]
theorem left_sum (n : Net) (f : List Int) (i : Int) : leftH n f i + leftH n f (mateH i) = (at_ n.arcs (i / 2)).cap := by
  unfold leftH; rw [mate_half]
  by_cases h : i % 2 = 0
  · rw [if_neg (fun h' => (mate_par i).1 h' h), if_pos h]; omega
  · rw [if_pos ((mate_par i).2 h), if_neg h]; omega
theorem left_ok (hc : CapF n f) (h : InH n i) : 0 ≤ leftH n f i ∧ leftH n f i ≤ (at_ n.arcs (i / 2)).cap := by
  have := cap_ok hc h.half.1 h.half.2
  unfold leftH
  split <;> omega
theorem from_ok (hok : n.Ok) (h : InH n i) : (0 ≤ fromH n i ∧ fromH n i < n.nodes) ∧ (0 ≤ toH n i ∧ toH n i < n.nodes) ∧ fromH n i ≠ toH n i := by
  have := arc_ok hok h.half.1 h.half.2
  unfold fromH toH
  split <;> omega

/-- d more over half arc i. -/
def pushF (f : List Int) (i d : Int) : List Int := if i % 2 = 0 then f.set (i / 2).toNat (at_ f (i / 2) + d) else f.set (i / 2).toNat (at_ f (i / 2) - d)
def pushHs (hs : List Half) (i d : Int) : List Half :=
  (hs.set i.toNat { at_ hs i with left := (at_ hs i).left - d }).set (mateH i).toNat { at_ (hs.set i.toNat { at_ hs i with left := (at_ hs i).left - d }) (mateH i) with left := (at_ (hs.set i.toNat { at_ hs i with left := (at_ hs i).left - d }) (mateH i)).left + d }

theorem pushF_len (d : Int) : (pushF f i d).length = f.length := by unfold pushF; split <;> simp
theorem pushF_at (hl : f.length = n.arcs.length) (h : InH n i) (d : Int) (hj : 0 ≤ j) : at_ (pushF f i d) j = at_ f j + if i / 2 = j then (if i % 2 = 0 then d else -d) else 0 := by
  have := h.half
  unfold pushF
  by_cases hp : i % 2 = 0
  · rw [if_pos hp, if_pos hp, at_set f (i / 2) j _ (by omega) hj (by omega)]
    split
    · rename_i e; rw [e]
    · omega
  · rw [if_neg hp, if_neg hp, at_set f (i / 2) j _ (by omega) hj (by omega)]
    split
    · rename_i e; rw [e]; omega
    · omega
theorem left_push (hl : f.length = n.arcs.length) (h : InH n i) (d : Int) (hj : InH n j) : leftH n (pushF f i d) j = leftH n f j + (if j = i then -d else 0) + (if j = mateH i then d else 0) := by
  have h1 := h.half
  have h2 := hj.half
  unfold leftH
  rw [pushF_at hl h d h2.1]
  unfold mateH
  by_cases hi : i % 2 = 0 <;> by_cases hjp : j % 2 = 0 <;> by_cases hh : i / 2 = j / 2
  all_goals simp only [hi, hjp, hh, if_true, if_false]
  all_goals (repeat' split) <;> omega
theorem pushF_cap (hl : f.length = n.arcs.length) (hc : CapF n f) (h : InH n i) {d : Int} (h0 : 0 ≤ d) (hd : d ≤ leftH n f i) : CapF n (pushF f i d) := fun k hk => by
  rw [pushF_at hl h d (by omega)]
  have := hc k hk
  unfold leftH at hd
  by_cases hi : i % 2 = 0 <;> by_cases hh : i / 2 = (k : Int)
  all_goals simp only [hi, if_true, if_false] at hd
  all_goals simp only [hi, hh, if_true, if_false]
  all_goals (try rw [hh] at hd)
  all_goals omega
theorem netF_push (hl : f.length = n.arcs.length) (h : InH n i) (d z : Int) : netF n (pushF f i d) z = netF n f z + (if fromH n i = z then d else 0) - (if toH n i = z then d else 0) := by
  have h1 := h.half
  unfold pushF fromH toH
  have e : ((((i / 2).toNat : Nat)) : Int) = i / 2 := by omega
  by_cases hp : i % 2 = 0
  · rw [if_pos hp, if_pos hp, if_pos hp, netF_set (by omega) hl, e]
    split <;> split <;> omega
  · rw [if_neg hp, if_neg hp, if_neg hp, netF_set (by omega) hl, e]
    split <;> split <;> omega
theorem HOk.push (h : HOk n f hs) (hi : InH n i) {d : Int} (h0 : 0 ≤ d) (hd : d ≤ leftH n f i) : HOk n (pushF f i d) (pushHs hs i d) := by
  have hl := h.len
  have hm := hi.mate
  refine ⟨by unfold pushHs; simp; exact h.len, (pushF_len d).trans h.flen, pushF_cap h.flen h.cap hi h0 hd, fun j hj => ?_⟩
  have hne := mate_ne i
  have e1 : at_ (hs.set i.toNat { at_ hs i with left := (at_ hs i).left - d }) (mateH i) = at_ hs (mateH i) := by
    rw [at_set hs i _ _ hi.1 hm.1 (by have := hi.2; omega), if_neg (fun e => hne e.symm)]
  have ej : at_ (pushHs hs i d) j = if mateH i = j then { at_ hs (mateH i) with left := (at_ hs (mateH i)).left + d } else if i = j then { at_ hs i with left := (at_ hs i).left - d } else at_ hs j := by
    unfold pushHs
    rw [at_set _ (mateH i) j _ hm.1 hj.1 (by rw [List.length_set]; have := hm.2; omega), e1, at_set hs i j _ hi.1 hj.1 (by have := hi.2; omega)]
  rw [ej, left_push h.flen hi d hj]
  by_cases a : mateH i = j
  · subst a
    rw [if_pos rfl, if_neg hne, if_pos rfl]
    have := h.get _ hm
    exact ⟨this.1, this.2.1, by show (at_ hs (mateH i)).left + d = _; omega⟩
  · rw [if_neg a, if_neg (show ¬ j = mateH i from fun e => a e.symm)]
    by_cases b : i = j
    · subst b
      rw [if_pos rfl, if_pos rfl]
      have := h.get _ hi
      exact ⟨this.1, this.2.1, by show (at_ hs i).left - d = _; omega⟩
    · rw [if_neg b, if_neg (show ¬ j = i from fun e => b e.symm)]
      have := h.get _ hj
      exact ⟨this.1, this.2.1, by omega⟩

/-! ### What shut means of half arcs -/
theorem shut_half {S : Int → Bool} : Shut n f S ↔ ∀ i, InH n i → S (fromH n i) = true → 0 < leftH n f i → S (toH n i) = true := by
  constructor
  · intro h i hi hs hl
    have h1 := hi.half
    have e : ((((i / 2).toNat : Nat)) : Int) = i / 2 := by omega
    have := h (i / 2).toNat (by omega)
    rw [e] at this
    unfold fromH at hs
    unfold leftH at hl
    unfold toH
    by_cases hp : i % 2 = 0
    · rw [if_pos hp] at *; exact this.1 hs (by omega)
    · rw [if_neg hp] at *; exact this.2 hs hl
  · intro h k hk
    have h1 := h (2 * (k : Int)) (by unfold InH; omega)
    have h2 := h (2 * (k : Int) + 1) (by unfold InH; omega)
    unfold fromH toH leftH at h1 h2
    rw [if_pos (by omega), if_pos (by omega), if_pos (by omega), show (2 * (k : Int)) / 2 = k from by omega] at h1
    rw [if_neg (by omega), if_neg (by omega), if_neg (by omega), show (2 * (k : Int) + 1) / 2 = k from by omega] at h2
    exact ⟨fun a b => h1 a (by omega), h2⟩

/-! ### Ways along the layers -/
/-- From z there is a way to the sink along the levels L, with something left. -/
inductive Adm (n : Net) (f L : List Int) : Int → Prop
  | sink : Adm n f L n.sink
  | step (i : Int) : InH n i → 0 < leftH n f i → at_ L (toH n i) = at_ L (fromH n i) + 1 → Adm n f L (toH n i) → Adm n f L (fromH n i)

/-- Half arcs of a layer have not more left in f' than in f. -/
def Less (n : Net) (L f f' : List Int) : Prop := ∀ i, InH n i → at_ L (toH n i) = at_ L (fromH n i) + 1 → leftH n f' i ≤ leftH n f i
theorem Less.refl (n : Net) (L f : List Int) : Less n L f f := fun _ _ _ => Int.le_refl _
theorem Less.trans {L h : List Int} (a : Less n L f g) (b : Less n L g h) : Less n L f h := fun i hi hl => Int.le_trans (b i hi hl) (a i hi hl)
theorem Adm.less {L f' : List Int} (hl : Less n L f f') {z : Int} (h : Adm n f' L z) : Adm n f L z := by
  induction h with
  | sink => exact .sink
  | step i hi hp hL _ ih => exact .step i hi (by have := hl i hi hL; omega) hL ih

/-- Half arcs that are useless are behind the marks nx. -/
def Dead (n : Net) (rs : List (List Int)) (L f nx : List Int) : Prop := ∀ u, 0 ≤ u → u < n.nodes → ∀ j : Nat, (j : Int) < at_ nx u → j < (at_ rs u).length →
  ¬ (0 < leftH n f (at_ (at_ rs u) (j : Int)) ∧ at_ L (toH n (at_ (at_ rs u) (j : Int))) = at_ L u + 1 ∧ Adm n f L (toH n (at_ (at_ rs u) (j : Int))))
theorem Dead.less {L f' nx : List Int} (hr : ROk n rs) (hl : Less n L f f') (h : Dead n rs L f nx) : Dead n rs L f' nx := fun u h0 h1 j hj hjl ⟨a, b, c⟩ => by
  have hm := hr.all u h0 h1 _ (at_mem (xs := at_ rs u) (i := (j : Int)) (by omega) (by omega))
  refine h u h0 h1 j hj hjl ⟨?_, b, c.less hl⟩
  have := hl _ hm.1 (by rw [hm.2]; exact b)
  omega
theorem Dead.adv {L nx : List Int} {v : Int} (h : Dead n rs L f nx) (hv : 0 ≤ v ∧ v < nx.length) (hx : 0 ≤ at_ nx v)
    (hd : ¬ (0 < leftH n f (at_ (at_ rs v) (at_ nx v)) ∧ at_ L (toH n (at_ (at_ rs v) (at_ nx v))) = at_ L v + 1 ∧ Adm n f L (toH n (at_ (at_ rs v) (at_ nx v))))) : Dead n rs L f (nx.set v.toNat (at_ nx v + 1)) := fun u h0 h1 j hj hjl => by
  rw [at_set nx v u _ hv.1 h0 hv.2] at hj
  by_cases e : v = u
  · subst e
    rw [if_pos rfl] at hj
    by_cases hj' : (j : Int) < at_ nx v
    · exact h v h0 h1 j hj' hjl
    · rw [show (j : Int) = at_ nx v from by omega]; exact hd
  · rw [if_neg e] at hj; exact h u h0 h1 j hj hjl
theorem Dead.not {L nx : List Int} {v : Int} (hr : ROk n rs) (h : Dead n rs L f nx) (hv : 0 ≤ v ∧ v < n.nodes) (hs : v ≠ n.sink) (hx : (at_ rs v).length ≤ at_ nx v) : ¬ Adm n f L v := fun ha => by
  cases ha with
  | sink => exact hs rfl
  | step i hi hp hL hA =>
    obtain ⟨j, hj, e⟩ := mem_at (hr.has i hi)
    refine h _ hv.1 hv.2 j (by omega) hj ?_
    rw [e]; exact ⟨hp, hL, hA⟩

/-- What sending d from v to the sink does. -/
structure PushR (n : Net) (rs : List (List Int)) (L : List Int) (v d : Int) (f nx f' nx' : List Int) : Prop where
  len : f'.length = n.arcs.length
  cap : CapF n f'
  net : ∀ z, netF n f' z = netF n f z + (if v = z then d else 0) - (if n.sink = z then d else 0)
  less : Less n L f f'
  same : ∀ i, InH n i → (at_ L (fromH n i) < at_ L v ∨ at_ L (toH n i) < at_ L v) → leftH n f' i = leftH n f i
  dead : Dead n rs L f' nx'
  nlen : nx'.length = nx.length
  nge : ∀ z, 0 ≤ z → z < n.nodes → 0 ≤ at_ nx' z
  nsame : ∀ z, 0 ≤ z → z < n.nodes → z ≠ v → at_ L z ≤ at_ L v → at_ nx' z = at_ nx z
  zero : d = 0 → f' = f

variable {L nx f' nx' : List Int} {v d : Int}
theorem PushR.start (hl : f.length = n.arcs.length) (hc : CapF n f) (hd : Dead n rs L f nx) (hx : ∀ z, 0 ≤ z → z < n.nodes → 0 ≤ at_ nx z) (v : Int) : PushR n rs L v 0 f nx f nx :=
  ⟨hl, hc, fun z => by simp, Less.refl _ _ _, fun _ _ _ => rfl, hd, rfl, hx, fun _ _ _ _ _ => rfl, fun _ => rfl⟩

/-- The mark moves on. -/
theorem PushR.adv (h : PushR n rs L v d f nx f' nx') (hv : 0 ≤ v ∧ v < nx'.length)
    (hd : ¬ (0 < leftH n f' (at_ (at_ rs v) (at_ nx' v)) ∧ at_ L (toH n (at_ (at_ rs v) (at_ nx' v))) = at_ L v + 1 ∧ Adm n f' L (toH n (at_ (at_ rs v) (at_ nx' v))))) (hn : v < n.nodes) : PushR n rs L v d f nx f' (nx'.set v.toNat (at_ nx' v + 1)) :=
  ⟨h.len, h.cap, h.net, h.less, h.same, h.dead.adv hv (h.nge v hv.1 hn) hd, by rw [List.length_set]; exact h.nlen, fun z h0 h1 => by
    rw [at_set nx' v z _ hv.1 h0 hv.2]
    have := h.nge v hv.1 hn
    have := h.nge z h0 h1
    split <;> omega, fun z h0 h1 hz hL => by
    rw [at_set nx' v z _ hv.1 h0 hv.2, if_neg (fun e => hz e.symm)]; exact h.nsame z h0 h1 hz hL, h.zero⟩

theorem pushF_zero (hl : f.length = n.arcs.length) (hi : InH n i) : pushF f i 0 = f := by
  have h1 := hi.half
  have e : ∀ x : Int, x = at_ f (i / 2) → f.set (i / 2).toNat x = f := fun x hx => by
    subst hx
    rw [at_eq (by omega) (by omega)]
    exact List.set_getElem_self _
  unfold pushF
  split
  · exact e _ (by omega)
  · exact e _ (by omega)

/-- Sending further, from half arc i on, and over it. -/
theorem PushR.put (hok : n.Ok) (hr : ROk n rs) {i e : Int} {g ng : List Int} (h : PushR n rs L v d f nx f' nx') (hi : InH n i) (hf : fromH n i = v) (hL : at_ L (toH n i) = at_ L v + 1)
    (h0 : 0 ≤ d) (he : 0 ≤ e) (hle : e ≤ leftH n f' i) (h2 : PushR n rs L (toH n i) e f' nx' g ng) : PushR n rs L v (d + e) f nx (pushF g i e) ng ∧ at_ ng v = at_ nx' v ∧ leftH n g i = leftH n f' i := by
  have hfo := from_ok hok hi
  have hs : leftH n g i = leftH n f' i := h2.same i hi (.inl (by rw [hf]; omega))
  have hless : Less n L g (pushF g i e) := fun j hj hLj => by
    rw [left_push h2.len hi e hj]
    by_cases a : j = mateH i
    · subst a
      rw [to_mate, from_mate, hf] at hLj
      omega
    · rw [if_neg a]; split <;> omega
  refine ⟨⟨(pushF_len e).trans h2.len, pushF_cap h2.len h2.cap hi he (by omega), fun z => ?_, (h.less.trans h2.less).trans hless, fun j hj hjL => ?_, h2.dead.less hr hless, h2.nlen.trans h.nlen, h2.nge, fun z hz0 hz1 hz hzL => ?_, fun hde => ?_⟩, h2.nsame v (by omega) (by omega) (by omega) (by omega), hs⟩
  · rw [netF_push h2.len hi, h2.net, h.net, hf]
    repeat' split
    all_goals omega
  · have h3 : leftH n g j = leftH n f' j := h2.same j hj (by omega)
    rw [left_push h2.len hi e hj, h3, h.same j hj hjL]
    have a1 : j ≠ i := fun e => by subst e; rw [hf] at hjL; omega
    have a2 : j ≠ mateH i := fun e => by subst e; rw [to_mate, from_mate, hf] at hjL; omega
    rw [if_neg a1, if_neg a2]; omega
  · rw [h2.nsame z hz0 hz1 (fun e => by subst e; omega) (by omega), h.nsame z hz0 hz1 hz hzL]
  · have e0 : e = 0 := by omega
    have d0 : d = 0 := by omega
    subst e0
    rw [pushF_zero h2.len hi, h2.zero rfl, h.zero d0]

/-- Behind it the half arc is of no more use. -/
theorem PushR.used {i e m : Int} {g : List Int} (hi : InH n i) (hm : e < m ∨ leftH n g i = e) (hq : e < m → ¬ Adm n g L (toH n i)) (hg : g.length = n.arcs.length) (he : 0 ≤ e) (hL : at_ L (toH n i) = at_ L (fromH n i) + 1) : ¬ (0 < leftH n (pushF g i e) i ∧ at_ L (toH n i) = at_ L (fromH n i) + 1 ∧ Adm n (pushF g i e) L (toH n i)) := fun ⟨a, _, c⟩ => by
  have hless : Less n L g (pushF g i e) := fun j hj hLj => by
    rw [left_push hg hi e hj]
    by_cases a : j = mateH i
    · subst a
      rw [to_mate, from_mate] at hLj
      omega
    · rw [if_neg a]; split <;> omega
  rcases hm with hm | hm
  · exact hq hm (c.less hless)
  · rw [left_push hg hi e hi, if_pos rfl, if_neg (fun e => mate_ne i e.symm)] at a
    omega

/-! ### The layers -/
structure LvOk (n : Net) (f L : List Int) : Prop where
  len : (L.length : Int) = n.nodes
  src : at_ L n.source = 0
  low : ∀ z, 0 ≤ z → z < n.nodes → -1 ≤ at_ L z ∧ at_ L z < n.nodes
  clos : ∀ i, InH n i → 0 ≤ at_ L (fromH n i) → 0 < leftH n f i → 0 ≤ at_ L (toH n i)
  par : ∀ z, 0 ≤ z → z < n.nodes → 0 ≤ at_ L z → z ≠ n.source → ∃ i, InH n i ∧ toH n i = z ∧ 0 < leftH n f i ∧ 0 ≤ at_ L (fromH n i) ∧ at_ L z = at_ L (fromH n i) + 1

theorem LvOk.adm (hok : n.Ok) (h : LvOk n f L) {z : Int} (hz : Adm n f L z) : ∀ m : Nat, 0 ≤ z → z < n.nodes → at_ L z = m → Adm n f L n.source := fun m => by
  induction m generalizing z with
  | zero =>
    intro h0 h1 hm
    by_cases hs : z = n.source
    · subst hs; exact hz
    · obtain ⟨i, hi, he, hl, hf, hq⟩ := h.par z h0 h1 (by omega) hs
      omega
  | succ m ih =>
    intro h0 h1 hm
    by_cases hs : z = n.source
    · subst hs; exact hz
    · obtain ⟨i, hi, he, hl, hf, hq⟩ := h.par z h0 h1 (by omega) hs
      have hfo := from_ok hok hi
      subst he
      exact ih (.step i hi hl hq hz) hfo.1.1 hfo.1.2 (by omega)
theorem LvOk.go (hok : n.Ok) (h : LvOk n f L) (hs : 0 ≤ at_ L n.sink) : Adm n f L n.source :=
  h.adm hok .sink (at_ L n.sink).toNat hok.snk.1 hok.snk.2 (by omega)
theorem LvOk.end (hok : n.Ok) (h : LvOk n f L) (hs : ¬ 0 ≤ at_ L n.sink) : ∃ S : Int → Bool, Shut n f S ∧ S n.source = true ∧ S n.sink = false :=
  ⟨fun z => decide (0 ≤ at_ L z), shut_half.2 fun i hi a b => decide_eq_true (h.clos i hi (of_decide_eq_true a) b), decide_eq_true (by rw [h.src]; omega), decide_eq_false hs⟩

/-- A round of greatest. -/
theorem PushR.flow (hok : n.Ok) (hf : IsFlow n f) (h : PushR n rs L n.source d f nx f' nx') : IsFlow n f' ∧ netF n f' n.source = netF n f n.source + d := by
  have hne := hok.ne
  refine ⟨⟨h.len, h.cap, fun v h0 h1 hs ht => ?_⟩, ?_⟩
  · rw [h.net v, if_neg (fun e => hs e.symm), if_neg (fun e => ht e.symm), hf.cons v h0 h1 hs ht]; rfl
  · rw [h.net, if_pos rfl, if_neg (fun e => hne e.symm)]; omega
end

/-- The state of the search by layers: todo waits; of node x the first q of its half arcs have been looked at. -/
structure LI (n : Net) (f : List Int) (rs : List (List Int)) (L todo : List Int) (x : Int) (q : Nat) : Prop where
  len : (L.length : Int) = n.nodes
  src : at_ L n.source = 0
  low : ∀ z, 0 ≤ z → z < n.nodes → -1 ≤ at_ L z ∧ at_ L z + un L < n.nodes
  wait : ∀ z ∈ todo, (0 ≤ z ∧ z < n.nodes) ∧ 0 ≤ at_ L z
  clos : ∀ z, 0 ≤ z → z < n.nodes → 0 ≤ at_ L z → z ∉ todo → ∀ j : Nat, j < (at_ rs z).length → (z = x → j < q) → 0 < leftH n f (at_ (at_ rs z) (j : Int)) → 0 ≤ at_ L (toH n (at_ (at_ rs z) (j : Int)))
  par : ∀ z, 0 ≤ z → z < n.nodes → 0 ≤ at_ L z → z ≠ n.source → ∃ i, InH n i ∧ toH n i = z ∧ 0 < leftH n f i ∧ 0 ≤ at_ L (fromH n i) ∧ at_ L z = at_ L (fromH n i) + 1
  cur : 0 ≤ x → x < n.nodes ∧ 0 ≤ at_ L x

section
variable {n : Net} {f L todo : List Int} {rs : List (List Int)} {x : Int} {q : Nat}

theorem LI.put (hok : n.Ok) (h : LI n f rs L todo x q) (hx : 0 ≤ x) {i : Int} (hi : InH n i) (hf : fromH n i = x) (hl : 0 < leftH n f i) (hn : at_ L (toH n i) < 0) :
    LI n f rs (L.set (toH n i).toNat (at_ L x + 1)) (todo ++ [toH n i]) x q ∧ un (L.set (toH n i).toNat (at_ L x + 1)) + 1 = un L := by
  have hfo := from_ok hok hi
  have hlen := h.len
  have hc : (0 ≤ x ∧ x < n.nodes) ∧ 0 ≤ at_ L x := ⟨⟨hx, (h.cur hx).1⟩, (h.cur hx).2⟩
  have hlo := h.low _ hfo.2.1.1 hfo.2.1.2
  have hlx := h.low _ hc.1.1 hc.1.2
  have hu := un_set (out := L) (y := toH n i) (i := at_ L x + 1) (by omega) (by omega) (by omega)
  generalize hy : toH n i = y at *
  have hat : ∀ z, 0 ≤ z → at_ (L.set y.toNat (at_ L x + 1)) z = if y = z then at_ L x + 1 else at_ L z := fun z hz => at_set L y z _ hfo.2.1.1 hz (by omega)
  have hge : ∀ z, 0 ≤ z → 0 ≤ at_ L z → 0 ≤ at_ (L.set y.toNat (at_ L x + 1)) z := fun z hz hp => by rw [hat z hz]; split <;> omega
  refine ⟨⟨by rw [List.length_set]; exact h.len, ?_, fun z h0 h1 => ?_, fun z hz => ?_, fun z h0 h1 hz hzt j hj hjq hjl => ?_, fun z h0 h1 hz hs => ?_, fun _ => ⟨hc.1.2, hge x hc.1.1 hc.2⟩⟩, hu⟩
  · have := hok.src
    rw [hat _ this.1, if_neg (fun e => by subst e; have := h.src; omega)]; exact h.src
  · have hz := h.low z h0 h1
    rw [hat z h0]
    split <;> omega
  · rcases List.mem_append.1 hz with hz | hz
    · have := h.wait z hz
      exact ⟨this.1, hge z this.1.1 this.2⟩
    · rw [List.mem_singleton.1 hz]
      exact ⟨hfo.2.1, by rw [hat y hfo.2.1.1, if_pos rfl]; omega⟩
  · have hzy : y ≠ z := fun e => hzt (List.mem_append_right _ (List.mem_singleton.2 e.symm))
    rw [hat z h0, if_neg hzy] at hz
    have := h.clos z h0 h1 hz (fun hm => hzt (List.mem_append_left _ hm)) j hj hjq hjl
    generalize toH n (at_ (at_ rs z) (j : Int)) = t at this ⊢
    by_cases hneg : 0 ≤ t
    · exact hge _ hneg this
    · have e0 : ∀ M : List Int, at_ M t = at_ M 0 := fun M => by unfold at_; rw [show t.toNat = (0 : Int).toNat from by omega]
      rw [e0] at this ⊢; exact hge 0 (by omega) (by omega)
  · rw [hat z h0] at hz ⊢
    by_cases hzy : y = z
    · rw [if_pos hzy]
      have hxy : y ≠ x := fun e => by subst e; omega
      exact ⟨i, hi, hy.trans hzy, hl, by rw [hf]; exact hge x hc.1.1 hc.2, by rw [hf, hat x hc.1.1, if_neg hxy]⟩
    · rw [if_neg hzy] at hz ⊢
      obtain ⟨k, hk, he, hkl, hkf, hkq⟩ := h.par z h0 h1 hz hs
      have hko := from_ok hok hk
      have hky : y ≠ fromH n k := fun e => by rw [← e] at hkf; omega
      exact ⟨k, hk, he, hkl, hge _ hko.1.1 hkf, by rw [hat _ hko.1.1, if_neg hky]; exact hkq⟩

theorem LI.inc (h : LI n f rs L todo x q) (hd : 0 < leftH n f (at_ (at_ rs x) (q : Int)) → 0 ≤ at_ L (toH n (at_ (at_ rs x) (q : Int)))) : LI n f rs L todo x (q + 1) :=
  ⟨h.len, h.src, h.low, h.wait, fun z h0 h1 hz hzt j hj hjq hjl => by
    by_cases e : z = x ∧ j = q
    · obtain ⟨rfl, rfl⟩ := e; exact hd hjl
    · exact h.clos z h0 h1 hz hzt j hj (fun ez => by have := hjq ez; have : j ≠ q := fun ej => e ⟨ez, ej⟩; omega) hjl, h.par, h.cur⟩
/-- The node at the head of what waits is taken. -/
theorem LI.next (h : LI n f rs L todo (-1) 0) (ht : 0 < todo.length) : LI n f rs L (todo.drop 1) (at_ todo 0) 0 := by
  obtain ⟨x, t, rfl⟩ : ∃ x t, todo = x :: t := by cases todo with
    | nil => simp at ht
    | cons x t => exact ⟨x, t, rfl⟩
  show LI n f rs L t x 0
  refine ⟨h.len, h.src, h.low, fun z hz => h.wait z (List.mem_cons_of_mem _ hz), fun z h0 h1 hz hzt j hj hjq hjl => ?_, h.par, fun _ => ?_⟩
  · by_cases e : z = x
    · have := hjq e; omega
    · have hzm : z ∉ x :: t := fun hm => by
        rcases List.mem_cons.1 hm with hm | hm
        · exact e hm
        · exact hzt hm
      exact h.clos z h0 h1 hz hzm j hj (fun ez => by omega) hjl
  · have := h.wait x List.mem_cons_self
    exact ⟨this.1.2, this.2⟩
theorem LI.over (h : LI n f rs L todo x q) (hq : (at_ rs x).length ≤ q) : LI n f rs L todo (-1) 0 :=
  ⟨h.len, h.src, h.low, h.wait, fun z h0 h1 hz hzt j hj _ hjl => h.clos z h0 h1 hz hzt j hj (fun e => by subst e; omega) hjl, h.par, fun h => by omega⟩
theorem LI.done (hok : n.Ok) (hr : ROk n rs) (h : LI n f rs L todo (-1) 0) (ht : ¬ 0 < todo.length) : LvOk n f L := by
  obtain rfl : todo = [] := List.eq_nil_of_length_eq_zero (by omega)
  exact ⟨h.len, h.src, fun z h0 h1 => by have := h.low z h0 h1; omega, fun i hi hf hl => by
    have hfo := from_ok hok hi
    obtain ⟨j, hj, e⟩ := mem_at (hr.has i hi)
    have := h.clos _ hfo.1.1 hfo.1.2 hf (by simp) j hj (fun e => by omega) (by rw [e]; exact hl)
    rwa [e] at this, h.par⟩
theorem LI.start (hok : n.Ok) {L0 : List Int} (hl : (L0.length : Int) = n.nodes) (h0 : ∀ j : Nat, j < L0.length → at_ L0 (j : Int) = -1) : LI n f rs (L0.set n.source.toNat 0) [n.source] (-1) 0 ∧ un (L0.set n.source.toNat 0) + 1 = n.nodes.toNat := by
  have hs := hok.src
  have h0' : ∀ z : Int, 0 ≤ z → z < n.nodes → at_ L0 z = -1 := fun z a b => at_all (p := fun z => at_ L0 z = -1) h0 a (by omega)
  have hat : ∀ z, 0 ≤ z → at_ (L0.set n.source.toNat 0) z = if n.source = z then 0 else at_ L0 z := fun z hz => at_set L0 _ z _ hs.1 hz (by omega)
  have hu := un_set (out := L0) (y := n.source) (i := 0) (by omega) (h0' _ hs.1 hs.2) (by omega)
  have hu0 : un L0 = n.nodes.toNat := by
    have e := eq_rep h0
    unfold un
    rw [e, List.count_replicate_self]; omega
  refine ⟨⟨by rw [List.length_set]; exact hl, by rw [hat _ hs.1, if_pos rfl], fun z a b => ?_, fun z hz => ?_, fun z a b hz hzt => ?_, fun z a b hz hne => ?_, fun h => by omega⟩, by omega⟩
  · rw [hat z a, h0' z a b]; split <;> omega
  · rw [List.mem_singleton.1 hz]; exact ⟨hs, by rw [hat _ hs.1, if_pos rfl]; omega⟩
  · exfalso
    have : n.source ≠ z := fun e => hzt (by rw [e]; exact List.mem_singleton.2 rfl)
    rw [hat z a, if_neg this, h0' z a b] at hz; omega
  · exfalso
    rw [hat z a, if_neg (fun e => hne e.symm), h0' z a b] at hz; omega
end
theorem at_zero_append {α : Type} [Inhabited α] {w : List α} {y : List α} (h : 0 < w.length) : at_ (w ++ y) 0 = at_ w 0 := by
  cases w with
  | nil => simp at h
  | cons x t => rfl
theorem drop_one_append {α : Type} {w y : List α} (h : 0 < w.length) : (w ++ y).drop 1 = w.drop 1 ++ y := by
  cases w with
  | nil => simp at h
  | cons x t => rfl

/-! ### What is reached -/
/-- What can go over half arc i in the direction of the search. -/
def goH (n : Net) (f : List Int) (ag : Bool) (i : Int) : Int := if ag then leftH n f (mateH i) else leftH n f i
def ShutG (n : Net) (f : List Int) (ag : Bool) (S : Int → Bool) : Prop := ∀ i, InH n i → S (fromH n i) = true → 0 < goH n f ag i → S (toH n i) = true

/-- The state of the search: todo waits; of node x the first q of its half arcs have been looked at. -/
structure RI (n : Net) (f : List Int) (ag : Bool) (v : Int) (rs : List (List Int)) (seen : List Bool) (todo : List Int) (x : Int) (q : Nat) : Prop where
  len : (seen.length : Int) = n.nodes
  src : at_ seen v = true
  wait : ∀ z ∈ todo, (0 ≤ z ∧ z < n.nodes) ∧ at_ seen z = true
  clos : ∀ z, 0 ≤ z → z < n.nodes → at_ seen z = true → z ∉ todo → ∀ j : Nat, j < (at_ rs z).length → (z = x → j < q) → 0 < goH n f ag (at_ (at_ rs z) (j : Int)) → at_ seen (toH n (at_ (at_ rs z) (j : Int))) = true
  sound : ∀ S : Int → Bool, ShutG n f ag S → S v = true → ∀ z, 0 ≤ z → z < n.nodes → at_ seen z = true → S z = true
  cur : 0 ≤ x → x < n.nodes ∧ at_ seen x = true

def unB (l : List Bool) : Nat := l.count false
theorem unB_set {l : List Bool} {y : Int} (hy : 0 ≤ y ∧ y < l.length) (h : at_ l y = false) : unB (l.set y.toNat true) + 1 = unB l := by
  unfold unB
  have hl : y.toNat < l.length := by omega
  have hg : l[y.toNat] = false := by rw [at_eq hy.1 hy.2] at h; exact h
  rw [List.count_set hl]
  have hpos : 0 < l.count false := List.count_pos_iff.2 (hg ▸ List.getElem_mem hl)
  have e1 : (l[y.toNat] == false) = true := by simp [hg]
  have e2 : (true == false) = false := rfl
  rw [e1, e2]
  simp only [if_true, Bool.false_eq_true, if_false]
  omega

section
variable {n : Net} {f todo : List Int} {ag : Bool} {v : Int} {seen : List Bool} {rs : List (List Int)} {x : Int} {q : Nat}
theorem RI.put (hok : n.Ok) (h : RI n f ag v rs seen todo x q) (hx : 0 ≤ x) (hv : 0 ≤ v) {i : Int} (hi : InH n i) (hf : fromH n i = x) (hl : 0 < goH n f ag i) (hn : at_ seen (toH n i) = false) :
    RI n f ag v rs (seen.set (toH n i).toNat true) (todo ++ [toH n i]) x q ∧ unB (seen.set (toH n i).toNat true) + 1 = unB seen := by
  have hfo := from_ok hok hi
  have hlen := h.len
  have hc := h.cur hx
  have hu := unB_set (l := seen) (y := toH n i) (by omega) hn
  have hti : ∀ S : Int → Bool, ShutG n f ag S → S x = true → S (toH n i) = true := fun S hS hs => hS i hi (by rw [hf]; exact hs) hl
  generalize hy : toH n i = y at *
  have hat : ∀ z, 0 ≤ z → at_ (seen.set y.toNat true) z = if y = z then true else at_ seen z := fun z hz => at_set seen y z _ hfo.2.1.1 hz (by omega)
  have hge : ∀ z, 0 ≤ z → at_ seen z = true → at_ (seen.set y.toNat true) z = true := fun z hz hp => by rw [hat z hz]; split <;> first | rfl | exact hp
  refine ⟨⟨by rw [List.length_set]; exact h.len, hge v hv h.src, fun z hz => ?_, fun z h0 h1 hz hzt j hj hjq hjl => ?_, fun S hS hs z h0 h1 hz => ?_, fun _ => ⟨hc.1, hge x hx hc.2⟩⟩, hu⟩
  · rcases List.mem_append.1 hz with hz | hz
    · have := h.wait z hz
      exact ⟨this.1, hge z this.1.1 this.2⟩
    · rw [List.mem_singleton.1 hz]
      exact ⟨hfo.2.1, by rw [hat y hfo.2.1.1, if_pos rfl]⟩
  · have hzy : y ≠ z := fun e => hzt (List.mem_append_right _ (List.mem_singleton.2 e.symm))
    rw [hat z h0, if_neg hzy] at hz
    have := h.clos z h0 h1 hz (fun hm => hzt (List.mem_append_left _ hm)) j hj hjq hjl
    generalize toH n (at_ (at_ rs z) (j : Int)) = t at this ⊢
    by_cases hneg : 0 ≤ t
    · exact hge _ hneg this
    · have e0 : ∀ M : List Bool, at_ M t = at_ M 0 := fun M => by unfold at_; rw [show t.toNat = (0 : Int).toNat from by omega]
      rw [e0] at this ⊢; exact hge 0 (by omega) (by omega)
  · rw [hat z h0] at hz
    by_cases hzy : y = z
    · subst hzy
      exact hti S hS (h.sound S hS hs x hx hc.1 hc.2)
    · rw [if_neg hzy] at hz
      exact h.sound S hS hs z h0 h1 hz
theorem RI.inc (h : RI n f ag v rs seen todo x q) (hd : 0 < goH n f ag (at_ (at_ rs x) (q : Int)) → at_ seen (toH n (at_ (at_ rs x) (q : Int))) = true) : RI n f ag v rs seen todo x (q + 1) :=
  ⟨h.len, h.src, h.wait, fun z h0 h1 hz hzt j hj hjq hjl => by
    by_cases e : z = x ∧ j = q
    · obtain ⟨rfl, rfl⟩ := e; exact hd hjl
    · exact h.clos z h0 h1 hz hzt j hj (fun ez => by have := hjq ez; have : j ≠ q := fun ej => e ⟨ez, ej⟩; omega) hjl, h.sound, h.cur⟩
theorem RI.next (h : RI n f ag v rs seen todo (-1) 0) (ht : 0 < todo.length) : RI n f ag v rs seen (todo.drop 1) (at_ todo 0) 0 := by
  obtain ⟨x, t, rfl⟩ : ∃ x t, todo = x :: t := by cases todo with
    | nil => simp at ht
    | cons x t => exact ⟨x, t, rfl⟩
  show RI n f ag v rs seen t x 0
  refine ⟨h.len, h.src, fun z hz => h.wait z (List.mem_cons_of_mem _ hz), fun z h0 h1 hz hzt j hj hjq hjl => ?_, h.sound, fun _ => ?_⟩
  · by_cases e : z = x
    · have := hjq e; omega
    · have hzm : z ∉ x :: t := fun hm => by
        rcases List.mem_cons.1 hm with hm | hm
        · exact e hm
        · exact hzt hm
      exact h.clos z h0 h1 hz hzm j hj (fun ez => by omega) hjl
  · have := h.wait x List.mem_cons_self
    exact ⟨this.1.2, this.2⟩
theorem RI.over (h : RI n f ag v rs seen todo x q) (hq : (at_ rs x).length ≤ q) : RI n f ag v rs seen todo (-1) 0 :=
  ⟨h.len, h.src, h.wait, fun z h0 h1 hz hzt j hj _ hjl => h.clos z h0 h1 hz hzt j hj (fun e => by subst e; omega) hjl, h.sound, fun h => by omega⟩
theorem RI.start (hv : 0 ≤ v ∧ v < n.nodes) {s0 : List Bool} (hl : (s0.length : Int) = n.nodes) (h0 : ∀ z : Int, 0 ≤ z → z < n.nodes → at_ s0 z = false) : RI n f ag v rs (s0.set v.toNat true) [v] (-1) 0 := by
  have hat : ∀ z, 0 ≤ z → at_ (s0.set v.toNat true) z = if v = z then true else at_ s0 z := fun z hz => at_set s0 _ z _ hv.1 hz (by omega)
  refine ⟨by rw [List.length_set]; exact hl, by rw [hat _ hv.1, if_pos rfl], fun z hz => ?_, fun z a b hz hzt => ?_, fun S hS hs z a b hz => ?_, fun h => by omega⟩
  · rw [List.mem_singleton.1 hz]; exact ⟨hv, by rw [hat _ hv.1, if_pos rfl]⟩
  · exfalso
    have : v ≠ z := fun e => hzt (by rw [e]; exact List.mem_singleton.2 rfl)
    rw [hat z a, if_neg this, h0 z a b] at hz; cases hz
  · by_cases e : v = z
    · subst e; exact hs
    · rw [hat z a, if_neg e, h0 z a b] at hz; cases hz
/-- What the search ends with. -/
structure Seen (n : Net) (f : List Int) (ag : Bool) (v : Int) (seen : List Bool) : Prop where
  len : (seen.length : Int) = n.nodes
  src : at_ seen v = true
  shut : ShutG n f ag fun z => at_ seen z
  sound : ∀ S : Int → Bool, ShutG n f ag S → S v = true → ∀ z, 0 ≤ z → z < n.nodes → at_ seen z = true → S z = true
theorem RI.done (hok : n.Ok) (hr : ROk n rs) (h : RI n f ag v rs seen todo (-1) 0) (ht : ¬ 0 < todo.length) : Seen n f ag v seen := by
  obtain rfl : todo = [] := List.eq_nil_of_length_eq_zero (by omega)
  exact ⟨h.len, h.src, fun i hi hf hl => by
    have hfo := from_ok hok hi
    obtain ⟨j, hj, e⟩ := mem_at (hr.has i hi)
    have := h.clos _ hfo.1.1 hfo.1.2 hf (by simp) j hj (fun e => by omega) (by rw [e]; exact hl)
    rwa [e] at this, h.sound⟩

/-- A flow to which nothing can be added. -/
structure Full (n : Net) (f : List Int) (val : Int) : Prop where
  flow : IsFlow n f
  val : val = netF n f n.source
  ends : ∃ S : Int → Bool, Shut n f S ∧ S n.source = true ∧ S n.sink = false

theorem shutG_fwd {S : Int → Bool} : ShutG n f false S ↔ Shut n f S := by rw [shut_half]; rfl
theorem shutG_bwd {S : Int → Bool} : ShutG n f true (fun z => !S z) ↔ Shut n f S := by
  rw [shut_half]
  constructor
  · intro h i hi a b
    have h0 : (!S (fromH n (mateH i))) = true → 0 < goH n f true (mateH i) → (!S (toH n (mateH i))) = true := h (mateH i) hi.mate
    rw [from_mate, to_mate] at h0
    unfold goH at h0
    rw [mate_mate, if_pos rfl] at h0
    cases hs : S (toH n i)
    · have h1 := h0 (by rw [hs]; rfl) b
      rw [a] at h1; cases h1
    · rfl
  · intro h i hi a b
    unfold goH at b
    rw [if_pos rfl] at b
    have a' : (!S (fromH n i)) = true := a
    have h0 := h (mateH i) hi.mate
    rw [from_mate, to_mate] at h0
    show (!S (toH n i)) = true
    cases hs : S (toH n i)
    · rfl
    · have h1 := h0 hs b
      rw [h1] at a'; cases a'

theorem Seen.least (hok : n.Ok) {val : Int} (hf : Full n f val) (h : Seen n f false n.source seen) : Least n f fun z => decide (0 ≤ z ∧ z < n.nodes) && at_ seen z := by
  have hs := hok.src
  have ht := hok.snk
  refine ⟨by simp [hs, h.src], ?_, shut_half.2 fun i hi a b => ?_, fun S hS hv z hz => ?_⟩
  · obtain ⟨S, h1, h2, h3⟩ := hf.ends
    cases e : at_ seen n.sink
    · simp
    · have := h.sound S (shutG_fwd.2 h1) h2 _ ht.1 ht.2 e
      rw [h3] at this; cases this
  · have hfo := from_ok hok hi
    simp only [Bool.and_eq_true, decide_eq_true_iff] at a ⊢
    exact ⟨hfo.2.1, h.shut i hi a.2 b⟩
  · simp only [Bool.and_eq_true, decide_eq_true_iff] at hz
    exact h.sound S (shutG_fwd.2 hS) hv z hz.1.1 hz.1.2 hz.2
theorem Seen.great (hok : n.Ok) {val : Int} (hf : Full n f val) (h : Seen n f true n.sink seen) : Great n f fun z => !at_ seen z := by
  have hs := hok.src
  have ht := hok.snk
  refine ⟨?_, by rw [h.src]; rfl, ?_, fun S hS hv z h0 h1 hz => ?_⟩
  · obtain ⟨S, h1, h2, h3⟩ := hf.ends
    cases e : at_ seen n.source
    · rfl
    · have := h.sound (fun z => !S z) (shutG_bwd.2 h1) (by rw [h3]; rfl) _ hs.1 hs.2 e
      rw [h2] at this; cases this
  · refine shutG_bwd.1 ?_
    have e : (fun z => !!at_ seen z) = fun z => at_ seen z := by funext z; simp
    rw [e]; exact h.shut
  · cases e : at_ seen z
    · rfl
    · have := h.sound (fun z => !S z) (shutG_bwd.2 hS) (by rw [hv]; rfl) z h0 h1 e
      rw [hz] at this; cases this
end
end Go.Sl
namespace Go.Sl
theorem nat_xor_one (n : Nat) : n ^^^ 1 = if n % 2 = 0 then n + 1 else n - 1 := by
  have h1 : (n ^^^ 1) / 2 = n / 2 := by rw [Nat.xor_div_two]; simp
  have h2 : (n ^^^ 1) % 2 = 1 ↔ ¬ (n % 2 = 1 ↔ 1 % 2 = 1) := Nat.xor_mod_two_eq_one
  split <;> omega
theorem xor_mate {i : Int} (h0 : 0 ≤ i) (h1 : i < 4611686018427387904) : bits .xor .i64 i 1 = mateH i := by
  obtain ⟨n, rfl⟩ : ∃ n : Nat, i = (n : Int) := ⟨i.toNat, by omega⟩
  have e : (BitVec.ofInt 64 (n : Int) ^^^ BitVec.ofInt 64 1).toNat = n ^^^ 1 := by
    rw [BitVec.toNat_xor, BitVec.toNat_ofInt, BitVec.toNat_ofInt]
    congr 1
    omega
  have e2 : bits .xor .i64 (n : Int) 1 = IntKind.i64.wrap (((n ^^^ 1 : Nat)) : Int) := by
    unfold bits
    show IntKind.i64.wrap ((BitVec.ofInt 64 (n : Int) ^^^ BitVec.ofInt 64 1).toNat : Int) = _
    rw [e]
  rw [e2, nat_xor_one]
  unfold mateH
  split <;> split <;> rw [IntKind.wrap_i64] <;> omega
end Go.Sl
namespace Go.Sl
open Go.Proofs
set_option linter.unusedVariables false
set_option linter.unusedSimpArgs false
set_option maxRecDepth 4000
theorem Runs.getf0 {P : Program} {κ : Ctx} {N : Nat} {L : Env} {J : List Item} {d : Option Tmp} {ty : TypeId} {ps : String} {af : Array Edge} {gd : Option (Nat × Bool)} {α : Type} [Enc α] [Inhabited α] {v : Value} {xs : List α} {x : Operand} {T s by' : Nat} {z : List Value} {i : Int} {u : Value} (hT : tyF P T = some (s, false, by', z)) (hx : evalO L x = some (elemPtr v (i.toNat * Enc.sz α))) (hv : Sl κ J v xs) (h0 : 0 ≤ i) (hn : i < xs.length)
    (hu : (Enc.enc (at_ xs i))[0]? = some u) : Runs P κ N ⟨d, .load T x, ty, ps, af, gd⟩ L J u := Runs.getf (j := 0) hT hx hv h0 hn hu
instance : Enc Half := ⟨fun h => [I64 h.frm, I64 h.dst, I64 h.cap, I64 h.left], 4, by omega, fun _ => rfl, fun h u hu => by
  simp only [List.mem_cons, List.not_mem_nil, or_false] at hu
  rcases hu with rfl | rfl | rfl | rfl <;> rfl⟩
/-- A slice of numbers as an element, with what it holds. -/
structure Row where
  a : Option Addr
  c : Nat
  xs : List Int
deriving Inhabited
instance : Enc Row := ⟨fun r => [.slice r.a r.xs.length r.c], 1, by omega, fun _ => rfl, fun r u hu => by
  simp only [List.mem_cons, List.not_mem_nil, or_false] at hu
  subst hu; rfl⟩
def rowsL (rs : List Row) : List (List Int) := rs.map Row.xs
theorem rowsL_at (rs : List Row) (v : Int) : at_ (rowsL rs) v = (at_ rs v).xs := by
  unfold rowsL at_
  simp only [List.getD_eq_getElem?_getD, List.getElem?_map]
  cases rs[v.toNat]? <;> rfl
section
variable {n : Net} {f L todo : List Int} {rs : List Row} {x i v : Int} {q : Nat} {hs : List Half}
theorem ROk.rl (h : ROk n (rowsL rs)) : (rs.length : Int) = n.nodes := by have := h.len; unfold rowsL at this; rwa [List.length_map] at this
theorem ROk.row (h : ROk n (rowsL rs)) (h0 : 0 ≤ v) (h1 : v < n.nodes) {j : Int} (hj0 : 0 ≤ j) (hj : j < (at_ rs v).xs.length) : InH n (at_ (at_ rs v).xs j) ∧ fromH n (at_ (at_ rs v).xs j) = v := by
  have := h.all v h0 h1 (at_ (at_ rs v).xs j)
  rw [rowsL_at] at this
  exact this (at_mem hj0 hj)
theorem lay_step {L1 nx1 : List Int} {k : Nat} (h : ∀ j : Nat, j < k → at_ L1 (j : Int) = -1 ∧ at_ nx1 (j : Int) = 0) (hk : k < L1.length) (hk2 : k < nx1.length) :
    ∀ j : Nat, j < k + 1 → at_ (List.set L1 (((k : Nat) : Int)).toNat (-1)) (j : Int) = -1 ∧ at_ (List.set nx1 (((k : Nat) : Int)).toNat 0) (j : Int) = 0 := fun j hj => by
  rw [Int.toNat_natCast, at_setn L1 k j _ hk, at_setn nx1 k j _ hk2]
  by_cases e : k = j
  · rw [if_pos e, if_pos e]; exact ⟨rfl, rfl⟩
  · rw [if_neg e, if_neg e]; exact h j (by omega)
theorem LI.inc1 (h : LI n f (rowsL rs) L todo x q) (hd : 0 < leftH n f (at_ (at_ rs x).xs (q : Int)) → 0 ≤ at_ L (toH n (at_ (at_ rs x).xs (q : Int)))) : LI n f (rowsL rs) L todo x (q + 1) := h.inc (by rw [rowsL_at]; exact hd)
theorem LI.put1 (hok : n.Ok) (h : LI n f (rowsL rs) L todo x q) (hx : 0 ≤ x) (hi : InH n (at_ (at_ rs x).xs (q : Int)) ∧ fromH n (at_ (at_ rs x).xs (q : Int)) = x) (hl : 0 < leftH n f (at_ (at_ rs x).xs (q : Int))) (hn : at_ L (toH n (at_ (at_ rs x).xs (q : Int))) < 0) :
    LI n f (rowsL rs) (L.set (toH n (at_ (at_ rs x).xs (q : Int))).toNat (at_ L x + 1)) (todo ++ [toH n (at_ (at_ rs x).xs (q : Int))]) x (q + 1) ∧ un (L.set (toH n (at_ (at_ rs x).xs (q : Int))).toNat (at_ L x + 1)) + 1 = un L := by
  have h1 := h.put hok hx hi.1 hi.2 hl hn
  refine ⟨h1.1.inc1 fun _ => ?_, h1.2⟩
  have hfo := from_ok hok hi.1
  rw [at_set _ _ _ _ hfo.2.1.1 hfo.2.1.1 (by have := h.len; omega), if_pos rfl]
  have := (h.cur hx).2
  omega
theorem LI.over1 (h : LI n f (rowsL rs) L todo x q) (hq : (at_ rs x).xs.length ≤ q) : LI n f (rowsL rs) L todo (-1) 0 := h.over (by rw [rowsL_at]; exact hq)
end

theorem Layers_ok {κ : Ctx} {I : List Item} {n : Net} {f : List Int} {hs : List Half} {rs : List Row} {b : Nat} {hw ow lw nw : Value} {L nx : List Int} (hok : n.Ok) (hh : HOk n f hs) (hr : ROk n (rowsL rs)) (ho : Sl κ I ow rs) (hrow : ∀ i : Int, 0 ≤ i → i < rs.length → Sl κ I (.slice (at_ rs i).a (at_ rs i).xs.length (at_ rs i).c) (at_ rs i).xs) (hL : (L.length : Int) = n.nodes) (hN : (nx.length : Int) = n.nodes) :
    CallS Try.prog κ 212 [.pointer (some ⟨b, 0, none⟩), I64 (n.source)] (blk b [hw, ow, lw, nw, I64 (n.sink)] 142 :: vc 139 (hw) (hs) :: vc 3 (lw) (L) :: vc 3 (nw) (nx) :: I) (fun r J => ∃ L' nx' : List Int, r = .bool (decide (0 ≤ at_ L' n.sink)) ∧ (LvOk n f L' ∧ (nx'.length : Int) = n.nodes ∧ ∀ z : Int, 0 ≤ z → z < n.nodes → at_ nx' z = 0) ∧ J = blk b [hw, ow, lw, nw, I64 (n.sink)] 142 :: vc 139 (hw) (hs) :: vc 3 (lw) (L') :: vc 3 (nw) (nx') :: I) := by
 have hlim := hok.lim
 have hsrc := hok.src
 have hsnk := hok.snk
 have hhl := hh.len
 have hrl := hr.rl
 refine CallS.enter (L := [(0, .pointer (some ⟨b, 0, none⟩)), (1, I64 (n.source))]) Try.func212 rfl rfl rfl rfl ?_
 refine W.sr ?_
 refine G.r (Runs.assign rfl) ?_
 refine G.nt ?_
 refine W.seq ?_
 refine W.sr ?_
 refine G.r (Runs.move rfl) ?_
 refine G.r (Runs.nilCheck rfl) ?_
 refine G.r (Runs.fieldAddr fld142_2 rfl) ?_
 refine G.r (Runs.ld ty22) ?_
 refine G.r (Runs.lenT (α := Int) (xs := L) Try.underlying22 rfl Sl.o) ?_
 refine G.r (Runs.move rfl) ?_
 refine G.nt ?_
 refine W.block ?_
 refine W.loop (σ := Nat × (List Int) × (List Int)) (fun s => ([(0, .pointer (some ⟨b, 0, none⟩)), (1, I64 (n.source)), (14, I64 (((L.length : Nat) : Int))), (15, I64 (((s.1 : Nat) : Int)))] : Env)) (fun s => blk b [hw, ow, lw, nw, I64 (n.sink)] 142 :: vc 139 (hw) (hs) :: vc 3 (lw) (s.2.1) :: vc 3 (nw) (s.2.2) :: I) (fun s => (s.1 ≤ L.length) ∧ (s.2.1.length = L.length) ∧ (s.2.2.length = nx.length) ∧ (∀ j : Nat, j < s.1 → at_ s.2.1 (j : Int) = -1 ∧ at_ s.2.2 (j : Int) = 0)) (fun s => L.length - s.1) (0, L, nx) (show ((0 : Nat) ≤ L.length) ∧ ((L : List Int).length = L.length) ∧ ((nx : List Int).length = nx.length) ∧ (∀ j : Nat, j < (0 : Nat) → at_ (L : List Int) (j : Int) = -1 ∧ at_ (nx : List Int) (j : Int) = 0) from ⟨(by omega), rfl, rfl, all_zero⟩) (Sub.cons rfl (Sub.cons rfl (Sub.cons rfl (Sub.cons (lookI rfl (by omega)) Sub.nil)))) (show Fit κ _ (blk b [hw, ow, lw, nw, I64 (n.sink)] 142 :: vc 139 (hw) (hs) :: vc 3 (lw) ((L)) :: vc 3 (nw) ((nx)) :: I) from Fit.sub) ?_
 rintro ⟨k, L1, nx1⟩ hp
 obtain ⟨hk, hl1, hn1, hz⟩ : (k ≤ L.length) ∧ (L1.length = L.length) ∧ (nx1.length = nx.length) ∧ (∀ j : Nat, j < k → at_ L1 (j : Int) = -1 ∧ at_ nx1 (j : Int) = 0) := hp
 show W Try.prog κ 116 _ _ ([(0, .pointer (some ⟨b, 0, none⟩)), (1, I64 (n.source)), (14, I64 (((L.length : Nat) : Int))), (15, I64 (((k : Nat) : Int)))] : Env) (blk b [hw, ow, lw, nw, I64 (n.sink)] 142 :: vc 139 (hw) (hs) :: vc 3 (lw) (L1) :: vc 3 (nw) (nx1) :: I)
 refine W.sr ?_
 refine G.r (Runs.lss rfl rfl) ?_
 refine G.nt ?_
 refine W.seq ?_
 refine W.ite rfl (fun c16 => ?_) (fun c16 => ?_)
 ·refine W.skip ?_
  refine V.then ?_
  refine W.seq ?_
  refine W.block ?_
  refine W.sr ?_
  refine G.r (Runs.move rfl) ?_
  refine G.r (Runs.assign rfl) ?_
  refine G.nt ?_
  refine W.drawn mixed ?_
  refine A.hold (blk b [hw, ow, lw, nw, I64 (n.sink)] 142 :: vc 139 (hw) (hs) :: I) 14 ?_
  refine D.read 0 rfl (by kernel_rfl) (by kernel_rfl) (by kernel_rfl) rfl (by kernel_rfl) (fun _ _ _ _ h => h) (Wanted.plain rfl) rfl rfl Fit.sub (Runs.move rfl) ?_
  refine D.read 1 rfl (by kernel_rfl) (by kernel_rfl) (by kernel_rfl) rfl (by kernel_rfl) (fun _ _ _ _ h => h) (Wanted.plain rfl) rfl rfl Fit.sub (Runs.nilCheck rfl) ?_
  refine D.read 2 rfl (by kernel_rfl) (by kernel_rfl) (by kernel_rfl) rfl (by kernel_rfl) (fun _ _ _ _ h => h) (Wanted.plain rfl) rfl rfl Fit.sub (Runs.fieldAddr fld142_2 rfl) ?_
  refine D.read 3 rfl (by kernel_rfl) (by kernel_rfl) (by kernel_rfl) rfl (by kernel_rfl) (fun _ _ _ _ h => h) (Wanted.plain rfl) rfl rfl Fit.sub (Runs.ld ty22) ?_
  refine D.read 4 rfl (by kernel_rfl) (by kernel_rfl) (by kernel_rfl) rfl (by kernel_rfl) (fun _ _ _ _ h => h) (Wanted.plain rfl) rfl rfl Fit.sub (Runs.move rfl) ?_
  refine D.read 5 rfl (by kernel_rfl) (by kernel_rfl) (by kernel_rfl) rfl (by kernel_rfl) (fun _ _ _ _ h => h) (Wanted.plain rfl) rfl rfl Fit.sub (Runs.move rfl) ?_
  refine D.read 6 rfl (by kernel_rfl) (by kernel_rfl) (by kernel_rfl) rfl (by kernel_rfl) (fun _ _ _ _ h => h) (Wanted.plain rfl) rfl rfl Fit.sub (Runs.nilCheck rfl) ?_
  refine D.read 7 rfl (by kernel_rfl) (by kernel_rfl) (by kernel_rfl) rfl (by kernel_rfl) (fun _ _ _ _ h => h) (Wanted.plain rfl) rfl rfl Fit.sub (Runs.fieldAddr fld142_3 rfl) ?_
  refine D.read 8 rfl (by kernel_rfl) (by kernel_rfl) (by kernel_rfl) rfl (by kernel_rfl) (fun _ _ _ _ h => h) (Wanted.plain rfl) rfl rfl Fit.sub (Runs.ld ty22) ?_
  refine D.read 9 rfl (by kernel_rfl) (by kernel_rfl) (by kernel_rfl) rfl (by kernel_rfl) (fun _ _ _ _ h => h) (Wanted.plain rfl) rfl rfl Fit.sub (Runs.move rfl) ?_
  refine D.step (rs := [10]) (by kernel_rfl) rfl rfl (all1 ?_)
  refine Step.read rfl (Wanted.plain rfl) rfl rfl (Runs.idx (α := Int) (xs := L1) Try.underlying22 ty3 rfl rfl Sl.o (by omega) (by omega)) Fit.sub ?_
  refine D.step (rs := [11]) (by kernel_rfl) rfl rfl (all1 ?_)
  refine Step.eff rfl (Wanted.plain rfl) (Eff.set (α := Int) (xs := L1) (e := 3) (new := -1) ty3 rfl rfl rfl (by omega) (by omega) (by repeat (first | exact At.head _ _ _ | apply At.tail))) ?_
  rintro _ _ ⟨rfl, rfl⟩
  refine ⟨Fit.sub, ?_⟩
  refine D.step (rs := [12]) (by kernel_rfl) rfl rfl (all1 ?_)
  refine Step.read rfl (Wanted.plain rfl) rfl rfl (Runs.idx (α := Int) (xs := nx1) Try.underlying22 ty3 rfl rfl Sl.o (by omega) (by omega)) Fit.sub ?_
  refine D.step (rs := [13]) (by kernel_rfl) rfl rfl (all1 ?_)
  refine Step.eff rfl (Wanted.plain rfl) (Eff.set (α := Int) (xs := nx1) (e := 3) (new := 0) ty3 rfl rfl rfl (by omega) (by omega) (by repeat (first | exact At.head _ _ _ | apply At.tail))) ?_
  rintro _ _ ⟨rfl, rfl⟩
  refine ⟨Fit.sub, ?_⟩
  refine D.done (by kernel_rfl) ?_
  refine V.block_normal ?_
  refine V.then ?_
  refine W.sub (L' := [(0, _), (1, _), (14, _), (15, _)]) (Sub.cons rfl (Sub.cons rfl (Sub.cons rfl (Sub.cons rfl Sub.nil)))) ?_
  refine W.region ?_
  refine G.r (Runs.add rfl rfl (by unfold InR; omega)) ?_
  refine G.r (Runs.move rfl) ?_
  refine G.nil ?_
  exact V.next ((k + 1), (List.set L1 (((k : Nat) : Int)).toNat (-1)), (List.set nx1 (((k : Nat) : Int)).toNat (0))) (show ((k + 1 : Nat) ≤ L.length) ∧ ((List.set L1 (((k : Nat) : Int)).toNat (-1) : List Int).length = L.length) ∧ ((List.set nx1 (((k : Nat) : Int)).toNat (0) : List Int).length = nx.length) ∧ (∀ j : Nat, j < (k + 1 : Nat) → at_ (List.set L1 (((k : Nat) : Int)).toNat (-1) : List Int) (j : Int) = -1 ∧ at_ (List.set nx1 (((k : Nat) : Int)).toNat (0) : List Int) (j : Int) = 0) from ⟨(by omega), (by rw [List.length_set]; exact hl1), (by rw [List.length_set]; exact hn1), (lay_step hz (by omega) (by omega))⟩) (show L.length - (k + 1 : Nat) < L.length - k from (by omega)) (Sub.cons rfl (Sub.cons rfl (Sub.cons rfl (Sub.cons (lookI rfl (by omega)) Sub.nil)))) (show Fit κ _ (blk b [hw, ow, lw, nw, I64 (n.sink)] 142 :: vc 139 (hw) (hs) :: vc 3 (lw) ((List.set L1 (((k : Nat) : Int)).toNat (-1))) :: vc 3 (nw) ((List.set nx1 (((k : Nat) : Int)).toNat (0))) :: I) from Fit.sub)
 ·refine W.exit ?_
  refine V.then_exit ?_
  refine V.then_exit ?_
  refine V.block_hit ?_
  refine V.then ?_
  refine W.sr ?_
  refine G.r (Runs.move rfl) ?_
  have hkn : k = L.length := by omega
  subst hkn
  have hst := LI.start (f := f) (rs := rowsL rs) hok (L0 := L1) (by omega) (fun j hj => (hz j (by omega)).1)
  have hsL : (List.set L1 n.source.toNat 0).length = L1.length := by rw [List.length_set]
  refine G.r (Runs.nilCheck rfl) ?_
  refine G.r (Runs.fieldAddr fld142_2 rfl) ?_
  refine G.r (Runs.ld ty22) ?_
  refine G.r (Runs.move rfl) ?_
  refine G.r (Runs.idx (α := Int) (xs := L1) Try.underlying22 ty3 rfl rfl Sl.o (by omega) (by omega)) ?_
  refine G.e (Eff.set (α := Int) (xs := L1) (e := 3) (new := 0) ty3 rfl rfl rfl (by omega) (by omega) (by repeat (first | exact At.head _ _ _ | apply At.tail))) ?_
  rintro _ _ ⟨rfl, rfl⟩
  refine G.nt ?_
  refine W.seq ?_
  refine W.sr ?_
  refine G.r (Runs.move rfl) ?_
  refine G.e (Eff.bs (α := Int) (cs := [_]) (xs := [n.source]) Try.underlying22 ty3 rfl rfl (by decide) (by decide) rfl rfl rfl rfl) ?_
  rintro _ _ ⟨ad1, rfl, rfl⟩
  refine G.r (Runs.assign rfl) ?_
  refine G.nt ?_
  refine W.sub (L' := [(6, _), (0, _)]) (Sub.cons rfl (Sub.cons rfl Sub.nil)) ?_
  refine W.block ?_
  refine W.loop (σ := (Option Addr) × Nat × (List Int) × (List Int)) (fun s => ([(0, .pointer (some ⟨b, 0, none⟩)), (6, .slice s.1 s.2.2.1.length s.2.1)] : Env)) (fun s => vc 3 (.slice s.1 s.2.2.1.length s.2.1) (s.2.2.1) :: blk b [hw, ow, lw, nw, I64 (n.sink)] 142 :: vc 139 (hw) (hs) :: vc 3 (lw) (s.2.2.2) :: vc 3 (nw) (nx1) :: I) (fun s => (LI n f (rowsL rs) s.2.2.2 s.2.2.1 (-1) 0) ∧ (un s.2.2.2 + s.2.2.1.length ≤ n.nodes.toNat)) (fun s => un s.2.2.2 + s.2.2.1.length) (ad1, 1, [n.source], List.set L1 (n.source).toNat (0)) (show (LI n f (rowsL rs) (List.set L1 (n.source).toNat (0) : List Int) ([n.source] : List Int) (-1) 0) ∧ (un (List.set L1 (n.source).toNat (0) : List Int) + ([n.source] : List Int).length ≤ n.nodes.toNat) from ⟨hst.1, (by have := hst.2; simp only [List.length_cons, List.length_nil]; omega)⟩) (Sub.cons rfl (Sub.cons (lookV rfl (by first | rfl | simp)) Sub.nil)) (show Fit κ _ (vc 3 (.slice (ad1) ([n.source]).length (1)) (([n.source])) :: blk b [hw, ow, lw, nw, I64 (n.sink)] 142 :: vc 139 (hw) (hs) :: vc 3 (lw) ((List.set L1 (n.source).toNat (0))) :: vc 3 (nw) (nx1) :: I) from Fit.sub) ?_
  rintro ⟨a, c, todo, L2⟩ hp
  obtain ⟨hI, hub⟩ : (LI n f (rowsL rs) L2 todo (-1) 0) ∧ (un L2 + todo.length ≤ n.nodes.toNat) := hp
  show W Try.prog κ 116 _ _ ([(0, .pointer (some ⟨b, 0, none⟩)), (6, .slice a todo.length c)] : Env) (vc 3 (.slice a todo.length c) (todo) :: blk b [hw, ow, lw, nw, I64 (n.sink)] 142 :: vc 139 (hw) (hs) :: vc 3 (lw) (L2) :: vc 3 (nw) (nx1) :: I)
  have hl2 := hI.len
  refine W.seq ?_
  refine W.sr ?_
  refine G.r (Runs.move rfl) ?_
  refine G.r (Runs.lens Try.underlying22 rfl) ?_
  refine G.r (Runs.gtr rfl rfl) ?_
  refine G.nt ?_
  refine W.ite rfl (fun c41 => ?_) (fun c41 => ?_)
  ·refine W.skip ?_
   refine V.then ?_
   refine W.seq ?_
   refine W.block ?_
   refine W.seq ?_
   refine W.drawn mixed ?_
   refine A.hold (vc 3 (.slice a todo.length c) (todo) :: blk b [hw, ow, lw, nw, I64 (n.sink)] 142 :: vc 139 (hw) (hs) :: vc 3 (lw) (L2) :: vc 3 (nw) (nx1) :: I) 11 ?_
   refine D.r 0 rfl (Runs.move rfl) ?_
   have hx0 := hI.wait _ (at_mem (xs := todo) (i := 0) (by omega) (by omega))
   refine D.r 1 rfl (Runs.nilCheck rfl) ?_
   refine D.r 2 rfl (Runs.fieldAddr fld142_1 rfl) ?_
   refine D.r 3 rfl (Runs.ld ty50) ?_
   refine D.r 4 rfl (Runs.move rfl) ?_
   refine D.r 5 rfl (Runs.idx (α := Int) (xs := todo) Try.underlying22 ty3 rfl rfl Sl.o (by omega) (by omega)) ?_
   refine D.r 6 rfl (Runs.get (xs := todo) ty3 rfl Sl.o (by omega) (by omega)) ?_
   refine D.r 7 rfl (Runs.idx (α := Row) (xs := rs) Try.underlying50 ty22 rfl rfl (Sl.f ho) (by omega) (by omega)) ?_
   refine D.r 8 rfl (Runs.getf0 (α := Row) (xs := rs) (u := .slice (at_ rs (at_ todo 0)).a (at_ rs (at_ todo 0)).xs.length (at_ rs (at_ todo 0)).c) ty22 rfl (Sl.f ho) (by omega) (by omega) rfl) ?_
   refine D.r 9 rfl (Runs.lens Try.underlying22 rfl) ?_
   refine D.r 10 rfl (Runs.move rfl) ?_
   refine D.done (by kernel_rfl) ?_
   refine V.then ?_
   refine W.sub (L' := [(54, _), (53, _), (52, _), (0, _), (6, _)]) (Sub.cons rfl (Sub.cons rfl (Sub.cons rfl (Sub.cons rfl (Sub.cons rfl Sub.nil))))) ?_
   refine W.block ?_
   refine W.loop (σ := Nat × (Option Addr) × Nat × (List Int) × (List Int)) (fun s => ([(0, .pointer (some ⟨b, 0, none⟩)), (6, .slice s.2.1 s.2.2.2.1.length s.2.2.1), (52, .slice (at_ rs (at_ todo 0)).a (at_ rs (at_ todo 0)).xs.length (at_ rs (at_ todo 0)).c), (53, I64 ((((at_ rs (at_ todo 0)).xs.length : Nat) : Int))), (54, I64 (((s.1 : Nat) : Int)))] : Env)) (fun s => vc 3 (.slice s.2.1 s.2.2.2.1.length s.2.2.1) (s.2.2.2.1) :: blk b [hw, ow, lw, nw, I64 (n.sink)] 142 :: vc 139 (hw) (hs) :: vc 3 (lw) (s.2.2.2.2) :: vc 3 (nw) (nx1) :: I) (fun s => (s.1 ≤ (at_ rs (at_ todo 0)).xs.length) ∧ (0 < s.2.2.2.1.length) ∧ (at_ s.2.2.2.1 0 = (at_ todo 0)) ∧ (LI n f (rowsL rs) s.2.2.2.2 (s.2.2.2.1.drop 1) (at_ todo 0) s.1) ∧ (un s.2.2.2.2 + s.2.2.2.1.length = un L2 + todo.length)) (fun s => (at_ rs (at_ todo 0)).xs.length - s.1) (0, a, c, todo, L2) (show ((0 : Nat) ≤ (at_ rs (at_ todo 0)).xs.length) ∧ (0 < (todo : List Int).length) ∧ (at_ (todo : List Int) 0 = (at_ todo 0)) ∧ (LI n f (rowsL rs) (L2 : List Int) ((todo : List Int).drop 1) (at_ todo 0) (0 : Nat)) ∧ (un (L2 : List Int) + (todo : List Int).length = un L2 + todo.length) from ⟨(by omega), (by omega), rfl, (hI.next (by omega)), rfl⟩) (Sub.cons rfl (Sub.cons (lookV rfl (by first | rfl | simp)) (Sub.cons rfl (Sub.cons rfl (Sub.cons (lookI rfl (by omega)) Sub.nil))))) (show Fit κ _ (vc 3 (.slice (a) (todo).length (c)) ((todo)) :: blk b [hw, ow, lw, nw, I64 (n.sink)] 142 :: vc 139 (hw) (hs) :: vc 3 (lw) ((L2)) :: vc 3 (nw) (nx1) :: I) from Fit.sub) ?_
   rintro ⟨q, a1, c1, w, L3⟩ hp
   obtain ⟨hq, hwl, hw0, hI1, hmu⟩ : (q ≤ (at_ rs (at_ todo 0)).xs.length) ∧ (0 < w.length) ∧ (at_ w 0 = (at_ todo 0)) ∧ (LI n f (rowsL rs) L3 (w.drop 1) (at_ todo 0) q) ∧ (un L3 + w.length = un L2 + todo.length) := hp
   show W Try.prog κ 116 _ _ ([(0, .pointer (some ⟨b, 0, none⟩)), (6, .slice a1 w.length c1), (52, .slice (at_ rs (at_ todo 0)).a (at_ rs (at_ todo 0)).xs.length (at_ rs (at_ todo 0)).c), (53, I64 ((((at_ rs (at_ todo 0)).xs.length : Nat) : Int))), (54, I64 (((q : Nat) : Int)))] : Env) (vc 3 (.slice a1 w.length c1) (w) :: blk b [hw, ow, lw, nw, I64 (n.sink)] 142 :: vc 139 (hw) (hs) :: vc 3 (lw) (L3) :: vc 3 (nw) (nx1) :: I)
   refine W.pull (fun w hs => (Sl.fit (hrow (at_ todo 0) (by omega) (by omega)) Fit.m).le w hs) fun hrm => ?_
   have hl3 := hI1.len
   have hcur := hI1.cur hx0.1.1
   have hlw : at_ L3 (at_ w 0) + un L3 < n.nodes := by rw [hw0]; exact (hI1.low _ hx0.1.1 hx0.1.2).2
   have hlw0 : 0 ≤ at_ L3 (at_ w 0) := by rw [hw0]; exact hcur.2
   refine W.sr ?_
   refine G.r (Runs.lss rfl rfl) ?_
   refine G.nt ?_
   refine W.seq ?_
   refine W.ite rfl (fun c55 => ?_) (fun c55 => ?_)
   ·refine W.skip ?_
    refine V.then ?_
    refine W.seq ?_
    refine W.block ?_
    refine W.sr ?_
    refine G.r (Runs.idx (α := Int) (xs := (at_ rs (at_ todo 0)).xs) Try.underlying22 ty3 rfl rfl (Sl.fit (hrow (at_ todo 0) (by omega) (by omega)) Fit.m) (by omega) (by omega)) ?_
    refine G.r (Runs.get (xs := (at_ rs (at_ todo 0)).xs) ty3 rfl (Sl.fit (hrow (at_ todo 0) (by omega) (by omega)) Fit.m) (by omega) (by omega)) ?_
    have hm := hr.row hx0.1.1 hx0.1.2 (j := ((q : Nat) : Int)) (by omega) (by omega)
    have hg := hh.get _ hm.1
    have hfo := from_ok hok hm.1
    have hi2 : 0 ≤ (at_ (at_ rs (at_ todo 0)).xs ((q : Nat) : Int)) ∧ (at_ (at_ rs (at_ todo 0)).xs ((q : Nat) : Int)) < 2 * n.arcs.length := hm.1
    have hd : at_ L3 (at_ hs (at_ (at_ rs (at_ todo 0)).xs ((q : Nat) : Int))).dst = at_ L3 (toH n (at_ (at_ rs (at_ todo 0)).xs ((q : Nat) : Int))) := by rw [hg.2.1]
    refine G.r (Runs.assign rfl) ?_
    refine G.nt ?_
    refine W.sr ?_
    refine G.r (Runs.move rfl) ?_
    refine G.r (Runs.nilCheck rfl) ?_
    refine G.r (Runs.fieldAddr fld142_0 rfl) ?_
    refine G.r (Runs.ld ty140) ?_
    refine G.r (Runs.move rfl) ?_
    refine G.r (Runs.idx (α := Half) (xs := hs) Try.underlying140 ty139 rfl rfl Sl.o (by omega) (by omega)) ?_
    refine G.r (Runs.gets (α := Half) (xs := hs) ty139 rfl Sl.o (by omega) (by omega)) ?_
    refine G.e (Eff.alloc ty139 rfl) ?_
    rintro _ _ ⟨b2, rfl, rfl⟩
    refine G.e (Eff.st (cs := [_, _, _, _]) (vs := [_, _, _, _]) (cs' := [_, _, _, _]) ty139) ?_
    rintro _ _ ⟨rfl, rfl⟩
    refine G.nt ?_
    refine W.sub (L' := [(9, _), (0, _), (6, _), (52, _), (53, _), (54, _)]) (Sub.cons rfl (Sub.cons rfl (Sub.cons rfl (Sub.cons rfl (Sub.cons rfl (Sub.cons rfl Sub.nil)))))) ?_
    refine W.seq ?_
    refine W.drawn mixed ?_
    refine A.hold (blk b2 [I64 ((at_ hs (at_ ((at_ rs (at_ todo 0)).xs) ((q : Nat) : Int))).frm), I64 ((at_ hs (at_ ((at_ rs (at_ todo 0)).xs) ((q : Nat) : Int))).dst), I64 ((at_ hs (at_ ((at_ rs (at_ todo 0)).xs) ((q : Nat) : Int))).cap), I64 ((at_ hs (at_ ((at_ rs (at_ todo 0)).xs) ((q : Nat) : Int))).left)] 139 :: vc 3 (.slice a1 w.length c1) (w) :: blk b [hw, ow, lw, nw, I64 (n.sink)] 142 :: vc 139 (hw) (hs) :: vc 3 (lw) (L3) :: vc 3 (nw) (nx1) :: I) 15 ?_
    refine D.r 0 rfl (Runs.fieldAddr fld139_1 rfl) ?_
    refine D.r 1 rfl (Runs.ld ty3) ?_
    refine D.r 2 rfl (Runs.gtr rfl rfl) ?_
    refine D.r 3 rfl (Runs.move rfl) ?_
    refine D.split (d := 68) rfl (fun g68 => ?_) (fun g68 => ?_)
    ·refine D.ro 4 rfl (Runs.move rfl) ?_
     refine D.ro 5 rfl (Runs.nilCheck rfl) ?_
     refine D.ro 6 rfl (Runs.fieldAddr fld142_2 rfl) ?_
     refine D.ro 7 rfl (Runs.ld ty22) ?_
     refine D.ro 8 rfl (Runs.fieldAddr fld139_0 rfl) ?_
     refine D.ro 9 rfl (Runs.fieldAddr fld43_1 rfl) ?_
     refine D.ro 10 rfl (Runs.ld ty3) ?_
     refine D.ro 11 rfl (Runs.idx (α := Int) (xs := L3) Try.underlying22 ty3 rfl rfl Sl.o (by omega) (by omega)) ?_
     refine D.ro 12 rfl (Runs.get (xs := L3) ty3 rfl Sl.o (by omega) (by omega)) ?_
     refine D.ro 13 rfl (Runs.lss rfl rfl) ?_
     refine D.r 14 rfl (Runs.pickt rfl rfl) ?_
     refine D.done (by kernel_rfl) ?_
     refine V.then ?_
     refine W.sub (L' := [(79, _), (9, _), (0, _), (6, _), (52, _), (53, _), (54, _)]) (Sub.cons rfl (Sub.cons rfl (Sub.cons rfl (Sub.cons rfl (Sub.cons rfl (Sub.cons rfl (Sub.cons rfl Sub.nil))))))) ?_
     refine W.ite rfl (fun c79 => ?_) (fun c79 => ?_)
     ·refine W.seq ?_
      refine W.drawn mixed ?_
      refine A.hold (blk b2 [I64 ((at_ hs (at_ ((at_ rs (at_ todo 0)).xs) ((q : Nat) : Int))).frm), I64 ((at_ hs (at_ ((at_ rs (at_ todo 0)).xs) ((q : Nat) : Int))).dst), I64 ((at_ hs (at_ ((at_ rs (at_ todo 0)).xs) ((q : Nat) : Int))).cap), I64 ((at_ hs (at_ ((at_ rs (at_ todo 0)).xs) ((q : Nat) : Int))).left)] 139 :: vc 3 (.slice a1 w.length c1) (w) :: blk b [hw, ow, lw, nw, I64 (n.sink)] 142 :: vc 139 (hw) (hs) :: vc 3 (lw) (L3) :: vc 3 (nw) (nx1) :: I) 18 ?_
      refine D.r 0 rfl (Runs.move rfl) ?_
      refine D.r 1 rfl (Runs.nilCheck rfl) ?_
      refine D.r 2 rfl (Runs.fieldAddr fld142_2 rfl) ?_
      refine D.r 3 rfl (Runs.ld ty22) ?_
      refine D.r 4 rfl (Runs.fieldAddr fld139_0 rfl) ?_
      refine D.r 5 rfl (Runs.fieldAddr fld43_1 rfl) ?_
      refine D.r 6 rfl (Runs.ld ty3) ?_
      refine D.r 7 rfl (Runs.move rfl) ?_
      refine D.r 8 rfl (Runs.nilCheck rfl) ?_
      refine D.r 9 rfl (Runs.fieldAddr fld142_2 rfl) ?_
      refine D.r 10 rfl (Runs.ld ty22) ?_
      refine D.r 11 rfl (Runs.move rfl) ?_
      refine D.r 12 rfl (Runs.idx (α := Int) (xs := w) Try.underlying22 ty3 rfl rfl Sl.o (by omega) (by omega)) ?_
      refine D.r 13 rfl (Runs.get (xs := w) ty3 rfl Sl.o (by omega) (by omega)) ?_
      refine D.r 14 rfl (Runs.idx (α := Int) (xs := L3) Try.underlying22 ty3 rfl rfl Sl.o (by omega) (by omega)) ?_
      refine D.r 15 rfl (Runs.get (xs := L3) ty3 rfl Sl.o (by omega) (by omega)) ?_
      refine D.r 16 rfl (Runs.add rfl rfl (by unfold InR; omega)) ?_
      refine D.r 17 rfl (Runs.idx (α := Int) (xs := L3) Try.underlying22 ty3 rfl rfl Sl.o (by omega) (by omega)) ?_
      refine D.stop (by kernel_rfl) ?_
      refine A.eff (i := 18) (by kernel_rfl) rfl (Wanted.plain rfl) (Eff.set (α := Int) (xs := L3) (e := 3) (new := (at_ L3 (at_ w 0)) + 1) ty3 rfl rfl rfl (by omega) (by omega) (by repeat (first | exact At.head _ _ _ | apply At.tail))) ?_
      rintro _ _ ⟨rfl, rfl⟩
      refine A.done (by kernel_rfl) ?_
      refine V.then ?_
      refine W.sub (L' := [(9, _), (0, _), (6, _), (52, _), (53, _), (54, _)]) (Sub.cons rfl (Sub.cons rfl (Sub.cons rfl (Sub.cons rfl (Sub.cons rfl (Sub.cons rfl Sub.nil)))))) ?_
      refine W.region ?_
      refine G.r (Runs.move rfl) ?_
      refine G.r (Runs.fieldAddr fld139_0 rfl) ?_
      refine G.r (Runs.fieldAddr fld43_1 rfl) ?_
      refine G.r (Runs.ld ty3) ?_
      refine G.e (Eff.bs (α := Int) (cs := [_]) (xs := [(at_ hs (at_ ((at_ rs (at_ todo 0)).xs) ((q : Nat) : Int))).dst]) Try.underlying22 ty3 rfl rfl (by decide) (by decide) rfl rfl rfl rfl) ?_
      rintro _ _ ⟨ad3, rfl, rfl⟩
      refine G.e (Eff.app (α := Int) (e := 3) (xs := w) (ys := ([(at_ hs (at_ ((at_ rs (at_ todo 0)).xs) ((q : Nat) : Int))).dst] : List Int)) Try.underlying22 ty3 rfl rfl rfl (by repeat (first | exact List.mem_cons_self | apply List.mem_cons_of_mem)) Sl.o (by simp only [List.length_cons, List.length_nil]; omega) (by decide) rfl (fun _ _ => (by repeat (first | exact At.head _ _ _ | apply At.tail)))) ?_
      rintro _ _ ⟨ad4, cp5, rfl, rfl⟩
      refine G.r (Runs.assign rfl) ?_
      refine G.nil ?_
      refine V.block_normal ?_
      refine V.then ?_
      refine W.region ?_
      refine G.r (Runs.add rfl rfl (by unfold InR; omega)) ?_
      refine G.r (Runs.move rfl) ?_
      refine G.nil ?_
      exact V.next ((q + 1), (ad4), (cp5), (w ++ ([(at_ hs (at_ ((at_ rs (at_ todo 0)).xs) ((q : Nat) : Int))).dst] : List Int)), (List.set L3 ((at_ hs (at_ ((at_ rs (at_ todo 0)).xs) ((q : Nat) : Int))).dst).toNat ((at_ L3 (at_ w 0)) + 1))) (show ((q + 1 : Nat) ≤ (at_ rs (at_ todo 0)).xs.length) ∧ (0 < (w ++ ([(at_ hs (at_ ((at_ rs (at_ todo 0)).xs) ((q : Nat) : Int))).dst] : List Int) : List Int).length) ∧ (at_ (w ++ ([(at_ hs (at_ ((at_ rs (at_ todo 0)).xs) ((q : Nat) : Int))).dst] : List Int) : List Int) 0 = (at_ todo 0)) ∧ (LI n f (rowsL rs) (List.set L3 ((at_ hs (at_ ((at_ rs (at_ todo 0)).xs) ((q : Nat) : Int))).dst).toNat ((at_ L3 (at_ w 0)) + 1) : List Int) ((w ++ ([(at_ hs (at_ ((at_ rs (at_ todo 0)).xs) ((q : Nat) : Int))).dst] : List Int) : List Int).drop 1) (at_ todo 0) (q + 1 : Nat)) ∧ (un (List.set L3 ((at_ hs (at_ ((at_ rs (at_ todo 0)).xs) ((q : Nat) : Int))).dst).toNat ((at_ L3 (at_ w 0)) + 1) : List Int) + (w ++ ([(at_ hs (at_ ((at_ rs (at_ todo 0)).xs) ((q : Nat) : Int))).dst] : List Int) : List Int).length = un L2 + todo.length) from ⟨(by omega), (by first | exact hwl | (rw [List.length_append]; omega)), (by first | exact hw0 | (rw [at_zero_append hwl]; exact hw0)), (by first | exact hI1.inc1 (fun h => by omega) | (rw [hw0, hg.2.1, drop_one_append hwl]; exact (hI1.put1 hok hx0.1.1 hm (by omega) (by omega)).1)), (by first | exact hmu | (rw [hw0, hg.2.1, List.length_append]; have := (hI1.put1 hok hx0.1.1 hm (by omega) (by omega)).2; simp only [List.length_cons, List.length_nil]; omega))⟩) (show (at_ rs (at_ todo 0)).xs.length - (q + 1 : Nat) < (at_ rs (at_ todo 0)).xs.length - q from (by omega)) (Sub.cons rfl (Sub.cons (lookV rfl (by first | rfl | simp)) (Sub.cons rfl (Sub.cons rfl (Sub.cons (lookI rfl (by omega)) Sub.nil))))) (show Fit κ _ (vc 3 (.slice (ad4) (w ++ ([(at_ hs (at_ ((at_ rs (at_ todo 0)).xs) ((q : Nat) : Int))).dst] : List Int)).length (cp5)) ((w ++ ([(at_ hs (at_ ((at_ rs (at_ todo 0)).xs) ((q : Nat) : Int))).dst] : List Int))) :: blk b [hw, ow, lw, nw, I64 (n.sink)] 142 :: vc 139 (hw) (hs) :: vc 3 (lw) ((List.set L3 ((at_ hs (at_ ((at_ rs (at_ todo 0)).xs) ((q : Nat) : Int))).dst).toNat ((at_ L3 (at_ w 0)) + 1))) :: vc 3 (nw) (nx1) :: I) from Fit.sub)
     ·refine W.skip ?_
      refine V.block_normal ?_
      refine V.then ?_
      refine W.region ?_
      refine G.r (Runs.add rfl rfl (by unfold InR; omega)) ?_
      refine G.r (Runs.move rfl) ?_
      refine G.nil ?_
      exact V.next ((q + 1), (a1), (c1), (w), (L3)) (show ((q + 1 : Nat) ≤ (at_ rs (at_ todo 0)).xs.length) ∧ (0 < (w : List Int).length) ∧ (at_ (w : List Int) 0 = (at_ todo 0)) ∧ (LI n f (rowsL rs) (L3 : List Int) ((w : List Int).drop 1) (at_ todo 0) (q + 1 : Nat)) ∧ (un (L3 : List Int) + (w : List Int).length = un L2 + todo.length) from ⟨(by omega), (by first | exact hwl | (rw [List.length_append]; omega)), (by first | exact hw0 | (rw [at_zero_append hwl]; exact hw0)), (by first | exact hI1.inc1 (fun h => by omega) | (rw [hw0, hg.2.1, drop_one_append hwl]; exact (hI1.put1 hok hx0.1.1 hm (by omega) (by omega)).1)), (by first | exact hmu | (rw [hw0, hg.2.1, List.length_append]; have := (hI1.put1 hok hx0.1.1 hm (by omega) (by omega)).2; simp only [List.length_cons, List.length_nil]; omega))⟩) (show (at_ rs (at_ todo 0)).xs.length - (q + 1 : Nat) < (at_ rs (at_ todo 0)).xs.length - q from (by omega)) (Sub.cons rfl (Sub.cons (lookV rfl (by first | rfl | simp)) (Sub.cons rfl (Sub.cons rfl (Sub.cons (lookI rfl (by omega)) Sub.nil))))) (show Fit κ _ (vc 3 (.slice (a1) (w).length (c1)) ((w)) :: blk b [hw, ow, lw, nw, I64 (n.sink)] 142 :: vc 139 (hw) (hs) :: vc 3 (lw) ((L3)) :: vc 3 (nw) (nx1) :: I) from Fit.sub)
    ·refine D.po 4 rfl ?_
     refine D.po 5 rfl ?_
     refine D.po 6 rfl ?_
     refine D.po 7 rfl ?_
     refine D.po 8 rfl ?_
     refine D.po 9 rfl ?_
     refine D.po 10 rfl ?_
     refine D.po 11 rfl ?_
     refine D.po 12 rfl ?_
     refine D.po 13 rfl ?_
     refine D.r 14 rfl (Runs.pickf rfl rfl) ?_
     refine D.done (by kernel_rfl) ?_
     refine V.then ?_
     refine W.sub (L' := [(79, _), (9, _), (0, _), (6, _), (52, _), (53, _), (54, _)]) (Sub.cons rfl (Sub.cons rfl (Sub.cons rfl (Sub.cons rfl (Sub.cons rfl (Sub.cons rfl (Sub.cons rfl Sub.nil))))))) ?_
     refine W.no rfl ?_
     refine W.skip ?_
     refine V.block_normal ?_
     refine V.then ?_
     refine W.region ?_
     refine G.r (Runs.add rfl rfl (by unfold InR; omega)) ?_
     refine G.r (Runs.move rfl) ?_
     refine G.nil ?_
     exact V.next ((q + 1), (a1), (c1), (w), (L3)) (show ((q + 1 : Nat) ≤ (at_ rs (at_ todo 0)).xs.length) ∧ (0 < (w : List Int).length) ∧ (at_ (w : List Int) 0 = (at_ todo 0)) ∧ (LI n f (rowsL rs) (L3 : List Int) ((w : List Int).drop 1) (at_ todo 0) (q + 1 : Nat)) ∧ (un (L3 : List Int) + (w : List Int).length = un L2 + todo.length) from ⟨(by omega), (by first | exact hwl | (rw [List.length_append]; omega)), (by first | exact hw0 | (rw [at_zero_append hwl]; exact hw0)), (by first | exact hI1.inc1 (fun h => by omega) | (rw [hw0, hg.2.1, drop_one_append hwl]; exact (hI1.put1 hok hx0.1.1 hm (by omega) (by omega)).1)), (by first | exact hmu | (rw [hw0, hg.2.1, List.length_append]; have := (hI1.put1 hok hx0.1.1 hm (by omega) (by omega)).2; simp only [List.length_cons, List.length_nil]; omega))⟩) (show (at_ rs (at_ todo 0)).xs.length - (q + 1 : Nat) < (at_ rs (at_ todo 0)).xs.length - q from (by omega)) (Sub.cons rfl (Sub.cons (lookV rfl (by first | rfl | simp)) (Sub.cons rfl (Sub.cons rfl (Sub.cons (lookI rfl (by omega)) Sub.nil))))) (show Fit κ _ (vc 3 (.slice (a1) (w).length (c1)) ((w)) :: blk b [hw, ow, lw, nw, I64 (n.sink)] 142 :: vc 139 (hw) (hs) :: vc 3 (lw) ((L3)) :: vc 3 (nw) (nx1) :: I) from Fit.sub)
   ·refine W.exit ?_
    refine V.then_exit ?_
    refine V.then_exit ?_
    refine V.block_hit ?_
    refine V.block_normal ?_
    refine V.then ?_
    refine W.region ?_
    refine G.r (Runs.move rfl) ?_
    refine G.r (Runs.lo (α := Int) (xs := w) (l := 1) Try.underlying22 ty3 rfl rfl (by omega) Sl.o (by omega)) ?_
    refine G.fit (J := vc 3 (.slice (adrop a1 c1 1 (Enc.sz Int)) (List.drop 1 w).length (c1 - 1)) (List.drop 1 w) :: blk b [hw, ow, lw, nw, I64 (n.sink)] 142 :: vc 139 (hw) (hs) :: vc 3 (lw) (L3) :: vc 3 (nw) (nx1) :: I) (Fit.upd (by repeat (first | exact At.head _ _ _ | apply At.tail)) (reslice (l := 1) (by omega))) ?_
    refine G.r (Runs.assign rfl) ?_
    refine G.nil ?_
    exact V.next (((adrop a1 c1 1 (Enc.sz Int))), ((c1 - 1)), (List.drop 1 w), (L3)) (show (LI n f (rowsL rs) (L3 : List Int) (List.drop 1 w : List Int) (-1) 0) ∧ (un (L3 : List Int) + (List.drop 1 w : List Int).length ≤ n.nodes.toNat) from ⟨(hI1.over1 (by omega)), (by rw [List.length_drop]; omega)⟩) (show un (L3 : List Int) + (List.drop 1 w : List Int).length < un L2 + todo.length from (by rw [List.length_drop]; omega)) (Sub.cons rfl (Sub.cons (lookV rfl (by first | rfl | simp)) Sub.nil)) (show Fit κ _ (vc 3 (.slice ((adrop a1 c1 1 (Enc.sz Int))) (List.drop 1 w).length ((c1 - 1))) ((List.drop 1 w)) :: blk b [hw, ow, lw, nw, I64 (n.sink)] 142 :: vc 139 (hw) (hs) :: vc 3 (lw) ((L3)) :: vc 3 (nw) (nx1) :: I) from Fit.sub)
  ·refine W.exit ?_
   refine V.then_exit ?_
   refine V.then_exit ?_
   refine V.block_hit ?_
   refine V.then ?_
   refine W.seq ?_
   refine W.drawn mixed ?_
   refine A.hold (vc 3 (.slice a todo.length c) (todo) :: blk b [hw, ow, lw, nw, I64 (n.sink)] 142 :: vc 139 (hw) (hs) :: vc 3 (lw) (L2) :: vc 3 (nw) (nx1) :: I) 12 ?_
   refine D.r 0 rfl (Runs.move rfl) ?_
   refine D.r 1 rfl (Runs.nilCheck rfl) ?_
   refine D.r 2 rfl (Runs.fieldAddr fld142_2 rfl) ?_
   refine D.r 3 rfl (Runs.ld ty22) ?_
   refine D.r 4 rfl (Runs.move rfl) ?_
   refine D.r 5 rfl (Runs.nilCheck rfl) ?_
   refine D.r 6 rfl (Runs.fieldAddr fld142_4 rfl) ?_
   refine D.r 7 rfl (Runs.ld ty3) ?_
   refine D.r 8 rfl (Runs.idx (α := Int) (xs := L2) Try.underlying22 ty3 rfl rfl Sl.o (by omega) (by omega)) ?_
   refine D.r 9 rfl (Runs.get (xs := L2) ty3 rfl Sl.o (by omega) (by omega)) ?_
   refine D.r 10 rfl (Runs.geq rfl rfl) ?_
   refine D.r 11 rfl (Runs.assign rfl) ?_
   refine D.done (by kernel_rfl) ?_
   refine V.then ?_
   refine W.sub (L' := [(4, _)]) (Sub.cons rfl Sub.nil) ?_
   refine W.ret ?_
   exact V.ret1 rfl rfl (blk b [hw, ow, lw, nw, I64 (n.sink)] 142 :: vc 139 (hw) (hs) :: vc 3 (lw) (L2) :: vc 3 (nw) (nx1) :: I) Fit.sub ⟨L2, nx1, rfl, ⟨hI.done hok hr (by omega), by omega, fun z h0 h1 => at_all (p := fun z => at_ nx1 z = 0) (fun j hj => (hz j hj).2) h0 (by omega)⟩, rfl⟩

end Go.Sl
namespace Go.Sl
open Go.Proofs
set_option linter.unusedVariables false
set_option linter.unusedSimpArgs false
set_option maxRecDepth 4000
theorem PushR.sink {n : Net} {rs : List (List Int)} {L f nx : List Int} {v : Int} (e : v = n.sink) (hl : f.length = n.arcs.length) (hc : CapF n f) (hd : Dead n rs L f nx) (hx : ∀ z : Int, 0 ≤ z → z < n.nodes → 0 ≤ at_ nx z) (d : Int) : PushR n rs L v d f nx f nx :=
  ⟨hl, hc, fun z => by rw [e]; omega, Less.refl _ _ _, fun _ _ _ => rfl, hd, rfl, hx, fun _ _ _ _ _ => rfl, fun _ => rfl⟩
def PushC (κ : Ctx) (I : List Item) (n : Net) (rs : List Row) (b : Nat) (hw ow lw nw : Value) (L : List Int) (lv : Int) : Prop :=
  ∀ (v most : Int) (f nx : List Int) (hs : List Half), at_ L v = lv → 0 ≤ v → v < n.nodes → 0 ≤ at_ L v → 1 ≤ most → most ≤ 4611686018427387904 → HOk n f hs → Dead n (rowsL rs) L f nx → (∀ z : Int, 0 ≤ z → z < n.nodes → 0 ≤ at_ nx z) → ((nx.length : Nat) : Int) = n.nodes → CallS Try.prog κ 213 [.pointer (some ⟨b, 0, none⟩), I64 v, I64 most] (blk b [hw, ow, lw, nw, I64 (n.sink)] 142 :: vc 139 (hw) (hs) :: vc 3 (lw) (L) :: vc 3 (nw) (nx) :: I) (fun r J => ∃ (d : Int) (f' : List Int) (hs' : List Half) (nx' : List Int), r = I64 d ∧ ((0 ≤ d ∧ d ≤ most) ∧ PushR n (rowsL rs) L v d f nx f' nx' ∧ HOk n f' hs' ∧ (d < most → ¬ Adm n f' L v)) ∧ J = blk b [hw, ow, lw, nw, I64 (n.sink)] 142 :: vc 139 (hw) (hs') :: vc 3 (lw) (L) :: vc 3 (nw) (nx') :: I)

theorem Push_step {κ : Ctx} {I : List Item} {n : Net} {f : List Int} {hs : List Half} {rs : List Row} {b : Nat} {hw ow lw nw : Value} {L nx : List Int} {v most lv : Int} (hok : n.Ok) (hr : ROk n (rowsL rs)) (ho : Sl κ I ow rs) (hrow : ∀ i : Int, 0 ≤ i → i < rs.length → Sl κ I (.slice (at_ rs i).a (at_ rs i).xs.length (at_ rs i).c) (at_ rs i).xs) (hL : (L.length : Int) = n.nodes) (hlow : ∀ z : Int, 0 ≤ z → z < n.nodes → -1 ≤ at_ L z ∧ at_ L z < n.nodes) (ih : PushC κ I n rs b hw ow lw nw L (lv + 1)) (hlv : at_ L v = lv) (hv0 : 0 ≤ v) (hv1 : v < n.nodes) (hLv : 0 ≤ at_ L v) (hm0 : 1 ≤ most) (hm1 : most ≤ 4611686018427387904) (hh : HOk n f hs) (hD : Dead n (rowsL rs) L f nx) (hx : ∀ z : Int, 0 ≤ z → z < n.nodes → 0 ≤ at_ nx z) (hN : ((nx.length : Nat) : Int) = n.nodes) :
    CallS Try.prog κ 213 [.pointer (some ⟨b, 0, none⟩), I64 (v), I64 (most)] (blk b [hw, ow, lw, nw, I64 (n.sink)] 142 :: vc 139 (hw) (hs) :: vc 3 (lw) (L) :: vc 3 (nw) (nx) :: I) (fun r J => ∃ (d : Int) (f' : List Int) (hs' : List Half) (nx' : List Int), r = I64 d ∧ ((0 ≤ d ∧ d ≤ most) ∧ PushR n (rowsL rs) L v d f nx f' nx' ∧ HOk n f' hs' ∧ (d < most → ¬ Adm n f' L v)) ∧ J = blk b [hw, ow, lw, nw, I64 (n.sink)] 142 :: vc 139 (hw) (hs') :: vc 3 (lw) (L) :: vc 3 (nw) (nx') :: I) := by
 have hlim := hok.lim
 have hsrc := hok.src
 have hsnk := hok.snk
 have hrl := hr.rl
 have hLw := (hlow v hv0 hv1).2
 refine CallS.pull (fun w hs => (Sl.fit (hrow v (by omega) (by omega)) (by repeat (first | exact Fit.refl _ | apply Fit.tail | exact Fit.appR _ _))).le w hs) fun hrm => ?_
 refine CallS.enter (L := [(0, .pointer (some ⟨b, 0, none⟩)), (1, I64 (v)), (2, I64 (most))]) Try.func213 rfl rfl rfl rfl ?_
 refine W.sr ?_
 refine G.r (Runs.assign rfl) ?_
 refine G.nt ?_
 refine W.seq ?_
 refine W.sr ?_
 refine G.r (Runs.move rfl) ?_
 refine G.r (Runs.move rfl) ?_
 refine G.r (Runs.nilCheck rfl) ?_
 refine G.r (Runs.fieldAddr fld142_4 rfl) ?_
 refine G.r (Runs.ld ty3) ?_
 refine G.r (Runs.eql rfl rfl) ?_
 refine G.nt ?_
 refine W.ite rfl (fun c16 => ?_) (fun c16 => ?_)
 ·refine W.sr ?_
  refine G.r (Runs.move rfl) ?_
  refine G.r (Runs.assign rfl) ?_
  refine G.nt ?_
  refine W.ret ?_
  refine V.then_ret ?_
  exact V.ret1 rfl rfl (blk b [hw, ow, lw, nw, I64 (n.sink)] 142 :: vc 139 (hw) (hs) :: vc 3 (lw) (L) :: vc 3 (nw) (nx) :: I) Fit.sub ⟨most, f, hs, nx, rfl, ⟨⟨by omega, by omega⟩, PushR.sink c16 hh.flen hh.cap hD hx most, hh, fun h => by omega⟩, rfl⟩
 ·refine W.skip ?_
  refine V.then ?_
  refine W.sr ?_
  refine G.r (Runs.assign rfl) ?_
  refine G.nt ?_
  refine W.seq ?_
  refine W.block ?_
  refine W.loop (σ := Int × (List Int) × (List Half) × (List Int)) (fun s => ([(0, .pointer (some ⟨b, 0, none⟩)), (1, I64 (v)), (2, I64 (most)), (7, I64 (s.1))] : Env)) (fun s => blk b [hw, ow, lw, nw, I64 (n.sink)] 142 :: vc 139 (hw) (s.2.2.1) :: vc 3 (lw) (L) :: vc 3 (nw) (s.2.2.2) :: I) (fun s => (0 ≤ s.1) ∧ (s.1 ≤ most) ∧ (PushR n (rowsL rs) L v s.1 f nx s.2.1 s.2.2.2) ∧ (HOk n s.2.1 s.2.2.1)) (fun s => ((at_ rs v).xs.length - at_ s.2.2.2 v).toNat) (0, f, hs, nx) (show (0 ≤ (0 : Int)) ∧ ((0 : Int) ≤ most) ∧ (PushR n (rowsL rs) L v (0 : Int) f nx (f : List Int) (nx : List Int)) ∧ (HOk n (f : List Int) (hs : List Half)) from ⟨(by omega), (by omega), (PushR.start hh.flen hh.cap hD hx v), hh⟩) (Sub.cons rfl (Sub.cons rfl (Sub.cons rfl (Sub.cons (lookI rfl (by omega)) Sub.nil)))) (show Fit κ _ (blk b [hw, ow, lw, nw, I64 (n.sink)] 142 :: vc 139 (hw) ((hs)) :: vc 3 (lw) (L) :: vc 3 (nw) ((nx)) :: I) from Fit.sub) ?_
  rintro ⟨sent, f1, hs1, nx1⟩ hp
  obtain ⟨hs0, hs9, hP, hH1⟩ : (0 ≤ sent) ∧ (sent ≤ most) ∧ (PushR n (rowsL rs) L v sent f nx f1 nx1) ∧ (HOk n f1 hs1) := hp
  show W Try.prog κ 138 _ _ ([(0, .pointer (some ⟨b, 0, none⟩)), (1, I64 (v)), (2, I64 (most)), (7, I64 (sent))] : Env) (blk b [hw, ow, lw, nw, I64 (n.sink)] 142 :: vc 139 (hw) (hs1) :: vc 3 (lw) (L) :: vc 3 (nw) (nx1) :: I)
  have hnl := hP.nlen
  have hnx0 := hP.nge v hv0 hv1
  have hhl := hH1.len
  refine W.seq ?_
  refine W.seq ?_
  refine W.drawn mixed ?_
  refine A.hold (blk b [hw, ow, lw, nw, I64 (n.sink)] 142 :: vc 139 (hw) (hs1) :: vc 3 (lw) (L) :: vc 3 (nw) (nx1) :: I) 21 ?_
  refine D.r 0 rfl (Runs.move rfl) ?_
  refine D.r 1 rfl (Runs.nilCheck rfl) ?_
  refine D.r 2 rfl (Runs.fieldAddr fld142_3 rfl) ?_
  refine D.r 3 rfl (Runs.ld ty22) ?_
  refine D.r 4 rfl (Runs.move rfl) ?_
  refine D.r 5 rfl (Runs.idx (α := Int) (xs := nx1) Try.underlying22 ty3 rfl rfl Sl.o (by omega) (by omega)) ?_
  refine D.r 6 rfl (Runs.get (xs := nx1) ty3 rfl Sl.o (by omega) (by omega)) ?_
  refine D.r 7 rfl (Runs.move rfl) ?_
  refine D.r 8 rfl (Runs.nilCheck rfl) ?_
  refine D.r 9 rfl (Runs.fieldAddr fld142_1 rfl) ?_
  refine D.r 10 rfl (Runs.ld ty50) ?_
  refine D.r 11 rfl (Runs.move rfl) ?_
  refine D.r 12 rfl (Runs.idx (α := Row) (xs := rs) Try.underlying50 ty22 rfl rfl (Sl.f ho) (by omega) (by omega)) ?_
  refine D.r 13 rfl (Runs.getf0 (α := Row) (xs := rs) (u := .slice (at_ rs v).a (at_ rs v).xs.length (at_ rs v).c) ty22 rfl (Sl.f ho) (by omega) (by omega) rfl) ?_
  refine D.r 14 rfl (Runs.lens Try.underlying22 rfl) ?_
  refine D.r 15 rfl (Runs.lss rfl rfl) ?_
  refine D.r 16 rfl (Runs.move rfl) ?_
  refine D.split (d := 34) rfl (fun g34 => ?_) (fun g34 => ?_)
  ·refine D.ro 17 rfl (Runs.move rfl) ?_
   refine D.ro 18 rfl (Runs.move rfl) ?_
   refine D.ro 19 rfl (Runs.lss rfl rfl) ?_
   refine D.r 20 rfl (Runs.pickt rfl rfl) ?_
   refine D.done (by kernel_rfl) ?_
   refine V.then ?_
   refine W.sub (L' := [(38, _), (0, _), (1, _), (2, _), (7, _)]) (Sub.cons rfl (Sub.cons rfl (Sub.cons rfl (Sub.cons rfl (Sub.cons rfl Sub.nil))))) ?_
   refine W.ite rfl (fun c38 => ?_) (fun c38 => ?_)
   ·refine W.skip ?_
    refine V.then ?_
    refine W.cut (σ := Int × (List Int) × (List Half) × (List Int)) (fun s => ([(0, .pointer (some ⟨b, 0, none⟩)), (1, I64 (v)), (2, I64 (most)), (7, I64 (s.1))] : Env)) (fun s => blk b [hw, ow, lw, nw, I64 (n.sink)] 142 :: vc 139 (hw) (s.2.2.1) :: vc 3 (lw) (L) :: vc 3 (nw) (s.2.2.2) :: I) (fun s => (0 ≤ s.1 ∧ s.1 ≤ most) ∧ (PushR n (rowsL rs) L v s.1 f nx s.2.1 s.2.2.2) ∧ (HOk n s.2.1 s.2.2.1) ∧ (at_ s.2.2.2 v = at_ nx1 v) ∧ (¬ (0 < leftH n s.2.1 (at_ (at_ rs v).xs (at_ s.2.2.2 v)) ∧ at_ L (toH n (at_ (at_ rs v).xs (at_ s.2.2.2 v))) = at_ L v + 1 ∧ Adm n s.2.1 L (toH n (at_ (at_ rs v).xs (at_ s.2.2.2 v)))))) ?_ ?_
    ·refine W.block ?_
     refine W.seq ?_
     refine W.drawn mixed ?_
     refine A.hold (blk b [hw, ow, lw, nw, I64 (n.sink)] 142 :: vc 139 (hw) (hs1) :: vc 3 (lw) (L) :: vc 3 (nw) (nx1) :: I) 17 ?_
     refine D.r 0 rfl (Runs.move rfl) ?_
     refine D.r 1 rfl (Runs.nilCheck rfl) ?_
     refine D.r 2 rfl (Runs.fieldAddr fld142_1 rfl) ?_
     refine D.r 3 rfl (Runs.ld ty50) ?_
     refine D.r 4 rfl (Runs.move rfl) ?_
     refine D.r 5 rfl (Runs.idx (α := Row) (xs := rs) Try.underlying50 ty22 rfl rfl (Sl.f ho) (by omega) (by omega)) ?_
     refine D.r 6 rfl (Runs.getf0 (α := Row) (xs := rs) (u := .slice (at_ rs v).a (at_ rs v).xs.length (at_ rs v).c) ty22 rfl (Sl.f ho) (by omega) (by omega) rfl) ?_
     refine D.r 7 rfl (Runs.move rfl) ?_
     refine D.r 8 rfl (Runs.nilCheck rfl) ?_
     refine D.r 9 rfl (Runs.fieldAddr fld142_3 rfl) ?_
     refine D.r 10 rfl (Runs.ld ty22) ?_
     refine D.r 11 rfl (Runs.move rfl) ?_
     refine D.r 12 rfl (Runs.idx (α := Int) (xs := nx1) Try.underlying22 ty3 rfl rfl Sl.o (by omega) (by omega)) ?_
     have hm := hr.row hv0 hv1 (j := at_ nx1 v) (by omega) (by omega)
     have hg := hH1.get _ hm.1
     have hfo := from_ok hok hm.1
     have hi2 : 0 ≤ (at_ (at_ rs v).xs (at_ nx1 v)) ∧ (at_ (at_ rs v).xs (at_ nx1 v)) < 2 * n.arcs.length := hm.1
     have hlk := left_ok hH1.cap hm.1
     have hak := (arc_ok hok hm.1.half.1 hm.1.half.2).2.2.2
     have hd : at_ L (at_ hs1 (at_ (at_ rs v).xs (at_ nx1 v))).dst = at_ L (toH n (at_ (at_ rs v).xs (at_ nx1 v))) := by rw [hg.2.1]
     refine D.r 13 rfl (Runs.get (xs := nx1) ty3 rfl Sl.o (by omega) (by omega)) ?_
     refine D.r 14 rfl (Runs.idx (α := Int) (xs := (at_ rs v).xs) Try.underlying22 ty3 rfl rfl (Sl.fit (hrow v (by omega) (by omega)) Fit.m) (by omega) (by omega)) ?_
     refine D.r 15 rfl (Runs.get (xs := (at_ rs v).xs) ty3 rfl (Sl.fit (hrow v (by omega) (by omega)) Fit.m) (by omega) (by omega)) ?_
     refine D.r 16 rfl (Runs.assign rfl) ?_
     refine D.done (by kernel_rfl) ?_
     refine V.then ?_
     refine W.sub (L' := [(8, _), (0, _), (1, _), (2, _), (7, _)]) (Sub.cons rfl (Sub.cons rfl (Sub.cons rfl (Sub.cons rfl (Sub.cons rfl Sub.nil))))) ?_
     refine W.sr ?_
     refine G.r (Runs.move rfl) ?_
     refine G.r (Runs.nilCheck rfl) ?_
     refine G.r (Runs.fieldAddr fld142_0 rfl) ?_
     refine G.r (Runs.ld ty140) ?_
     refine G.r (Runs.move rfl) ?_
     refine G.r (Runs.idx (α := Half) (xs := hs1) Try.underlying140 ty139 rfl rfl Sl.o (by omega) (by omega)) ?_
     refine G.r (Runs.gets (α := Half) (xs := hs1) ty139 rfl Sl.o (by omega) (by omega)) ?_
     refine G.e (Eff.alloc ty139 rfl) ?_
     rintro _ _ ⟨b1, rfl, rfl⟩
     refine G.e (Eff.st (cs := [_, _, _, _]) (vs := [_, _, _, _]) (cs' := [_, _, _, _]) ty139) ?_
     rintro _ _ ⟨rfl, rfl⟩
     refine G.nt ?_
     refine W.seq ?_
     refine W.seq ?_
     refine W.drawn mixed ?_
     refine A.hold (blk b1 [I64 ((at_ hs1 (at_ ((at_ rs v).xs) (at_ nx1 v))).frm), I64 ((at_ hs1 (at_ ((at_ rs v).xs) (at_ nx1 v))).dst), I64 ((at_ hs1 (at_ ((at_ rs v).xs) (at_ nx1 v))).cap), I64 ((at_ hs1 (at_ ((at_ rs v).xs) (at_ nx1 v))).left)] 139 :: blk b [hw, ow, lw, nw, I64 (n.sink)] 142 :: vc 139 (hw) (hs1) :: vc 3 (lw) (L) :: vc 3 (nw) (nx1) :: I) 23 ?_
     refine D.r 0 rfl (Runs.fieldAddr fld139_1 rfl) ?_
     refine D.r 1 rfl (Runs.ld ty3) ?_
     refine D.r 2 rfl (Runs.eql rfl rfl) ?_
     refine D.r 3 rfl (Runs.move rfl) ?_
     refine D.split (d := 74) rfl (fun g74 => ?_) (fun g74 => ?_)
     ·refine D.po 4 rfl ?_
      refine D.po 5 rfl ?_
      refine D.po 6 rfl ?_
      refine D.po 7 rfl ?_
      refine D.po 8 rfl ?_
      refine D.po 9 rfl ?_
      refine D.po 10 rfl ?_
      refine D.po 11 rfl ?_
      refine D.po 12 rfl ?_
      refine D.po 13 rfl ?_
      refine D.po 14 rfl ?_
      refine D.po 15 rfl ?_
      refine D.po 16 rfl ?_
      refine D.po 17 rfl ?_
      refine D.po 18 rfl ?_
      refine D.po 19 rfl ?_
      refine D.po 20 rfl ?_
      refine D.po 21 rfl ?_
      refine D.r 22 rfl (Runs.pickt rfl rfl) ?_
      refine D.done (by kernel_rfl) ?_
      refine V.then ?_
      refine W.sub (L' := [(93, _), (9, _), (8, _), (0, _), (1, _), (2, _), (7, _)]) (Sub.cons rfl (Sub.cons rfl (Sub.cons rfl (Sub.cons rfl (Sub.cons rfl (Sub.cons rfl (Sub.cons rfl Sub.nil))))))) ?_
      refine W.yes rfl ?_
      refine W.exit ?_
      refine V.then_exit ?_
      refine V.block_hit ?_
      exact V.mid ((sent), (f1), (hs1), (nx1)) (show (0 ≤ (sent : Int) ∧ (sent : Int) ≤ most) ∧ (PushR n (rowsL rs) L v (sent : Int) f nx (f1 : List Int) (nx1 : List Int)) ∧ (HOk n (f1 : List Int) (hs1 : List Half)) ∧ (at_ (nx1 : List Int) v = at_ nx1 v) ∧ (¬ (0 < leftH n (f1 : List Int) (at_ (at_ rs v).xs (at_ (nx1 : List Int) v)) ∧ at_ L (toH n (at_ (at_ rs v).xs (at_ (nx1 : List Int) v))) = at_ L v + 1 ∧ Adm n (f1 : List Int) L (toH n (at_ (at_ rs v).xs (at_ (nx1 : List Int) v))))) from ⟨(by omega), (by first | exact hP | exact hput.1), (by first | exact hH1 | exact hHp), (by first | rfl | exact hput.2.1), (by first | (rintro ⟨a, b, c⟩; omega) | (rw [hput.2.1]; have hused2 := hused c135; rw [hm.2] at hused2; exact hused2))⟩) (Sub.cons rfl (Sub.cons rfl (Sub.cons rfl (Sub.cons (lookI rfl (by omega)) Sub.nil)))) (show Fit κ _ (blk b [hw, ow, lw, nw, I64 (n.sink)] 142 :: vc 139 (hw) ((hs1)) :: vc 3 (lw) (L) :: vc 3 (nw) ((nx1)) :: I) from Fit.sub)
     ·refine D.ro 4 rfl (Runs.move rfl) ?_
      refine D.ro 5 rfl (Runs.nilCheck rfl) ?_
      refine D.ro 6 rfl (Runs.fieldAddr fld142_2 rfl) ?_
      refine D.ro 7 rfl (Runs.ld ty22) ?_
      refine D.ro 8 rfl (Runs.fieldAddr fld139_0 rfl) ?_
      refine D.ro 9 rfl (Runs.fieldAddr fld43_1 rfl) ?_
      refine D.ro 10 rfl (Runs.ld ty3) ?_
      refine D.ro 11 rfl (Runs.idx (α := Int) (xs := L) Try.underlying22 ty3 rfl rfl Sl.o (by omega) (by omega)) ?_
      refine D.ro 12 rfl (Runs.get (xs := L) ty3 rfl Sl.o (by omega) (by omega)) ?_
      refine D.ro 13 rfl (Runs.move rfl) ?_
      refine D.ro 14 rfl (Runs.nilCheck rfl) ?_
      refine D.ro 15 rfl (Runs.fieldAddr fld142_2 rfl) ?_
      refine D.ro 16 rfl (Runs.ld ty22) ?_
      refine D.ro 17 rfl (Runs.move rfl) ?_
      refine D.ro 18 rfl (Runs.idx (α := Int) (xs := L) Try.underlying22 ty3 rfl rfl Sl.o (by omega) (by omega)) ?_
      refine D.ro 19 rfl (Runs.get (xs := L) ty3 rfl Sl.o (by omega) (by omega)) ?_
      refine D.ro 20 rfl (Runs.add rfl rfl (by unfold InR; omega)) ?_
      refine D.ro 21 rfl (Runs.neq rfl rfl) ?_
      refine D.r 22 rfl (Runs.pickf rfl rfl) ?_
      refine D.done (by kernel_rfl) ?_
      refine V.then ?_
      refine W.sub (L' := [(93, _), (9, _), (8, _), (0, _), (1, _), (2, _), (7, _)]) (Sub.cons rfl (Sub.cons rfl (Sub.cons rfl (Sub.cons rfl (Sub.cons rfl (Sub.cons rfl (Sub.cons rfl Sub.nil))))))) ?_
      refine W.ite rfl (fun c93 => ?_) (fun c93 => ?_)
      ·refine W.exit ?_
       refine V.then_exit ?_
       refine V.block_hit ?_
       exact V.mid ((sent), (f1), (hs1), (nx1)) (show (0 ≤ (sent : Int) ∧ (sent : Int) ≤ most) ∧ (PushR n (rowsL rs) L v (sent : Int) f nx (f1 : List Int) (nx1 : List Int)) ∧ (HOk n (f1 : List Int) (hs1 : List Half)) ∧ (at_ (nx1 : List Int) v = at_ nx1 v) ∧ (¬ (0 < leftH n (f1 : List Int) (at_ (at_ rs v).xs (at_ (nx1 : List Int) v)) ∧ at_ L (toH n (at_ (at_ rs v).xs (at_ (nx1 : List Int) v))) = at_ L v + 1 ∧ Adm n (f1 : List Int) L (toH n (at_ (at_ rs v).xs (at_ (nx1 : List Int) v))))) from ⟨(by omega), (by first | exact hP | exact hput.1), (by first | exact hH1 | exact hHp), (by first | rfl | exact hput.2.1), (by first | (rintro ⟨a, b, c⟩; omega) | (rw [hput.2.1]; have hused2 := hused c135; rw [hm.2] at hused2; exact hused2))⟩) (Sub.cons rfl (Sub.cons rfl (Sub.cons rfl (Sub.cons (lookI rfl (by omega)) Sub.nil)))) (show Fit κ _ (blk b [hw, ow, lw, nw, I64 (n.sink)] 142 :: vc 139 (hw) ((hs1)) :: vc 3 (lw) (L) :: vc 3 (nw) ((nx1)) :: I) from Fit.sub)
      ·refine W.skip ?_
       refine V.then ?_
       refine W.sr ?_
       refine G.r (Runs.move rfl) ?_
       refine G.r (Runs.fieldAddr fld139_0 rfl) ?_
       refine G.r (Runs.fieldAddr fld43_1 rfl) ?_
       refine G.r (Runs.ld ty3) ?_
       refine G.r (Runs.move rfl) ?_
       refine G.r (Runs.move rfl) ?_
       refine G.r (Runs.sub rfl rfl (by unfold InR; omega)) ?_
       refine G.r (Runs.fieldAddr fld139_1 rfl) ?_
       refine G.r (Runs.ld ty3) ?_
       refine G.r (Runs.min rfl rfl) ?_
       refine G.e (Eff.call call213 rfl rfl (CallS.fit (J := blk b [hw, ow, lw, nw, I64 (n.sink)] 142 :: vc 139 (hw) (hs1) :: vc 3 (lw) (L) :: vc 3 (nw) (nx1) :: I) Fit.sub (ih (at_ hs1 (at_ (at_ rs v).xs (at_ nx1 v))).dst (if ((at_ hs1 (at_ ((at_ rs v).xs) (at_ nx1 v))).left) < (most - sent) then ((at_ hs1 (at_ ((at_ rs v).xs) (at_ nx1 v))).left) else (most - sent)) f1 nx1 hs1 (by omega) (by omega) (by omega) (by omega) (by split <;> omega) (by split <;> omega) hH1 hP.dead hP.nge (by omega)))) ?_
       rintro _ _ ⟨_, _, ⟨d2, f3, hs4, nx5, rfl, ⟨hbd2, hPd2, hHd2, hAd2⟩, rfl⟩, rfl, rfl⟩
       show G Try.prog κ _ _ _ _ ([(104, I64 (d2)), (103, I64 (if ((at_ hs1 (at_ ((at_ rs v).xs) (at_ nx1 v))).left) < (most - sent) then ((at_ hs1 (at_ ((at_ rs v).xs) (at_ nx1 v))).left) else (most - sent))), (102, I64 ((at_ hs1 (at_ ((at_ rs v).xs) (at_ nx1 v))).left)), (101, .pointer (some ⟨b1, 3, none⟩)), (100, I64 (most - sent)), (99, I64 (sent)), (98, I64 (most)), (97, I64 ((at_ hs1 (at_ ((at_ rs v).xs) (at_ nx1 v))).dst)), (96, .pointer (some ⟨b1, 1, none⟩)), (95, .pointer (some ⟨b1, 0, none⟩)), (94, .pointer (some ⟨b, 0, none⟩)), (93, .bool (decide ((at_ L ((at_ hs1 (at_ ((at_ rs v).xs) (at_ nx1 v))).dst)) ≠ ((at_ L v) + 1)))), (9, .pointer (some ⟨b1, 0, none⟩)), (8, I64 (at_ ((at_ rs v).xs) (at_ nx1 v))), (0, .pointer (some ⟨b, 0, none⟩)), (1, I64 (v)), (2, I64 (most)), (7, I64 (sent))] : Env) (blk b [hw, ow, lw, nw, I64 (n.sink)] 142 :: vc 139 (hw) (hs4) :: vc 3 (lw) (L) :: vc 3 (nw) (nx5) :: I)
       rw [hg.2.1] at hPd2 hAd2
       have hL1 : at_ L (toH n (at_ (at_ rs v).xs (at_ nx1 v))) = at_ L v + 1 := by omega
       have hle : d2 ≤ (if (at_ hs1 (at_ (at_ rs v).xs (at_ nx1 v))).left < most - sent then (at_ hs1 (at_ (at_ rs v).xs (at_ nx1 v))).left else most - sent) := hbd2.2
       have hle2 : d2 ≤ (at_ hs1 (at_ (at_ rs v).xs (at_ nx1 v))).left ∧ d2 ≤ most - sent := by revert hle; split <;> omega
       have hput := hP.put hok hr hm.1 hm.2 hL1 hs0 hbd2.1 (by omega) hPd2
       have hg2 := hHd2.get _ hm.1
       have hg3 := hHd2.get _ hm.1.mate
       have hls := left_sum n f3 (at_ (at_ rs v).xs (at_ nx1 v))
       have hhl2 := hHd2.len
       have hlk2 := left_ok hHd2.cap hm.1
       have hlk3 := left_ok hHd2.cap hm.1.mate
       have hmi : 0 ≤ mateH (at_ (at_ rs v).xs (at_ nx1 v)) ∧ mateH (at_ (at_ rs v).xs (at_ nx1 v)) < 2 * n.arcs.length := hm.1.mate
       have hmh := mate_half (at_ (at_ rs v).xs (at_ nx1 v))
       rw [hmh] at hlk3
       have hused := fun (hne : ¬ sent + d2 = most) => PushR.used (e := d2) (m := (if (at_ hs1 (at_ (at_ rs v).xs (at_ nx1 v))).left < most - sent then (at_ hs1 (at_ (at_ rs v).xs (at_ nx1 v))).left else most - sent)) hm.1 (Decidable.byCases (fun h : d2 < (if (at_ hs1 (at_ (at_ rs v).xs (at_ nx1 v))).left < most - sent then (at_ hs1 (at_ (at_ rs v).xs (at_ nx1 v))).left else most - sent) => .inl h) (fun h => .inr (by have hls2 := hput.2.2; revert h; split <;> omega))) (fun h => hAd2 h) hPd2.len hbd2.1 (by rw [hm.2]; exact hL1)
       refine G.r (Runs.assign rfl) ?_
       refine G.nt ?_
       refine W.sub (L' := [(10, _), (8, _), (0, _), (1, _), (2, _), (7, _)]) (Sub.cons rfl (Sub.cons rfl (Sub.cons rfl (Sub.cons rfl (Sub.cons rfl (Sub.cons rfl Sub.nil)))))) ?_
       refine W.sr ?_
       refine G.r (Runs.move rfl) ?_
       refine G.r (Runs.nilCheck rfl) ?_
       refine G.r (Runs.fieldAddr fld142_0 rfl) ?_
       refine G.r (Runs.ld ty140) ?_
       refine G.r (Runs.move rfl) ?_
       refine G.r (Runs.idx (α := Half) (xs := hs4) Try.underlying140 ty139 rfl rfl Sl.o (by omega) (by omega)) ?_
       refine G.r (Runs.fld (α := Half) (xs := hs4) fld139_1 rfl Sl.o (by omega)) ?_
       refine G.r (Runs.getf (α := Half) (xs := hs4) (u := I64 ((at_ hs4 (at_ ((at_ rs v).xs) (at_ nx1 v))).left)) ty3 rfl Sl.o (by omega) (by omega) rfl) ?_
       refine G.r (Runs.move rfl) ?_
       refine G.r (Runs.sub rfl rfl (by unfold InR; omega)) ?_
       refine G.r (Runs.idx (α := Half) (xs := hs4) Try.underlying140 ty139 rfl rfl Sl.o (by omega) (by omega)) ?_
       refine G.r (Runs.fld (α := Half) (xs := hs4) fld139_1 rfl Sl.o (by omega)) ?_
       refine G.e (Eff.setf (α := Half) (xs := hs4) (e := 139) (new := { at_ hs4 (at_ ((at_ rs v).xs) (at_ nx1 v)) with left := ((at_ hs4 (at_ ((at_ rs v).xs) (at_ nx1 v))).left) - d2 }) (j := 3) ty3 rfl rfl rfl rfl (by decide) rfl (by omega) (by omega) (by repeat (first | exact At.head _ _ _ | apply At.tail))) ?_
       rintro _ _ ⟨rfl, rfl⟩
       have hmt : at_ (List.set hs4 (at_ ((at_ rs v).xs) (at_ nx1 v)).toNat ({ at_ hs4 (at_ ((at_ rs v).xs) (at_ nx1 v)) with left := ((at_ hs4 (at_ ((at_ rs v).xs) (at_ nx1 v))).left) - d2 })) (mateH (at_ (at_ rs v).xs (at_ nx1 v))) = at_ hs4 (mateH (at_ (at_ rs v).xs (at_ nx1 v))) := by rw [at_set hs4 _ _ _ (by omega) (by omega) (by omega), if_neg (fun e => mate_ne _ e.symm)]
       have hmt1 : (at_ (List.set hs4 (at_ ((at_ rs v).xs) (at_ nx1 v)).toNat ({ at_ hs4 (at_ ((at_ rs v).xs) (at_ nx1 v)) with left := ((at_ hs4 (at_ ((at_ rs v).xs) (at_ nx1 v))).left) - d2 })) (mateH (at_ (at_ rs v).xs (at_ nx1 v)))).left = leftH n f3 (mateH (at_ (at_ rs v).xs (at_ nx1 v))) := by rw [hmt]; exact hg3.2.2
       have hsl : (List.set hs4 (at_ ((at_ rs v).xs) (at_ nx1 v)).toNat ({ at_ hs4 (at_ ((at_ rs v).xs) (at_ nx1 v)) with left := ((at_ hs4 (at_ ((at_ rs v).xs) (at_ nx1 v))).left) - d2 })).length = hs4.length := List.length_set
       refine G.nt ?_
       refine W.sub (L' := [(10, _), (8, _), (0, _), (1, _), (2, _), (7, _)]) (Sub.cons rfl (Sub.cons rfl (Sub.cons rfl (Sub.cons rfl (Sub.cons rfl (Sub.cons rfl Sub.nil)))))) ?_
       refine W.sr ?_
       refine G.r (Runs.move rfl) ?_
       refine G.r (Runs.nilCheck rfl) ?_
       refine G.r (Runs.fieldAddr fld142_0 rfl) ?_
       refine G.r (Runs.ld ty140) ?_
       refine G.r (Runs.move rfl) ?_
       refine G.r ((xor_mate (i := at_ ((at_ rs v).xs) (at_ nx1 v)) (by omega) (by omega)) ▸ Runs.xorw rfl rfl) ?_
       refine G.r (Runs.idx (α := Half) (xs := List.set hs4 (at_ ((at_ rs v).xs) (at_ nx1 v)).toNat ({ at_ hs4 (at_ ((at_ rs v).xs) (at_ nx1 v)) with left := ((at_ hs4 (at_ ((at_ rs v).xs) (at_ nx1 v))).left) - d2 })) Try.underlying140 ty139 rfl rfl Sl.o (by omega) (by omega)) ?_
       refine G.r (Runs.fld (α := Half) (xs := List.set hs4 (at_ ((at_ rs v).xs) (at_ nx1 v)).toNat ({ at_ hs4 (at_ ((at_ rs v).xs) (at_ nx1 v)) with left := ((at_ hs4 (at_ ((at_ rs v).xs) (at_ nx1 v))).left) - d2 })) fld139_1 rfl Sl.o (by omega)) ?_
       refine G.r (Runs.getf (α := Half) (xs := List.set hs4 (at_ ((at_ rs v).xs) (at_ nx1 v)).toNat ({ at_ hs4 (at_ ((at_ rs v).xs) (at_ nx1 v)) with left := ((at_ hs4 (at_ ((at_ rs v).xs) (at_ nx1 v))).left) - d2 })) (u := I64 ((at_ (List.set hs4 (at_ ((at_ rs v).xs) (at_ nx1 v)).toNat ({ at_ hs4 (at_ ((at_ rs v).xs) (at_ nx1 v)) with left := ((at_ hs4 (at_ ((at_ rs v).xs) (at_ nx1 v))).left) - d2 })) (mateH (at_ ((at_ rs v).xs) (at_ nx1 v)))).left)) ty3 rfl Sl.o (by omega) (by omega) rfl) ?_
       refine G.r (Runs.move rfl) ?_
       refine G.r (Runs.add rfl rfl (by unfold InR; omega)) ?_
       refine G.r (Runs.idx (α := Half) (xs := List.set hs4 (at_ ((at_ rs v).xs) (at_ nx1 v)).toNat ({ at_ hs4 (at_ ((at_ rs v).xs) (at_ nx1 v)) with left := ((at_ hs4 (at_ ((at_ rs v).xs) (at_ nx1 v))).left) - d2 })) Try.underlying140 ty139 rfl rfl Sl.o (by omega) (by omega)) ?_
       refine G.r (Runs.fld (α := Half) (xs := List.set hs4 (at_ ((at_ rs v).xs) (at_ nx1 v)).toNat ({ at_ hs4 (at_ ((at_ rs v).xs) (at_ nx1 v)) with left := ((at_ hs4 (at_ ((at_ rs v).xs) (at_ nx1 v))).left) - d2 })) fld139_1 rfl Sl.o (by omega)) ?_
       refine G.e (Eff.setf (α := Half) (xs := List.set hs4 (at_ ((at_ rs v).xs) (at_ nx1 v)).toNat ({ at_ hs4 (at_ ((at_ rs v).xs) (at_ nx1 v)) with left := ((at_ hs4 (at_ ((at_ rs v).xs) (at_ nx1 v))).left) - d2 })) (e := 139) (new := { at_ (List.set hs4 (at_ ((at_ rs v).xs) (at_ nx1 v)).toNat ({ at_ hs4 (at_ ((at_ rs v).xs) (at_ nx1 v)) with left := ((at_ hs4 (at_ ((at_ rs v).xs) (at_ nx1 v))).left) - d2 })) (mateH (at_ ((at_ rs v).xs) (at_ nx1 v))) with left := ((at_ (List.set hs4 (at_ ((at_ rs v).xs) (at_ nx1 v)).toNat ({ at_ hs4 (at_ ((at_ rs v).xs) (at_ nx1 v)) with left := ((at_ hs4 (at_ ((at_ rs v).xs) (at_ nx1 v))).left) - d2 })) (mateH (at_ ((at_ rs v).xs) (at_ nx1 v)))).left) + d2 }) (j := 3) ty3 rfl rfl rfl rfl (by decide) rfl (by omega) (by omega) (by repeat (first | exact At.head _ _ _ | apply At.tail))) ?_
       rintro _ _ ⟨rfl, rfl⟩
       have hHp : HOk n (pushF f3 (at_ (at_ rs v).xs (at_ nx1 v)) d2) (List.set (List.set hs4 (at_ ((at_ rs v).xs) (at_ nx1 v)).toNat ({ at_ hs4 (at_ ((at_ rs v).xs) (at_ nx1 v)) with left := ((at_ hs4 (at_ ((at_ rs v).xs) (at_ nx1 v))).left) - d2 })) (mateH (at_ ((at_ rs v).xs) (at_ nx1 v))).toNat ({ at_ (List.set hs4 (at_ ((at_ rs v).xs) (at_ nx1 v)).toNat ({ at_ hs4 (at_ ((at_ rs v).xs) (at_ nx1 v)) with left := ((at_ hs4 (at_ ((at_ rs v).xs) (at_ nx1 v))).left) - d2 })) (mateH (at_ ((at_ rs v).xs) (at_ nx1 v))) with left := ((at_ (List.set hs4 (at_ ((at_ rs v).xs) (at_ nx1 v)).toNat ({ at_ hs4 (at_ ((at_ rs v).xs) (at_ nx1 v)) with left := ((at_ hs4 (at_ ((at_ rs v).xs) (at_ nx1 v))).left) - d2 })) (mateH (at_ ((at_ rs v).xs) (at_ nx1 v)))).left) + d2 })) := hHd2.push hm.1 hbd2.1 (by omega)
       refine G.nt ?_
       refine W.sub (L' := [(10, _), (0, _), (1, _), (2, _), (7, _)]) (Sub.cons rfl (Sub.cons rfl (Sub.cons rfl (Sub.cons rfl (Sub.cons rfl Sub.nil))))) ?_
       refine W.sr ?_
       refine G.r (Runs.move rfl) ?_
       refine G.r (Runs.move rfl) ?_
       refine G.r (Runs.add rfl rfl (by unfold InR; omega)) ?_
       refine G.r (Runs.assign rfl) ?_
       refine G.nt ?_
       refine W.sr ?_
       refine G.r (Runs.move rfl) ?_
       refine G.r (Runs.move rfl) ?_
       refine G.r (Runs.eql rfl rfl) ?_
       refine G.nt ?_
       refine W.ite rfl (fun c135 => ?_) (fun c135 => ?_)
       ·refine W.sr ?_
        refine G.r (Runs.move rfl) ?_
        refine G.r (Runs.assign rfl) ?_
        refine G.nt ?_
        refine W.sub (L' := [(6, _)]) (Sub.cons rfl Sub.nil) ?_
        refine W.ret ?_
        refine V.block_ret ?_
        refine V.then_ret ?_
        refine V.then_ret ?_
        refine V.block_ret ?_
        refine V.then_ret ?_
        exact V.ret1 rfl rfl (blk b [hw, ow, lw, nw, I64 (n.sink)] 142 :: vc 139 (hw) (List.set (List.set hs4 (at_ ((at_ rs v).xs) (at_ nx1 v)).toNat ({ at_ hs4 (at_ ((at_ rs v).xs) (at_ nx1 v)) with left := ((at_ hs4 (at_ ((at_ rs v).xs) (at_ nx1 v))).left) - d2 })) (mateH (at_ ((at_ rs v).xs) (at_ nx1 v))).toNat ({ at_ (List.set hs4 (at_ ((at_ rs v).xs) (at_ nx1 v)).toNat ({ at_ hs4 (at_ ((at_ rs v).xs) (at_ nx1 v)) with left := ((at_ hs4 (at_ ((at_ rs v).xs) (at_ nx1 v))).left) - d2 })) (mateH (at_ ((at_ rs v).xs) (at_ nx1 v))) with left := ((at_ (List.set hs4 (at_ ((at_ rs v).xs) (at_ nx1 v)).toNat ({ at_ hs4 (at_ ((at_ rs v).xs) (at_ nx1 v)) with left := ((at_ hs4 (at_ ((at_ rs v).xs) (at_ nx1 v))).left) - d2 })) (mateH (at_ ((at_ rs v).xs) (at_ nx1 v)))).left) + d2 })) :: vc 3 (lw) (L) :: vc 3 (nw) (nx5) :: I) Fit.sub ⟨_, _, _, _, rfl, ⟨⟨by omega, by omega⟩, hput.1, hHp, fun h => by omega⟩, rfl⟩
       ·refine W.skip ?_
        refine V.block_normal ?_
        exact V.mid ((sent + d2), (pushF f3 (at_ (at_ rs v).xs (at_ nx1 v)) d2), (List.set (List.set hs4 (at_ ((at_ rs v).xs) (at_ nx1 v)).toNat ({ at_ hs4 (at_ ((at_ rs v).xs) (at_ nx1 v)) with left := ((at_ hs4 (at_ ((at_ rs v).xs) (at_ nx1 v))).left) - d2 })) (mateH (at_ ((at_ rs v).xs) (at_ nx1 v))).toNat ({ at_ (List.set hs4 (at_ ((at_ rs v).xs) (at_ nx1 v)).toNat ({ at_ hs4 (at_ ((at_ rs v).xs) (at_ nx1 v)) with left := ((at_ hs4 (at_ ((at_ rs v).xs) (at_ nx1 v))).left) - d2 })) (mateH (at_ ((at_ rs v).xs) (at_ nx1 v))) with left := ((at_ (List.set hs4 (at_ ((at_ rs v).xs) (at_ nx1 v)).toNat ({ at_ hs4 (at_ ((at_ rs v).xs) (at_ nx1 v)) with left := ((at_ hs4 (at_ ((at_ rs v).xs) (at_ nx1 v))).left) - d2 })) (mateH (at_ ((at_ rs v).xs) (at_ nx1 v)))).left) + d2 })), (nx5)) (show (0 ≤ (sent + d2 : Int) ∧ (sent + d2 : Int) ≤ most) ∧ (PushR n (rowsL rs) L v (sent + d2 : Int) f nx (pushF f3 (at_ (at_ rs v).xs (at_ nx1 v)) d2 : List Int) (nx5 : List Int)) ∧ (HOk n (pushF f3 (at_ (at_ rs v).xs (at_ nx1 v)) d2 : List Int) (List.set (List.set hs4 (at_ ((at_ rs v).xs) (at_ nx1 v)).toNat ({ at_ hs4 (at_ ((at_ rs v).xs) (at_ nx1 v)) with left := ((at_ hs4 (at_ ((at_ rs v).xs) (at_ nx1 v))).left) - d2 })) (mateH (at_ ((at_ rs v).xs) (at_ nx1 v))).toNat ({ at_ (List.set hs4 (at_ ((at_ rs v).xs) (at_ nx1 v)).toNat ({ at_ hs4 (at_ ((at_ rs v).xs) (at_ nx1 v)) with left := ((at_ hs4 (at_ ((at_ rs v).xs) (at_ nx1 v))).left) - d2 })) (mateH (at_ ((at_ rs v).xs) (at_ nx1 v))) with left := ((at_ (List.set hs4 (at_ ((at_ rs v).xs) (at_ nx1 v)).toNat ({ at_ hs4 (at_ ((at_ rs v).xs) (at_ nx1 v)) with left := ((at_ hs4 (at_ ((at_ rs v).xs) (at_ nx1 v))).left) - d2 })) (mateH (at_ ((at_ rs v).xs) (at_ nx1 v)))).left) + d2 }) : List Half)) ∧ (at_ (nx5 : List Int) v = at_ nx1 v) ∧ (¬ (0 < leftH n (pushF f3 (at_ (at_ rs v).xs (at_ nx1 v)) d2 : List Int) (at_ (at_ rs v).xs (at_ (nx5 : List Int) v)) ∧ at_ L (toH n (at_ (at_ rs v).xs (at_ (nx5 : List Int) v))) = at_ L v + 1 ∧ Adm n (pushF f3 (at_ (at_ rs v).xs (at_ nx1 v)) d2 : List Int) L (toH n (at_ (at_ rs v).xs (at_ (nx5 : List Int) v))))) from ⟨(by omega), (by first | exact hP | exact hput.1), (by first | exact hH1 | exact hHp), (by first | rfl | exact hput.2.1), (by first | (rintro ⟨a, b, c⟩; omega) | (rw [hput.2.1]; have hused2 := hused c135; rw [hm.2] at hused2; exact hused2))⟩) (Sub.cons rfl (Sub.cons rfl (Sub.cons rfl (Sub.cons (lookI rfl (by omega)) Sub.nil)))) (show Fit κ _ (blk b [hw, ow, lw, nw, I64 (n.sink)] 142 :: vc 139 (hw) ((List.set (List.set hs4 (at_ ((at_ rs v).xs) (at_ nx1 v)).toNat ({ at_ hs4 (at_ ((at_ rs v).xs) (at_ nx1 v)) with left := ((at_ hs4 (at_ ((at_ rs v).xs) (at_ nx1 v))).left) - d2 })) (mateH (at_ ((at_ rs v).xs) (at_ nx1 v))).toNat ({ at_ (List.set hs4 (at_ ((at_ rs v).xs) (at_ nx1 v)).toNat ({ at_ hs4 (at_ ((at_ rs v).xs) (at_ nx1 v)) with left := ((at_ hs4 (at_ ((at_ rs v).xs) (at_ nx1 v))).left) - d2 })) (mateH (at_ ((at_ rs v).xs) (at_ nx1 v))) with left := ((at_ (List.set hs4 (at_ ((at_ rs v).xs) (at_ nx1 v)).toNat ({ at_ hs4 (at_ ((at_ rs v).xs) (at_ nx1 v)) with left := ((at_ hs4 (at_ ((at_ rs v).xs) (at_ nx1 v))).left) - d2 })) (mateH (at_ ((at_ rs v).xs) (at_ nx1 v)))).left) + d2 }))) :: vc 3 (lw) (L) :: vc 3 (nw) ((nx5)) :: I) from Fit.sub)
    ·rintro ⟨sent2, f2, hs2, nx2⟩ hp
     obtain ⟨hs20, hP2, hH2, hnx2, hD2⟩ : (0 ≤ sent2 ∧ sent2 ≤ most) ∧ (PushR n (rowsL rs) L v sent2 f nx f2 nx2) ∧ (HOk n f2 hs2) ∧ (at_ nx2 v = at_ nx1 v) ∧ (¬ (0 < leftH n f2 (at_ (at_ rs v).xs (at_ nx2 v)) ∧ at_ L (toH n (at_ (at_ rs v).xs (at_ nx2 v))) = at_ L v + 1 ∧ Adm n f2 L (toH n (at_ (at_ rs v).xs (at_ nx2 v))))) := hp
     show W Try.prog κ 138 _ _ ([(0, .pointer (some ⟨b, 0, none⟩)), (1, I64 (v)), (2, I64 (most)), (7, I64 (sent2))] : Env) (blk b [hw, ow, lw, nw, I64 (n.sink)] 142 :: vc 139 (hw) (hs2) :: vc 3 (lw) (L) :: vc 3 (nw) (nx2) :: I)
     refine W.region ?_
     refine G.r (Runs.move rfl) ?_
     have hnl2 := hP2.nlen
     have hnx20 := hP2.nge v hv0 hv1
     refine G.r (Runs.nilCheck rfl) ?_
     refine G.r (Runs.fieldAddr fld142_3 rfl) ?_
     refine G.r (Runs.ld ty22) ?_
     refine G.r (Runs.move rfl) ?_
     refine G.r (Runs.idx (α := Int) (xs := nx2) Try.underlying22 ty3 rfl rfl Sl.o (by omega) (by omega)) ?_
     refine G.r (Runs.get (xs := nx2) ty3 rfl Sl.o (by omega) (by omega)) ?_
     refine G.r (Runs.add rfl rfl (by unfold InR; omega)) ?_
     refine G.r (Runs.idx (α := Int) (xs := nx2) Try.underlying22 ty3 rfl rfl Sl.o (by omega) (by omega)) ?_
     refine G.e (Eff.set (α := Int) (xs := nx2) (e := 3) (new := (at_ nx2 v) + 1) ty3 rfl rfl rfl (by omega) (by omega) (by repeat (first | exact At.head _ _ _ | apply At.tail))) ?_
     rintro _ _ ⟨rfl, rfl⟩
     refine G.nil ?_
     exact V.next ((sent2), (f2), (hs2), (List.set nx2 (v).toNat ((at_ nx2 v) + 1))) (show (0 ≤ (sent2 : Int)) ∧ ((sent2 : Int) ≤ most) ∧ (PushR n (rowsL rs) L v (sent2 : Int) f nx (f2 : List Int) (List.set nx2 (v).toNat ((at_ nx2 v) + 1) : List Int)) ∧ (HOk n (f2 : List Int) (hs2 : List Half)) from ⟨(by omega), (by omega), (hP2.adv (by omega) (by rw [rowsL_at]; exact hD2) hv1), hH2⟩) (show ((at_ rs v).xs.length - at_ (List.set nx2 (v).toNat ((at_ nx2 v) + 1) : List Int) v).toNat < ((at_ rs v).xs.length - at_ nx1 v).toNat from (by rw [at_set nx2 v v _ hv0 hv0 (by omega), if_pos rfl]; omega)) (Sub.cons rfl (Sub.cons rfl (Sub.cons rfl (Sub.cons (lookI rfl (by omega)) Sub.nil)))) (show Fit κ _ (blk b [hw, ow, lw, nw, I64 (n.sink)] 142 :: vc 139 (hw) ((hs2)) :: vc 3 (lw) (L) :: vc 3 (nw) ((List.set nx2 (v).toNat ((at_ nx2 v) + 1))) :: I) from Fit.sub)
   ·refine W.exit ?_
    refine V.then_exit ?_
    refine V.then_exit ?_
    refine V.block_hit ?_
    refine V.then ?_
    refine W.sr ?_
    refine G.r (Runs.move rfl) ?_
    refine G.r (Runs.assign rfl) ?_
    refine G.nt ?_
    refine W.ret ?_
    exact V.ret1 rfl rfl (blk b [hw, ow, lw, nw, I64 (n.sink)] 142 :: vc 139 (hw) (hs1) :: vc 3 (lw) (L) :: vc 3 (nw) (nx1) :: I) Fit.sub ⟨_, _, _, _, rfl, ⟨⟨hs0, hs9⟩, hP, hH1, fun h => by first | omega | exact Dead.not hr hP.dead ⟨hv0, hv1⟩ c16 (by rw [rowsL_at]; omega)⟩, rfl⟩
  ·refine D.po 17 rfl ?_
   refine D.po 18 rfl ?_
   refine D.po 19 rfl ?_
   refine D.r 20 rfl (Runs.pickf rfl rfl) ?_
   refine D.done (by kernel_rfl) ?_
   refine V.then ?_
   refine W.sub (L' := [(38, _), (0, _), (1, _), (2, _), (7, _)]) (Sub.cons rfl (Sub.cons rfl (Sub.cons rfl (Sub.cons rfl (Sub.cons rfl Sub.nil))))) ?_
   refine W.no rfl ?_
   refine W.exit ?_
   refine V.then_exit ?_
   refine V.then_exit ?_
   refine V.block_hit ?_
   refine V.then ?_
   refine W.sr ?_
   refine G.r (Runs.move rfl) ?_
   refine G.r (Runs.assign rfl) ?_
   refine G.nt ?_
   refine W.ret ?_
   exact V.ret1 rfl rfl (blk b [hw, ow, lw, nw, I64 (n.sink)] 142 :: vc 139 (hw) (hs1) :: vc 3 (lw) (L) :: vc 3 (nw) (nx1) :: I) Fit.sub ⟨_, _, _, _, rfl, ⟨⟨hs0, hs9⟩, hP, hH1, fun h => by first | omega | exact Dead.not hr hP.dead ⟨hv0, hv1⟩ c16 (by rw [rowsL_at]; omega)⟩, rfl⟩

end Go.Sl
namespace Go.Sl
open Go.Proofs
set_option linter.unusedVariables false
set_option linter.unusedSimpArgs false
set_option maxRecDepth 4000
theorem Push_ok {κ : Ctx} {I : List Item} {n : Net} {rs : List Row} {b : Nat} {hw ow lw nw : Value} {L : List Int} (hok : n.Ok) (hr : ROk n (rowsL rs)) (ho : Sl κ I ow rs) (hrow : ∀ i : Int, 0 ≤ i → i < rs.length → Sl κ I (.slice (at_ rs i).a (at_ rs i).xs.length (at_ rs i).c) (at_ rs i).xs) (hL : (L.length : Int) = n.nodes) (hlow : ∀ z : Int, 0 ≤ z → z < n.nodes → -1 ≤ at_ L z ∧ at_ L z < n.nodes) : ∀ (d : Nat) (lv : Int), n.nodes - lv ≤ d → PushC κ I n rs b hw ow lw nw L lv := by
  intro d
  induction d with
  | zero =>
    intro lv hd v most f nx hs hlv h0 h1
    have := (hlow v h0 h1).2
    omega
  | succ d ih =>
    intro lv hd v most f nx hs hlv h0 h1 h2 h3 h4 h5 h6 h7 h8
    exact Push_step hok hr ho hrow hL hlow (ih (lv + 1) (by omega)) hlv h0 h1 h2 h3 h4 h5 h6 h7 h8

theorem Greatest_ok {κ : Ctx} {I : List Item} {n : Net} {f : List Int} {hs : List Half} {rs : List Row} {b : Nat} {hw ow lw nw : Value} {L nx : List Int} (hok : n.Ok) (hh : HOk n f hs) (hr : ROk n (rowsL rs)) (ho : Sl κ I ow rs) (hrow : ∀ i : Int, 0 ≤ i → i < rs.length → Sl κ I (.slice (at_ rs i).a (at_ rs i).xs.length (at_ rs i).c) (at_ rs i).xs) (hL : (L.length : Int) = n.nodes) (hN : (nx.length : Int) = n.nodes) (hf : IsFlow n f) (hv0 : netF n f n.source = 0) :
    CallS Try.prog κ 166 [.pointer (some ⟨b, 0, none⟩), I64 (n.source)] (blk b [hw, ow, lw, nw, I64 (n.sink)] 142 :: vc 139 (hw) (hs) :: vc 3 (lw) (L) :: vc 3 (nw) (nx) :: I) (fun r J => ∃ (val : Int) (f' : List Int) (hs' : List Half) (L' nx' : List Int), r = I64 val ∧ (Full n f' val ∧ HOk n f' hs') ∧ J = blk b [hw, ow, lw, nw, I64 (n.sink)] 142 :: vc 139 (hw) (hs') :: vc 3 (lw) (L') :: vc 3 (nw) (nx') :: I) := by
 have hlim := hok.lim
 have hsrc := hok.src
 have hsnk := hok.snk
 refine CallS.enter (L := [(0, .pointer (some ⟨b, 0, none⟩)), (1, I64 (n.source))]) Try.func166 rfl rfl rfl rfl ?_
 refine W.sr ?_
 refine G.r (Runs.assign rfl) ?_
 refine G.nt ?_
 refine W.sr ?_
 refine G.r (Runs.assign rfl) ?_
 refine G.nt ?_
 refine W.seq ?_
 refine W.block ?_
 refine W.loop (σ := Int × (List Int) × (List Half) × (List Int) × (List Int)) (fun s => ([(0, .pointer (some ⟨b, 0, none⟩)), (1, I64 (n.source)), (5, I64 (s.1))] : Env)) (fun s => blk b [hw, ow, lw, nw, I64 (n.sink)] 142 :: vc 139 (hw) (s.2.2.1) :: vc 3 (lw) (s.2.2.2.1) :: vc 3 (nw) (s.2.2.2.2) :: I) (fun s => (IsFlow n s.2.1) ∧ (s.1 = netF n s.2.1 n.source) ∧ (0 ≤ s.1) ∧ (HOk n s.2.1 s.2.2.1) ∧ ((s.2.2.2.1.length : Int) = n.nodes) ∧ ((s.2.2.2.2.length : Int) = n.nodes)) (fun s => (18014398509481984 - s.1).toNat) (0, f, hs, L, nx) (show (IsFlow n (f : List Int)) ∧ ((0 : Int) = netF n (f : List Int) n.source) ∧ (0 ≤ (0 : Int)) ∧ (HOk n (f : List Int) (hs : List Half)) ∧ (((L : List Int).length : Int) = n.nodes) ∧ (((nx : List Int).length : Int) = n.nodes) from ⟨hf, hv0.symm, (by omega), hh, hL, hN⟩) (Sub.cons rfl (Sub.cons rfl (Sub.cons (lookI rfl (by omega)) Sub.nil))) (show Fit κ _ (blk b [hw, ow, lw, nw, I64 (n.sink)] 142 :: vc 139 (hw) ((hs)) :: vc 3 (lw) ((L)) :: vc 3 (nw) ((nx)) :: I) from Fit.sub) ?_
 rintro ⟨val, f, hs, L, nx⟩ hp
 obtain ⟨hf, hval, hv0, hh, hL, hN⟩ : (IsFlow n f) ∧ (val = netF n f n.source) ∧ (0 ≤ val) ∧ (HOk n f hs) ∧ ((L.length : Int) = n.nodes) ∧ ((nx.length : Int) = n.nodes) := hp
 show W Try.prog κ 15 _ _ ([(0, .pointer (some ⟨b, 0, none⟩)), (1, I64 (n.source)), (5, I64 (val))] : Env) (blk b [hw, ow, lw, nw, I64 (n.sink)] 142 :: vc 139 (hw) (hs) :: vc 3 (lw) (L) :: vc 3 (nw) (nx) :: I)
 refine W.seq ?_
 refine W.sr ?_
 refine G.r (Runs.move rfl) ?_
 refine G.r (Runs.move rfl) ?_
 refine G.e (Eff.call call212 rfl rfl (Layers_ok (n := n) (f := f) hok hh hr ho hrow (by omega) (by omega))) ?_
 rintro _ _ ⟨_, _, ⟨L1, nx2, rfl, ⟨hVL1, hnL1, hzL1⟩, rfl⟩, rfl, rfl⟩
 show G Try.prog κ _ _ _ _ ([(8, .bool (decide (0 ≤ at_ L1 n.sink))), (7, I64 (n.source)), (6, .pointer (some ⟨b, 0, none⟩)), (0, .pointer (some ⟨b, 0, none⟩)), (1, I64 (n.source)), (5, I64 (val))] : Env) (blk b [hw, ow, lw, nw, I64 (n.sink)] 142 :: vc 139 (hw) (hs) :: vc 3 (lw) (L1) :: vc 3 (nw) (nx2) :: I)
 have hlL1 := hVL1.len
 refine G.nt ?_
 refine W.ite rfl (fun c8 => ?_) (fun c8 => ?_)
 ·refine W.skip ?_
  refine V.then ?_
  refine W.block ?_
  refine W.region ?_
  refine G.r (Runs.move rfl) ?_
  refine G.r (Runs.move rfl) ?_
  refine G.r (Runs.move rfl) ?_
  refine G.e (Eff.call call213 rfl rfl (CallS.fit (J := blk b [hw, ow, lw, nw, I64 (n.sink)] 142 :: vc 139 (hw) (hs) :: vc 3 (lw) (L1) :: vc 3 (nw) (nx2) :: I) Fit.sub (Push_ok hok hr ho hrow hlL1 hVL1.low n.nodes.toNat 0 (by omega) n.source 4611686018427387904 f nx2 hs hVL1.src hsrc.1 hsrc.2 (by rw [hVL1.src]; exact Int.le_refl _) (by omega) (by omega) hh (fun u h0 h1 j hj => by rw [hzL1 u h0 h1] at hj; omega) (fun z h0 h1 => by rw [hzL1 z h0 h1]; exact Int.le_refl _) hnL1))) ?_
  rintro _ _ ⟨_, _, ⟨d3, f4, hs5, nx6, rfl, ⟨hbd3, hPd3, hHd3, hAd3⟩, rfl⟩, rfl, rfl⟩
  show G Try.prog κ _ _ _ _ ([(12, I64 (d3)), (11, I64 (n.source)), (10, .pointer (some ⟨b, 0, none⟩)), (9, I64 (val)), (8, .bool (decide (0 ≤ at_ L1 n.sink))), (7, I64 (n.source)), (6, .pointer (some ⟨b, 0, none⟩)), (0, .pointer (some ⟨b, 0, none⟩)), (1, I64 (n.source)), (5, I64 (val))] : Env) (blk b [hw, ow, lw, nw, I64 (n.sink)] 142 :: vc 139 (hw) (hs5) :: vc 3 (lw) (L1) :: vc 3 (nw) (nx6) :: I)
  have hfl := hPd3.flow hok hf
  have hvb := value_le hok hfl.1 (fun z => z == n.source) (by simp) (by simpa using fun e => hok.ne e.symm)
  have hcb := (cut_nonneg_le hok (fun z => z == n.source)).2
  have hpos : 1 ≤ d3 := Int.not_lt.1 fun h => hAd3 (by omega) (by rw [hPd3.zero (by omega)]; exact hVL1.go hok c8)
  have hnn := hPd3.nlen
  refine G.r (Runs.add rfl rfl (by unfold InR; omega)) ?_
  refine G.r (Runs.assign rfl) ?_
  refine G.nil ?_
  refine V.block_normal ?_
  exact V.next ((val + d3), (f4), (hs5), (L1), (nx6)) (show (IsFlow n (f4 : List Int)) ∧ ((val + d3 : Int) = netF n (f4 : List Int) n.source) ∧ (0 ≤ (val + d3 : Int)) ∧ (HOk n (f4 : List Int) (hs5 : List Half)) ∧ (((L1 : List Int).length : Int) = n.nodes) ∧ (((nx6 : List Int).length : Int) = n.nodes) from ⟨hfl.1, (by omega), (by omega), hHd3, (by omega), (by omega)⟩) (show (18014398509481984 - (val + d3 : Int)).toNat < (18014398509481984 - val).toNat from (by omega)) (Sub.cons rfl (Sub.cons rfl (Sub.cons (lookI rfl (by omega)) Sub.nil))) (show Fit κ _ (blk b [hw, ow, lw, nw, I64 (n.sink)] 142 :: vc 139 (hw) ((hs5)) :: vc 3 (lw) ((L1)) :: vc 3 (nw) ((nx6)) :: I) from Fit.sub)
 ·refine W.exit ?_
  refine V.then_exit ?_
  refine V.then_exit ?_
  refine V.block_hit ?_
  refine V.then ?_
  refine W.sr ?_
  refine G.r (Runs.move rfl) ?_
  refine G.r (Runs.assign rfl) ?_
  refine G.nt ?_
  refine W.ret ?_
  exact V.ret1 rfl rfl (blk b [hw, ow, lw, nw, I64 (n.sink)] 142 :: vc 139 (hw) (hs) :: vc 3 (lw) (L1) :: vc 3 (nw) (nx2) :: I) Fit.sub ⟨val, f, hs, L1, nx2, rfl, ⟨⟨hf, hval, hVL1.end hok c8⟩, hh⟩, rfl⟩

end Go.Sl
