/- A part of the proofs of statements of this seat: contracts of functions, and the plain laws that they lean on. No conditions. -/
import Derived.Test.YtbimaodbcjjbfaaDoorSets
/- Searching what is left of a network: the plain law of the search by layers. No Go. -/
namespace Go.Sl
set_option linter.unusedVariables false

section
variable (n : Net) (f out : List Int)

/-- Node z has been reached. -/
def Rd (z : Int) : Prop := (0 ≤ z ∧ z < out.length) ∧ at_ out z ≠ -1

/-- What out says of how y was reached. -/
def ParOk (rk : Int → Nat) (y : Int) : Prop :=
  (0 ≤ at_ out y ∧ at_ out y < n.arcs.length ∧ (at_ n.arcs (at_ out y)).dst = y ∧ at_ f (at_ out y) < (at_ n.arcs (at_ out y)).cap ∧ Rd out (at_ n.arcs (at_ out y)).frm ∧ rk (at_ n.arcs (at_ out y)).frm < rk y) ∨
  (at_ out y ≤ -2 ∧ -2 - at_ out y < n.arcs.length ∧ (at_ n.arcs (-2 - at_ out y)).frm = y ∧ 0 < at_ f (-2 - at_ out y) ∧ Rd out (at_ n.arcs (-2 - at_ out y)).dst ∧ rk (at_ n.arcs (-2 - at_ out y)).dst < rk y)

/-- The state of the search: todo waits; of node x the arcs below k1 have been looked at forwards, those below k2 backwards. -/
structure WI (todo : List Int) (x : Int) (k1 k2 : Nat) : Prop where
  len : (out.length : Int) = n.nodes
  src : at_ out n.source = n.arcs.length
  wait : ∀ z ∈ todo, Rd out z
  clos : ∀ z, Rd out z → z ∉ todo → ∀ k : Nat, k < n.arcs.length →
    ((at_ n.arcs (k : Int)).frm = z → at_ f (k : Int) < (at_ n.arcs (k : Int)).cap → (z = x → k < k1) → Rd out (at_ n.arcs (k : Int)).dst) ∧
    ((at_ n.arcs (k : Int)).dst = z → 0 < at_ f (k : Int) → (z = x → k < k2) → Rd out (at_ n.arcs (k : Int)).frm)
  par : ∃ (rk : Int → Nat) (B : Nat), (∀ z, Rd out z → rk z < B) ∧ ∀ y, Rd out y → y ≠ n.source → ParOk n f out rk y
  cur : Rd out x

/-- How many have not been reached. -/
def un : Nat := out.count (-1)
end

section
variable {n : Net} {f out todo : List Int} {x : Int} {k1 k2 : Nat}

theorem Rd.set {y i z : Int} (hy : 0 ≤ y ∧ y < out.length) (hi : i ≠ -1) : Rd (out.set y.toNat i) z ↔ z = y ∨ Rd out z := by
  unfold Rd
  rw [List.length_set]
  constructor
  · rintro ⟨h1, h2⟩
    rw [at_set out y z i hy.1 h1.1 hy.2] at h2
    by_cases h : y = z
    · exact .inl h.symm
    · rw [if_neg h] at h2; exact .inr ⟨h1, h2⟩
  · rintro (rfl | ⟨h1, h2⟩)
    · exact ⟨hy, by rw [at_set out z z i hy.1 hy.1 hy.2, if_pos rfl]; exact hi⟩
    · refine ⟨h1, ?_⟩
      rw [at_set out y z i hy.1 h1.1 hy.2]
      split
      · exact hi
      · exact h2

theorem un_set {y i : Int} (hy : 0 ≤ y ∧ y < out.length) (h : at_ out y = -1) (hi : i ≠ -1) : un (out.set y.toNat i) + 1 = un out := by
  unfold un
  have hl : y.toNat < out.length := by omega
  have hg : out[y.toNat] = -1 := by rw [at_eq hy.1 hy.2] at h; exact h
  rw [List.count_set hl]
  have hpos : 0 < out.count (-1) := List.count_pos_iff.2 (hg ▸ List.getElem_mem hl)
  have e1 : (out[y.toNat] == (-1 : Int)) = true := by simp [hg]
  have e2 : (i == (-1 : Int)) = false := by simpa using hi
  rw [e1, e2]
  simp only [if_true, Bool.false_eq_true, if_false]
  omega

/-- A node is reached. -/
theorem WI.put (h : WI n f out todo x k1 k2) {y i : Int} (hy : 0 ≤ y ∧ y < out.length) (hu : at_ out y = -1)
    (hp : (0 ≤ i ∧ i < n.arcs.length ∧ (at_ n.arcs i).dst = y ∧ at_ f i < (at_ n.arcs i).cap ∧ (at_ n.arcs i).frm = x) ∨
      (i ≤ -2 ∧ -2 - i < n.arcs.length ∧ (at_ n.arcs (-2 - i)).frm = y ∧ 0 < at_ f (-2 - i) ∧ (at_ n.arcs (-2 - i)).dst = x)) :
    WI n f (out.set y.toNat i) (todo ++ [y]) x k1 k2 ∧ un (out.set y.toNat i) + 1 = un out := by
  have hi : i ≠ -1 := by omega
  have hR : ∀ z, Rd (out.set y.toNat i) z ↔ z = y ∨ Rd out z := fun z => Rd.set hy hi
  have hny : ¬ Rd out y := fun h => h.2 hu
  refine ⟨⟨by rw [List.length_set]; exact h.len, ?_, fun z hz => ?_, fun z hz hzt k hk => ?_, ?_, (hR x).2 (.inr h.cur)⟩, un_set hy hu hi⟩
  · by_cases hs : y = n.source
    · subst hs; have := h.src; omega
    · by_cases hs0 : 0 ≤ n.source
      · rw [at_set out y n.source i hy.1 hs0 hy.2, if_neg hs]; exact h.src
      · have e : n.source.toNat = 0 := by omega
        have h1 := h.src
        unfold at_ at h1 ⊢
        rw [e] at h1 ⊢
        by_cases hy0 : y.toNat = 0
        · exfalso
          unfold at_ at hu
          rw [hy0] at hu
          rw [hu] at h1
          omega
        · simpa [List.getD_eq_getElem?_getD, List.getElem?_set_ne hy0] using h1
  · rw [hR]
    rcases List.mem_append.1 hz with hz | hz
    · exact .inr (h.wait z hz)
    · exact .inl (List.mem_singleton.1 hz)
  · rcases (hR z).1 hz with rfl | hz'
    · exact absurd (List.mem_append_right _ (List.mem_singleton.2 rfl)) hzt
    · have hc := h.clos z hz' (fun hm => hzt (List.mem_append_left _ hm)) k hk
      exact ⟨fun a b c => (hR _).2 (.inr (hc.1 a b c)), fun a b c => (hR _).2 (.inr (hc.2 a b c))⟩
  · obtain ⟨rk, B, hB, hpar⟩ := h.par
    refine ⟨fun z => if z = y then B else rk z, B + 1, fun z hz => ?_, fun z hz hzs => ?_⟩
    · rcases (hR z).1 hz with rfl | hz'
      · simp
      · have := hB z hz'
        simp only
        split <;> omega
    · have hxy : x ≠ y := fun e => hny (e ▸ h.cur)
      have hxB := hB x h.cur
      rcases (hR z).1 hz with rfl | hz'
      · unfold ParOk
        have e : at_ (out.set z.toNat i) z = i := by rw [at_set out z z i hy.1 hy.1 hy.2, if_pos rfl]
        rw [e]
        rcases hp with ⟨p1, p2, p3, p4, p5⟩ | ⟨p1, p2, p3, p4, p5⟩
        · refine .inl ⟨p1, p2, p3, p4, (hR _).2 (.inr (p5 ▸ h.cur)), ?_⟩
          rw [p5]; simp only [hxy, if_false, if_true]; exact hxB
        · refine .inr ⟨p1, p2, p3, p4, (hR _).2 (.inr (p5 ▸ h.cur)), ?_⟩
          rw [p5]; simp only [hxy, if_false, if_true]; exact hxB
      · have hzy : z ≠ y := fun e => hny (e ▸ hz')
        have e : at_ (out.set y.toNat i) z = at_ out z := by rw [at_set out y z i hy.1 hz'.1.1 hy.2, if_neg (fun e => hzy e.symm)]
        unfold ParOk
        rw [e]
        have hlt : ∀ u, Rd out u → rk u < rk z → (if u = y then B else rk u) < (if z = y then B else rk z) := fun u hu hlt => by
          have : u ≠ y := fun e => hny (e ▸ hu)
          simp only [this, hzy, if_false]; exact hlt
        rcases hpar z hz' hzs with ⟨p1, p2, p3, p4, p5, p6⟩ | ⟨p1, p2, p3, p4, p5, p6⟩
        · exact .inl ⟨p1, p2, p3, p4, (hR _).2 (.inr p5), hlt _ p5 p6⟩
        · exact .inr ⟨p1, p2, p3, p4, (hR _).2 (.inr p5), hlt _ p5 p6⟩

/-- Arc k has been looked at forwards. -/
theorem WI.fwd {k : Nat} (h : WI n f out todo x k k) (hd : (at_ n.arcs (k : Int)).frm = x → at_ f (k : Int) < (at_ n.arcs (k : Int)).cap → Rd out (at_ n.arcs (k : Int)).dst) : WI n f out todo x (k + 1) k :=
  ⟨h.len, h.src, h.wait, fun z hz hzt j hj => ⟨fun a b c => by
    by_cases hjk : z = x ∧ j = k
    · obtain ⟨rfl, rfl⟩ := hjk
      exact hd a b
    · exact (h.clos z hz hzt j hj).1 a b fun e => by have := c e; have : j ≠ k := fun e' => hjk ⟨e, e'⟩; omega, (h.clos z hz hzt j hj).2⟩, h.par, h.cur⟩

theorem WI.bwd {k : Nat} (h : WI n f out todo x (k + 1) k) (hd : (at_ n.arcs (k : Int)).dst = x → 0 < at_ f (k : Int) → Rd out (at_ n.arcs (k : Int)).frm) : WI n f out todo x (k + 1) (k + 1) :=
  ⟨h.len, h.src, h.wait, fun z hz hzt j hj => ⟨(h.clos z hz hzt j hj).1, fun a b c => by
    by_cases hjk : z = x ∧ j = k
    · obtain ⟨rfl, rfl⟩ := hjk
      exact hd a b
    · exact (h.clos z hz hzt j hj).2 a b fun e => by have := c e; have : j ≠ k := fun e' => hjk ⟨e, e'⟩; omega⟩, h.par, h.cur⟩

/-- The first that waits is taken. -/
theorem WI.pop {k : Nat} (h : WI n f out todo x k k) (hk : n.arcs.length ≤ k) (ht : 0 < todo.length) : WI n f out (todo.drop 1) (at_ todo 0) 0 0 := by
  have e : todo = at_ todo 0 :: todo.drop 1 := by
    have := drop_at todo 0 ht
    simpa using this
  refine ⟨h.len, h.src, fun z hz => h.wait z (List.mem_of_mem_drop hz), fun z hz hzt j hj => ?_, h.par, h.wait _ (at_mem (Int.le_refl _) (by omega))⟩
  by_cases hzx : z = at_ todo 0
  · exact ⟨fun _ _ c => absurd (c hzx) (by omega), fun _ _ c => absurd (c hzx) (by omega)⟩
  · have hzt' : z ∉ todo := fun hm => by
      rw [e] at hm
      rcases List.mem_cons.1 hm with h' | h'
      · exact hzx h'
      · exact hzt h'
    have hc := h.clos z hz hzt' j hj
    exact ⟨fun a b _ => hc.1 a b fun _ => by omega, fun a b _ => hc.2 a b fun _ => by omega⟩

/-- What a search gives. -/
structure WaySpec (n : Net) (f out : List Int) : Prop where
  len : (out.length : Int) = n.nodes
  src : at_ out n.source = n.arcs.length
  fwd : ∀ k : Nat, k < n.arcs.length → Rd out (at_ n.arcs (k : Int)).frm → at_ f (k : Int) < (at_ n.arcs (k : Int)).cap → Rd out (at_ n.arcs (k : Int)).dst
  bwd : ∀ k : Nat, k < n.arcs.length → Rd out (at_ n.arcs (k : Int)).dst → 0 < at_ f (k : Int) → Rd out (at_ n.arcs (k : Int)).frm
  par : ∃ (rk : Int → Nat) (B : Nat), (∀ z, Rd out z → rk z < B) ∧ ∀ y, Rd out y → y ≠ n.source → ParOk n f out rk y

theorem WI.spec {k : Nat} (h : WI n f out [] x k k) (hk : n.arcs.length ≤ k) : WaySpec n f out :=
  ⟨h.len, h.src, fun j hj hz hb => (h.clos _ hz (by simp) j hj).1 rfl hb fun _ => by omega, fun j hj hz hb => (h.clos _ hz (by simp) j hj).2 rfl hb fun _ => by omega, h.par⟩

/-- The beginning. -/
theorem WI.start (hok : n.Ok) {m : Nat} (hm : (m : Int) = n.nodes) {k : Nat} : WI n f ((List.replicate m (-1 : Int)).set n.source.toNat n.arcs.length) [n.source] n.source k k := by
  have hs := hok.src
  have hl : ((List.replicate m (-1 : Int)).length : Int) = n.nodes := by simpa using hm
  have hR : ∀ z, Rd ((List.replicate m (-1 : Int)).set n.source.toNat n.arcs.length) z ↔ z = n.source := fun z => by
    rw [Rd.set (by omega) (by omega)]
    constructor
    · rintro (h | h)
      · exact h
      · exfalso; refine h.2 (at_rep m z _ h.1.1 ?_); have := h.1.2; simpa using this
    · exact .inl
  refine ⟨by rw [List.length_set]; exact hl, by rw [at_set _ _ _ _ hs.1 hs.1 (by omega), if_pos rfl], fun z hz => ?_, fun z hz hzt => ?_, ⟨fun _ => 0, 1, fun _ _ => Nat.zero_lt_one, fun y hy hne => absurd ((hR y).1 hy) hne⟩, (hR _).2 rfl⟩
  · rw [List.mem_singleton.1 hz]; exact (hR _).2 rfl
  · exact absurd (List.mem_singleton.2 ((hR z).1 hz)) hzt

theorem un_le (out : List Int) : un out ≤ out.length := List.count_le_length
end
end Go.Sl
/- Flows and cuts: the plain law. No Go. -/
namespace Go.Sl
set_option linter.unusedVariables false

/-! ### Flows -/
def netF (n : Net) (f : List Int) (v : Int) : Int :=
  sumN n.arcs.length fun k => (if (at_ n.arcs (k : Int)).frm = v then at_ f (k : Int) else 0) - (if (at_ n.arcs (k : Int)).dst = v then at_ f (k : Int) else 0)

structure IsFlow (n : Net) (f : List Int) : Prop where
  len : f.length = n.arcs.length
  cap : ∀ k : Nat, k < n.arcs.length → 0 ≤ at_ f (k : Int) ∧ at_ f (k : Int) ≤ (at_ n.arcs (k : Int)).cap
  cons : ∀ v, 0 ≤ v → v < n.nodes → v ≠ n.source → v ≠ n.sink → netF n f v = 0

/-- What goes out of the set S: the sum of Cap. -/
def cutS (n : Net) (S : Int → Bool) : Int := sumN n.arcs.length fun k => if S (at_ n.arcs (k : Int)).frm && !S (at_ n.arcs (k : Int)).dst then (at_ n.arcs (k : Int)).cap else 0

theorem arc_at {n : Net} (hok : n.Ok) {k : Nat} (hk : k < n.arcs.length) : (0 ≤ (at_ n.arcs (k : Int)).frm ∧ (at_ n.arcs (k : Int)).frm < n.nodes) ∧ (0 ≤ (at_ n.arcs (k : Int)).dst ∧ (at_ n.arcs (k : Int)).dst < n.nodes) ∧ (at_ n.arcs (k : Int)).frm ≠ (at_ n.arcs (k : Int)).dst ∧ 0 ≤ (at_ n.arcs (k : Int)).cap ∧ (at_ n.arcs (k : Int)).cap ≤ 1099511627776 :=
  hok.arc _ (at_mem (by omega) (by omega))

theorem sumN_ind {m : Nat} {v : Int} (h0 : 0 ≤ v) (h1 : v < m) (S : Int → Bool) (c : Int) : sumN m (fun j => if S (j : Int) then (if v = (j : Int) then c else 0) else 0) = if S v then c else 0 := by
  have e : v = ((v.toNat : Nat) : Int) := by omega
  rw [sumN_congr m (h := fun j => if j = v.toNat then (if S v then c else 0) else 0) fun j hj => ?_]
  · exact sumN_at (by omega) _
  · by_cases hj : j = v.toNat
    · subst hj; rw [if_pos rfl, ← e, if_pos rfl]
    · rw [if_neg hj, if_neg (show ¬ v = (j : Int) by omega)]; split <;> rfl

/-- The value of a flow is what goes out of a set less what comes in. -/
theorem value_cut {n : Net} (hok : n.Ok) {f : List Int} (hf : IsFlow n f) (S : Int → Bool) (hs : S n.source = true) (ht : S n.sink = false) :
    netF n f n.source = sumN n.arcs.length fun k => (if S (at_ n.arcs (k : Int)).frm && !S (at_ n.arcs (k : Int)).dst then at_ f (k : Int) else 0) - (if S (at_ n.arcs (k : Int)).dst && !S (at_ n.arcs (k : Int)).frm then at_ f (k : Int) else 0) := by
  have hsrc := hok.src
  -- the sum of what goes out of the nodes of S
  have h1 : sumN n.nodes.toNat (fun v => if S (v : Int) then netF n f (v : Int) else 0) = netF n f n.source := by
    rw [sumN_congr n.nodes.toNat (h := fun j => if j = n.source.toNat then netF n f n.source else 0) fun j hj => ?_]
    · exact sumN_at (by omega) _
    · by_cases hj' : j = n.source.toNat
      · subst hj'
        rw [if_pos rfl, show ((n.source.toNat : Nat) : Int) = n.source from by omega, hs]; simp
      · rw [if_neg hj']
        by_cases hS : S (j : Int) = true
        · rw [if_pos hS]
          refine hf.cons _ (by omega) (by omega) (fun e => hj' (by omega)) fun e => ?_
          rw [e, ht] at hS; cases hS
        · rw [if_neg hS]
  rw [← h1]
  have h2 : sumN n.nodes.toNat (fun v => if S (v : Int) then netF n f (v : Int) else 0) =
      sumN n.nodes.toNat (fun v => sumN n.arcs.length fun k => (if S (v : Int) then (if (at_ n.arcs (k : Int)).frm = (v : Int) then at_ f (k : Int) else 0) else 0) - (if S (v : Int) then (if (at_ n.arcs (k : Int)).dst = (v : Int) then at_ f (k : Int) else 0) else 0)) :=
    sumN_congr _ fun v _ => by
      by_cases hS : S (v : Int) = true
      · rw [if_pos hS]; unfold netF
        exact sumN_congr _ fun k _ => by rw [if_pos hS, if_pos hS]
      · rw [if_neg hS]
        exact (sumN_eq_zero _ fun k _ => by rw [if_neg hS, if_neg hS]; rfl).symm
  rw [h2, sumN_swap]
  refine sumN_congr _ fun k hk => ?_
  have ha := arc_at hok hk
  rw [sumN_sub, sumN_ind ha.1.1 (by omega), sumN_ind ha.2.1.1 (by omega)]
  cases S (at_ n.arcs (k : Int)).frm <;> cases S (at_ n.arcs (k : Int)).dst <;> simp

/-- No flow has more than a cut. -/
theorem value_le {n : Net} (hok : n.Ok) {f : List Int} (hf : IsFlow n f) (S : Int → Bool) (hs : S n.source = true) (ht : S n.sink = false) : netF n f n.source ≤ cutS n S := by
  rw [value_cut hok hf S hs ht]
  refine sumN_le _ fun k hk => ?_
  have hc := hf.cap k hk
  cases S (at_ n.arcs (k : Int)).frm <;> cases S (at_ n.arcs (k : Int)).dst <;> simp <;> omega

/-- A set is shut: nothing can go out of it in what is left. -/
def Shut (n : Net) (f : List Int) (S : Int → Bool) : Prop := ∀ k : Nat, k < n.arcs.length →
  (S (at_ n.arcs (k : Int)).frm = true → at_ f (k : Int) < (at_ n.arcs (k : Int)).cap → S (at_ n.arcs (k : Int)).dst = true) ∧
  (S (at_ n.arcs (k : Int)).dst = true → 0 < at_ f (k : Int) → S (at_ n.arcs (k : Int)).frm = true)

theorem shut_value {n : Net} (hok : n.Ok) {f : List Int} (hf : IsFlow n f) {S : Int → Bool} (hs : S n.source = true) (ht : S n.sink = false) : netF n f n.source = cutS n S ↔ Shut n f S := by
  rw [value_cut hok hf S hs ht]
  have hle : ∀ k, k < n.arcs.length → ((if S (at_ n.arcs (k : Int)).frm && !S (at_ n.arcs (k : Int)).dst then at_ f (k : Int) else 0) - (if S (at_ n.arcs (k : Int)).dst && !S (at_ n.arcs (k : Int)).frm then at_ f (k : Int) else 0)) ≤ (if S (at_ n.arcs (k : Int)).frm && !S (at_ n.arcs (k : Int)).dst then (at_ n.arcs (k : Int)).cap else 0) := fun k hk => by
    have hc := hf.cap k hk
    cases S (at_ n.arcs (k : Int)).frm <;> cases S (at_ n.arcs (k : Int)).dst <;> simp <;> omega
  constructor
  · intro h k hk
    have := sumN_eq_terms _ hle h k hk
    have hc := hf.cap k hk
    revert this
    cases h1 : S (at_ n.arcs (k : Int)).frm <;> cases h2 : S (at_ n.arcs (k : Int)).dst <;> simp <;> omega
  · intro h
    refine sumN_congr _ fun k hk => ?_
    have hc := hf.cap k hk
    have := h k hk
    revert this
    cases h1 : S (at_ n.arcs (k : Int)).frm <;> cases h2 : S (at_ n.arcs (k : Int)).dst <;> simp <;> omega
end Go.Sl
/- Sending along a way: the plain law. No Go. -/
namespace Go.Sl
set_option linter.unusedVariables false

def parN (n : Net) (out : List Int) (y : Int) : Int := if 0 ≤ at_ out y then (at_ n.arcs (at_ out y)).frm else (at_ n.arcs (-2 - at_ out y)).dst
def rsN (n : Net) (f out : List Int) (y : Int) : Int := if 0 ≤ at_ out y then (at_ n.arcs (at_ out y)).cap - at_ f (at_ out y) else at_ f (-2 - at_ out y)
def itN (n : Net) (out : List Int) : Nat → Int
  | 0 => n.sink
  | j + 1 => parN n out (itN n out j)

section
variable {n : Net} {f out : List Int} {rk : Int → Nat}

/-- The way from the sink back, so far as it has been gone. -/
structure PW (n : Net) (f out : List Int) (rk : Int → Nat) (j : Nat) (d : Int) : Prop where
  rd : ∀ i, i ≤ j → Rd out (itN n out i)
  ne : ∀ i, i < j → itN n out i ≠ n.source
  par : ∀ i, i < j → ParOk n f out rk (itN n out i)
  res : ∀ i, i < j → d ≤ rsN n f out (itN n out i)
  pos : 1 ≤ d ∧ d ≤ 1099511627776

theorem PW.start (h : Rd out n.sink) : PW n f out rk 0 1099511627776 :=
  ⟨fun i hi => by obtain rfl : i = 0 := by omega
                  exact h, fun i hi => absurd hi (Nat.not_lt_zero i), fun i hi => absurd hi (Nat.not_lt_zero i), fun i hi => absurd hi (Nat.not_lt_zero i), by omega⟩

theorem par_rd {y : Int} (hp : ParOk n f out rk y) : Rd out (parN n out y) ∧ rk (parN n out y) < rk y ∧ 1 ≤ rsN n f out y := by
  unfold parN rsN
  rcases hp with ⟨p1, p2, p3, p4, p5, p6⟩ | ⟨p1, p2, p3, p4, p5, p6⟩
  · rw [if_pos p1, if_pos p1]; exact ⟨p5, p6, by omega⟩
  · rw [if_neg (by omega), if_neg (by omega)]; exact ⟨p5, p6, by omega⟩

theorem PW.step {j : Nat} {d : Int} (h : PW n f out rk j d) (hne : itN n out j ≠ n.source) (hp : ParOk n f out rk (itN n out j)) :
    PW n f out rk (j + 1) (if rsN n f out (itN n out j) < d then rsN n f out (itN n out j) else d) := by
  have hr := par_rd hp
  have hpos := h.pos
  refine ⟨fun i hi => ?_, all_succ h.ne hne, all_succ h.par hp, fun i hi => ?_, by split <;> omega⟩
  · by_cases hij : i ≤ j
    · exact h.rd i hij
    · obtain rfl : i = j + 1 := by omega
      exact hr.1
  · by_cases hij : i < j
    · have := h.res i hij
      split <;> omega
    · obtain rfl : i = j := by omega
      split <;> omega

theorem PW.rank {J : Nat} {d : Int} (h : PW n f out rk J d) : ∀ i j, i < j → j ≤ J → rk (itN n out j) < rk (itN n out i) := fun i j hij hj => by
  induction j with
  | zero => omega
  | succ j ih =>
    have h1 : rk (itN n out (j + 1)) < rk (itN n out j) := (par_rd (h.par j (by omega))).2.1
    by_cases hij' : i < j
    · have := ih hij' (by omega); omega
    · obtain rfl : i = j := by omega
      exact h1

/-- The state of sending: the arcs of the first j steps have been changed. -/
structure PI (n : Net) (f out : List Int) (d : Int) (j : Nat) (f1 : List Int) : Prop where
  len : f1.length = n.arcs.length
  cap : ∀ k : Nat, k < n.arcs.length → 0 ≤ at_ f1 (k : Int) ∧ at_ f1 (k : Int) ≤ (at_ n.arcs (k : Int)).cap
  used : ∀ k : Nat, k < n.arcs.length → at_ f1 (k : Int) ≠ at_ f (k : Int) → ∃ i, i < j ∧ (at_ out (itN n out i) = k ∨ at_ out (itN n out i) = -2 - k)
  net : ∀ v, netF n f1 v = netF n f v + (if v = itN n out j then d else 0) - (if v = n.sink then d else 0)

theorem PI.start (hf : IsFlow n f) (d : Int) : PI n f out d 0 f := ⟨hf.len, hf.cap, fun _ _ h => absurd rfl h, fun v => by show _ = _ + (if v = n.sink then d else 0) - _; omega⟩

theorem netF_set {k : Nat} (hk : k < n.arcs.length) {f1 : List Int} (hl : f1.length = n.arcs.length) (c v : Int) :
    netF n (f1.set k c) v = netF n f1 v + (if (at_ n.arcs (k : Int)).frm = v then c - at_ f1 (k : Int) else 0) - (if (at_ n.arcs (k : Int)).dst = v then c - at_ f1 (k : Int) else 0) := by
  have hat : ∀ j : Nat, at_ (f1.set k c) (j : Int) = if k = j then c else at_ f1 (j : Int) := fun j => at_setn f1 k j c (by omega)
  unfold netF
  rw [sumN_upd hk (g := fun k => (if (at_ n.arcs (k : Int)).frm = v then at_ f1 (k : Int) else 0) - (if (at_ n.arcs (k : Int)).dst = v then at_ f1 (k : Int) else 0)) (fun j hj hjk => by simp only [hat j, if_neg (fun e => hjk e.symm : ¬ k = j)])]
  simp only [hat k, if_true]
  split <;> split <;> omega

/-- One step. -/
theorem PI.step {J j : Nat} {d : Int} {f1 : List Int} (hw : PW n f out rk J d) (hj : j < J) (h : PI n f out d j f1) :
    (0 ≤ at_ out (itN n out j) → PI n f out d (j + 1) (f1.set (at_ out (itN n out j)).toNat (at_ f1 (at_ out (itN n out j)) + d))) ∧
    (at_ out (itN n out j) < 0 → PI n f out d (j + 1) (f1.set (-2 - at_ out (itN n out j)).toNat (at_ f1 (-2 - at_ out (itN n out j)) - d))) := by
  have hp := hw.par j hj
  have hres := hw.res j hj
  have hpos := hw.pos
  have hrank := hw.rank
  generalize hx : itN n out j = x at hp hres ⊢
  have hnext : itN n out (j + 1) = parN n out x := by show parN n out (itN n out j) = _; rw [hx]
  -- the arc of this step is as it was
  have same : ∀ k : Nat, k < n.arcs.length → (at_ out x = k ∨ at_ out x = -2 - k) → at_ f1 (k : Int) = at_ f (k : Int) := fun k hk hxk => by
    refine Classical.byContradiction fun hne => ?_
    obtain ⟨i, hi, hik⟩ := h.used k hk hne
    have hpi := hw.par i (by omega)
    have hr1 := hrank i j hi (by omega)
    have hr2 := (par_rd hp).2.1
    rw [hx] at hr1
    generalize hy : itN n out i = y at hik hpi hr1
    have : y = x ∨ y = parN n out x := by
      unfold parN
      unfold ParOk at hpi hp
      rcases hxk with e | e <;> rcases hik with e' | e' <;> rw [e] at hp ⊢ <;> rw [e'] at hpi
      · rcases hp with hp | hp <;> rcases hpi with hpi | hpi
        · exact .inl (hpi.2.2.1.symm.trans hp.2.2.1)
        all_goals (exfalso; omega)
      · rcases hp with hp | hp <;> rcases hpi with hpi | hpi
        · exfalso; omega
        · right
          rw [if_pos (by omega)]
          have := hpi.2.2.1
          rw [show (-2 - (-2 - (k : Int))) = (k : Int) from by omega] at this
          exact this.symm
        all_goals (exfalso; omega)
      · rcases hp with hp | hp <;> rcases hpi with hpi | hpi
        · exfalso; omega
        · exfalso; omega
        · right
          rw [if_neg (by omega), show (-2 - (-2 - (k : Int))) = (k : Int) from by omega]
          exact hpi.2.2.1.symm
        · exfalso; omega
      · rcases hp with hp | hp <;> rcases hpi with hpi | hpi
        · exfalso; omega
        · exfalso; omega
        · exfalso; omega
        · exact .inl (hpi.2.2.1.symm.trans hp.2.2.1)
    rcases this with rfl | rfl <;> omega
  -- what a change of an arc does
  have hset : ∀ (k : Nat) (c : Int), k < n.arcs.length → (at_ out x = k ∨ at_ out x = -2 - k) → 0 ≤ c → c ≤ (at_ n.arcs (k : Int)).cap →
      (∀ v, (if (at_ n.arcs (k : Int)).frm = v then c - at_ f1 (k : Int) else 0) - (if (at_ n.arcs (k : Int)).dst = v then c - at_ f1 (k : Int) else 0) = (if v = parN n out x then d else 0) - (if v = x then d else 0)) → PI n f out d (j + 1) (f1.set k c) := fun k c hk hxk h0 h1 hv => by
    have hat : ∀ j : Nat, at_ (f1.set k c) (j : Int) = if k = j then c else at_ f1 (j : Int) := fun j => at_setn f1 k j c (by have := h.len; omega)
    refine ⟨by rw [List.length_set]; exact h.len, fun i hi => ?_, fun i hi hne => ?_, fun v => ?_⟩
    · rw [hat i]
      by_cases hki : k = i
      · subst hki; rw [if_pos rfl]; exact ⟨h0, h1⟩
      · rw [if_neg hki]; exact h.cap i hi
    · by_cases hki : k = i
      · subst hki; exact ⟨j, by omega, by rw [hx]; exact hxk⟩
      · rw [hat i, if_neg hki] at hne
        obtain ⟨i', hi', h''⟩ := h.used i hi hne
        exact ⟨i', by omega, h''⟩
    · rw [netF_set hk h.len, h.net v, hx, hnext]
      have := hv v
      omega
  constructor
  · intro h0
    rcases hp with ⟨p1, p2, p3, p4, p5, p6⟩ | hp
    · generalize hk : (at_ out x).toNat = k
      have e : at_ out x = (k : Int) := by omega
      rw [e] at p2 p3 p4 p5 p6 ⊢
      have hs := same k (by omega) (.inl e)
      have hr : rsN n f out x = (at_ n.arcs (k : Int)).cap - at_ f (k : Int) := by unfold rsN; rw [e, if_pos (by omega)]
      have hc := h.cap k (by omega)
      refine hset k _ (by omega) (.inl e) (by omega) (by omega) fun v => ?_
      have hpn : parN n out x = (at_ n.arcs (k : Int)).frm := by unfold parN; rw [e, if_pos (by omega)]
      rw [hpn, p3]
      by_cases h1 : (at_ n.arcs (k : Int)).frm = v <;> by_cases h2 : x = v <;> simp [h1, h2, eq_comm] <;> omega
    · exfalso; omega
  · intro h0
    rcases hp with hp | ⟨p1, p2, p3, p4, p5, p6⟩
    · exfalso; omega
    · generalize hk : (-2 - at_ out x).toNat = k
      have e : -2 - at_ out x = (k : Int) := by omega
      have e' : at_ out x = -2 - (k : Int) := by omega
      rw [e] at p2 p3 p4 p5 p6 ⊢
      have hs := same k (by omega) (.inr e')
      have hr : rsN n f out x = at_ f (k : Int) := by unfold rsN; rw [if_neg (by omega), e]
      have hc := h.cap k (by omega)
      refine hset k _ (by omega) (.inr e') (by omega) (by omega) fun v => ?_
      have hpn : parN n out x = (at_ n.arcs (k : Int)).dst := by unfold parN; rw [if_neg (by omega), e]
      rw [hpn, p3]
      by_cases h1 : (at_ n.arcs (k : Int)).dst = v <;> by_cases h2 : x = v <;> simp [h1, h2, eq_comm] <;> omega

theorem PI.done (hok : n.Ok) (hf : IsFlow n f) {J : Nat} {d : Int} {f1 : List Int} (hJ : itN n out J = n.source) (h : PI n f out d J f1) : IsFlow n f1 ∧ netF n f1 n.source = netF n f n.source + d := by
  refine ⟨⟨h.len, h.cap, fun v h0 h1 hs ht => ?_⟩, ?_⟩
  · rw [h.net v, hJ, if_neg hs, if_neg ht, hf.cons v h0 h1 hs ht]; rfl
  · rw [h.net, hJ, if_pos rfl, if_neg hok.ne]; omega

theorem rsN_pos {y : Int} (h : 0 ≤ at_ out y) : rsN n f out y = (at_ n.arcs (at_ out y)).cap - at_ f (at_ out y) := by unfold rsN; rw [if_pos h]
theorem rsN_neg {y : Int} (h : ¬ 0 ≤ at_ out y) : rsN n f out y = at_ f (-2 - at_ out y) := by unfold rsN; rw [if_neg h]
theorem it_pos {j : Nat} (h : 0 ≤ at_ out (itN n out j)) : (at_ n.arcs (at_ out (itN n out j))).frm = itN n out (j + 1) := by show _ = parN n out (itN n out j); unfold parN; rw [if_pos h]
theorem it_neg {j : Nat} (h : ¬ 0 ≤ at_ out (itN n out j)) : (at_ n.arcs (-2 - at_ out (itN n out j))).dst = itN n out (j + 1) := by show _ = parN n out (itN n out j); unfold parN; rw [if_neg h]
theorem ParOk.pos {y : Int} (hp : ParOk n f out rk y) (h : 0 ≤ at_ out y) : at_ out y < n.arcs.length := by
  rcases hp with hp | hp
  · exact hp.2.1
  · exfalso; omega
theorem ParOk.neg {y : Int} (hp : ParOk n f out rk y) (h : ¬ 0 ≤ at_ out y) : 0 ≤ -2 - at_ out y ∧ -2 - at_ out y < n.arcs.length := by
  rcases hp with hp | hp
  · exfalso; omega
  · exact ⟨by omega, hp.2.1⟩
theorem at_all {p : Int → Prop} {i : Int} {m : Nat} (h : ∀ k : Nat, k < m → p (k : Int)) (h0 : 0 ≤ i) (hi : i < m) : p i := by
  have := h i.toNat (by omega)
  rwa [show ((i.toNat : Nat) : Int) = i from by omega] at this
theorem arc_ok (hok : n.Ok) {i : Int} (h0 : 0 ≤ i) (hi : i < n.arcs.length) : (0 ≤ (at_ n.arcs i).frm ∧ (at_ n.arcs i).frm < n.nodes) ∧ (0 ≤ (at_ n.arcs i).dst ∧ (at_ n.arcs i).dst < n.nodes) ∧ (at_ n.arcs i).frm ≠ (at_ n.arcs i).dst ∧ 0 ≤ (at_ n.arcs i).cap ∧ (at_ n.arcs i).cap ≤ 1099511627776 := hok.arc _ (at_mem h0 hi)
theorem cap_ok (hf : ∀ k : Nat, k < n.arcs.length → 0 ≤ at_ f (k : Int) ∧ at_ f (k : Int) ≤ (at_ n.arcs (k : Int)).cap) {i : Int} (h0 : 0 ≤ i) (hi : i < n.arcs.length) : 0 ≤ at_ f i ∧ at_ f i ≤ (at_ n.arcs i).cap := at_all (p := fun i => 0 ≤ at_ f i ∧ at_ f i ≤ (at_ n.arcs i).cap) hf h0 hi

theorem it_lt {i j : Nat} (hi : i ≤ j) (hJ : itN n out j = n.source) (h : itN n out i ≠ n.source) : i < j := by
  rcases Nat.lt_or_ge i j with h' | h'
  · exact h'
  · exfalso; apply h; rw [show i = j from by omega]; exact hJ
theorem PW.eq {i j : Nat} {d : Int} (hw : PW n f out rk j d) (hi : i ≤ j) (h : itN n out i = n.source) : i = j := by
  rcases Nat.lt_or_ge i j with h' | h'
  · exact absurd h (hw.ne i h')
  · omega
end
end Go.Sl
/- The least and the greatest side of a cut: the plain law. No Go. -/
namespace Go.Sl
set_option linter.unusedVariables false

instance (out : List Int) (z : Int) : Decidable (Rd out z) := by unfold Rd; infer_instance

/-- The nodes for which R says yes, ascending. -/
def sideL (N : Nat) (R : Int → Bool) : List Int := ((List.range N).map fun k => ((k : Nat) : Int)).filter R
theorem sideL_succ (N : Nat) (R : Int → Bool) : sideL (N + 1) R = sideL N R ++ if R (N : Int) then [(N : Int)] else [] := by
  unfold sideL
  rw [List.range_succ, List.map_append, List.filter_append]
  congr 1
  by_cases h : R (N : Int) <;> simp [h]
theorem sideL_yes {N : Nat} {R : Int → Bool} (h : R (N : Int) = true) : sideL (N + 1) R = sideL N R ++ [(N : Int)] := by rw [sideL_succ, if_pos h]
theorem sideL_no {N : Nat} {R : Int → Bool} (h : R (N : Int) = false) : sideL (N + 1) R = sideL N R := by rw [sideL_succ, h]; simp
theorem sideL_len (N : Nat) (R : Int → Bool) : (sideL N R).length ≤ N := by
  have := List.length_filter_le R ((List.range N).map fun k => ((k : Nat) : Int))
  simpa [sideL] using this
theorem mem_sideL {N : Nat} {R : Int → Bool} {z : Int} : z ∈ sideL N R ↔ (0 ≤ z ∧ z < N) ∧ R z = true := by
  unfold sideL
  rw [List.mem_filter, List.mem_map]
  constructor
  · rintro ⟨⟨k, hk, rfl⟩, h⟩
    exact ⟨⟨by omega, by have := List.mem_range.1 hk; omega⟩, h⟩
  · rintro ⟨⟨h0, h1⟩, h⟩
    exact ⟨⟨z.toNat, List.mem_range.2 (by omega), by omega⟩, h⟩
structure Least (n : Net) (f : List Int) (R : Int → Bool) : Prop where
  src : R n.source = true
  snk : R n.sink = false
  shut : Shut n f R
  least : ∀ S : Int → Bool, Shut n f S → S n.source = true → ∀ z, R z = true → S z = true

structure Great (n : Net) (f : List Int) (T : Int → Bool) : Prop where
  src : T n.source = true
  snk : T n.sink = false
  shut : Shut n f T
  great : ∀ S : Int → Bool, Shut n f S → S n.sink = false → ∀ z, 0 ≤ z → z < n.nodes → S z = true → T z = true

theorem WaySpec.least {n : Net} {f out : List Int} (hok : n.Ok) (h : WaySpec n f out) (ht : at_ out n.sink = -1) : Least n f fun z => decide (Rd out z) := by
  have hsrc := hok.src
  have hlen := h.len
  refine ⟨decide_eq_true ⟨by omega, by rw [h.src]; omega⟩, decide_eq_false fun hr => hr.2 ht, fun k hk => ⟨fun a b => ?_, fun a b => ?_⟩, fun S hS hs => ?_⟩
  · exact decide_eq_true (h.fwd k hk (of_decide_eq_true a) b)
  · exact decide_eq_true (h.bwd k hk (of_decide_eq_true a) b)
  · obtain ⟨rk, B, _, hpar⟩ := h.par
    have key : ∀ (m : Nat) (z : Int), rk z = m → Rd out z → S z = true := fun m => by
      induction m using Nat.strongRecOn with
      | _ m ih =>
        intro z hm hz
        by_cases hzs : z = n.source
        · subst hzs; exact hs
        · rcases hpar z hz hzs with ⟨p1, p2, p3, p4, p5, p6⟩ | ⟨p1, p2, p3, p4, p5, p6⟩
          · have hp := ih _ (by omega) _ rfl p5
            generalize hk : (at_ out z).toNat = k at *
            have e : at_ out z = (k : Int) := by omega
            rw [e] at p2 p3 p4 hp
            have := (hS k (by omega)).1 hp p4
            rwa [p3] at this
          · have hp := ih _ (by omega) _ rfl p5
            generalize hk : (-2 - at_ out z).toNat = k at *
            have e : -2 - at_ out z = (k : Int) := by omega
            rw [e] at p2 p3 p4 hp
            have := (hS k (by omega)).2 hp p4
            rwa [p3] at this
    exact fun z hz => key _ z rfl (of_decide_eq_true hz)

section
variable {n : Net} {f g : List Int} {R R' : Int → Bool}
theorem Least.value (hok : n.Ok) (hf : IsFlow n f) (h : Least n f R) : netF n f n.source = cutS n R := (shut_value hok hf h.src h.snk).2 h.shut
theorem Great.value (hok : n.Ok) (hf : IsFlow n f) (h : Great n f R) : netF n f n.source = cutS n R := (shut_value hok hf h.src h.snk).2 h.shut
theorem Least.max (hok : n.Ok) (hf : IsFlow n f) (h : Least n f R) (hg : IsFlow n g) : netF n g n.source ≤ netF n f n.source := by
  rw [h.value hok hf]; exact value_le hok hg R h.src h.snk
theorem Great.max (hok : n.Ok) (hf : IsFlow n f) (h : Great n f R) (hg : IsFlow n g) : netF n g n.source ≤ netF n f n.source := by
  rw [h.value hok hf]; exact value_le hok hg R h.src h.snk
end

/-- A greatest flow, its value, and the least side. -/
structure MaxF (n : Net) (f side : List Int) (val : Int) : Prop where
  flow : IsFlow n f
  val : val = netF n f n.source
  side : ∃ R, Least n f R ∧ side = sideL n.nodes.toNat R
/-- The greatest side. -/
def GreatL (n : Net) (side : List Int) : Prop := ∃ f T, IsFlow n f ∧ Great n f T ∧ side = sideL n.nodes.toNat T

theorem cut_nonneg_le {n : Net} (hok : n.Ok) (S : Int → Bool) : 0 ≤ cutS n S ∧ cutS n S ≤ 18014398509481984 := by
  have h : ∀ m : Nat, m ≤ n.arcs.length → 0 ≤ sumN m (fun k => if S (at_ n.arcs (k : Int)).frm && !S (at_ n.arcs (k : Int)).dst then (at_ n.arcs (k : Int)).cap else 0) ∧ sumN m (fun k => if S (at_ n.arcs (k : Int)).frm && !S (at_ n.arcs (k : Int)).dst then (at_ n.arcs (k : Int)).cap else 0) ≤ (m : Int) * 1099511627776 := fun m => by
    induction m with
    | zero => intro _; simp [sumN]
    | succ m ih =>
      intro hm
      have := ih (by omega)
      have := arc_at hok (k := m) (by omega)
      simp only [sumN]
      split <;> omega
  have := h n.arcs.length (Nat.le_refl _)
  have := hok.lim
  unfold cutS
  omega
theorem flow_zero (n : Net) (hok : n.Ok) : IsFlow n (List.replicate n.arcs.length (0 : Int)) ∧ netF n (List.replicate n.arcs.length (0 : Int)) n.source = 0 := by
  have h0 : ∀ k : Nat, k < n.arcs.length → at_ (List.replicate n.arcs.length (0 : Int)) (k : Int) = 0 := fun k hk => at_rep _ _ _ (by omega) (by omega)
  have hn : ∀ v, netF n (List.replicate n.arcs.length (0 : Int)) v = 0 := fun v => sumN_eq_zero _ fun k hk => by rw [h0 k hk]; simp
  exact ⟨⟨by simp, fun k hk => by rw [h0 k hk]; have := arc_at hok hk; omega, fun v _ _ _ _ => hn v⟩, hn _⟩
end Go.Sl
/- Searching back from the sink: the plain law. No Go. -/
namespace Go.Sl
set_option linter.unusedVariables false

section
variable {n : Net} {f back : List Int} {i k1 k2 : Nat}
end
end Go.Sl
/- What a check of a flow accepts: the plain law. No Go. -/
namespace Go.Sl
set_option linter.unusedVariables false


/-- The set as a test. -/
def inL (l : List Int) : Int → Bool := fun z => decide (z ∈ l)
section
variable {n : Net} {f side : List Int} {val : Int}
theorem inL_side (hok : n.Ok) (R : Int → Bool) : ∀ z, 0 ≤ z → z < n.nodes → inL (sideL n.nodes.toNat R) z = R z := fun z h0 h1 => by
  unfold inL
  rw [Bool.eq_iff_iff, decide_eq_true_iff, mem_sideL]
  exact ⟨fun h => h.2, fun h => ⟨⟨h0, by omega⟩, h⟩⟩
theorem cutS_congr (hok : n.Ok) {S T : Int → Bool} (h : ∀ z, 0 ≤ z → z < n.nodes → S z = T z) : cutS n S = cutS n T := by
  refine sumN_congr _ fun k hk => ?_
  have := arc_at hok hk
  rw [h _ (by omega) (by omega), h _ (by omega) (by omega)]
end
end Go.Sl
/- Networks with one arc more, and turned round; sets between the least and the greatest side: the plain law. No Go. -/
namespace Go.Sl
set_option linter.unusedVariables false

section
variable {n m : Net} {f g s t : List Int} {v w : Int}
theorem MaxF.cut (hok : n.Ok) (h : MaxF n f s v) : ∃ R : Int → Bool, R n.source = true ∧ R n.sink = false ∧ cutS n R = v := by
  obtain ⟨R, hR, _⟩ := h.side
  exact ⟨R, hR.src, hR.snk, by rw [h.val]; exact (hR.value hok h.flow).symm⟩
theorem MaxF.le_cut (hok : n.Ok) (h : MaxF n f s v) (S : Int → Bool) (hs : S n.source = true) (ht : S n.sink = false) : v ≤ cutS n S := by
  rw [h.val]; exact value_le hok h.flow S hs ht
def Net.push (n : Net) (x : Arc) : Net := { n with arcs := n.arcs ++ [x] }
theorem cutS_push (n : Net) (x : Arc) (S : Int → Bool) : cutS (n.push x) S = cutS n S + if S x.frm && !S x.dst then x.cap else 0 := by
  have hl : (n.push x).arcs.length = n.arcs.length + 1 := by simp [Net.push]
  unfold cutS
  rw [hl]
  simp only [sumN]
  have e : at_ (n.push x).arcs ((n.arcs.length : Nat) : Int) = x := at_last _ _
  rw [e]
  congr 1
  exact sumN_congr _ fun k hk => by
    have : at_ (n.push x).arcs (k : Int) = at_ n.arcs (k : Int) := at_append_left _ _ k hk
    rw [this]
theorem MaxF.push (hok : n.Ok) {x : Arc} (hok' : (n.push x).Ok) (hc : 0 ≤ x.cap) (h : MaxF n f s v) (h' : MaxF (n.push x) g t w) : v ≤ w ∧ w ≤ v + x.cap := by
  obtain ⟨R, h1, h2, h3⟩ := h.cut hok
  obtain ⟨R', h1', h2', h3'⟩ := h'.cut hok'
  have a := h.le_cut hok R' h1' h2'
  have b := h'.le_cut hok' R h1 h2
  rw [cutS_push] at h3' b
  revert h3' b
  split <;> split <;> omega
theorem Net.Ok.push (h : n.Ok) (hl : n.arcs.length < 16384) {x : Arc} (hx : (0 ≤ x.frm ∧ x.frm < n.nodes) ∧ (0 ≤ x.dst ∧ x.dst < n.nodes) ∧ x.frm ≠ x.dst ∧ 0 ≤ x.cap ∧ x.cap ≤ 1099511627776) : (n.push x).Ok := ⟨by have := h.lim; simp [Net.push]; omega, h.two, h.src, h.snk, h.ne, fun a ha => by
  rcases List.mem_append.1 ha with ha | ha
  · exact h.arc a ha
  · rw [List.mem_singleton.1 ha]; exact hx⟩

/-- The least and the greatest side have what the value is. -/
theorem MaxF.side_cut (hok : n.Ok) (h : MaxF n f s v) : cutS n (inL s) = v := by
  obtain ⟨R, hR, rfl⟩ := h.side
  rw [cutS_congr hok (inL_side hok R), h.val]; exact (hR.value hok h.flow).symm
/-- A set with the source and without the sink has at least the value, and lies between the two sides if it has just the value. -/
theorem MaxF.between (hok : n.Ok) (h : MaxF n f s v) (hg : GreatL n t) {x : List Int} (hv : ValidP x n.nodes) (hs : n.source ∈ x) (ht : n.sink ∉ x) :
    v ≤ cutS n (inL x) ∧ (cutS n (inL x) = v → (∀ y ∈ s, y ∈ x) ∧ ∀ y ∈ x, y ∈ t) := by
  have hs' : inL x n.source = true := decide_eq_true hs
  have ht' : inL x n.sink = false := decide_eq_false ht
  refine ⟨h.le_cut hok _ hs' ht', fun e => ?_⟩
  obtain ⟨R, hR, rfl⟩ := h.side
  have hsh : Shut n f (inL x) := (shut_value hok h.flow hs' ht').1 (by rw [e]; exact h.val.symm)
  refine ⟨fun y hy => ?_, fun y hy => ?_⟩
  · exact of_decide_eq_true (hR.least _ hsh hs' y (mem_sideL.1 hy).2)
  · obtain ⟨g, T, hg, hT, rfl⟩ := hg
    have e2 : netF n g n.source = netF n f n.source := Int.le_antisymm (hR.max hok h.flow hg) (hT.max hok hg h.flow)
    have hsh' : Shut n g (inL x) := (shut_value hok hg hs' ht').1 (by rw [e, e2]; exact h.val.symm)
    obtain ⟨j, hj, rfl⟩ := mem_at hy
    have hb := (hv j hj).1
    exact mem_sideL.2 ⟨⟨hb.1, by omega⟩, hT.great _ hsh' ht' _ hb.1 hb.2 (decide_eq_true hy)⟩
end
end Go.Sl
namespace Go.Sl
open Go.Proofs
set_option linter.unusedVariables false
set_option linter.unusedSimpArgs false
set_option maxRecDepth 4000
/-- What a made network is. -/
structure Net.Made (n : Net) : Prop where
  lim : n.nodes ≤ 7 ∧ n.arcs.length ≤ 15
  two : 2 ≤ n.nodes
  src : 0 ≤ n.source ∧ n.source < n.nodes
  snk : 0 ≤ n.sink ∧ n.sink < n.nodes
  ne : n.source ≠ n.sink
  arc : ∀ a ∈ n.arcs, (0 ≤ a.frm ∧ a.frm < n.nodes) ∧ (0 ≤ a.dst ∧ a.dst < n.nodes) ∧ a.frm ≠ a.dst ∧ 0 ≤ a.cap ∧ a.cap ≤ 7
theorem Net.Made.ok {n : Net} (h : n.Made) : n.Ok := ⟨⟨by have := h.lim; omega, by have := h.lim; omega⟩, h.two, h.src, h.snk, h.ne, fun a ha => by have := h.arc a ha; omega⟩

end Go.Sl
