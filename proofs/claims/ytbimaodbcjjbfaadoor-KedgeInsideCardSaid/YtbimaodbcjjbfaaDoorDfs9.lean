/- A part of the proofs of statements of this seat: contracts of functions, and the plain laws that they lean on. No conditions. -/
import Derived.Test.YtbimaodbcjjbfaaDoorTab
import Derived.Test.YtbimaodbcjjbfaaDoorRunsD5
import Derived.Test.YtbimaodbcjjbfaaDoorLib
/- The search for blocks by depth first as functions: states, steps, what stays true, a measure. No Go. No conditions. -/
namespace Go.Sl
set_option linter.unusedVariables false
set_option linter.unusedSimpArgs false
set_option linter.unusedSectionVars false
/-- A node on the way, where it came from, what is left to be looked at. -/
structure Vis where
  node : Int
  src : Int
  left : BitVec 64
deriving DecidableEq
instance : Inhabited Vis := ⟨⟨0, 0, 0#64⟩⟩
instance : Enc Vis := ⟨fun t => [I64 t.node, I64 t.src, U64 t.left], 3, by omega, fun _ => rfl, fun t u hu => by
  simp only [List.mem_cons, List.not_mem_nil, or_false] at hu
  rcases hu with rfl | rfl | rfl <;> rfl⟩
structure Srch where
  num : List Int
  low : List Int
  way : List Vis
  edges : List Pt
  out : List (List Pt)
  cd : Int
deriving DecidableEq
instance : Inhabited Srch := ⟨⟨[], [], [], [], [], 0⟩⟩
/-- Sorting that keeps what is there twice. -/
def insD (x : Pt) : List Pt → List Pt
  | [] => [x]
  | y :: l => if Pt.lt y x then y :: insD x l else x :: y :: l
def sortD (l : List Pt) : List Pt := l.foldr insD []
theorem insD_perm (x : Pt) : ∀ l, (insD x l).Perm (x :: l)
  | [] => List.Perm.refl _
  | y :: l => by
    unfold insD
    split
    · exact ((insD_perm x l).cons y).trans (List.Perm.swap x y l)
    · exact List.Perm.refl _
theorem sortD_perm : ∀ l, (sortD l).Perm l
  | [] => List.Perm.refl _
  | x :: l => (insD_perm x (sortD l)).trans ((sortD_perm l).cons x)
def normE (e : Pt) : Pt := edgeP e.u e.v
def Srch.enter (rows : List (BitVec 64)) (S : Srch) (v f : Int) : Srch := { S with num := S.num.set v.toNat (S.cd + 1), low := S.low.set v.toNat (S.cd + 1), way := S.way ++ [⟨v, f, at_ rows v⟩], cd := S.cd + 1 }
def Srch.pop (S : Srch) (e : Pt) : Srch := { S with edges := S.edges.take (S.edges.idxOf e), out := S.out ++ [sortD ((S.edges.drop (S.edges.idxOf e)).map normE)] }
def minI (a b : Int) : Int := if b < a then b else a
def stepT (rows : List (BitVec 64)) (S : Srch) (ini : List Vis) (t : Vis) : Srch :=
  if t.left ≠ 0#64 then
    if tzB t.left = t.src then { S with way := ini ++ [{ t with left := t.left &&& (t.left - 1#64) }] }
    else if at_ S.num (tzB t.left) = 0 then Srch.enter rows { S with way := ini ++ [{ t with left := t.left &&& (t.left - 1#64) }], edges := S.edges ++ [⟨t.node, tzB t.left⟩] } (tzB t.left) t.node
    else if at_ S.num (tzB t.left) < at_ S.num t.node then { S with way := ini ++ [{ t with left := t.left &&& (t.left - 1#64) }], edges := S.edges ++ [⟨t.node, tzB t.left⟩], low := S.low.set t.node.toNat (minI (at_ S.low t.node) (at_ S.num (tzB t.left))) }
    else { S with way := ini ++ [{ t with left := t.left &&& (t.left - 1#64) }] }
  else if t.src < 0 then { S with way := ini }
  else if at_ S.num t.src ≤ at_ (S.low.set t.src.toNat (minI (at_ S.low t.src) (at_ S.low t.node))) t.node then Srch.pop { S with way := ini, low := S.low.set t.src.toNat (minI (at_ S.low t.src) (at_ S.low t.node)) } ⟨t.src, t.node⟩
  else { S with way := ini, low := S.low.set t.src.toNat (minI (at_ S.low t.src) (at_ S.low t.node)) }
def Srch.top (S : Srch) : Vis := at_ S.way ((S.way.length : Int) - 1)
def Srch.ini (S : Srch) : List Vis := S.way.take (S.way.length - 1)
def stepF (rows : List (BitVec 64)) (S : Srch) : Srch := stepT rows S S.ini S.top
def runF (rows : List (BitVec 64)) : Nat → Srch → Srch
  | 0, S => S
  | n + 1, S => if S.way = [] then S else runF rows n (stepF rows S)
theorem runF_succ (rows : List (BitVec 64)) (n : Nat) (S : Srch) : runF rows (n + 1) S = if S.way = [] then S else runF rows n (stepF rows S) := rfl
theorem runF_done {rows : List (BitVec 64)} {S : Srch} (h : S.way = []) : ∀ n, runF rows n S = S
  | 0 => rfl
  | n + 1 => by unfold runF; rw [if_pos h]
theorem runF_add {rows : List (BitVec 64)} : ∀ (n m : Nat) (S : Srch), runF rows (n + m) S = runF rows m (runF rows n S)
  | 0, m, S => by rw [Nat.zero_add]; rfl
  | n + 1, m, S => by
    by_cases h : S.way = []
    · rw [runF_done h, runF_done h, runF_done h]
    · rw [show n + 1 + m = (n + m) + 1 by omega, runF_succ, runF_succ, if_neg h, if_neg h]
      exact runF_add n m _
/-- Where the search ends. -/
def EndsAt (rows : List (BitVec 64)) (S T : Srch) : Prop := ∃ n, runF rows n S = T ∧ T.way = []
theorem EndsAt.uniq {rows : List (BitVec 64)} {S T U : Srch} (h : EndsAt rows S T) (h' : EndsAt rows S U) : T = U := by
  obtain ⟨n, h1, h2⟩ := h
  obtain ⟨m, h3, h4⟩ := h'
  have e1 := runF_add (rows := rows) n m S
  have e2 := runF_add (rows := rows) m n S
  rw [h1, runF_done h2] at e1
  rw [h3, runF_done h4, Nat.add_comm] at e2
  rw [← e1, e2]
theorem EndsAt.step {rows : List (BitVec 64)} {S T : Srch} (hn : S.way ≠ []) (h : EndsAt rows (stepF rows S) T) : EndsAt rows S T := by
  obtain ⟨n, h1, h2⟩ := h
  exact ⟨n + 1, by unfold runF; rw [if_neg hn]; exact h1, h2⟩
/-- The way that has been gone. -/
def Gone (rows : List (BitVec 64)) (S U : Srch) : Prop := ∃ n, runF rows n S = U
theorem Gone.start {rows : List (BitVec 64)} {S : Srch} : Gone rows S S := ⟨0, rfl⟩
theorem Gone.step {rows : List (BitVec 64)} {S U : Srch} (h : Gone rows S U) (hn : U.way ≠ []) : Gone rows S (stepF rows U) := by
  obtain ⟨n, h1⟩ := h
  refine ⟨n + 1, ?_⟩
  rw [runF_add, h1]
  unfold runF; rw [if_neg hn]; rfl
theorem Gone.ends {rows : List (BitVec 64)} {S T : Srch} (h : Gone rows S T) (hn : T.way = []) : EndsAt rows S T := by
  obtain ⟨n, h1⟩ := h
  exact ⟨n, h1, hn⟩
/-- How many nodes have no number yet. -/
def unv (l : List Int) : Nat := (l.filter fun x => decide (x = 0)).length
theorem unv_set : ∀ (l : List Int) (k : Nat) (x : Int), k < l.length → l.getD k default = 0 → x ≠ 0 → unv (l.set k x) + 1 = unv l
  | [], _, _, h, _, _ => by simp at h
  | y :: l, 0, x, _, h0, hx => by
    have hy : y = 0 := by simpa using h0
    simp [unv, hy, hx]
  | y :: l, k + 1, x, h, h0, hx => by
    have ih := unv_set l k x (by simpa using h) (by simpa using h0) hx
    unfold unv at *
    rw [List.set_cons_succ]
    by_cases hy : y = 0
    · simp only [List.filter_cons, hy, decide_true, if_true, List.length_cons]; omega
    · simp only [List.filter_cons, hy, decide_false, if_neg Bool.false_ne_true]; exact ih
def bitsN (w : List Vis) : Nat := (w.map fun t => (listB t.left).length + 1).sum
def mea (S : Srch) : Nat := 66 * unv S.num + bitsN S.way
theorem bitsN_app (a b : List Vis) : bitsN (a ++ b) = bitsN a + bitsN b := by unfold bitsN; rw [List.map_append, List.sum_append]
theorem bitsN_one (t : Vis) : bitsN [t] = (listB t.left).length + 1 := by simp [bitsN]
/-- What stays true. -/
structure DfsOk (rows : List (BitVec 64)) (S : Srch) : Prop where
  n64 : rows.length ≤ 64
  bits : ∀ (v : Int) (k : Nat), 0 ≤ v → v < rows.length → (at_ rows v).getLsbD k = true → k < rows.length
  nl : S.num.length = rows.length
  ll : S.low.length = rows.length
  cd0 : 0 ≤ S.cd
  cnt : S.cd.toNat + unv S.num = rows.length
  way : ∀ t ∈ S.way, (0 ≤ t.node ∧ t.node < rows.length) ∧ (t.src < rows.length) ∧ (∀ k, t.left.getLsbD k = true → k < rows.length) ∧ at_ S.num t.node ≠ 0
  ed : ∀ e ∈ S.edges, at_ S.num e.u ≠ 0 ∧ at_ S.num e.v ≠ 0 ∧ 0 ≤ e.v
  tree : ∀ t ts, S.way = t :: ts → t.src = -1 ∧ (∀ s ∈ ts, 0 ≤ s.src ∧ (⟨s.src, s.node⟩ : Pt) ∈ S.edges) ∧ (ts.map fun s => S.edges.idxOf (⟨s.src, s.node⟩ : Pt)).Pairwise (· < ·)
theorem Srch.way_eq {S : Srch} (h : S.way ≠ []) : S.way = S.ini ++ [S.top] := by
  unfold Srch.ini Srch.top
  have hl : 0 < S.way.length := List.length_pos_iff.2 h
  have e : S.way.length = (S.way.length - 1) + 1 := by omega
  conv => lhs; rw [← List.take_length (l := S.way), e]
  rw [take_at S.way (S.way.length - 1) (by omega), show ((S.way.length - 1 : Nat) : Int) = (S.way.length : Int) - 1 by omega]
theorem at_set_ne {l : List Int} {k : Nat} {x : Int} (i : Int) (hx : x ≠ 0) (h : at_ l i ≠ 0) : at_ (l.set k x) i ≠ 0 := by
  unfold at_ at *
  rw [List.getD_eq_getElem?_getD, List.getElem?_set]
  rw [List.getD_eq_getElem?_getD] at h
  split
  · split
    · simpa using hx
    · rename_i h1 h2
      rw [← h1, List.getElem?_eq_none (by omega)] at h
      exact h
  · exact h
end Go.Sl
/- The search for blocks: each step keeps what is true, and lowers the measure. No Go. No conditions. -/
namespace Go.Sl
set_option linter.unusedVariables false
set_option linter.unusedSimpArgs false
set_option linter.unusedSectionVars false
theorem idxOf_l {l m : List Pt} {e : Pt} (h : e ∈ l) : (l ++ m).idxOf e = l.idxOf e := by rw [List.idxOf_append, if_pos h]
theorem idxOf_r {l : List Pt} {e : Pt} (h : e ∉ l) : (l ++ [e]).idxOf e = l.length := by rw [List.idxOf_append, if_neg h]; simp
theorem less_bits {m : BitVec 64} {k : Nat} (h : (m &&& (m - 1#64)).getLsbD k = true) : m.getLsbD k = true := by
  rw [BitVec.getLsbD_and, Bool.and_eq_true] at h; exact h.1
theorem idxOf_take {l : List Pt} {e : Pt} {k : Nat} (h : l.idxOf e < k) (he : e ∈ l) : e ∈ l.take k ∧ (l.take k).idxOf e = l.idxOf e := by
  have hl : l.idxOf e < l.length := List.idxOf_lt_length_of_mem he
  have hm : e ∈ l.take k := by
    have h1 : (l.take k)[l.idxOf e]'(by rw [List.length_take]; omega) = e := by rw [List.getElem_take]; exact List.getElem_idxOf hl
    exact h1 ▸ List.getElem_mem _
  refine ⟨hm, ?_⟩
  have e2 := idxOf_l (m := l.drop k) hm
  rw [List.take_append_drop] at e2
  exact e2.symm
/-- A node is entered. -/
theorem DfsOk.enter {rows : List (BitVec 64)} {S : Srch} (h : DfsOk rows S) {v f : Int} (hv : 0 ≤ v ∧ v < rows.length) (h0 : at_ S.num v = 0) (hf : f < rows.length)
    (hs : (S.way = [] ∧ f = -1) ∨ (S.way ≠ [] ∧ 0 ≤ f ∧ (⟨f, v⟩ : Pt) ∈ S.edges ∧ ∀ t ts, S.way = t :: ts → ∀ s ∈ ts, S.edges.idxOf (⟨s.src, s.node⟩ : Pt) < S.edges.idxOf (⟨f, v⟩ : Pt)))
    (hed : ∀ e ∈ S.edges, at_ (S.num.set v.toNat (S.cd + 1)) e.u ≠ 0 ∧ at_ (S.num.set v.toNat (S.cd + 1)) e.v ≠ 0 ∧ 0 ≤ e.v) : DfsOk rows (S.enter rows v f) := by
  have hc := h.cd0
  have hk : v.toNat < S.num.length := by rw [h.nl]; omega
  have hun := unv_set S.num v.toNat (S.cd + 1) hk (by have := h0; unfold at_ at this; exact this) (by omega)
  have hcnt := h.cnt
  refine ⟨h.n64, h.bits, by simp [Srch.enter, h.nl], by simp [Srch.enter, h.ll], by simp only [Srch.enter]; omega, by simp only [Srch.enter]; omega, fun t ht => ?_, hed, fun t ts ht => ?_⟩
  · rcases List.mem_append.1 ht with h1 | h1
    · obtain ⟨a, b, c, d⟩ := h.way t h1
      exact ⟨a, b, c, at_set_ne _ (by omega) d⟩
    · obtain rfl := List.mem_singleton.1 h1
      refine ⟨hv, hf, fun k hkk => h.bits v k hv.1 hv.2 hkk, ?_⟩
      show at_ (S.num.set v.toNat (S.cd + 1)) v ≠ 0
      rw [at_set _ v v _ hv.1 hv.1 (by rw [h.nl]; exact hv.2), if_pos rfl]; omega
  · rcases hs with ⟨hw, rfl⟩ | ⟨hw, hf0, hm, hlt⟩
    · have e1 : S.way ++ [(⟨v, -1, at_ rows v⟩ : Vis)] = t :: ts := ht
      rw [hw] at e1
      obtain ⟨rfl, rfl⟩ := List.cons.inj e1
      exact ⟨rfl, fun s hs => absurd hs List.not_mem_nil, List.Pairwise.nil⟩
    · obtain ⟨t', ts', hw'⟩ := List.exists_cons_of_ne_nil hw
      obtain ⟨g1, g2, g3⟩ := h.tree t' ts' hw'
      have e1 : S.way ++ [(⟨v, f, at_ rows v⟩ : Vis)] = t :: ts := ht
      rw [hw', List.cons_append] at e1
      obtain ⟨rfl, rfl⟩ := List.cons.inj e1
      refine ⟨g1, fun s hs => ?_, ?_⟩
      · rcases List.mem_append.1 hs with h1 | h1
        · exact g2 s h1
        · obtain rfl := List.mem_singleton.1 h1; exact ⟨hf0, hm⟩
      · rw [List.map_append, List.pairwise_append]
        refine ⟨g3, by simp, fun a ha b hb => ?_⟩
        obtain ⟨s, hs, rfl⟩ := List.mem_map.1 ha
        simp only [List.map_cons, List.map_nil, List.mem_singleton] at hb
        subst hb
        exact hlt t' ts' hw' s hs
/-- A bit has been looked at. -/
theorem DfsOk.look {rows : List (BitVec 64)} {S : Srch} (h : DfsOk rows S) {ini : List Vis} {t : Vis} (hw : S.way = ini ++ [t]) : DfsOk rows { S with way := ini ++ [{ t with left := t.left &&& (t.left - 1#64) }] } := by
  refine ⟨h.n64, h.bits, h.nl, h.ll, h.cd0, h.cnt, fun s hs => ?_, h.ed, fun a tl ha => ?_⟩
  · rcases List.mem_append.1 hs with h1 | h1
    · exact h.way s (by rw [hw]; exact List.mem_append_left _ h1)
    · obtain rfl := List.mem_singleton.1 h1
      obtain ⟨a, b, c, d⟩ := h.way t (by rw [hw]; exact List.mem_append_right _ List.mem_cons_self)
      exact ⟨a, b, fun k hk => c k (less_bits hk), d⟩
  · cases ini with
    | nil =>
      obtain ⟨rfl, rfl⟩ := List.cons.inj (show [({ t with left := t.left &&& (t.left - 1#64) } : Vis)] = a :: tl from ha)
      obtain ⟨g1, g2, g3⟩ := h.tree t [] (by rw [hw]; rfl)
      exact ⟨g1, fun s hs => absurd hs List.not_mem_nil, List.Pairwise.nil⟩
    | cons x xs =>
      obtain ⟨rfl, rfl⟩ := List.cons.inj (show x :: (xs ++ [({ t with left := t.left &&& (t.left - 1#64) } : Vis)]) = a :: tl from ha)
      obtain ⟨g1, g2, g3⟩ := h.tree x (xs ++ [t]) (by rw [hw]; rfl)
      refine ⟨g1, fun s hs => ?_, by simpa using g3⟩
      rcases List.mem_append.1 hs with h1 | h1
      · exact g2 s (List.mem_append_left _ h1)
      · obtain rfl := List.mem_singleton.1 h1; exact g2 t (List.mem_append_right _ List.mem_cons_self)
/-- An edge more. -/
theorem DfsOk.push {rows : List (BitVec 64)} {S : Srch} (h : DfsOk rows S) {e : Pt} (he : at_ S.num e.u ≠ 0 ∧ at_ S.num e.v ≠ 0 ∧ 0 ≤ e.v) : DfsOk rows { S with edges := S.edges ++ [e] } := by
  refine ⟨h.n64, h.bits, h.nl, h.ll, h.cd0, h.cnt, h.way, fun x hx => ?_, fun a tl ha => ?_⟩
  · rcases List.mem_append.1 hx with h1 | h1
    · exact h.ed x h1
    · rw [List.mem_singleton.1 h1]; exact he
  · obtain ⟨g1, g2, g3⟩ := h.tree a tl ha
    refine ⟨g1, fun s hs => ⟨(g2 s hs).1, List.mem_append_left _ (g2 s hs).2⟩, ?_⟩
    have e1 : (tl.map fun s => (S.edges ++ [e]).idxOf (⟨s.src, s.node⟩ : Pt)) = tl.map fun s => S.edges.idxOf (⟨s.src, s.node⟩ : Pt) := List.map_congr_left fun s hs => idxOf_l (g2 s hs).2
    show (tl.map fun s => (S.edges ++ [e]).idxOf (⟨s.src, s.node⟩ : Pt)).Pairwise (· < ·)
    rw [e1]; exact g3
theorem DfsOk.low {rows : List (BitVec 64)} {S : Srch} (h : DfsOk rows S) {l : List Int} (hl : l.length = rows.length) : DfsOk rows { S with low := l } :=
  ⟨h.n64, h.bits, h.nl, hl, h.cd0, h.cnt, h.way, h.ed, h.tree⟩
/-- The last node is left. -/
theorem DfsOk.leave {rows : List (BitVec 64)} {S : Srch} (h : DfsOk rows S) {ini : List Vis} {t : Vis} (hw : S.way = ini ++ [t]) : DfsOk rows { S with way := ini } := by
  refine ⟨h.n64, h.bits, h.nl, h.ll, h.cd0, h.cnt, fun s hs => h.way s (by rw [hw]; exact List.mem_append_left _ hs), h.ed, fun a tl ha => ?_⟩
  obtain ⟨g1, g2, g3⟩ := h.tree a (tl ++ [t]) (by rw [hw, show ini = a :: tl from ha]; rfl)
  rw [List.map_append, List.pairwise_append] at g3
  exact ⟨g1, fun s hs => g2 s (List.mem_append_left _ hs), g3.1⟩
theorem DfsOk.pop {rows : List (BitVec 64)} {S : Srch} (h : DfsOk rows S) {ini : List Vis} {t : Vis} (hw : S.way = ini ++ [t]) (h0 : 0 ≤ t.src) : DfsOk rows (Srch.pop { S with way := ini } ⟨t.src, t.node⟩) := by
  have hl := h.leave hw
  refine ⟨h.n64, h.bits, h.nl, h.ll, h.cd0, h.cnt, hl.way, fun x hx => h.ed x (List.mem_of_mem_take hx), fun a tl ha => ?_⟩
  obtain ⟨g1, g2, g3⟩ := h.tree a (tl ++ [t]) (by rw [hw, show ini = a :: tl from ha]; rfl)
  rw [List.map_append, List.pairwise_append] at g3
  have hlt : ∀ s ∈ tl, S.edges.idxOf (⟨s.src, s.node⟩ : Pt) < S.edges.idxOf (⟨t.src, t.node⟩ : Pt) := fun s hs => g3.2.2 _ (List.mem_map_of_mem hs) _ (List.mem_map_of_mem List.mem_cons_self)
  refine ⟨g1, fun s hs => ⟨(g2 s (List.mem_append_left _ hs)).1, (idxOf_take (hlt s hs) (g2 s (List.mem_append_left _ hs)).2).1⟩, ?_⟩
  have e1 : (tl.map fun s => (S.edges.take (S.edges.idxOf (⟨t.src, t.node⟩ : Pt))).idxOf (⟨s.src, s.node⟩ : Pt)) = tl.map fun s => S.edges.idxOf (⟨s.src, s.node⟩ : Pt) :=
    List.map_congr_left fun s hs => (idxOf_take (hlt s hs) (g2 s (List.mem_append_left _ hs)).2).2
  show (tl.map fun s => (S.edges.take (S.edges.idxOf (⟨t.src, t.node⟩ : Pt))).idxOf (⟨s.src, s.node⟩ : Pt)).Pairwise (· < ·)
  rw [e1]; exact g3.1
theorem DfsOk.bit {rows : List (BitVec 64)} {S : Srch} (h : DfsOk rows S) {t : Vis} (ht : t ∈ S.way) (hl : t.left ≠ 0#64) : 0 ≤ tzB t.left ∧ tzB t.left < rows.length := by
  have h1 := tzB_range hl
  have h2 := (h.way t ht).2.2.1 _ h1.2.2
  exact ⟨h1.1, by omega⟩
/-- One step: what is true stays true; the measure falls. -/
theorem DfsOk.stepT {rows : List (BitVec 64)} {S : Srch} (h : DfsOk rows S) {ini : List Vis} {t : Vis} (hw : S.way = ini ++ [t]) : DfsOk rows (stepT rows S ini t) ∧ mea (stepT rows S ini t) < mea S := by
  have ht : t ∈ S.way := by rw [hw]; exact List.mem_append_right _ List.mem_cons_self
  obtain ⟨w1, w2, w3, w4⟩ := h.way t ht
  have hm : mea S = 66 * unv S.num + (bitsN ini + ((listB t.left).length + 1)) := by unfold mea; rw [hw, bitsN_app, bitsN_one]
  unfold Sl.stepT
  by_cases hl : t.left ≠ 0#64
  · rw [if_pos hl]
    have hb := h.bit ht hl
    have hls := listB_less hl
    have hlook := h.look hw
    by_cases c1 : tzB t.left = t.src
    · rw [if_pos c1]
      refine ⟨hlook, ?_⟩
      unfold mea
      simp only [bitsN_app, bitsN_one]
      unfold mea at hm
      omega
    rw [if_neg c1]
    by_cases c2 : at_ S.num (tzB t.left) = 0
    · rw [if_pos c2]
      have hcd := h.cd0
      have hset : ∀ i, at_ S.num i ≠ 0 → at_ (S.num.set (tzB t.left).toNat (S.cd + 1)) i ≠ 0 := fun i => at_set_ne i (by omega)
      have hself : at_ (S.num.set (tzB t.left).toNat (S.cd + 1)) (tzB t.left) ≠ 0 := by rw [at_set _ _ _ _ hb.1 hb.1 (by rw [h.nl]; exact hb.2), if_pos rfl]; omega
      have hnew : (⟨t.node, tzB t.left⟩ : Pt) ∉ S.edges := fun hm => (h.ed _ hm).2.1 c2
      have hok1 : DfsOk rows { S with way := ini ++ [{ t with left := t.left &&& (t.left - 1#64) }] } := hlook
      refine ⟨?_, ?_⟩
      · -- entered: by the parts
        have key : DfsOk rows (Srch.enter rows { S with way := ini ++ [{ t with left := t.left &&& (t.left - 1#64) }], edges := S.edges ++ [⟨t.node, tzB t.left⟩] } (tzB t.left) t.node) := by
          have hun := unv_set S.num (tzB t.left).toNat (S.cd + 1) (by rw [h.nl]; omega) (by have := c2; unfold at_ at this; exact this) (by omega)
          have hcnt := h.cnt
          refine ⟨h.n64, h.bits, by simp [Srch.enter, h.nl], by simp [Srch.enter, h.ll], by simp only [Srch.enter]; omega, by simp only [Srch.enter]; omega, fun s hs => ?_, fun e he => ?_, fun a tl ha => ?_⟩
          · rcases List.mem_append.1 hs with h1 | h1
            · obtain ⟨a, b, c, d⟩ := hok1.way s h1
              exact ⟨a, b, c, hset _ d⟩
            · obtain rfl := List.mem_singleton.1 h1
              exact ⟨hb, w1.2, fun k hk => h.bits _ k hb.1 hb.2 hk, hself⟩
          · rcases List.mem_append.1 he with h1 | h1
            · exact ⟨hset _ (h.ed e h1).1, hset _ (h.ed e h1).2.1, (h.ed e h1).2.2⟩
            · obtain rfl := List.mem_singleton.1 h1
              exact ⟨hset _ w4, hself, hb.1⟩
          · have hne : ini ++ [({ t with left := t.left &&& (t.left - 1#64) } : Vis)] ≠ [] := by simp
            obtain ⟨t', ts', hw'⟩ := List.exists_cons_of_ne_nil hne
            obtain ⟨g1, g2, g3⟩ := hok1.tree t' ts' hw'
            have e1 : (ini ++ [({ t with left := t.left &&& (t.left - 1#64) } : Vis)]) ++ [(⟨tzB t.left, t.node, at_ rows (tzB t.left)⟩ : Vis)] = a :: tl := ha
            rw [hw', List.cons_append] at e1
            obtain ⟨rfl, rfl⟩ := List.cons.inj e1
            have hidx : ∀ s ∈ ts', (S.edges ++ [(⟨t.node, tzB t.left⟩ : Pt)]).idxOf (⟨s.src, s.node⟩ : Pt) = S.edges.idxOf (⟨s.src, s.node⟩ : Pt) := fun s hs => idxOf_l (g2 s hs).2
            refine ⟨g1, fun s hs => ?_, ?_⟩
            · rcases List.mem_append.1 hs with h1 | h1
              · exact ⟨(g2 s h1).1, List.mem_append_left _ (g2 s h1).2⟩
              · obtain rfl := List.mem_singleton.1 h1
                exact ⟨w1.1, List.mem_append_right _ List.mem_cons_self⟩
            · show ((ts' ++ [(⟨tzB t.left, t.node, at_ rows (tzB t.left)⟩ : Vis)]).map fun s => (S.edges ++ [(⟨t.node, tzB t.left⟩ : Pt)]).idxOf (⟨s.src, s.node⟩ : Pt)).Pairwise (· < ·)
              rw [List.map_append, List.pairwise_append]
              refine ⟨?_, by simp, fun a ha b hb' => ?_⟩
              · rw [List.map_congr_left hidx]; exact g3
              · obtain ⟨s, hs, rfl⟩ := List.mem_map.1 ha
                simp only [List.map_cons, List.map_nil, List.mem_singleton] at hb'
                subst hb'
                show (S.edges ++ [(⟨t.node, tzB t.left⟩ : Pt)]).idxOf (⟨s.src, s.node⟩ : Pt) < _
                rw [hidx s hs, idxOf_r hnew]
                have := List.idxOf_lt_length_of_mem (g2 s hs).2
                omega
        exact key
      · have hun := unv_set S.num (tzB t.left).toNat (S.cd + 1) (by rw [h.nl]; omega) (by have := c2; unfold at_ at this; exact this) (by omega)
        have h64 := listB_len (at_ rows (tzB t.left))
        unfold mea
        simp only [Srch.enter, bitsN_app, bitsN_one]
        unfold mea at hm
        omega
    rw [if_neg c2]
    by_cases c3 : at_ S.num (tzB t.left) < at_ S.num t.node
    · rw [if_pos c3]
      refine ⟨?_, ?_⟩
      · exact DfsOk.low (S := { S with way := ini ++ [{ t with left := t.left &&& (t.left - 1#64) }], edges := S.edges ++ [⟨t.node, tzB t.left⟩] }) (hlook.push (e := ⟨t.node, tzB t.left⟩) ⟨w4, c2, hb.1⟩) (by rw [List.length_set]; exact h.ll)
      · unfold mea
        simp only [bitsN_app, bitsN_one]
        unfold mea at hm
        omega
    · rw [if_neg c3]
      refine ⟨hlook, ?_⟩
      unfold mea
      simp only [bitsN_app, bitsN_one]
      unfold mea at hm
      omega
  · rw [if_neg hl]
    have hz : mea { S with way := ini } < mea S := by
      unfold mea at hm ⊢
      simp only
      omega
    by_cases c1 : t.src < 0
    · rw [if_pos c1]; exact ⟨h.leave hw, hz⟩
    rw [if_neg c1]
    have hlow : (S.low.set t.src.toNat (minI (at_ S.low t.src) (at_ S.low t.node))).length = rows.length := by rw [List.length_set]; exact h.ll
    split
    · exact ⟨DfsOk.pop (S := { S with low := S.low.set t.src.toNat (minI (at_ S.low t.src) (at_ S.low t.node)) }) (h.low hlow) hw (by omega), hz⟩
    · exact ⟨DfsOk.low (S := { S with way := ini }) (h.leave hw) hlow, hz⟩
theorem DfsOk.step {rows : List (BitVec 64)} {S : Srch} (h : DfsOk rows S) (hn : S.way ≠ []) : DfsOk rows (stepF rows S) ∧ mea (stepF rows S) < mea S := h.stepT (Srch.way_eq hn)
end Go.Sl
/- The search for blocks: bounds, its start and its end. No Go. No conditions. -/
namespace Go.Sl
set_option linter.unusedVariables false
set_option linter.unusedSimpArgs false
set_option linter.unusedSectionVars false
theorem DfsOk.last {rows : List (BitVec 64)} {S : Srch} (h : DfsOk rows S) {ini : List Vis} {t : Vis} (hw : S.way = ini ++ [t]) (h0 : t.src < 0) : ini = [] := by
  cases ini with
  | nil => rfl
  | cons a tl =>
    have := ((h.tree a (tl ++ [t]) (by rw [hw]; rfl)).2.1 t (List.mem_append_right _ List.mem_cons_self)).1
    omega
theorem DfsOk.more {rows : List (BitVec 64)} {S : Srch} (h : DfsOk rows S) {ini : List Vis} {t : Vis} (hw : S.way = ini ++ [t]) (h0 : ¬ t.src < 0) : ini ≠ [] := by
  rintro rfl
  have := (h.tree t [] (by rw [hw]; rfl)).1
  omega
theorem DfsOk.start {rows : List (BitVec 64)} {S : Srch} (h : DfsOk rows S) (hw : S.way = []) {v : Int} (hv : 0 ≤ v ∧ v < rows.length) (h0 : at_ S.num v = 0) : DfsOk rows (S.enter rows v (-1)) :=
  h.enter hv h0 (by omega) (.inl ⟨hw, rfl⟩) fun e he => by
    have hc := h.cd0
    exact ⟨at_set_ne _ (by omega) (h.ed e he).1, at_set_ne _ (by omega) (h.ed e he).2.1, (h.ed e he).2.2⟩
end Go.Sl
/- Paths that avoid nodes; edges on a common cycle. No Go. No conditions. -/
namespace Go.Sl
set_option linter.unusedVariables false
set_option linter.unusedSimpArgs false
/-- A path within the nodes that are allowed. -/
inductive Pth (adj : Int → Int → Prop) (ok : Int → Prop) : Int → Int → Prop
  | refl {x : Int} (h : ok x) : Pth adj ok x x
  | step {x y z : Int} (h : Pth adj ok x y) (ha : adj y z) (hz : ok z) : Pth adj ok x z
section
variable {adj : Int → Int → Prop} {ok ok' : Int → Prop} {x y z : Int}
theorem Pth.mono (h : Pth adj ok x y) (hm : ∀ a, ok a → ok' a) : Pth adj ok' x y := by
  induction h with
  | refl h => exact .refl (hm _ h)
  | step _ ha hz ih => exact .step ih ha (hm _ hz)
theorem Pth.right (h : Pth adj ok x y) : ok y := by cases h <;> assumption
theorem Pth.left (h : Pth adj ok x y) : ok x := by
  induction h with
  | refl h => exact h
  | step _ _ _ ih => exact ih
theorem Pth.trans (h : Pth adj ok x y) (k : Pth adj ok y z) : Pth adj ok x z := by
  induction k with
  | refl _ => exact h
  | step _ ha hz ih => exact .step ih ha hz
theorem Pth.symm (hs : ∀ a b, adj a b → adj b a) (h : Pth adj ok x y) : Pth adj ok y x := by
  induction h with
  | refl h => exact .refl h
  | step h1 ha hz ih => exact (Pth.step (.refl hz) (hs _ _ ha) h1.right).trans ih
/-- What is closed along the allowed steps keeps the end inside. -/
theorem Pth.keep {D : Int → Prop} (h : Pth adj ok x y) (h0 : D x) (hc : ∀ a b, D a → adj a b → ok b → D b) : D y := by
  induction h with
  | refl _ => exact h0
  | step _ ha hz ih => exact hc _ _ ih ha hz
end
theorem edgeP_comm (u v : Int) : edgeP u v = edgeP v u := edgeP_swap u v
theorem edgeP_inj {a b c d : Int} (h : edgeP a b = edgeP c d) : (a = c ∧ b = d) ∨ (a = d ∧ b = c) := by
  unfold edgeP at h
  rw [Pt.mk.injEq] at h
  obtain ⟨h1, h2⟩ := h
  split at h1 <;> split at h1 <;> split at h2 <;> split at h2 <;> omega
/-- Two edges at a node whose other ends are joined without it. -/
def JoinE (adj : Int → Int → Prop) (e f : Pt) : Prop := ∃ c x y, e = edgeP c x ∧ f = edgeP c y ∧ x ≠ y ∧ adj c x ∧ adj c y ∧ Pth adj (fun a => a ≠ c) x y
theorem JoinE.symm {adj : Int → Int → Prop} (hs : ∀ a b, adj a b → adj b a) {e f : Pt} (h : JoinE adj e f) : JoinE adj f e := by
  obtain ⟨c, x, y, h1, h2, h3, h4, h5, h6⟩ := h
  exact ⟨c, y, x, h2, h1, h3.symm, h5, h4, h6.symm hs⟩
inductive EqvE (adj : Int → Int → Prop) : Pt → Pt → Prop
  | refl (e : Pt) : EqvE adj e e
  | step {e f k : Pt} (h : EqvE adj e f) (hj : JoinE adj f k) : EqvE adj e k
theorem EqvE.trans {adj : Int → Int → Prop} {e f k : Pt} (h : EqvE adj e f) (h' : EqvE adj f k) : EqvE adj e k := by
  induction h' with
  | refl => exact h
  | step _ hj ih => exact .step ih hj
theorem EqvE.one {adj : Int → Int → Prop} {e f : Pt} (h : JoinE adj e f) : EqvE adj e f := .step (.refl e) h
theorem EqvE.symm {adj : Int → Int → Prop} (hs : ∀ a b, adj a b → adj b a) {e f : Pt} (h : EqvE adj e f) : EqvE adj f e := by
  induction h with
  | refl => exact .refl _
  | step _ hj ih => exact (EqvE.one (hj.symm hs)).trans ih
theorem EqvE.keep {adj : Int → Int → Prop} {X : Pt → Prop} {e f : Pt} (h : EqvE adj e f) (h0 : X e) (hc : ∀ a b, X a → JoinE adj a b → X b) : X f := by
  induction h with
  | refl => exact h0
  | step _ hj ih => exact hc _ _ ih hj
/-- The neighbours that are still to be looked at. -/
theorem bits_of {m : BitVec 64} (h : m ≠ 0#64) {b : Int} : b ∈ listB m ↔ b = tzB m ∨ b ∈ listB (m &&& (m - 1#64)) := by rw [listB_step h, List.mem_cons]
theorem bits_new {m : BitVec 64} (h : m ≠ 0#64) : tzB m ∉ listB (m &&& (m - 1#64)) := by
  have := listB_asc m
  rw [listB_step h, List.pairwise_cons] at this
  intro hm
  have := this.1 _ hm
  omega
/-- The search's state, in words of functions: numbers N, lowest numbers L, the way as pairs of a node and where it came from, what is still to be looked at. -/
structure Bi (adj : Int → Int → Prop) (N L : Int → Int) (cd : Int) (ws : List (Int × Int)) (rem : Int → Int → Prop) (edges : List Pt) (out : List (List Pt)) : Prop where
  num : ∀ v, 0 ≤ N v ∧ N v ≤ cd
  inj : ∀ u v, N u ≠ 0 → N u = N v → u = v
  on : ∀ t ∈ ws, N t.1 ≠ 0
  incr : ws.Pairwise fun s t => N s.1 < N t.1
  link : ∀ A s t B, ws = A ++ s :: t :: B → t.2 = s.1 ∧ adj s.1 t.1
  root : ∀ t B, ws = t :: B → t.2 = -1
  rleft : ∀ a b, rem a b → adj a b ∧ ∃ t ∈ ws, t.1 = a
  unn : ∀ a b, adj a b → N a ≠ 0 → N b = 0 → rem a b
  cnt : ∀ a b, adj a b → N a ≠ 0 → N a < N b → (edgeP a b ∈ out.flatten ++ edges.map normE ↔ ((b, a) ∈ ws ∨ ¬ rem b a))
  nd : (out.flatten ++ edges.map normE).Nodup
  pin : ∀ e ∈ out.flatten ++ edges.map normE, ∃ a b, e = edgeP a b ∧ adj a b ∧ N a ≠ 0 ∧ N b ≠ 0
  ed : ∀ e ∈ edges, adj e.u e.v ∧ N e.u ≠ 0 ∧ N e.v ≠ 0
  clos : ∀ t ∈ ws, ∀ y, N y ≠ 0 → N y < N t.1 → (∀ s ∈ ws, s.1 ≠ y) → ∀ x, adj y x → N x < N t.1
  lw : ∀ A t B, ws = A ++ t :: B → ∃ a, L t.1 = N a ∧ (a = t.1 ∨ ((∃ s ∈ A, s.1 = a) ∧ ∃ x, Pth adj (fun q => ∀ s ∈ A, s.1 ≠ q) t.1 x ∧ adj x a))
  lb : ∀ A t B, ws = A ++ t :: B → ∀ x, N t.1 ≤ N x → (∀ s ∈ B, N x < N s.1) → ∀ y, adj x y → N y ≠ 0 → N y < N t.1 → y ≠ t.2 → ¬ rem x y → L t.1 ≤ N y
  te : ∀ A t B, ws = A ++ t :: B → A ≠ [] → (⟨t.2, t.1⟩ : Pt) ∈ edges
  se : ∀ A t B, ws = A ++ t :: B → A ≠ [] → (∀ e ∈ edges.take (edges.idxOf (⟨t.2, t.1⟩ : Pt)), N e.u < N t.1 ∧ N e.v < N t.1) ∧ (∀ e ∈ edges.drop (edges.idxOf (⟨t.2, t.1⟩ : Pt)), N t.1 ≤ N e.u ∨ N t.1 ≤ N e.v)
  seg : ∀ A t B, ws = A ++ t :: B → A ≠ [] → ∀ e ∈ edges, (N t.1 ≤ N e.u ∨ N t.1 ≤ N e.v) → (∀ s ∈ B, N e.u < N s.1 ∧ N e.v < N s.1) → EqvE adj (normE e) (edgeP t.2 t.1)
  own : ∀ e ∈ edges, ∃ A t B, ws = A ++ t :: B ∧ A ≠ [] ∧ (N t.1 ≤ N e.u ∨ N t.1 ≤ N e.v)
  full : ∀ b ∈ out, b ≠ []
  shut : ∀ b ∈ out, ∀ e ∈ b, ∀ f, JoinE adj e f → f ∈ b
  eqv : ∀ b ∈ out, ∀ e ∈ b, ∀ f ∈ b, EqvE adj e f
structure AdjOk (adj : Int → Int → Prop) : Prop where
  sym : ∀ a b, adj a b → adj b a
  irr : ∀ a, ¬ adj a a
def upd (f : Int → Int) (w c : Int) : Int → Int := fun x => if x = w then c else f x
theorem upd_self (f : Int → Int) (w c : Int) : upd f w c w = c := if_pos rfl
theorem upd_ne {f : Int → Int} {w c x : Int} (h : x ≠ w) : upd f w c x = f x := if_neg h
theorem split_last {α : Type} {ini : List α} {t s : α} {A B : List α} (h : ini ++ [t] = A ++ s :: B) : (B = [] ∧ A = ini ∧ s = t) ∨ ∃ B0, B = B0 ++ [t] ∧ ini = A ++ s :: B0 := by
  rcases List.eq_nil_or_concat B with rfl | ⟨B0, b, rfl⟩
  · have := List.append_inj' h rfl
    exact .inl ⟨rfl, this.1.symm, (List.cons.inj this.2).1.symm⟩
  · rw [List.concat_eq_append, ← List.cons_append, ← List.append_assoc] at h
    have := List.append_inj' h rfl
    exact .inr ⟨B0, by rw [List.concat_eq_append, (List.cons.inj this.2).1], this.1⟩
section
variable {adj : Int → Int → Prop} {N L : Int → Int} {cd : Int} {ws : List (Int × Int)} {rem rem' : Int → Int → Prop} {edges : List Pt} {out : List (List Pt)}
theorem Bi.congr (h : Bi adj N L cd ws rem edges out) (he : ∀ a b, rem a b ↔ rem' a b) : Bi adj N L cd ws rem' edges out := by
  have e : rem = rem' := by funext a b; exact propext (he a b)
  exact e ▸ h
theorem Bi.lt_of (h : Bi adj N L cd ws rem edges out) {A : List (Int × Int)} {t : Int × Int} {B : List (Int × Int)} (hw : ws = A ++ t :: B) : (∀ s ∈ A, N s.1 < N t.1) ∧ ∀ s ∈ B, N t.1 < N s.1 := by
  have := h.incr
  rw [hw, List.pairwise_append] at this
  exact ⟨fun s hs => this.2.2 s hs t List.mem_cons_self, fun s hs => (List.pairwise_cons.1 this.2.1).1 s hs⟩
/-- Nodes on the way are joined along it. -/
theorem Bi.along (h : Bi adj N L cd ws rem edges out) {ok : Int → Prop} : ∀ (M A B : List (Int × Int)) (s r : Int × Int), ws = A ++ s :: (M ++ r :: B) → (∀ q ∈ s :: (M ++ [r]), ok q.1) → Pth adj ok s.1 r.1
  | [], A, B, s, r, hw, ho => by
    have := h.link A s r B hw
    exact .step (.refl (ho s List.mem_cons_self)) this.2 (ho r (by simp))
  | m :: M, A, B, s, r, hw, ho => by
    have h1 := h.link A s m (M ++ r :: B) (by rw [hw]; rfl)
    have h2 := h.along M (A ++ [s]) B m r (by rw [hw]; simp) (fun q hq => ho q (List.mem_cons_of_mem _ hq))
    exact (Pth.step (.refl (ho s List.mem_cons_self)) h1.2 h2.left).trans h2
theorem Bi.same_pair (h : Bi adj N L cd ws rem edges out) {s t : Int × Int} (hs : s ∈ ws) (ht : t ∈ ws) (e : s.1 = t.1) : s = t := by
  obtain ⟨A, B, hw⟩ := List.append_of_mem ht
  obtain ⟨h1, h2⟩ := h.lt_of hw
  rw [hw] at hs
  rcases List.mem_append.1 hs with h3 | h3
  · have := h1 s h3; rw [e] at this; omega
  · rcases List.mem_cons.1 h3 with h4 | h4
    · exact h4
    · have := h2 s h4; rw [e] at this; omega
/-- A neighbour that is looked at, with nothing to be done. -/
theorem Bi.look (h : Bi adj N L cd ws rem edges out) {ini : List (Int × Int)} {t : Int × Int} (hw : ws = ini ++ [t]) {w : Int} (hnw : N w ≠ 0) (hsk : w = t.2 ∨ N t.1 ≤ N w) :
    Bi adj N L cd ws (fun a b => rem a b ∧ ¬ (a = t.1 ∧ b = w)) edges out := by
  have htm : t ∈ ws := by rw [hw]; simp
  refine { h with rleft := fun a b hr => h.rleft a b hr.1, unn := fun a b hab ha hb => ⟨h.unn a b hab ha hb, fun e => hnw (e.2 ▸ hb)⟩, cnt := fun a b hab ha hlt => ?_, lb := fun A s B hs x hx hB y hxy hy hyl hys hr => ?_ }
  · rw [h.cnt a b hab ha hlt]
    constructor
    · exact fun hh => hh.imp id fun h1 h2 => h1 h2.1
    · rintro (h1 | h1)
      · exact .inl h1
      · by_cases e : b = t.1 ∧ a = w
        · rcases hsk with h2 | h2
          · left
            rw [e.1, e.2, h2]; exact htm
          · rw [e.1, e.2] at hlt; omega
        · exact .inr fun h2 => h1 ⟨h2, e⟩
  · refine h.lb A s B hs x hx hB y hxy hy hyl hys fun h2 => hr ⟨h2, fun e => ?_⟩
    obtain ⟨rfl, rfl⟩ := e
    rcases split_last (hw.symm.trans hs) with ⟨rfl, rfl, rfl⟩ | ⟨B0, rfl, h3⟩
    · rcases hsk with h4 | h4
      · exact hys h4
      · omega
    · have := hB t (by simp)
      omega
theorem normE_adj {u v : Int} : normE ⟨u, v⟩ = edgeP u v := rfl
/-- A new node is entered, and the edge to it pushed. -/
theorem Bi.enter (h : Bi adj N L cd ws rem edges out) (hA : AdjOk adj) {ini : List (Int × Int)} {t : Int × Int} (hw : ws = ini ++ [t]) {w : Int} (hv : adj t.1 w) (h0 : N w = 0) (hcd : 0 ≤ cd) :
    Bi adj (upd N w (cd + 1)) (upd L w (cd + 1)) (cd + 1) (ws ++ [(w, t.1)]) (fun a b => (rem a b ∧ ¬ (a = t.1 ∧ b = w)) ∨ (a = w ∧ adj w b)) (edges ++ [⟨t.1, w⟩]) out := by
  have htm : t ∈ ws := by rw [hw]; simp
  have hne : ∀ x, N x ≠ 0 → x ≠ w := fun x hx e => hx (e ▸ h0)
  have hN : ∀ x, N x ≠ 0 → upd N w (cd + 1) x = N x := fun x hx => upd_ne (hne x hx)
  have hself : upd N w (cd + 1) w = cd + 1 := upd_self _ _ _
  have hbd := h.num
  have hon := h.on
  have hnot : (⟨t.1, w⟩ : Pt) ∉ edges := fun hm => (h.ed _ hm).2.2 h0
  have hwn : ∀ s ∈ ws, s.1 ≠ w := fun s hs => hne _ (hon s hs)
  have hPm : ∀ e, e ∈ out.flatten ++ (edges ++ [(⟨t.1, w⟩ : Pt)]).map normE ↔ e ∈ out.flatten ++ edges.map normE ∨ e = edgeP t.1 w := fun e => by
    rw [List.map_append, ← List.append_assoc, List.mem_append]; simp [normE_adj]
  have hnotP : edgeP t.1 w ∉ out.flatten ++ edges.map normE := fun hm => by
    obtain ⟨a, b, e, _, h1, h2⟩ := h.pin _ hm
    rcases edgeP_inj e with ⟨_, e2⟩ | ⟨_, e2⟩
    · exact h2 (e2 ▸ h0)
    · exact h1 (e2 ▸ h0)
  have hold : ∀ x, upd N w (cd + 1) x ≠ 0 → x ≠ w → N x ≠ 0 := fun x hx hxw => by rw [upd_ne hxw] at hx; exact hx
  have hltw : ∀ x, upd N w (cd + 1) x < cd + 1 → x ≠ w := fun x hx e => by subst e; rw [hself] at hx; omega
  have hle : ∀ x, upd N w (cd + 1) x ≤ cd + 1 := fun x => by
    unfold upd; split
    · omega
    · have := hbd x; omega
  refine ⟨fun v => ?_, fun u v hu huv => ?_, fun s hs => ?_, ?_, fun A s r B hs => ?_, fun s B hs => ?_, fun a b hr => ?_, fun a b hab ha hb => ?_, fun a b hab ha hlt => ?_, ?_, fun e he => ?_, fun e he => ?_, fun s hs y hy hlt hyw x hyx => ?_, fun A s B hs => ?_, fun A s B hs x hx hB y hxy hy hlt hys hr => ?_, fun A s B hs hA0 => ?_, fun A s B hs hA0 => ?_, fun A s B hs hA0 e he hse hsB => ?_, fun e he => ?_, h.full, h.shut, h.eqv⟩
  · unfold upd; split
    · omega
    · have := hbd v; omega
  · by_cases e1 : u = w
    · by_cases e2 : v = w
      · rw [e1, e2]
      · rw [e1, hself, upd_ne e2] at huv; have := hbd v; omega
    · by_cases e2 : v = w
      · rw [e2, hself, upd_ne e1] at huv; have := hbd u; omega
      · rw [upd_ne e1] at hu huv; rw [upd_ne e2] at huv; exact h.inj u v hu huv
  · rcases List.mem_append.1 hs with h1 | h1
    · rw [hN _ (hon s h1)]; exact hon s h1
    · rw [List.mem_singleton] at h1; subst h1; show upd N w (cd + 1) w ≠ 0; rw [hself]; omega
  · rw [List.pairwise_append]
    refine ⟨?_, by simp, fun s hs r hr => ?_⟩
    · exact h.incr.imp_of_mem fun {a b} ha hb hh => by rw [hN _ (hon a ha), hN _ (hon b hb)]; exact hh
    · rw [List.mem_singleton] at hr; subst hr
      show upd N w (cd + 1) s.1 < upd N w (cd + 1) w
      rw [hself, hN _ (hon s hs)]; have := hbd s.1; omega
  · rcases split_last (hs.trans (show A ++ s :: r :: B = (A ++ [s]) ++ r :: B by simp)) with ⟨rfl, h1, rfl⟩ | ⟨B0, rfl, h1⟩
    · rw [hw] at h1
      have := (List.cons.inj (List.append_inj' h1 rfl).2).1
      subst this; exact ⟨rfl, hv⟩
    · exact h.link A s r B0 (by rw [h1]; simp)
  · rcases split_last (hs.trans (show s :: B = [] ++ s :: B from rfl)) with ⟨rfl, h1, rfl⟩ | ⟨B0, rfl, h1⟩
    · rw [hw] at h1; simp at h1
    · exact h.root s B0 h1
  · rcases hr with h1 | h1
    · obtain ⟨h2, s, h3, h4⟩ := h.rleft a b h1.1
      exact ⟨h2, s, List.mem_append_left _ h3, h4⟩
    · rw [h1.1]; exact ⟨h1.2, (w, t.1), by simp, rfl⟩
  · have hbw : b ≠ w := fun e => by subst e; rw [hself] at hb; omega
    rw [upd_ne hbw] at hb
    by_cases e1 : a = w
    · exact .inr ⟨e1, e1 ▸ hab⟩
    · rw [upd_ne e1] at ha
      exact .inl ⟨h.unn a b hab ha hb, fun e => hbw e.2⟩
  · rw [hPm]
    have haw : a ≠ w := hltw a (by have := hle b; omega)
    rw [upd_ne haw] at ha hlt
    by_cases hbw : b = w
    · subst hbw
      have h1 : edgeP a b ∉ out.flatten ++ edges.map normE := fun hm => by
        obtain ⟨x, y, e, _, h1, h2⟩ := h.pin _ hm
        rcases edgeP_inj e with ⟨_, e2⟩ | ⟨_, e2⟩
        · exact h2 (e2 ▸ h0)
        · exact h1 (e2 ▸ h0)
      constructor
      · rintro (h2 | h2)
        · exact absurd h2 h1
        · rcases edgeP_inj h2 with ⟨e1, _⟩ | ⟨e1, _⟩
          · left; rw [e1]; simp
          · exact absurd e1 haw
      · rintro (h2 | h2)
        · rcases List.mem_append.1 h2 with h3 | h3
          · exact absurd rfl (hwn _ h3)
          · rw [List.mem_singleton, Prod.mk.injEq] at h3
            right; rw [h3.2]
        · exact absurd (.inr ⟨rfl, hA.sym _ _ hab⟩) h2
    · rw [upd_ne hbw] at hlt
      have hne2 : edgeP a b ≠ edgeP t.1 w := fun e => by
        rcases edgeP_inj e with ⟨_, e2⟩ | ⟨e2, _⟩
        · exact hbw e2
        · exact haw e2
      rw [or_iff_left hne2, h.cnt a b hab ha hlt, List.mem_append]
      have e1 : ¬ ((b, a) ∈ [((w, t.1) : Int × Int)]) := fun hm => by rw [List.mem_singleton, Prod.mk.injEq] at hm; exact hbw hm.1
      rw [or_iff_left e1]
      refine or_congr_right (not_congr ⟨fun hr => .inl ⟨hr, fun e => haw e.2⟩, fun hr => ?_⟩)
      rcases hr with h2 | h2
      · exact h2.1
      · exact absurd h2.1 hbw
  · rw [List.map_append, ← List.append_assoc, List.nodup_append]
    refine ⟨h.nd, by simp, fun a ha b hb => ?_⟩
    simp only [List.map_cons, List.map_nil, List.mem_singleton] at hb
    subst hb
    exact fun e => hnotP (by have h9 := ha; rw [e] at h9; exact h9)
  · rcases (hPm e).1 he with h1 | h1
    · obtain ⟨a, b, e1, e2, e3, e4⟩ := h.pin e h1
      exact ⟨a, b, e1, e2, by rw [hN _ e3]; exact e3, by rw [hN _ e4]; exact e4⟩
    · exact ⟨t.1, w, h1, hv, by rw [hN _ (hon t htm)]; exact hon t htm, by rw [hself]; omega⟩
  · rcases List.mem_append.1 he with h1 | h1
    · obtain ⟨e1, e2, e3⟩ := h.ed e h1
      exact ⟨e1, by rw [hN _ e2]; exact e2, by rw [hN _ e3]; exact e3⟩
    · rw [List.mem_singleton] at h1; subst h1
      exact ⟨hv, by show upd N w (cd + 1) t.1 ≠ 0; rw [hN _ (hon t htm)]; exact hon t htm, by show upd N w (cd + 1) w ≠ 0; rw [hself]; omega⟩
  · have hyw' : y ≠ w := fun e => by subst e; exact hyw (y, t.1) (by simp) rfl
    rw [upd_ne hyw'] at hy
    have hoff : ∀ s ∈ ws, s.1 ≠ y := fun s hs => hyw s (List.mem_append_left _ hs)
    have hx0 : N x ≠ 0 := fun e => by
      obtain ⟨_, s, h1, h2⟩ := h.rleft y x (h.unn y x hyx hy e)
      exact hoff s h1 h2
    rw [hN x hx0]
    rcases List.mem_append.1 hs with h1 | h1
    · rw [hN _ (hon s h1)] at hlt ⊢
      rw [upd_ne hyw'] at hlt
      exact h.clos s h1 y hy hlt hoff x hyx
    · rw [List.mem_singleton] at h1; subst h1
      show N x < upd N w (cd + 1) w
      rw [hself]; have := hbd x; omega
  · rcases split_last hs with ⟨rfl, rfl, rfl⟩ | ⟨B0, rfl, h1⟩
    · exact ⟨w, by show upd L w (cd + 1) w = _; rw [upd_self, hself], .inl rfl⟩
    · obtain ⟨a, h2, h3⟩ := h.lw A s B0 h1
      have hsm : s ∈ ws := by rw [h1]; simp
      have ha0 : N a ≠ 0 := by
        rcases h3 with h4 | ⟨⟨r, h4, h5⟩, _⟩
        · rw [h4]; exact hon s hsm
        · rw [← h5]; exact hon r (by rw [h1]; exact List.mem_append_left _ h4)
      exact ⟨a, by rw [hN a ha0, upd_ne (hwn s hsm)]; exact h2, h3⟩
  · rcases split_last hs with ⟨rfl, rfl, rfl⟩ | ⟨B0, rfl, h1⟩
    · have hxw : x = w := Classical.byContradiction fun e => by
        have hx' : upd N w (cd + 1) w ≤ upd N w (cd + 1) x := hx
        rw [hself, upd_ne e] at hx'; have := hbd x; omega
      subst hxw
      exact absurd (.inr ⟨rfl, hxy⟩) hr
    · have hsm : s ∈ ws := by rw [h1]; simp
      have hxw : x ≠ w := hltw x (by have := hB (w, t.1) (by simp); rw [show upd N w (cd + 1) (w, t.1).1 = cd + 1 from hself] at this; exact this)
      have hyw : y ≠ w := hltw y (by have := hle s.1; omega)
      rw [upd_ne hyw] at hy hlt ⊢
      rw [hN _ (hon s hsm)] at hx hlt
      rw [upd_ne hxw] at hx
      rw [upd_ne (hwn s hsm)]
      refine h.lb A s B0 h1 x hx (fun r hr2 => ?_) y hxy hy hlt hys fun h3 => hr (.inl ⟨h3, fun e => hyw e.2⟩)
      have := hB r (List.mem_append_left _ hr2)
      rw [upd_ne hxw, hN _ (hon r (by rw [h1]; simp [hr2]))] at this
      exact this
  · rcases split_last hs with ⟨rfl, rfl, rfl⟩ | ⟨B0, rfl, h1⟩
    · exact List.mem_append_right _ List.mem_cons_self
    · exact List.mem_append_left _ (h.te A s B0 h1 hA0)
  · rcases split_last hs with ⟨rfl, rfl, rfl⟩ | ⟨B0, rfl, h1⟩
    · rw [show (⟨((w, t.1) : Int × Int).2, ((w, t.1) : Int × Int).1⟩ : Pt) = ⟨t.1, w⟩ from rfl, idxOf_r hnot, List.take_left, List.drop_left]
      refine ⟨fun e he => ?_, fun e he => ?_⟩
      · obtain ⟨e1, e2, e3⟩ := h.ed e he
        show _ < upd N w (cd + 1) w ∧ _ < upd N w (cd + 1) w
        rw [hself, hN _ e2, hN _ e3]
        have := hbd e.u; have := hbd e.v; omega
      · rw [List.mem_singleton] at he; subst he
        right; exact Int.le_refl _
    · have hm := h.te A s B0 h1 hA0
      have hlt := List.idxOf_lt_length_of_mem hm
      have hsm : s ∈ ws := by rw [h1]; simp
      obtain ⟨g1, g2⟩ := h.se A s B0 h1 hA0
      rw [idxOf_l hm, List.take_append_of_le_length (by omega), List.drop_append_of_le_length (by omega), hN _ (hon s hsm)]
      refine ⟨fun e he => ?_, fun e he => ?_⟩
      · obtain ⟨_, e2, e3⟩ := h.ed e (List.mem_of_mem_take he)
        rw [hN _ e2, hN _ e3]; exact g1 e he
      · rcases List.mem_append.1 he with he | he
        · obtain ⟨_, e2, e3⟩ := h.ed e (List.mem_of_mem_drop he)
          rw [hN _ e2, hN _ e3]; exact g2 e he
        · rw [List.mem_singleton] at he; subst he
          right; show N s.1 ≤ upd N w (cd + 1) w
          rw [hself]; have := hbd s.1; omega
  · rcases List.mem_append.1 he with he | he
    · obtain ⟨_, e2, e3⟩ := h.ed e he
      rw [hN _ e2, hN _ e3] at hse
      rcases split_last hs with ⟨rfl, rfl, rfl⟩ | ⟨B0, rfl, h1⟩
      · have hse' : cd + 1 ≤ N e.u ∨ cd + 1 ≤ N e.v := by rw [show upd N w (cd + 1) ((w, t.1) : Int × Int).1 = cd + 1 from hself] at hse; exact hse
        have := hbd e.u; have := hbd e.v; omega
      · have hsm : s ∈ ws := by rw [h1]; simp
        rw [hN _ (hon s hsm)] at hse
        refine h.seg A s B0 h1 hA0 e he hse fun r hr => ?_
        have := hsB r (List.mem_append_left _ hr)
        rw [hN _ e2, hN _ e3, hN _ (hon r (by rw [h1]; simp [hr]))] at this
        exact this
    · rw [List.mem_singleton] at he; subst he
      rcases split_last hs with ⟨rfl, rfl, rfl⟩ | ⟨B0, rfl, h1⟩
      · exact .refl _
      · have := (hsB (w, t.1) (by simp)).2
        exact absurd this (Int.lt_irrefl _)
  · rcases List.mem_append.1 he with he | he
    · obtain ⟨_, e2, e3⟩ := h.ed e he
      obtain ⟨A, s, B, h1, h2, h3⟩ := h.own e he
      have hsm : s ∈ ws := by rw [h1]; simp
      exact ⟨A, s, B ++ [(w, t.1)], by rw [h1]; simp, h2, by rw [hN _ e2, hN _ e3, hN _ (hon s hsm)]; exact h3⟩
    · rw [List.mem_singleton] at he; subst he
      exact ⟨ws, (w, t.1), [], rfl, by rw [hw]; simp, .inr (Int.le_refl _)⟩
theorem minI_le {a b : Int} : minI a b ≤ a ∧ minI a b ≤ b ∧ (minI a b = a ∨ minI a b = b) := by unfold minI; split <;> omega
/-- The node ahead of the last one. -/
theorem Bi.prev (h : Bi adj N L cd ws rem edges out) {ini : List (Int × Int)} {t : Int × Int} (hw : ws = ini ++ [t]) (h0 : ini ≠ []) : ∃ I1 p, ini = I1 ++ [p] ∧ t.2 = p.1 ∧ adj p.1 t.1 := by
  rcases List.eq_nil_or_concat ini with rfl | ⟨I1, p, rfl⟩
  · exact absurd rfl h0
  · rw [List.concat_eq_append] at *
    have := h.link I1 p t [] (by rw [hw]; simp)
    exact ⟨I1, p, rfl, this.1, this.2⟩
/-- From a node of the way that is not the one ahead of the last one to that one, past the last one. -/
theorem Bi.past (h : Bi adj N L cd ws rem edges out) {I1 : List (Int × Int)} {p t : Int × Int} (hw : ws = I1 ++ [p] ++ [t]) {s : Int × Int} (hs : s ∈ I1) : Pth adj (fun a => a ≠ t.1) s.1 p.1 := by
  obtain ⟨A, M, rfl⟩ := List.append_of_mem hs
  refine h.along M A [t] s p (by rw [hw]; simp) fun q hq => ?_
  have := (h.lt_of (A := A ++ s :: M ++ [p]) (t := t) (B := []) (by rw [hw])).1 q (by
    simp only [List.mem_append, List.mem_cons, List.mem_singleton] at hq ⊢
    rcases hq with rfl | hq | hq
    · exact .inl (.inr (.inl rfl))
    · exact .inl (.inr (.inr hq))
    · rcases hq with rfl | hq
      · exact .inr (.inl rfl)
      · cases hq)
  exact fun e => by rw [e] at this; omega
/-- An edge back to the way. -/
theorem Bi.back (h : Bi adj N L cd ws rem edges out) (hA : AdjOk adj) {ini : List (Int × Int)} {t : Int × Int} (hw : ws = ini ++ [t]) {w : Int} (hr : rem t.1 w) (hnw : N w ≠ 0) (hlt : N w < N t.1) (hws : w ≠ t.2) :
    Bi adj N (upd L t.1 (minI (L t.1) (N w))) cd ws (fun a b => rem a b ∧ ¬ (a = t.1 ∧ b = w)) (edges ++ [⟨t.1, w⟩]) out := by
  have htm : t ∈ ws := by rw [hw]; simp
  have hv := (h.rleft _ _ hr).1
  have hon := h.on
  obtain ⟨s, hs, hsw⟩ : ∃ s ∈ ws, s.1 = w := Classical.byContradiction fun hn => by
    have := h.clos t htm w hnw hlt (fun s hs e => hn ⟨s, hs, e⟩) t.1 (hA.sym _ _ hv)
    omega
  have hsi : s ∈ ini := by
    rw [hw] at hs
    rcases List.mem_append.1 hs with h1 | h1
    · exact h1
    · rw [List.mem_singleton] at h1; rw [← h1, hsw] at hlt; omega
  obtain ⟨I1, p, hini, hp1, hp2⟩ := h.prev hw (fun e => by rw [e] at hsi; cases hsi)
  have hs1 : s ∈ I1 := by
    rw [hini] at hsi
    rcases List.mem_append.1 hsi with h1 | h1
    · exact h1
    · rw [List.mem_singleton] at h1; exact absurd (by rw [hp1, ← h1]; exact hsw.symm) hws
  have hJ : JoinE adj (edgeP t.1 w) (edgeP t.2 t.1) := ⟨t.1, w, t.2, rfl, edgeP_comm _ _, hws, hv, by rw [hp1]; exact hA.sym _ _ hp2, by rw [hp1, ← hsw]; exact h.past (by rw [hw, hini]) hs1⟩
  have hnotP : edgeP t.1 w ∉ out.flatten ++ edges.map normE := fun hm => by
    rw [edgeP_comm] at hm
    rcases (h.cnt w t.1 (hA.sym _ _ hv) hnw hlt).1 hm with h1 | h1
    · have := h.same_pair h1 htm rfl
      exact hws (by rw [← this])
    · exact h1 hr
  have hPm : ∀ e, e ∈ out.flatten ++ (edges ++ [(⟨t.1, w⟩ : Pt)]).map normE ↔ e ∈ out.flatten ++ edges.map normE ∨ e = edgeP t.1 w := fun e => by
    rw [List.map_append, ← List.append_assoc, List.mem_append]; simp [normE_adj]
  have hlast : ∀ A r B, ws = A ++ r :: B → r.1 = t.1 → B = [] ∧ A = ini ∧ r = t := fun A r B hq e => by
    rcases split_last (hw.symm.trans hq) with h1 | ⟨B0, rfl, h1⟩
    · exact h1
    · have := (h.lt_of hq).2 t (by simp)
      rw [e] at this; omega
  refine { h with rleft := fun a b hr => h.rleft a b hr.1, unn := fun a b hab ha hb => ⟨h.unn a b hab ha hb, fun e => hnw (e.2 ▸ hb)⟩, cnt := fun a b hab ha hl => ?_, nd := ?_, pin := fun e he => ?_, ed := fun e he => ?_, lw := fun A r B hq => ?_, lb := fun A r B hq x hx hB y hxy hy hyl hys hnr => ?_, te := fun A r B hq h0 => List.mem_append_left _ (h.te A r B hq h0), se := fun A r B hq h0 => ?_, seg := fun A r B hq h0 e he hse hsB => ?_, own := fun e he => ?_ }
  · rw [hPm, h.cnt a b hab ha hl]
    by_cases e : b = t.1 ∧ a = w
    · obtain ⟨rfl, rfl⟩ := e
      exact ⟨fun _ => .inr fun h2 => h2.2 ⟨rfl, rfl⟩, fun _ => .inr (edgeP_comm _ _)⟩
    · have hne : edgeP a b ≠ edgeP t.1 w := fun e2 => by
        rcases edgeP_inj e2 with ⟨rfl, rfl⟩ | ⟨e3, e4⟩
        · omega
        · exact e ⟨e4, e3⟩
      rw [or_iff_left hne]
      exact or_congr_right (not_congr ⟨fun h2 => ⟨h2, e⟩, fun h2 => h2.1⟩)
  · rw [List.map_append, ← List.append_assoc, List.nodup_append]
    refine ⟨h.nd, by simp, fun a ha b hb => ?_⟩
    simp only [List.map_cons, List.map_nil, List.mem_singleton] at hb
    subst hb
    exact fun e => hnotP (by have h9 := ha; rw [e] at h9; exact h9)
  · rcases (hPm e).1 he with h1 | h1
    · exact h.pin e h1
    · exact ⟨t.1, w, h1, hv, hon t htm, hnw⟩
  · rcases List.mem_append.1 he with h1 | h1
    · exact h.ed e h1
    · rw [List.mem_singleton] at h1; subst h1; exact ⟨hv, hon t htm, hnw⟩
  · by_cases e : r.1 = t.1
    · obtain ⟨rfl, rfl, rfl⟩ := hlast A r B hq e
      rw [upd_self]
      rcases (minI_le (a := L r.1) (b := N w)).2.2 with h1 | h1
      · rw [h1]; exact h.lw A r [] hq
      · rw [h1]
        refine ⟨w, rfl, .inr ⟨⟨s, hsi, hsw⟩, r.1, .refl fun q hq2 e2 => ?_, hv⟩⟩
        have := (h.lt_of hq).1 q hq2
        rw [e2] at this; omega
    · rw [upd_ne e]; exact h.lw A r B hq
  · by_cases e : r.1 = t.1
    · obtain ⟨rfl, rfl, rfl⟩ := hlast A r B hq e
      rw [upd_self]
      have hm := minI_le (a := L r.1) (b := N w)
      by_cases e2 : x = r.1 ∧ y = w
      · rw [e2.2]; exact hm.2.1
      · have := h.lb A r [] hq x hx hB y hxy hy hyl hys fun h2 => hnr ⟨h2, e2⟩
        omega
    · rw [upd_ne e]
      refine h.lb A r B hq x hx hB y hxy hy hyl hys fun h2 => hnr ⟨h2, fun e2 => ?_⟩
      rcases split_last (hw.symm.trans hq) with ⟨_, _, h1⟩ | ⟨B0, rfl, h1⟩
      · exact e (by rw [h1])
      · have := hB t (by simp)
        rw [e2.1] at this; omega
  · have hm := h.te A r B hq h0
    have hl := List.idxOf_lt_length_of_mem hm
    obtain ⟨g1, g2⟩ := h.se A r B hq h0
    rw [idxOf_l hm, List.take_append_of_le_length (by omega), List.drop_append_of_le_length (by omega)]
    refine ⟨g1, fun e he => ?_⟩
    rcases List.mem_append.1 he with he | he
    · exact g2 e he
    · rw [List.mem_singleton] at he; subst he
      left
      rcases split_last (hw.symm.trans hq) with ⟨_, _, h1⟩ | ⟨B0, rfl, h1⟩
      · rw [h1]; exact Int.le_refl _
      · have := (h.lt_of hq).2 t (by simp)
        show N r.1 ≤ N t.1
        omega
  · rcases List.mem_append.1 he with he | he
    · exact h.seg A r B hq h0 e he hse hsB
    · rw [List.mem_singleton] at he; subst he
      rcases split_last (hw.symm.trans hq) with ⟨rfl, rfl, h1⟩ | ⟨B0, rfl, h1⟩
      · rw [h1]; exact .one hJ
      · have := (hsB t (by simp)).1
        exact absurd this (Int.lt_irrefl _)
  · rcases List.mem_append.1 he with he | he
    · exact h.own e he
    · rw [List.mem_singleton] at he; subst he
      exact ⟨ini, t, [], hw, (fun e => by rw [e] at hsi; cases hsi), .inl (Int.le_refl _)⟩
/-- The part of the state that says nothing of the edges. -/
structure BiW (adj : Int → Int → Prop) (N L : Int → Int) (cd : Int) (ws : List (Int × Int)) (rem : Int → Int → Prop) : Prop where
  num : ∀ v, 0 ≤ N v ∧ N v ≤ cd
  inj : ∀ u v, N u ≠ 0 → N u = N v → u = v
  on : ∀ t ∈ ws, N t.1 ≠ 0
  incr : ws.Pairwise fun s t => N s.1 < N t.1
  link : ∀ A s t B, ws = A ++ s :: t :: B → t.2 = s.1 ∧ adj s.1 t.1
  root : ∀ t B, ws = t :: B → t.2 = -1
  rleft : ∀ a b, rem a b → adj a b ∧ ∃ t ∈ ws, t.1 = a
  unn : ∀ a b, adj a b → N a ≠ 0 → N b = 0 → rem a b
  clos : ∀ t ∈ ws, ∀ y, N y ≠ 0 → N y < N t.1 → (∀ s ∈ ws, s.1 ≠ y) → ∀ x, adj y x → N x < N t.1
  lw : ∀ A t B, ws = A ++ t :: B → ∃ a, L t.1 = N a ∧ (a = t.1 ∨ ((∃ s ∈ A, s.1 = a) ∧ ∃ x, Pth adj (fun q => ∀ s ∈ A, s.1 ≠ q) t.1 x ∧ adj x a))
  lb : ∀ A t B, ws = A ++ t :: B → ∀ x, N t.1 ≤ N x → (∀ s ∈ B, N x < N s.1) → ∀ y, adj x y → N y ≠ 0 → N y < N t.1 → y ≠ t.2 → ¬ rem x y → L t.1 ≤ N y
/-- The lowest number of a node of the way is not above its own. -/
theorem Bi.low_le (h : Bi adj N L cd ws rem edges out) {A : List (Int × Int)} {t : Int × Int} {B : List (Int × Int)} (hw : ws = A ++ t :: B) : L t.1 ≤ N t.1 := by
  obtain ⟨a, h1, h2⟩ := h.lw A t B hw
  rcases h2 with rfl | ⟨⟨s, hs, rfl⟩, _⟩
  · omega
  · have := (h.lt_of hw).1 s hs; omega
/-- Of the last node nothing is left to be looked at; it is left. -/
theorem Bi.leaveW (h : Bi adj N L cd ws rem edges out) (hA : AdjOk adj) {ini : List (Int × Int)} {t : Int × Int} (hw : ws = ini ++ [t]) (h0 : ini ≠ []) (hz : ∀ b, ¬ rem t.1 b) :
    BiW adj N (upd L t.2 (minI (L t.2) (L t.1))) cd ini rem := by
  obtain ⟨I1, p, hini, hp1, hp2⟩ := h.prev hw h0
  have hsub : ∀ s ∈ ini, s ∈ ws := fun s hs => by rw [hw]; exact List.mem_append_left _ hs
  have hwp : ws = I1 ++ p :: [t] := by rw [hw, hini]; simp
  have hpm : p ∈ ini := by rw [hini]; simp
  have hdec : ∀ A s B, ini = A ++ s :: B → ws = A ++ s :: (B ++ [t]) := fun A s B e => by rw [hw, e]; simp
  have hplow := h.low_le hwp
  have hpt := (h.lt_of hwp).2 t (by simp)
  have hnode : ∀ A s B, ini = A ++ s :: B → s.1 = t.2 → A = I1 ∧ s = p ∧ B = [] := fun A s B e e2 => by
    rcases split_last (hini.symm.trans e) with ⟨h1, h2, h3⟩ | ⟨B0, rfl, h1⟩
    · exact ⟨h2, h3, h1⟩
    · have := (h.lt_of (hdec A s (B0 ++ [p]) e)).2 p (by simp)
      rw [e2, hp1] at this; omega
  refine ⟨h.num, h.inj, fun s hs => h.on s (hsub s hs), ?_, fun A s r B e => ?_, fun s B e => ?_, fun a b hr => ?_, h.unn, fun s hs y hy hl hoff x hyx => ?_, fun A s B e => ?_, fun A s B e x hx hB y hxy hy hl hys hnr => ?_⟩
  · have := h.incr
    rw [hw, List.pairwise_append] at this
    exact this.1
  · exact h.link A s r (B ++ [t]) (by rw [hw, e]; simp)
  · exact h.root s (B ++ [t]) (by rw [hw, e]; simp)
  · obtain ⟨h1, s, h2, h3⟩ := h.rleft a b hr
    rw [hw] at h2
    rcases List.mem_append.1 h2 with h4 | h4
    · exact ⟨h1, s, h4, h3⟩
    · rw [List.mem_singleton] at h4; subst h4; subst h3; exact absurd hr (hz b)
  · refine h.clos s (hsub s hs) y hy hl (fun r hr e => ?_) x hyx
    rw [hw] at hr
    rcases List.mem_append.1 hr with h1 | h1
    · exact hoff r h1 e
    · rw [List.mem_singleton] at h1; subst h1; subst e
      have := (h.lt_of (A := ini) (t := r) (B := []) (by rw [hw])).1 s hs
      omega
  · by_cases e2 : s.1 = t.2
    · obtain ⟨rfl, rfl, rfl⟩ := hnode A s B e e2
      rw [e2, upd_self, ← e2]
      by_cases hlt : L t.1 < L s.1
      · rw [show minI (L s.1) (L t.1) = L t.1 from if_pos hlt]
        obtain ⟨a, h1, h2⟩ := h.lw ini t [] hw
        refine ⟨a, h1, ?_⟩
        rcases h2 with rfl | ⟨⟨r, hr, rfl⟩, x, hx1, hx2⟩
        · omega
        · rw [e] at hr
          rcases List.mem_append.1 hr with hr | hr
          · refine .inr ⟨⟨r, hr, rfl⟩, x, ?_, hx2⟩
            have hs1 : ∀ q ∈ A, q.1 ≠ s.1 := fun q hq e3 => by have := (h.lt_of hwp).1 q hq; rw [e3] at this; omega
            have ht1 : ∀ q ∈ A, q.1 ≠ t.1 := fun q hq e3 => by have := (h.lt_of hwp).1 q hq; rw [e3] at this; omega
            exact (Pth.step (.refl hs1) hp2 ht1).trans (hx1.mono fun q hq r hr => hq r (by rw [e]; exact List.mem_append_left _ hr))
          · rw [List.mem_singleton] at hr; subst hr; omega
      · rw [show minI (L s.1) (L t.1) = L s.1 from if_neg hlt]
        exact h.lw A s [t] hwp
    · rw [upd_ne e2]; exact h.lw A s (B ++ [t]) (hdec A s B e)
  · by_cases e2 : s.1 = t.2
    · obtain ⟨rfl, rfl, rfl⟩ := hnode A s B e e2
      rw [e2, upd_self, ← e2]
      have hm := minI_le (a := L s.1) (b := L t.1)
      by_cases hxt : N x < N t.1
      · have := h.lb A s [t] hwp x hx (fun q hq => by rw [List.mem_singleton] at hq; rw [hq]; exact hxt) y hxy hy hl hys hnr
        omega
      · have := h.lb ini t [] hw x (by omega) (fun q hq => by cases hq) y hxy hy (by omega) (fun e3 => by rw [e3, hp1] at hl; omega) hnr
        omega
    · rw [upd_ne e2]
      refine h.lb A s (B ++ [t]) (hdec A s B e) x hx (fun q hq => ?_) y hxy hy hl hys hnr
      rcases List.mem_append.1 hq with hq | hq
      · exact hB q hq
      · rw [List.mem_singleton] at hq; rw [hq]
        have hB0 : B ≠ [] := fun e3 => by
          subst e3
          have := (split_last (hini.symm.trans e))
          rcases this with ⟨_, _, h3⟩ | ⟨B0, h3, _⟩
          · exact e2 (by rw [h3, hp1])
          · simp at h3
        obtain ⟨q, hq⟩ := List.exists_mem_of_ne_nil _ hB0
        have h1 := hB q hq
        have h2 := (h.lt_of (A := ini) (t := t) (B := []) (by rw [hw])).1 q (by rw [e]; simp [hq])
        omega
theorem Bi.leaveRoot (h : Bi adj N L cd ws rem edges out) {t : Int × Int} (hw : ws = [t]) (hz : ∀ b, ¬ rem t.1 b) : Bi adj N L cd [] rem edges out ∧ edges = [] := by
  have hr : ∀ a b, ¬ rem a b := fun a b hh => by
    obtain ⟨_, s, h1, h2⟩ := h.rleft a b hh
    rw [hw, List.mem_singleton] at h1; subst h1; subst h2; exact hz b hh
  have hed : edges = [] := List.eq_nil_iff_forall_not_mem.2 fun e he => by
    obtain ⟨A, s, B, h1, h2, _⟩ := h.own e he
    rw [hw] at h1
    cases A with
    | nil => exact h2 rfl
    | cons a A => simp at h1
  refine ⟨⟨h.num, h.inj, fun s hs => (by cases hs), .nil, fun A s r B e => (by simp at e), fun s B e => (by simp at e), fun a b hh => absurd hh (hr a b), h.unn, fun a b hab ha hl => ?_, h.nd, h.pin, h.ed, fun s hs => (by cases hs), fun A s B e => (by simp at e), fun A s B e => (by simp at e), fun A s B e => (by simp at e), fun A s B e => (by simp at e), fun A s B e => (by simp at e), fun e he => (by rw [hed] at he; cases he), h.full, h.shut, h.eqv⟩, hed⟩
  rw [h.cnt a b hab ha hl]
  exact ⟨fun _ => .inr (hr b a), fun _ => .inr (hr b a)⟩
/-- The last node is left, and from below it one comes back past the node ahead. -/
theorem Bi.leaveFar (h : Bi adj N L cd ws rem edges out) (hA : AdjOk adj) {ini : List (Int × Int)} {t : Int × Int} (hw : ws = ini ++ [t]) (h0 : ini ≠ []) (hz : ∀ b, ¬ rem t.1 b) (hlow : L t.1 < N t.2) :
    Bi adj N (upd L t.2 (minI (L t.2) (L t.1))) cd ini rem edges out := by
  have hW := h.leaveW hA hw h0 hz
  obtain ⟨I1, p, hini, hp1, hp2⟩ := h.prev hw h0
  have hwp : ws = I1 ++ p :: [t] := by rw [hw, hini]; simp
  have hpt := (h.lt_of hwp).2 t (by simp)
  have hdec : ∀ A s B, ini = A ++ s :: B → ws = A ++ s :: (B ++ [t]) := fun A s B e => by rw [hw, e]; simp
  have htm : t ∈ ws := by rw [hw]; simp
  -- the node to which one comes back
  obtain ⟨r, hrI, x, hx1, hx2⟩ : ∃ r ∈ I1, ∃ x, Pth adj (fun q => ∀ s ∈ ini, s.1 ≠ q) t.1 x ∧ adj x r.1 := by
    obtain ⟨a, h1, h2⟩ := h.lw ini t [] hw
    rcases h2 with rfl | ⟨⟨r, hr, rfl⟩, x, hx1, hx2⟩
    · rw [hp1] at hlow; omega
    · rw [hini] at hr
      rcases List.mem_append.1 hr with hr | hr
      · exact ⟨r, hr, x, hx1, hx2⟩
      · rw [List.mem_singleton] at hr; subst hr; rw [hp1] at hlow; omega
  have hI1 : I1 ≠ [] := fun e => by rw [e] at hrI; cases hrI
  refine ⟨hW.num, hW.inj, hW.on, hW.incr, hW.link, hW.root, hW.rleft, hW.unn, fun a b hab ha hl => ?_, h.nd, h.pin, h.ed, hW.clos, hW.lw, hW.lb, fun A s B e hA0 => h.te A s (B ++ [t]) (hdec A s B e) hA0, fun A s B e hA0 => h.se A s (B ++ [t]) (hdec A s B e) hA0, fun A s B e hA0 k hk hse hsB => ?_, fun e he => ?_, h.full, h.shut, h.eqv⟩
  · rw [h.cnt a b hab ha hl, hw, List.mem_append, List.mem_singleton]
    constructor
    · rintro ((h1 | h1) | h1)
      · exact .inl h1
      · exact .inr fun h2 => by rw [← h1] at hz; exact hz _ h2
      · exact .inr h1
    · exact fun h1 => h1.imp .inl id
  · by_cases hlt : N k.u < N t.1 ∧ N k.v < N t.1
    · refine h.seg A s (B ++ [t]) (hdec A s B e) hA0 k hk hse fun q hq => ?_
      rcases List.mem_append.1 hq with hq | hq
      · exact hsB q hq
      · rw [List.mem_singleton] at hq; subst hq; exact hlt
    · have hB : B = [] ∧ A = I1 ∧ s = p := by
        rcases split_last (hini.symm.trans e) with h1 | ⟨B0, rfl, h1⟩
        · exact h1
        · have := hsB p (by simp)
          omega
      obtain ⟨rfl, rfl, rfl⟩ := hB
      have h1 := h.seg ini t [] hw h0 k hk (by omega) fun q hq => by cases hq
      refine h1.trans (.one ?_)
      -- at the node ahead: the node left, and where that one came from
      obtain ⟨I2, q, hI2, hq1, hq2⟩ : ∃ I2 q, A = I2 ++ [q] ∧ s.2 = q.1 ∧ adj q.1 s.1 := by
        rcases List.eq_nil_or_concat A with rfl | ⟨I2, q, rfl⟩
        · exact absurd rfl hI1
        · rw [List.concat_eq_append] at *
          have := h.link I2 q s [t] (by rw [hwp]; simp)
          exact ⟨I2, q, rfl, this.1, this.2⟩
      refine ⟨s.1, t.1, s.2, by rw [hp1], edgeP_comm _ _, fun e3 => ?_, hp2, by rw [hq1]; exact hA.sym _ _ hq2, ?_⟩
      · have := (h.lt_of hwp).1 q (by rw [hI2]; simp)
        rw [e3, hq1] at hpt; omega
      · have hsA : ∀ r ∈ A, r.1 ≠ s.1 := fun r hr e4 => by have := (h.lt_of hwp).1 r hr; rw [e4] at this; omega
        have hx3 : Pth adj (fun a => a ≠ s.1) t.1 x := hx1.mono fun a ha => fun e4 => ha s (by rw [hini]; simp) e4.symm
        have hx4 : Pth adj (fun a => a ≠ s.1) t.1 r.1 := .step hx3 hx2 (hsA r hrI)
        rw [hq1]
        rw [hI2] at hrI
        rcases List.mem_append.1 hrI with hr | hr
        · obtain ⟨A2, M, hAM⟩ := List.append_of_mem hr
          refine hx4.trans (h.along M A2 (s :: [t]) r q (by rw [hwp, hI2, hAM]; simp) fun z hz => ?_)
          refine hsA z ?_
          rw [hI2, hAM]
          simp only [List.mem_append, List.mem_cons, List.mem_singleton, List.not_mem_nil, or_false] at hz ⊢
          rcases hz with hz | hz | hz
          · exact .inl (.inr (.inl hz))
          · exact .inl (.inr (.inr hz))
          · exact .inr hz
        · rw [List.mem_singleton] at hr; subst hr; exact hx4
  · obtain ⟨A, s, B, h1, h2, h3⟩ := h.own e he
    rcases split_last (hw.symm.trans h1) with ⟨rfl, rfl, rfl⟩ | ⟨B0, rfl, h4⟩
    · exact ⟨I1, p, [], hini, hI1, by omega⟩
    · exact ⟨A, s, B0, h4, h2, h3⟩
/-- What lies below the last node is joined to the rest by the node ahead alone. -/
theorem Bi.below (h : Bi adj N L cd ws rem edges out) (hA : AdjOk adj) {ini : List (Int × Int)} {t : Int × Int} (hw : ws = ini ++ [t]) (h0 : ini ≠ []) (hz : ∀ b, ¬ rem t.1 b) (hlow : N t.2 ≤ L t.1) {z z' : Int} (hzD : N t.1 ≤ N z) (ha : adj z z') : N t.1 ≤ N z' ∨ z' = t.2 := by
  obtain ⟨I1, p, hini, hp1, hp2⟩ := h.prev hw h0
  have hwp : ws = I1 ++ p :: [t] := by rw [hw, hini]; simp
  have hpt := (h.lt_of hwp).2 t (by simp)
  have htm : t ∈ ws := by rw [hw]; simp
  have hon := h.on t htm
  have hnum := h.num t.1
  have hrz : ∀ b, ¬ rem z b := fun b hr => by
    obtain ⟨_, s, h1, h2⟩ := h.rleft z b hr
    rw [hw] at h1
    rcases List.mem_append.1 h1 with h3 | h3
    · have := (h.lt_of (A := ini) (t := t) (B := []) (by rw [hw])).1 s h3
      rw [h2] at this; omega
    · rw [List.mem_singleton] at h3; subst h3; subst h2; exact hz b hr
  have hz' : N z' ≠ 0 := fun e => hrz z' (h.unn z z' ha (by omega) e)
  by_cases hlt : N t.1 ≤ N z'
  · exact .inl hlt
  · right
    refine Classical.byContradiction fun hne => ?_
    have h1 := h.lb ini t [] hw z hzD (fun q hq => by cases hq) z' ha hz' (by omega) hne (hrz z')
    have hpN : N p.1 < N z' := by
      have h2 : N p.1 ≤ N z' := by rw [← hp1]; omega
      have h3 : N p.1 ≠ N z' := fun e => hne (by rw [hp1]; exact (h.inj _ _ (by have := h.on p (by rw [hwp]; simp); exact this) e).symm)
      omega
    have := h.clos t htm z' hz' (by omega) (fun s hs e => by
      rw [hwp] at hs
      rcases List.mem_append.1 hs with h4 | h4
      · have := (h.lt_of hwp).1 s h4; rw [e] at this; omega
      · simp only [List.mem_cons, List.not_mem_nil, or_false] at h4
        rcases h4 with rfl | rfl
        · rw [e] at hpN; omega
        · rw [e] at hlt; omega) z (hA.sym _ _ ha)
    omega
/-- The last node is left, and the edges since it was reached are a block. -/
theorem Bi.leavePop (h : Bi adj N L cd ws rem edges out) (hA : AdjOk adj) {ini : List (Int × Int)} {t : Int × Int} (hw : ws = ini ++ [t]) (h0 : ini ≠ []) (hz : ∀ b, ¬ rem t.1 b) (hlow : N t.2 ≤ L t.1) :
    Bi adj N (upd L t.2 (minI (L t.2) (L t.1))) cd ini rem (edges.take (edges.idxOf (⟨t.2, t.1⟩ : Pt))) (out ++ [sortD ((edges.drop (edges.idxOf (⟨t.2, t.1⟩ : Pt))).map normE)]) := by
  have hW := h.leaveW hA hw h0 hz
  obtain ⟨I1, p, hini, hp1, hp2⟩ := h.prev hw h0
  have hwp : ws = I1 ++ p :: [t] := by rw [hw, hini]; simp
  have hpt := (h.lt_of hwp).2 t (by simp)
  have hdec : ∀ A s B, ini = A ++ s :: B → ws = A ++ s :: (B ++ [t]) := fun A s B e => by rw [hw, e]; simp
  have htm : t ∈ ws := by rw [hw]; simp
  have hte := h.te ini t [] hw h0
  obtain ⟨hse1, hse2⟩ := h.se ini t [] hw h0
  have hil := List.idxOf_lt_length_of_mem hte
  generalize hi : edges.idxOf (⟨t.2, t.1⟩ : Pt) = i at *
  have hB := fun e => (sortD_perm ((edges.drop i).map normE)).mem_iff (a := e)
  have hP : ((out ++ [sortD ((edges.drop i).map normE)]).flatten ++ (edges.take i).map normE).Perm (out.flatten ++ edges.map normE) := by
    rw [List.flatten_append, List.flatten_singleton, List.append_assoc]
    refine List.Perm.append_left _ ?_
    have e1 : edges.map normE = (edges.take i).map normE ++ (edges.drop i).map normE := by rw [← List.map_append, List.take_append_drop]
    rw [e1]
    exact ((sortD_perm _).append_right _).trans List.perm_append_comm
  have hmem := fun e => hP.mem_iff (a := e)
  have htd : (⟨t.2, t.1⟩ : Pt) ∈ edges.drop i := by
    have h1 : (edges.drop i)[0]'(by rw [List.length_drop]; omega) = ⟨t.2, t.1⟩ := by
      rw [List.getElem_drop]
      subst hi
      simp only [Nat.add_zero]
      exact List.getElem_idxOf hil
    exact h1 ▸ List.getElem_mem _
  have hbelow := fun {z z' : Int} => h.below hA hw h0 hz hlow (z := z) (z' := z')
  have huD : ¬ N t.1 ≤ N t.2 := by rw [hp1]; omega
  -- the block is closed
  have hshut : ∀ e ∈ sortD ((edges.drop i).map normE), ∀ f, JoinE adj e f → f ∈ sortD ((edges.drop i).map normE) := fun e he f hJ => by
    have hJ' := hJ
    obtain ⟨c, x, y, h1, h2, hxy, hcx, hcy, hpth⟩ := hJ
    rw [hB] at he
    obtain ⟨e0, he0, hee⟩ := List.mem_map.1 he
    have hD0 := hse2 e0 he0
    -- an end of f lies below
    have hfD : (N t.1 ≤ N c ∨ N t.1 ≤ N y) := by
      have hends : N t.1 ≤ N c ∨ N t.1 ≤ N x := by
        have e1 : edgeP e0.u e0.v = edgeP c x := by rw [← h1]; exact hee
        rcases edgeP_inj e1 with ⟨e2, e3⟩ | ⟨e2, e3⟩
        · rw [e2, e3] at hD0; exact hD0
        · rw [e2, e3] at hD0; exact hD0.symm
      by_cases hcu : c = t.2
      · right
        have hx : N t.1 ≤ N x := hends.resolve_left (by rw [hcu]; exact huD)
        exact hpth.keep hx fun a b ha hab hb => (hbelow ha hab).resolve_right fun e5 => hb (e5.trans hcu.symm)
      · left
        rcases hends with h3 | h3
        · exact h3
        · exact (hbelow h3 (hA.sym _ _ hcx)).resolve_right hcu
    have hfP : f ∈ out.flatten ++ edges.map normE := by
      have key : ∀ a b, adj a b → N t.1 ≤ N b → N a ≠ 0 → N a < N b → edgeP a b ∈ out.flatten ++ edges.map normE := fun a b hab hb ha hlt => by
        rw [h.cnt a b hab ha hlt]
        right
        intro hr
        obtain ⟨_, s, h3, h4⟩ := h.rleft b a hr
        rw [hw] at h3
        rcases List.mem_append.1 h3 with h5 | h5
        · have := (h.lt_of (A := ini) (t := t) (B := []) (by rw [hw])).1 s h5
          rw [h4] at this; omega
        · rw [List.mem_singleton] at h5; subst h5; subst h4; exact hz a hr
      have hc0 : N c ≠ 0 ∧ N y ≠ 0 := by
        have hon := h.on t htm
        have hn1 := h.num t.1
        have hu0 : N t.2 ≠ 0 := by rw [hp1]; exact h.on p (by rw [hwp]; simp)
        rcases hfD with h3 | h3
        · refine ⟨by omega, ?_⟩
          rcases hbelow h3 hcy with h4 | h4
          · omega
          · rw [h4]; exact hu0
        · refine ⟨?_, by omega⟩
          rcases hbelow h3 (hA.sym _ _ hcy) with h4 | h4
          · omega
          · rw [h4]; exact hu0
      rcases Int.lt_trichotomy (N c) (N y) with h3 | h3 | h3
      · rw [h2]; exact key c y hcy (by omega) hc0.1 h3
      · exact absurd (h.inj c y hc0.1 h3) (fun e => hA.irr c (by rw [← e] at hcy; exact hcy))
      · rw [h2, edgeP_comm]; exact key y c (hA.sym _ _ hcy) (by omega) hc0.2 h3
    have heP : e ∈ edges.map normE := List.mem_map.2 ⟨e0, List.mem_of_mem_drop he0, hee⟩
    rcases List.mem_append.1 hfP with h3 | h3
    · obtain ⟨b, hb, hfb⟩ := List.mem_flatten.1 h3
      have := h.shut b hb f hfb e (hJ'.symm hA.sym)
      exact absurd rfl ((List.nodup_append.1 h.nd).2.2 e (List.mem_flatten.2 ⟨b, hb, this⟩) e heP)
    · obtain ⟨f0, hf0, hff⟩ := List.mem_map.1 h3
      rw [hB, List.mem_map]
      refine ⟨f0, ?_, hff⟩
      rw [← List.take_append_drop i edges] at hf0
      rcases List.mem_append.1 hf0 with h4 | h4
      · have h5 := hse1 f0 h4
        have e1 : edgeP f0.u f0.v = edgeP c y := by rw [← h2]; exact hff
        rcases edgeP_inj e1 with ⟨e2, e3⟩ | ⟨e2, e3⟩
        · rw [e2, e3] at h5; omega
        · rw [e2, e3] at h5; omega
      · exact h4
  have heqv : ∀ e ∈ sortD ((edges.drop i).map normE), EqvE adj e (edgeP t.2 t.1) := fun e he => by
    rw [hB] at he
    obtain ⟨e0, he0, rfl⟩ := List.mem_map.1 he
    exact h.seg ini t [] hw h0 e0 (List.mem_of_mem_drop he0) (hse2 e0 he0) fun q hq => by cases hq
  have hte' : ∀ A s B, ini = A ++ s :: B → A ≠ [] → (⟨s.2, s.1⟩ : Pt) ∈ edges.take i ∧ True := fun A s B e hA0 => by
    refine ⟨?_, trivial⟩
    have h1 := h.te A s (B ++ [t]) (hdec A s B e) hA0
    have hlt := (h.lt_of (A := ini) (t := t) (B := []) (by rw [hw])).1
    have hs1 := hlt s (by rw [e]; simp)
    have hs2 : N s.2 < N t.1 := by
      rcases List.eq_nil_or_concat A with rfl | ⟨I2, q, rfl⟩
      · exact absurd rfl hA0
      · rw [List.concat_eq_append] at *
        have h5 := h.link I2 q s (B ++ [t]) (by rw [hw, e]; simp)
        rw [h5.1]
        exact hlt q (by rw [e]; simp)
    rw [← List.take_append_drop i edges] at h1
    rcases List.mem_append.1 h1 with h3 | h3
    · exact h3
    · have := hse2 _ h3
      simp only at this; omega
  refine ⟨hW.num, hW.inj, hW.on, hW.incr, hW.link, hW.root, hW.rleft, hW.unn, fun a b hab ha hl => ?_, hP.nodup_iff.2 h.nd, fun e he => h.pin e ((hmem e).1 he), fun e he => h.ed e (List.mem_of_mem_take he), hW.clos, hW.lw, hW.lb, fun A s B e hA0 => ?_, fun A s B e hA0 => ?_, fun A s B e hA0 k hk hse hsB => ?_, fun e he => ?_, fun b hb => ?_, fun b hb => ?_, fun b hb => ?_⟩
  · rw [hmem, h.cnt a b hab ha hl, hw, List.mem_append, List.mem_singleton]
    constructor
    · rintro ((h1 | h1) | h1)
      · exact .inl h1
      · exact .inr fun h2 => by rw [← h1] at hz; exact hz _ h2
      · exact .inr h1
    · exact fun h1 => h1.imp .inl id
  · have hin := hte' A s B e hA0
    exact hin.1
  · obtain ⟨h1, h2⟩ := hte' A s B e hA0
    obtain ⟨g1, g2⟩ := h.se A s (B ++ [t]) (hdec A s B e) hA0
    have hj : edges.idxOf (⟨s.2, s.1⟩ : Pt) = (edges.take i).idxOf (⟨s.2, s.1⟩ : Pt) := by
      have e2 := idxOf_l (m := edges.drop i) h1
      rw [List.take_append_drop] at e2; exact e2
    rw [← hj]
    refine ⟨fun k hk => g1 k ?_, fun k hk => g2 k ?_⟩
    · rw [List.take_take] at hk
      have hji := List.idxOf_lt_length_of_mem h1
      rw [← hj, List.length_take] at hji
      rw [Nat.min_eq_left (by omega)] at hk
      exact hk
    · rw [List.drop_take] at hk; exact List.mem_of_mem_take hk
  · refine h.seg A s (B ++ [t]) (hdec A s B e) hA0 k (List.mem_of_mem_take hk) hse fun q hq => ?_
    rcases List.mem_append.1 hq with hq | hq
    · exact hsB q hq
    · rw [List.mem_singleton] at hq; rw [hq]; exact hse1 k hk
  · obtain ⟨A, s, B, h1, h2, h3⟩ := h.own e (List.mem_of_mem_take he)
    have h5 := hse1 e he
    rcases split_last (hw.symm.trans h1) with ⟨rfl, rfl, rfl⟩ | ⟨B0, rfl, h4⟩
    · omega
    · exact ⟨A, s, B0, h4, h2, h3⟩
  · rcases List.mem_append.1 hb with hb | hb
    · exact h.full b hb
    · rw [List.mem_singleton] at hb; subst hb
      intro e
      have : normE ⟨t.2, t.1⟩ ∈ sortD ((edges.drop i).map normE) := (hB _).2 (List.mem_map_of_mem htd)
      rw [e] at this; cases this
  · rcases List.mem_append.1 hb with hb | hb
    · exact h.shut b hb
    · rw [List.mem_singleton] at hb; subst hb; exact hshut
  · rcases List.mem_append.1 hb with hb | hb
    · exact h.eqv b hb
    · rw [List.mem_singleton] at hb; subst hb
      exact fun e he f hf => (heqv e he).trans ((heqv f hf).symm hA.sym)
/-- A first node is entered. -/
theorem Bi.first (h : Bi adj N L cd [] rem [] out) (hA : AdjOk adj) {w : Int} (h0 : N w = 0) (hcd : 0 ≤ cd) : Bi adj (upd N w (cd + 1)) (upd L w (cd + 1)) (cd + 1) [(w, -1)] (fun a b => a = w ∧ adj w b) [] out := by
  have hne : ∀ x, N x ≠ 0 → x ≠ w := fun x hx e => hx (e ▸ h0)
  have hself : upd N w (cd + 1) w = cd + 1 := upd_self _ _ _
  have hbd := h.num
  have hrem : ∀ a b, ¬ rem a b := fun a b hr => by obtain ⟨_, s, h1, _⟩ := h.rleft a b hr; cases h1
  have hall : ∀ a b, adj a b → N a ≠ 0 → N b ≠ 0 := fun a b hab ha hb => hrem a b (h.unn a b hab ha hb)
  have one : ∀ {A : List (Int × Int)} {s : Int × Int} {B : List (Int × Int)}, [((w, -1) : Int × Int)] = A ++ s :: B → A = [] ∧ s = (w, -1) ∧ B = [] := fun {A s B} e => by
    cases A with
    | nil => have := List.cons.inj e; exact ⟨rfl, this.1.symm, this.2.symm⟩
    | cons a A => simp at e
  have hle : ∀ x, upd N w (cd + 1) x ≤ cd + 1 := fun x => by
    unfold upd; split
    · omega
    · have := hbd x; omega
  refine ⟨fun v => ?_, fun u v hu huv => ?_, fun s hs => ?_, by simp, fun A s r B e => ?_, fun s B e => ?_, fun a b hr => ?_, fun a b hab ha hb => ?_, fun a b hab ha hlt => ?_, h.nd, fun e he => ?_, fun e he => (by cases he), fun s hs y hy hlt hoff x hyx => ?_, fun A s B e => ?_, fun A s B e x hx hB y hxy hy hlt hys hr => ?_, fun A s B e hA0 => absurd (one e).1 hA0, fun A s B e hA0 => absurd (one e).1 hA0, fun A s B e hA0 => absurd (one e).1 hA0, fun e he => (by cases he), h.full, h.shut, h.eqv⟩
  · have := hle v
    refine ⟨?_, this⟩
    unfold upd; split
    · omega
    · exact (hbd v).1
  · by_cases e1 : u = w
    · by_cases e2 : v = w
      · rw [e1, e2]
      · rw [e1, hself, upd_ne e2] at huv; have := hbd v; omega
    · by_cases e2 : v = w
      · rw [e2, hself, upd_ne e1] at huv; have := hbd u; omega
      · rw [upd_ne e1] at hu huv; rw [upd_ne e2] at huv; exact h.inj u v hu huv
  · rw [List.mem_singleton] at hs; subst hs; show upd N w (cd + 1) w ≠ 0; rw [hself]; omega
  · have := one e; simp at this
  · have := List.cons.inj e; rw [← this.1]
  · exact ⟨by rw [hr.1]; exact hr.2, (w, -1), by simp, hr.1.symm⟩
  · have hbw : b ≠ w := fun e => by subst e; rw [hself] at hb; omega
    rw [upd_ne hbw] at hb
    by_cases e1 : a = w
    · exact ⟨e1, e1 ▸ hab⟩
    · rw [upd_ne e1] at ha; exact absurd hb (hall a b hab ha)
  · have haw : a ≠ w := fun e => by subst e; rw [hself] at hlt; have := hle b; omega
    rw [upd_ne haw] at ha hlt
    have hbw : b ≠ w := fun e => by subst e; exact hall a b hab ha h0
    rw [upd_ne hbw] at hlt
    rw [h.cnt a b hab ha hlt]
    exact ⟨fun _ => .inr fun hr => hbw hr.1, fun _ => .inr (hrem b a)⟩
  · obtain ⟨a, b, e1, e2, e3, e4⟩ := h.pin e he
    exact ⟨a, b, e1, e2, by rw [upd_ne (hne a e3)]; exact e3, by rw [upd_ne (hne b e4)]; exact e4⟩
  · rw [List.mem_singleton] at hs; subst hs
    have hyw : y ≠ w := fun e => hoff (w, -1) (by simp) e.symm
    rw [upd_ne hyw] at hy
    have hx0 := hall y x hyx hy
    show upd N w (cd + 1) x < upd N w (cd + 1) w
    rw [hself, upd_ne (hne x hx0)]; have := hbd x; omega
  · obtain ⟨rfl, rfl, rfl⟩ := one e
    exact ⟨w, by show upd L w (cd + 1) w = _; rw [upd_self, hself], .inl rfl⟩
  · obtain ⟨rfl, rfl, rfl⟩ := one e
    have hxw : x = w := Classical.byContradiction fun e => by
      have hx' : upd N w (cd + 1) w ≤ upd N w (cd + 1) x := hx
      rw [hself, upd_ne e] at hx'; have := hbd x; omega
    subst hxw
    exact absurd ⟨rfl, hxy⟩ hr
end
end Go.Sl
/- The search for blocks: what its steps keep, in words of edges on common cycles; the blocks of a graph. No Go. No conditions. -/
namespace Go.Sl
set_option linter.unusedVariables false
set_option linter.unusedSimpArgs false
set_option linter.unusedSectionVars false
def adjR (rows : List (BitVec 64)) (a b : Int) : Prop := 0 ≤ a ∧ a < rows.length ∧ b ∈ listB (at_ rows a)
def nf (l : List Int) (x : Int) : Int := if 0 ≤ x then at_ l x else 0
theorem nf_at {l : List Int} {x : Int} (h : 0 ≤ x) : nf l x = at_ l x := if_pos h
theorem nf_set {l : List Int} {w c : Int} (h0 : 0 ≤ w) (h1 : w < l.length) : nf (l.set w.toNat c) = upd (nf l) w c := by
  funext x
  by_cases hx : 0 ≤ x
  · rw [nf_at hx, at_set _ _ _ _ h0 hx h1]
    by_cases e : w = x
    · rw [if_pos e, ← e, upd_self]
    · rw [if_neg e, upd_ne (fun e' => e e'.symm), nf_at hx]
  · have e1 : nf (l.set w.toNat c) x = 0 := if_neg hx
    have e2 : nf l x = 0 := if_neg hx
    rw [e1, upd_ne (by omega), e2]
def pairs (w : List Vis) : List (Int × Int) := w.map fun t => (t.node, t.src)
def remS (w : List Vis) (a b : Int) : Prop := ∃ t ∈ w, t.node = a ∧ b ∈ listB t.left
def BiS (rows : List (BitVec 64)) (S : Srch) : Prop := Bi (adjR rows) (nf S.num) (nf S.low) S.cd (pairs S.way) (remS S.way) S.edges S.out
theorem pairs_snoc (ini : List Vis) (t : Vis) : pairs (ini ++ [t]) = pairs ini ++ [(t.node, t.src)] := by unfold pairs; rw [List.map_append]; rfl
theorem mem_pairs {w : List Vis} {p : Int × Int} : p ∈ pairs w ↔ ∃ t ∈ w, (t.node, t.src) = p := by unfold pairs; rw [List.mem_map]
theorem rem_last {ini : List Vis} {t : Vis} (hn : ∀ s ∈ ini, s.node ≠ t.node) {a b : Int} (hl : t.left ≠ 0#64) : remS (ini ++ [({ t with left := t.left &&& (t.left - 1#64) } : Vis)]) a b ↔ remS (ini ++ [t]) a b ∧ ¬ (a = t.node ∧ b = tzB t.left) := by
  constructor
  · rintro ⟨s, hs, rfl, hb⟩
    rcases List.mem_append.1 hs with h1 | h1
    · exact ⟨⟨s, List.mem_append_left _ h1, rfl, hb⟩, fun e => hn s h1 e.1⟩
    · rw [List.mem_singleton] at h1; subst h1
      exact ⟨⟨t, by simp, rfl, (bits_of hl).2 (.inr hb)⟩, fun e => bits_new hl (e.2 ▸ hb)⟩
  · rintro ⟨⟨s, hs, rfl, hb⟩, hne⟩
    rcases List.mem_append.1 hs with h1 | h1
    · exact ⟨s, List.mem_append_left _ h1, rfl, hb⟩
    · rw [List.mem_singleton] at h1; subst h1
      exact ⟨_, List.mem_append_right _ List.mem_cons_self, rfl, ((bits_of hl).1 hb).resolve_left fun e => hne ⟨rfl, e⟩⟩
theorem rem_leave {ini : List Vis} {t : Vis} (hl : t.left = 0#64) {a b : Int} : remS (ini ++ [t]) a b ↔ remS ini a b := by
  constructor
  · rintro ⟨s, hs, rfl, hb⟩
    rcases List.mem_append.1 hs with h1 | h1
    · exact ⟨s, h1, rfl, hb⟩
    · rw [List.mem_singleton] at h1; subst h1
      rw [hl, listB_zero] at hb; cases hb
  · rintro ⟨s, hs, h⟩; exact ⟨s, List.mem_append_left _ hs, h⟩
theorem BiS.step {rows : List (BitVec 64)} {S : Srch} (hA : AdjOk (adjR rows)) (hk : DfsOk rows S) (h : BiS rows S) {ini : List Vis} {t : Vis} (hw : S.way = ini ++ [t]) : BiS rows (stepT rows S ini t) := by
  have htm : t ∈ S.way := by rw [hw]; simp
  obtain ⟨w1, w2, w3, w4⟩ := hk.way t htm
  have hnl := hk.nl
  have hll := hk.ll
  have hcd := hk.cd0
  have hws : pairs S.way = pairs ini ++ [(t.node, t.src)] := by rw [hw, pairs_snoc]
  have hn : ∀ s ∈ ini, s.node ≠ t.node := fun s hs e => by
    have := (Bi.lt_of (h : Bi _ _ _ _ _ _ _ _) (A := pairs ini) (t := (t.node, t.src)) (B := []) hws).1 (s.node, s.src) (mem_pairs.2 ⟨s, hs, rfl⟩)
    simp only [e] at this; omega
  unfold stepT
  by_cases hl : t.left ≠ 0#64
  · rw [if_pos hl]
    have hb := hk.bit htm hl
    have hr : remS S.way t.node (tzB t.left) := ⟨t, htm, rfl, (bits_of hl).2 (.inl rfl)⟩
    have hadj := (h.rleft _ _ hr).1
    have hwn : ∀ (S' : List Vis), S' = ini ++ [({ t with left := t.left &&& (t.left - 1#64) } : Vis)] → pairs S' = pairs S.way := fun S' e => by rw [e, pairs_snoc, hws]
    have hrl : ∀ a b, (remS S.way a b ∧ ¬ (a = t.node ∧ b = tzB t.left)) ↔ remS (ini ++ [({ t with left := t.left &&& (t.left - 1#64) } : Vis)]) a b := fun a b => by rw [rem_last hn hl, hw]
    by_cases c1 : tzB t.left = t.src
    · rw [if_pos c1]
      have hsrc : nf S.num t.src ≠ 0 := by
        by_cases hi : pairs ini = []
        · have := h.root (t.node, t.src) [] (by rw [hws, hi]; rfl)
          simp only at this; omega
        · obtain ⟨I1, p, _, hp, _⟩ := Bi.prev h hws hi
          have := h.on p (by rw [hws]; rename_i hp2 _; rw [hp2]; simp)
          simp only at hp; rw [hp]; exact this
      show Bi _ _ _ _ (pairs (ini ++ [({ t with left := t.left &&& (t.left - 1#64) } : Vis)])) _ _ _
      rw [hwn _ rfl]
      exact Bi.congr (Bi.look h hws (w := tzB t.left) (by rw [c1]; exact hsrc) (.inl c1)) hrl
    rw [if_neg c1]
    by_cases c2 : at_ S.num (tzB t.left) = 0
    · rw [if_pos c2]
      show Bi (adjR rows) (nf (S.num.set (tzB t.left).toNat (S.cd + 1))) (nf (S.low.set (tzB t.left).toNat (S.cd + 1))) (S.cd + 1) (pairs (ini ++ [({ t with left := t.left &&& (t.left - 1#64) } : Vis)] ++ [⟨tzB t.left, t.node, at_ rows (tzB t.left)⟩])) (remS (ini ++ [({ t with left := t.left &&& (t.left - 1#64) } : Vis)] ++ [⟨tzB t.left, t.node, at_ rows (tzB t.left)⟩])) (S.edges ++ [⟨t.node, tzB t.left⟩]) S.out
      rw [nf_set hb.1 (by rw [hnl]; exact hb.2), nf_set hb.1 (by rw [hll]; exact hb.2), pairs_snoc, hwn _ rfl]
      refine Bi.congr (Bi.enter h hA hws hadj (by rw [nf_at hb.1]; exact c2) hcd) fun a b => ?_
      rw [hrl]
      constructor
      · rintro (⟨s, hs, h1⟩ | ⟨rfl, h1⟩)
        · exact ⟨s, List.mem_append_left _ hs, h1⟩
        · exact ⟨_, List.mem_append_right _ List.mem_cons_self, rfl, h1.2.2⟩
      · rintro ⟨s, hs, h1, h2⟩
        rcases List.mem_append.1 hs with h3 | h3
        · exact .inl ⟨s, h3, h1, h2⟩
        · rw [List.mem_singleton] at h3; subst h3
          exact .inr ⟨h1.symm, hb.1, hb.2, h2⟩
    rw [if_neg c2]
    by_cases c3 : at_ S.num (tzB t.left) < at_ S.num t.node
    · rw [if_pos c3]
      show Bi (adjR rows) (nf S.num) (nf (S.low.set t.node.toNat (minI (at_ S.low t.node) (at_ S.num (tzB t.left))))) S.cd (pairs (ini ++ [({ t with left := t.left &&& (t.left - 1#64) } : Vis)])) (remS (ini ++ [({ t with left := t.left &&& (t.left - 1#64) } : Vis)])) (S.edges ++ [⟨t.node, tzB t.left⟩]) S.out
      rw [nf_set w1.1 (by rw [hll]; exact w1.2), hwn _ rfl, ← nf_at (l := S.low) w1.1, ← nf_at (l := S.num) hb.1]
      exact Bi.congr (Bi.back h hA hws hr (by rw [nf_at hb.1]; exact c2) (by rw [nf_at hb.1]; show _ < nf S.num t.node; rw [nf_at w1.1]; exact c3) c1) hrl
    · rw [if_neg c3]
      show Bi _ _ _ _ (pairs (ini ++ [({ t with left := t.left &&& (t.left - 1#64) } : Vis)])) _ _ _
      rw [hwn _ rfl]
      exact Bi.congr (Bi.look h hws (w := tzB t.left) (by rw [nf_at hb.1]; exact c2) (.inr (by show nf S.num t.node ≤ _; rw [nf_at w1.1, nf_at hb.1]; omega))) hrl
  · rw [if_neg hl]
    have hl0 : t.left = 0#64 := Classical.not_not.1 hl
    have hz : ∀ b, ¬ remS S.way t.node b := fun b hr => by
      rw [hw, rem_leave hl0] at hr
      obtain ⟨s, hs, e, _⟩ := hr
      exact hn s hs e
    have hrl : ∀ a b, remS S.way a b ↔ remS ini a b := fun a b => by rw [hw, rem_leave hl0]
    by_cases c1 : t.src < 0
    · rw [if_pos c1]
      have hini := hk.last hw c1
      subst hini
      obtain ⟨h1, h2⟩ := Bi.leaveRoot h (t := (t.node, t.src)) (by rw [hw]; rfl) hz
      exact Bi.congr h1 hrl
    rw [if_neg c1]
    have hini := hk.more hw c1
    have hpi : pairs ini ≠ [] := fun e => hini (by unfold pairs at e; exact List.map_eq_nil_iff.1 e)
    have hlow : (S.low.set t.src.toNat (minI (at_ S.low t.src) (at_ S.low t.node))).length = rows.length := by rw [List.length_set]; exact hll
    have hsn : t.src ≠ t.node := fun e => by
      obtain ⟨I1, p, hp0, hp, _⟩ := Bi.prev h hws hpi
      have := (Bi.lt_of h (A := pairs ini) (t := (t.node, t.src)) (B := []) hws).1 p (by rw [hp0]; simp)
      simp only at hp this; rw [← hp, e] at this; omega
    have hat : at_ (S.low.set t.src.toNat (minI (at_ S.low t.src) (at_ S.low t.node))) t.node = at_ S.low t.node := by rw [at_set _ _ _ _ (by omega) w1.1 (by rw [hll]; exact w2), if_neg hsn]
    rw [hat]
    have hL : nf (S.low.set t.src.toNat (minI (at_ S.low t.src) (at_ S.low t.node))) = upd (nf S.low) t.src (minI (nf S.low t.src) (nf S.low t.node)) := by
      rw [nf_set (by omega) (by rw [hll]; exact w2), nf_at w1.1, nf_at (by omega : 0 ≤ t.src)]
    by_cases c2 : at_ S.num t.src ≤ at_ S.low t.node
    · rw [if_pos c2]
      show Bi (adjR rows) (nf S.num) (nf (S.low.set t.src.toNat (minI (at_ S.low t.src) (at_ S.low t.node)))) S.cd (pairs ini) (remS ini) (S.edges.take (S.edges.idxOf (⟨t.src, t.node⟩ : Pt))) (S.out ++ [sortD ((S.edges.drop (S.edges.idxOf (⟨t.src, t.node⟩ : Pt))).map normE)])
      rw [hL]
      exact Bi.congr (Bi.leavePop h hA hws hpi hz (by show nf S.num t.src ≤ nf S.low t.node; rw [nf_at w1.1, nf_at (by omega : 0 ≤ t.src)]; exact c2)) hrl
    · rw [if_neg c2]
      show Bi (adjR rows) (nf S.num) (nf (S.low.set t.src.toNat (minI (at_ S.low t.src) (at_ S.low t.node)))) S.cd (pairs ini) (remS ini) S.edges S.out
      rw [hL]
      exact Bi.congr (Bi.leaveFar h hA hws hpi hz (by show nf S.low t.node < nf S.num t.src; rw [nf_at w1.1, nf_at (by omega : 0 ≤ t.src)]; omega)) hrl
theorem BiS.run {rows : List (BitVec 64)} (hA : AdjOk (adjR rows)) : ∀ (n : Nat) (S : Srch), DfsOk rows S → BiS rows S → DfsOk rows (runF rows n S) ∧ BiS rows (runF rows n S)
  | 0, S, hk, h => ⟨hk, h⟩
  | n + 1, S, hk, h => by
    rw [runF_succ]
    by_cases e : S.way = []
    · rw [if_pos e]; exact ⟨hk, h⟩
    · rw [if_neg e]
      exact BiS.run hA n _ (hk.step e).1 (BiS.step hA hk h (Srch.way_eq e))
theorem run_ends {rows : List (BitVec 64)} : ∀ (n : Nat) (S : Srch), DfsOk rows S → mea S ≤ n → (runF rows n S).way = []
  | 0, S, hk, hm => by
    refine Classical.byContradiction fun e => ?_
    have := (hk.step e).2; omega
  | n + 1, S, hk, hm => by
    rw [runF_succ]
    by_cases e : S.way = []
    · rw [if_pos e]; exact e
    · rw [if_neg e]; exact run_ends n _ (hk.step e).1 (by have := (hk.step e).2; omega)
theorem EndsAt.eq {rows : List (BitVec 64)} {S T : Srch} (h : EndsAt rows S T) (hk : DfsOk rows S) {n : Nat} (hm : mea S ≤ n) : T = runF rows n S := h.uniq ⟨n, rfl, run_ends n S hk hm⟩
structure RowsG (rows : List (BitVec 64)) : Prop where
  n64 : rows.length ≤ 64
  bits : ∀ (v : Int) (k : Nat), 0 ≤ v → v < rows.length → (at_ rows v).getLsbD k = true → k < rows.length
  adj : AdjOk (adjR rows)
theorem BiS.first {rows : List (BitVec 64)} {S : Srch} (hA : AdjOk (adjR rows)) (hk : DfsOk rows S) (h : BiS rows S) (hw : S.way = []) {v : Int} (hv : 0 ≤ v ∧ v < rows.length) (h0 : at_ S.num v = 0) : BiS rows (S.enter rows v (-1)) := by
  have hnl := hk.nl
  have hll := hk.ll
  have hed : S.edges = [] := List.eq_nil_iff_forall_not_mem.2 fun e he => by
    obtain ⟨A, s, B, h1, _⟩ := Bi.own h e he
    rw [hw] at h1
    have : ([] : List (Int × Int)) = A ++ s :: B := h1
    simp at this
  have h' : Bi (adjR rows) (nf S.num) (nf S.low) S.cd [] (remS S.way) [] S.out := by
    have h2 : Bi (adjR rows) (nf S.num) (nf S.low) S.cd (pairs S.way) (remS S.way) S.edges S.out := h
    rw [hed] at h2
    have e : pairs S.way = [] := by rw [hw]; rfl
    rw [e] at h2; exact h2
  show Bi (adjR rows) (nf (S.num.set v.toNat (S.cd + 1))) (nf (S.low.set v.toNat (S.cd + 1))) (S.cd + 1) (pairs (S.way ++ [⟨v, -1, at_ rows v⟩])) (remS (S.way ++ [⟨v, -1, at_ rows v⟩])) S.edges S.out
  rw [nf_set hv.1 (by rw [hnl]; exact hv.2), nf_set hv.1 (by rw [hll]; exact hv.2), hw, hed]
  refine Bi.congr (Bi.first h' hA (by rw [nf_at hv.1]; exact h0) hk.cd0) fun a b => ?_
  constructor
  · rintro ⟨rfl, h1⟩; exact ⟨_, List.mem_cons_self, rfl, h1.2.2⟩
  · rintro ⟨s, hs, h1, h2⟩
    have : s = ⟨v, -1, at_ rows v⟩ := List.mem_singleton.1 hs
    subst this
    exact ⟨h1.symm, hv.1, hv.2, h2⟩
/-- The blocks of a graph: all edges, once each, in the classes of those on common cycles. -/
structure BlkP (adj : Int → Int → Prop) (out : List (List Pt)) : Prop where
  full : ∀ b ∈ out, b ≠ []
  nd : out.flatten.Nodup
  mem : ∀ e, e ∈ out.flatten ↔ ∃ a b, e = edgeP a b ∧ adj a b
  shut : ∀ b ∈ out, ∀ e ∈ b, ∀ f, EqvE adj e f → f ∈ b
  eqv : ∀ b ∈ out, ∀ e ∈ b, ∀ f ∈ b, EqvE adj e f
end Go.Sl
/- The blocks of a graph in their order. No Go. No conditions. -/
namespace Go.Sl
set_option linter.unusedVariables false
set_option linter.unusedSimpArgs false
def hd0 (b : List Pt) : Pt := at_ b 0
theorem hd0_mem {b : List Pt} (h : b ≠ []) : hd0 b ∈ b := at_mem (Int.le_refl _) (by have := List.length_pos_iff.2 h; omega)
end Go.Sl
/- Joints, bridges and blocks in words of paths; classes of edges in their order. No Go. No conditions. -/
namespace Go.Sl
set_option linter.unusedVariables false
set_option linter.unusedSimpArgs false
section
variable {adj : Int → Int → Prop}
end
section
variable {adj : Int → Int → Prop}
/-- Edges, in classes that stand in their order. -/
structure ClsP (adj : Int → Int → Prop) (es : List Pt) (out : List (List Pt)) : Prop where
  full : ∀ b ∈ out, b ≠ []
  asc : ∀ b ∈ out, b.Pairwise Pt.lt
  hds : out.Pairwise fun a b => Pt.lt (hd0 a) (hd0 b)
  sub : ∀ b ∈ out, ∀ e ∈ b, e ∈ es
  cov : ∀ e ∈ es, ∃ b ∈ out, e ∈ b
  cls : ∀ b ∈ out, ∀ e ∈ b, ∀ f ∈ es, (f ∈ b ↔ EqvE adj e f)
theorem ClsP.half {es : List Pt} {out out' : List (List Pt)} (h : ClsP adj es out) (h' : ClsP adj es out') : ∀ b ∈ out, b ∈ out' := fun b hb => by
  have h1 := hd0_mem (h.full b hb)
  obtain ⟨b', hb', h2⟩ := h'.cov _ (h.sub b hb _ h1)
  have : b = b' := by
    refine Pt.lin.uniq (h.asc b hb) (h'.asc b' hb') fun e => ?_
    constructor
    · intro he
      have h3 := h.sub b hb e he
      exact (h'.cls b' hb' _ h2 e h3).2 ((h.cls b hb _ h1 e h3).1 he)
    · intro he
      have h3 := h'.sub b' hb' e he
      exact (h.cls b hb _ h1 e h3).2 ((h'.cls b' hb' _ h2 e h3).1 he)
  rw [this]; exact hb'
theorem hd_lin : ∀ {l m : List (List Pt)}, (l.Pairwise fun a b => Pt.lt (hd0 a) (hd0 b)) → (m.Pairwise fun a b => Pt.lt (hd0 a) (hd0 b)) → (∀ b, b ∈ l ↔ b ∈ m) → l = m
  | [], [], _, _, _ => rfl
  | [], b :: m, _, _, h => absurd ((h b).2 List.mem_cons_self) List.not_mem_nil
  | a :: l, [], _, _, h => absurd ((h a).1 List.mem_cons_self) List.not_mem_nil
  | a :: l, b :: m, hl, hm, h => by
    obtain ⟨hl1, hl2⟩ := List.pairwise_cons.1 hl
    obtain ⟨hm1, hm2⟩ := List.pairwise_cons.1 hm
    have e : a = b := by
      rcases List.mem_cons.1 ((h a).1 List.mem_cons_self) with h1 | h1
      · exact h1
      · rcases List.mem_cons.1 ((h b).2 List.mem_cons_self) with h2 | h2
        · exact h2.symm
        · exact absurd (Pt.lin.tr _ _ _ (hm1 a h1) (hl1 b h2)) (Pt.lin.irr _)
    subst e
    refine congrArg (a :: ·) (hd_lin hl2 hm2 fun c => ?_)
    constructor
    · intro hc
      rcases List.mem_cons.1 ((h c).1 (List.mem_cons_of_mem _ hc)) with h1 | h1
      · rw [h1] at hc; exact absurd (hl1 a hc) (Pt.lin.irr _)
      · exact h1
    · intro hc
      rcases List.mem_cons.1 ((h c).2 (List.mem_cons_of_mem _ hc)) with h1 | h1
      · rw [h1] at hc; exact absurd (hm1 a hc) (Pt.lin.irr _)
      · exact h1
theorem ClsP.uniq {es : List Pt} {out out' : List (List Pt)} (h : ClsP adj es out) (h' : ClsP adj es out') : out = out' :=
  hd_lin h.hds h'.hds fun b => ⟨h.half h' b, h'.half h b⟩
end
end Go.Sl
