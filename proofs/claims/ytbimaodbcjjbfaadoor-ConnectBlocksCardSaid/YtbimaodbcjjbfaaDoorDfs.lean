/- A part of the proofs of statements of this seat: contracts of functions, and the plain laws that they lean on. No conditions. -/
import Derived.Test.YtbimaodbcjjbfaaDoorTab
import Derived.Test.YtbimaodbcjjbfaaDoorRunsD5
/- The search for blocks by depth first as functions: states, steps, what stays true, a measure. No Go. No conditions. -/
namespace Go.Sl
set_option linter.unusedVariables false
set_option linter.unusedSimpArgs false
set_option linter.unusedSectionVars false
/-- A node on the way, where it came from, what is left to be looked at. -/
structure Vis where
  node : Int
  src : Int
  left : BitVec 64
deriving DecidableEq
instance : Inhabited Vis := ⟨⟨0, 0, 0#64⟩⟩
instance : Enc Vis := ⟨fun t => [I64 t.node, I64 t.src, U64 t.left], 3, by omega, fun _ => rfl, fun t u hu => by
  simp only [List.mem_cons, List.not_mem_nil, or_false] at hu
  rcases hu with rfl | rfl | rfl <;> rfl⟩
structure Srch where
  num : List Int
  low : List Int
  way : List Vis
  edges : List Pt
  out : List (List Pt)
  cd : Int
deriving DecidableEq
instance : Inhabited Srch := ⟨⟨[], [], [], [], [], 0⟩⟩
/-- Sorting that keeps what is there twice. -/
def insD (x : Pt) : List Pt → List Pt
  | [] => [x]
  | y :: l => if Pt.lt y x then y :: insD x l else x :: y :: l
def sortD (l : List Pt) : List Pt := l.foldr insD []
theorem insD_perm (x : Pt) : ∀ l, (insD x l).Perm (x :: l)
  | [] => List.Perm.refl _
  | y :: l => by
    unfold insD
    split
    · exact ((insD_perm x l).cons y).trans (List.Perm.swap x y l)
    · exact List.Perm.refl _
theorem sortD_perm : ∀ l, (sortD l).Perm l
  | [] => List.Perm.refl _
  | x :: l => (insD_perm x (sortD l)).trans ((sortD_perm l).cons x)
theorem insD_sorted (x : Pt) : ∀ l : List Pt, (l.Pairwise fun a b => ¬ Pt.lt b a) → (insD x l).Pairwise fun a b => ¬ Pt.lt b a
  | [], _ => by simp [insD]
  | y :: l, h => by
    obtain ⟨h1, h2⟩ := List.pairwise_cons.1 h
    unfold insD
    split
    · rename_i hyx
      refine List.pairwise_cons.2 ⟨fun z hz => ?_, insD_sorted x l h2⟩
      rcases List.mem_cons.1 ((insD_perm x l).mem_iff.1 hz) with rfl | hz
      · exact Pt.lin.asymm hyx
      · exact h1 z hz
    · rename_i hyx
      refine List.pairwise_cons.2 ⟨fun z hz => ?_, h⟩
      rcases List.mem_cons.1 hz with rfl | hz
      · exact hyx
      · intro hzx
        rcases Pt.lin.tri x y with h3 | h3 | h3
        · exact h1 z hz (Pt.lin.tr _ _ _ hzx h3)
        · exact h1 z hz (h3 ▸ hzx)
        · exact hyx h3
theorem sortD_sorted : ∀ l : List Pt, (sortD l).Pairwise fun a b => ¬ Pt.lt b a
  | [] => List.Pairwise.nil
  | x :: l => insD_sorted x _ (sortD_sorted l)
theorem sortD_of {xs ys : List Pt} (h : SortedP xs ys) : ys = sortD xs :=
  List.Perm.eq_of_pairwise (le := fun a b => ¬ Pt.lt b a) (fun a b _ _ h1 h2 => (Pt.lin.tri a b).elim (fun h3 => absurd h3 h2) fun h3 => h3.elim id fun h3 => absurd h3 h1) h.2 (sortD_sorted xs) (h.1.trans (sortD_perm xs).symm)
def normE (e : Pt) : Pt := edgeP e.u e.v
def Srch.enter (rows : List (BitVec 64)) (S : Srch) (v f : Int) : Srch := { S with num := S.num.set v.toNat (S.cd + 1), low := S.low.set v.toNat (S.cd + 1), way := S.way ++ [⟨v, f, at_ rows v⟩], cd := S.cd + 1 }
def Srch.pop (S : Srch) (e : Pt) : Srch := { S with edges := S.edges.take (S.edges.idxOf e), out := S.out ++ [sortD ((S.edges.drop (S.edges.idxOf e)).map normE)] }
def minI (a b : Int) : Int := if b < a then b else a
def stepT (rows : List (BitVec 64)) (S : Srch) (ini : List Vis) (t : Vis) : Srch :=
  if t.left ≠ 0#64 then
    if tzB t.left = t.src then { S with way := ini ++ [{ t with left := t.left &&& (t.left - 1#64) }] }
    else if at_ S.num (tzB t.left) = 0 then Srch.enter rows { S with way := ini ++ [{ t with left := t.left &&& (t.left - 1#64) }], edges := S.edges ++ [⟨t.node, tzB t.left⟩] } (tzB t.left) t.node
    else if at_ S.num (tzB t.left) < at_ S.num t.node then { S with way := ini ++ [{ t with left := t.left &&& (t.left - 1#64) }], edges := S.edges ++ [⟨t.node, tzB t.left⟩], low := S.low.set t.node.toNat (minI (at_ S.low t.node) (at_ S.num (tzB t.left))) }
    else { S with way := ini ++ [{ t with left := t.left &&& (t.left - 1#64) }] }
  else if t.src < 0 then { S with way := ini }
  else if at_ S.num t.src ≤ at_ (S.low.set t.src.toNat (minI (at_ S.low t.src) (at_ S.low t.node))) t.node then Srch.pop { S with way := ini, low := S.low.set t.src.toNat (minI (at_ S.low t.src) (at_ S.low t.node)) } ⟨t.src, t.node⟩
  else { S with way := ini, low := S.low.set t.src.toNat (minI (at_ S.low t.src) (at_ S.low t.node)) }
def Srch.top (S : Srch) : Vis := at_ S.way ((S.way.length : Int) - 1)
def Srch.ini (S : Srch) : List Vis := S.way.take (S.way.length - 1)
def stepF (rows : List (BitVec 64)) (S : Srch) : Srch := stepT rows S S.ini S.top
def runF (rows : List (BitVec 64)) : Nat → Srch → Srch
  | 0, S => S
  | n + 1, S => if S.way = [] then S else runF rows n (stepF rows S)
theorem runF_succ (rows : List (BitVec 64)) (n : Nat) (S : Srch) : runF rows (n + 1) S = if S.way = [] then S else runF rows n (stepF rows S) := rfl
theorem runF_done {rows : List (BitVec 64)} {S : Srch} (h : S.way = []) : ∀ n, runF rows n S = S
  | 0 => rfl
  | n + 1 => by unfold runF; rw [if_pos h]
theorem runF_add {rows : List (BitVec 64)} : ∀ (n m : Nat) (S : Srch), runF rows (n + m) S = runF rows m (runF rows n S)
  | 0, m, S => by rw [Nat.zero_add]; rfl
  | n + 1, m, S => by
    by_cases h : S.way = []
    · rw [runF_done h, runF_done h, runF_done h]
    · rw [show n + 1 + m = (n + m) + 1 by omega, runF_succ, runF_succ, if_neg h, if_neg h]
      exact runF_add n m _
/-- Where the search ends. -/
def EndsAt (rows : List (BitVec 64)) (S T : Srch) : Prop := ∃ n, runF rows n S = T ∧ T.way = []
theorem EndsAt.uniq {rows : List (BitVec 64)} {S T U : Srch} (h : EndsAt rows S T) (h' : EndsAt rows S U) : T = U := by
  obtain ⟨n, h1, h2⟩ := h
  obtain ⟨m, h3, h4⟩ := h'
  have e1 := runF_add (rows := rows) n m S
  have e2 := runF_add (rows := rows) m n S
  rw [h1, runF_done h2] at e1
  rw [h3, runF_done h4, Nat.add_comm] at e2
  rw [← e1, e2]
theorem EndsAt.step {rows : List (BitVec 64)} {S T : Srch} (hn : S.way ≠ []) (h : EndsAt rows (stepF rows S) T) : EndsAt rows S T := by
  obtain ⟨n, h1, h2⟩ := h
  exact ⟨n + 1, by unfold runF; rw [if_neg hn]; exact h1, h2⟩
/-- The way that has been gone. -/
def Gone (rows : List (BitVec 64)) (S U : Srch) : Prop := ∃ n, runF rows n S = U
theorem Gone.start {rows : List (BitVec 64)} {S : Srch} : Gone rows S S := ⟨0, rfl⟩
theorem Gone.step {rows : List (BitVec 64)} {S U : Srch} (h : Gone rows S U) (hn : U.way ≠ []) : Gone rows S (stepF rows U) := by
  obtain ⟨n, h1⟩ := h
  refine ⟨n + 1, ?_⟩
  rw [runF_add, h1]
  unfold runF; rw [if_neg hn]; rfl
theorem Gone.ends {rows : List (BitVec 64)} {S T : Srch} (h : Gone rows S T) (hn : T.way = []) : EndsAt rows S T := by
  obtain ⟨n, h1⟩ := h
  exact ⟨n, h1, hn⟩
/-- How many nodes have no number yet. -/
def unv (l : List Int) : Nat := (l.filter fun x => decide (x = 0)).length
theorem unv_set : ∀ (l : List Int) (k : Nat) (x : Int), k < l.length → l.getD k default = 0 → x ≠ 0 → unv (l.set k x) + 1 = unv l
  | [], _, _, h, _, _ => by simp at h
  | y :: l, 0, x, _, h0, hx => by
    have hy : y = 0 := by simpa using h0
    simp [unv, hy, hx]
  | y :: l, k + 1, x, h, h0, hx => by
    have ih := unv_set l k x (by simpa using h) (by simpa using h0) hx
    unfold unv at *
    rw [List.set_cons_succ]
    by_cases hy : y = 0
    · simp only [List.filter_cons, hy, decide_true, if_true, List.length_cons]; omega
    · simp only [List.filter_cons, hy, decide_false, if_neg Bool.false_ne_true]; exact ih
def bitsN (w : List Vis) : Nat := (w.map fun t => (listB t.left).length + 1).sum
def mea (S : Srch) : Nat := 66 * unv S.num + bitsN S.way
theorem bitsN_app (a b : List Vis) : bitsN (a ++ b) = bitsN a + bitsN b := by unfold bitsN; rw [List.map_append, List.sum_append]
theorem bitsN_one (t : Vis) : bitsN [t] = (listB t.left).length + 1 := by simp [bitsN]
/-- What stays true. -/
structure DfsOk (rows : List (BitVec 64)) (S : Srch) : Prop where
  n64 : rows.length ≤ 64
  bits : ∀ (v : Int) (k : Nat), 0 ≤ v → v < rows.length → (at_ rows v).getLsbD k = true → k < rows.length
  nl : S.num.length = rows.length
  ll : S.low.length = rows.length
  cd0 : 0 ≤ S.cd
  cnt : S.cd.toNat + unv S.num = rows.length
  way : ∀ t ∈ S.way, (0 ≤ t.node ∧ t.node < rows.length) ∧ (t.src < rows.length) ∧ (∀ k, t.left.getLsbD k = true → k < rows.length) ∧ at_ S.num t.node ≠ 0
  ed : ∀ e ∈ S.edges, at_ S.num e.u ≠ 0 ∧ at_ S.num e.v ≠ 0 ∧ 0 ≤ e.v
  tree : ∀ t ts, S.way = t :: ts → t.src = -1 ∧ (∀ s ∈ ts, 0 ≤ s.src ∧ (⟨s.src, s.node⟩ : Pt) ∈ S.edges) ∧ (ts.map fun s => S.edges.idxOf (⟨s.src, s.node⟩ : Pt)).Pairwise (· < ·)
theorem Srch.way_eq {S : Srch} (h : S.way ≠ []) : S.way = S.ini ++ [S.top] := by
  unfold Srch.ini Srch.top
  have hl : 0 < S.way.length := List.length_pos_iff.2 h
  have e : S.way.length = (S.way.length - 1) + 1 := by omega
  conv => lhs; rw [← List.take_length (l := S.way), e]
  rw [take_at S.way (S.way.length - 1) (by omega), show ((S.way.length - 1 : Nat) : Int) = (S.way.length : Int) - 1 by omega]
theorem way_set {w : List Vis} {t : Vis} (h : w ≠ []) : w.set (w.length - 1) t = w.take (w.length - 1) ++ [t] := by
  have hl : 0 < w.length := List.length_pos_iff.2 h
  rw [List.set_eq_take_append_cons_drop, if_pos (by omega), show w.length - 1 + 1 = w.length by omega, List.drop_length]
theorem at_set_ne {l : List Int} {k : Nat} {x : Int} (i : Int) (hx : x ≠ 0) (h : at_ l i ≠ 0) : at_ (l.set k x) i ≠ 0 := by
  unfold at_ at *
  rw [List.getD_eq_getElem?_getD, List.getElem?_set]
  rw [List.getD_eq_getElem?_getD] at h
  split
  · split
    · simpa using hx
    · rename_i h1 h2
      rw [← h1, List.getElem?_eq_none (by omega)] at h
      exact h
  · exact h
end Go.Sl
