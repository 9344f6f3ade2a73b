/- A part of the proofs of statements of this seat: contracts of functions, and the plain laws that they lean on. No conditions. -/
import Derived.Test.YtfkcohmipjhfcaaGreatDoorP4
set_option linter.unusedVariables false
set_option linter.unusedSimpArgs false
set_option linter.unusedSectionVars false
/- Searching what is left of a network: the plain law of the search by layers. No Go. -/
namespace Go.Sl
section
variable (n : Net) (f out : List Int)
def un : Nat := out.count (-1)
end
section
variable {n : Net} {f out todo : List Int} {x : Int} {k1 k2 : Nat}
theorem un_set {y i : Int} (hy : 0 ≤ y ∧ y < out.length) (h : at_ out y = -1) (hi : i ≠ -1) : un (out.set y.toNat i) + 1 = un out := by
 unfold un
 have hl : y.toNat < out.length := by omega
 have hg : out[y.toNat] = -1 := by rw [at_eq hy.1 hy.2] at h; exact h
 rw [List.count_set hl]
 have hpos : 0 < out.count (-1) := List.count_pos_iff.2 (hg ▸ List.getElem_mem hl)
 have e1 : (out[y.toNat] == (-1 : Int)) = true := by simp [hg]
 have e2 : (i == (-1 : Int)) = false := by simpa using hi
 rw [e1, e2]
 simp only [if_true, Bool.false_eq_true, if_false]
 omega
end
end Go.Sl
/- Flows and cuts: the plain law. No Go. -/
namespace Go.Sl
def netF (n : Net) (f : List Int) (v : Int) : Int :=
 sumN n.arcs.length fun k => (if (at_ n.arcs (k : Int)).frm = v then at_ f (k : Int) else 0) - (if (at_ n.arcs (k : Int)).dst = v then at_ f (k : Int) else 0)
structure IsFlow (n : Net) (f : List Int) : Prop where
 len : f.length = n.arcs.length
 cap : ∀ k : Nat, k < n.arcs.length → 0 ≤ at_ f (k : Int) ∧ at_ f (k : Int) ≤ (at_ n.arcs (k : Int)).cap
 cons : ∀ v, 0 ≤ v → v < n.nodes → v ≠ n.source → v ≠ n.sink → netF n f v = 0
def cutS (n : Net) (S : Int → Bool) : Int := sumN n.arcs.length fun k => if S (at_ n.arcs (k : Int)).frm && !S (at_ n.arcs (k : Int)).dst then (at_ n.arcs (k : Int)).cap else 0
theorem arc_at {n : Net} (hok : n.Ok) {k : Nat} (hk : k < n.arcs.length) : (0 ≤ (at_ n.arcs (k : Int)).frm ∧ (at_ n.arcs (k : Int)).frm < n.nodes) ∧ (0 ≤ (at_ n.arcs (k : Int)).dst ∧ (at_ n.arcs (k : Int)).dst < n.nodes) ∧ (at_ n.arcs (k : Int)).frm ≠ (at_ n.arcs (k : Int)).dst ∧ 0 ≤ (at_ n.arcs (k : Int)).cap ∧ (at_ n.arcs (k : Int)).cap ≤ 1099511627776 :=
 hok.arc _ (Ce om om)
theorem sumN_ind {m : Nat} {v : Int} (h0 : 0 ≤ v) (h1 : v < m) (S : Int → Bool) (c : Int) : sumN m (fun j => if S (j : Int) then (if v = (j : Int) then c else 0) else 0) = if S v then c else 0 := by
 have e : v = ((v.toNat : Nat) : Int) := by omega
 rw [De m (h := fun j => if j = v.toNat then (if S v then c else 0) else 0) fun j hj => ?_]
 ·exact sumN_at om _
 ·by_cases hj : j = v.toNat
  ·subst hj; rw [if_pos rfl, ← e, if_pos rfl]
  ·rw [if_neg hj, if_neg (show ¬ v = (j : Int) by omega)]; split <;> rfl
theorem value_cut {n : Net} (hok : n.Ok) {f : List Int} (hf : IsFlow n f) (S : Int → Bool) (hs : S n.source = true) (ht : S n.sink = false) :
  netF n f n.source = sumN n.arcs.length fun k => (if S (at_ n.arcs (k : Int)).frm && !S (at_ n.arcs (k : Int)).dst then at_ f (k : Int) else 0) - (if S (at_ n.arcs (k : Int)).dst && !S (at_ n.arcs (k : Int)).frm then at_ f (k : Int) else 0) := by
 have hsrc := hok.src
 -- the sum of what goes out of the nodes of S
 have h1 : sumN n.nodes.toNat (fun v => if S (v : Int) then netF n f (v : Int) else 0) = netF n f n.source := by
  rw [De n.nodes.toNat (h := fun j => if j = n.source.toNat then netF n f n.source else 0) fun j hj => ?_]
  ·exact sumN_at om _
  ·by_cases hj' : j = n.source.toNat
   ·subst hj'
    rw [if_pos rfl, show ((n.source.toNat : Nat) : Int) = n.source from by omega, hs]; simp
   ·rw [if_neg hj']
    by_cases hS : S (j : Int) = true
    ·rw [if_pos hS]
     refine hf.cons _ om om (fun e => hj' om) fun e => ?_
     rw [e, ht] at hS; cases hS
    ·rw [if_neg hS]
 rw [← h1]
 have h2 : sumN n.nodes.toNat (fun v => if S (v : Int) then netF n f (v : Int) else 0) =
   sumN n.nodes.toNat (fun v => sumN n.arcs.length fun k => (if S (v : Int) then (if (at_ n.arcs (k : Int)).frm = (v : Int) then at_ f (k : Int) else 0) else 0) - (if S (v : Int) then (if (at_ n.arcs (k : Int)).dst = (v : Int) then at_ f (k : Int) else 0) else 0)) :=
  De _ fun v _ => by
   by_cases hS : S (v : Int) = true
   ·rw [if_pos hS]; unfold netF
    exact De _ fun k _ => by rw [if_pos hS, if_pos hS]
   ·rw [if_neg hS]
    exact (sumN_eq_zero _ fun k _ => by rw [if_neg hS, if_neg hS]; rfl).symm
 rw [h2, sumN_swap]
 refine De _ fun k hk => ?_
 have ha := arc_at hok hk
 rw [sumN_sub, sumN_ind ha.1.1 om, sumN_ind ha.2.1.1 om]
 cases S (at_ n.arcs (k : Int)).frm <;> cases S (at_ n.arcs (k : Int)).dst <;> simp
theorem value_le {n : Net} (hok : n.Ok) {f : List Int} (hf : IsFlow n f) (S : Int → Bool) (hs : S n.source = true) (ht : S n.sink = false) : netF n f n.source ≤ cutS n S := by
 rw [value_cut hok hf S hs ht]
 refine sumN_le _ fun k hk => ?_
 have hc := hf.cap k hk
 cases S (at_ n.arcs (k : Int)).frm <;> cases S (at_ n.arcs (k : Int)).dst <;> simp <;> omega
def Shut (n : Net) (f : List Int) (S : Int → Bool) : Prop := ∀ k : Nat, k < n.arcs.length →
 (S (at_ n.arcs (k : Int)).frm = true → at_ f (k : Int) < (at_ n.arcs (k : Int)).cap → S (at_ n.arcs (k : Int)).dst = true) ∧
 (S (at_ n.arcs (k : Int)).dst = true → 0 < at_ f (k : Int) → S (at_ n.arcs (k : Int)).frm = true)
theorem shut_value {n : Net} (hok : n.Ok) {f : List Int} (hf : IsFlow n f) {S : Int → Bool} (hs : S n.source = true) (ht : S n.sink = false) : netF n f n.source = cutS n S ↔ Shut n f S := by
 rw [value_cut hok hf S hs ht]
 have hle : ∀ k, k < n.arcs.length → ((if S (at_ n.arcs (k : Int)).frm && !S (at_ n.arcs (k : Int)).dst then at_ f (k : Int) else 0) - (if S (at_ n.arcs (k : Int)).dst && !S (at_ n.arcs (k : Int)).frm then at_ f (k : Int) else 0)) ≤ (if S (at_ n.arcs (k : Int)).frm && !S (at_ n.arcs (k : Int)).dst then (at_ n.arcs (k : Int)).cap else 0) := fun k hk => by
  have hc := hf.cap k hk
  cases S (at_ n.arcs (k : Int)).frm <;> cases S (at_ n.arcs (k : Int)).dst <;> simp <;> omega
 constructor
 ·intro h k hk
  have := sumN_eq_terms _ hle h k hk
  have hc := hf.cap k hk
  revert this
  cases h1 : S (at_ n.arcs (k : Int)).frm <;> cases h2 : S (at_ n.arcs (k : Int)).dst <;> simp <;> omega
 ·intro h
  refine De _ fun k hk => ?_
  have hc := hf.cap k hk
  have := h k hk
  revert this
  cases h1 : S (at_ n.arcs (k : Int)).frm <;> cases h2 : S (at_ n.arcs (k : Int)).dst <;> simp <;> omega
end Go.Sl
/- Sending along a way: the plain law. No Go. -/
namespace Go.Sl
section
variable {n : Net} {f out : List Int} {rk : Int → Nat}
theorem netF_set {k : Nat} (hk : k < n.arcs.length) {f1 : List Int} (hl : f1.length = n.arcs.length) (c v : Int) :
  netF n (f1.set k c) v = netF n f1 v + (if (at_ n.arcs (k : Int)).frm = v then c - at_ f1 (k : Int) else 0) - (if (at_ n.arcs (k : Int)).dst = v then c - at_ f1 (k : Int) else 0) := by
 have hat : ∀ j : Nat, at_ (f1.set k c) (j : Int) = if k = j then c else at_ f1 (j : Int) := fun j => at_setn f1 k j c om
 unfold netF
 rw [sumN_upd hk (g := fun k => (if (at_ n.arcs (k : Int)).frm = v then at_ f1 (k : Int) else 0) - (if (at_ n.arcs (k : Int)).dst = v then at_ f1 (k : Int) else 0)) (fun j hj hjk => by simp only [hat j, if_neg (fun e => hjk e.symm : ¬ k = j)])]
 simp only [hat k, if_true]
 split <;> split <;> omega
theorem at_all {p : Int → Prop} {i : Int} {m : Nat} (h : ∀ k : Nat, k < m → p (k : Int)) (h0 : 0 ≤ i) (hi : i < m) : p i := by
 have := h i.toNat om
 rwa [show ((i.toNat : Nat) : Int) = i from by omega] at this
theorem arc_ok (hok : n.Ok) {i : Int} (h0 : 0 ≤ i) (hi : i < n.arcs.length) : (0 ≤ (at_ n.arcs i).frm ∧ (at_ n.arcs i).frm < n.nodes) ∧ (0 ≤ (at_ n.arcs i).dst ∧ (at_ n.arcs i).dst < n.nodes) ∧ (at_ n.arcs i).frm ≠ (at_ n.arcs i).dst ∧ 0 ≤ (at_ n.arcs i).cap ∧ (at_ n.arcs i).cap ≤ 1099511627776 := hok.arc _ (Ce h0 hi)
theorem cap_ok (hf : ∀ k : Nat, k < n.arcs.length → 0 ≤ at_ f (k : Int) ∧ at_ f (k : Int) ≤ (at_ n.arcs (k : Int)).cap) {i : Int} (h0 : 0 ≤ i) (hi : i < n.arcs.length) : 0 ≤ at_ f i ∧ at_ f i ≤ (at_ n.arcs i).cap := at_all (p := fun i => 0 ≤ at_ f i ∧ at_ f i ≤ (at_ n.arcs i).cap) hf h0 hi
end
end Go.Sl
/- The least and the greatest side of a cut: the plain law. No Go. -/
namespace Go.Sl
def sideL (N : Nat) (R : Int → Bool) : List Int := ((List.range N).map fun k => ((k : Nat) : Int)).filter R
theorem sideL_succ (N : Nat) (R : Int → Bool) : sideL (N + 1) R = sideL N R ++ if R (N : Int) then [(N : Int)] else [] := by
 unfold sideL
 rw [List.range_succ, List.map_append, List.filter_append]
 congr 1
 by_cases h : R (N : Int) <;> simp [h]
theorem sideL_yes {N : Nat} {R : Int → Bool} (h : R (N : Int) = true) : sideL (N + 1) R = sideL N R ++ [(N : Int)] := by rw [sideL_succ, if_pos h]
theorem sideL_no {N : Nat} {R : Int → Bool} (h : R (N : Int) = false) : sideL (N + 1) R = sideL N R := by rw [sideL_succ, h]; simp
theorem sideL_len (N : Nat) (R : Int → Bool) : (sideL N R).length ≤ N := by
 have := List.length_filter_le R ((List.range N).map fun k => ((k : Nat) : Int))
 simpa [sideL] using this
theorem mem_sideL {N : Nat} {R : Int → Bool} {z : Int} : z ∈ sideL N R ↔ (0 ≤ z ∧ z < N) ∧ R z = true := by
 unfold sideL
 rw [List.mem_filter, List.mem_map]
 constructor
 ·rintro ⟨⟨k, hk, rfl⟩, h⟩
  exact ⟨⟨by omega, by have := List.mem_range.1 hk; omega⟩, h⟩
 ·rintro ⟨⟨h0, h1⟩, h⟩
  exact ⟨⟨z.toNat, List.mem_range.2 om, by omega⟩, h⟩
structure Great (n : Net) (f : List Int) (T : Int → Bool) : Prop where
 src : T n.source = true
 snk : T n.sink = false
 shut : Shut n f T
 great : ∀ S : Int → Bool, Shut n f S → S n.sink = false → ∀ z, 0 ≤ z → z < n.nodes → S z = true → T z = true
section
variable {n : Net} {f g : List Int} {R R' : Int → Bool}
theorem Great.value (hok : n.Ok) (hf : IsFlow n f) (h : Great n f R) : netF n f n.source = cutS n R := (shut_value hok hf h.src h.snk).2 h.shut
end
theorem cut_nonneg_le {n : Net} (hok : n.Ok) (S : Int → Bool) : 0 ≤ cutS n S ∧ cutS n S ≤ 18014398509481984 := by
 have h : ∀ m : Nat, m ≤ n.arcs.length → 0 ≤ sumN m (fun k => if S (at_ n.arcs (k : Int)).frm && !S (at_ n.arcs (k : Int)).dst then (at_ n.arcs (k : Int)).cap else 0) ∧ sumN m (fun k => if S (at_ n.arcs (k : Int)).frm && !S (at_ n.arcs (k : Int)).dst then (at_ n.arcs (k : Int)).cap else 0) ≤ (m : Int) * 1099511627776 := fun m => by
  induction m with
  | zero => intro _; simp [sumN]
  | succ m ih =>
   intro hm
   have := ih om
   have := arc_at hok (k := m) om
   simp only [sumN]
   split <;> omega
 have := h n.arcs.length (Nat.le_refl _)
 have := hok.lim
 unfold cutS
 omega
theorem flow_zero (n : Net) (hok : n.Ok) : IsFlow n (List.replicate n.arcs.length (0 : Int)) ∧ netF n (List.replicate n.arcs.length (0 : Int)) n.source = 0 := by
 have h0 : ∀ k : Nat, k < n.arcs.length → at_ (List.replicate n.arcs.length (0 : Int)) (k : Int) = 0 := fun k hk => at_rep _ _ _ om om
 have hn : ∀ v, netF n (List.replicate n.arcs.length (0 : Int)) v = 0 := fun v => sumN_eq_zero _ fun k hk => by rw [h0 k hk]; simp
 exact ⟨⟨by simp, fun k hk => by rw [h0 k hk]; have := arc_at hok hk; omega, fun v _ _ _ _ => hn v⟩, hn _⟩
end Go.Sl
/- Searching back from the sink: the plain law. No Go. -/
namespace Go.Sl
section
variable {n : Net} {f back : List Int} {i k1 k2 : Nat}
end
end Go.Sl
/- What a check of a flow accepts: the plain law. No Go. -/
namespace Go.Sl
section
variable {n : Net} {f side : List Int} {val : Int}
end
end Go.Sl
/- Networks with one arc more, and turned round; sets between the least and the greatest side: the plain law. No Go. -/
namespace Go.Sl
section
variable {n m : Net} {f g s t : List Int} {v w : Int}
end
end Go.Sl
namespace Go.Sl
open Go.Proofs
set_option maxRecDepth 4000
theorem intLin : LinO (fun a b : Int => a < b) := ⟨fun a h => by omega, fun a b c h1 h2 => by omega, fun a b => by omega⟩
theorem putL_eq (x : Int) : ∀ l, putL l x = insB (fun a b : Int => a < b) l x
 | [] => rfl
 | y :: ys => by simp only [putL, insB, putL_eq x ys]
theorem ofL_eq (l : List Int) : ofL l = sortB (fun a b : Int => a < b) l := by
 unfold ofL sortB
 congr 1
 funext acc x
 exact putL_eq x acc
theorem ofL_asc (l : List Int) : (ofL l).Pairwise (fun a b : Int => a < b) := by rw [ofL_eq]; exact intLin.sortB l
end Go.Sl
/- Cuts of graphs: how many edges a set separates; least cuts; which nodes few edges cannot separate. No Go. No conditions. -/
namespace Go.Sl
theorem sumN_list {α : Type} [Inhabited α] (g : α → Int) (l : List α) : sumN l.length (fun k => g (at_ l (k : Int))) = (l.map g).sum := by
 have key : ∀ m, m ≤ l.length → sumN m (fun k => g (at_ l (k : Int))) = ((l.take m).map g).sum := fun m => by
  induction m with
  | zero => intro _; simp [sumN]
  | succ m ih =>
   intro hm
   rw [C3 l m om, List.map_append, List.sum_append, ← ih om]
   simp [sumN]
 have := key l.length (Nat.le_refl _)
 rwa [List.take_length] at this
end Go.Sl
namespace Go.Sl
theorem mem_andB {a b : BitVec 64} {u : Int} : u ∈ listB (a &&& b) ↔ u ∈ listB a ∧ u ∈ listB b := by
 simp only [mem_listB, BitVec.getLsbD_and, Bool.and_eq_true]
 constructor
 ·rintro ⟨h1, h2, h3⟩; exact ⟨⟨h1, h2⟩, h1, h3⟩
 ·rintro ⟨⟨h1, h2⟩, _, h3⟩; exact ⟨h1, h2, h3⟩
theorem listB_lt {m : BitVec 64} {u : Int} (h : u ∈ listB m) : 0 ≤ u ∧ u < 64 := by
 rw [mem_listB] at h
 refine ⟨h.1, Classical.byContradiction fun hn => ?_⟩
 rw [BitVec.getLsbD_of_ge _ _ (by omega)] at h
 exact absurd h.2 (by simp)
theorem mem_orbit {m : BitVec 64} {u k : Int} (h0 : 0 ≤ k) (h1 : k < 64) : u ∈ listB (m ||| 1#64 <<< k.toNat) ↔ u ∈ listB m ∨ u = k := by
 constructor
 ·intro h
  have hu := listB_lt h
  rw [mem_listB, BitVec.getLsbD_or, getLsb_shl _ _ (by omega), Bool.or_eq_true, decide_eq_true_eq] at h
  rw [mem_listB]
  rcases h.2 with h2 | h2
  ·exact .inl ⟨h.1, h2⟩
  ·exact .inr (by omega)
 ·intro h
  have hu : 0 ≤ u ∧ u < 64 := h.elim listB_lt fun h => by omega
  rw [mem_listB, BitVec.getLsbD_or, getLsb_shl _ _ (by omega), Bool.or_eq_true, decide_eq_true_eq]
  rw [mem_listB] at h
  exact ⟨hu.1, h.elim (fun h => .inl h.2) fun h => .inr (by omega)⟩
theorem mem_minus {m : BitVec 64} {u k : Int} (h0 : 0 ≤ k) : u ∈ listB (m &&& ~~~(1#64 <<< k.toNat)) ↔ u ∈ listB m ∧ u ≠ k := by
 constructor
 ·intro h
  have hu := listB_lt h
  rw [mem_listB, BitVec.getLsbD_and, BitVec.getLsbD_not, getLsb_shl _ _ (by omega), Bool.and_eq_true] at h
  rw [mem_listB]
  refine ⟨⟨h.1, h.2.1⟩, fun e => ?_⟩
  have h3 := h.2.2
  rw [e] at h3
  simp at h3
 ·rintro ⟨h, hne⟩
  have hu := listB_lt h
  rw [mem_listB] at h
  rw [mem_listB, BitVec.getLsbD_and, BitVec.getLsbD_not, getLsb_shl _ _ (by omega), Bool.and_eq_true]
  refine ⟨h.1, h.2, ?_⟩
  rw [decide_eq_false (show ¬ k.toNat = u.toNat by omega)]
  simp; omega
theorem listB_nodup (m : BitVec 64) : (listB m).Nodup := (listB_asc m).imp fun h => by omega
theorem listB_perm {m : BitVec 64} {k : Int} (h : k ∈ listB m) : (listB m).Perm (k :: listB (m &&& ~~~(1#64 <<< k.toNat))) := by
 have h0 := (listB_lt h).1
 refine (List.perm_ext_iff_of_nodup (listB_nodup _) (List.nodup_cons.2 ⟨fun e => ((mem_minus h0).1 e).2 rfl, listB_nodup _⟩)).2 fun u => ?_
 rw [List.mem_cons, mem_minus h0]
 by_cases e : u = k
 ·subst e; simp [h]
 ·simp [e]
theorem listB_minus {m : BitVec 64} {k : Int} (h : k ∈ listB m) : (listB m).length = (listB (m &&& ~~~(1#64 <<< k.toNat))).length + 1 := (listB_perm h).length_eq
theorem minus_same {m : BitVec 64} {k : Int} (h0 : 0 ≤ k) (h : k ∉ listB m) : (listB (m &&& ~~~(1#64 <<< k.toNat))).length = (listB m).length := by
 refine ((List.perm_ext_iff_of_nodup (listB_nodup _) (listB_nodup _)).2 fun u => ?_).length_eq
 rw [mem_minus h0]
 exact ⟨fun h => h.1, fun hu => ⟨hu, fun e => h (e ▸ hu)⟩⟩
theorem nz_listB {m : BitVec 64} : m ≠ 0#64 ↔ ∃ u, u ∈ listB m := by
 constructor
 ·intro h; exact ⟨_, by rw [listB_step h]; exact List.mem_cons_self⟩
 ·rintro ⟨u, hu⟩ rfl
  rw [listB_zero] at hu; cases hu
theorem tzB_le {m : BitVec 64} (h : m ≠ 0#64) : tzB m ∈ listB m ∧ ∀ u ∈ listB m, tzB m ≤ u := by
 have e := listB_step h
 refine ⟨by rw [e]; exact List.mem_cons_self, fun u hu => ?_⟩
 have ha := listB_asc m
 rw [e] at ha hu
 rcases List.mem_cons.1 hu with rfl | hu
 ·exact Int.le_refl _
 ·have := (List.pairwise_cons.1 ha).1 u hu; omega
def degB (rows : List (BitVec 64)) (left : BitVec 64) (v : Int) : Nat := (listB (at_ rows v &&& left)).length
structure Takes (rows : List (BitVec 64)) (left : BitVec 64) (v : Int) : Prop where
 mem : v ∈ listB left
 le : ∀ u ∈ listB left, degB rows left v < degB rows left u ∨ (degB rows left v = degB rows left u ∧ v ≤ u)
theorem Takes.uniq {rows : List (BitVec 64)} {left : BitVec 64} {v v' : Int} (h : Takes rows left v) (h' : Takes rows left v') : v = v' := by
 have a := h.le v' h'.mem
 have b := h'.le v h.mem
 omega
theorem fold_least (f : Int → Nat) : ∀ (l : List Int) (b : Int), (∀ u ∈ l, b ≤ u) → l.Pairwise (· < ·) →
    ((l.foldl (fun b v => if f v < f b then v else b) b = b ∨ l.foldl (fun b v => if f v < f b then v else b) b ∈ l) ∧
     (f (l.foldl (fun b v => if f v < f b then v else b) b) < f b ∨ l.foldl (fun b v => if f v < f b then v else b) b = b) ∧
     ∀ u ∈ l, f (l.foldl (fun b v => if f v < f b then v else b) b) < f u ∨ (f (l.foldl (fun b v => if f v < f b then v else b) b) = f u ∧ l.foldl (fun b v => if f v < f b then v else b) b ≤ u))
  | [], b, _, _ => ⟨.inl rfl, .inr rfl, fun u hu => by cases hu⟩
  | x :: xs, b, hb, hp => by
    obtain ⟨hx, hp'⟩ := List.pairwise_cons.1 hp
    have hbx := hb x List.mem_cons_self
    rw [List.foldl_cons]
    by_cases hc : f x < f b
    · rw [if_pos hc]
      obtain ⟨h1, h2, h3⟩ := fold_least f xs x (fun u hu => by have := hx u hu; omega) hp'
      generalize xs.foldl (fun b v => if f v < f b then v else b) x = r at h1 h2 h3
      refine ⟨.inr (h1.elim (fun e => e ▸ List.mem_cons_self) fun h => List.mem_cons_of_mem _ h), .inl (h2.elim (fun h => by omega) fun h => by rw [h]; exact hc), fun u hu => ?_⟩
      rcases List.mem_cons.1 hu with rfl | hu
      · exact h2.elim .inl fun h => .inr ⟨by rw [h], by omega⟩
      · exact h3 u hu
    · rw [if_neg hc]
      obtain ⟨h1, h2, h3⟩ := fold_least f xs b (fun u hu => hb u (List.mem_cons_of_mem _ hu)) hp'
      generalize xs.foldl (fun b v => if f v < f b then v else b) b = r at h1 h2 h3
      refine ⟨h1.imp_right fun h => List.mem_cons_of_mem _ h, h2, fun u hu => ?_⟩
      rcases List.mem_cons.1 hu with rfl | hu
      · rcases h2 with h | h
        · exact .inl (by omega)
        · rw [h]; omega
      · exact h3 u hu
def takeF (rows : List (BitVec 64)) (left : BitVec 64) : Int := (listB left).foldl (fun b v => if degB rows left v < degB rows left b then v else b) ((listB left).headD 0)
theorem takeF_takes {rows : List (BitVec 64)} {left : BitVec 64} (h : left ≠ 0#64) : Takes rows left (takeF rows left) := by
 have e := listB_step h
 have ha := listB_asc left
 unfold takeF
 have hh : (listB left).headD 0 = tzB left := by rw [e]; rfl
 rw [hh]
 obtain ⟨h1, _, h3⟩ := fold_least (degB rows left) (listB left) (tzB left) (tzB_le h).2 ha
 refine ⟨?_, h3⟩
 rcases h1 with h1 | h1
 ·rw [h1]; exact (tzB_le h).1
 ·exact h1
def coreF (rows : List (BitVec 64)) : Nat → BitVec 64 → Nat → List (Int × Nat)
 | 0, _, _ => []
 | n + 1, left, k => (takeF rows left, max k (degB rows left (takeF rows left))) :: coreF rows n (left &&& ~~~(1#64 <<< (takeF rows left).toNat)) (max k (degB rows left (takeF rows left)))
def coreR (rows : List (BitVec 64)) (left : BitVec 64) (k : Nat) : List (Int × Nat) := coreF rows (listB left).length left k
theorem coreR_zero (rows : List (BitVec 64)) (k : Nat) : coreR rows 0#64 k = [] := by unfold coreR; rw [listB_zero]; rfl
theorem coreR_step {rows : List (BitVec 64)} {left : BitVec 64} {k : Nat} {v : Int} (h : Takes rows left v) : coreR rows left k = (v, max k (degB rows left v)) :: coreR rows (left &&& ~~~(1#64 <<< v.toNat)) (max k (degB rows left v)) := by
 have hv : takeF rows left = v := (takeF_takes (nz_listB.2 ⟨v, h.mem⟩)).uniq h
 unfold coreR
 rw [listB_minus h.mem]
 show (takeF rows left, _) :: _ = _
 rw [hv]
def ordL (l : List (Int × Nat)) : List Int := l.map fun p => p.1
def numL (n : Nat) (l : List (Int × Nat)) : List Int := l.foldl (fun xs p => xs.set p.1.toNat (p.2 : Int)) (List.replicate n 0)
theorem numL_len (n : Nat) (l : List (Int × Nat)) : (numL n l).length = n := by
 unfold numL
 have : ∀ (l : List (Int × Nat)) (xs : List Int), (l.foldl (fun xs p => xs.set p.1.toNat (p.2 : Int)) xs).length = xs.length := fun l => by
  induction l with
  | nil => intro xs; rfl
  | cons p l ih => intro xs; rw [List.foldl_cons, ih, List.length_set]
 rw [this, List.length_replicate]
theorem numL_snoc (n : Nat) (l : List (Int × Nat)) (v : Int) (k : Nat) : numL n (l ++ [(v, k)]) = (numL n l).set v.toNat (k : Int) := by
 unfold numL; rw [List.foldl_append]; rfl
theorem ordL_snoc (l : List (Int × Nat)) (v : Int) (k : Nat) : ordL (l ++ [(v, k)]) = ordL l ++ [v] := by
 unfold ordL; rw [List.map_append]; rfl
theorem numL_bound {n m : Nat} : ∀ {l : List (Int × Nat)}, (∀ p ∈ l, p.2 ≤ m) → ∀ x ∈ numL n l, 0 ≤ x ∧ x ≤ m := by
 intro l
 unfold numL
 have : ∀ (l : List (Int × Nat)) (xs : List Int), (∀ x ∈ xs, 0 ≤ x ∧ x ≤ (m : Int)) → (∀ p ∈ l, p.2 ≤ m) → ∀ x ∈ l.foldl (fun xs p => xs.set p.1.toNat (p.2 : Int)) xs, 0 ≤ x ∧ x ≤ (m : Int) := fun l => by
  induction l with
  | nil => intro xs h _; exact h
  | cons p l ih =>
   intro xs h hl
   refine ih _ (fun x hx => ?_) fun q hq => hl q (List.mem_cons_of_mem _ hq)
   rcases List.mem_or_eq_of_mem_set hx with hx | rfl
   ·exact h x hx
   ·have := hl p List.mem_cons_self; omega
 exact fun hl => this l _ (fun x hx => by rw [List.eq_of_mem_replicate hx]; omega) hl
theorem coreF_bound {rows : List (BitVec 64)} {m : Nat} (hd : ∀ left v, degB rows left v ≤ m) : ∀ (n : Nat) (left : BitVec 64) (k : Nat), k ≤ m → ∀ p ∈ coreF rows n left k, p.2 ≤ m
 | 0, _, _, _, p, hp => by cases hp
 | n + 1, left, k, hk, p, hp => by
  have h1 := hd left (takeF rows left)
  rcases List.mem_cons.1 hp with rfl | hp
  ·show max k _ ≤ m; omega
  ·exact coreF_bound hd n _ _ (by omega) p hp
structure SymB (n : Nat) (rows : List (BitVec 64)) : Prop where
 len : rows.length = n
 le : n ≤ 64
 lt : ∀ u v : Int, 0 ≤ u → u < n → v ∈ listB (at_ rows u) → v < n
 sym : ∀ u v : Int, 0 ≤ u → u < n → v ∈ listB (at_ rows u) → u ∈ listB (at_ rows v)
 irr : ∀ u : Int, 0 ≤ u → u < n → u ∉ listB (at_ rows u)
theorem RowsOk.mem {nd : Int} {es : List Pt} {rows : List (BitVec 64)} (h : RowsOk nd es rows) {u v : Int} (u0 : 0 ≤ u) (u1 : u < nd) : v ∈ listB (at_ rows u) ↔ (0 ≤ v ∧ v < 64) ∧ ((⟨u, v⟩ : Pt) ∈ es ∨ (⟨v, u⟩ : Pt) ∈ es) := by
 constructor
 ·intro hv
  have hr := listB_lt hv
  rw [mem_listB, h.bit u v u0 u1 hr.1 hr.2, decide_eq_true_eq] at hv
  exact ⟨hr, hv.2⟩
 ·rintro ⟨hr, hv⟩
  rw [mem_listB, h.bit u v u0 u1 hr.1 hr.2, decide_eq_true_eq]
  exact ⟨hr.1, hv⟩
theorem RowsOk.symB {nd : Int} {es : List Pt} {rows : List (BitVec 64)} (h : RowsOk nd es rows) (hG : GrOk nd es) : SymB nd.toNat rows := by
 have hr := hG.rng
 have hl := h.len
 have ed : ∀ a b : Int, ((⟨a, b⟩ : Pt) ∈ es) → 0 ≤ a ∧ a < b ∧ b < nd := fun a b hm => hG.edge _ hm
 refine ⟨by omega, by omega, fun u v u0 u1 hv => ?_, fun u v u0 u1 hv => ?_, fun u u0 u1 hv => ?_⟩
 ·have := ((h.mem u0 (by omega)).1 hv).2
  rcases this with e | e <;> have := ed _ _ e <;> omega
 ·obtain ⟨h1, h2⟩ := (h.mem u0 (by omega)).1 hv
  have h3 : v < nd := by rcases h2 with e | e <;> have := ed _ _ e <;> omega
  exact (h.mem h1.1 h3).2 ⟨⟨u0, by omega⟩, h2.symm⟩
 ·have := ((h.mem u0 (by omega)).1 hv).2
  rcases this with e | e <;> have := ed _ _ e <;> omega
section
variable {n : Nat} {rows : List (BitVec 64)}
theorem degB_lt (h : SymB n rows) (left : BitVec 64) {v : Int} (v0 : 0 ≤ v) (v1 : v < n) : degB rows left v < n := by
 unfold degB
 have hs : (v :: listB (at_ rows v &&& left)).Nodup := List.nodup_cons.2 ⟨fun hm => h.irr v v0 v1 (mem_andB.1 hm).1, listB_nodup _⟩
 have hsub : ∀ x ∈ (v :: listB (at_ rows v &&& left)), x ∈ (List.range n).map fun (i : Nat) => (i : Int) := fun x hx => by
  rw [List.mem_map]
  rcases List.mem_cons.1 hx with rfl | hx
  ·exact ⟨x.toNat, List.mem_range.2 (by omega), by omega⟩
  ·have h1 := (mem_andB.1 hx).1
   have h2 := h.lt v x v0 v1 h1
   have h3 := (listB_lt h1).1
   exact ⟨x.toNat, List.mem_range.2 (by omega), by omega⟩
 have := List.Nodup.length_le_of_subset hs hsub
 rw [List.length_map, List.length_range, List.length_cons] at this
 omega
theorem degB_minus (h : SymB n rows) {left : BitVec 64} {u v : Int} (u0 : 0 ≤ u) (u1 : u < n) (v0 : 0 ≤ v) (v1 : v < n) (hv : v ∈ listB left) :
  degB rows left u = degB rows (left &&& ~~~(1#64 <<< v.toNat)) u + if u ∈ listB (at_ rows v) then 1 else 0 := by
 unfold degB
 rw [← BitVec.and_assoc]
 by_cases hm : u ∈ listB (at_ rows v)
 ·rw [if_pos hm]
  exact listB_minus (mem_andB.2 ⟨h.sym v u v0 v1 hm, hv⟩)
 ·rw [if_neg hm]
  exact (minus_same v0 fun e => hm (h.sym u v u0 u1 (mem_andB.1 e).1)).symm
end
structure BkOk (n : Nat) (S : Int → Prop) (dg : Int → Nat) (dgs : List Int) (bks : List (BitVec 64)) : Prop where
 dlen : dgs.length = n
 blen : bks.length = 64
 rng : ∀ u, S u → 0 ≤ u ∧ u < n
 deg : ∀ u, S u → at_ dgs u = (dg u : Int)
 bkt : ∀ d : Int, 0 ≤ d → d < 64 → ∀ u : Int, u ∈ listB (at_ bks d) ↔ S u ∧ (dg u : Int) = d
section
variable {n : Nat} {S S' : Int → Prop} {dg dg' : Int → Nat} {dgs : List Int} {bks : List (BitVec 64)}
theorem BkOk.start (n : Nat) (dg : Int → Nat) : BkOk n (fun u => 0 ≤ u ∧ u < ((0 : Nat) : Int)) dg (List.replicate n 0) (List.replicate 64 0#64) :=
 ⟨List.length_replicate, List.length_replicate, fun u hu => by omega, fun u hu => by omega, fun d d0 d1 u => by
  rw [at_rep64, listB_zero]
  exact ⟨(fun h => by cases h), fun h => by omega⟩⟩
theorem BkOk.congr (h : BkOk n S dg dgs bks) (hS : ∀ u, S' u ↔ S u) (hd : ∀ u, S u → dg' u = dg u) : BkOk n S' dg' dgs bks :=
 ⟨h.dlen, h.blen, fun u hu => h.rng u ((hS u).1 hu), fun u hu => by rw [h.deg u ((hS u).1 hu), hd u ((hS u).1 hu)], fun d d0 d1 u => by
  rw [h.bkt d d0 d1 u, hS]
  constructor
  ·rintro ⟨h1, h2⟩; exact ⟨h1, by rw [hd u h1]; exact h2⟩
  ·rintro ⟨h1, h2⟩; exact ⟨h1, by rw [← hd u h1]; exact h2⟩⟩
theorem BkOk.push (h : BkOk n S dg dgs bks) {v c : Int} (v0 : 0 ≤ v) (v1 : v < n) (hn : n ≤ 64) (hS : ∀ u, S' u ↔ S u ∨ u = v) (hv : ¬ S v) (hc : c = (dg v : Int)) (c1 : c < 64) :
  BkOk n S' dg (dgs.set v.toNat c) (bks.set c.toNat (at_ bks c ||| 1#64 <<< v.toNat)) := by
 have hbl := h.blen
 have hdl := h.dlen
 refine ⟨by rw [List.length_set]; exact hdl, by rw [List.length_set]; exact hbl, fun u hu => ?_, fun u hu => ?_, fun d d0 d1 u => ?_⟩
 ·rcases (hS u).1 hu with hu | rfl
  ·exact h.rng u hu
  ·exact ⟨v0, v1⟩
 ·have hr : 0 ≤ u := ((hS u).1 hu).elim (fun hu => (h.rng u hu).1) fun e => by omega
  rw [at_set _ v u _ v0 hr (by omega)]
  rcases (hS u).1 hu with hu | rfl
  ·rw [if_neg (fun e => hv (by rw [e]; exact hu))]; exact h.deg u hu
  ·rw [if_pos rfl, hc]
 ·rw [at_set _ c d _ (by omega) d0 (by omega), hS]
  by_cases e : c = d
  ·rw [if_pos e, mem_orbit v0 (by omega), e, h.bkt d d0 d1]
   constructor
   ·rintro (⟨h1, h2⟩ | rfl)
    ·exact ⟨.inl h1, h2⟩
    ·exact ⟨.inr rfl, by omega⟩
   ·rintro ⟨h1 | rfl, h2⟩
    ·exact .inl ⟨h1, h2⟩
    ·exact .inr rfl
  ·rw [if_neg e, h.bkt d d0 d1]
   constructor
   ·rintro ⟨h1, h2⟩; exact ⟨.inl h1, h2⟩
   ·rintro ⟨h1 | rfl, h2⟩
    ·exact ⟨h1, h2⟩
    ·exact absurd (hc.trans h2) e
theorem BkOk.drop (h : BkOk n S dg dgs bks) {v d : Int} (hv : S v) (hd : (dg v : Int) = d) (d1 : d < 64) (hS : ∀ u, S' u ↔ S u ∧ u ≠ v) :
  BkOk n S' dg dgs (bks.set d.toNat (at_ bks d &&& ~~~(1#64 <<< v.toNat))) := by
 have hbl := h.blen
 have hr := h.rng v hv
 refine ⟨h.dlen, by rw [List.length_set]; exact hbl, fun u hu => h.rng u ((hS u).1 hu).1, fun u hu => h.deg u ((hS u).1 hu).1, fun c c0 c1 u => ?_⟩
 rw [at_set _ d c _ (by omega) c0 (by omega), hS]
 by_cases e : d = c
 ·rw [if_pos e, mem_minus hr.1, e, h.bkt c c0 c1]
  constructor
  ·rintro ⟨⟨h1, h2⟩, h3⟩; exact ⟨⟨h1, h3⟩, h2⟩
  ·rintro ⟨⟨h1, h3⟩, h2⟩; exact ⟨⟨h1, h2⟩, h3⟩
 ·rw [if_neg e, h.bkt c c0 c1]
  constructor
  ·rintro ⟨h1, h2⟩; exact ⟨⟨h1, fun e2 => e (by subst e2; omega)⟩, h2⟩
  ·rintro ⟨⟨h1, _⟩, h2⟩; exact ⟨h1, h2⟩
theorem BkOk.lower (h : BkOk n S dg dgs bks) (hn : n ≤ 64) {w e : Int} (hw : S w) (he : (dg w : Int) = e) (e0 : 1 ≤ e) (e1 : e < 64) (hd : ∀ u, S u → dg' u = if u = w then dg u - 1 else dg u) :
  BkOk n S dg' (dgs.set w.toNat (e - 1)) ((bks.set e.toNat (at_ bks e &&& ~~~(1#64 <<< w.toNat))).set (e - 1).toNat (at_ (bks.set e.toNat (at_ bks e &&& ~~~(1#64 <<< w.toNat))) (e - 1) ||| 1#64 <<< w.toNat)) := by
 have hr := h.rng w hw
 have h1 : BkOk n (fun u => S u ∧ u ≠ w) dg dgs _ := h.drop hw he e1 (S' := fun u => S u ∧ u ≠ w) fun u => Iff.rfl
 have h2 : BkOk n (fun u => S u ∧ u ≠ w) dg' dgs _ := h1.congr (fun u => Iff.rfl) fun u hu => by rw [hd u hu.1, if_neg hu.2]
 have hdw := hd w hw
 rw [if_pos rfl] at hdw
 refine (h2.push (S' := S) hr.1 hr.2 hn (fun u => ?_) (fun h => h.2 rfl) (by omega) (by omega) : BkOk n S dg' (dgs.set w.toNat (e - 1)) _)
 constructor
 ·intro hu
  by_cases e : u = w
  ·exact .inr e
  ·exact .inl ⟨hu, e⟩
 ·rintro (hu | rfl)
  ·exact hu.1
  ·exact hw
theorem BkOk.takes {rows : List (BitVec 64)} {left : BitVec 64} (h : BkOk n (fun u => u ∈ listB left) (degB rows left) dgs bks) {d : Int} (d0 : 0 ≤ d) (d1 : d < 64) (hd : at_ bks d ≠ 0#64) (hlt : ∀ c : Int, 0 ≤ c → c < d → at_ bks c = 0#64) (hdeg : ∀ u ∈ listB left, degB rows left u < 64) :
  Takes rows left (tzB (at_ bks d)) ∧ (degB rows left (tzB (at_ bks d)) : Int) = d := by
 obtain ⟨h1, h2⟩ := tzB_le hd
 obtain ⟨h3, h4⟩ := (h.bkt d d0 d1 _).1 h1
 refine ⟨⟨h3, fun u hu => ?_⟩, h4⟩
 have hb := hdeg u hu
 rcases Int.lt_trichotomy (degB rows left u : Int) d with h5 | h5 | h5
 ·have h6 := (h.bkt (degB rows left u : Int) (by omega) (by omega) u).2 ⟨hu, rfl⟩
  rw [hlt _ (by omega) h5, listB_zero] at h6
  cases h6
 ·exact .inr ⟨by omega, h2 u ((h.bkt d d0 d1 u).2 ⟨hu, h5⟩)⟩
 ·exact .inl (by omega)
theorem BkOk.some {rows : List (BitVec 64)} {left : BitVec 64} (h : BkOk n (fun u => u ∈ listB left) (degB rows left) dgs bks) (hl : left ≠ 0#64) (hdeg : ∀ u ∈ listB left, degB rows left u < 64) (hz : ∀ c : Int, 0 ≤ c → c < 64 → at_ bks c = 0#64) : False := by
 obtain ⟨u, hu⟩ := nz_listB.1 hl
 have hb := hdeg u hu
 have h6 := (h.bkt (degB rows left u : Int) (by omega) (by omega) u).2 ⟨hu, rfl⟩
 rw [hz _ (by omega) (by omega), listB_zero] at h6
 cases h6
end
def degM (rows : List (BitVec 64)) (left : BitVec 64) (ws : List Int) (j : Nat) (u : Int) : Nat := if u ∈ ws.take j then degB rows left u - 1 else degB rows left u
theorem degM_zero (rows : List (BitVec 64)) (left : BitVec 64) (ws : List Int) (u : Int) : degM rows left ws 0 u = degB rows left u := by unfold degM; rw [if_neg (by simp)]
theorem degM_succ {rows : List (BitVec 64)} {left : BitVec 64} {ws : List Int} {j : Nat} (hj : j < ws.length) (hn : ws.Nodup) (u : Int) : degM rows left ws (j + 1) u = if u = at_ ws (j : Int) then degM rows left ws j u - 1 else degM rows left ws j u := by
 have hnot : at_ ws (j : Int) ∉ ws.take j := by
  rw [at_get ws j hj]
  intro hm
  obtain ⟨i, hi, e⟩ := List.mem_iff_getElem.1 hm
  rw [List.length_take] at hi
  rw [List.getElem_take] at e
  exact (List.pairwise_iff_getElem.1 hn) i j (by omega) hj (by omega) e
 unfold degM
 rw [take_at ws j hj]
 simp only [List.mem_append, List.mem_singleton]
 by_cases e : u = at_ ws (j : Int)
 ·subst e
  rw [if_pos (.inr rfl), if_pos rfl, if_neg hnot]
 ·rw [if_neg e]
  by_cases h2 : u ∈ ws.take j
  ·rw [if_pos (.inl h2), if_pos h2]
  ·rw [if_neg (by rintro (h3 | h3); exact h2 h3; exact e h3), if_neg h2]
theorem degM_now {rows : List (BitVec 64)} {left : BitVec 64} {ws : List Int} {j : Nat} (hj : j < ws.length) (hn : ws.Nodup) : degM rows left ws j (at_ ws (j : Int)) = degB rows left (at_ ws (j : Int)) := by
 have h1 := degM_succ (rows := rows) (left := left) hj hn (at_ ws (j : Int))
 rw [if_pos rfl] at h1
 unfold degM at h1 ⊢
 split
 ·rename_i h2
  have hnot : at_ ws (j : Int) ∉ ws.take j := by
   rw [at_get ws j hj]
   intro hm
   obtain ⟨i, hi, e⟩ := List.mem_iff_getElem.1 hm
   rw [List.length_take] at hi
   rw [List.getElem_take] at e
   exact (List.pairwise_iff_getElem.1 hn) i j (by omega) hj (by omega) e
  exact absurd h2 hnot
 ·rfl
theorem degM_all {n : Nat} {rows : List (BitVec 64)} (h : SymB n rows) {left : BitVec 64} {v : Int} (v0 : 0 ≤ v) (v1 : v < n) (hv : v ∈ listB left) {u : Int} (u0 : 0 ≤ u) (u1 : u < n) (hu : u ∈ listB (left &&& ~~~(1#64 <<< v.toNat))) {j : Nat} (hj : (listB (at_ rows v &&& (left &&& ~~~(1#64 <<< v.toNat)))).length ≤ j) :
  degM rows left (listB (at_ rows v &&& (left &&& ~~~(1#64 <<< v.toNat)))) j u = degB rows (left &&& ~~~(1#64 <<< v.toNat)) u := by
 have h1 := degB_minus h u0 u1 v0 v1 hv
 unfold degM
 rw [List.take_of_length_le hj]
 by_cases hm : u ∈ listB (at_ rows v)
 ·rw [if_pos (mem_andB.2 ⟨hm, hu⟩)]; rw [if_pos hm] at h1; omega
 ·rw [if_neg (fun e => hm (mem_andB.1 e).1)]; rw [if_neg hm] at h1; omega
end Go.Sl
/- The greatest set for which the edges inside, less a price for each node, are most, by a least cut. The plain law. No Go. No conditions. -/
namespace Go.Sl
def nodeArcs (N : Int) (v : Nat) : List Arc := [⟨0, 2 + (v : Int), 0⟩, ⟨2 + (v : Int), 1, N⟩]
def edgeArcs (nd D : Int) (es : List Pt) (i : Nat) : List Arc := [⟨0, 2 + nd + (i : Int), D⟩, ⟨2 + nd + (i : Int), 2 + (at_ es (i : Int)).u, D⟩, ⟨2 + nd + (i : Int), 2 + (at_ es (i : Int)).v, D⟩]
def denseArcs (nd N D : Int) (es : List Pt) : List Arc := (List.range nd.toNat).flatMap (nodeArcs N) ++ (List.range es.length).flatMap (edgeArcs nd D es)
def denseNet (nd N D : Int) (es : List Pt) : Net := ⟨2 + nd + (es.length : Int), 0, 1, denseArcs nd N D es⟩
theorem flat_len {α : Type} (f : Nat → List α) (c : Nat) (h : ∀ i, (f i).length = c) (n : Nat) : ((List.range n).flatMap f).length = n * c := by
 induction n with
 | zero => simp
 | succ n ih => rw [List.range_succ, List.flatMap_append, List.length_append, ih, Nat.succ_mul]; simp [h]
theorem denseArcs_len (nd N D : Int) (es : List Pt) : (denseArcs nd N D es).length = nd.toNat * 2 + es.length * 3 := by
 unfold denseArcs
 rw [List.length_append, flat_len _ 2 (fun _ => rfl), flat_len _ 3 (fun _ => rfl)]
theorem mem_denseArcs {nd N D : Int} {es : List Pt} {a : Arc} : a ∈ denseArcs nd N D es ↔ (∃ v : Nat, (v : Int) < nd ∧ a ∈ nodeArcs N v) ∨ ∃ i : Nat, i < es.length ∧ a ∈ edgeArcs nd D es i := by
 unfold denseArcs
 rw [List.mem_append, List.mem_flatMap, List.mem_flatMap]
 constructor
 ·rintro (⟨v, h1, h2⟩ | ⟨i, h1, h2⟩)
  ·exact .inl ⟨v, by have := List.mem_range.1 h1; omega, h2⟩
  ·exact .inr ⟨i, List.mem_range.1 h1, h2⟩
 ·rintro (⟨v, h1, h2⟩ | ⟨i, h1, h2⟩)
  ·exact .inl ⟨v, List.mem_range.2 om, h2⟩
  ·exact .inr ⟨i, List.mem_range.2 h1, h2⟩
theorem denseNet_ok {nd N D : Int} {es : List Pt} (hG : GrOk nd es) (hm : es.length ≤ 2016) (hN : 0 ≤ N ∧ N ≤ 1099511627776) (hD : 0 ≤ D ∧ D ≤ 1099511627776) : (denseNet nd N D es).Ok := by
 have hr := hG.rng
 have hl := denseArcs_len nd N D es
 refine ⟨⟨by show 2 + nd + (es.length : Int) ≤ 4200; omega, by show (denseArcs nd N D es).length ≤ 16384; omega⟩, by show 2 ≤ 2 + nd + (es.length : Int); omega, ⟨Int.le_refl _, by show (0 : Int) < 2 + nd + (es.length : Int); omega⟩, ⟨by show (0 : Int) ≤ 1; decide, by show (1 : Int) < 2 + nd + (es.length : Int); omega⟩, by show (0 : Int) ≠ 1; decide, fun a ha => ?_⟩
 show (0 ≤ a.frm ∧ a.frm < 2 + nd + (es.length : Int)) ∧ (0 ≤ a.dst ∧ a.dst < 2 + nd + (es.length : Int)) ∧ a.frm ≠ a.dst ∧ 0 ≤ a.cap ∧ a.cap ≤ 1099511627776
 rcases mem_denseArcs.1 ha with ⟨v, hv, h⟩ | ⟨i, hi, h⟩
 ·simp only [nodeArcs, List.mem_cons, List.not_mem_nil, or_false] at h
  rcases h with rfl | rfl <;> simp only <;> omega
 ·have he := hG.edge _ (Ce (xs := es) (i := (i : Int)) om om)
  simp only [edgeArcs, List.mem_cons, List.not_mem_nil, or_false] at h
  rcases h with rfl | rfl | rfl <;> simp only <;> omega
def costW (nd N D : Int) (es : List Pt) (W : Int → Bool) : Int := sumN nd.toNat (fun v => if W (v : Int) then N else 0) + sumN es.length fun i => if W (at_ es (i : Int)).u && W (at_ es (i : Int)).v then 0 else D
def cutA (S : Int → Bool) (a : Arc) : Int := if S a.frm && !S a.dst then a.cap else 0
theorem sum_flat {α : Type} (φ : α → Int) (f : Nat → List α) (n : Nat) : (((List.range n).flatMap f).map φ).sum = sumN n fun i => ((f i).map φ).sum := by
 induction n with
 | zero => rfl
 | succ n ih => rw [List.range_succ, List.flatMap_append, List.map_append, List.sum_append, ih]; simp [sumN]
theorem cut_dense (nd N D : Int) (es : List Pt) (S : Int → Bool) (h0 : S 0 = true) (h1 : S 1 = false) : cutS (denseNet nd N D es) S =
  sumN nd.toNat (fun v => if S (2 + (v : Int)) then N else 0) + sumN es.length fun i => (if S (2 + nd + (i : Int)) then (if S (2 + (at_ es (i : Int)).u) then 0 else D) + (if S (2 + (at_ es (i : Int)).v) then 0 else D) else D) := by
 have e : cutS (denseNet nd N D es) S = ((denseArcs nd N D es).map (cutA S)).sum := by
  rw [← sumN_list]; rfl
 rw [e]
 unfold denseArcs
 rw [List.map_append, List.sum_append, sum_flat, sum_flat]
 congr 1
 ·refine De _ fun v _ => ?_
  simp [nodeArcs, cutA, h0, h1]
 ·refine De _ fun i _ => ?_
  simp only [edgeArcs, cutA, List.map_cons, List.map_nil, List.sum_cons, List.sum_nil, h0]
  cases S (2 + nd + (i : Int)) <;> cases S (2 + (at_ es (i : Int)).u) <;> cases S (2 + (at_ es (i : Int)).v) <;> simp
def liftW (nd : Int) (es : List Pt) (W : Int → Bool) (z : Int) : Bool :=
 decide (z = 0) || (decide (2 ≤ z ∧ z < 2 + nd) && W (z - 2)) || (decide (2 + nd ≤ z ∧ z < 2 + nd + (es.length : Int)) && W (at_ es (z - 2 - nd)).u && W (at_ es (z - 2 - nd)).v)
theorem liftW_node {nd : Int} {es : List Pt} {W : Int → Bool} {v : Int} (h0 : 0 ≤ v) (h1 : v < nd) : liftW nd es W (2 + v) = W v := by
 unfold liftW
 rw [decide_eq_false (show ¬ 2 + v = 0 by omega), decide_eq_true (show 2 ≤ 2 + v ∧ 2 + v < 2 + nd by omega), decide_eq_false (show ¬ (2 + nd ≤ 2 + v ∧ 2 + v < 2 + nd + (es.length : Int)) by omega), show 2 + v - 2 = v by omega]
 simp
theorem liftW_edge {nd : Int} {es : List Pt} {W : Int → Bool} {i : Nat} (hnd : 0 ≤ nd) (hi : i < es.length) : liftW nd es W (2 + nd + (i : Int)) = (W (at_ es (i : Int)).u && W (at_ es (i : Int)).v) := by
 unfold liftW
 rw [decide_eq_false (show ¬ 2 + nd + (i : Int) = 0 by omega), decide_eq_false (show ¬ (2 ≤ 2 + nd + (i : Int) ∧ 2 + nd + (i : Int) < 2 + nd) by omega), decide_eq_true (show 2 + nd ≤ 2 + nd + (i : Int) ∧ 2 + nd + (i : Int) < 2 + nd + (es.length : Int) by omega), show 2 + nd + (i : Int) - 2 - nd = (i : Int) by omega]
 simp
theorem cut_lift {nd N D : Int} {es : List Pt} (hG : GrOk nd es) (W : Int → Bool) : liftW nd es W 0 = true ∧ liftW nd es W 1 = false ∧ cutS (denseNet nd N D es) (liftW nd es W) = costW nd N D es W := by
 have hr := hG.rng
 have a0 : liftW nd es W 0 = true := by unfold liftW; simp
 have a1 : liftW nd es W 1 = false := by
  unfold liftW
  rw [decide_eq_false (show ¬ (1 : Int) = 0 by decide), decide_eq_false (show ¬ (2 ≤ (1 : Int) ∧ (1 : Int) < 2 + nd) by omega), decide_eq_false (show ¬ (2 + nd ≤ (1 : Int) ∧ (1 : Int) < 2 + nd + (es.length : Int)) by omega)]; simp
 refine ⟨a0, a1, ?_⟩
 rw [cut_dense _ _ _ _ _ a0 a1]
 unfold costW
 congr 1
 ·refine De _ fun v hv => ?_
  rw [liftW_node om om]
 ·refine De _ fun i hi => ?_
  have he := hG.edge _ (Ce (xs := es) (i := (i : Int)) om om)
  rw [liftW_edge hr.1 hi, liftW_node om om, liftW_node om om]
  cases W (at_ es (i : Int)).u <;> cases W (at_ es (i : Int)).v <;> simp
theorem cost_le_cut {nd N D : Int} {es : List Pt} (hD : 0 ≤ D) (S : Int → Bool) (h0 : S 0 = true) (h1 : S 1 = false) : costW nd N D es (fun v => S (2 + v)) ≤ cutS (denseNet nd N D es) S := by
 rw [cut_dense _ _ _ _ _ h0 h1]
 unfold costW
 dsimp only
 have := sumN_le es.length (g := fun i => if S (2 + (at_ es (i : Int)).u) && S (2 + (at_ es (i : Int)).v) then 0 else D)
  (h := fun i => (if S (2 + nd + (i : Int)) then (if S (2 + (at_ es (i : Int)).u) then 0 else D) + (if S (2 + (at_ es (i : Int)).v) then 0 else D) else D)) fun i hi => by
  cases S (2 + nd + (i : Int)) <;> cases S (2 + (at_ es (i : Int)).u) <;> cases S (2 + (at_ es (i : Int)).v) <;> simp <;> omega
 omega
theorem great_cost {nd N D : Int} {es : List Pt} (hG : GrOk nd es) (hm : es.length ≤ 2016) (hN : 0 ≤ N ∧ N ≤ 1099511627776) (hD : 0 ≤ D ∧ D ≤ 1099511627776) {f : List Int} {T : Int → Bool} (hf : IsFlow (denseNet nd N D es) f) (hT : Great (denseNet nd N D es) f T) (W : Int → Bool) :
  costW nd N D es (fun v => T (2 + v)) ≤ costW nd N D es W ∧ (costW nd N D es W ≤ costW nd N D es (fun v => T (2 + v)) → ∀ v, 0 ≤ v → v < nd → W v = true → T (2 + v) = true) := by
 have hok := denseNet_ok hG hm hN hD
 obtain ⟨l0, l1, l2⟩ := cut_lift (N := N) (D := D) hG W
 have h1 := cost_le_cut (nd := nd) (N := N) (es := es) hD.1 T hT.src hT.snk
 have h2 : cutS (denseNet nd N D es) T ≤ cutS (denseNet nd N D es) (liftW nd es W) := by
  rw [← hT.value hok hf]; exact value_le hok hf _ l0 l1
 rw [l2] at h2
 refine ⟨by omega, fun hle v v0 v1 hv => ?_⟩
 have h3 : netF (denseNet nd N D es) f (denseNet nd N D es).source = cutS (denseNet nd N D es) (liftW nd es W) := by
  rw [hT.value hok hf, l2]; omega
 have h4 := (shut_value hok hf (S := liftW nd es W) l0 l1).1 h3
 exact hT.great _ h4 l1 (2 + v) om (by show 2 + v < 2 + nd + (es.length : Int); omega) (by rw [liftW_node v0 v1]; exact hv)
end Go.Sl
/- The densest set by prices that grow. The plain law. No Go. No conditions. -/
namespace Go.Sl
def insE (W : BitVec 64) (es : List Pt) : Int := ((es.filter fun e => W.getLsbD e.u.toNat && W.getLsbD e.v.toNat).length : Int)
def subN (nd : Int) (W : BitVec 64) : Prop := ∀ x ∈ listB W, x < nd
def cntB (W : BitVec 64) : Int := ((listB W).length : Int)
theorem insE_bd (W : BitVec 64) (es : List Pt) : 0 ≤ insE W es ∧ insE W es ≤ es.length := by
 unfold insE
 have := List.length_filter_le (fun e : Pt => W.getLsbD e.u.toNat && W.getLsbD e.v.toNat) es
 omega
theorem insE_take {W : BitVec 64} {es : List Pt} {k : Nat} (h : k < es.length) : insE W (es.take (k + 1)) = insE W (es.take k) + if W.getLsbD (at_ es (k : Int)).u.toNat && W.getLsbD (at_ es (k : Int)).v.toNat then 1 else 0 := by
 unfold insE
 rw [C3 es k h, List.filter_append, List.length_append]
 cases hc : (W.getLsbD (at_ es (k : Int)).u.toNat && W.getLsbD (at_ es (k : Int)).v.toNat) <;> simp [List.filter_cons, hc]
theorem sum_ins (D : Int) (W : BitVec 64) (es : List Pt) : (es.map fun e => if W.getLsbD e.u.toNat && W.getLsbD e.v.toNat then (0 : Int) else D).sum = D * ((es.length : Int) - insE W es) := by
 induction es with
 | nil => simp [insE]
 | cons e es ih =>
  rw [List.map_cons, List.sum_cons, ih]
  unfold insE
  rw [List.filter_cons]
  cases hc : (W.getLsbD e.u.toNat && W.getLsbD e.v.toNat)
  ·rw [if_neg dc, if_neg dc, List.length_cons]
   rw [show (((es.length + 1 : Nat) : Int) - ((es.filter fun e => W.getLsbD e.u.toNat && W.getLsbD e.v.toNat).length : Int)) = ((es.length : Int) - ((es.filter fun e => W.getLsbD e.u.toNat && W.getLsbD e.v.toNat).length : Int)) + 1 by omega, Int.mul_add]
   omega
  ·rw [if_pos rfl, if_pos rfl, List.length_cons, List.length_cons]
   rw [show (((es.length + 1 : Nat) : Int) - (((es.filter fun e => W.getLsbD e.u.toNat && W.getLsbD e.v.toNat).length + 1 : Nat) : Int)) = ((es.length : Int) - ((es.filter fun e => W.getLsbD e.u.toNat && W.getLsbD e.v.toNat).length : Int)) by omega]
   omega
theorem sum_cnt (N : Int) (p : Nat → Bool) (n : Nat) : sumN n (fun v => if p v then N else 0) = N * (((List.range n).filter p).length : Int) := by
 induction n with
 | zero => simp [sumN]
 | succ n ih =>
  rw [List.range_succ, List.filter_append, List.length_append]
  simp only [sumN]
  rw [ih]
  cases hc : p n
  ·simp [List.filter_cons, hc]
  ·rw [if_pos rfl, show ([n].filter p).length = 1 by simp [List.filter_cons, hc], Int.natCast_add, Int.mul_add]
   simp
theorem listN_range {nd : Int} {W : BitVec 64} (h : subN nd W) (h0 : 0 ≤ nd) (h1 : nd ≤ 64) : listN W = (List.range nd.toNat).filter fun i => W.getLsbD i := by
 unfold listN
 have hs : List.range 64 = List.range nd.toNat ++ (List.range (64 - nd.toNat)).map (nd.toNat + ·) := by
  rw [← List.range_add]; congr 1; omega
 rw [hs, List.filter_append]
 have : (((List.range (64 - nd.toNat)).map (nd.toNat + ·)).filter fun i => W.getLsbD i) = [] := by
  rw [List.filter_eq_nil_iff]
  intro i hi hb
  obtain ⟨j, _, rfl⟩ := List.mem_map.1 hi
  have := h ((nd.toNat + j : Nat) : Int) (mem_listB.2 ⟨by omega, by rw [Int.toNat_natCast]; exact hb⟩)
  omega
 rw [this, List.append_nil]
theorem cost_bits {nd N D : Int} {es : List Pt} {W : BitVec 64} (h0 : 0 ≤ nd) (h1 : nd ≤ 64) (h : subN nd W) : costW nd N D es (fun v => W.getLsbD v.toNat) = N * cntB W + D * ((es.length : Int) - insE W es) := by
 unfold costW
 have e1 := sum_cnt N (fun i => W.getLsbD i) nd.toNat
 rw [← listN_range h h0 h1] at e1
 have e2 := sumN_list (fun e : Pt => if W.getLsbD e.u.toNat && W.getLsbD e.v.toNat then (0 : Int) else D) es
 rw [sum_ins] at e2
 have e3 : cntB W = ((listN W).length : Int) := by unfold cntB listB; rw [List.length_map]
 rw [e3, ← e1, ← e2]
 congr 1
theorem cost_congr {nd N D : Int} {es : List Pt} {W W' : Int → Bool} (hG : GrOk nd es) (h : ∀ v, 0 ≤ v → v < nd → W v = W' v) : costW nd N D es W = costW nd N D es W' := by
 unfold costW
 congr 1
 ·exact De _ fun v hv => by rw [h _ om om]
 ·refine De _ fun i hi => ?_
  have he := hG.edge _ (Ce (xs := es) (i := (i : Int)) om om)
  rw [h _ he.1 om, h _ om he.2.2]
structure SolveP (nd N D : Int) (es : List Pt) (B : BitVec 64) : Prop where
 sub : subN nd B
 max : ∀ W, subN nd W → D * insE W es - N * cntB W ≤ D * insE B es - N * cntB B
 great : ∀ W, subN nd W → D * insE B es - N * cntB B ≤ D * insE W es - N * cntB W → ∀ x ∈ listB W, x ∈ listB B
theorem great_solve {nd N D : Int} {es : List Pt} (hG : GrOk nd es) (hm : es.length ≤ 2016) (hN : 0 ≤ N ∧ N ≤ 1099511627776) (hD : 0 ≤ D ∧ D ≤ 1099511627776) {f : List Int} {T : Int → Bool} (hf : IsFlow (denseNet nd N D es) f) (hT : Great (denseNet nd N D es) f T)
  {B : BitVec 64} (hB : ∀ v, v ∈ listB B ↔ (0 ≤ v ∧ v < nd) ∧ T (2 + v) = true) : SolveP nd N D es B := by
 have hr := hG.rng
 have hs : subN nd B := fun x hx => ((hB x).1 hx).1.2
 have hc : costW nd N D es (fun v => T (2 + v)) = costW nd N D es (fun v => B.getLsbD v.toNat) := cost_congr hG fun v h0 h1 => by
  rw [Bool.eq_iff_iff]
  have := hB v
  rw [Ea] at this
  constructor
  ·intro h; exact (this.2 ⟨⟨h0, h1⟩, h⟩).2
  ·intro h; exact (this.1 ⟨h0, h⟩).2
 rw [cost_bits hr.1 hr.2 hs] at hc
 have key : ∀ x y : Int, D * ((es.length : Int) - x) = D * es.length - D * x := fun x y => Int.mul_sub _ _ _
 refine ⟨hs, fun W hW => ?_, fun W hW hle x hx => ?_⟩
 ·have h := (great_cost hG hm hN hD hf hT fun v => W.getLsbD v.toNat).1
  rw [hc, cost_bits hr.1 hr.2 hW, key _ 0, key _ 0] at h
  omega
 ·have h := (great_cost hG hm hN hD hf hT fun v => W.getLsbD v.toNat).2
  rw [hc, cost_bits hr.1 hr.2 hW, key _ 0, key _ 0] at h
  have hx' := mem_listB.1 hx
  have h0 := hx'.1
  have h1 := hW x hx
  exact (hB x).2 ⟨⟨h0, h1⟩, h om x h0 h1 hx'.2⟩
structure DensP (nd N D : Int) (es : List Pt) (B : BitVec 64) : Prop where
 sub : subN nd B
 ne : B ≠ 0#64
 eq : D * insE B es = N * cntB B
 max : ∀ W, subN nd W → D * insE W es ≤ N * cntB W
 great : ∀ W, subN nd W → D * insE W es = N * cntB W → ∀ x ∈ listB W, x ∈ listB B
theorem cntB_pos {W : BitVec 64} (h : W ≠ 0#64) : 1 ≤ cntB W ∧ cntB W ≤ 64 := by
 obtain ⟨u, hu⟩ := nz_listB.1 h
 have := List.length_pos_of_mem hu
 have := listB_len W
 unfold cntB; omega
theorem insE_zero (es : List Pt) : insE 0#64 es = 0 := by
 unfold insE; simp
theorem cntB_zero : cntB 0#64 = 0 := by unfold cntB; rw [Cx]; rfl
theorem pos_set {nd N D : Int} {es : List Pt} {B : BitVec 64} (h : 0 < D * insE B es - N * cntB B) : B ≠ 0#64 := fun e => by
 subst e
 rw [insE_zero, cntB_zero] at h; omega
theorem SolveP.done {nd N D : Int} {es : List Pt} {S B : BitVec 64} (h : SolveP nd N D es B) (hS : subN nd S) (hne : S ≠ 0#64) (hp : D * insE S es = N * cntB S) (hle : insE B es * D ≤ N * cntB B) : DensP nd N D es B := by
 have h1 := h.max S hS
 have e : insE B es * D = D * insE B es := Int.mul_comm _ _
 have hz : D * insE B es = N * cntB B := by omega
 refine ⟨h.sub, fun e0 => ?_, hz, fun W hW => by have := h.max W hW; omega, fun W hW hw => h.great W hW om⟩
 obtain ⟨u, hu⟩ := nz_listB.1 hne
 have := h.great S hS om u hu
 rw [e0, Cx] at this; cases this
def densM (es : List Pt) (W : BitVec 64) : Nat := (4096 * (insE W es).toNat) / (cntB W).toNat
theorem dens_grow {a b s t : Nat} (hs : 1 ≤ s ∧ s ≤ 64) (ht : 1 ≤ t ∧ t ≤ 64) (h : a * t < b * s) : 4096 * a / s < 4096 * b / t := by
 have h1 : (4096 * a / s) * s ≤ 4096 * a := Nat.div_mul_le_self _ _
 refine Nat.lt_of_succ_le ((Nat.le_div_iff_mul_le om).2 ?_)
 generalize 4096 * a / s = q at h1
 have h2 : (q + 1) * s ≤ 4096 * a + s := by rw [Nat.add_mul]; omega
 have h3 : ((q + 1) * s) * t ≤ (4096 * a + s) * t := Nat.mul_le_mul_right _ h2
 have h4 : (4096 * a + s) * t = 4096 * (a * t) + s * t := by rw [Nat.add_mul, Nat.mul_assoc]
 have h5 : s * t ≤ 64 * 64 := Nat.mul_le_mul hs.2 ht.2
 have h6 : ((q + 1) * t) * s ≤ (4096 * b) * s := by
  have e1 : ((q + 1) * t) * s = ((q + 1) * s) * t := by rw [Nat.mul_assoc, Nat.mul_comm t s, ← Nat.mul_assoc]
  have e2 : (4096 * b) * s = 4096 * (b * s) := Nat.mul_assoc _ _ _
  rw [e1, e2]; omega
 exact Nat.le_of_mul_le_mul_right h6 om
theorem densM_grow {nd N D : Int} {es : List Pt} {S B : BitVec 64} (hS : S ≠ 0#64) (hD : 1 ≤ D) (hp : D * insE S es = N * cntB S) (hlt : ¬ insE B es * D ≤ N * cntB B) : densM es S < densM es B := by
 have hB : B ≠ 0#64 := pos_set (nd := nd) (N := N) (D := D) (es := es) (by have e : insE B es * D = D * insE B es := Int.mul_comm _ _; omega)
 have s1 := cntB_pos hS
 have s2 := cntB_pos hB
 have i1 := insE_bd S es
 have i2 := insE_bd B es
 unfold densM
 refine dens_grow om om ?_
 have hz : insE S es * cntB B < insE B es * cntB S := by
  refine Int.lt_of_mul_lt_mul_left (a := D) ?_ om
  rw [← Int.mul_assoc, hp, ← Int.mul_assoc, Int.mul_comm D (insE B es), Int.mul_assoc N, Int.mul_comm (cntB S) (cntB B), ← Int.mul_assoc N]
  exact Int.mul_lt_mul_of_pos_right om om
 have c1 : ((insE S es).toNat : Int) = insE S es := Int.toNat_of_nonneg i1.1
 have c2 : ((insE B es).toNat : Int) = insE B es := Int.toNat_of_nonneg i2.1
 have c3 : ((cntB S).toNat : Int) = cntB S := Int.toNat_of_nonneg om
 have c4 : ((cntB B).toNat : Int) = cntB B := Int.toNat_of_nonneg om
 have : (((insE S es).toNat * (cntB B).toNat : Nat) : Int) < (((insE B es).toNat * (cntB S).toNat : Nat) : Int) := by
  rw [Int.natCast_mul, Int.natCast_mul, c1, c2, c3, c4]; exact hz
 exact Int.ofNat_lt.1 this
theorem densM_le {es : List Pt} (hm : es.length ≤ 2016) {W : BitVec 64} (h : W ≠ 0#64) : densM es W ≤ 8257536 := by
 have i1 := insE_bd W es
 have s1 := cntB_pos h
 unfold densM
 refine Nat.le_trans (Nat.div_le_self _ _) ?_
 omega
theorem DensP.reach {nd N D : Int} {es : List Pt} {B : BitVec 64} (hD : 1 ≤ D) (h : DensP nd N D es B) {a b : Int} (hb : 1 ≤ b) : a * D ≤ N * b ↔ ∃ W, subN nd W ∧ W ≠ 0#64 ∧ a * cntB W ≤ b * insE W es := by
 have s1 := cntB_pos h.ne
 have e := h.eq
 constructor
 ·intro hle
  refine ⟨B, h.sub, h.ne, Int.le_of_mul_le_mul_right (a := D) ?_ om⟩
  rw [Int.mul_assoc b, Int.mul_comm (insE B es) D, e, show a * cntB B * D = a * D * cntB B by rw [Int.mul_assoc, Int.mul_comm (cntB B), ← Int.mul_assoc], show b * (N * cntB B) = N * b * cntB B by rw [← Int.mul_assoc, Int.mul_comm b N]]
  exact Int.mul_le_mul_of_nonneg_right hle om
 ·rintro ⟨W, hW, hne, hle⟩
  have s2 := cntB_pos hne
  have hm := h.max W hW
  refine Int.le_of_mul_le_mul_right (a := cntB W) ?_ om
  have h1 : a * cntB W * D ≤ b * insE W es * D := Int.mul_le_mul_of_nonneg_right hle om
  have h2 : b * (D * insE W es) ≤ b * (N * cntB W) := Int.mul_le_mul_of_nonneg_left hm om
  rw [show a * D * cntB W = a * cntB W * D by rw [Int.mul_assoc, Int.mul_comm D, ← Int.mul_assoc], show N * b * cntB W = b * (N * cntB W) by rw [Int.mul_comm N b, Int.mul_assoc]]
  rw [show b * insE W es * D = b * (D * insE W es) by rw [Int.mul_assoc, Int.mul_comm (insE W es)]] at h1
  omega
end Go.Sl
/- Fewer edges lie inside a set than it has nodes, times all nodes. The plain law. No Go. No conditions. -/
namespace Go.Sl
theorem flat_const {α β : Type} (f : α → List β) (c : Nat) (h : ∀ x, (f x).length = c) : ∀ l : List α, (l.flatMap f).length = l.length * c
 | [] => by simp
 | x :: l => by rw [List.flatMap_cons, List.length_append, flat_const f c h l, h, List.length_cons, Nat.succ_mul]; omega
theorem insE_lt {nd : Int} {es : List Pt} {W : BitVec 64} (hG : GrOk nd es) (hne : W ≠ 0#64) (h1 : 1 ≤ nd) : insE W es < nd * cntB W := by
 have hc := cntB_pos hne
 have hn : (es.filter fun e => W.getLsbD e.u.toNat && W.getLsbD e.v.toNat).Nodup := (asc_nodup hG.asc).sublist List.filter_sublist
 have hs : ∀ e ∈ (es.filter fun e => W.getLsbD e.u.toNat && W.getLsbD e.v.toNat), e ∈ (listB W).flatMap fun u => (List.range (nd.toNat - 1)).map fun (i : Nat) => (⟨u, (i : Int) + 1⟩ : Pt) := fun e he => by
  obtain ⟨h2, h3⟩ := List.mem_filter.1 he
  rw [Bool.and_eq_true] at h3
  have h4 := hG.edge e h2
  refine List.mem_flatMap.2 ⟨e.u, mem_listB.2 ⟨h4.1, h3.1⟩, List.mem_map.2 ⟨(e.v - 1).toNat, List.mem_range.2 om, ?_⟩⟩
  rw [Pt.ext_iff']
  exact ⟨rfl, by show (((e.v - 1).toNat : Nat) : Int) + 1 = e.v; omega⟩
 have hl := List.Nodup.length_le_of_subset hn hs
 rw [flat_const _ (nd.toNat - 1) (fun u => by rw [List.length_map, List.length_range])] at hl
 have e1 : insE W es ≤ (((listB W).length * (nd.toNat - 1) : Nat) : Int) := by unfold insE; exact Int.ofNat_le.2 hl
 have e2 : (((listB W).length * (nd.toNat - 1) : Nat) : Int) = cntB W * (nd - 1) := by
  rw [Int.natCast_mul, show (((nd.toNat - 1 : Nat)) : Int) = nd - 1 by omega]; rfl
 rw [e2, Int.mul_sub, Int.mul_one, Int.mul_comm] at e1
 omega
theorem dens_small {nd : Int} {es : List Pt} (hG : GrOk nd es) (h1 : 1 ≤ nd) : ¬ ∃ W, subN nd W ∧ W ≠ 0#64 ∧ nd * cntB W ≤ 1 * insE W es := by
 rintro ⟨W, _, hne, hle⟩
 have := insE_lt hG hne h1
 omega
theorem dens_zero {nd : Int} {es : List Pt} (h1 : 1 ≤ nd) : ∃ W, subN nd W ∧ W ≠ 0#64 ∧ 0 * cntB W ≤ 1 * insE W es := by
 refine ⟨1#64 <<< (0 : Int).toNat, fun x hx => ?_, ?_, ?_⟩
 ·have hx' := (mem_orbit (m := 0#64) (u := x) (k := 0) dc dc).1 (by simpa using hx)
  rcases hx' with h | h
  ·rw [Cx] at h; cases h
  ·omega
 ·decide
 ·have := (insE_bd (1#64 <<< (0 : Int).toNat) es).1
  omega
end Go.Sl
