/- A part of the proofs of statements of this seat: contracts of functions, and the plain laws that they lean on. No conditions. -/
import Derived.Test.YtbimaodbcjjbfaaDoorNet
import Derived.Test.YtbimaodbcjjbfaaDoorRunsD5
import Derived.Test.YtbimaodbcjjbfaaDoorSets
import Derived.Test.YtbimaodbcjjbfaaDoorNetY
import Derived.Test.YtbimaodbcjjbfaaDoorLaw15A
import Derived.Test.YtbimaodbcjjbfaaDoorParts9
import Derived.Test.YtbimaodbcjjbfaaDoorRets
import Derived.Test.YtbimaodbcjjbfaaDoorGraphM5
/- Cuts of graphs: how many edges a set separates; least cuts; which nodes few edges cannot separate. No Go. No conditions. -/
namespace Go.Sl
set_option linter.unusedVariables false
set_option linter.unusedSimpArgs false
def cross (S : Int → Bool) (e : Pt) : Bool := S e.u != S e.v
/-- How many edges lead from a set to other nodes. -/
def lvE (E : List Pt) (S : Int → Bool) : Int := ((E.filter (cross S)).length : Int)
def arcsE (E : List Pt) : List Arc := E.flatMap fun e => [⟨e.u, e.v, 1⟩, ⟨e.v, e.u, 1⟩]
theorem sumN_list {α : Type} [Inhabited α] (g : α → Int) (l : List α) : sumN l.length (fun k => g (at_ l (k : Int))) = (l.map g).sum := by
  have key : ∀ m, m ≤ l.length → sumN m (fun k => g (at_ l (k : Int))) = ((l.take m).map g).sum := fun m => by
    induction m with
    | zero => intro _; simp [sumN]
    | succ m ih =>
      intro hm
      rw [take_at l m (by omega), List.map_append, List.sum_append, ← ih (by omega)]
      simp [sumN]
  have := key l.length (Nat.le_refl _)
  rwa [List.take_length] at this
theorem perm_sum {l m : List Int} (h : l.Perm m) : l.sum = m.sum := by
  induction h with
  | nil => rfl
  | cons x _ ih => simp [ih]
  | swap x y l => simp; omega
  | trans _ _ ih1 ih2 => exact ih1.trans ih2
theorem lvE_cons (e : Pt) (E : List Pt) (S : Int → Bool) : lvE (e :: E) S = (if cross S e then 1 else 0) + lvE E S := by
  unfold lvE
  rw [List.filter_cons]
  by_cases h : cross S e = true <;> simp [h]
  omega
theorem arcs_sum (E : List Pt) (S : Int → Bool) : ((arcsE E).map fun a => if S a.frm && !S a.dst then a.cap else 0).sum = lvE E S := by
  induction E with
  | nil => simp [arcsE, lvE]
  | cons e E ih =>
    have e1 : arcsE (e :: E) = [⟨e.u, e.v, 1⟩, ⟨e.v, e.u, 1⟩] ++ arcsE E := rfl
    rw [e1, List.map_append, List.sum_append, ih, lvE_cons]
    unfold cross
    cases h1 : S e.u <;> cases h2 : S e.v <;> simp [h1, h2]
theorem cutS_E {n : Net} {E : List Pt} (h : n.arcs.Perm (arcsE E)) (S : Int → Bool) : cutS n S = lvE E S := by
  unfold cutS
  rw [sumN_list (fun a : Arc => if S a.frm && !S a.dst then a.cap else 0) n.arcs, ← arcs_sum]
  exact perm_sum (h.map _)
/-- The least value of a cut between two nodes, and the least set that has it. -/
structure MinSide (E : List Pt) (nd s t : Int) (side : List Int) (val : Int) : Prop where
  valid : ValidP side nd
  src : s ∈ side
  snk : t ∉ side
  eq : lvE E (inL side) = val
  le : ∀ S : Int → Bool, S s = true → S t = false → val ≤ lvE E S
  least : ∀ S : Int → Bool, S s = true → S t = false → lvE E S = val → ∀ z ∈ side, S z = true
theorem MinSide.uniq {E : List Pt} {nd s t : Int} {side side' : List Int} {v v' : Int} (h : MinSide E nd s t side v) (h' : MinSide E nd s t side' v') : side = side' ∧ v = v' := by
  have e1 := h.le (inL side') (decide_eq_true h'.src) (decide_eq_false h'.snk)
  have e2 := h'.le (inL side) (decide_eq_true h.src) (decide_eq_false h.snk)
  rw [h'.eq] at e1
  rw [h.eq] at e2
  have e : v = v' := Int.le_antisymm e1 e2
  subst e
  refine ⟨?_, rfl⟩
  have m1 := h.least (inL side') (decide_eq_true h'.src) (decide_eq_false h'.snk) h'.eq
  have m2 := h'.least (inL side) (decide_eq_true h.src) (decide_eq_false h.snk) h.eq
  refine LinO.uniq (lt := fun a b : Int => a < b) ⟨fun a h => by omega, fun a b c h1 h2 => by omega, fun a b => by omega⟩ (ValidP_iff.1 h.valid).2 (ValidP_iff.1 h'.valid).2 fun z => ?_
  exact ⟨fun hz => of_decide_eq_true (m1 z hz), fun hz => of_decide_eq_true (m2 z hz)⟩
theorem MaxF.minside {n : Net} {E : List Pt} {f side : List Int} {val : Int} (hok : n.Ok) (hp : n.arcs.Perm (arcsE E)) (h : MaxF n f side val) : MinSide E n.nodes n.source n.sink side val := by
  have hc := cutS_E hp
  obtain ⟨R, hR, hs⟩ := h.side
  have hsrc := hok.src
  have hsnk := hok.snk
  have htwo := hok.two
  have hm : ∀ z, z ∈ side ↔ (0 ≤ z ∧ z < n.nodes) ∧ R z = true := fun z => by
    rw [hs, mem_sideL]
    constructor <;> rintro ⟨⟨a, b⟩, c⟩ <;> exact ⟨⟨a, by omega⟩, c⟩
  have hcut := h.side_cut hok
  refine ⟨?_, (hm _).2 ⟨hsrc, hR.src⟩, (fun hh => by have := ((hm _).1 hh).2; rw [hR.snk] at this; cases this), by rw [← hc]; exact hcut, fun S a b => by rw [← hc]; exact h.le_cut hok S a b, fun S a b hv z hz => ?_⟩
  · rw [ValidP_iff, hs]
    refine ⟨fun x hx => by have := mem_sideL.1 hx; omega, ?_⟩
    unfold sideL
    exact ((List.pairwise_map.2 (List.pairwise_lt_range.imp fun h => by omega)).sublist List.filter_sublist)
  · have h1 : netF n f n.source = cutS n S := by rw [hc, hv]; exact h.val.symm
    exact hR.least S ((shut_value hok h.flow a b).1 h1) a z ((hm z).1 hz).2
/-- The other way round. -/
theorem lvE_not (E : List Pt) (S : Int → Bool) : lvE E (fun z => !S z) = lvE E S := by
  unfold lvE
  congr 2
  refine List.filter_congr fun e _ => ?_
  simp only [cross]
  cases S e.u <;> cases S e.v <;> rfl
theorem lvE_congr {E : List Pt} {S T : Int → Bool} (h : ∀ e ∈ E, S e.u = T e.u ∧ S e.v = T e.v) : lvE E S = lvE E T := by
  unfold lvE
  congr 2
  refine List.filter_congr fun e he => ?_
  unfold cross
  rw [(h e he).1, (h e he).2]
theorem lvE_nonneg (E : List Pt) (S : Int → Bool) : 0 ≤ lvE E S := by unfold lvE; omega
theorem lvE_minus (E : List Pt) (S T : Int → Bool) : lvE E (fun z => S z && !T z) + lvE E (fun z => T z && !S z) ≤ lvE E S + lvE E T := by
  induction E with
  | nil => simp [lvE]
  | cons e E ih =>
    rw [lvE_cons, lvE_cons, lvE_cons, lvE_cons]
    have : (if cross (fun z => S z && !T z) e then (1 : Int) else 0) + (if cross (fun z => T z && !S z) e then 1 else 0) ≤ (if cross S e then 1 else 0) + (if cross T e then 1 else 0) := by
      have key : ∀ a b c d : Bool, (if ((a && !c) != (b && !d)) = true then (1 : Int) else 0) + (if ((c && !a) != (d && !b)) = true then 1 else 0) ≤ (if (a != b) = true then 1 else 0) + (if (c != d) = true then 1 else 0) := by decide
      exact key (S e.u) (S e.v) (T e.u) (T e.v)
    omega
/-- Fewer than k edges do not separate these two. -/
def KE (k : Int) (E : List Pt) (x y : Int) : Prop := ∀ S : Int → Bool, S x = true → S y = false → k ≤ lvE E S
theorem KE.refl (k : Int) (E : List Pt) (x : Int) : KE k E x x := fun S h1 h2 => by rw [h1] at h2; cases h2
theorem KE.symm {k : Int} {E : List Pt} {x y : Int} (h : KE k E x y) : KE k E y x := fun S h1 h2 => by
  rw [← lvE_not]; exact h (fun z => !S z) (by simp [h2]) (by simp [h1])
theorem KE.trans {k : Int} {E : List Pt} {x y z : Int} (h : KE k E x y) (h' : KE k E y z) : KE k E x z := fun S h1 h2 => by
  cases hy : S y
  · exact h S h1 hy
  · exact h' S hy h2
theorem MinSide.ke {E : List Pt} {nd s t : Int} {side : List Int} {v k : Int} (h : MinSide E nd s t side v) : k ≤ v ↔ KE k E s t := by
  constructor
  · intro hk S h1 h2; have := h.le S h1 h2; omega
  · intro hk
    have := hk (inL side) (decide_eq_true h.src) (decide_eq_false h.snk)
    rw [h.eq] at this; exact this
theorem MinSide.sym {E : List Pt} {nd s t : Int} {side side' : List Int} {v v' : Int} (h : MinSide E nd s t side v) (h' : MinSide E nd t s side' v') : v = v' := by
  have e1 := (h.ke (k := v)).1 (Int.le_refl _)
  have e2 := (h'.ke (k := v')).1 (Int.le_refl _)
  exact Int.le_antisymm ((h'.ke).2 e1.symm) ((h.ke).2 e2.symm)
/-- The tree of least cuts (Gusfield), for one bound: nodes from 1 on are put in the place of their cuts; what is joined in it is what fewer than k edges do not separate. -/
structure Gus (k : Int) (E : List Pt) (n : Nat) (v : Nat) (tree : List Int) (J : Int → Int → Prop) : Prop where
  len : tree.length = n
  low : ∀ w : Nat, w < n → 0 < w → 0 ≤ at_ tree (w : Int) ∧ at_ tree (w : Int) < w ∧ (v ≤ w → at_ tree (w : Int) < v)
  done : ∀ x y : Nat, x < v → y < v → (J (x : Int) (y : Int) ↔ KE k E (x : Int) (y : Int))
  wait : ∀ x w : Nat, x < v → v ≤ w → w < n → KE k E (x : Int) (w : Int) → J (at_ tree (w : Int)) (x : Int)
  apart : ∀ w w' : Nat, v ≤ w → w < n → v ≤ w' → w' < n → KE k E (w : Int) (w' : Int) → (∀ x : Nat, x < v → ¬ KE k E (x : Int) (w : Int)) → at_ tree (w : Int) = at_ tree (w' : Int)
  iso : ∀ (x : Int) (w : Nat), v ≤ w → w < n → J x (w : Int) → x = (w : Int)
structure EqvJ (n : Nat) (J : Int → Int → Prop) : Prop where
  refl : ∀ x : Nat, x < n → J (x : Int) (x : Int)
  symm : ∀ x y, J x y → J y x
  trans : ∀ x y z, J x y → J y z → J x z
theorem not_ke {k : Int} {E : List Pt} {x y : Int} (h : ¬ KE k E x y) : ∃ S : Int → Bool, S x = true ∧ S y = false ∧ lvE E S < k := by
  refine Classical.byContradiction fun hn => h fun S h1 h2 => ?_
  refine Classical.byContradiction fun h3 => hn ⟨S, h1, h2, by omega⟩
/-- Two nodes that stay together are moved together. -/
theorem Gus.both {k : Int} {E : List Pt} {n v : Nat} {tree : List Int} {J : Int → Int → Prop} (h : Gus k E n v tree J) {p : Int} {side : List Int} {c : Int} (hc : MinSide E n (v : Int) p side c)
    {w w' : Nat} (hww : KE k E (w : Int) (w' : Int)) (hvw : ¬ KE k E (v : Int) (w : Int)) (h1 : (w : Int) ∈ side) (h2 : (w' : Int) ∉ side) : False := by
  have hS1 : inL side (w : Int) = true := decide_eq_true h1
  have hS2 : inL side (w' : Int) = false := decide_eq_false h2
  have hSv : inL side (v : Int) = true := decide_eq_true hc.src
  have hSp : inL side p = false := decide_eq_false hc.snk
  by_cases hck : c < k
  · have := hww (inL side) hS1 hS2
    rw [hc.eq] at this; omega
  · obtain ⟨T, hT1, hT2, hT3⟩ := not_ke (fun hh => hvw (KE.symm hh) : ¬ KE k E (w : Int) (v : Int))
    have hTw' : T (w' : Int) = true := by
      cases hq : T (w' : Int)
      · have := hww T hT1 hq; omega
      · rfl
    have hTp : T p = false := by
      cases hq : T p
      · rfl
      · have := hc.le (fun z => !T z) (by simp [hT2]) (by simp [hq])
        rw [lvE_not] at this; omega
    have h3 := lvE_minus E (inL side) T
    have h4 := hc.le (fun z => inL side z && !T z) (by simp [hSv, hT2]) (by simp [hSp])
    have h5 := (KE.symm hww) (fun z => T z && !inL side z) (by simp [hTw', hS2]) (by simp [hS1])
    rw [hc.eq] at h3
    omega
theorem Gus.step {k : Int} {E : List Pt} {n v : Nat} {tree tree' : List Int} {J J' : Int → Int → Prop} (h : Gus k E n v tree J) (hJ : EqvJ n J) (hv : v < n) (h0 : 0 < v) {side : List Int} {c : Int} (hc : MinSide E n (v : Int) (at_ tree (v : Int)) side c)
    (hl' : tree'.length = n) (ht' : ∀ w : Nat, w < n → at_ tree' (w : Int) = if v < w ∧ at_ tree (w : Int) = at_ tree (v : Int) ∧ (w : Int) ∈ side then (v : Int) else at_ tree (w : Int))
    (hJ' : ∀ x y, J' x y ↔ (J x y ∨ (k ≤ c ∧ ((J x (at_ tree (v : Int)) ∧ J (v : Int) y) ∨ (J x (v : Int) ∧ J (at_ tree (v : Int)) y))))) : Gus k E n (v + 1) tree' J' := by
  have hpl := h.low v hv h0
  obtain ⟨p, hp⟩ : ∃ p : Nat, at_ tree (v : Int) = (p : Int) := ⟨(at_ tree (v : Int)).toNat, by omega⟩
  rw [hp] at hc ht' hJ' hpl
  have hpv : p < v := by have := hpl.2.2 (Nat.le_refl _); omega
  have hpn : p < n := by omega
  have hkc := hc.ke (k := k)
  have hnov : ∀ x : Nat, x < v → ¬ J (x : Int) (v : Int) := fun x hx hj => by have := h.iso _ v (Nat.le_refl _) hv hj; omega
  have hnov' : ∀ x : Nat, x < v → ¬ J (v : Int) (x : Int) := fun x hx hj => hnov x hx (hJ.symm _ _ hj)
  have hJv := hJ.refl v hv
  have hSv : inL side (v : Int) = true := decide_eq_true hc.src
  have hSp : inL side (p : Int) = false := decide_eq_false hc.snk
  -- with a lesser cut, no node ahead is with v
  have hlone : c < k → ∀ x : Nat, x < v → ¬ KE k E (x : Int) (v : Int) := fun hck x hx hke => by
    have h1 := h.wait x v hx (Nat.le_refl _) hv hke
    rw [hp] at h1
    have h2 := (h.done p x hpv hx).1 h1
    have := hkc.2 ((hke.symm).trans h2.symm)
    omega
  refine ⟨hl', fun w hw hw0 => ?_, fun x y hx hy => ?_, fun x w hx hw hwn hke => ?_, fun w w' hw hwn hw' hwn' hke hno => ?_, fun x w hw hwn hj => ?_⟩
  · have := h.low w hw hw0
    rw [ht' w hw]
    split
    · omega
    · refine ⟨this.1, this.2.1, fun hle => ?_⟩
      have := this.2.2 (by omega); omega
  · have hcase : ∀ x : Nat, x < v → (J' (x : Int) (v : Int) ↔ KE k E (x : Int) (v : Int)) := fun x hx => by
      rw [hJ']
      by_cases hck : k ≤ c
      · have hvp := hkc.1 hck
        constructor
        · rintro (h1 | ⟨_, h1 | h1⟩)
          · exact absurd h1 (hnov x hx)
          · exact ((h.done x p hx hpv).1 h1.1).trans hvp.symm
          · exact absurd h1.1 (hnov x hx)
        · intro hke
          exact .inr ⟨hck, .inl ⟨(h.done x p hx hpv).2 (hke.trans hvp), hJv⟩⟩
      · constructor
        · rintro (h1 | ⟨h1, _⟩)
          · exact absurd h1 (hnov x hx)
          · exact absurd h1 hck
        · intro hke; exact absurd hke (hlone (by omega) x hx)
    have hJs : ∀ a b, J' a b → J' b a := fun a b hab => by
      rw [hJ'] at hab ⊢
      rcases hab with h1 | ⟨h1, h2 | h2⟩
      · exact .inl (hJ.symm _ _ h1)
      · exact .inr ⟨h1, .inr ⟨hJ.symm _ _ h2.2, hJ.symm _ _ h2.1⟩⟩
      · exact .inr ⟨h1, .inl ⟨hJ.symm _ _ h2.2, hJ.symm _ _ h2.1⟩⟩
    rcases Nat.lt_or_ge x v with hxv | hxv
    · rcases Nat.lt_or_ge y v with hyv | hyv
      · rw [← h.done x y hxv hyv, hJ']
        constructor
        · rintro (h1 | ⟨_, h1 | h1⟩)
          · exact h1
          · exact absurd h1.2 (hnov' y hyv)
          · exact absurd h1.1 (hnov x hxv)
        · exact .inl
      · rw [show y = v by omega]; exact hcase x hxv
    · rw [show x = v by omega]
      rcases Nat.lt_or_ge y v with hyv | hyv
      · exact ⟨fun hj => ((hcase y hyv).1 (hJs _ _ hj)).symm, fun hk => hJs _ _ ((hcase y hyv).2 hk.symm)⟩
      · rw [show y = v by omega]
        exact ⟨fun _ => KE.refl _ _ _, fun _ => (hJ' _ _).2 (.inl hJv)⟩
  · rw [ht' w hwn, hJ']
    by_cases hck : k ≤ c
    · have hvp := hkc.1 hck
      rcases Nat.lt_or_ge x v with hxv | hxv
      · have h1 := h.wait x w hxv (by omega) hwn hke
        split
        · rename_i hm
          rw [hm.2.1] at h1
          exact .inr ⟨hck, .inr ⟨hJv, h1⟩⟩
        · exact .inl h1
      · rw [show x = v by omega] at hke ⊢
        have h1 := h.wait p w hpv (by omega) hwn (hvp.symm.trans hke)
        split
        · exact .inl hJv
        · exact .inr ⟨hck, .inl ⟨h1, hJv⟩⟩
    · rcases Nat.lt_or_ge x v with hxv | hxv
      · have h1 := h.wait x w hxv (by omega) hwn hke
        rw [if_neg]
        · exact .inl h1
        · rintro ⟨_, hm, hs⟩
          rw [hm] at h1
          have h2 := (h.done p x hpv hxv).1 h1
          have h3 := (h2.trans hke).symm (inL side) (decide_eq_true hs) hSp
          rw [hc.eq] at h3; omega
      · rw [show x = v by omega] at hke ⊢
        have hws : (w : Int) ∈ side := Classical.byContradiction fun hn => by
          have h3 := hke (inL side) hSv (decide_eq_false hn)
          rw [hc.eq] at h3; omega
        have htw := h.apart v w (Nat.le_refl _) hv (by omega) hwn hke (hlone (by omega))
        rw [if_pos ⟨by omega, by rw [← htw, hp], hws⟩]
        exact .inl hJv
  · have he := h.apart w w' (by omega) hwn (by omega) hwn' hke fun x hx => hno x (by omega)
    have hvw := hno v (by omega)
    rw [ht' w hwn, ht' w' hwn', he]
    by_cases hm : at_ tree (w' : Int) = (p : Int)
    · by_cases hs : (w : Int) ∈ side <;> by_cases hs' : (w' : Int) ∈ side
      · rw [if_pos ⟨by omega, hm, hs⟩, if_pos ⟨by omega, hm, hs'⟩]
      · exact (h.both hc hke hvw hs hs').elim
      · exact (h.both hc hke.symm (fun hh => hvw (hh.trans hke.symm)) hs' hs).elim
      · rw [if_neg fun hh => hs hh.2.2, if_neg fun hh => hs' hh.2.2]
    · rw [if_neg fun hh => hm hh.2.1, if_neg fun hh => hm hh.2.1]
  · rw [hJ'] at hj
    rcases hj with h1 | ⟨_, h1 | h1⟩
    · exact h.iso x w (by omega) hwn h1
    · have := h.iso _ w (by omega) hwn h1.2; omega
    · have := h.iso _ w (by omega) hwn h1.2; omega
theorem Gus.start {k : Int} {E : List Pt} {n : Nat} {tree : List Int} {J : Int → Int → Prop} (hn : 0 < n) (hl : tree.length = n) (hz : ∀ w : Nat, w < n → at_ tree (w : Int) = 0) (hJ : ∀ x y, J x y → x = y) (h00 : J 0 0) : Gus k E n 1 tree J := by
  refine ⟨hl, fun w hw h0 => ?_, fun x y hx hy => ?_, fun x w hx hw hwn hke => ?_, fun w w' hw hwn hw' hwn' _ _ => ?_, fun x w _ _ hj => hJ _ _ hj⟩
  · rw [hz w hw]; omega
  · rw [show x = 0 by omega, show y = 0 by omega]
    exact ⟨fun _ => KE.refl _ _ _, fun _ => h00⟩
  · rw [hz w hwn, show x = 0 by omega]; exact h00
  · rw [hz w hwn, hz w' hwn']
end Go.Sl
namespace Go.Sl
open Go.Proofs
set_option linter.unusedVariables false
set_option linter.unusedSimpArgs false
set_option maxRecDepth 4000
/-- The edges within a set. -/
def inW (W : BitVec 64) (es : List Pt) : List Pt := es.filter fun e => decide (e.u ∈ listB W ∧ e.v ∈ listB W)
def pairsW (rows : List (BitVec 64)) (W : BitVec 64) (xs : List Int) : List Pt := xs.flatMap fun x => (listB (at_ rows x &&& W)).map fun y => (⟨x, y⟩ : Pt)
def arcP (p : Pt) : Arc := ⟨p.u, p.v, 1⟩
def arcsW (rows : List (BitVec 64)) (W : BitVec 64) (xs : List Int) : List Arc := (pairsW rows W xs).map arcP
theorem arcsW_take {rows : List (BitVec 64)} {W : BitVec 64} {xs : List Int} {k : Nat} (h : k < xs.length) : arcsW rows W (xs.take (k + 1)) = arcsW rows W (xs.take k) ++ (listB (at_ rows (at_ xs (k : Int)) &&& W)).map fun y => (⟨at_ xs (k : Int), y, 1⟩ : Arc) := by
  unfold arcsW pairsW; rw [take_at xs k h, List.flatMap_append, List.map_append]; simp [arcP, Function.comp_def]
theorem arcsW_len (rows : List (BitVec 64)) (W : BitVec 64) (xs : List Int) : (arcsW rows W xs).length ≤ 64 * xs.length := by
  unfold arcsW pairsW
  rw [List.length_map]
  induction xs with
  | nil => simp
  | cons x xs ih =>
    rw [List.flatMap_cons, List.length_append, List.length_map, List.length_cons]
    have := listB_len (at_ rows x &&& W)
    omega
theorem mem_pairsW {rows : List (BitVec 64)} {W : BitVec 64} {xs : List Int} {p : Pt} : p ∈ pairsW rows W xs ↔ p.u ∈ xs ∧ p.v ∈ listB (at_ rows p.u &&& W) := by
  unfold pairsW
  rw [List.mem_flatMap]
  constructor
  · rintro ⟨x, hx, h⟩
    obtain ⟨y, hy, rfl⟩ := List.mem_map.1 h
    exact ⟨hx, hy⟩
  · rintro ⟨h1, h2⟩
    exact ⟨p.u, h1, List.mem_map.2 ⟨p.v, h2, rfl⟩⟩
theorem pairsW_nodup {rows : List (BitVec 64)} {W : BitVec 64} : ∀ {xs : List Int}, xs.Nodup → (pairsW rows W xs).Nodup
  | [], _ => List.Pairwise.nil
  | x :: xs, h => by
    obtain ⟨h1, h2⟩ := List.nodup_cons.1 h
    have e : pairsW rows W (x :: xs) = ((listB (at_ rows x &&& W)).map fun y => (⟨x, y⟩ : Pt)) ++ pairsW rows W xs := rfl
    rw [e, List.nodup_append]
    refine ⟨?_, pairsW_nodup h2, fun a ha b hb => ?_⟩
    · refine List.pairwise_map.2 ((listB_asc _).imp fun {a b} hab e => ?_)
      have := congrArg Pt.v e
      simp only at this; omega
    · obtain ⟨y, _, rfl⟩ := List.mem_map.1 ha
      have hb1 := (mem_pairsW.1 hb).1
      intro e
      rw [← e] at hb1; exact h1 hb1
theorem arcsE_dbl (E : List Pt) : arcsE E = (dbl E).map arcP := by
  induction E with
  | nil => rfl
  | cons e E ih =>
    have e1 : arcsE (e :: E) = [⟨e.u, e.v, 1⟩, ⟨e.v, e.u, 1⟩] ++ arcsE E := rfl
    have e2 : dbl (e :: E) = [e, e.swap] ++ dbl E := rfl
    rw [e1, e2, List.map_append, ih]; rfl
theorem inW_ok {nd : Int} {es : List Pt} (hG : GrOk nd es) (W : BitVec 64) : GrOk nd (inW W es) := ⟨hG.rng, hG.asc.sublist List.filter_sublist, fun e he => hG.edge e (List.mem_filter.1 he).1⟩
theorem at_outB {rows : List (BitVec 64)} {x : Int} (h0 : 0 ≤ x) (h : ¬ x < rows.length) : at_ rows x = 0#64 := by
  unfold at_
  rw [List.getD_eq_getElem?_getD, List.getElem?_eq_none (by omega)]; rfl
theorem pairs_perm {nd : Int} {es : List Pt} (hG : GrOk nd es) (W : BitVec 64) : (pairsW (rowsB nd es) W (listB W)).Perm (dbl (inW W es)) := by
  have hI := inW_ok hG W
  refine (List.perm_ext_iff_of_nodup (pairsW_nodup ((listB_asc W).imp fun h => by omega)) (dbl_nodup (asc_nodup hI.asc) fun e he => (hI.edge e he).2.1)).2 fun p => ?_
  have hl : ∀ x, x ∈ listB (at_ (rowsB nd es) p.u &&& W) ↔ x ∈ listB (at_ (rowsB nd es) p.u) ∧ x ∈ listB W := fun x => by
    rw [mem_listB, mem_listB, mem_listB, BitVec.getLsbD_and, Bool.and_eq_true]
    exact ⟨fun h => ⟨⟨h.1, h.2.1⟩, h.1, h.2.2⟩, fun h => ⟨h.1.1, h.1.2, h.2.2⟩⟩
  have hm : ∀ q : Pt, q ∈ inW W es ↔ q ∈ es ∧ q.u ∈ listB W ∧ q.v ∈ listB W := fun q => by unfold inW; rw [List.mem_filter, decide_eq_true_eq]
  rw [mem_pairsW, mem_dbl, hl, hm, hm]
  constructor
  · rintro ⟨h1, h2, h3⟩
    have h0 := (mem_listB.1 h1).1
    have hadj : adjR (rowsB nd es) p.u p.v := by
      refine ⟨h0, Classical.byContradiction fun hn => ?_, h2⟩
      rw [mem_listB, at_outB h0 hn] at h2
      exact absurd h2.2 (by simp)
    rcases ((adj_edge hG).1 hadj).2.2 with h4 | h4
    · exact .inl ⟨h4, h1, h3⟩
    · exact .inr ⟨h4, h3, h1⟩
  · rintro (⟨h1, h2, h3⟩ | ⟨h1, h2, h3⟩)
    · have := hG.edge _ h1
      exact ⟨h2, ((adj_edge hG).2 ⟨by omega, by omega, .inl h1⟩).2.2, h3⟩
    · have := hG.edge _ h1
      simp only [Pt.swap] at this h2 h3
      exact ⟨h3, ((adj_edge hG).2 ⟨by omega, by omega, .inr h1⟩).2.2, h2⟩
theorem arcs_perm {nd : Int} {es : List Pt} (hG : GrOk nd es) (W : BitVec 64) : (arcsW (rowsB nd es) W (listB W)).Perm (arcsE (inW W es)) := by
  rw [arcsE_dbl]; exact (pairs_perm hG W).map _
theorem net_ok {nd u v : Int} {E : List Pt} {A : List Arc} (hG : GrOk nd E) (hp : A.Perm (arcsE E)) (hl : A.length ≤ 16384) (he : endsP nd u v) : (⟨nd, u, v, A⟩ : Net).Ok := by
  have hr := hG.rng
  unfold endsP at he
  refine ⟨⟨by show nd ≤ 4200; omega, hl⟩, by show 2 ≤ nd; omega, ⟨he.1, he.2.2.1⟩, ⟨he.2.1, he.2.2.2.1⟩, he.2.2.2.2, fun a ha => ?_⟩
  have h1 := hp.mem_iff.1 ha
  unfold arcsE at h1
  obtain ⟨e, he2, h2⟩ := List.mem_flatMap.1 h1
  have := hG.edge e he2
  simp only [List.mem_cons, List.not_mem_nil, or_false] at h2
  rcases h2 with rfl | rfl
  · exact ⟨⟨by show 0 ≤ e.u; omega, by show e.u < nd; omega⟩, ⟨by show 0 ≤ e.v; omega, by show e.v < nd; omega⟩, by show e.u ≠ e.v; omega, by show (0 : Int) ≤ 1; decide, by show (1 : Int) ≤ 1099511627776; decide⟩
  · exact ⟨⟨by show 0 ≤ e.v; omega, by show e.v < nd; omega⟩, ⟨by show 0 ≤ e.u; omega, by show e.u < nd; omega⟩, by show e.v ≠ e.u; omega, by show (0 : Int) ≤ 1; decide, by show (1 : Int) ≤ 1099511627776; decide⟩

set_option maxHeartbeats 1000000 in
theorem KCut_ok {κ : Ctx} {I : List Item} {va : Value} {wm : BitVec 64} {nd : Int} {es : List Pt} {u v : Int} (hl : Sl κ I va (rowsB nd es)) (hG : GrOk nd es) (hW : ∀ x ∈ listB wm, x < nd) (he : endsP nd u v) (hT : TabRd κ I 0 tzCells) :
    CallS Tryd.prog κ 88 [va, U64 (wm), I64 (u), I64 (v)] I (fun r J => ∃ a c side val, r = .agg #[.slice a side.length c, I64 val] ∧ MinSide (inW wm es) nd u v side val ∧ J = vc 3 (.slice a side.length c) side :: I) := by
 have hlb := listB_len wm
 have hrng := hG.rng
 have hrl0 := hG.rows.len
 refine CallS.enter (L := [(0, va), (1, U64 (wm)), (2, I64 (u)), (3, I64 (v))]) Tryd.func88 rfl rfl rfl rfl ?_
 refine W.sr ?_
 refine G.e (Eff.alloc ty69 rfl) ?_
 rintro _ _ ⟨b1, rfl, rfl⟩
 refine G.nt ?_
 refine W.sr ?_
 refine G.r (Runs.move rfl) ?_
 refine G.r (Runs.lenT (α := (BitVec 64)) (xs := (rowsB nd es)) Tryd.underlying106 rfl (Sl.f hl)) ?_
 rw [hrl0]
 refine G.r (Runs.move rfl) ?_
 refine G.r (Runs.move rfl) ?_
 refine G.r (Runs.build (cells := [_, _, _, _]) ty124 Tryd.underlying124 pl124 rfl rfl) ?_
 refine G.e (Eff.alloc ty124 rfl) ?_
 rintro _ _ ⟨b2, rfl, rfl⟩
 refine G.e (Eff.st (cs := [_, _, _, _]) (vs := [_, _, _, _]) (cs' := [_, _, _, _]) ty124) ?_
 rintro _ _ ⟨rfl, rfl⟩
 refine G.nt ?_
 refine W.seq ?_
 refine W.sr ?_
 refine G.r (Runs.move rfl) ?_
 refine G.e (Eff.call call69 rfl rfl (MList_ok wm (TabRd.fit hT Fit.m))) ?_
 rintro _ _ ⟨_, _, ⟨ad3, cp4, rfl, rfl⟩, rfl, rfl⟩
 refine G.r (Runs.lens Tryd.underlying22 rfl) ?_
 refine G.r (Runs.move rfl) ?_
 refine G.nt ?_
 refine W.sub (L' := [(24, _), (23, _), (22, _), (9, _), (8, _), (0, _), (1, _)]) (Sub.cons rfl (Sub.cons rfl (Sub.cons rfl (Sub.cons rfl (Sub.cons rfl (Sub.cons rfl (Sub.cons rfl Sub.nil))))))) ?_
 refine W.block ?_
 refine W.loop (σ := Nat × (Option Addr) × Nat × (List Arc)) (fun s => ([(0, va), (1, U64 (wm)), (8, .pointer (some ⟨b1, 0, none⟩)), (9, .pointer (some ⟨b2, 0, none⟩)), (22, .slice ad3 (listB wm).length cp4), (23, I64 ((((listB wm).length : Nat) : Int))), (24, I64 (((s.1 : Nat) : Int)))] : Env)) (fun s => vc 161 (.slice s.2.1 s.2.2.2.length s.2.2.1) (s.2.2.2) :: vc 3 (.slice ad3 (listB wm).length cp4) (listB wm) :: blk b2 [I64 (nd), I64 (u), I64 (v), .slice s.2.1 s.2.2.2.length s.2.2.1] 124 :: blk b1 [.slice none 0 0, I64 (0)] 69 :: I) (fun s => (s.1 ≤ (listB wm).length) ∧ (s.2.2.2 = arcsW (rowsB nd es) wm ((listB wm).take s.1))) (fun s => (listB wm).length - s.1) (0, none, 0, []) (show ((0 : Nat) ≤ (listB wm).length) ∧ (([] : List Arc) = arcsW (rowsB nd es) wm ((listB wm).take (0 : Nat))) from ⟨(by omega), rfl⟩) (Sub.cons rfl (Sub.cons rfl (Sub.cons rfl (Sub.cons rfl (Sub.cons rfl (Sub.cons rfl (Sub.cons lookO Sub.nil))))))) (show Fit κ _ (vc 161 (.slice (none) ([]).length (0)) (([])) :: vc 3 (.slice ad3 (listB wm).length cp4) (listB wm) :: blk b2 [I64 (nd), I64 (u), I64 (v), .slice (none) ([]).length (0)] 124 :: blk b1 [.slice none 0 0, I64 (0)] 69 :: I) from (Fit.nilvc _ _)) ?_
 rintro ⟨k, na, nc, out⟩ hp
 obtain ⟨hk, ho⟩ : (k ≤ (listB wm).length) ∧ (out = arcsW (rowsB nd es) wm ((listB wm).take k)) := hp
 show W Tryd.prog κ 60 _ _ ([(0, va), (1, U64 (wm)), (8, .pointer (some ⟨b1, 0, none⟩)), (9, .pointer (some ⟨b2, 0, none⟩)), (22, .slice ad3 (listB wm).length cp4), (23, I64 ((((listB wm).length : Nat) : Int))), (24, I64 (((k : Nat) : Int)))] : Env) (vc 161 (.slice na out.length nc) (out) :: vc 3 (.slice ad3 (listB wm).length cp4) (listB wm) :: blk b2 [I64 (nd), I64 (u), I64 (v), .slice na out.length nc] 124 :: blk b1 [.slice none 0 0, I64 (0)] 69 :: I)
 have hol : out.length ≤ 64 * k := by rw [ho]; refine Nat.le_trans (arcsW_len _ _ _) ?_; rw [List.length_take]; omega
 refine W.sr ?_
 refine G.r (Runs.lss rfl rfl) ?_
 refine G.nt ?_
 refine W.seq ?_
 refine W.ite rfl (fun c25 => ?_) (fun c25 => ?_)
 ·refine W.skip ?_
  refine V.then ?_
  refine W.seq ?_
  refine W.block ?_
  refine W.sr ?_
  refine G.r (Runs.idx (α := Int) (xs := listB wm) Tryd.underlying22 ty3 rfl rfl Sl.o (by first | omega | exact (mem_listB.1 (at_mem (xs := listB wm) (by omega) (by omega))).1) (by first | omega | (have := hW _ (at_mem (xs := listB wm) (i := ((k : Nat) : Int)) (by omega) (by omega)); omega))) ?_
  refine G.r (Runs.get (xs := listB wm) ty3 rfl Sl.o (by first | omega | exact (mem_listB.1 (at_mem (xs := listB wm) (by omega) (by omega))).1) (by first | omega | (have := hW _ (at_mem (xs := listB wm) (i := ((k : Nat) : Int)) (by omega) (by omega)); omega))) ?_
  refine G.r (Runs.assign rfl) ?_
  refine G.nt ?_
  refine W.sr ?_
  refine G.r (Runs.move rfl) ?_
  refine G.r (Runs.move rfl) ?_
  refine G.r (Runs.idx (α := (BitVec 64)) (xs := (rowsB nd es)) Tryd.underlying106 ty99 rfl rfl (Sl.f hl) (by first | omega | exact (mem_listB.1 (at_mem (xs := listB wm) (by omega) (by omega))).1) (by first | omega | (have := hW _ (at_mem (xs := listB wm) (i := ((k : Nat) : Int)) (by omega) (by omega)); omega))) ?_
  refine G.r (Runs.getf0 (α := (BitVec 64)) (xs := (rowsB nd es)) (u := U64 ((at_ (rowsB nd es) (at_ (listB wm) ((k : Nat) : Int))))) ty99 rfl (Sl.f hl) (by first | omega | exact (mem_listB.1 (at_mem (xs := listB wm) (by omega) (by omega))).1) (by first | omega | (have := hW _ (at_mem (xs := listB wm) (i := ((k : Nat) : Int)) (by omega) (by omega)); omega)) rfl) ?_
  refine G.r (Runs.move rfl) ?_
  refine G.r (Runs.andB (a := (at_ (rowsB nd es) (at_ (listB wm) ((k : Nat) : Int)))) (b := wm) rfl rfl) ?_
  refine G.e (Eff.call call69 rfl rfl (MList_ok ((at_ (rowsB nd es) (at_ (listB wm) ((k : Nat) : Int))) &&& wm) (TabRd.fit hT Fit.m))) ?_
  rintro _ _ ⟨_, _, ⟨ad5, cp6, rfl, rfl⟩, rfl, rfl⟩
  refine G.r (Runs.lens Tryd.underlying22 rfl) ?_
  refine G.r (Runs.move rfl) ?_
  refine G.nt ?_
  refine W.sub (L' := [(36, _), (35, _), (34, _), (11, _), (0, _), (1, _), (8, _), (9, _), (22, _), (23, _), (24, _)]) (Sub.cons rfl (Sub.cons rfl (Sub.cons rfl (Sub.cons rfl (Sub.cons rfl (Sub.cons rfl (Sub.cons rfl (Sub.cons rfl (Sub.cons rfl (Sub.cons rfl (Sub.cons rfl Sub.nil))))))))))) ?_
  refine W.block ?_
  refine W.loop (σ := Nat × (Option Addr) × Nat × (List Arc)) (fun s => ([(0, va), (1, U64 (wm)), (8, .pointer (some ⟨b1, 0, none⟩)), (9, .pointer (some ⟨b2, 0, none⟩)), (11, I64 (at_ (listB wm) ((k : Nat) : Int))), (22, .slice ad3 (listB wm).length cp4), (23, I64 ((((listB wm).length : Nat) : Int))), (24, I64 (((k : Nat) : Int))), (34, .slice ad5 (listB ((at_ (rowsB nd es) (at_ (listB wm) ((k : Nat) : Int))) &&& wm)).length cp6), (35, I64 ((((listB ((at_ (rowsB nd es) (at_ (listB wm) ((k : Nat) : Int))) &&& wm)).length : Nat) : Int))), (36, I64 (((s.1 : Nat) : Int)))] : Env)) (fun s => vc 161 (.slice s.2.1 s.2.2.2.length s.2.2.1) (s.2.2.2) :: vc 3 (.slice ad5 (listB ((at_ (rowsB nd es) (at_ (listB wm) ((k : Nat) : Int))) &&& wm)).length cp6) (listB ((at_ (rowsB nd es) (at_ (listB wm) ((k : Nat) : Int))) &&& wm)) :: vc 3 (.slice ad3 (listB wm).length cp4) (listB wm) :: blk b2 [I64 (nd), I64 (u), I64 (v), .slice s.2.1 s.2.2.2.length s.2.2.1] 124 :: blk b1 [.slice none 0 0, I64 (0)] 69 :: I) (fun s => (s.1 ≤ (listB (at_ (rowsB nd es) (at_ (listB wm) ((k : Nat) : Int)) &&& wm)).length) ∧ (s.2.2.2 = out ++ ((listB (at_ (rowsB nd es) (at_ (listB wm) ((k : Nat) : Int)) &&& wm)).take s.1).map fun y => (⟨at_ (listB wm) ((k : Nat) : Int), y, 1⟩ : Arc))) (fun s => (listB (at_ (rowsB nd es) (at_ (listB wm) ((k : Nat) : Int)) &&& wm)).length - s.1) (0, na, nc, out) (show ((0 : Nat) ≤ (listB (at_ (rowsB nd es) (at_ (listB wm) ((k : Nat) : Int)) &&& wm)).length) ∧ ((out : List Arc) = out ++ ((listB (at_ (rowsB nd es) (at_ (listB wm) ((k : Nat) : Int)) &&& wm)).take (0 : Nat)).map fun y => (⟨at_ (listB wm) ((k : Nat) : Int), y, 1⟩ : Arc)) from ⟨(by omega), (by simp)⟩) (Sub.cons rfl (Sub.cons rfl (Sub.cons rfl (Sub.cons rfl (Sub.cons rfl (Sub.cons rfl (Sub.cons rfl (Sub.cons rfl (Sub.cons rfl (Sub.cons rfl (Sub.cons lookO Sub.nil))))))))))) (show Fit κ _ (vc 161 (.slice (na) (out).length (nc)) ((out)) :: vc 3 (.slice ad5 (listB ((at_ (rowsB nd es) (at_ (listB wm) ((k : Nat) : Int))) &&& wm)).length cp6) (listB ((at_ (rowsB nd es) (at_ (listB wm) ((k : Nat) : Int))) &&& wm)) :: vc 3 (.slice ad3 (listB wm).length cp4) (listB wm) :: blk b2 [I64 (nd), I64 (u), I64 (v), .slice (na) (out).length (nc)] 124 :: blk b1 [.slice none 0 0, I64 (0)] 69 :: I) from (by first | exact Fit.s | exact Fit.sub)) ?_
  rintro ⟨j, na, nc, out1⟩ hp
  obtain ⟨hj, ho1⟩ : (j ≤ (listB (at_ (rowsB nd es) (at_ (listB wm) ((k : Nat) : Int)) &&& wm)).length) ∧ (out1 = out ++ ((listB (at_ (rowsB nd es) (at_ (listB wm) ((k : Nat) : Int)) &&& wm)).take j).map fun y => (⟨at_ (listB wm) ((k : Nat) : Int), y, 1⟩ : Arc)) := hp
  show W Tryd.prog κ 60 _ _ ([(0, va), (1, U64 (wm)), (8, .pointer (some ⟨b1, 0, none⟩)), (9, .pointer (some ⟨b2, 0, none⟩)), (11, I64 (at_ (listB wm) ((k : Nat) : Int))), (22, .slice ad3 (listB wm).length cp4), (23, I64 ((((listB wm).length : Nat) : Int))), (24, I64 (((k : Nat) : Int))), (34, .slice ad5 (listB ((at_ (rowsB nd es) (at_ (listB wm) ((k : Nat) : Int))) &&& wm)).length cp6), (35, I64 ((((listB ((at_ (rowsB nd es) (at_ (listB wm) ((k : Nat) : Int))) &&& wm)).length : Nat) : Int))), (36, I64 (((j : Nat) : Int)))] : Env) (vc 161 (.slice na out1.length nc) (out1) :: vc 3 (.slice ad5 (listB ((at_ (rowsB nd es) (at_ (listB wm) ((k : Nat) : Int))) &&& wm)).length cp6) (listB ((at_ (rowsB nd es) (at_ (listB wm) ((k : Nat) : Int))) &&& wm)) :: vc 3 (.slice ad3 (listB wm).length cp4) (listB wm) :: blk b2 [I64 (nd), I64 (u), I64 (v), .slice na out1.length nc] 124 :: blk b1 [.slice none 0 0, I64 (0)] 69 :: I)
  have hrl : (listB (at_ (rowsB nd es) (at_ (listB wm) ((k : Nat) : Int)) &&& wm)).length ≤ 64 := listB_len _
  have hol1 : out1.length ≤ out.length + 64 := by rw [ho1, List.length_append, List.length_map, List.length_take]; omega
  refine W.sr ?_
  refine G.r (Runs.lss rfl rfl) ?_
  refine G.nt ?_
  refine W.seq ?_
  refine W.ite rfl (fun c37 => ?_) (fun c37 => ?_)
  ·refine W.skip ?_
   refine V.then ?_
   refine W.seq ?_
   refine W.block ?_
   refine W.sr ?_
   refine G.r (Runs.idx (α := Int) (xs := listB ((at_ (rowsB nd es) (at_ (listB wm) ((k : Nat) : Int))) &&& wm)) Tryd.underlying22 ty3 rfl rfl Sl.o (by first | omega | exact (mem_listB.1 (at_mem (xs := listB wm) (by omega) (by omega))).1) (by first | omega | (have := hW _ (at_mem (xs := listB wm) (i := ((k : Nat) : Int)) (by omega) (by omega)); omega))) ?_
   refine G.r (Runs.get (xs := listB ((at_ (rowsB nd es) (at_ (listB wm) ((k : Nat) : Int))) &&& wm)) ty3 rfl Sl.o (by first | omega | exact (mem_listB.1 (at_mem (xs := listB wm) (by omega) (by omega))).1) (by first | omega | (have := hW _ (at_mem (xs := listB wm) (i := ((k : Nat) : Int)) (by omega) (by omega)); omega))) ?_
   refine G.r (Runs.assign rfl) ?_
   refine G.nt ?_
   refine W.sub (L' := [(13, _), (0, _), (1, _), (8, _), (9, _), (11, _), (22, _), (23, _), (24, _), (34, _), (35, _), (36, _)]) (Sub.cons rfl (Sub.cons rfl (Sub.cons rfl (Sub.cons rfl (Sub.cons rfl (Sub.cons rfl (Sub.cons rfl (Sub.cons rfl (Sub.cons rfl (Sub.cons rfl (Sub.cons rfl (Sub.cons rfl Sub.nil)))))))))))) ?_
   refine W.region ?_
   refine G.r (Runs.fieldAddr fld124_3 rfl) ?_
   refine G.r (Runs.ld ty122) ?_
   refine G.r (Runs.move rfl) ?_
   refine G.r (Runs.move rfl) ?_
   refine G.r (Runs.build (cells := [_, _, _]) ty161 Tryd.underlying161 pl161 rfl rfl) ?_
   refine G.e (Eff.bs (α := Arc) (cs := [_, _, _]) (xs := [⟨at_ (listB wm) ((k : Nat) : Int), at_ (listB ((at_ (rowsB nd es) (at_ (listB wm) ((k : Nat) : Int))) &&& wm)) ((j : Nat) : Int), 1⟩]) Tryd.underlying122 ty161 rfl rfl (by decide) (by decide) rfl rfl rfl rfl) ?_
   rintro _ _ ⟨ad7, rfl, rfl⟩
   refine G.e (Eff.app (α := Arc) (e := 161) (xs := out1) (ys := ([⟨at_ (listB wm) ((k : Nat) : Int), at_ (listB ((at_ (rowsB nd es) (at_ (listB wm) ((k : Nat) : Int))) &&& wm)) ((j : Nat) : Int), 1⟩] : List Arc)) Tryd.underlying122 ty161 rfl rfl rfl (by repeat (first | exact List.mem_cons_self | apply List.mem_cons_of_mem)) Sl.o (by simp only [List.length_cons, List.length_nil]; omega) (by decide) rfl (fun _ _ => (by repeat (first | exact At.head _ _ _ | apply At.tail)))) ?_
   rintro _ _ ⟨ad8, cp9, rfl, rfl⟩
   refine G.r (Runs.fieldAddr fld124_3 rfl) ?_
   refine G.e (Eff.st (cs := [_, _, _, _]) (vs := [_]) (cs' := [_, _, _, _]) ty122) ?_
   rintro _ _ ⟨rfl, rfl⟩
   refine G.nil ?_
   refine V.block_normal ?_
   refine V.then ?_
   refine W.sub (L' := [(0, _), (1, _), (8, _), (9, _), (11, _), (22, _), (23, _), (24, _), (34, _), (35, _), (36, _)]) (Sub.cons rfl (Sub.cons rfl (Sub.cons rfl (Sub.cons rfl (Sub.cons rfl (Sub.cons rfl (Sub.cons rfl (Sub.cons rfl (Sub.cons rfl (Sub.cons rfl (Sub.cons rfl Sub.nil))))))))))) ?_
   refine W.region ?_
   refine G.r (Runs.add rfl rfl (by unfold InR; omega)) ?_
   refine G.r (Runs.move rfl) ?_
   refine G.nil ?_
   exact V.next ((j + 1), (ad8), (cp9), (out1 ++ ([⟨at_ (listB wm) ((k : Nat) : Int), at_ (listB ((at_ (rowsB nd es) (at_ (listB wm) ((k : Nat) : Int))) &&& wm)) ((j : Nat) : Int), 1⟩] : List Arc))) (show ((j + 1 : Nat) ≤ (listB (at_ (rowsB nd es) (at_ (listB wm) ((k : Nat) : Int)) &&& wm)).length) ∧ ((out1 ++ ([⟨at_ (listB wm) ((k : Nat) : Int), at_ (listB ((at_ (rowsB nd es) (at_ (listB wm) ((k : Nat) : Int))) &&& wm)) ((j : Nat) : Int), 1⟩] : List Arc) : List Arc) = out ++ ((listB (at_ (rowsB nd es) (at_ (listB wm) ((k : Nat) : Int)) &&& wm)).take (j + 1 : Nat)).map fun y => (⟨at_ (listB wm) ((k : Nat) : Int), y, 1⟩ : Arc)) from ⟨(by omega), (by rw [ho1, take_at _ j (by omega), List.map_append, List.append_assoc]; rfl)⟩) (show (listB (at_ (rowsB nd es) (at_ (listB wm) ((k : Nat) : Int)) &&& wm)).length - (j + 1 : Nat) < (listB (at_ (rowsB nd es) (at_ (listB wm) ((k : Nat) : Int)) &&& wm)).length - j from (by omega)) (Sub.cons rfl (Sub.cons rfl (Sub.cons rfl (Sub.cons rfl (Sub.cons rfl (Sub.cons rfl (Sub.cons rfl (Sub.cons rfl (Sub.cons rfl (Sub.cons rfl (Sub.cons lookO Sub.nil))))))))))) (show Fit κ _ (vc 161 (.slice (ad8) (out1 ++ ([⟨at_ (listB wm) ((k : Nat) : Int), at_ (listB ((at_ (rowsB nd es) (at_ (listB wm) ((k : Nat) : Int))) &&& wm)) ((j : Nat) : Int), 1⟩] : List Arc)).length (cp9)) ((out1 ++ ([⟨at_ (listB wm) ((k : Nat) : Int), at_ (listB ((at_ (rowsB nd es) (at_ (listB wm) ((k : Nat) : Int))) &&& wm)) ((j : Nat) : Int), 1⟩] : List Arc))) :: vc 3 (.slice ad5 (listB ((at_ (rowsB nd es) (at_ (listB wm) ((k : Nat) : Int))) &&& wm)).length cp6) (listB ((at_ (rowsB nd es) (at_ (listB wm) ((k : Nat) : Int))) &&& wm)) :: vc 3 (.slice ad3 (listB wm).length cp4) (listB wm) :: blk b2 [I64 (nd), I64 (u), I64 (v), .slice (ad8) (out1 ++ ([⟨at_ (listB wm) ((k : Nat) : Int), at_ (listB ((at_ (rowsB nd es) (at_ (listB wm) ((k : Nat) : Int))) &&& wm)) ((j : Nat) : Int), 1⟩] : List Arc)).length (cp9)] 124 :: blk b1 [.slice none 0 0, I64 (0)] 69 :: I) from (by first | exact Fit.s | exact Fit.sub))
  ·refine W.exit ?_
   refine V.then_exit ?_
   refine V.then_exit ?_
   refine V.block_hit ?_
   refine V.block_normal ?_
   refine V.then ?_
   refine W.region ?_
   refine G.r (Runs.add rfl rfl (by unfold InR; omega)) ?_
   refine G.r (Runs.move rfl) ?_
   refine G.nil ?_
   exact V.next ((k + 1), (na), (nc), (out1)) (show ((k + 1 : Nat) ≤ (listB wm).length) ∧ ((out1 : List Arc) = arcsW (rowsB nd es) wm ((listB wm).take (k + 1 : Nat))) from ⟨(by omega), (by rw [arcsW_take (by omega), ← ho, ho1, List.take_of_length_le (by omega)])⟩) (show (listB wm).length - (k + 1 : Nat) < (listB wm).length - k from (by omega)) (Sub.cons rfl (Sub.cons rfl (Sub.cons rfl (Sub.cons rfl (Sub.cons rfl (Sub.cons rfl (Sub.cons lookO Sub.nil))))))) (show Fit κ _ (vc 161 (.slice (na) (out1).length (nc)) ((out1)) :: vc 3 (.slice ad3 (listB wm).length cp4) (listB wm) :: blk b2 [I64 (nd), I64 (u), I64 (v), .slice (na) (out1).length (nc)] 124 :: blk b1 [.slice none 0 0, I64 (0)] 69 :: I) from (by first | exact Fit.s | exact Fit.sub))
 ·refine W.exit ?_
  refine V.then_exit ?_
  refine V.then_exit ?_
  refine V.block_hit ?_
  refine V.then ?_
  refine W.sr ?_
  refine G.r (Runs.lds (vs := [_, _, _, _]) ty124) ?_
  have hoE : out = arcsW (rowsB nd es) wm (listB wm) := by rw [ho, List.take_of_length_le (by omega)]
  refine G.e (Eff.call call126 rfl rfl (FMax_ok (n := (⟨nd, u, v, out⟩ : Net)) Sl.o (net_ok (inW_ok hG wm) (by rw [hoE]; exact arcs_perm hG wm) (by omega) he))) ?_
  rintro _ _ ⟨_, _, ⟨ad10, cp11, f12, ad13, cp14, sd15, vl16, rfl, hf12, rfl⟩, rfl, rfl⟩
  refine G.r (Runs.move rfl) ?_
  refine G.r (Runs.extract rfl rfl) ?_
  refine G.r (Runs.extract rfl rfl) ?_
  refine G.e (Eff.alloc ty119 rfl) ?_
  rintro _ _ ⟨b17, rfl, rfl⟩
  refine G.e (Eff.st (cs := [_, _, _]) (vs := [_, _, _]) (cs' := [_, _, _]) ty119) ?_
  rintro _ _ ⟨rfl, rfl⟩
  refine G.r (Runs.assign rfl) ?_
  refine G.nt ?_
  refine W.sub (L' := [(14, _), (8, _)]) (Sub.cons rfl (Sub.cons rfl Sub.nil)) ?_
  refine W.sr ?_
  refine G.r (Runs.fieldAddr fld119_2 rfl) ?_
  refine G.r (Runs.ld ty22) ?_
  refine G.r (Runs.fieldAddr fld119_1 rfl) ?_
  refine G.r (Runs.ld ty3) ?_
  refine G.r (Runs.build (cells := [_, _]) ty69 Tryd.underlying69 pl69 rfl rfl) ?_
  refine G.e (Eff.st (cs := [_, _]) (vs := [_, _]) (cs' := [_, _]) ty69) ?_
  rintro _ _ ⟨rfl, rfl⟩
  refine G.nt ?_
  refine W.ret ?_
  have hms := MaxF.minside (net_ok (inW_ok hG wm) (by rw [hoE]; exact arcs_perm hG wm) (by omega) he) (by rw [hoE]; exact arcs_perm hG wm) hf12
  exact V.retc rfl ty69 rfl (by repeat (first | exact List.mem_cons_self | apply List.mem_cons_of_mem)) rfl (vc 3 (.slice ad13 sd15.length cp14) sd15 :: I) (by first | exact Fit.s | exact Fit.sub) ⟨ad13, cp14, sd15, vl16, rfl, hms, rfl⟩

end Go.Sl
namespace Go.Sl
open Go.Proofs
set_option linter.unusedVariables false
set_option linter.unusedSimpArgs false
set_option maxRecDepth 4000
theorem all_lt {nd : Int} (h : 0 ≤ nd ∧ nd ≤ 64) : ∀ x ∈ listB (allB nd), x < nd := fun x hx => by rw [← range_all h] at hx; have := mem_rangeI.1 hx; omega
theorem inW_all {nd : Int} {es : List Pt} (hG : GrOk nd es) : inW (allB nd) es = es := by
  unfold inW
  refine List.filter_eq_self.2 fun e he => ?_
  have := hG.edge e he
  have hr := hG.rng
  rw [decide_eq_true_eq, ← range_all hr, mem_rangeI, mem_rangeI]; omega
def lamE (nd : Int) (es : List Pt) (u v : Int) : Int := if checkG nd es ≠ 0 then checkG nd es else if endsP nd u v then 0 else 6
/-- The least cut between two nodes, or nothing. -/
def LamP (nd : Int) (es : List Pt) (u v : Int) (side : List Int) (val : Int) : Prop := (lamE nd es u v ≠ 0 → side = [] ∧ val = 0) ∧ (lamE nd es u v = 0 → MinSide es nd u v side val)
theorem LamP.uniq {nd u v val val' : Int} {es : List Pt} {side side' : List Int} (h : LamP nd es u v side val) (h' : LamP nd es u v side' val') : side = side' ∧ val = val' := by
  by_cases he : lamE nd es u v = 0
  · exact (h.2 he).uniq (h'.2 he)
  · obtain ⟨h1, h2⟩ := h.1 he
    obtain ⟨h3, h4⟩ := h'.1 he
    exact ⟨h1.trans h3.symm, h2.trans h4.symm⟩
theorem lamE_zero {nd u v : Int} {es : List Pt} : lamE nd es u v = 0 ↔ GrOk nd es ∧ endsP nd u v := by
  unfold lamE
  by_cases hc : checkG nd es = 0
  · rw [if_neg (by simp [hc])]
    have := checkG_ok.1 hc
    by_cases he : endsP nd u v <;> simp [he, this]
  · rw [if_pos hc]
    exact ⟨fun h => absurd h hc, fun h => absurd (checkG_ok.2 h.1) hc⟩
theorem arcsE_take {es : List Pt} {k : Nat} (h : k < es.length) : arcsE (es.take (k + 1)) = arcsE (es.take k) ++ [⟨(at_ es (k : Int)).u, (at_ es (k : Int)).v, 1⟩, ⟨(at_ es (k : Int)).v, (at_ es (k : Int)).u, 1⟩] := by
  unfold arcsE; rw [take_at es k h, List.flatMap_append]; simp
theorem arcsE_len (es : List Pt) : (arcsE es).length = 2 * es.length := by rw [arcsE_dbl, List.length_map, dbl_len]

set_option maxHeartbeats 1000000 in
theorem KLambda_ok {κ : Ctx} {I : List Item} {nd : Int} {va : Value} {es : List Pt} (hl : Sl κ I va es) (u v : Int) (hT : TabRd κ I 0 tzCells) :
    CallS Tryd.prog κ 44 [.agg #[I64 (nd), va], I64 (u), I64 (v)] I (fun r J => ∃ a c side val, r = .tuple #[I64 val, .agg #[.slice a side.length c, I64 val], I64 (lamE nd es u v)] ∧ LamP nd es u v side val ∧ J = vc 3 (.slice a side.length c) side :: I) := by
 refine CallS.enter (L := [(0, .agg #[I64 (nd), va]), (1, I64 (u)), (2, I64 (v))]) Tryd.func44 rfl rfl rfl rfl ?_
 refine W.sr ?_
 refine G.e (Eff.box (cs := [_, _]) rfl rfl rfl) ?_
 rintro _ _ ⟨b1, rfl, rfl⟩
 refine G.r (Runs.assign rfl) ?_
 refine G.e (Eff.alloc ty69 rfl) ?_
 rintro _ _ ⟨b2, rfl, rfl⟩
 refine G.r (Runs.assign rfl) ?_
 refine G.nt ?_
 refine W.seq ?_
 refine W.sr ?_
 refine G.r (Runs.lds (vs := [_, _]) ty25) ?_
 refine G.e (Eff.call call66 rfl rfl (CheckGen_ok (Sl.f hl))) ?_
 rintro _ _ ⟨_, _, ⟨rfl, rfl⟩, rfl, rfl⟩
 refine G.r (Runs.assign rfl) ?_
 refine G.nt ?_
 refine W.sr ?_
 refine G.r (Runs.move rfl) ?_
 refine G.r (Runs.neq rfl rfl) ?_
 refine G.nt ?_
 refine W.ite rfl (fun c14 => ?_) (fun c14 => ?_)
 ·refine W.sr ?_
  refine G.r (Runs.build (cells := [_, _]) ty69 Tryd.underlying69 pl69 rfl rfl) ?_
  refine G.r (Runs.move rfl) ?_
  refine G.r (Runs.assign rfl) ?_
  refine G.e (Eff.st (cs := [_, _]) (vs := [_, _]) (cs' := [_, _]) ty69) ?_
  rintro _ _ ⟨rfl, rfl⟩
  refine G.r (Runs.assign rfl) ?_
  refine G.nt ?_
  refine W.sub (L' := [(8, _), (6, _), (7, _)]) (Sub.cons rfl (Sub.cons rfl (Sub.cons rfl Sub.nil))) ?_
  refine W.ret ?_
  refine V.then_ret ?_
  have hE : lamE nd es u v = checkG nd es := by unfold lamE; rw [if_pos c14]
  have hne := c14
  exact V.rettct rfl ty69 rfl rfl rfl (by repeat (first | exact List.mem_cons_self | apply List.mem_cons_of_mem)) rfl (vc 3 (.slice none ([] : List Int).length 0) ([] : List Int) :: I) (Fit.trans (show Fit κ _ I from Fit.m) (Fit.nilvc (α := Int) _ _)) ⟨none, 0, [], 0, by rw [hE]; rfl, ⟨fun _ => ⟨rfl, rfl⟩, fun h => by rw [hE] at h; first | exact absurd h hne | cases h⟩, rfl⟩
 ·refine W.skip ?_
  refine V.then ?_
  refine W.seq ?_
  refine W.sr ?_
  refine G.r (Runs.fieldAddr fld25_0 rfl) ?_
  refine G.r (Runs.ld ty3) ?_
  refine G.r (Runs.move rfl) ?_
  refine G.r (Runs.move rfl) ?_
  refine G.e (Eff.call call87 rfl rfl (Ends_ok nd u v)) ?_
  rintro _ _ ⟨_, _, ⟨rfl, rfl⟩, rfl, rfl⟩
  refine G.r (Runs.notd rfl) ?_
  refine G.nt ?_
  refine W.sub (L' := [(22, _), (7, _), (3, _), (1, _), (2, _)]) (Sub.cons rfl (Sub.cons rfl (Sub.cons rfl (Sub.cons rfl (Sub.cons rfl Sub.nil))))) ?_
  refine W.ite rfl (fun c22 => ?_) (fun c22 => ?_)
  ·refine W.sr ?_
   refine G.r (Runs.build (cells := [_, _]) ty69 Tryd.underlying69 pl69 rfl rfl) ?_
   refine G.r (Runs.assign rfl) ?_
   refine G.e (Eff.st (cs := [_, _]) (vs := [_, _]) (cs' := [_, _]) ty69) ?_
   rintro _ _ ⟨rfl, rfl⟩
   refine G.r (Runs.assign rfl) ?_
   refine G.nt ?_
   refine W.ret ?_
   refine V.then_ret ?_
   have hE : lamE nd es u v = 6 := by unfold lamE; rw [if_neg c14, if_neg (by first | assumption | (simpa using c22))]
   have hne : (6 : Int) ≠ 0 := by decide
   exact V.rettct rfl ty69 rfl rfl rfl (by repeat (first | exact List.mem_cons_self | apply List.mem_cons_of_mem)) rfl (vc 3 (.slice none ([] : List Int).length 0) ([] : List Int) :: I) (Fit.trans (show Fit κ _ I from Fit.m) (Fit.nilvc (α := Int) _ _)) ⟨none, 0, [], 0, by rw [hE]; rfl, ⟨fun _ => ⟨rfl, rfl⟩, fun h => by rw [hE] at h; first | exact absurd h hne | cases h⟩, rfl⟩
  ·refine W.skip ?_
   refine V.then ?_
   refine W.cut (σ := (Option Addr) × Nat × (List Int) × Int × Nat) (fun s => ([(7, .pointer (some ⟨b2, 0, none⟩)), (10, .pointer (some ⟨s.2.2.2.2, 0, none⟩))] : Env)) (fun s => vc 3 (.slice s.1 s.2.2.1.length s.2.1) (s.2.2.1) :: blk s.2.2.2.2 [.slice s.1 s.2.2.1.length s.2.1, I64 (s.2.2.2.1)] 69 :: blk b2 [.slice none 0 0, I64 (0)] 69 :: blk b1 [I64 (nd), va] 25 :: I) (fun s => (MinSide es nd u v s.2.2.1 s.2.2.2.1)) ?_ ?_
   ·refine W.drawn mixed ?_
    refine A.hold (blk b2 [.slice none 0 0, I64 (0)] 69 :: blk b1 [I64 (nd), va] 25 :: I) 9 ?_
    refine D.r 0 rfl (Runs.lds (vs := [_, _]) ty25) ?_ (hJ := Fit.sub)
    have hG := (checkG_ok.1 (Classical.not_not.1 c14))
    have hends : endsP nd u v := by simpa using c22
    refine D.r 2 rfl (Runs.fieldAddr fld25_0 rfl) ?_ (hJ := Fit.sub)
    refine D.r 3 rfl (Runs.ld ty3) ?_ (hJ := Fit.sub)
    refine D.r 5 rfl (Runs.move rfl) ?_ (hJ := Fit.sub)
    refine D.r 6 rfl (Runs.move rfl) ?_ (hJ := Fit.sub)
    refine D.step (rs := [1, 8]) (by kernel_rfl) rfl rfl (all2 ?_ (all1 ?_))
    ·refine Step.eff rfl (Wanted.plain rfl) (Eff.call call75 rfl rfl (MRows_ok (nd := nd) (Sl.f hl))) ?_
     rintro _ _ ⟨_, _, ⟨ad3, cp4, rfl, rfl⟩, rfl, rfl⟩
     refine ⟨Fit.sub, ?_⟩
     have hrwad3 := rowsB_len nd es
     refine D.step (rs := [4, 8]) (by kernel_rfl) rfl rfl (all2 ?_ (all1 ?_))
     ·refine Step.eff rfl (Wanted.plain rfl) (Eff.call call77 rfl rfl (MaskAll_ok nd)) ?_
      rintro _ _ ⟨_, _, ⟨rfl, rfl⟩, rfl, rfl⟩
      refine ⟨Fit.sub, ?_⟩
      refine D.step (rs := [7, 8]) (by kernel_rfl) rfl rfl (all2 ?_ (all1 ?_))
      ·refine Step.eff rfl (Wanted.plain rfl) (Eff.call call88 rfl rfl (KCut_ok (wm := (allB nd)) (u := u) (v := v) Sl.o hG (all_lt hG.rng) hends (TabRd.fit hT Fit.m))) ?_
       rintro _ _ ⟨_, _, ⟨ad5, cp6, sd7, vl8, rfl, hsd7, rfl⟩, rfl, rfl⟩
       refine ⟨Fit.sub, ?_⟩
       refine D.step (rs := [8]) (by kernel_rfl) rfl rfl (all1 ?_)
       refine Step.eff rfl (Wanted.plain rfl) (Eff.alloc ty69 rfl) ?_
       rintro _ _ ⟨b9, rfl, rfl⟩
       refine ⟨Fit.sub, ?_⟩
       refine D.stop (by kernel_rfl) ?_
       refine A.eff (i := 9) (by kernel_rfl) rfl (Wanted.plain rfl) (Eff.st (cs := [_, _]) (vs := [_, _]) (cs' := [_, _]) ty69) ?_
       rintro _ _ ⟨rfl, rfl⟩
       refine A.done (by kernel_rfl) ?_
       have hms0 := hsd7
       rw [inW_all hG] at hms0
       exact V.mid ((ad5), (cp6), (sd7), (vl8), (b9)) (show (MinSide es nd u v (sd7 : List Int) (vl8 : Int)) from hms0) (Sub.cons rfl (Sub.cons (lookV rfl (by first | rfl | simp)) Sub.nil)) (show Fit κ _ (vc 3 (.slice (ad5) (sd7).length (cp6)) ((sd7)) :: blk (b9) [.slice (ad5) (sd7).length (cp6), I64 ((vl8))] 69 :: blk b2 [.slice none 0 0, I64 (0)] 69 :: blk b1 [I64 (nd), va] 25 :: I) from (by first | exact Fit.s | exact Fit.sub))
      ·refine Step.eff rfl (Wanted.plain rfl) (Eff.alloc ty69 rfl) ?_
       rintro _ _ ⟨b10, rfl, rfl⟩
       refine ⟨Fit.sub, ?_⟩
       refine D.step (rs := [7]) (by kernel_rfl) rfl rfl (all1 ?_)
       refine Step.eff rfl (Wanted.plain rfl) (Eff.call call88 rfl rfl (KCut_ok (wm := (allB nd)) (u := u) (v := v) Sl.o hG (all_lt hG.rng) hends (TabRd.fit hT Fit.m))) ?_
       rintro _ _ ⟨_, _, ⟨ad11, cp12, sd13, vl14, rfl, hsd13, rfl⟩, rfl, rfl⟩
       refine ⟨Fit.sub, ?_⟩
       refine D.stop (by kernel_rfl) ?_
       refine A.eff (i := 9) (by kernel_rfl) rfl (Wanted.plain rfl) (Eff.st (cs := [_, _]) (vs := [_, _]) (cs' := [_, _]) ty69) ?_
       rintro _ _ ⟨rfl, rfl⟩
       refine A.done (by kernel_rfl) ?_
       have hms0 := hsd13
       rw [inW_all hG] at hms0
       exact V.mid ((ad11), (cp12), (sd13), (vl14), (b10)) (show (MinSide es nd u v (sd13 : List Int) (vl14 : Int)) from hms0) (Sub.cons rfl (Sub.cons (lookV rfl (by first | rfl | simp)) Sub.nil)) (show Fit κ _ (vc 3 (.slice (ad11) (sd13).length (cp12)) ((sd13)) :: blk (b10) [.slice (ad11) (sd13).length (cp12), I64 ((vl14))] 69 :: blk b2 [.slice none 0 0, I64 (0)] 69 :: blk b1 [I64 (nd), va] 25 :: I) from (by first | exact Fit.s | exact Fit.sub))
     ·refine Step.eff rfl (Wanted.plain rfl) (Eff.alloc ty69 rfl) ?_
      rintro _ _ ⟨b15, rfl, rfl⟩
      refine ⟨Fit.sub, ?_⟩
      refine D.step (rs := [4]) (by kernel_rfl) rfl rfl (all1 ?_)
      refine Step.eff rfl (Wanted.plain rfl) (Eff.call call77 rfl rfl (MaskAll_ok nd)) ?_
      rintro _ _ ⟨_, _, ⟨rfl, rfl⟩, rfl, rfl⟩
      refine ⟨Fit.sub, ?_⟩
      refine D.step (rs := [7]) (by kernel_rfl) rfl rfl (all1 ?_)
      refine Step.eff rfl (Wanted.plain rfl) (Eff.call call88 rfl rfl (KCut_ok (wm := (allB nd)) (u := u) (v := v) Sl.o hG (all_lt hG.rng) hends (TabRd.fit hT Fit.m))) ?_
      rintro _ _ ⟨_, _, ⟨ad16, cp17, sd18, vl19, rfl, hsd18, rfl⟩, rfl, rfl⟩
      refine ⟨Fit.sub, ?_⟩
      refine D.stop (by kernel_rfl) ?_
      refine A.eff (i := 9) (by kernel_rfl) rfl (Wanted.plain rfl) (Eff.st (cs := [_, _]) (vs := [_, _]) (cs' := [_, _]) ty69) ?_
      rintro _ _ ⟨rfl, rfl⟩
      refine A.done (by kernel_rfl) ?_
      have hms0 := hsd18
      rw [inW_all hG] at hms0
      exact V.mid ((ad16), (cp17), (sd18), (vl19), (b15)) (show (MinSide es nd u v (sd18 : List Int) (vl19 : Int)) from hms0) (Sub.cons rfl (Sub.cons (lookV rfl (by first | rfl | simp)) Sub.nil)) (show Fit κ _ (vc 3 (.slice (ad16) (sd18).length (cp17)) ((sd18)) :: blk (b15) [.slice (ad16) (sd18).length (cp17), I64 ((vl19))] 69 :: blk b2 [.slice none 0 0, I64 (0)] 69 :: blk b1 [I64 (nd), va] 25 :: I) from (by first | exact Fit.s | exact Fit.sub))
    ·refine Step.eff rfl (Wanted.plain rfl) (Eff.alloc ty69 rfl) ?_
     rintro _ _ ⟨b20, rfl, rfl⟩
     refine ⟨Fit.sub, ?_⟩
     refine D.step (rs := [1]) (by kernel_rfl) rfl rfl (all1 ?_)
     refine Step.eff rfl (Wanted.plain rfl) (Eff.call call75 rfl rfl (MRows_ok (nd := nd) (Sl.f hl))) ?_
     rintro _ _ ⟨_, _, ⟨ad21, cp22, rfl, rfl⟩, rfl, rfl⟩
     refine ⟨Fit.sub, ?_⟩
     have hrwad21 := rowsB_len nd es
     refine D.step (rs := [4]) (by kernel_rfl) rfl rfl (all1 ?_)
     refine Step.eff rfl (Wanted.plain rfl) (Eff.call call77 rfl rfl (MaskAll_ok nd)) ?_
     rintro _ _ ⟨_, _, ⟨rfl, rfl⟩, rfl, rfl⟩
     refine ⟨Fit.sub, ?_⟩
     refine D.step (rs := [7]) (by kernel_rfl) rfl rfl (all1 ?_)
     refine Step.eff rfl (Wanted.plain rfl) (Eff.call call88 rfl rfl (KCut_ok (wm := (allB nd)) (u := u) (v := v) Sl.o hG (all_lt hG.rng) hends (TabRd.fit hT Fit.m))) ?_
     rintro _ _ ⟨_, _, ⟨ad23, cp24, sd25, vl26, rfl, hsd25, rfl⟩, rfl, rfl⟩
     refine ⟨Fit.sub, ?_⟩
     refine D.stop (by kernel_rfl) ?_
     refine A.eff (i := 9) (by kernel_rfl) rfl (Wanted.plain rfl) (Eff.st (cs := [_, _]) (vs := [_, _]) (cs' := [_, _]) ty69) ?_
     rintro _ _ ⟨rfl, rfl⟩
     refine A.done (by kernel_rfl) ?_
     have hms0 := hsd25
     rw [inW_all hG] at hms0
     exact V.mid ((ad23), (cp24), (sd25), (vl26), (b20)) (show (MinSide es nd u v (sd25 : List Int) (vl26 : Int)) from hms0) (Sub.cons rfl (Sub.cons (lookV rfl (by first | rfl | simp)) Sub.nil)) (show Fit κ _ (vc 3 (.slice (ad23) (sd25).length (cp24)) ((sd25)) :: blk (b20) [.slice (ad23) (sd25).length (cp24), I64 ((vl26))] 69 :: blk b2 [.slice none 0 0, I64 (0)] 69 :: blk b1 [I64 (nd), va] 25 :: I) from (by first | exact Fit.s | exact Fit.sub))
   ·rintro ⟨ca, cc, side, val, bb⟩ hp
    have hms : (MinSide es nd u v side val) := hp
    show W Tryd.prog κ 35 _ _ ([(7, .pointer (some ⟨b2, 0, none⟩)), (10, .pointer (some ⟨bb, 0, none⟩))] : Env) (vc 3 (.slice ca side.length cc) (side) :: blk bb [.slice ca side.length cc, I64 (val)] 69 :: blk b2 [.slice none 0 0, I64 (0)] 69 :: blk b1 [I64 (nd), va] 25 :: I)
    have hG := (checkG_ok.1 (Classical.not_not.1 c14))
    have hends : endsP nd u v := by simpa using c22
    refine W.seq ?_
    refine W.drawn mixed ?_
    refine A.hold (vc 3 (.slice ca side.length cc) (side) :: blk bb [.slice ca side.length cc, I64 (val)] 69 :: blk b1 [I64 (nd), va] 25 :: I) 6 ?_
    refine D.r 0 rfl (Runs.fieldAddr fld69_1 rfl) ?_ (hJ := Fit.sub)
    refine D.r 1 rfl (Runs.ld ty3) ?_ (hJ := Fit.sub)
    refine D.r 2 rfl (Runs.lds (vs := [_, _]) ty69) ?_ (hJ := Fit.sub)
    refine D.r 3 rfl (Runs.assign rfl) ?_ (hJ := Fit.sub)
    refine D.step (rs := [4]) (by kernel_rfl) rfl rfl (all1 ?_)
    refine Step.eff rfl (Wanted.plain rfl) (Eff.st (cs := [_, _]) (vs := [_, _]) (cs' := [_, _]) ty69) ?_
    rintro _ _ ⟨rfl, rfl⟩
    refine ⟨Fit.sub, ?_⟩
    refine D.r 5 rfl (Runs.assign rfl) ?_ (hJ := Fit.sub)
    refine D.done (by kernel_rfl) ?_
    refine V.then ?_
    refine W.ret ?_
    have hE : lamE nd es u v = 0 := lamE_zero.2 ⟨hG, hends⟩
    exact V.rettct rfl ty69 rfl rfl rfl (by repeat (first | exact List.mem_cons_self | apply List.mem_cons_of_mem)) rfl (vc 3 (.slice ca side.length cc) side :: I) (by first | exact Fit.s | exact Fit.sub) ⟨ca, cc, side, val, by first | (rw [hE]; done) | (rw [hE]; rfl), ⟨fun h => absurd hE h, fun _ => hms⟩, rfl⟩

theorem Net17_ok {κ : Ctx} {I : List Item} {nd : Int} {va : Value} {es : List Pt} (hl : Sl κ I va es) (u v : Int) (hb : es.length ≤ 8000) :
    CallS Tryd.prog κ 92 [.agg #[I64 (nd), va], I64 (u), I64 (v)] I (fun r J => ∃ a c, r = .agg #[I64 nd, I64 u, I64 v, .slice a (arcsE es).length c] ∧ J = vc 161 (.slice a (arcsE es).length c) (arcsE es) :: I) := by
 refine CallS.enter (L := [(0, .agg #[I64 (nd), va]), (1, I64 (u)), (2, I64 (v))]) Tryd.func92 rfl rfl rfl rfl ?_
 refine W.sr ?_
 refine G.e (Eff.box (cs := [_, _]) rfl rfl rfl) ?_
 rintro _ _ ⟨b1, rfl, rfl⟩
 refine G.e (Eff.alloc ty124 rfl) ?_
 rintro _ _ ⟨b2, rfl, rfl⟩
 refine G.nt ?_
 refine W.sr ?_
 refine G.r (Runs.fieldAddr fld25_0 rfl) ?_
 refine G.r (Runs.ld ty3) ?_
 refine G.r (Runs.move rfl) ?_
 refine G.r (Runs.move rfl) ?_
 refine G.r (Runs.build (cells := [_, _, _, _]) ty124 Tryd.underlying124 pl124 rfl rfl) ?_
 refine G.e (Eff.alloc ty124 rfl) ?_
 rintro _ _ ⟨b3, rfl, rfl⟩
 refine G.e (Eff.st (cs := [_, _, _, _]) (vs := [_, _, _, _]) (cs' := [_, _, _, _]) ty124) ?_
 rintro _ _ ⟨rfl, rfl⟩
 refine G.nt ?_
 refine W.seq ?_
 refine W.sr ?_
 refine G.r (Runs.fieldAddr fld25_1 rfl) ?_
 refine G.r (Runs.ld ty23) ?_
 refine G.r (Runs.lenT (α := Pt) (xs := es) Tryd.underlying23 rfl (Sl.f hl)) ?_
 refine G.r (Runs.move rfl) ?_
 refine G.nt ?_
 refine W.sub (L' := [(18, _), (17, _), (16, _), (7, _), (6, _)]) (Sub.cons rfl (Sub.cons rfl (Sub.cons rfl (Sub.cons rfl (Sub.cons rfl Sub.nil))))) ?_
 refine W.block ?_
 refine W.loop (σ := Nat × (Option Addr) × Nat × (List Arc)) (fun s => ([(6, .pointer (some ⟨b2, 0, none⟩)), (7, .pointer (some ⟨b3, 0, none⟩)), (16, va), (17, I64 (((es.length : Nat) : Int))), (18, I64 (((s.1 : Nat) : Int)))] : Env)) (fun s => vc 161 (.slice s.2.1 s.2.2.2.length s.2.2.1) (s.2.2.2) :: blk b3 [I64 (nd), I64 (u), I64 (v), .slice s.2.1 s.2.2.2.length s.2.2.1] 124 :: blk b2 [I64 (0), I64 (0), I64 (0), .slice none 0 0] 124 :: blk b1 [I64 (nd), va] 25 :: I) (fun s => (s.1 ≤ es.length) ∧ (s.2.2.2 = arcsE (es.take s.1))) (fun s => es.length - s.1) (0, none, 0, []) (show ((0 : Nat) ≤ es.length) ∧ (([] : List Arc) = arcsE (es.take (0 : Nat))) from ⟨(by omega), rfl⟩) (Sub.cons rfl (Sub.cons rfl (Sub.cons rfl (Sub.cons rfl (Sub.cons lookO Sub.nil))))) (show Fit κ _ (vc 161 (.slice (none) ([]).length (0)) (([])) :: blk b3 [I64 (nd), I64 (u), I64 (v), .slice (none) ([]).length (0)] 124 :: blk b2 [I64 (0), I64 (0), I64 (0), .slice none 0 0] 124 :: blk b1 [I64 (nd), va] 25 :: I) from (Fit.nilvc _ _)) ?_
 rintro ⟨k, na, nc, out⟩ hp
 obtain ⟨hk, ho⟩ : (k ≤ es.length) ∧ (out = arcsE (es.take k)) := hp
 show W Tryd.prog κ 39 _ _ ([(6, .pointer (some ⟨b2, 0, none⟩)), (7, .pointer (some ⟨b3, 0, none⟩)), (16, va), (17, I64 (((es.length : Nat) : Int))), (18, I64 (((k : Nat) : Int)))] : Env) (vc 161 (.slice na out.length nc) (out) :: blk b3 [I64 (nd), I64 (u), I64 (v), .slice na out.length nc] 124 :: blk b2 [I64 (0), I64 (0), I64 (0), .slice none 0 0] 124 :: blk b1 [I64 (nd), va] 25 :: I)
 have hol : out.length = 2 * k := by rw [ho, arcsE_len, List.length_take]; omega
 refine W.sr ?_
 refine G.r (Runs.lss rfl rfl) ?_
 refine G.nt ?_
 refine W.seq ?_
 refine W.ite rfl (fun c19 => ?_) (fun c19 => ?_)
 ·refine W.skip ?_
  refine V.then ?_
  refine W.seq ?_
  refine W.block ?_
  refine W.sr ?_
  refine G.r (Runs.idx (α := Pt) (xs := es) Tryd.underlying23 ty38 rfl rfl (Sl.f hl) (by omega) (by omega)) ?_
  refine G.r (Runs.gets (α := Pt) (xs := es) ty38 rfl (Sl.f hl) (by omega) (by omega)) ?_
  refine G.e (Eff.alloc ty38 rfl) ?_
  rintro _ _ ⟨b4, rfl, rfl⟩
  refine G.e (Eff.st (cs := [_, _]) (vs := [_, _]) (cs' := [_, _]) ty38) ?_
  rintro _ _ ⟨rfl, rfl⟩
  refine G.nt ?_
  refine W.region ?_
  refine G.r (Runs.fieldAddr fld124_3 rfl) ?_
  refine G.r (Runs.ld ty122) ?_
  refine G.r (Runs.fieldAddr fld38_0 rfl) ?_
  refine G.r (Runs.ld ty3) ?_
  refine G.r (Runs.fieldAddr fld38_1 rfl) ?_
  refine G.r (Runs.ld ty3) ?_
  refine G.r (Runs.build (cells := [_, _, _]) ty161 Tryd.underlying161 pl161 rfl rfl) ?_
  refine G.r (Runs.fieldAddr fld38_1 rfl) ?_
  refine G.r (Runs.ld ty3) ?_
  refine G.r (Runs.fieldAddr fld38_0 rfl) ?_
  refine G.r (Runs.ld ty3) ?_
  refine G.r (Runs.build (cells := [_, _, _]) ty161 Tryd.underlying161 pl161 rfl rfl) ?_
  refine G.e (Eff.bs (α := Arc) (cs := [I64 ((at_ es ((k : Nat) : Int)).u), I64 ((at_ es ((k : Nat) : Int)).v), I64 (1), I64 ((at_ es ((k : Nat) : Int)).v), I64 ((at_ es ((k : Nat) : Int)).u), I64 (1)]) (xs := [⟨(at_ es ((k : Nat) : Int)).u, (at_ es ((k : Nat) : Int)).v, 1⟩, ⟨(at_ es ((k : Nat) : Int)).v, (at_ es ((k : Nat) : Int)).u, 1⟩]) Tryd.underlying122 ty161 rfl rfl (by decide) (by decide) rfl (by kernel_rfl) rfl rfl) ?_
  rintro _ _ ⟨ad5, rfl, rfl⟩
  refine G.e (Eff.app (α := Arc) (e := 161) (xs := out) (ys := ([⟨(at_ es ((k : Nat) : Int)).u, (at_ es ((k : Nat) : Int)).v, 1⟩, ⟨(at_ es ((k : Nat) : Int)).v, (at_ es ((k : Nat) : Int)).u, 1⟩] : List Arc)) Tryd.underlying122 ty161 rfl rfl rfl (by repeat (first | exact List.mem_cons_self | apply List.mem_cons_of_mem)) Sl.o (by simp only [List.length_cons, List.length_nil]; omega) (by decide) rfl (fun _ _ => (by repeat (first | exact At.head _ _ _ | apply At.tail)))) ?_
  rintro _ _ ⟨ad6, cp7, rfl, rfl⟩
  refine G.r (Runs.fieldAddr fld124_3 rfl) ?_
  refine G.e (Eff.st (cs := [_, _, _, _]) (vs := [_]) (cs' := [_, _, _, _]) ty122) ?_
  rintro _ _ ⟨rfl, rfl⟩
  refine G.nil ?_
  refine V.block_normal ?_
  refine V.then ?_
  refine W.sub (L' := [(6, _), (7, _), (16, _), (17, _), (18, _)]) (Sub.cons rfl (Sub.cons rfl (Sub.cons rfl (Sub.cons rfl (Sub.cons rfl Sub.nil))))) ?_
  refine W.region ?_
  refine G.r (Runs.add rfl rfl (by unfold InR; omega)) ?_
  refine G.r (Runs.move rfl) ?_
  refine G.nil ?_
  exact V.next ((k + 1), (ad6), (cp7), (out ++ ([⟨(at_ es ((k : Nat) : Int)).u, (at_ es ((k : Nat) : Int)).v, 1⟩, ⟨(at_ es ((k : Nat) : Int)).v, (at_ es ((k : Nat) : Int)).u, 1⟩] : List Arc))) (show ((k + 1 : Nat) ≤ es.length) ∧ ((out ++ ([⟨(at_ es ((k : Nat) : Int)).u, (at_ es ((k : Nat) : Int)).v, 1⟩, ⟨(at_ es ((k : Nat) : Int)).v, (at_ es ((k : Nat) : Int)).u, 1⟩] : List Arc) : List Arc) = arcsE (es.take (k + 1 : Nat))) from ⟨(by omega), (by rw [arcsE_take (by omega), ← ho])⟩) (show es.length - (k + 1 : Nat) < es.length - k from (by omega)) (Sub.cons rfl (Sub.cons rfl (Sub.cons rfl (Sub.cons rfl (Sub.cons lookO Sub.nil))))) (show Fit κ _ (vc 161 (.slice (ad6) (out ++ ([⟨(at_ es ((k : Nat) : Int)).u, (at_ es ((k : Nat) : Int)).v, 1⟩, ⟨(at_ es ((k : Nat) : Int)).v, (at_ es ((k : Nat) : Int)).u, 1⟩] : List Arc)).length (cp7)) ((out ++ ([⟨(at_ es ((k : Nat) : Int)).u, (at_ es ((k : Nat) : Int)).v, 1⟩, ⟨(at_ es ((k : Nat) : Int)).v, (at_ es ((k : Nat) : Int)).u, 1⟩] : List Arc))) :: blk b3 [I64 (nd), I64 (u), I64 (v), .slice (ad6) (out ++ ([⟨(at_ es ((k : Nat) : Int)).u, (at_ es ((k : Nat) : Int)).v, 1⟩, ⟨(at_ es ((k : Nat) : Int)).v, (at_ es ((k : Nat) : Int)).u, 1⟩] : List Arc)).length (cp7)] 124 :: blk b2 [I64 (0), I64 (0), I64 (0), .slice none 0 0] 124 :: blk b1 [I64 (nd), va] 25 :: I) from (by first | exact Fit.s | exact Fit.sub))
 ·refine W.exit ?_
  refine V.then_exit ?_
  refine V.then_exit ?_
  refine V.block_hit ?_
  refine V.then ?_
  refine W.sr ?_
  refine G.r (Runs.lds (vs := [_, _, _, _]) ty124) ?_
  refine G.e (Eff.st (cs := [_, _, _, _]) (vs := [_, _, _, _]) (cs' := [_, _, _, _]) ty124) ?_
  rintro _ _ ⟨rfl, rfl⟩
  refine G.nt ?_
  refine W.ret ?_
  have hX : out = (arcsE es) := by rw [ho, List.take_of_length_le (by omega)]
  subst hX
  exact V.retc rfl ty124 rfl (by repeat (first | exact List.mem_cons_self | apply List.mem_cons_of_mem)) rfl (vc 161 (.slice na (arcsE es).length nc) (arcsE es) :: I) (by first | exact Fit.s | exact Fit.sub) ⟨na, nc, rfl, rfl⟩

set_option maxHeartbeats 1000000 in
theorem Lambda17_ok {κ : Ctx} {I : List Item} {nd : Int} {va : Value} {es : List Pt} (hl : Sl κ I va es) (u v : Int) (hb : es.length ≤ 8000) :
    CallS Tryd.prog κ 50 [.agg #[I64 (nd), va], I64 (u), I64 (v)] I (fun r J => ∃ a c side val, r = .tuple #[I64 val, .agg #[.slice a side.length c, I64 val], I64 (lamE nd es u v)] ∧ LamP nd es u v side val ∧ J = vc 3 (.slice a side.length c) side :: I) := by
 refine CallS.enter (L := [(0, .agg #[I64 (nd), va]), (1, I64 (u)), (2, I64 (v))]) Tryd.func50 rfl rfl rfl rfl ?_
 refine W.sr ?_
 refine G.e (Eff.box (cs := [_, _]) rfl rfl rfl) ?_
 rintro _ _ ⟨b1, rfl, rfl⟩
 refine G.r (Runs.assign rfl) ?_
 refine G.e (Eff.alloc ty69 rfl) ?_
 rintro _ _ ⟨b2, rfl, rfl⟩
 refine G.r (Runs.assign rfl) ?_
 refine G.nt ?_
 refine W.seq ?_
 refine W.sr ?_
 refine G.r (Runs.lds (vs := [_, _]) ty25) ?_
 refine G.e (Eff.call call70 rfl rfl (Check03G_ok (nd := nd) (Sl.f hl))) ?_
 rintro _ _ ⟨_, _, ⟨rfl, rfl⟩, rfl, rfl⟩
 refine G.r (Runs.assign rfl) ?_
 refine G.nt ?_
 refine W.sr ?_
 refine G.r (Runs.move rfl) ?_
 refine G.r (Runs.neq rfl rfl) ?_
 refine G.nt ?_
 refine W.ite rfl (fun c15 => ?_) (fun c15 => ?_)
 ·refine W.sr ?_
  refine G.r (Runs.build (cells := [_, _]) ty69 Tryd.underlying69 pl69 rfl rfl) ?_
  refine G.r (Runs.move rfl) ?_
  refine G.r (Runs.assign rfl) ?_
  refine G.e (Eff.st (cs := [_, _]) (vs := [_, _]) (cs' := [_, _]) ty69) ?_
  rintro _ _ ⟨rfl, rfl⟩
  refine G.r (Runs.assign rfl) ?_
  refine G.nt ?_
  refine W.sub (L' := [(8, _), (6, _), (7, _)]) (Sub.cons rfl (Sub.cons rfl (Sub.cons rfl Sub.nil))) ?_
  refine W.ret ?_
  refine V.then_ret ?_
  have hE : lamE nd es u v = checkG nd es := by unfold lamE; rw [if_pos c15]
  have hne := c15
  exact V.rettct rfl ty69 rfl rfl rfl (by repeat (first | exact List.mem_cons_self | apply List.mem_cons_of_mem)) rfl (vc 3 (.slice none ([] : List Int).length 0) ([] : List Int) :: I) (Fit.trans (show Fit κ _ I from Fit.m) (Fit.nilvc (α := Int) _ _)) ⟨none, 0, [], 0, by rw [hE]; rfl, ⟨fun _ => ⟨rfl, rfl⟩, fun h => by rw [hE] at h; first | exact absurd h hne | cases h⟩, rfl⟩
 ·refine W.skip ?_
  refine V.then ?_
  refine W.seq ?_
  refine W.sr ?_
  refine G.r (Runs.move rfl) ?_
  refine G.r (Runs.lss rfl rfl) ?_
  refine G.r (Runs.move rfl) ?_
  refine G.split (d := 20) rfl (fun g20 => ?_) (fun g20 => ?_)
  ·refine G.po ?_
   refine G.po ?_
   refine G.r (Runs.pickt rfl rfl) ?_
   refine G.r (Runs.move rfl) ?_
   refine G.po ?_
   refine G.po ?_
   refine G.po ?_
   refine G.po ?_
   refine G.r (Runs.pickt rfl rfl) ?_
   refine G.r (Runs.move rfl) ?_
   refine G.po ?_
   refine G.po ?_
   refine G.po ?_
   refine G.po ?_
   refine G.r (Runs.pickt rfl rfl) ?_
   refine G.r (Runs.move rfl) ?_
   refine G.po ?_
   refine G.po ?_
   refine G.po ?_
   refine G.r (Runs.pickt rfl rfl) ?_
   refine G.nt ?_
   refine W.sub (L' := [(40, _), (7, _), (3, _), (1, _), (2, _)]) (Sub.cons rfl (Sub.cons rfl (Sub.cons rfl (Sub.cons rfl (Sub.cons rfl Sub.nil))))) ?_
   refine W.yes rfl ?_
   refine W.sr ?_
   refine G.r (Runs.build (cells := [_, _]) ty69 Tryd.underlying69 pl69 rfl rfl) ?_
   refine G.r (Runs.assign rfl) ?_
   refine G.e (Eff.st (cs := [_, _]) (vs := [_, _]) (cs' := [_, _]) ty69) ?_
   rintro _ _ ⟨rfl, rfl⟩
   refine G.r (Runs.assign rfl) ?_
   refine G.nt ?_
   refine W.ret ?_
   refine V.then_ret ?_
   have hE : lamE nd es u v = 6 := by unfold lamE; rw [if_neg c15, if_neg (by unfold endsP; omega)]
   have hne : (6 : Int) ≠ 0 := by decide
   exact V.rettct rfl ty69 rfl rfl rfl (by repeat (first | exact List.mem_cons_self | apply List.mem_cons_of_mem)) rfl (vc 3 (.slice none ([] : List Int).length 0) ([] : List Int) :: I) (Fit.trans (show Fit κ _ I from Fit.m) (Fit.nilvc (α := Int) _ _)) ⟨none, 0, [], 0, by rw [hE]; rfl, ⟨fun _ => ⟨rfl, rfl⟩, fun h => by rw [hE] at h; first | exact absurd h hne | cases h⟩, rfl⟩
  ·refine G.ro (Runs.move rfl) ?_
   refine G.ro (Runs.lss rfl rfl) ?_
   refine G.r (Runs.pickf rfl rfl) ?_
   refine G.r (Runs.move rfl) ?_
   refine G.split (d := 24) rfl (fun g24 => ?_) (fun g24 => ?_)
   ·refine G.po ?_
    refine G.po ?_
    refine G.po ?_
    refine G.po ?_
    refine G.r (Runs.pickt rfl rfl) ?_
    refine G.r (Runs.move rfl) ?_
    refine G.po ?_
    refine G.po ?_
    refine G.po ?_
    refine G.po ?_
    refine G.r (Runs.pickt rfl rfl) ?_
    refine G.r (Runs.move rfl) ?_
    refine G.po ?_
    refine G.po ?_
    refine G.po ?_
    refine G.r (Runs.pickt rfl rfl) ?_
    refine G.nt ?_
    refine W.sub (L' := [(40, _), (7, _), (3, _), (1, _), (2, _)]) (Sub.cons rfl (Sub.cons rfl (Sub.cons rfl (Sub.cons rfl (Sub.cons rfl Sub.nil))))) ?_
    refine W.yes rfl ?_
    refine W.sr ?_
    refine G.r (Runs.build (cells := [_, _]) ty69 Tryd.underlying69 pl69 rfl rfl) ?_
    refine G.r (Runs.assign rfl) ?_
    refine G.e (Eff.st (cs := [_, _]) (vs := [_, _]) (cs' := [_, _]) ty69) ?_
    rintro _ _ ⟨rfl, rfl⟩
    refine G.r (Runs.assign rfl) ?_
    refine G.nt ?_
    refine W.ret ?_
    refine V.then_ret ?_
    have hE : lamE nd es u v = 6 := by unfold lamE; rw [if_neg c15, if_neg (by unfold endsP; omega)]
    have hne : (6 : Int) ≠ 0 := by decide
    exact V.rettct rfl ty69 rfl rfl rfl (by repeat (first | exact List.mem_cons_self | apply List.mem_cons_of_mem)) rfl (vc 3 (.slice none ([] : List Int).length 0) ([] : List Int) :: I) (Fit.trans (show Fit κ _ I from Fit.m) (Fit.nilvc (α := Int) _ _)) ⟨none, 0, [], 0, by rw [hE]; rfl, ⟨fun _ => ⟨rfl, rfl⟩, fun h => by rw [hE] at h; first | exact absurd h hne | cases h⟩, rfl⟩
   ·refine G.ro (Runs.move rfl) ?_
    refine G.ro (Runs.fieldAddr fld25_0 rfl) ?_
    refine G.ro (Runs.ld ty3) ?_
    refine G.ro (Runs.geq rfl rfl) ?_
    refine G.r (Runs.pickf rfl rfl) ?_
    refine G.r (Runs.move rfl) ?_
    refine G.split (d := 30) rfl (fun g30 => ?_) (fun g30 => ?_)
    ·refine G.po ?_
     refine G.po ?_
     refine G.po ?_
     refine G.po ?_
     refine G.r (Runs.pickt rfl rfl) ?_
     refine G.r (Runs.move rfl) ?_
     refine G.po ?_
     refine G.po ?_
     refine G.po ?_
     refine G.r (Runs.pickt rfl rfl) ?_
     refine G.nt ?_
     refine W.sub (L' := [(40, _), (7, _), (3, _), (1, _), (2, _)]) (Sub.cons rfl (Sub.cons rfl (Sub.cons rfl (Sub.cons rfl (Sub.cons rfl Sub.nil))))) ?_
     refine W.yes rfl ?_
     refine W.sr ?_
     refine G.r (Runs.build (cells := [_, _]) ty69 Tryd.underlying69 pl69 rfl rfl) ?_
     refine G.r (Runs.assign rfl) ?_
     refine G.e (Eff.st (cs := [_, _]) (vs := [_, _]) (cs' := [_, _]) ty69) ?_
     rintro _ _ ⟨rfl, rfl⟩
     refine G.r (Runs.assign rfl) ?_
     refine G.nt ?_
     refine W.ret ?_
     refine V.then_ret ?_
     have hE : lamE nd es u v = 6 := by unfold lamE; rw [if_neg c15, if_neg (by unfold endsP; omega)]
     have hne : (6 : Int) ≠ 0 := by decide
     exact V.rettct rfl ty69 rfl rfl rfl (by repeat (first | exact List.mem_cons_self | apply List.mem_cons_of_mem)) rfl (vc 3 (.slice none ([] : List Int).length 0) ([] : List Int) :: I) (Fit.trans (show Fit κ _ I from Fit.m) (Fit.nilvc (α := Int) _ _)) ⟨none, 0, [], 0, by rw [hE]; rfl, ⟨fun _ => ⟨rfl, rfl⟩, fun h => by rw [hE] at h; first | exact absurd h hne | cases h⟩, rfl⟩
    ·refine G.ro (Runs.move rfl) ?_
     refine G.ro (Runs.fieldAddr fld25_0 rfl) ?_
     refine G.ro (Runs.ld ty3) ?_
     refine G.ro (Runs.geq rfl rfl) ?_
     refine G.r (Runs.pickf rfl rfl) ?_
     refine G.r (Runs.move rfl) ?_
     refine G.split (d := 36) rfl (fun g36 => ?_) (fun g36 => ?_)
     ·refine G.po ?_
      refine G.po ?_
      refine G.po ?_
      refine G.r (Runs.pickt rfl rfl) ?_
      refine G.nt ?_
      refine W.sub (L' := [(40, _), (7, _), (3, _), (1, _), (2, _)]) (Sub.cons rfl (Sub.cons rfl (Sub.cons rfl (Sub.cons rfl (Sub.cons rfl Sub.nil))))) ?_
      refine W.yes rfl ?_
      refine W.sr ?_
      refine G.r (Runs.build (cells := [_, _]) ty69 Tryd.underlying69 pl69 rfl rfl) ?_
      refine G.r (Runs.assign rfl) ?_
      refine G.e (Eff.st (cs := [_, _]) (vs := [_, _]) (cs' := [_, _]) ty69) ?_
      rintro _ _ ⟨rfl, rfl⟩
      refine G.r (Runs.assign rfl) ?_
      refine G.nt ?_
      refine W.ret ?_
      refine V.then_ret ?_
      have hE : lamE nd es u v = 6 := by unfold lamE; rw [if_neg c15, if_neg (by unfold endsP; omega)]
      have hne : (6 : Int) ≠ 0 := by decide
      exact V.rettct rfl ty69 rfl rfl rfl (by repeat (first | exact List.mem_cons_self | apply List.mem_cons_of_mem)) rfl (vc 3 (.slice none ([] : List Int).length 0) ([] : List Int) :: I) (Fit.trans (show Fit κ _ I from Fit.m) (Fit.nilvc (α := Int) _ _)) ⟨none, 0, [], 0, by rw [hE]; rfl, ⟨fun _ => ⟨rfl, rfl⟩, fun h => by rw [hE] at h; first | exact absurd h hne | cases h⟩, rfl⟩
     ·refine G.ro (Runs.move rfl) ?_
      refine G.ro (Runs.move rfl) ?_
      refine G.ro (Runs.eql rfl rfl) ?_
      refine G.r (Runs.pickf rfl rfl) ?_
      refine G.nt ?_
      refine W.sub (L' := [(40, _), (7, _), (3, _), (1, _), (2, _)]) (Sub.cons rfl (Sub.cons rfl (Sub.cons rfl (Sub.cons rfl (Sub.cons rfl Sub.nil))))) ?_
      refine W.ite rfl (fun c40 => ?_) (fun c40 => ?_)
      ·refine W.sr ?_
       refine G.r (Runs.build (cells := [_, _]) ty69 Tryd.underlying69 pl69 rfl rfl) ?_
       refine G.r (Runs.assign rfl) ?_
       refine G.e (Eff.st (cs := [_, _]) (vs := [_, _]) (cs' := [_, _]) ty69) ?_
       rintro _ _ ⟨rfl, rfl⟩
       refine G.r (Runs.assign rfl) ?_
       refine G.nt ?_
       refine W.ret ?_
       refine V.then_ret ?_
       have hE : lamE nd es u v = 6 := by unfold lamE; rw [if_neg c15, if_neg (by unfold endsP; omega)]
       have hne : (6 : Int) ≠ 0 := by decide
       exact V.rettct rfl ty69 rfl rfl rfl (by repeat (first | exact List.mem_cons_self | apply List.mem_cons_of_mem)) rfl (vc 3 (.slice none ([] : List Int).length 0) ([] : List Int) :: I) (Fit.trans (show Fit κ _ I from Fit.m) (Fit.nilvc (α := Int) _ _)) ⟨none, 0, [], 0, by rw [hE]; rfl, ⟨fun _ => ⟨rfl, rfl⟩, fun h => by rw [hE] at h; first | exact absurd h hne | cases h⟩, rfl⟩
      ·refine W.skip ?_
       refine V.then ?_
       refine W.sr ?_
       refine G.r (Runs.lds (vs := [_, _]) ty25) ?_
       have hG := (checkG_ok.1 (Classical.not_not.1 c15))
       have hends : endsP nd u v := by unfold endsP; omega
       refine G.r (Runs.move rfl) ?_
       refine G.r (Runs.move rfl) ?_
       refine G.e (Eff.call call92 rfl rfl (Net17_ok (nd := nd) (Sl.f hl) u v (by omega))) ?_
       rintro _ _ ⟨_, _, ⟨ad3, cp4, rfl, rfl⟩, rfl, rfl⟩
       refine G.e (Eff.call call91 rfl rfl (RMax_ok (n := (⟨nd, u, v, arcsE es⟩ : Net)) Sl.o (net_ok hG (.refl _) (by rw [arcsE_len]; omega) hends))) ?_
       rintro _ _ ⟨_, _, ⟨ad5, cp6, f7, ad8, cp9, sd10, vl11, rfl, hf7, rfl⟩, rfl, rfl⟩
       refine G.r (Runs.move rfl) ?_
       refine G.r (Runs.extract rfl rfl) ?_
       refine G.r (Runs.extract rfl rfl) ?_
       refine G.e (Eff.alloc ty119 rfl) ?_
       rintro _ _ ⟨b12, rfl, rfl⟩
       refine G.e (Eff.st (cs := [_, _, _]) (vs := [_, _, _]) (cs' := [_, _, _]) ty119) ?_
       rintro _ _ ⟨rfl, rfl⟩
       refine G.r (Runs.assign rfl) ?_
       refine G.nt ?_
       refine W.sub (L' := [(10, _), (7, _)]) (Sub.cons rfl (Sub.cons rfl Sub.nil)) ?_
       refine W.seq ?_
       refine W.drawn mixed ?_
       refine A.hold (blk b12 [.slice ad5 f7.length cp6, I64 (vl11), .slice ad8 sd10.length cp9] 119 :: vc 3 (.slice ad8 sd10.length cp9) (sd10) :: vc 3 (.slice ad5 f7.length cp6) (f7) :: vc 161 (.slice ad3 (arcsE es).length cp4) (arcsE es) :: blk b1 [I64 (nd), va] 25 :: I) 10 ?_
       refine D.r 0 rfl (Runs.fieldAddr fld119_1 rfl) ?_ (hJ := Fit.sub)
       refine D.r 1 rfl (Runs.ld ty3) ?_ (hJ := Fit.sub)
       refine D.r 2 rfl (Runs.fieldAddr fld119_2 rfl) ?_ (hJ := Fit.sub)
       refine D.r 3 rfl (Runs.ld ty22) ?_ (hJ := Fit.sub)
       refine D.r 4 rfl (Runs.fieldAddr fld119_1 rfl) ?_ (hJ := Fit.sub)
       refine D.r 5 rfl (Runs.ld ty3) ?_ (hJ := Fit.sub)
       refine D.r 6 rfl (Runs.build (cells := [_, _]) ty69 Tryd.underlying69 pl69 rfl rfl) ?_ (hJ := Fit.sub)
       refine D.r 7 rfl (Runs.assign rfl) ?_ (hJ := Fit.sub)
       refine D.step (rs := [8]) (by kernel_rfl) rfl rfl (all1 ?_)
       refine Step.eff rfl (Wanted.plain rfl) (Eff.st (cs := [_, _]) (vs := [_, _]) (cs' := [_, _]) ty69) ?_
       rintro _ _ ⟨rfl, rfl⟩
       refine ⟨Fit.sub, ?_⟩
       refine D.r 9 rfl (Runs.assign rfl) ?_ (hJ := Fit.sub)
       refine D.done (by kernel_rfl) ?_
       refine V.then ?_
       refine W.ret ?_
       have hE : lamE nd es u v = 0 := lamE_zero.2 ⟨hG, hends⟩
       have hms := MaxF.minside (net_ok hG (.refl _) (by rw [arcsE_len]; omega) hends) (.refl _) hf7
       exact V.rettct rfl ty69 rfl rfl rfl (by repeat (first | exact List.mem_cons_self | apply List.mem_cons_of_mem)) rfl (vc 3 (.slice ad8 sd10.length cp9) sd10 :: I) (by first | exact Fit.s | exact Fit.sub) ⟨ad8, cp9, sd10, vl11, by first | (rw [hE]; done) | (rw [hE]; rfl), ⟨fun h => absurd hE h, fun _ => hms⟩, rfl⟩

end Go.Sl
namespace Go.Sl
open Go.Proofs
set_option linter.unusedVariables false
set_option linter.unusedSimpArgs false
set_option maxRecDepth 4000
/-- A least cut between one node and some others. -/
def LeastOf (E : List Pt) (nd x0 : Int) (ys side : List Int) (val : Int) : Prop := ∃ y ∈ ys, MinSide E nd x0 y side val ∧ ∀ y' ∈ ys, KE val E x0 y'
theorem KE.less {k k' : Int} {E : List Pt} {x y : Int} (h : KE k E x y) (hk : k' ≤ k) : KE k' E x y := fun S h1 h2 => Int.le_trans hk (h S h1 h2)
theorem LeastOf.uniq {E : List Pt} {nd x0 val val' : Int} {ys side side' : List Int} (h : LeastOf E nd x0 ys side val) (h' : LeastOf E nd x0 ys side' val') : val = val' := by
  obtain ⟨y, hy, h1, h2⟩ := h
  obtain ⟨y', hy', h3, h4⟩ := h'
  exact Int.le_antisymm (h3.ke.2 (h2 y' hy')) (h1.ke.2 (h4 y hy))
theorem LeastOf.first {E : List Pt} {nd x0 y val : Int} {side : List Int} (h : MinSide E nd x0 y side val) : LeastOf E nd x0 [y] side val := ⟨y, by simp, h, fun y' hy' => by rw [List.mem_singleton] at hy'; rw [hy']; exact h.ke.1 (Int.le_refl _)⟩
theorem LeastOf.better {E : List Pt} {nd x0 y val val' : Int} {ys side side' : List Int} (h : LeastOf E nd x0 ys side val) (h' : MinSide E nd x0 y side' val') (hl : val' < val) : LeastOf E nd x0 (ys ++ [y]) side' val' := by
  obtain ⟨z, hz, h1, h2⟩ := h
  refine ⟨y, by simp, h', fun y' hy' => ?_⟩
  rcases List.mem_append.1 hy' with hy' | hy'
  · exact (h2 y' hy').less (by omega)
  · rw [List.mem_singleton] at hy'; rw [hy']; exact h'.ke.1 (Int.le_refl _)
theorem LeastOf.same {E : List Pt} {nd x0 y val val' : Int} {ys side side' : List Int} (h : LeastOf E nd x0 ys side val) (h' : MinSide E nd x0 y side' val') (hl : val ≤ val') : LeastOf E nd x0 (ys ++ [y]) side val := by
  obtain ⟨z, hz, h1, h2⟩ := h
  refine ⟨z, List.mem_append_left _ hz, h1, fun y' hy' => ?_⟩
  rcases List.mem_append.1 hy' with hy' | hy'
  · exact h2 y' hy'
  · rw [List.mem_singleton] at hy'; rw [hy']; exact h'.ke.1 hl
theorem MinSide.nonneg {E : List Pt} {nd s t val : Int} {side : List Int} (h : MinSide E nd s t side val) : 0 ≤ val := by rw [← h.eq]; exact lvE_nonneg _ _
def askE (nd : Int) (es : List Pt) (k : Int) : Int := if checkG nd es ≠ 0 then checkG nd es else if k < 1 then 1 else 0
end Go.Sl
namespace Go.Sl
open Go.Proofs
set_option linter.unusedVariables false
set_option linter.unusedSimpArgs false
set_option maxRecDepth 4000
theorem first_lt {l : List Int} (h : l.Pairwise (fun a b : Int => a < b)) {k : Nat} (hk : k < (l.drop 1).length) : at_ l 0 < at_ (l.drop 1) (k : Int) ∧ at_ (l.drop 1) (k : Int) ∈ l ∧ at_ l 0 ∈ l := by
  cases l with
  | nil => simp at hk
  | cons x xs =>
    have e0 : at_ (x :: xs) 0 = x := rfl
    have ed : (x :: xs).drop 1 = xs := rfl
    rw [ed] at hk ⊢
    have hm : at_ xs (k : Int) ∈ xs := at_mem (by omega) (by omega)
    rw [e0]
    exact ⟨(List.pairwise_cons.1 h).1 _ hm, List.mem_cons_of_mem _ hm, List.mem_cons_self⟩
def LeastI (E : List Pt) (nd x0 : Int) (ys : List Int) (k : Nat) (side : List Int) (val : Int) : Prop := (k = 0 ∧ val = -1) ∨ (0 < k ∧ 0 ≤ val ∧ LeastOf E nd x0 (ys.take k) side val)
theorem LeastI.put {E : List Pt} {nd x0 val vl : Int} {ys side sd : List Int} {k : Nat} (h : LeastI E nd x0 ys k side val) (hk : k < ys.length) (hm : MinSide E nd x0 (at_ ys (k : Int)) sd vl) (hc : val < 0 ∨ vl < val) : LeastI E nd x0 ys (k + 1) sd vl := by
  refine .inr ⟨by omega, hm.nonneg, ?_⟩
  rw [take_at ys k hk]
  rcases h with ⟨h1, h2⟩ | ⟨h1, h2, h3⟩
  · subst h1; exact LeastOf.first hm
  · exact h3.better hm (by omega)
theorem LeastI.skip {E : List Pt} {nd x0 val vl : Int} {ys side sd : List Int} {k : Nat} (h : LeastI E nd x0 ys k side val) (hk : k < ys.length) (hm : MinSide E nd x0 (at_ ys (k : Int)) sd vl) (hc : ¬ val < 0 ∧ ¬ vl < val) : LeastI E nd x0 ys (k + 1) side val := by
  rcases h with ⟨h1, h2⟩ | ⟨h1, h2, h3⟩
  · omega
  · exact .inr ⟨by omega, h2, by rw [take_at ys k hk]; exact h3.same hm (by omega)⟩
theorem LeastI.ends {E : List Pt} {nd x0 val : Int} {ys side : List Int} {k : Nat} (h : LeastI E nd x0 ys k side val) (hk : ys.length ≤ k) (h0 : 0 < ys.length) : LeastOf E nd x0 ys side val := by
  rcases h with ⟨h1, _⟩ | ⟨_, _, h3⟩
  · omega
  · rwa [List.take_of_length_le hk] at h3
set_option maxHeartbeats 1000000 in
theorem KLeast0_ok {κ : Ctx} {I : List Item} {va : Value} {wm : BitVec 64} {nd : Int} {es : List Pt} (hl : Sl κ I va (rowsB nd es)) (hG : GrOk nd es) (hW : ∀ x ∈ listB wm, x < nd) (h2 : 2 ≤ (listB wm).length) (hT : TabRd κ I 0 tzCells) :
    CallS Tryd.prog κ 95 [va, U64 (wm)] I (fun r J => ∃ a c side val, r = .agg #[.slice a side.length c, I64 val] ∧ LeastOf (inW wm es) nd (at_ (listB wm) 0) (List.drop 1 (listB wm)) side val ∧ J = vc 3 (.slice a side.length c) side :: I) := by
 have hlb := listB_len wm
 refine CallS.enter (L := [(0, va), (1, U64 (wm))]) Tryd.func95 rfl rfl rfl rfl ?_
 refine W.sr ?_
 refine G.e (Eff.alloc ty69 rfl) ?_
 rintro _ _ ⟨b1, rfl, rfl⟩
 refine G.nt ?_
 refine W.sr ?_
 refine G.r (Runs.move rfl) ?_
 refine G.e (Eff.call call69 rfl rfl (MList_ok wm (TabRd.fit hT Fit.m))) ?_
 rintro _ _ ⟨_, _, ⟨ad2, cp3, rfl, rfl⟩, rfl, rfl⟩
 refine G.r (Runs.assign rfl) ?_
 refine G.nt ?_
 refine W.sr ?_
 refine G.r (Runs.build (cells := [_, _]) ty69 Tryd.underlying69 pl69 rfl rfl) ?_
 refine G.e (Eff.alloc ty69 rfl) ?_
 rintro _ _ ⟨b4, rfl, rfl⟩
 refine G.e (Eff.st (cs := [_, _]) (vs := [_, _]) (cs' := [_, _]) ty69) ?_
 rintro _ _ ⟨rfl, rfl⟩
 refine G.nt ?_
 refine W.seq ?_
 refine W.sr ?_
 refine G.r (Runs.move rfl) ?_
 refine G.r (Runs.lo (α := Int) (xs := listB wm) (l := 1) Tryd.underlying22 ty3 rfl rfl (by omega) Sl.o (by omega)) ?_
 refine G.r (Runs.lens Tryd.underlying22 rfl) ?_
 refine G.r (Runs.move rfl) ?_
 refine G.nt ?_
 refine W.block ?_
 refine W.loop (σ := Nat × (Option Addr) × Nat × (List Int) × Int) (fun s => ([(0, va), (1, U64 (wm)), (4, .pointer (some ⟨b1, 0, none⟩)), (5, .slice ad2 (listB wm).length cp3), (6, .pointer (some ⟨b4, 0, none⟩)), (14, .slice (adrop ad2 cp3 1 (Enc.sz Int)) (List.drop 1 (listB wm)).length (cp3 - 1)), (15, I64 ((((List.drop 1 (listB wm)).length : Nat) : Int))), (16, I64 (((s.1 : Nat) : Int)))] : Env)) (fun s => vc 3 (.slice s.2.1 s.2.2.2.1.length s.2.2.1) (s.2.2.2.1) :: blk b4 [.slice s.2.1 s.2.2.2.1.length s.2.2.1, I64 (s.2.2.2.2)] 69 :: vc 3 (.slice ad2 (listB wm).length cp3) (listB wm) :: blk b1 [.slice none 0 0, I64 (0)] 69 :: I) (fun s => (s.1 ≤ (List.drop 1 (listB wm)).length) ∧ (LeastI (inW wm es) nd (at_ (listB wm) 0) (List.drop 1 (listB wm)) s.1 s.2.2.2.1 s.2.2.2.2)) (fun s => (List.drop 1 (listB wm)).length - s.1) (0, none, 0, [], -1) (show ((0 : Nat) ≤ (List.drop 1 (listB wm)).length) ∧ (LeastI (inW wm es) nd (at_ (listB wm) 0) (List.drop 1 (listB wm)) (0 : Nat) ([] : List Int) (-1 : Int)) from ⟨(by omega), (.inl ⟨rfl, rfl⟩)⟩) (Sub.cons rfl (Sub.cons rfl (Sub.cons rfl (Sub.cons rfl (Sub.cons rfl (Sub.cons rfl (Sub.cons rfl (Sub.cons lookO Sub.nil)))))))) (show Fit κ _ (vc 3 (.slice (none) ([]).length (0)) (([])) :: blk b4 [.slice (none) ([]).length (0), I64 ((-1))] 69 :: vc 3 (.slice ad2 (listB wm).length cp3) (listB wm) :: blk b1 [.slice none 0 0, I64 (0)] 69 :: I) from (Fit.trans (Fit.nilvc (α := Int) 3 _) Fit.s)) ?_
 rintro ⟨k, sa, sc, side, val⟩ hp
 obtain ⟨hk, hL⟩ : (k ≤ (List.drop 1 (listB wm)).length) ∧ (LeastI (inW wm es) nd (at_ (listB wm) 0) (List.drop 1 (listB wm)) k side val) := hp
 show W Tryd.prog κ 40 _ _ ([(0, va), (1, U64 (wm)), (4, .pointer (some ⟨b1, 0, none⟩)), (5, .slice ad2 (listB wm).length cp3), (6, .pointer (some ⟨b4, 0, none⟩)), (14, .slice (adrop ad2 cp3 1 (Enc.sz Int)) (List.drop 1 (listB wm)).length (cp3 - 1)), (15, I64 ((((List.drop 1 (listB wm)).length : Nat) : Int))), (16, I64 (((k : Nat) : Int)))] : Env) (vc 3 (.slice sa side.length sc) (side) :: blk b4 [.slice sa side.length sc, I64 (val)] 69 :: vc 3 (.slice ad2 (listB wm).length cp3) (listB wm) :: blk b1 [.slice none 0 0, I64 (0)] 69 :: I)
 have hdl : (List.drop 1 (listB wm)).length = (listB wm).length - 1 := List.length_drop
 have hke : k < (List.drop 1 (listB wm)).length → endsP nd (at_ (listB wm) 0) (at_ (List.drop 1 (listB wm)) ((k : Nat) : Int)) := fun h => by have h1 := first_lt (listB_asc wm) h; have h3 := hW _ h1.2.1; have h4 := hW _ h1.2.2; have h5 := (mem_listB.1 h1.2.1).1; have h6 := (mem_listB.1 h1.2.2).1; unfold endsP; omega
 refine W.sr ?_
 refine G.r (Runs.lss rfl rfl) ?_
 refine G.nt ?_
 refine W.seq ?_
 refine W.ite rfl (fun c17 => ?_) (fun c17 => ?_)
 ·refine W.skip ?_
  refine V.then ?_
  refine W.seq ?_
  refine W.block ?_
  refine W.sr ?_
  refine G.r (Runs.idx (α := Int) (xs := List.drop 1 (listB wm)) Tryd.underlying22 ty3 rfl rfl (Sl.drop Sl.o (by omega)) (by omega) (by omega)) ?_
  refine G.r (Runs.get (xs := List.drop 1 (listB wm)) ty3 rfl (Sl.drop Sl.o (by omega)) (by omega) (by omega)) ?_
  refine G.r (Runs.assign rfl) ?_
  refine G.nt ?_
  refine W.sr ?_
  refine G.r (Runs.move rfl) ?_
  refine G.r (Runs.move rfl) ?_
  refine G.r (Runs.move rfl) ?_
  refine G.r (Runs.idx (α := Int) (xs := listB wm) Tryd.underlying22 ty3 rfl rfl Sl.o (by omega) (by omega)) ?_
  refine G.r (Runs.get (xs := listB wm) ty3 rfl Sl.o (by omega) (by omega)) ?_
  refine G.r (Runs.move rfl) ?_
  refine G.e (Eff.call call88 rfl rfl (KCut_ok (wm := wm) (u := (at_ (listB wm) 0)) (v := (at_ (List.drop 1 (listB wm)) ((k : Nat) : Int))) (Sl.f hl) hG hW (hke (by omega)) (TabRd.fit hT Fit.m))) ?_
  rintro _ _ ⟨_, _, ⟨ad5, cp6, sd7, vl8, rfl, hsd7, rfl⟩, rfl, rfl⟩
  refine G.e (Eff.alloc ty69 rfl) ?_
  rintro _ _ ⟨b9, rfl, rfl⟩
  refine G.e (Eff.st (cs := [_, _]) (vs := [_, _]) (cs' := [_, _]) ty69) ?_
  rintro _ _ ⟨rfl, rfl⟩
  refine G.nt ?_
  refine W.sub (L' := [(9, _), (0, _), (1, _), (4, _), (5, _), (6, _), (14, _), (15, _), (16, _)]) (Sub.cons rfl (Sub.cons rfl (Sub.cons rfl (Sub.cons rfl (Sub.cons rfl (Sub.cons rfl (Sub.cons rfl (Sub.cons rfl (Sub.cons rfl Sub.nil))))))))) ?_
  refine W.sr ?_
  refine G.r (Runs.fieldAddr fld69_1 rfl) ?_
  refine G.r (Runs.ld ty3) ?_
  refine G.r (Runs.lss rfl rfl) ?_
  refine G.r (Runs.move rfl) ?_
  refine G.split (d := 30) rfl (fun g30 => ?_) (fun g30 => ?_)
  ·refine G.po ?_
   refine G.po ?_
   refine G.po ?_
   refine G.po ?_
   refine G.po ?_
   refine G.r (Runs.pickt rfl rfl) ?_
   refine G.nt ?_
   refine W.sub (L' := [(36, _), (9, _), (0, _), (1, _), (4, _), (5, _), (6, _), (14, _), (15, _), (16, _)]) (Sub.cons rfl (Sub.cons rfl (Sub.cons rfl (Sub.cons rfl (Sub.cons rfl (Sub.cons rfl (Sub.cons rfl (Sub.cons rfl (Sub.cons rfl (Sub.cons rfl Sub.nil)))))))))) ?_
   refine W.yes rfl ?_
   refine W.region ?_
   refine G.r (Runs.lds (vs := [_, _]) ty69) ?_
   refine G.e (Eff.st (cs := [_, _]) (vs := [_, _]) (cs' := [_, _]) ty69) ?_
   rintro _ _ ⟨rfl, rfl⟩
   refine G.nil ?_
   refine V.block_normal ?_
   refine V.then ?_
   refine W.region ?_
   refine G.r (Runs.add rfl rfl (by unfold InR; omega)) ?_
   refine G.r (Runs.move rfl) ?_
   refine G.nil ?_
   exact V.next ((k + 1), (ad5), (cp6), (sd7), (vl8)) (show ((k + 1 : Nat) ≤ (List.drop 1 (listB wm)).length) ∧ (LeastI (inW wm es) nd (at_ (listB wm) 0) (List.drop 1 (listB wm)) (k + 1 : Nat) (sd7 : List Int) (vl8 : Int)) from ⟨(by omega), (hL.put (by omega) hsd7 (by omega))⟩) (show (List.drop 1 (listB wm)).length - (k + 1 : Nat) < (List.drop 1 (listB wm)).length - k from (by omega)) (Sub.cons rfl (Sub.cons rfl (Sub.cons rfl (Sub.cons rfl (Sub.cons rfl (Sub.cons rfl (Sub.cons rfl (Sub.cons lookO Sub.nil)))))))) (show Fit κ _ (vc 3 (.slice (ad5) (sd7).length (cp6)) ((sd7)) :: blk b4 [.slice (ad5) (sd7).length (cp6), I64 ((vl8))] 69 :: vc 3 (.slice ad2 (listB wm).length cp3) (listB wm) :: blk b1 [.slice none 0 0, I64 (0)] 69 :: I) from (by first | exact Fit.s | exact Fit.sub))
  ·refine G.ro (Runs.fieldAddr fld69_1 rfl) ?_
   refine G.ro (Runs.ld ty3) ?_
   refine G.ro (Runs.fieldAddr fld69_1 rfl) ?_
   refine G.ro (Runs.ld ty3) ?_
   refine G.ro (Runs.lss rfl rfl) ?_
   refine G.r (Runs.pickf rfl rfl) ?_
   refine G.nt ?_
   refine W.sub (L' := [(36, _), (9, _), (0, _), (1, _), (4, _), (5, _), (6, _), (14, _), (15, _), (16, _)]) (Sub.cons rfl (Sub.cons rfl (Sub.cons rfl (Sub.cons rfl (Sub.cons rfl (Sub.cons rfl (Sub.cons rfl (Sub.cons rfl (Sub.cons rfl (Sub.cons rfl Sub.nil)))))))))) ?_
   refine W.ite rfl (fun c36 => ?_) (fun c36 => ?_)
   ·refine W.region ?_
    refine G.r (Runs.lds (vs := [_, _]) ty69) ?_
    refine G.e (Eff.st (cs := [_, _]) (vs := [_, _]) (cs' := [_, _]) ty69) ?_
    rintro _ _ ⟨rfl, rfl⟩
    refine G.nil ?_
    refine V.block_normal ?_
    refine V.then ?_
    refine W.region ?_
    refine G.r (Runs.add rfl rfl (by unfold InR; omega)) ?_
    refine G.r (Runs.move rfl) ?_
    refine G.nil ?_
    exact V.next ((k + 1), (ad5), (cp6), (sd7), (vl8)) (show ((k + 1 : Nat) ≤ (List.drop 1 (listB wm)).length) ∧ (LeastI (inW wm es) nd (at_ (listB wm) 0) (List.drop 1 (listB wm)) (k + 1 : Nat) (sd7 : List Int) (vl8 : Int)) from ⟨(by omega), (hL.put (by omega) hsd7 (by omega))⟩) (show (List.drop 1 (listB wm)).length - (k + 1 : Nat) < (List.drop 1 (listB wm)).length - k from (by omega)) (Sub.cons rfl (Sub.cons rfl (Sub.cons rfl (Sub.cons rfl (Sub.cons rfl (Sub.cons rfl (Sub.cons rfl (Sub.cons lookO Sub.nil)))))))) (show Fit κ _ (vc 3 (.slice (ad5) (sd7).length (cp6)) ((sd7)) :: blk b4 [.slice (ad5) (sd7).length (cp6), I64 ((vl8))] 69 :: vc 3 (.slice ad2 (listB wm).length cp3) (listB wm) :: blk b1 [.slice none 0 0, I64 (0)] 69 :: I) from (by first | exact Fit.s | exact Fit.sub))
   ·refine W.skip ?_
    refine V.block_normal ?_
    refine V.then ?_
    refine W.region ?_
    refine G.r (Runs.add rfl rfl (by unfold InR; omega)) ?_
    refine G.r (Runs.move rfl) ?_
    refine G.nil ?_
    exact V.next ((k + 1), (sa), (sc), (side), (val)) (show ((k + 1 : Nat) ≤ (List.drop 1 (listB wm)).length) ∧ (LeastI (inW wm es) nd (at_ (listB wm) 0) (List.drop 1 (listB wm)) (k + 1 : Nat) (side : List Int) (val : Int)) from ⟨(by omega), (hL.skip (by omega) hsd7 (by omega))⟩) (show (List.drop 1 (listB wm)).length - (k + 1 : Nat) < (List.drop 1 (listB wm)).length - k from (by omega)) (Sub.cons rfl (Sub.cons rfl (Sub.cons rfl (Sub.cons rfl (Sub.cons rfl (Sub.cons rfl (Sub.cons rfl (Sub.cons lookO Sub.nil)))))))) (show Fit κ _ (vc 3 (.slice (sa) (side).length (sc)) ((side)) :: blk b4 [.slice (sa) (side).length (sc), I64 ((val))] 69 :: vc 3 (.slice ad2 (listB wm).length cp3) (listB wm) :: blk b1 [.slice none 0 0, I64 (0)] 69 :: I) from (by first | exact Fit.s | exact Fit.sub))
 ·refine W.exit ?_
  refine V.then_exit ?_
  refine V.then_exit ?_
  refine V.block_hit ?_
  refine V.then ?_
  refine W.sr ?_
  refine G.r (Runs.lds (vs := [_, _]) ty69) ?_
  refine G.e (Eff.st (cs := [_, _]) (vs := [_, _]) (cs' := [_, _]) ty69) ?_
  rintro _ _ ⟨rfl, rfl⟩
  refine G.nt ?_
  refine W.ret ?_
  exact V.retc rfl ty69 rfl (by repeat (first | exact List.mem_cons_self | apply List.mem_cons_of_mem)) rfl (vc 3 (.slice sa side.length sc) side :: I) (by first | exact Fit.s | exact Fit.sub) ⟨sa, sc, side, val, rfl, hL.ends (by omega) (by omega), rfl⟩

theorem Asked_ok {κ : Ctx} {I : List Item} {nd : Int} {va : Value} {es : List Pt} (hl : Sl κ I va es) (k : Int) :
    CallS Tryd.prog κ 96 [.agg #[I64 (nd), va], I64 (k)] I (fun r J => r = I64 (askE nd es k) ∧ I = J) := by
 refine CallS.enter (L := [(0, .agg #[I64 (nd), va]), (1, I64 (k))]) Tryd.func96 rfl rfl rfl rfl ?_
 refine W.sr ?_
 refine G.e (Eff.box (cs := [_, _]) rfl rfl rfl) ?_
 rintro _ _ ⟨b1, rfl, rfl⟩
 refine G.r (Runs.assign rfl) ?_
 refine G.nt ?_
 refine W.seq ?_
 refine W.sr ?_
 refine G.r (Runs.lds (vs := [_, _]) ty25) ?_
 refine G.e (Eff.call call66 rfl rfl (CheckGen_ok (Sl.f hl))) ?_
 rintro _ _ ⟨_, _, ⟨rfl, rfl⟩, rfl, rfl⟩
 refine G.r (Runs.assign rfl) ?_
 refine G.nt ?_
 refine W.sr ?_
 refine G.r (Runs.move rfl) ?_
 refine G.r (Runs.neq rfl rfl) ?_
 refine G.nt ?_
 refine W.ite rfl (fun c9 => ?_) (fun c9 => ?_)
 ·refine W.sr ?_
  refine G.r (Runs.move rfl) ?_
  refine G.r (Runs.assign rfl) ?_
  refine G.nt ?_
  refine W.ret ?_
  refine V.then_ret ?_
  exact V.ret1 rfl rfl (I) Fit.m ⟨by unfold askE; rw [if_pos c9], rfl⟩
 ·refine W.skip ?_
  refine V.then ?_
  refine W.seq ?_
  refine W.sr ?_
  refine G.r (Runs.move rfl) ?_
  refine G.r (Runs.lss rfl rfl) ?_
  refine G.nt ?_
  refine W.ite rfl (fun c12 => ?_) (fun c12 => ?_)
  ·refine W.sr ?_
   refine G.r (Runs.assign rfl) ?_
   refine G.nt ?_
   refine W.ret ?_
   refine V.then_ret ?_
   exact V.ret1 rfl rfl (I) Fit.m ⟨by unfold askE; rw [if_neg c9, if_pos (by omega)], rfl⟩
  ·refine W.skip ?_
   refine V.then ?_
   refine W.sr ?_
   refine G.r (Runs.assign rfl) ?_
   refine G.nt ?_
   refine W.ret ?_
   exact V.ret1 rfl rfl (I) Fit.m ⟨by unfold askE; rw [if_neg c9, if_neg (by omega)], rfl⟩

theorem Wrong17_ok {κ : Ctx} {I : List Item} {nd : Int} {va : Value} {es : List Pt} (hl : Sl κ I va es) (k : Int) :
    CallS Tryd.prog κ 97 [.agg #[I64 (nd), va], I64 (k)] I (fun r J => r = I64 (askE nd es k) ∧ I = J) := by
 refine CallS.enter (L := [(0, .agg #[I64 (nd), va]), (1, I64 (k))]) Tryd.func97 rfl rfl rfl rfl ?_
 refine W.sr ?_
 refine G.e (Eff.box (cs := [_, _]) rfl rfl rfl) ?_
 rintro _ _ ⟨b1, rfl, rfl⟩
 refine G.r (Runs.assign rfl) ?_
 refine G.nt ?_
 refine W.seq ?_
 refine W.sr ?_
 refine G.r (Runs.lds (vs := [_, _]) ty25) ?_
 refine G.e (Eff.call call70 rfl rfl (Check03G_ok (nd := nd) (Sl.f hl))) ?_
 rintro _ _ ⟨_, _, ⟨rfl, rfl⟩, rfl, rfl⟩
 refine G.r (Runs.assign rfl) ?_
 refine G.nt ?_
 refine W.sr ?_
 refine G.r (Runs.move rfl) ?_
 refine G.r (Runs.neq rfl rfl) ?_
 refine G.nt ?_
 refine W.ite rfl (fun c9 => ?_) (fun c9 => ?_)
 ·refine W.sr ?_
  refine G.r (Runs.move rfl) ?_
  refine G.r (Runs.assign rfl) ?_
  refine G.nt ?_
  refine W.ret ?_
  refine V.then_ret ?_
  exact V.ret1 rfl rfl (I) Fit.m ⟨by unfold askE; rw [if_pos c9], rfl⟩
 ·refine W.skip ?_
  refine V.then ?_
  refine W.seq ?_
  refine W.sr ?_
  refine G.r (Runs.move rfl) ?_
  refine G.r (Runs.lss rfl rfl) ?_
  refine G.nt ?_
  refine W.ite rfl (fun c12 => ?_) (fun c12 => ?_)
  ·refine W.sr ?_
   refine G.r (Runs.assign rfl) ?_
   refine G.nt ?_
   refine W.ret ?_
   refine V.then_ret ?_
   exact V.ret1 rfl rfl (I) Fit.m ⟨by unfold askE; rw [if_neg c9, if_pos (by omega)], rfl⟩
  ·refine W.skip ?_
   refine V.then ?_
   refine W.sr ?_
   refine G.r (Runs.assign rfl) ?_
   refine G.nt ?_
   refine W.ret ?_
   exact V.ret1 rfl rfl (I) Fit.m ⟨by unfold askE; rw [if_neg c9, if_neg (by omega)], rfl⟩

end Go.Sl
namespace Go.Sl
open Go.Proofs
set_option linter.unusedVariables false
set_option linter.unusedSimpArgs false
set_option maxRecDepth 4000
def inS (X : List Int) (es : List Pt) : List Pt := es.filter fun e => decide (e.u ∈ X ∧ e.v ∈ X)
theorem mem_inS {X : List Int} {es : List Pt} {e : Pt} : e ∈ inS X es ↔ e ∈ es ∧ e.u ∈ X ∧ e.v ∈ X := by unfold inS; rw [List.mem_filter, decide_eq_true_eq]
theorem inS_sub {X Y : List Int} {es : List Pt} (h : ∀ x ∈ X, x ∈ Y) : (inS X es).Sublist (inS Y es) := by
  have e : inS X es = (inS Y es).filter fun e => decide (e.u ∈ X ∧ e.v ∈ X) := by
    unfold inS
    rw [List.filter_filter]
    refine List.filter_congr fun e _ => ?_
    by_cases h1 : e.u ∈ X ∧ e.v ∈ X
    · simp [h1, h _ h1.1, h _ h1.2]
    · simp [h1]
  rw [e]; exact List.filter_sublist
theorem lvE_mono {E F : List Pt} (h : E.Sublist F) (S : Int → Bool) : lvE E S ≤ lvE F S := by unfold lvE; have := (h.filter (cross S)).length_le; omega
/-- Nodes that fewer than k edges do not separate among themselves. -/
def KC (k : Int) (es : List Pt) (X : List Int) : Prop := ∀ x ∈ X, ∀ y ∈ X, KE k (inS X es) x y
/-- The greatest such sets within W. -/
structure DivP (nd k : Int) (es : List Pt) (W : List Int) (Q : List (List Int)) : Prop where
  valid : ∀ p ∈ Q, ValidP p nd ∧ 2 ≤ p.length ∧ KC k es p ∧ ∀ x ∈ p, x ∈ W
  cover : ∀ X, 2 ≤ X.length → X.Nodup → KC k es X → (∀ x ∈ X, x ∈ W) → ∃ p ∈ Q, ∀ x ∈ X, x ∈ p
  disj : Q.Pairwise fun a b => ∀ x ∈ a, x ∉ b
theorem DivP.small {nd k : Int} {es : List Pt} {W : List Int} (h : W.length < 2) : DivP nd k es W [] :=
  ⟨fun p hp => (by cases hp), fun X h2 hn _ hX => by have := List.Nodup.length_le_of_subset hn hX; omega, .nil⟩
theorem DivP.whole {nd k val : Int} {es : List Pt} {W side : List Int} {x0 : Int} {ys : List Int} (hv : ValidP W nd) (h2 : 2 ≤ W.length) (hW : ∀ x ∈ W, x = x0 ∨ x ∈ ys) (h : LeastOf (inS W es) nd x0 ys side val) (hk : k ≤ val) : DivP nd k es W [W] := by
  obtain ⟨y, hy, h1, h3⟩ := h
  have hx0 : ∀ x ∈ W, KE k (inS W es) x0 x := fun x hx => by
    rcases hW x hx with rfl | h4
    · exact KE.refl _ _ _
    · exact (h3 x h4).less hk
  refine ⟨fun p hp => ?_, fun X _ _ _ hX => ⟨W, by simp, hX⟩, by simp⟩
  rw [List.mem_singleton] at hp; subst hp
  exact ⟨hv, h2, fun x hx y hy => (hx0 x hx).symm.trans (hx0 y hy), fun x hx => hx⟩
/-- Nothing of the least side lies outside. -/
theorem MinSide.within {es : List Pt} {nd s t val : Int} {W side : List Int} (h : MinSide (inS W es) nd s t side val) (hs : s ∈ W) : ∀ z ∈ side, z ∈ W := fun z hz => by
  have h1 := h.least (fun z => inL side z && decide (z ∈ W)) (by simp [show inL side s = true from decide_eq_true h.src, hs]) (by simp [show inL side t = false from decide_eq_false h.snk]) (by
    rw [← h.eq]
    refine lvE_congr fun e he => ?_
    obtain ⟨_, h2, h3⟩ := mem_inS.1 he
    simp [h2, h3]) z hz
  simp at h1; exact h1.2
theorem DivP.join {nd k val : Int} {es : List Pt} {W side rest : List Int} {Q Q' : List (List Int)} (hs : ∀ z ∈ side, z ∈ W) (hr : ∀ z, z ∈ rest ↔ z ∈ W ∧ z ∉ side) (hc : lvE (inS W es) (inL side) = val) (hk : val < k) (h : DivP nd k es side Q) (h' : DivP nd k es rest Q') : DivP nd k es W (Q ++ Q') := by
  refine ⟨fun p hp => ?_, fun X h2 hn hX hXW => ?_, ?_⟩
  · rcases List.mem_append.1 hp with hp | hp
    · obtain ⟨a, b, c, d⟩ := h.valid p hp
      exact ⟨a, b, c, fun x hx => hs x (d x hx)⟩
    · obtain ⟨a, b, c, d⟩ := h'.valid p hp
      exact ⟨a, b, c, fun x hx => ((hr x).1 (d x hx)).1⟩
  · by_cases hin : ∃ x ∈ X, x ∈ side
    · obtain ⟨x, hx, hxs⟩ := hin
      have hall : ∀ y ∈ X, y ∈ side := fun y hy => Classical.byContradiction fun hys => by
        have h3 := hX x hx y hy (inL side) (decide_eq_true hxs) (decide_eq_false hys)
        have h4 := lvE_mono (inS_sub (es := es) hXW) (inL side)
        omega
      obtain ⟨p, hp, h5⟩ := h.cover X h2 hn hX hall
      exact ⟨p, List.mem_append_left _ hp, h5⟩
    · obtain ⟨p, hp, h5⟩ := h'.cover X h2 hn hX fun x hx => (hr x).2 ⟨hXW x hx, fun hxs => hin ⟨x, hx, hxs⟩⟩
      exact ⟨p, List.mem_append_right _ hp, h5⟩
  · rw [List.pairwise_append]
    refine ⟨h.disj, h'.disj, fun a ha b hb x hxa hxb => ?_⟩
    exact ((hr x).1 ((h'.valid b hb).2.2.2 x hxb)).2 ((h.valid a ha).2.2.2 x hxa)
theorem DivP.perm {nd k : Int} {es : List Pt} {W : List Int} {Q Q' : List (List Int)} (h : DivP nd k es W Q) (hp : Q'.Perm Q) : DivP nd k es W Q' :=
  ⟨fun p hq => h.valid p (hp.mem_iff.1 hq), fun X a b c d => by obtain ⟨p, h1, h2⟩ := h.cover X a b c d; exact ⟨p, hp.mem_iff.2 h1, h2⟩, hp.symm.pairwise h.disj fun {a b} hab x hx hxa => hab x hxa hx⟩
theorem valid_nodup {l : List Int} {nd : Int} (h : ValidP l nd) : l.Nodup := (ValidP_iff.1 h).2.imp fun h => by omega
theorem head_mem {l : List Int} (h : 0 < l.length) : at_ l 0 ∈ l := at_mem (Int.le_refl _) (by omega)
/-- The parts in their order are one list. -/
theorem DivP.uniq {nd k : Int} {es : List Pt} {W : List Int} : ∀ {Q Q' : List (List Int)}, DivP nd k es W Q → DivP nd k es W Q' → (Q.Pairwise fun a b => at_ a 0 < at_ b 0) → (Q'.Pairwise fun a b => at_ a 0 < at_ b 0) → Q = Q' := by
  have half : ∀ {Q Q' : List (List Int)}, DivP nd k es W Q → DivP nd k es W Q' → ∀ p ∈ Q, p ∈ Q' := fun {Q Q'} h h' p hp => by
    obtain ⟨a, b, c, d⟩ := h.valid p hp
    obtain ⟨q, hq, hpq⟩ := h'.cover p b (valid_nodup a) c d
    obtain ⟨a', b', c', d'⟩ := h'.valid q hq
    obtain ⟨p', hp', hqp⟩ := h.cover q b' (valid_nodup a') c' d'
    have hpp : p = p' := Classical.byContradiction fun hne => by
      have hm := head_mem (l := p) (by omega)
      have hdis := h.disj
      obtain ⟨A, B, hAB⟩ := List.append_of_mem hp
      rw [hAB] at hp' hdis
      rw [List.pairwise_append] at hdis
      have hm' := hqp _ (hpq _ hm)
      rcases List.mem_append.1 hp' with h1 | h1
      · exact hdis.2.2 p' h1 p List.mem_cons_self _ hm' hm
      · rcases List.mem_cons.1 h1 with h1 | h1
        · exact hne h1.symm
        · exact (List.pairwise_cons.1 hdis.2.1).1 p' h1 _ hm hm'
    have : p = q := by
      refine LinO.uniq (lt := fun a b : Int => a < b) intLin (ValidP_iff.1 a).2 (ValidP_iff.1 a').2 fun x => ⟨hpq x, fun hx => by rw [hpp]; exact hqp x hx⟩
    rw [this]; exact hq
  have sorted : ∀ {l m : List (List Int)}, (l.Pairwise fun a b => at_ a 0 < at_ b 0) → (m.Pairwise fun a b => at_ a 0 < at_ b 0) → (∀ b, b ∈ l ↔ b ∈ m) → l = m := fun {l} => by
    induction l with
    | nil =>
      intro m _ _ h
      cases m with
      | nil => rfl
      | cons b m => exact absurd ((h b).2 List.mem_cons_self) List.not_mem_nil
    | cons a l ih =>
      intro m hl hm h
      cases m with
      | nil => exact absurd ((h a).1 List.mem_cons_self) List.not_mem_nil
      | cons b m =>
        obtain ⟨hl1, hl2⟩ := List.pairwise_cons.1 hl
        obtain ⟨hm1, hm2⟩ := List.pairwise_cons.1 hm
        have e : a = b := by
          rcases List.mem_cons.1 ((h a).1 List.mem_cons_self) with h1 | h1
          · exact h1
          · rcases List.mem_cons.1 ((h b).2 List.mem_cons_self) with h2 | h2
            · exact h2.symm
            · have := hm1 a h1; have := hl1 b h2; omega
        subst e
        refine congrArg (a :: ·) (ih hl2 hm2 fun c => ?_)
        constructor
        · intro hc
          rcases List.mem_cons.1 ((h c).1 (List.mem_cons_of_mem _ hc)) with h1 | h1
          · rw [h1] at hc; have := hl1 a hc; omega
          · exact h1
        · intro hc
          rcases List.mem_cons.1 ((h c).2 (List.mem_cons_of_mem _ hc)) with h1 | h1
          · rw [h1] at hc; have := hm1 a hc; omega
          · exact h1
  exact fun {Q Q'} h h' hs hs' => sorted hs hs' fun b => ⟨half h h' b, half h' h b⟩
theorem cmpL_tr : ∀ {x y z : List Int}, cmpL x y ≤ 0 → cmpL y z ≤ 0 → cmpL x z ≤ 0 ∧ ((cmpL x y < 0 ∨ cmpL y z < 0) → cmpL x z < 0)
  | [], [], [], _, _ => by simp [cmpL]
  | [], [], _ :: _, _, _ => by simp [cmpL]
  | [], _ :: _, [], _, h => by simp [cmpL] at h
  | [], _ :: _, _ :: _, _, _ => by simp [cmpL]
  | _ :: _, [], _, h, _ => by simp [cmpL] at h
  | _ :: _, _ :: _, [], _, h => by simp [cmpL] at h
  | a :: x, b :: y, c :: z, h1, h2 => by
    unfold cmpL at h1 h2 ⊢
    by_cases h3 : b < a
    · rw [if_pos h3] at h1; omega
    · by_cases h4 : c < b
      · rw [if_pos h4] at h2; omega
      · rw [if_neg h3] at h1 ⊢
        rw [if_neg h4] at h2 ⊢
        by_cases h5 : a < b <;> by_cases h6 : b < c
        · rw [if_neg (show ¬ c < a by omega), if_pos (show a < c by omega)]; omega
        · rw [if_neg (show ¬ c < a by omega), if_pos (show a < c by omega)]; omega
        · rw [if_neg (show ¬ c < a by omega), if_pos (show a < c by omega)]; omega
        · rw [if_neg h5] at h1 ⊢
          rw [if_neg h6] at h2 ⊢
          rw [if_neg (show ¬ c < a by omega), if_neg (show ¬ a < c by omega)]
          exact cmpL_tr h1 h2
theorem cmpL_neg : ∀ x y : List Int, cmpL y x = -cmpL x y
  | [], [] => by simp [cmpL]
  | [], _ :: _ => by simp [cmpL]
  | _ :: _, [] => by simp [cmpL]
  | a :: x, b :: y => by
    unfold cmpL
    by_cases h1 : a < b
    · rw [if_pos h1, if_neg (show ¬ b < a by omega), if_pos h1]; rfl
    · by_cases h2 : b < a
      · rw [if_neg h1, if_pos h2, if_pos h2]
      · rw [if_neg h1, if_neg h2, if_neg h2, if_neg h1]; exact cmpL_neg x y
open Go.Shelf Go.Sort in
theorem swo_cmpL : SWO (ltOf cmpL) where
  irrefl x := decide_eq_false (by rw [cmpL_self]; decide)
  trans x y z h1 h2 := decide_eq_true ((cmpL_tr (Int.le_of_lt (of_decide_eq_true h1)) (Int.le_of_lt (of_decide_eq_true h2))).2 (.inl (of_decide_eq_true h1)))
  ntrans x y z h1 h2 := decide_eq_false fun h => by
    have a := of_decide_eq_false h1
    have b := of_decide_eq_false h2
    have a' := cmpL_neg x y
    have b' := cmpL_neg y z
    have c' := cmpL_neg x z
    have := (cmpL_tr (x := z) (y := y) (z := x) (by omega) (by omega)).1
    omega
/-- Sorted by comparing, of sets that have nothing in common: sorted by their first nodes. -/
theorem sorted_heads {P : List (List Int)} (h0 : ∀ p ∈ P, 0 < p.length) (hd : P.Pairwise fun a b => ∀ x ∈ a, x ∉ b) (hs : P.Pairwise fun a b => ¬ cmpL b a < 0) : P.Pairwise fun a b => at_ a 0 < at_ b 0 := by
  refine (hs.and hd).imp_of_mem fun {a b} ha hb hh => ?_
  have h1 := h0 a ha
  have h2 := h0 b hb
  cases a with
  | nil => simp at h1
  | cons x a =>
    cases b with
    | nil => simp at h2
    | cons y b =>
      show x < y
      have hne : x ≠ y := fun e => hh.2 x List.mem_cons_self (by rw [e]; exact List.mem_cons_self)
      have h3 := hh.1
      unfold cmpL at h3
      by_cases h4 : x < y
      · exact h4
      · rw [if_neg h4, if_pos (by omega)] at h3; omega

end Go.Sl
