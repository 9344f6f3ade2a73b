/- A part of the proofs of statements of this seat: contracts of functions, and the plain laws that they lean on. No conditions. -/
import Derived.Test.YtbimaodbcjjbfaaDoorKed7
namespace Go.Sl
open Go.Proofs
set_option linter.unusedVariables false
set_option linter.unusedSimpArgs false
set_option maxRecDepth 4000
open Classical in
/-- Whether fewer than k edges do not separate two nodes. -/
noncomputable def keB (k : Int) (E : List Pt) (x y : Int) : Bool := decide (KE k E x y)
theorem keB_iff {k : Int} {E : List Pt} {x y : Int} : keB k E x y = true ↔ KE k E x y := by unfold keB; exact @decide_eq_true_iff _ (Classical.propDecidable _)
/-- The classes of what is left, by their first nodes. -/
def clsL (R : Int → Int → Bool) : Nat → List Int → List (List Int)
  | 0, _ => []
  | n + 1, l => if l.length = 0 then [] else (l.filter fun y => R (at_ l 0) y) :: clsL R n (l.filter fun y => !R (at_ l 0) y)
theorem clsL_nil (R : Int → Int → Bool) : ∀ n, clsL R n [] = []
  | 0 => rfl
  | n + 1 => by unfold clsL; exact if_pos rfl
theorem clsL_step (R : Int → Int → Bool) {n : Nat} {l : List Int} (h : 0 < l.length) : clsL R (n + 1) l = (l.filter fun y => R (at_ l 0) y) :: clsL R n (l.filter fun y => !R (at_ l 0) y) := by
  conv => lhs; unfold clsL
  rw [if_neg (by omega)]
noncomputable def classesG (nd : Int) (es : List Pt) (k : Int) : List (List Int) := if askE nd es k ≠ 0 then [] else clsL (keB k es) 64 (rangeI nd)
theorem groups_cls {rows : List (BitVec 64)} {w : BitVec 64} (hs : SymR rows) {R : Int → Int → Bool} (hR : ∀ x y : Nat, w.getLsbD x = true → w.getLsbD y = true → (Conn rows w x y ↔ R (x : Int) (y : Int) = true)) :
    ∀ (n : Nat) (left : BitVec 64), Whole rows w left → (groupsL rows w n left).map listB = clsL R n (listB left)
  | 0, left, _ => rfl
  | n + 1, left, h => by
    by_cases hz : left = 0#64
    · subst hz; rw [groupsL_zero, listB_zero, clsL_nil]; rfl
    · obtain ⟨k, hk, htz, hkb, hlt, he, hr⟩ := left_first (rows := rows) hz h.1
      have h0 : at_ (listB left) 0 = (k : Int) := by rw [listB_step hz, htz]; rfl
      have hl : 0 < (listB left).length := by rw [listB_step hz]; simp
      rw [groupsL_succ hz, he, List.map_cons, groups_cls hs hR n _ (h.rest hs k), clsL_step R hl, h0]
      have key : ∀ j : Nat, left.getLsbD j = true → ((reachB rows (oneB k) w).getLsbD j = true ↔ R (k : Int) (j : Int) = true) := fun j hj => by
        rw [← hR k j (h.1 k hkb) (h.1 j hj)]
        exact ⟨fun hh => ⟨hk, hh⟩, fun hh => hh.2⟩
      have e1 : listB (reachB rows (oneB k) w) = (listB left).filter fun y => R (k : Int) y := by
        refine intLin.uniq (listB_asc _) ((listB_asc left).sublist List.filter_sublist) fun x => ?_
        rw [List.mem_filter, mem_listB, mem_listB]
        constructor
        · rintro ⟨h1, h2⟩
          have h3 := groups_sub h hkb _ h2
          have h4 := (key _ h3).1 h2
          rw [show ((x.toNat : Nat) : Int) = x by omega] at h4
          exact ⟨⟨h1, h3⟩, h4⟩
        · rintro ⟨⟨h1, h3⟩, h4⟩
          refine ⟨h1, (key _ h3).2 ?_⟩
          rw [show ((x.toNat : Nat) : Int) = x by omega]; exact h4
      have e2 : listB (left &&& ~~~(reachB rows (oneB k) w)) = (listB left).filter fun y => !R (k : Int) y := by
        refine intLin.uniq (listB_asc _) ((listB_asc left).sublist List.filter_sublist) fun x => ?_
        rw [List.mem_filter, mem_listB, mem_listB, getLsb_minus]
        constructor
        · rintro ⟨h1, h3, h2⟩
          refine ⟨⟨h1, h3⟩, ?_⟩
          have h4 := key _ h3
          rw [show ((x.toNat : Nat) : Int) = x by omega] at h4
          cases hq : R (k : Int) x
          · rfl
          · rw [h4.2 hq] at h2; cases h2
        · rintro ⟨⟨h1, h3⟩, h4⟩
          refine ⟨h1, h3, ?_⟩
          have h5 := key _ h3
          rw [show ((x.toNat : Nat) : Int) = x by omega] at h5
          cases hq : (reachB rows (oneB k) w).getLsbD x.toNat
          · rfl
          · rw [h5.1 hq] at h4; cases h4
      rw [e1, e2]
def EdL (nd : Int) (L : List Pt) : Prop := ∀ e ∈ L, 0 ≤ e.u ∧ e.u < e.v ∧ e.v < nd
theorem rowsL_ok {nd : Int} {L : List Pt} (hn : 0 ≤ nd ∧ nd ≤ 64) (h : EdL nd L) : RowsOk nd L (rowsB nd L) := by
  have key : ∀ k : Nat, k ≤ L.length → RowsOk nd (L.take k) (rowsB nd (L.take k)) := fun k => by
    induction k with
    | zero =>
      intro _
      refine ⟨by rw [rowsB_len]; omega, fun v w v0 v1 w0 w1 => ?_⟩
      have e : rowsB nd (L.take 0) = rows0 nd := rfl
      rw [e, show rows0 nd = List.replicate (min (max nd 0) 64).toNat (0#64) from rfl, at_rep64]
      simp
    | succ k ih =>
      intro hk
      have := (ih (by omega)).push (h _ (at_mem (xs := L) (i := (k : Int)) (by omega) (by omega))) hn.2
      rw [rowsB_take (by omega), take_at L k (by omega)]; exact this
  have := key L.length (Nat.le_refl _)
  rwa [List.take_length] at this
theorem rowsL_bit {nd : Int} {L : List Pt} (hn : 0 ≤ nd ∧ nd ≤ 64) (h : EdL nd L) (i j : Nat) : (at_ (rowsB nd L) (i : Int)).getLsbD j = true ↔ ((⟨i, j⟩ : Pt) ∈ L ∨ (⟨j, i⟩ : Pt) ∈ L) := by
  have hR := rowsL_ok hn h
  have hl := hR.len
  constructor
  · intro hb
    have hj : j < 64 := Classical.byContradiction fun hn => by rw [BitVec.getLsbD_of_ge _ _ (by omega)] at hb; cases hb
    have hi : (i : Int) < nd := Classical.byContradiction fun hn => by
      rw [at_nat, List.getD_eq_getElem?_getD, List.getElem?_eq_none (by omega)] at hb
      exact absurd hb (by show ¬ (0#64).getLsbD j = true; simp)
    have e1 := hR.bit (i : Int) (j : Int) (by omega) hi (by omega) (by omega)
    rw [Int.toNat_natCast, hb] at e1
    exact of_decide_eq_true e1.symm
  · intro hm
    have hij : (i : Int) < nd ∧ (j : Int) < nd := by
      rcases hm with hm | hm
      · have := h _ hm; simp only at this; omega
      · have := h _ hm; simp only at this; omega
    have e1 := hR.bit (i : Int) (j : Int) (by omega) hij.1 (by omega) (by omega)
    rw [Int.toNat_natCast] at e1
    rw [e1]; exact decide_eq_true hm
theorem rowsL_sym {nd : Int} {L : List Pt} (hn : 0 ≤ nd ∧ nd ≤ 64) (h : EdL nd L) : SymR (rowsB nd L) := fun i j => by
  rw [Bool.eq_iff_iff, rowsL_bit hn h, rowsL_bit hn h]; exact or_comm
theorem EdL.push {nd : Int} {L : List Pt} (h : EdL nd L) {e : Pt} (he : 0 ≤ e.u ∧ e.u < e.v ∧ e.v < nd) : EdL nd (L ++ [e]) := fun x hx => by
  rcases List.mem_append.1 hx with hx | hx
  · exact h x hx
  · rw [List.mem_singleton] at hx; rw [hx]; exact he
theorem rowsL_more {nd : Int} {L : List Pt} (hn : 0 ≤ nd ∧ nd ≤ 64) (h : EdL nd L) {u v : Nat} (he : u < v ∧ (v : Int) < nd) : EdgeMore (rowsB nd L) (rowsB nd (L ++ [⟨(u : Int), (v : Int)⟩])) u v := ⟨fun i j => by
  rw [rowsL_bit hn h, rowsL_bit hn (h.push (by simp only; omega)), List.mem_append, List.mem_append, List.mem_singleton, List.mem_singleton, Pt.mk.injEq, Pt.mk.injEq]
  constructor
  · rintro ((h1 | h1) | (h1 | h1))
    · exact .inl (.inl h1)
    · exact .inr (.inl (by omega))
    · exact .inl (.inr h1)
    · exact .inr (.inr (by omega))
  · rintro ((h1 | h1) | (h1 | h1))
    · exact .inl (.inl h1)
    · exact .inr (.inl h1)
    · exact .inl (.inr (by omega))
    · exact .inr (.inr (by omega))⟩
/-- Joined by the edges of a list. -/
def JL (nd : Int) (L : List Pt) (x y : Int) : Prop := (0 ≤ x ∧ 0 ≤ y) ∧ Conn (rowsB nd L) (allB nd) x.toNat y.toNat
theorem bit_all {nd : Int} (hn : 0 ≤ nd ∧ nd ≤ 64) {x : Nat} : (allB nd).getLsbD x = true ↔ (x : Int) < nd := by
  by_cases h : x < 64
  · rw [getLsb_allB hn.1 hn.2 h, decide_eq_true_eq]
  · rw [BitVec.getLsbD_of_ge _ _ (by omega)]
    exact ⟨fun h => (by cases h), fun h => by omega⟩
theorem JL.eqv {nd : Int} {L : List Pt} (hn : 0 ≤ nd ∧ nd ≤ 64) (h : EdL nd L) {n : Nat} (hnn : (n : Int) = nd) : EqvJ n (JL nd L) :=
  ⟨fun x hx => ⟨by omega, by rw [Int.toNat_natCast]; exact Conn.refl ((bit_all hn).2 (by omega))⟩, fun x y h1 => ⟨⟨h1.1.2, h1.1.1⟩, h1.2.symm (rowsL_sym hn h)⟩, fun x y z h1 h2 => ⟨⟨h1.1.1, h2.1.2⟩, h1.2.trans h2.2⟩⟩
theorem JL.none {nd : Int} (hn : 0 ≤ nd ∧ nd ≤ 64) {x y : Int} (h : JL nd [] x y) : x = y := by
  have hE : EdL nd [] := fun e he => by cases he
  have := Conn.ind (fun j => j = x.toNat) rfl (fun a b h1 _ hr _ => by
    have := (rowsL_bit hn hE a b).1 hr
    rcases this with h | h <;> cases h) h.2
  have h1 := h.1
  omega
theorem JL.more {nd : Int} {L : List Pt} (hn : 0 ≤ nd ∧ nd ≤ 64) (h : EdL nd L) {p v : Int} (h0 : 0 ≤ p) (hpv : p < v) (hv : v < nd) (x y : Int) : JL nd (L ++ [⟨p, v⟩]) x y ↔ (JL nd L x y ∨ (JL nd L x p ∧ JL nd L v y) ∨ (JL nd L x v ∧ JL nd L p y)) := by
  have hm := rowsL_more hn h (u := p.toNat) (v := v.toNat) (by omega)
  rw [show ((p.toNat : Nat) : Int) = p by omega, show ((v.toNat : Nat) : Int) = v by omega] at hm
  have hc := fun i j => hm.conn (rowsL_sym hn h) (w := allB nd) ((bit_all hn).2 (by omega)) ((bit_all hn).2 (by omega)) (i := i) (j := j)
  unfold JL
  rw [hc]
  constructor
  · rintro ⟨h1, h2 | h2 | h2⟩
    · exact .inl ⟨h1, h2⟩
    · exact .inr (.inl ⟨⟨⟨h1.1, h0⟩, h2.1⟩, ⟨by omega, h1.2⟩, h2.2⟩)
    · exact .inr (.inr ⟨⟨⟨h1.1, by omega⟩, h2.1⟩, ⟨h0, h1.2⟩, h2.2⟩)
  · rintro (h1 | ⟨h1, h2⟩ | ⟨h1, h2⟩)
    · exact ⟨h1.1, .inl h1.2⟩
    · exact ⟨⟨h1.1.1, h2.1.2⟩, .inr (.inl ⟨h1.2, h2.2⟩)⟩
    · exact ⟨⟨h1.1.1, h2.1.2⟩, .inr (.inr ⟨h1.2, h2.2⟩)⟩
theorem classes_of {nd k : Int} {es L : List Pt} {tree : List Int} (hn : 0 ≤ nd ∧ nd ≤ 64) (hE : EdL nd L) {n v : Nat} (hnn : (n : Int) = nd) (hv : n ≤ v) (hg : 0 < n → Gus k es n v tree (JL nd L)) : (groupsB (rowsB nd L) (allB nd)).map listB = clsL (keB k es) 64 (rangeI nd) := by
  rw [range_all hn]
  refine groups_cls (rowsL_sym hn hE) (fun x y hx hy => ?_) 64 _ .all
  have h1 := (bit_all hn).1 hx
  have h2 := (bit_all hn).1 hy
  rw [keB_iff, ← (hg (by omega)).done x y (by omega) (by omega)]
  unfold JL
  rw [Int.toNat_natCast, Int.toNat_natCast]
  exact ⟨fun h => ⟨by omega, h⟩, fun h => h.2⟩
theorem bit_mem {l : List Int} {w : Int} (h : 0 ≤ w ∧ w < 64) : maskB l &&& bitB w ≠ 0#64 ↔ w ∈ l := by
  rw [bit_one h]
  constructor
  · intro hne
    refine Classical.byContradiction fun hm => hne ?_
    refine BitVec.eq_of_getLsbD_eq fun i hi => ?_
    rw [BitVec.getLsbD_zero, ← Bool.not_eq_true, BitVec.getLsbD_and, Bool.and_eq_true, getLsb_oneB (by omega)]
    rintro ⟨h1, h2⟩
    rw [bit_maskB hi] at h1
    exact hm (by rw [show w = (i : Int) by omega]; exact h1)
  · intro hm e
    have := congrArg (fun b => BitVec.getLsbD b w.toNat) e
    simp only [BitVec.getLsbD_zero] at this
    rw [← Bool.not_eq_true, BitVec.getLsbD_and, Bool.and_eq_true, getLsb_oneB (by omega), bit_maskB (by omega)] at this
    exact this ⟨by rw [show ((w.toNat : Nat) : Int) = w by omega]; exact hm, rfl⟩
/-- The tree in the middle of a node's round. -/
def TreeW (n v : Nat) (tree side : List Int) (w : Nat) (t : List Int) : Prop := t.length = n ∧ ∀ i : Nat, i < n → at_ t (i : Int) = if v < i ∧ i < w ∧ at_ tree (i : Int) = at_ tree (v : Int) ∧ (i : Int) ∈ side then (v : Int) else at_ tree (i : Int)
theorem TreeW.start {n v : Nat} {tree side : List Int} (hl : tree.length = n) : TreeW n v tree side (v + 1) tree := ⟨hl, fun i hi => by rw [if_neg (by omega)]⟩
theorem TreeW.old {n v w : Nat} {tree side t : List Int} (h : TreeW n v tree side w t) (hw : w < n) : at_ t (w : Int) = at_ tree (w : Int) := by rw [h.2 w hw, if_neg (by omega)]
theorem TreeW.own {n v w : Nat} {tree side t : List Int} (h : TreeW n v tree side w t) (hv : v < n) : at_ t (v : Int) = at_ tree (v : Int) := by rw [h.2 v hv, if_neg (by omega)]
theorem TreeW.yes {n v w : Nat} {tree side t : List Int} (h : TreeW n v tree side w t) (hv : v < w) (hw : w < n) (h1 : at_ tree (w : Int) = at_ tree (v : Int)) (h2 : (w : Int) ∈ side) : TreeW n v tree side (w + 1) (t.set w (v : Int)) := by
  refine ⟨by rw [List.length_set]; exact h.1, fun i hi => ?_⟩
  have hs := at_set t (w : Int) (i : Int) (v : Int) (by omega) (by omega) (by have := h.1; omega)
  rw [Int.toNat_natCast] at hs
  rw [hs]
  by_cases e : w = i
  · subst e; rw [if_pos rfl, if_pos ⟨hv, by omega, h1, h2⟩]
  · rw [if_neg (by omega), h.2 i hi]
    by_cases hc : v < i ∧ i < w ∧ at_ tree (i : Int) = at_ tree (v : Int) ∧ (i : Int) ∈ side
    · rw [if_pos hc, if_pos ⟨hc.1, by omega, hc.2.2⟩]
    · rw [if_neg hc, if_neg fun hh => hc ⟨hh.1, by omega, hh.2.2⟩]
theorem TreeW.no {n v w : Nat} {tree side t : List Int} (h : TreeW n v tree side w t) (hc : ¬ (at_ tree (w : Int) = at_ tree (v : Int) ∧ (w : Int) ∈ side)) : TreeW n v tree side (w + 1) t := by
  refine ⟨h.1, fun i hi => ?_⟩
  rw [h.2 i hi]
  by_cases e : v < i ∧ i < w ∧ at_ tree (i : Int) = at_ tree (v : Int) ∧ (i : Int) ∈ side
  · rw [if_pos e, if_pos ⟨e.1, by omega, e.2.2⟩]
  · rw [if_neg e, if_neg]
    rintro ⟨h1, h2, h3⟩
    by_cases hiw : i = w
    · subst hiw; exact hc h3
    · exact e ⟨h1, by omega, h3⟩
theorem TreeW.ends {n v w : Nat} {tree side t : List Int} (h : TreeW n v tree side w t) (hw : n ≤ w) (i : Nat) (hi : i < n) : at_ t (i : Int) = if v < i ∧ at_ tree (i : Int) = at_ tree (v : Int) ∧ (i : Int) ∈ side then (v : Int) else at_ tree (i : Int) := by
  rw [h.2 i hi]
  by_cases e : v < i ∧ at_ tree (i : Int) = at_ tree (v : Int) ∧ (i : Int) ∈ side
  · rw [if_pos e, if_pos ⟨e.1, by omega, e.2⟩]
  · rw [if_neg e, if_neg fun hh => e ⟨hh.1, hh.2.2⟩]
theorem at_repI (n : Nat) (i : Int) : at_ (List.replicate n (default : Int)) i = 0 := by
  unfold at_
  rw [List.getD_eq_getElem?_getD, List.getElem?_replicate]
  split <;> rfl
/-- One round: with the edge, and without. -/
theorem cls_round {nd k c : Int} {es L : List Pt} {tree t side : List Int} {n v w : Nat} (hn : 0 ≤ nd ∧ nd ≤ 64) (hnn : (n : Int) = nd) (hE : EdL nd L) (hg : Gus k es n v tree (JL nd L)) (hv : v < n) (h0 : 0 < v) (hc : MinSide es nd (v : Int) (at_ tree (v : Int)) side c) (ht : TreeW n v tree side w t) (hw : n ≤ w) :
    (k ≤ c → Gus k es n (v + 1) t (JL nd (L ++ [⟨at_ tree (v : Int), (v : Int)⟩])) ∧ EdL nd (L ++ [⟨at_ tree (v : Int), (v : Int)⟩])) ∧ (¬ k ≤ c → Gus k es n (v + 1) t (JL nd L)) := by
  have hl := hg.low v hv h0
  have hq := JL.eqv hn hE hnn
  rw [← hnn] at hc
  refine ⟨fun hk => ⟨hg.step hq hv h0 hc ht.1 (ht.ends hw) fun x y => ?_, hE.push (by simp only; omega)⟩, fun hk => hg.step hq hv h0 hc ht.1 (ht.ends hw) fun x y => ?_⟩
  · rw [JL.more hn hE hl.1 hl.2.1 (by omega)]
    exact ⟨fun h => h.elim .inl fun h => .inr ⟨hk, h⟩, fun h => h.elim .inl fun h => .inr h.2⟩
  · exact ⟨.inl, fun h => h.elim id fun h => absurd h.1 hk⟩
theorem cls_start {nd k : Int} {es : List Pt} {n : Nat} (hn : 0 ≤ nd ∧ nd ≤ 64) (hnn : (n : Int) = nd) (h0 : 0 < n) : Gus k es n 1 (List.replicate n (default : Int)) (JL nd []) :=
  Gus.start h0 (by simp) (fun w hw => at_repI n _) (fun x y h => JL.none hn h) ((JL.eqv hn (fun e he => by cases he) hnn).refl 0 h0)

set_option maxHeartbeats 1000000 in
theorem KClasses_ok {κ : Ctx} {I : List Item} {nd : Int} {va : Value} {es : List Pt} (hl : Sl κ I va es) (k : Int) (hT : TabRd κ I 0 tzCells) :
    CallS Tryd.prog κ 55 [.agg #[I64 (nd), va], I64 (k)] I (fun r J => ∃ a c rs, r = .tuple #[.slice a rs.length c, I64 (askE nd es k)] ∧ rs.map RowG.xs = classesG nd es k ∧ J = vc 22 (.slice a rs.length c) rs :: (ownR 3 rs ++ I)) := by
 refine CallS.enter (L := [(0, .agg #[I64 (nd), va]), (1, I64 (k))]) Tryd.func55 rfl rfl rfl rfl ?_
 refine W.sr ?_
 refine G.e (Eff.box (cs := [_, _]) rfl rfl rfl) ?_
 rintro _ _ ⟨b1, rfl, rfl⟩
 refine G.r (Runs.assign rfl) ?_
 refine G.r (Runs.assign rfl) ?_
 refine G.nt ?_
 refine W.seq ?_
 refine W.sr ?_
 refine G.r (Runs.lds (vs := [_, _]) ty25) ?_
 refine G.r (Runs.move rfl) ?_
 refine G.e (Eff.call call96 rfl rfl (Asked_ok (nd := nd) (Sl.f hl) k)) ?_
 rintro _ _ ⟨_, _, ⟨rfl, rfl⟩, rfl, rfl⟩
 refine G.r (Runs.assign rfl) ?_
 refine G.nt ?_
 refine W.sr ?_
 refine G.r (Runs.move rfl) ?_
 refine G.r (Runs.neq rfl rfl) ?_
 refine G.nt ?_
 refine W.ite rfl (fun c19 => ?_) (fun c19 => ?_)
 ·refine W.sr ?_
  refine G.r (Runs.move rfl) ?_
  refine G.r (Runs.assign rfl) ?_
  refine G.r (Runs.assign rfl) ?_
  refine G.nt ?_
  refine W.sub (L' := [(5, _), (4, _)]) (Sub.cons rfl (Sub.cons rfl Sub.nil)) ?_
  refine W.ret ?_
  refine V.then_ret ?_
  have hX : classesG nd es k = [] := if_pos c19
  exact V.ret2 rfl rfl rfl (vc 22 (.slice none ([] : List (RowG Int)).length 0) ([] : List (RowG Int)) :: (ownR 3 ([] : List (RowG Int)) ++ I)) (Fit.trans (show Fit κ _ I from Fit.m) (Fit.nilvc (α := RowG Int) _ _)) ⟨none, 0, [], rfl, by rw [hX]; rfl, rfl⟩
 ·refine W.skip ?_
  refine V.then ?_
  refine W.seq ?_
  refine W.drawn mixed ?_
  refine A.hold (blk b1 [I64 (nd), va] 25 :: I) 7 ?_
  refine D.r 0 rfl (Runs.lds (vs := [_, _]) ty25) ?_ (hJ := Fit.sub)
  obtain ⟨hG, hk1⟩ := askE_zero.1 (Classical.not_not.1 c19)
  have hrl0 := hG.rows.len
  have hrng := hG.rng
  have hnn : (((rowsB nd es).length : Nat) : Int) = nd := by omega
  refine D.r 2 rfl (Runs.fieldAddr fld25_0 rfl) ?_ (hJ := Fit.sub)
  refine D.r 3 rfl (Runs.ld ty3) ?_ (hJ := Fit.sub)
  refine D.step (rs := [1]) (by kernel_rfl) rfl rfl (all1 ?_)
  refine Step.eff rfl (Wanted.plain rfl) (Eff.call call75 rfl rfl (MRows_ok (nd := nd) (Sl.f hl))) ?_
  rintro _ _ ⟨_, _, ⟨ad2, cp3, rfl, rfl⟩, rfl, rfl⟩
  refine ⟨Fit.sub, ?_⟩
  have hrwad2 := rowsB_len nd es
  refine D.step (rs := [4]) (by kernel_rfl) rfl rfl (all1 ?_)
  refine Step.eff rfl (Wanted.plain rfl) (Eff.call call77 rfl rfl (MaskAll_ok nd)) ?_
  rintro _ _ ⟨_, _, ⟨rfl, rfl⟩, rfl, rfl⟩
  refine ⟨Fit.sub, ?_⟩
  refine D.r 5 rfl (Runs.assign rfl) ?_ (hJ := Fit.sub)
  refine D.r 6 rfl (Runs.assign rfl) ?_ (hJ := Fit.sub)
  refine D.done (by kernel_rfl) ?_
  refine V.then ?_
  refine W.sub (L' := [(8, _), (7, _), (2, _), (1, _)]) (Sub.cons rfl (Sub.cons rfl (Sub.cons rfl (Sub.cons rfl Sub.nil)))) ?_
  refine W.sr ?_
  refine G.r (Runs.move rfl) ?_
  refine G.r (Runs.lens Tryd.underlying106 rfl) ?_
  refine G.e (Eff.make (α := Int) (n := (rowsB nd es).length) Tryd.underlying22 ty3 rfl rfl rfl (by omega) (by omega) (by decide) rfl) ?_
  rintro _ _ ⟨ad4, cp5, rfl, rfl⟩
  refine G.r (Runs.assign rfl) ?_
  refine G.nt ?_
  refine W.sr ?_
  refine G.r (Runs.fieldAddr fld25_0 rfl) ?_
  refine G.r (Runs.ld ty3) ?_
  refine G.r (Runs.build (cells := [_, _]) ty25 Tryd.underlying25 pl25 rfl rfl) ?_
  refine G.e (Eff.alloc ty25 rfl) ?_
  rintro _ _ ⟨b6, rfl, rfl⟩
  refine G.e (Eff.st (cs := [_, _]) (vs := [_, _]) (cs' := [_, _]) ty25) ?_
  rintro _ _ ⟨rfl, rfl⟩
  refine G.nt ?_
  refine W.seq ?_
  refine W.sr ?_
  refine G.r (Runs.assign rfl) ?_
  refine G.nt ?_
  refine W.block ?_
  refine W.loop (σ := Nat × (List Int) × (Option Addr) × Nat × (List Pt)) (fun s => ([(1, I64 (k)), (7, .slice ad2 (rowsB nd es).length cp3), (8, U64 (allB nd)), (9, .slice ad4 (List.replicate ((rowsB nd es).length) (default : Int)).length cp5), (10, .pointer (some ⟨b6, 0, none⟩)), (11, I64 (((s.1 : Nat) : Int)))] : Env)) (fun s => vc 38 (.slice s.2.2.1 s.2.2.2.2.length s.2.2.2.1) (s.2.2.2.2) :: blk b6 [I64 (nd), .slice s.2.2.1 s.2.2.2.2.length s.2.2.2.1] 25 :: vc 3 (.slice ad4 (List.replicate ((rowsB nd es).length) (default : Int)).length cp5) (s.2.1) :: vc 99 (.slice ad2 (rowsB nd es).length cp3) (rowsB nd es) :: blk b1 [I64 (nd), va] 25 :: I) (fun s => (1 ≤ s.1 ∧ (s.1 ≤ (rowsB nd es).length ∨ s.1 = 1)) ∧ (0 < (rowsB nd es).length → Gus k es (rowsB nd es).length s.1 s.2.1 (JL nd s.2.2.2.2)) ∧ (EdL nd s.2.2.2.2) ∧ (s.2.2.2.2.length ≤ s.1) ∧ (s.2.1.length = (rowsB nd es).length)) (fun s => (rowsB nd es).length - s.1) (1, List.replicate ((rowsB nd es).length) (default : Int), none, 0, []) (show (1 ≤ (1 : Nat) ∧ ((1 : Nat) ≤ (rowsB nd es).length ∨ (1 : Nat) = 1)) ∧ (0 < (rowsB nd es).length → Gus k es (rowsB nd es).length (1 : Nat) (List.replicate ((rowsB nd es).length) (default : Int) : List Int) (JL nd ([] : List Pt))) ∧ (EdL nd ([] : List Pt)) ∧ (([] : List Pt).length ≤ (1 : Nat)) ∧ ((List.replicate ((rowsB nd es).length) (default : Int) : List Int).length = (rowsB nd es).length) from ⟨(by omega), (fun h => cls_start hG.rng hnn h), (fun e he => by cases he), (by simp), (by simp)⟩) (Sub.cons rfl (Sub.cons rfl (Sub.cons rfl (Sub.cons rfl (Sub.cons rfl (Sub.cons lookO Sub.nil)))))) (show Fit κ _ (vc 38 (.slice (none) ([]).length (0)) (([])) :: blk b6 [I64 (nd), .slice (none) ([]).length (0)] 25 :: vc 3 (.slice ad4 (List.replicate ((rowsB nd es).length) (default : Int)).length cp5) ((List.replicate ((rowsB nd es).length) (default : Int))) :: vc 99 (.slice ad2 (rowsB nd es).length cp3) (rowsB nd es) :: blk b1 [I64 (nd), va] 25 :: I) from (Fit.nilvc _ _)) ?_
  rintro ⟨v, tree, ea, ec, jl⟩ hp
  obtain ⟨hv, hg, hE, hl, htl⟩ : (1 ≤ v ∧ (v ≤ (rowsB nd es).length ∨ v = 1)) ∧ (0 < (rowsB nd es).length → Gus k es (rowsB nd es).length v tree (JL nd jl)) ∧ (EdL nd jl) ∧ (jl.length ≤ v) ∧ (tree.length = (rowsB nd es).length) := hp
  show W Tryd.prog κ 95 _ _ ([(1, I64 (k)), (7, .slice ad2 (rowsB nd es).length cp3), (8, U64 (allB nd)), (9, .slice ad4 (List.replicate ((rowsB nd es).length) (default : Int)).length cp5), (10, .pointer (some ⟨b6, 0, none⟩)), (11, I64 (((v : Nat) : Int)))] : Env) (vc 38 (.slice ea jl.length ec) (jl) :: blk b6 [I64 (nd), .slice ea jl.length ec] 25 :: vc 3 (.slice ad4 (List.replicate ((rowsB nd es).length) (default : Int)).length cp5) (tree) :: vc 99 (.slice ad2 (rowsB nd es).length cp3) (rowsB nd es) :: blk b1 [I64 (nd), va] 25 :: I)
  have hlow : v < (rowsB nd es).length → 0 ≤ at_ tree (v : Int) ∧ at_ tree (v : Int) < v := fun h => by have := (hg (by omega)).low v h (by omega); exact ⟨this.1, this.2.1⟩
  refine W.seq ?_
  refine W.sr ?_
  refine G.r (Runs.move rfl) ?_
  refine G.r (Runs.move rfl) ?_
  refine G.r (Runs.lens Tryd.underlying106 rfl) ?_
  refine G.r (Runs.lss rfl rfl) ?_
  refine G.nt ?_
  refine W.ite rfl (fun c35 => ?_) (fun c35 => ?_)
  ·refine W.skip ?_
   refine V.then ?_
   refine W.seq ?_
   refine W.block ?_
   refine W.sr ?_
   refine G.r (Runs.move rfl) ?_
   refine G.r (Runs.move rfl) ?_
   refine G.r (Runs.move rfl) ?_
   refine G.r (Runs.move rfl) ?_
   refine G.r (Runs.move rfl) ?_
   refine G.r (Runs.idx (α := Int) (xs := tree) Tryd.underlying22 ty3 rfl rfl Sl.o (by omega) (by omega)) ?_
   refine G.r (Runs.get (xs := tree) ty3 rfl Sl.o (by omega) (by omega)) ?_
   refine G.e (Eff.call call88 rfl rfl (KCut_ok (wm := (allB nd)) (u := ((v : Nat) : Int)) (v := (at_ tree ((v : Nat) : Int))) Sl.o hG (all_lt hG.rng) (by have := hlow (by omega); unfold endsP; omega) (TabRd.fit hT Fit.m))) ?_
   rintro _ _ ⟨_, _, ⟨ad7, cp8, sd9, vl10, rfl, hsd9, rfl⟩, rfl, rfl⟩
   have hms := hsd9
   rw [inW_all hG] at hms
   refine G.e (Eff.alloc ty69 rfl) ?_
   rintro _ _ ⟨b11, rfl, rfl⟩
   refine G.e (Eff.st (cs := [_, _]) (vs := [_, _]) (cs' := [_, _]) ty69) ?_
   rintro _ _ ⟨rfl, rfl⟩
   refine G.nt ?_
   refine W.sub (L' := [(12, _), (1, _), (7, _), (8, _), (9, _), (10, _), (11, _)]) (Sub.cons rfl (Sub.cons rfl (Sub.cons rfl (Sub.cons rfl (Sub.cons rfl (Sub.cons rfl (Sub.cons rfl Sub.nil))))))) ?_
   refine W.sr ?_
   refine G.r (Runs.fieldAddr fld69_0 rfl) ?_
   refine G.r (Runs.ld ty22) ?_
   refine G.e (Eff.call call76 rfl rfl (MaskOf_ok Sl.o)) ?_
   rintro _ _ ⟨_, _, ⟨rfl, rfl⟩, rfl, rfl⟩
   refine G.r (Runs.assign rfl) ?_
   refine G.nt ?_
   refine W.seq ?_
   refine W.sr ?_
   refine G.r (Runs.move rfl) ?_
   refine G.r (Runs.add rfl rfl (by unfold InR; omega)) ?_
   refine G.r (Runs.assign rfl) ?_
   refine G.nt ?_
   refine W.sub (L' := [(14, _), (13, _), (12, _), (1, _), (7, _), (8, _), (9, _), (10, _), (11, _)]) (Sub.cons rfl (Sub.cons rfl (Sub.cons rfl (Sub.cons rfl (Sub.cons rfl (Sub.cons rfl (Sub.cons rfl (Sub.cons rfl (Sub.cons rfl Sub.nil))))))))) ?_
   refine W.block ?_
   refine W.loop (σ := Nat × (List Int)) (fun s => ([(1, I64 (k)), (7, .slice ad2 (rowsB nd es).length cp3), (8, U64 (allB nd)), (9, .slice ad4 (List.replicate ((rowsB nd es).length) (default : Int)).length cp5), (10, .pointer (some ⟨b6, 0, none⟩)), (11, I64 (((v : Nat) : Int))), (12, .pointer (some ⟨b11, 0, none⟩)), (13, U64 (maskB sd9)), (14, I64 (((s.1 : Nat) : Int)))] : Env)) (fun s => blk b11 [.slice ad7 sd9.length cp8, I64 (vl10)] 69 :: vc 3 (.slice ad7 sd9.length cp8) (sd9) :: vc 38 (.slice ea jl.length ec) (jl) :: blk b6 [I64 (nd), .slice ea jl.length ec] 25 :: vc 3 (.slice ad4 (List.replicate ((rowsB nd es).length) (default : Int)).length cp5) (s.2) :: vc 99 (.slice ad2 (rowsB nd es).length cp3) (rowsB nd es) :: blk b1 [I64 (nd), va] 25 :: I) (fun s => (v < s.1 ∧ s.1 ≤ (rowsB nd es).length) ∧ (TreeW (rowsB nd es).length v tree sd9 s.1 s.2)) (fun s => (rowsB nd es).length - s.1) (v + 1, tree) (show (v < (v + 1 : Nat) ∧ (v + 1 : Nat) ≤ (rowsB nd es).length) ∧ (TreeW (rowsB nd es).length v tree sd9 (v + 1 : Nat) (tree : List Int)) from ⟨(by omega), (.start htl)⟩) (Sub.cons rfl (Sub.cons rfl (Sub.cons rfl (Sub.cons rfl (Sub.cons rfl (Sub.cons rfl (Sub.cons rfl (Sub.cons rfl (Sub.cons lookO Sub.nil))))))))) (show Fit κ _ (blk b11 [.slice ad7 sd9.length cp8, I64 (vl10)] 69 :: vc 3 (.slice ad7 sd9.length cp8) (sd9) :: vc 38 (.slice ea jl.length ec) (jl) :: blk b6 [I64 (nd), .slice ea jl.length ec] 25 :: vc 3 (.slice ad4 (List.replicate ((rowsB nd es).length) (default : Int)).length cp5) ((tree)) :: vc 99 (.slice ad2 (rowsB nd es).length cp3) (rowsB nd es) :: blk b1 [I64 (nd), va] 25 :: I) from Fit.sub) ?_
   rintro ⟨w, tree1⟩ hp
   obtain ⟨hw, ht1⟩ : (v < w ∧ w ≤ (rowsB nd es).length) ∧ (TreeW (rowsB nd es).length v tree sd9 w tree1) := hp
   show W Tryd.prog κ 95 _ _ ([(1, I64 (k)), (7, .slice ad2 (rowsB nd es).length cp3), (8, U64 (allB nd)), (9, .slice ad4 (List.replicate ((rowsB nd es).length) (default : Int)).length cp5), (10, .pointer (some ⟨b6, 0, none⟩)), (11, I64 (((v : Nat) : Int))), (12, .pointer (some ⟨b11, 0, none⟩)), (13, U64 (maskB sd9)), (14, I64 (((w : Nat) : Int)))] : Env) (blk b11 [.slice ad7 sd9.length cp8, I64 (vl10)] 69 :: vc 3 (.slice ad7 sd9.length cp8) (sd9) :: vc 38 (.slice ea jl.length ec) (jl) :: blk b6 [I64 (nd), .slice ea jl.length ec] 25 :: vc 3 (.slice ad4 (List.replicate ((rowsB nd es).length) (default : Int)).length cp5) (tree1) :: vc 99 (.slice ad2 (rowsB nd es).length cp3) (rowsB nd es) :: blk b1 [I64 (nd), va] 25 :: I)
   have ht1l := ht1.1
   refine W.seq ?_
   refine W.sr ?_
   refine G.r (Runs.move rfl) ?_
   refine G.r (Runs.move rfl) ?_
   refine G.r (Runs.lens Tryd.underlying106 rfl) ?_
   refine G.r (Runs.lss rfl rfl) ?_
   refine G.nt ?_
   refine W.ite rfl (fun c54 => ?_) (fun c54 => ?_)
   ·refine W.skip ?_
    refine V.then ?_
    refine W.seq ?_
    refine W.block ?_
    refine W.seq ?_
    refine W.drawn mixed ?_
    refine A.hold (blk b11 [.slice ad7 sd9.length cp8, I64 (vl10)] 69 :: vc 3 (.slice ad7 sd9.length cp8) (sd9) :: vc 38 (.slice ea jl.length ec) (jl) :: blk b6 [I64 (nd), .slice ea jl.length ec] 25 :: vc 3 (.slice ad4 (List.replicate ((rowsB nd es).length) (default : Int)).length cp5) (tree1) :: vc 99 (.slice ad2 (rowsB nd es).length cp3) (rowsB nd es) :: blk b1 [I64 (nd), va] 25 :: I) 16 ?_
    refine D.r 0 rfl (Runs.move rfl) ?_
    refine D.r 1 rfl (Runs.move rfl) ?_
    refine D.r 2 rfl (Runs.idx (α := Int) (xs := tree1) Tryd.underlying22 ty3 rfl rfl Sl.o (by omega) (by omega)) ?_
    refine D.r 3 rfl (Runs.get (xs := tree1) ty3 rfl Sl.o (by omega) (by omega)) ?_
    refine D.r 4 rfl (Runs.move rfl) ?_
    refine D.r 5 rfl (Runs.move rfl) ?_
    refine D.r 6 rfl (Runs.idx (α := Int) (xs := tree1) Tryd.underlying22 ty3 rfl rfl Sl.o (by omega) (by omega)) ?_
    refine D.r 7 rfl (Runs.get (xs := tree1) ty3 rfl Sl.o (by omega) (by omega)) ?_
    refine D.r 8 rfl (Runs.eql rfl rfl) ?_
    refine D.r 9 rfl (Runs.move rfl) ?_
    refine D.split (d := 66) rfl (fun g66 => ?_) (fun g66 => ?_)
    ·refine D.ro 10 rfl (Runs.move rfl) ?_
     refine D.ro 11 rfl (Runs.move rfl) ?_
     refine D.step (rs := [12]) (by kernel_rfl) rfl rfl (all1 ?_)
     refine Step.eff rfl (Wanted.on rfl rfl rfl) (Eff.call call68 rfl rfl (Bit_ok ((w : Nat) : Int))) ?_
     rintro _ _ ⟨_, _, ⟨rfl, rfl⟩, rfl, rfl⟩
     refine ⟨Fit.m, ?_⟩
     refine D.ro 13 rfl (Runs.andB (a := maskB sd9) (b := bitB ((w : Nat) : Int)) rfl rfl) ?_
     refine D.ro 14 rfl (Runs.neB (a := (maskB sd9) &&& (bitB ((w : Nat) : Int))) (b := 0#64) rfl rfl) ?_
     refine D.r 15 rfl (Runs.pickt rfl rfl) ?_
     refine D.done (by kernel_rfl) ?_
     refine V.then ?_
     refine W.sub (L' := [(72, _), (1, _), (7, _), (8, _), (9, _), (10, _), (11, _), (12, _), (13, _), (14, _)]) (Sub.cons rfl (Sub.cons rfl (Sub.cons rfl (Sub.cons rfl (Sub.cons rfl (Sub.cons rfl (Sub.cons rfl (Sub.cons rfl (Sub.cons rfl (Sub.cons rfl Sub.nil)))))))))) ?_
     refine W.ite rfl (fun c72 => ?_) (fun c72 => ?_)
     ·refine W.region ?_
      refine G.r (Runs.move rfl) ?_
      refine G.r (Runs.move rfl) ?_
      refine G.r (Runs.move rfl) ?_
      refine G.r (Runs.idx (α := Int) (xs := tree1) Tryd.underlying22 ty3 rfl rfl Sl.o (by omega) (by omega)) ?_
      refine G.e (Eff.set (α := Int) (xs := tree1) (e := 3) (new := ((v : Nat) : Int)) ty3 rfl rfl rfl (by omega) (by omega) (by repeat (first | exact At.head _ _ _ | apply At.tail))) ?_
      rintro _ _ ⟨rfl, rfl⟩
      refine G.nil ?_
      refine V.block_normal ?_
      refine V.then ?_
      refine W.sub (L' := [(1, _), (7, _), (8, _), (9, _), (10, _), (11, _), (12, _), (13, _), (14, _)]) (Sub.cons rfl (Sub.cons rfl (Sub.cons rfl (Sub.cons rfl (Sub.cons rfl (Sub.cons rfl (Sub.cons rfl (Sub.cons rfl (Sub.cons rfl Sub.nil))))))))) ?_
      refine W.region ?_
      refine G.r (Runs.move rfl) ?_
      refine G.r (Runs.add rfl rfl (by unfold InR; omega)) ?_
      refine G.r (Runs.assign rfl) ?_
      refine G.nil ?_
      have ho1 := ht1.old (show w < (rowsB nd es).length from by omega)
      have ho2 := ht1.own (show v < (rowsB nd es).length from by omega)
      rw [Int.toNat_natCast]
      rw [ho1, ho2] at g66
      have hwm := (bit_mem (l := sd9) (w := (w : Int)) (by omega)).1 (by simpa using c72)
      exact V.next ((w + 1), (List.set tree1 (((w : Nat) : Int)).toNat (((v : Nat) : Int)))) (show (v < (w + 1 : Nat) ∧ (w + 1 : Nat) ≤ (rowsB nd es).length) ∧ (TreeW (rowsB nd es).length v tree sd9 (w + 1 : Nat) (List.set tree1 (((w : Nat) : Int)).toNat (((v : Nat) : Int)) : List Int)) from ⟨(by omega), (ht1.yes (by omega) (by omega) g66 hwm)⟩) (show (rowsB nd es).length - (w + 1 : Nat) < (rowsB nd es).length - w from (by omega)) (Sub.cons rfl (Sub.cons rfl (Sub.cons rfl (Sub.cons rfl (Sub.cons rfl (Sub.cons rfl (Sub.cons rfl (Sub.cons rfl (Sub.cons lookO Sub.nil))))))))) (show Fit κ _ (blk b11 [.slice ad7 sd9.length cp8, I64 (vl10)] 69 :: vc 3 (.slice ad7 sd9.length cp8) (sd9) :: vc 38 (.slice ea jl.length ec) (jl) :: blk b6 [I64 (nd), .slice ea jl.length ec] 25 :: vc 3 (.slice ad4 (List.replicate ((rowsB nd es).length) (default : Int)).length cp5) ((List.set tree1 (((w : Nat) : Int)).toNat (((v : Nat) : Int)))) :: vc 99 (.slice ad2 (rowsB nd es).length cp3) (rowsB nd es) :: blk b1 [I64 (nd), va] 25 :: I) from (by first | exact Fit.s | exact Fit.sub))
     ·refine W.skip ?_
      refine V.block_normal ?_
      refine V.then ?_
      refine W.region ?_
      refine G.r (Runs.move rfl) ?_
      refine G.r (Runs.add rfl rfl (by unfold InR; omega)) ?_
      refine G.r (Runs.assign rfl) ?_
      refine G.nil ?_
      have ho1 := ht1.old (show w < (rowsB nd es).length from by omega)
      have ho2 := ht1.own (show v < (rowsB nd es).length from by omega)
      exact V.next ((w + 1), (tree1)) (show (v < (w + 1 : Nat) ∧ (w + 1 : Nat) ≤ (rowsB nd es).length) ∧ (TreeW (rowsB nd es).length v tree sd9 (w + 1 : Nat) (tree1 : List Int)) from ⟨(by omega), (ht1.no (fun hh => by first | (rw [ho1, ho2] at g66; first | exact g66 hh.1 | exact c72 (by simpa using (bit_mem (l := sd9) (w := (w : Int)) (by omega)).2 hh.2))))⟩) (show (rowsB nd es).length - (w + 1 : Nat) < (rowsB nd es).length - w from (by omega)) (Sub.cons rfl (Sub.cons rfl (Sub.cons rfl (Sub.cons rfl (Sub.cons rfl (Sub.cons rfl (Sub.cons rfl (Sub.cons rfl (Sub.cons lookO Sub.nil))))))))) (show Fit κ _ (blk b11 [.slice ad7 sd9.length cp8, I64 (vl10)] 69 :: vc 3 (.slice ad7 sd9.length cp8) (sd9) :: vc 38 (.slice ea jl.length ec) (jl) :: blk b6 [I64 (nd), .slice ea jl.length ec] 25 :: vc 3 (.slice ad4 (List.replicate ((rowsB nd es).length) (default : Int)).length cp5) ((tree1)) :: vc 99 (.slice ad2 (rowsB nd es).length cp3) (rowsB nd es) :: blk b1 [I64 (nd), va] 25 :: I) from (by first | exact Fit.s | exact Fit.sub))
    ·refine D.po 10 rfl ?_
     refine D.po 11 rfl ?_
     refine D.po 12 rfl ?_
     refine D.po 13 rfl ?_
     refine D.po 14 rfl ?_
     refine D.r 15 rfl (Runs.pickf rfl rfl) ?_
     refine D.done (by kernel_rfl) ?_
     refine V.then ?_
     refine W.sub (L' := [(72, _), (1, _), (7, _), (8, _), (9, _), (10, _), (11, _), (12, _), (13, _), (14, _)]) (Sub.cons rfl (Sub.cons rfl (Sub.cons rfl (Sub.cons rfl (Sub.cons rfl (Sub.cons rfl (Sub.cons rfl (Sub.cons rfl (Sub.cons rfl (Sub.cons rfl Sub.nil)))))))))) ?_
     refine W.no rfl ?_
     refine W.skip ?_
     refine V.block_normal ?_
     refine V.then ?_
     refine W.region ?_
     refine G.r (Runs.move rfl) ?_
     refine G.r (Runs.add rfl rfl (by unfold InR; omega)) ?_
     refine G.r (Runs.assign rfl) ?_
     refine G.nil ?_
     have ho1 := ht1.old (show w < (rowsB nd es).length from by omega)
     have ho2 := ht1.own (show v < (rowsB nd es).length from by omega)
     exact V.next ((w + 1), (tree1)) (show (v < (w + 1 : Nat) ∧ (w + 1 : Nat) ≤ (rowsB nd es).length) ∧ (TreeW (rowsB nd es).length v tree sd9 (w + 1 : Nat) (tree1 : List Int)) from ⟨(by omega), (ht1.no (fun hh => by first | (rw [ho1, ho2] at g66; first | exact g66 hh.1 | exact c72 (by simpa using (bit_mem (l := sd9) (w := (w : Int)) (by omega)).2 hh.2))))⟩) (show (rowsB nd es).length - (w + 1 : Nat) < (rowsB nd es).length - w from (by omega)) (Sub.cons rfl (Sub.cons rfl (Sub.cons rfl (Sub.cons rfl (Sub.cons rfl (Sub.cons rfl (Sub.cons rfl (Sub.cons rfl (Sub.cons lookO Sub.nil))))))))) (show Fit κ _ (blk b11 [.slice ad7 sd9.length cp8, I64 (vl10)] 69 :: vc 3 (.slice ad7 sd9.length cp8) (sd9) :: vc 38 (.slice ea jl.length ec) (jl) :: blk b6 [I64 (nd), .slice ea jl.length ec] 25 :: vc 3 (.slice ad4 (List.replicate ((rowsB nd es).length) (default : Int)).length cp5) ((tree1)) :: vc 99 (.slice ad2 (rowsB nd es).length cp3) (rowsB nd es) :: blk b1 [I64 (nd), va] 25 :: I) from (by first | exact Fit.s | exact Fit.sub))
   ·refine W.exit ?_
    refine V.then_exit ?_
    refine V.then_exit ?_
    refine V.block_hit ?_
    refine V.then ?_
    refine W.sr ?_
    refine G.r (Runs.fieldAddr fld69_1 rfl) ?_
    refine G.r (Runs.ld ty3) ?_
    refine G.r (Runs.move rfl) ?_
    refine G.r (Runs.geq rfl rfl) ?_
    refine G.nt ?_
    refine W.sub (L' := [(80, _), (1, _), (7, _), (8, _), (9, _), (10, _), (11, _)]) (Sub.cons rfl (Sub.cons rfl (Sub.cons rfl (Sub.cons rfl (Sub.cons rfl (Sub.cons rfl (Sub.cons rfl Sub.nil))))))) ?_
    refine W.ite rfl (fun c80 => ?_) (fun c80 => ?_)
    ·refine W.drawn mixed ?_
     refine A.hold (blk b11 [.slice ad7 sd9.length cp8, I64 (vl10)] 69 :: vc 3 (.slice ad7 sd9.length cp8) (sd9) :: blk b6 [I64 (nd), .slice ea jl.length ec] 25 :: vc 3 (.slice ad4 (List.replicate ((rowsB nd es).length) (default : Int)).length cp5) (tree1) :: vc 99 (.slice ad2 (rowsB nd es).length cp3) (rowsB nd es) :: blk b1 [I64 (nd), va] 25 :: I) 11 ?_
     refine D.r 0 rfl (Runs.fieldAddr fld25_1 rfl) ?_ (hJ := Fit.sub)
     refine D.r 1 rfl (Runs.ld ty23) ?_ (hJ := Fit.sub)
     refine D.r 2 rfl (Runs.move rfl) ?_ (hJ := Fit.sub)
     refine D.r 3 rfl (Runs.move rfl) ?_ (hJ := Fit.sub)
     refine D.r 4 rfl (Runs.idx (α := Int) (xs := tree1) Tryd.underlying22 ty3 rfl rfl Sl.o (by omega) (by omega)) ?_ (hJ := Fit.sub)
     refine D.r 5 rfl (Runs.get (xs := tree1) ty3 rfl Sl.o (by omega) (by omega)) ?_ (hJ := Fit.sub)
     refine D.r 6 rfl (Runs.move rfl) ?_ (hJ := Fit.sub)
     refine D.r 7 rfl (Runs.build (cells := [_, _]) ty38 Tryd.underlying38 pl38 rfl rfl) ?_ (hJ := Fit.sub)
     refine D.step (rs := [8]) (by kernel_rfl) rfl rfl (all1 ?_)
     refine Step.eff rfl (Wanted.plain rfl) (Eff.bs (α := Pt) (cs := [_, _]) (xs := [⟨at_ tree1 ((v : Nat) : Int), ((v : Nat) : Int)⟩]) Tryd.underlying23 ty38 rfl rfl (by decide) (by decide) rfl rfl rfl rfl) ?_
     rintro _ _ ⟨ad12, rfl, rfl⟩
     refine ⟨Fit.sub, ?_⟩
     refine D.step (rs := [9]) (by kernel_rfl) rfl rfl (all1 ?_)
     refine Step.eff rfl (Wanted.plain rfl) (Eff.app (α := Pt) (e := 38) (xs := jl) (ys := ([⟨at_ tree1 ((v : Nat) : Int), ((v : Nat) : Int)⟩] : List Pt)) Tryd.underlying23 ty38 rfl rfl rfl (by repeat (first | exact List.mem_cons_self | apply List.mem_cons_of_mem)) Sl.o (by simp only [List.length_cons, List.length_nil]; omega) (by decide) rfl (fun _ _ => (by repeat (first | exact At.head _ _ _ | apply At.tail)))) ?_
     rintro _ _ ⟨ad13, cp14, rfl, rfl⟩
     refine ⟨Fit.sub, ?_⟩
     refine D.r 10 rfl (Runs.fieldAddr fld25_1 rfl) ?_ (hJ := Fit.sub)
     refine D.stop (by kernel_rfl) ?_
     refine A.eff (i := 11) (by kernel_rfl) rfl (Wanted.plain rfl) (Eff.st (cs := [_, _]) (vs := [_]) (cs' := [_, _]) ty23) ?_
     rintro _ _ ⟨rfl, rfl⟩
     refine A.done (by kernel_rfl) ?_
     refine V.block_normal ?_
     refine V.then ?_
     refine W.sub (L' := [(1, _), (7, _), (8, _), (9, _), (10, _), (11, _)]) (Sub.cons rfl (Sub.cons rfl (Sub.cons rfl (Sub.cons rfl (Sub.cons rfl (Sub.cons rfl Sub.nil)))))) ?_
     refine W.region ?_
     refine G.r (Runs.move rfl) ?_
     refine G.r (Runs.add rfl rfl (by unfold InR; omega)) ?_
     refine G.r (Runs.assign rfl) ?_
     refine G.nil ?_
     have hrd := cls_round hG.rng hnn hE (hg (by omega)) (by omega) (by omega) hms ht1 (by omega)
     have hown := ht1.own (show v < (rowsB nd es).length from by omega)
     have hrd2 := hrd.1 (by omega)
     rw [← hown] at hrd2
     exact V.next ((v + 1), (tree1), (ad13), (cp14), (jl ++ ([⟨at_ tree1 ((v : Nat) : Int), ((v : Nat) : Int)⟩] : List Pt))) (show (1 ≤ (v + 1 : Nat) ∧ ((v + 1 : Nat) ≤ (rowsB nd es).length ∨ (v + 1 : Nat) = 1)) ∧ (0 < (rowsB nd es).length → Gus k es (rowsB nd es).length (v + 1 : Nat) (tree1 : List Int) (JL nd (jl ++ ([⟨at_ tree1 ((v : Nat) : Int), ((v : Nat) : Int)⟩] : List Pt) : List Pt))) ∧ (EdL nd (jl ++ ([⟨at_ tree1 ((v : Nat) : Int), ((v : Nat) : Int)⟩] : List Pt) : List Pt)) ∧ ((jl ++ ([⟨at_ tree1 ((v : Nat) : Int), ((v : Nat) : Int)⟩] : List Pt) : List Pt).length ≤ (v + 1 : Nat)) ∧ ((tree1 : List Int).length = (rowsB nd es).length) from ⟨(by omega), (fun _ => hrd2.1), hrd2.2, (by simp only [List.length_append, List.length_cons, List.length_nil]; omega), ht1.1⟩) (show (rowsB nd es).length - (v + 1 : Nat) < (rowsB nd es).length - v from (by omega)) (Sub.cons rfl (Sub.cons rfl (Sub.cons rfl (Sub.cons rfl (Sub.cons rfl (Sub.cons lookO Sub.nil)))))) (show Fit κ _ (vc 38 (.slice (ad13) (jl ++ ([⟨at_ tree1 ((v : Nat) : Int), ((v : Nat) : Int)⟩] : List Pt)).length (cp14)) ((jl ++ ([⟨at_ tree1 ((v : Nat) : Int), ((v : Nat) : Int)⟩] : List Pt))) :: blk b6 [I64 (nd), .slice (ad13) (jl ++ ([⟨at_ tree1 ((v : Nat) : Int), ((v : Nat) : Int)⟩] : List Pt)).length (cp14)] 25 :: vc 3 (.slice ad4 (List.replicate ((rowsB nd es).length) (default : Int)).length cp5) ((tree1)) :: vc 99 (.slice ad2 (rowsB nd es).length cp3) (rowsB nd es) :: blk b1 [I64 (nd), va] 25 :: I) from (by first | exact Fit.s | exact Fit.sub))
    ·refine W.skip ?_
     refine V.block_normal ?_
     refine V.then ?_
     refine W.region ?_
     refine G.r (Runs.move rfl) ?_
     refine G.r (Runs.add rfl rfl (by unfold InR; omega)) ?_
     refine G.r (Runs.assign rfl) ?_
     refine G.nil ?_
     have hrd := cls_round hG.rng hnn hE (hg (by omega)) (by omega) (by omega) hms ht1 (by omega)
     exact V.next ((v + 1), (tree1), (ea), (ec), (jl)) (show (1 ≤ (v + 1 : Nat) ∧ ((v + 1 : Nat) ≤ (rowsB nd es).length ∨ (v + 1 : Nat) = 1)) ∧ (0 < (rowsB nd es).length → Gus k es (rowsB nd es).length (v + 1 : Nat) (tree1 : List Int) (JL nd (jl : List Pt))) ∧ (EdL nd (jl : List Pt)) ∧ ((jl : List Pt).length ≤ (v + 1 : Nat)) ∧ ((tree1 : List Int).length = (rowsB nd es).length) from ⟨(by omega), (fun _ => hrd.2 (by omega)), hE, (by omega), ht1.1⟩) (show (rowsB nd es).length - (v + 1 : Nat) < (rowsB nd es).length - v from (by omega)) (Sub.cons rfl (Sub.cons rfl (Sub.cons rfl (Sub.cons rfl (Sub.cons rfl (Sub.cons lookO Sub.nil)))))) (show Fit κ _ (vc 38 (.slice (ea) (jl).length (ec)) ((jl)) :: blk b6 [I64 (nd), .slice (ea) (jl).length (ec)] 25 :: vc 3 (.slice ad4 (List.replicate ((rowsB nd es).length) (default : Int)).length cp5) ((tree1)) :: vc 99 (.slice ad2 (rowsB nd es).length cp3) (rowsB nd es) :: blk b1 [I64 (nd), va] 25 :: I) from (by first | exact Fit.s | exact Fit.sub))
  ·refine W.exit ?_
   refine V.then_exit ?_
   refine V.then_exit ?_
   refine V.block_hit ?_
   refine V.then ?_
   refine W.sr ?_
   refine G.r (Runs.lds (vs := [_, _]) ty25) ?_
   refine G.r (Runs.move rfl) ?_
   refine G.e (Eff.call call79 rfl rfl (Groups_ok (nd := nd) Sl.o (allB nd) (all_rows hG.rng) (TabRd.fit hT Fit.m))) ?_
   rintro _ _ ⟨_, _, ⟨ad15, cp16, rs17, rfl, hrs17, rfl⟩, rfl, rfl⟩
   refine G.fit (J := vc 22 (.slice ad15 rs17.length cp16) (rs17) :: vc 38 (.slice ea jl.length ec) (jl) :: blk b6 [I64 (nd), .slice ea jl.length ec] 25 :: vc 3 (.slice ad4 (List.replicate ((rowsB nd es).length) (default : Int)).length cp5) (tree) :: vc 99 (.slice ad2 (rowsB nd es).length cp3) (rowsB nd es) :: blk b1 [I64 (nd), va] 25 :: (ownR 3 rs17 ++ I)) Fit.s ?_
   refine G.r (Runs.assign rfl) ?_
   refine G.r (Runs.assign rfl) ?_
   refine G.nt ?_
   refine W.sub (L' := [(5, _), (4, _)]) (Sub.cons rfl (Sub.cons rfl Sub.nil)) ?_
   refine W.ret ?_
   have hA : askE nd es k = 0 := Classical.not_not.1 c19
   have hX : classesG nd es k = clsL (keB k es) 64 (rangeI nd) := if_neg c19
   exact V.ret2 rfl rfl rfl (vc 22 (.slice ad15 rs17.length cp16) rs17 :: (ownR 3 rs17 ++ I)) (by first | exact Fit.s | exact Fit.sub) ⟨ad15, cp16, rs17, by first | (rw [hA]; done) | (rw [hA]; rfl), by rw [hX, hrs17, classes_of hG.rng hE hnn (by omega) hg], rfl⟩

end Go.Sl
namespace Go.Sl
open Go.Proofs
set_option linter.unusedVariables false
set_option linter.unusedSimpArgs false
set_option maxRecDepth 4000
theorem cls_first {R : Int → Int → Bool} {l : List Int} (h : 0 < l.length) (hr : R (at_ l 0) (at_ l 0) = true) : at_ l 0 :: (List.drop 1 l).filter (fun y => R (at_ l 0) y) = l.filter fun y => R (at_ l 0) y := by
  cases l with
  | nil => simp at h
  | cons x xs =>
    have e : at_ (x :: xs) 0 = x := rfl
    rw [e] at hr ⊢
    rw [List.filter_cons, if_pos hr]; rfl
theorem cls_left {R : Int → Int → Bool} {l : List Int} (ha : l.Pairwise fun a b => a < b) (x : Int) : minusL l (l.filter fun y => R x y) = l.filter fun y => !R x y := by
  refine intLin.uniq (minus_asc _ _) (ha.sublist List.filter_sublist) fun z => ?_
  rw [mem_minusL, List.mem_filter, List.mem_filter]
  constructor
  · rintro ⟨h1, h2⟩
    refine ⟨h1, ?_⟩
    cases hq : R x z
    · rfl
    · exact absurd ⟨h1, hq⟩ h2
  · rintro ⟨h1, h2⟩
    exact ⟨h1, fun h3 => by rw [h3.2] at h2; cases h2⟩
theorem keB_refl (k : Int) (E : List Pt) (x : Int) : keB k E x x = true := keB_iff.2 (KE.refl _ _ _)
theorem cls_less {R : Int → Int → Bool} {l : List Int} (h : 0 < l.length) (hr : R (at_ l 0) (at_ l 0) = true) : (l.filter fun y => !R (at_ l 0) y).length < l.length := by
  cases l with
  | nil => simp at h
  | cons x xs =>
    have e : at_ (x :: xs) 0 = x := rfl
    rw [e] at hr ⊢
    rw [List.filter_cons, if_neg (by rw [hr]; decide), List.length_cons]
    have := List.length_filter_le (fun y => !R x y) xs
    omega

set_option maxHeartbeats 1000000 in
theorem Classes17_ok {κ : Ctx} {I : List Item} {nd : Int} {va : Value} {es : List Pt} (hl : Sl κ I va es) (k : Int) (hb : es.length ≤ 8000) :
    CallS Tryd.prog κ 56 [.agg #[I64 (nd), va], I64 (k)] I (fun r J => ∃ a c rs, r = .tuple #[.slice a rs.length c, I64 (askE nd es k)] ∧ rs.map RowG.xs = classesG nd es k ∧ J = vc 22 (.slice a rs.length c) rs :: (ownR 3 rs ++ I)) := by
 refine CallS.enter (L := [(0, .agg #[I64 (nd), va]), (1, I64 (k))]) Tryd.func56 rfl rfl rfl rfl ?_
 refine W.sr ?_
 refine G.e (Eff.box (cs := [_, _]) rfl rfl rfl) ?_
 rintro _ _ ⟨b1, rfl, rfl⟩
 refine G.r (Runs.assign rfl) ?_
 refine G.r (Runs.assign rfl) ?_
 refine G.nt ?_
 refine W.seq ?_
 refine W.sr ?_
 refine G.r (Runs.lds (vs := [_, _]) ty25) ?_
 refine G.r (Runs.move rfl) ?_
 refine G.e (Eff.call call97 rfl rfl (Wrong17_ok (nd := nd) (Sl.f hl) k)) ?_
 rintro _ _ ⟨_, _, ⟨rfl, rfl⟩, rfl, rfl⟩
 refine G.r (Runs.assign rfl) ?_
 refine G.nt ?_
 refine W.sr ?_
 refine G.r (Runs.move rfl) ?_
 refine G.r (Runs.neq rfl rfl) ?_
 refine G.nt ?_
 refine W.ite rfl (fun c19 => ?_) (fun c19 => ?_)
 ·refine W.sr ?_
  refine G.r (Runs.move rfl) ?_
  refine G.r (Runs.assign rfl) ?_
  refine G.r (Runs.assign rfl) ?_
  refine G.nt ?_
  refine W.sub (L' := [(5, _), (4, _)]) (Sub.cons rfl (Sub.cons rfl Sub.nil)) ?_
  refine W.ret ?_
  refine V.then_ret ?_
  have hX : classesG nd es k = [] := if_pos c19
  exact V.ret2 rfl rfl rfl (vc 22 (.slice none ([] : List (RowG Int)).length 0) ([] : List (RowG Int)) :: (ownR 3 ([] : List (RowG Int)) ++ I)) (Fit.trans (show Fit κ _ I from Fit.m) (Fit.nilvc (α := RowG Int) _ _)) ⟨none, 0, [], rfl, by rw [hX]; rfl, rfl⟩
 ·refine W.skip ?_
  refine V.then ?_
  refine W.sr ?_
  refine G.r (Runs.assign rfl) ?_
  obtain ⟨hG, hk1⟩ := askE_zero.1 (Classical.not_not.1 c19)
  refine G.nt ?_
  refine W.sr ?_
  refine G.r (Runs.fieldAddr fld25_0 rfl) ?_
  refine G.r (Runs.ld ty3) ?_
  refine G.e (Eff.call call29 rfl rfl (Range_ok nd)) ?_
  rintro _ _ ⟨_, _, ⟨ad2, cp3, rfl, rfl⟩, rfl, rfl⟩
  refine G.r (Runs.assign rfl) ?_
  refine G.nt ?_
  refine W.sub (L' := [(8, _), (7, _), (2, _), (1, _)]) (Sub.cons rfl (Sub.cons rfl (Sub.cons rfl (Sub.cons rfl Sub.nil)))) ?_
  refine W.seq ?_
  refine W.block ?_
  refine W.loop (σ := (List Int) × (Option Addr) × Nat × (Option Addr) × Nat × (List (RowG Int)) × Nat) (fun s => ([(1, I64 (k)), (2, .pointer (some ⟨b1, 0, none⟩)), (7, .slice s.2.2.2.1 s.2.2.2.2.2.1.length s.2.2.2.2.1), (8, .slice s.2.1 s.1.length s.2.2.1)] : Env)) (fun s => vc 3 (.slice s.2.1 s.1.length s.2.2.1) (s.1) :: vc 22 (.slice s.2.2.2.1 s.2.2.2.2.2.1.length s.2.2.2.2.1) (s.2.2.2.2.2.1) :: blk b1 [I64 (nd), va] 25 :: (ownR 3 s.2.2.2.2.2.1 ++ I)) (fun s => (clsL (keB k es) 64 (rangeI nd) = s.2.2.2.2.2.1.map RowG.xs ++ clsL (keB k es) s.2.2.2.2.2.2 s.1) ∧ (s.1.length ≤ s.2.2.2.2.2.2 ∧ s.2.2.2.2.2.2 + s.2.2.2.2.2.1.length ≤ 64) ∧ (s.1.Pairwise (fun y1 y2 : Int => y1 < y2) ∧ ∀ x ∈ s.1, 0 ≤ x ∧ x < nd)) (fun s => s.2.2.2.2.2.2) (rangeI nd, ad2, cp3, none, 0, [], 64) (show (clsL (keB k es) 64 (rangeI nd) = ([] : List (RowG Int)).map RowG.xs ++ clsL (keB k es) (64 : Nat) (rangeI nd : List Int)) ∧ ((rangeI nd : List Int).length ≤ (64 : Nat) ∧ (64 : Nat) + ([] : List (RowG Int)).length ≤ 64) ∧ ((rangeI nd : List Int).Pairwise (fun y1 y2 : Int => y1 < y2) ∧ ∀ x ∈ (rangeI nd : List Int), 0 ≤ x ∧ x < nd) from ⟨rfl, ⟨by rw [range_all hG.rng]; exact listB_len _, by simp⟩, ⟨rangeI_asc nd, fun x hx => by have := mem_rangeI.1 hx; omega⟩⟩) (Sub.cons rfl (Sub.cons rfl (Sub.cons (lookV rfl (by first | rfl | simp)) (Sub.cons (lookV rfl (by first | rfl | simp)) Sub.nil)))) (show Fit κ _ (vc 3 (.slice (ad2) (rangeI nd).length (cp3)) ((rangeI nd)) :: vc 22 (.slice (none) ([]).length (0)) (([])) :: blk b1 [I64 (nd), va] 25 :: (ownR 3 ([]) ++ I)) from (Fit.trans (Fit.nilvc (α := RowG Int) 22 _) Fit.s)) ?_
  rintro ⟨lq, la, lc, a, c, rs, n⟩ hp
  obtain ⟨hg, hn, hW⟩ : (clsL (keB k es) 64 (rangeI nd) = rs.map RowG.xs ++ clsL (keB k es) n lq) ∧ (lq.length ≤ n ∧ n + rs.length ≤ 64) ∧ (lq.Pairwise (fun y1 y2 : Int => y1 < y2) ∧ ∀ x ∈ lq, 0 ≤ x ∧ x < nd) := hp
  show W Tryd.prog κ 64 _ _ ([(1, I64 (k)), (2, .pointer (some ⟨b1, 0, none⟩)), (7, .slice a rs.length c), (8, .slice la lq.length lc)] : Env) (vc 3 (.slice la lq.length lc) (lq) :: vc 22 (.slice a rs.length c) (rs) :: blk b1 [I64 (nd), va] 25 :: (ownR 3 rs ++ I))
  refine W.seq ?_
  refine W.sr ?_
  refine G.r (Runs.move rfl) ?_
  refine G.r (Runs.lens Tryd.underlying22 rfl) ?_
  refine G.r (Runs.gtr rfl rfl) ?_
  refine G.nt ?_
  refine W.ite rfl (fun c26 => ?_) (fun c26 => ?_)
  ·refine W.skip ?_
   refine V.then ?_
   refine W.block ?_
   refine W.sr ?_
   refine G.r (Runs.move rfl) ?_
   refine G.r (Runs.idx (α := Int) (xs := lq) Tryd.underlying22 ty3 rfl rfl Sl.o (by omega) (by omega)) ?_
   refine G.r (Runs.get (xs := lq) ty3 rfl Sl.o (by omega) (by omega)) ?_
   refine G.e (Eff.bs (α := Int) (cs := [_]) (xs := [at_ lq 0]) Tryd.underlying22 ty3 rfl rfl (by decide) (by decide) rfl rfl rfl rfl) ?_
   rintro _ _ ⟨ad4, rfl, rfl⟩
   refine G.r (Runs.assign rfl) ?_
   refine G.nt ?_
   refine W.seq ?_
   refine W.sr ?_
   refine G.r (Runs.move rfl) ?_
   refine G.r (Runs.lo (α := Int) (xs := lq) (l := 1) Tryd.underlying22 ty3 rfl rfl (by omega) Sl.o (by omega)) ?_
   refine G.r (Runs.lens Tryd.underlying22 rfl) ?_
   refine G.r (Runs.move rfl) ?_
   refine G.nt ?_
   refine W.sub (L' := [(34, _), (33, _), (32, _), (9, _), (1, _), (2, _), (7, _), (8, _)]) (Sub.cons rfl (Sub.cons rfl (Sub.cons rfl (Sub.cons rfl (Sub.cons rfl (Sub.cons rfl (Sub.cons rfl (Sub.cons rfl Sub.nil)))))))) ?_
   refine W.block ?_
   refine W.loop (σ := Nat × (Option Addr) × Nat × (List Int)) (fun s => ([(1, I64 (k)), (2, .pointer (some ⟨b1, 0, none⟩)), (7, .slice a rs.length c), (8, .slice la lq.length lc), (9, .slice s.2.1 s.2.2.2.length s.2.2.1), (32, .slice (adrop la lc 1 (Enc.sz Int)) (List.drop 1 lq).length (lc - 1)), (33, I64 ((((List.drop 1 lq).length : Nat) : Int))), (34, I64 (((s.1 : Nat) : Int)))] : Env)) (fun s => vc 3 (.slice s.2.1 s.2.2.2.length s.2.2.1) (s.2.2.2) :: vc 3 (.slice la lq.length lc) (lq) :: vc 22 (.slice a rs.length c) (rs) :: blk b1 [I64 (nd), va] 25 :: (ownR 3 rs ++ I)) (fun s => (s.1 ≤ (List.drop 1 lq).length) ∧ (s.2.2.2 = at_ lq 0 :: ((List.drop 1 lq).take s.1).filter (fun y => keB k es (at_ lq 0) y))) (fun s => (List.drop 1 lq).length - s.1) (0, ad4, 1, ([at_ lq 0] : List Int)) (show ((0 : Nat) ≤ (List.drop 1 lq).length) ∧ ((([at_ lq 0] : List Int) : List Int) = at_ lq 0 :: ((List.drop 1 lq).take (0 : Nat)).filter (fun y => keB k es (at_ lq 0) y)) from ⟨(by omega), rfl⟩) (Sub.cons rfl (Sub.cons rfl (Sub.cons rfl (Sub.cons rfl (Sub.cons (lookV rfl (by first | rfl | simp)) (Sub.cons rfl (Sub.cons rfl (Sub.cons lookO Sub.nil)))))))) (show Fit κ _ (vc 3 (.slice (ad4) (([at_ lq 0] : List Int)).length (1)) ((([at_ lq 0] : List Int))) :: vc 3 (.slice la lq.length lc) (lq) :: vc 22 (.slice a rs.length c) (rs) :: blk b1 [I64 (nd), va] 25 :: (ownR 3 rs ++ I)) from (by first | exact Fit.s | exact Fit.sub)) ?_
   rintro ⟨j, ca, cc, cx⟩ hp
   obtain ⟨hj, hc⟩ : (j ≤ (List.drop 1 lq).length) ∧ (cx = at_ lq 0 :: ((List.drop 1 lq).take j).filter (fun y => keB k es (at_ lq 0) y)) := hp
   show W Tryd.prog κ 64 _ _ ([(1, I64 (k)), (2, .pointer (some ⟨b1, 0, none⟩)), (7, .slice a rs.length c), (8, .slice la lq.length lc), (9, .slice ca cx.length cc), (32, .slice (adrop la lc 1 (Enc.sz Int)) (List.drop 1 lq).length (lc - 1)), (33, I64 ((((List.drop 1 lq).length : Nat) : Int))), (34, I64 (((j : Nat) : Int)))] : Env) (vc 3 (.slice ca cx.length cc) (cx) :: vc 3 (.slice la lq.length lc) (lq) :: vc 22 (.slice a rs.length c) (rs) :: blk b1 [I64 (nd), va] 25 :: (ownR 3 rs ++ I))
   have hdl : (List.drop 1 lq).length = lq.length - 1 := List.length_drop
   have hcl : cx.length ≤ 65 := by rw [hc, List.length_cons]; have h1 := List.length_filter_le (fun y => keB k es (at_ lq 0) y) ((List.drop 1 lq).take j); rw [List.length_take] at h1; omega
   have hen : j < (List.drop 1 lq).length → endsP nd (at_ lq 0) (at_ (List.drop 1 lq) ((j : Nat) : Int)) := fun h => by have h1 := first_lt hW.1 h; have h3 := hW.2 _ h1.2.1; have h4 := hW.2 _ h1.2.2; unfold endsP; omega
   refine W.sr ?_
   refine G.r (Runs.lss rfl rfl) ?_
   refine G.nt ?_
   refine W.seq ?_
   refine W.ite rfl (fun c35 => ?_) (fun c35 => ?_)
   ·refine W.skip ?_
    refine V.then ?_
    refine W.seq ?_
    refine W.block ?_
    refine W.sr ?_
    refine G.r (Runs.idx (α := Int) (xs := List.drop 1 lq) Tryd.underlying22 ty3 rfl rfl (Sl.drop Sl.o (by omega)) (by omega) (by omega)) ?_
    refine G.r (Runs.get (xs := List.drop 1 lq) ty3 rfl (Sl.drop Sl.o (by omega)) (by omega) (by omega)) ?_
    refine G.r (Runs.assign rfl) ?_
    have hen := hen (by omega)
    refine G.nt ?_
    refine W.seq ?_
    refine W.drawn mixed ?_
    refine A.hold (vc 3 (.slice ca cx.length cc) (cx) :: vc 3 (.slice la lq.length lc) (lq) :: vc 22 (.slice a rs.length c) (rs) :: blk b1 [I64 (nd), va] 25 :: (ownR 3 rs ++ I)) 12 ?_
    refine D.r 0 rfl (Runs.lds (vs := [_, _]) ty25) ?_
    refine D.r 1 rfl (Runs.move rfl) ?_
    refine D.r 2 rfl (Runs.idx (α := Int) (xs := lq) Tryd.underlying22 ty3 rfl rfl Sl.o (by omega) (by omega)) ?_
    refine D.r 3 rfl (Runs.get (xs := lq) ty3 rfl Sl.o (by omega) (by omega)) ?_
    refine D.r 4 rfl (Runs.move rfl) ?_
    refine D.step (rs := [5, 10]) (by kernel_rfl) rfl rfl (all2 ?_ (all1 ?_))
    ·refine Step.eff rfl (Wanted.plain rfl) (Eff.call call50 rfl rfl (Lambda17_ok (nd := nd) (Sl.f hl) (at_ lq 0) (at_ (List.drop 1 lq) ((j : Nat) : Int)) (by omega))) ?_
     rintro _ _ ⟨_, _, ⟨ad5, cp6, sd7, vl8, rfl, hsd7, rfl⟩, rfl, rfl⟩
     refine ⟨Fit.m, ?_⟩
     refine D.r 6 rfl (Runs.move rfl) ?_
     refine D.r 7 rfl (Runs.extract rfl rfl) ?_
     refine D.r 8 rfl (Runs.extract rfl rfl) ?_
     refine D.step (rs := [9, 10]) (by kernel_rfl) rfl rfl (all2 ?_ (all1 ?_))
     ·refine Step.read rfl (Wanted.plain rfl) rfl rfl (Runs.extract rfl rfl) Fit.m ?_
      refine D.step (rs := [10]) (by kernel_rfl) rfl rfl (all1 ?_)
      refine Step.eff rfl (Wanted.plain rfl) (Eff.alloc ty69 rfl) ?_
      rintro _ _ ⟨b9, rfl, rfl⟩
      refine ⟨Fit.m, ?_⟩
      refine D.r 11 rfl (Runs.assign rfl) ?_
      refine D.stop (by kernel_rfl) ?_
      refine A.eff (i := 12) (by kernel_rfl) rfl (Wanted.plain rfl) (Eff.st (cs := [_, _]) (vs := [_, _]) (cs' := [_, _]) ty69) ?_
      rintro _ _ ⟨rfl, rfl⟩
      refine A.read (i := 13) (by kernel_rfl) rfl (Wanted.plain rfl) rfl rfl (Runs.assign rfl) ?_
      refine A.done (by kernel_rfl) ?_
      refine V.then ?_
      refine W.sub (L' := [(12, _), (11, _), (1, _), (2, _), (7, _), (8, _), (9, _), (32, _), (33, _), (34, _)]) (Sub.cons rfl (Sub.cons rfl (Sub.cons rfl (Sub.cons rfl (Sub.cons rfl (Sub.cons rfl (Sub.cons rfl (Sub.cons rfl (Sub.cons rfl (Sub.cons rfl Sub.nil)))))))))) ?_
      refine W.sr ?_
      refine G.r (Runs.move rfl) ?_
      refine G.r (Runs.move rfl) ?_
      refine G.r (Runs.geq rfl rfl) ?_
      refine G.nt ?_
      refine W.ite rfl (fun c50 => ?_) (fun c50 => ?_)
      ·refine W.region ?_
       refine G.r (Runs.move rfl) ?_
       refine G.r (Runs.move rfl) ?_
       refine G.e (Eff.bs (α := Int) (cs := [_]) (xs := [at_ (List.drop 1 lq) ((j : Nat) : Int)]) Tryd.underlying22 ty3 rfl rfl (by decide) (by decide) rfl rfl rfl rfl) ?_
       rintro _ _ ⟨ad10, rfl, rfl⟩
       refine G.e (Eff.app (α := Int) (e := 3) (xs := cx) (ys := ([at_ (List.drop 1 lq) ((j : Nat) : Int)] : List Int)) Tryd.underlying22 ty3 rfl rfl rfl (by repeat (first | exact List.mem_cons_self | apply List.mem_cons_of_mem)) Sl.o (by simp only [List.length_cons, List.length_nil]; omega) (by decide) rfl (fun _ _ => (by repeat (first | exact At.head _ _ _ | apply At.tail)))) ?_
       rintro _ _ ⟨ad11, cp12, rfl, rfl⟩
       refine G.r (Runs.assign rfl) ?_
       refine G.nil ?_
       refine V.block_normal ?_
       refine V.then ?_
       refine W.sub (L' := [(9, _), (1, _), (2, _), (7, _), (8, _), (32, _), (33, _), (34, _)]) (Sub.cons rfl (Sub.cons rfl (Sub.cons rfl (Sub.cons rfl (Sub.cons rfl (Sub.cons rfl (Sub.cons rfl (Sub.cons rfl Sub.nil)))))))) ?_
       refine W.region ?_
       refine G.r (Runs.add rfl rfl (by unfold InR; omega)) ?_
       refine G.r (Runs.move rfl) ?_
       refine G.nil ?_
       have hms := hsd7.2 (lamE_zero.2 ⟨hG, hen⟩)
       have hkn := hms.ke (k := k)
       exact V.next ((j + 1), (ad11), (cp12), (cx ++ ([at_ (List.drop 1 lq) ((j : Nat) : Int)] : List Int))) (show ((j + 1 : Nat) ≤ (List.drop 1 lq).length) ∧ ((cx ++ ([at_ (List.drop 1 lq) ((j : Nat) : Int)] : List Int) : List Int) = at_ lq 0 :: ((List.drop 1 lq).take (j + 1 : Nat)).filter (fun y => keB k es (at_ lq 0) y)) from ⟨(by omega), (by rw [filter_take_yes _ _ j (by omega) (keB_iff.2 (hkn.1 (by omega))), hc]; rfl)⟩) (show (List.drop 1 lq).length - (j + 1 : Nat) < (List.drop 1 lq).length - j from (by omega)) (Sub.cons rfl (Sub.cons rfl (Sub.cons rfl (Sub.cons rfl (Sub.cons (lookV rfl (by first | rfl | simp)) (Sub.cons rfl (Sub.cons rfl (Sub.cons lookO Sub.nil)))))))) (show Fit κ _ (vc 3 (.slice (ad11) (cx ++ ([at_ (List.drop 1 lq) ((j : Nat) : Int)] : List Int)).length (cp12)) ((cx ++ ([at_ (List.drop 1 lq) ((j : Nat) : Int)] : List Int))) :: vc 3 (.slice la lq.length lc) (lq) :: vc 22 (.slice a rs.length c) (rs) :: blk b1 [I64 (nd), va] 25 :: (ownR 3 rs ++ I)) from (by first | exact Fit.s | exact Fit.sub))
      ·refine W.skip ?_
       refine V.block_normal ?_
       refine V.then ?_
       refine W.region ?_
       refine G.r (Runs.add rfl rfl (by unfold InR; omega)) ?_
       refine G.r (Runs.move rfl) ?_
       refine G.nil ?_
       have hms := hsd7.2 (lamE_zero.2 ⟨hG, hen⟩)
       have hkn := hms.ke (k := k)
       exact V.next ((j + 1), (ca), (cc), (cx)) (show ((j + 1 : Nat) ≤ (List.drop 1 lq).length) ∧ ((cx : List Int) = at_ lq 0 :: ((List.drop 1 lq).take (j + 1 : Nat)).filter (fun y => keB k es (at_ lq 0) y)) from ⟨(by omega), (by rw [filter_take_no _ _ j (by omega) (by rw [← Bool.not_eq_true, keB_iff, ← hkn]; omega)]; exact hc)⟩) (show (List.drop 1 lq).length - (j + 1 : Nat) < (List.drop 1 lq).length - j from (by omega)) (Sub.cons rfl (Sub.cons rfl (Sub.cons rfl (Sub.cons rfl (Sub.cons (lookV rfl (by first | rfl | simp)) (Sub.cons rfl (Sub.cons rfl (Sub.cons lookO Sub.nil)))))))) (show Fit κ _ (vc 3 (.slice (ca) (cx).length (cc)) ((cx)) :: vc 3 (.slice la lq.length lc) (lq) :: vc 22 (.slice a rs.length c) (rs) :: blk b1 [I64 (nd), va] 25 :: (ownR 3 rs ++ I)) from (by first | exact Fit.s | exact Fit.sub))
     ·refine Step.eff rfl (Wanted.plain rfl) (Eff.alloc ty69 rfl) ?_
      rintro _ _ ⟨b13, rfl, rfl⟩
      refine ⟨Fit.m, ?_⟩
      refine D.r 11 rfl (Runs.assign rfl) ?_
      refine D.step (rs := [9, 12]) (by kernel_rfl) rfl rfl (all2 ?_ (all1 ?_))
      ·refine Step.read rfl (Wanted.plain rfl) rfl rfl (Runs.extract rfl rfl) Fit.m ?_
       refine D.stop (by kernel_rfl) ?_
       refine A.eff (i := 12) (by kernel_rfl) rfl (Wanted.plain rfl) (Eff.st (cs := [_, _]) (vs := [_, _]) (cs' := [_, _]) ty69) ?_
       rintro _ _ ⟨rfl, rfl⟩
       refine A.read (i := 13) (by kernel_rfl) rfl (Wanted.plain rfl) rfl rfl (Runs.assign rfl) ?_
       refine A.done (by kernel_rfl) ?_
       refine V.then ?_
       refine W.sub (L' := [(12, _), (11, _), (1, _), (2, _), (7, _), (8, _), (9, _), (32, _), (33, _), (34, _)]) (Sub.cons rfl (Sub.cons rfl (Sub.cons rfl (Sub.cons rfl (Sub.cons rfl (Sub.cons rfl (Sub.cons rfl (Sub.cons rfl (Sub.cons rfl (Sub.cons rfl Sub.nil)))))))))) ?_
       refine W.sr ?_
       refine G.r (Runs.move rfl) ?_
       refine G.r (Runs.move rfl) ?_
       refine G.r (Runs.geq rfl rfl) ?_
       refine G.nt ?_
       refine W.ite rfl (fun c50 => ?_) (fun c50 => ?_)
       ·refine W.region ?_
        refine G.r (Runs.move rfl) ?_
        refine G.r (Runs.move rfl) ?_
        refine G.e (Eff.bs (α := Int) (cs := [_]) (xs := [at_ (List.drop 1 lq) ((j : Nat) : Int)]) Tryd.underlying22 ty3 rfl rfl (by decide) (by decide) rfl rfl rfl rfl) ?_
        rintro _ _ ⟨ad14, rfl, rfl⟩
        refine G.e (Eff.app (α := Int) (e := 3) (xs := cx) (ys := ([at_ (List.drop 1 lq) ((j : Nat) : Int)] : List Int)) Tryd.underlying22 ty3 rfl rfl rfl (by repeat (first | exact List.mem_cons_self | apply List.mem_cons_of_mem)) Sl.o (by simp only [List.length_cons, List.length_nil]; omega) (by decide) rfl (fun _ _ => (by repeat (first | exact At.head _ _ _ | apply At.tail)))) ?_
        rintro _ _ ⟨ad15, cp16, rfl, rfl⟩
        refine G.r (Runs.assign rfl) ?_
        refine G.nil ?_
        refine V.block_normal ?_
        refine V.then ?_
        refine W.sub (L' := [(9, _), (1, _), (2, _), (7, _), (8, _), (32, _), (33, _), (34, _)]) (Sub.cons rfl (Sub.cons rfl (Sub.cons rfl (Sub.cons rfl (Sub.cons rfl (Sub.cons rfl (Sub.cons rfl (Sub.cons rfl Sub.nil)))))))) ?_
        refine W.region ?_
        refine G.r (Runs.add rfl rfl (by unfold InR; omega)) ?_
        refine G.r (Runs.move rfl) ?_
        refine G.nil ?_
        have hms := hsd7.2 (lamE_zero.2 ⟨hG, hen⟩)
        have hkn := hms.ke (k := k)
        exact V.next ((j + 1), (ad15), (cp16), (cx ++ ([at_ (List.drop 1 lq) ((j : Nat) : Int)] : List Int))) (show ((j + 1 : Nat) ≤ (List.drop 1 lq).length) ∧ ((cx ++ ([at_ (List.drop 1 lq) ((j : Nat) : Int)] : List Int) : List Int) = at_ lq 0 :: ((List.drop 1 lq).take (j + 1 : Nat)).filter (fun y => keB k es (at_ lq 0) y)) from ⟨(by omega), (by rw [filter_take_yes _ _ j (by omega) (keB_iff.2 (hkn.1 (by omega))), hc]; rfl)⟩) (show (List.drop 1 lq).length - (j + 1 : Nat) < (List.drop 1 lq).length - j from (by omega)) (Sub.cons rfl (Sub.cons rfl (Sub.cons rfl (Sub.cons rfl (Sub.cons (lookV rfl (by first | rfl | simp)) (Sub.cons rfl (Sub.cons rfl (Sub.cons lookO Sub.nil)))))))) (show Fit κ _ (vc 3 (.slice (ad15) (cx ++ ([at_ (List.drop 1 lq) ((j : Nat) : Int)] : List Int)).length (cp16)) ((cx ++ ([at_ (List.drop 1 lq) ((j : Nat) : Int)] : List Int))) :: vc 3 (.slice la lq.length lc) (lq) :: vc 22 (.slice a rs.length c) (rs) :: blk b1 [I64 (nd), va] 25 :: (ownR 3 rs ++ I)) from (by first | exact Fit.s | exact Fit.sub))
       ·refine W.skip ?_
        refine V.block_normal ?_
        refine V.then ?_
        refine W.region ?_
        refine G.r (Runs.add rfl rfl (by unfold InR; omega)) ?_
        refine G.r (Runs.move rfl) ?_
        refine G.nil ?_
        have hms := hsd7.2 (lamE_zero.2 ⟨hG, hen⟩)
        have hkn := hms.ke (k := k)
        exact V.next ((j + 1), (ca), (cc), (cx)) (show ((j + 1 : Nat) ≤ (List.drop 1 lq).length) ∧ ((cx : List Int) = at_ lq 0 :: ((List.drop 1 lq).take (j + 1 : Nat)).filter (fun y => keB k es (at_ lq 0) y)) from ⟨(by omega), (by rw [filter_take_no _ _ j (by omega) (by rw [← Bool.not_eq_true, keB_iff, ← hkn]; omega)]; exact hc)⟩) (show (List.drop 1 lq).length - (j + 1 : Nat) < (List.drop 1 lq).length - j from (by omega)) (Sub.cons rfl (Sub.cons rfl (Sub.cons rfl (Sub.cons rfl (Sub.cons (lookV rfl (by first | rfl | simp)) (Sub.cons rfl (Sub.cons rfl (Sub.cons lookO Sub.nil)))))))) (show Fit κ _ (vc 3 (.slice (ca) (cx).length (cc)) ((cx)) :: vc 3 (.slice la lq.length lc) (lq) :: vc 22 (.slice a rs.length c) (rs) :: blk b1 [I64 (nd), va] 25 :: (ownR 3 rs ++ I)) from (by first | exact Fit.s | exact Fit.sub))
      ·refine Step.eff rfl (Wanted.plain rfl) (Eff.st (cs := [_, _]) (vs := [_, _]) (cs' := [_, _]) ty69) ?_
       rintro _ _ ⟨rfl, rfl⟩
       refine ⟨Fit.m, ?_⟩
       refine D.step (rs := [9]) (by kernel_rfl) rfl rfl (all1 ?_)
       refine Step.read rfl (Wanted.plain rfl) rfl rfl (Runs.extract rfl rfl) Fit.m ?_
       refine D.step (rs := [13]) (by kernel_rfl) rfl rfl (all1 ?_)
       refine Step.read rfl (Wanted.plain rfl) rfl rfl (Runs.assign rfl) Fit.m ?_
       refine D.done (by kernel_rfl) ?_
       refine V.then ?_
       refine W.sub (L' := [(12, _), (11, _), (1, _), (2, _), (7, _), (8, _), (9, _), (32, _), (33, _), (34, _)]) (Sub.cons rfl (Sub.cons rfl (Sub.cons rfl (Sub.cons rfl (Sub.cons rfl (Sub.cons rfl (Sub.cons rfl (Sub.cons rfl (Sub.cons rfl (Sub.cons rfl Sub.nil)))))))))) ?_
       refine W.sr ?_
       refine G.r (Runs.move rfl) ?_
       refine G.r (Runs.move rfl) ?_
       refine G.r (Runs.geq rfl rfl) ?_
       refine G.nt ?_
       refine W.ite rfl (fun c50 => ?_) (fun c50 => ?_)
       ·refine W.region ?_
        refine G.r (Runs.move rfl) ?_
        refine G.r (Runs.move rfl) ?_
        refine G.e (Eff.bs (α := Int) (cs := [_]) (xs := [at_ (List.drop 1 lq) ((j : Nat) : Int)]) Tryd.underlying22 ty3 rfl rfl (by decide) (by decide) rfl rfl rfl rfl) ?_
        rintro _ _ ⟨ad17, rfl, rfl⟩
        refine G.e (Eff.app (α := Int) (e := 3) (xs := cx) (ys := ([at_ (List.drop 1 lq) ((j : Nat) : Int)] : List Int)) Tryd.underlying22 ty3 rfl rfl rfl (by repeat (first | exact List.mem_cons_self | apply List.mem_cons_of_mem)) Sl.o (by simp only [List.length_cons, List.length_nil]; omega) (by decide) rfl (fun _ _ => (by repeat (first | exact At.head _ _ _ | apply At.tail)))) ?_
        rintro _ _ ⟨ad18, cp19, rfl, rfl⟩
        refine G.r (Runs.assign rfl) ?_
        refine G.nil ?_
        refine V.block_normal ?_
        refine V.then ?_
        refine W.sub (L' := [(9, _), (1, _), (2, _), (7, _), (8, _), (32, _), (33, _), (34, _)]) (Sub.cons rfl (Sub.cons rfl (Sub.cons rfl (Sub.cons rfl (Sub.cons rfl (Sub.cons rfl (Sub.cons rfl (Sub.cons rfl Sub.nil)))))))) ?_
        refine W.region ?_
        refine G.r (Runs.add rfl rfl (by unfold InR; omega)) ?_
        refine G.r (Runs.move rfl) ?_
        refine G.nil ?_
        have hms := hsd7.2 (lamE_zero.2 ⟨hG, hen⟩)
        have hkn := hms.ke (k := k)
        exact V.next ((j + 1), (ad18), (cp19), (cx ++ ([at_ (List.drop 1 lq) ((j : Nat) : Int)] : List Int))) (show ((j + 1 : Nat) ≤ (List.drop 1 lq).length) ∧ ((cx ++ ([at_ (List.drop 1 lq) ((j : Nat) : Int)] : List Int) : List Int) = at_ lq 0 :: ((List.drop 1 lq).take (j + 1 : Nat)).filter (fun y => keB k es (at_ lq 0) y)) from ⟨(by omega), (by rw [filter_take_yes _ _ j (by omega) (keB_iff.2 (hkn.1 (by omega))), hc]; rfl)⟩) (show (List.drop 1 lq).length - (j + 1 : Nat) < (List.drop 1 lq).length - j from (by omega)) (Sub.cons rfl (Sub.cons rfl (Sub.cons rfl (Sub.cons rfl (Sub.cons (lookV rfl (by first | rfl | simp)) (Sub.cons rfl (Sub.cons rfl (Sub.cons lookO Sub.nil)))))))) (show Fit κ _ (vc 3 (.slice (ad18) (cx ++ ([at_ (List.drop 1 lq) ((j : Nat) : Int)] : List Int)).length (cp19)) ((cx ++ ([at_ (List.drop 1 lq) ((j : Nat) : Int)] : List Int))) :: vc 3 (.slice la lq.length lc) (lq) :: vc 22 (.slice a rs.length c) (rs) :: blk b1 [I64 (nd), va] 25 :: (ownR 3 rs ++ I)) from (by first | exact Fit.s | exact Fit.sub))
       ·refine W.skip ?_
        refine V.block_normal ?_
        refine V.then ?_
        refine W.region ?_
        refine G.r (Runs.add rfl rfl (by unfold InR; omega)) ?_
        refine G.r (Runs.move rfl) ?_
        refine G.nil ?_
        have hms := hsd7.2 (lamE_zero.2 ⟨hG, hen⟩)
        have hkn := hms.ke (k := k)
        exact V.next ((j + 1), (ca), (cc), (cx)) (show ((j + 1 : Nat) ≤ (List.drop 1 lq).length) ∧ ((cx : List Int) = at_ lq 0 :: ((List.drop 1 lq).take (j + 1 : Nat)).filter (fun y => keB k es (at_ lq 0) y)) from ⟨(by omega), (by rw [filter_take_no _ _ j (by omega) (by rw [← Bool.not_eq_true, keB_iff, ← hkn]; omega)]; exact hc)⟩) (show (List.drop 1 lq).length - (j + 1 : Nat) < (List.drop 1 lq).length - j from (by omega)) (Sub.cons rfl (Sub.cons rfl (Sub.cons rfl (Sub.cons rfl (Sub.cons (lookV rfl (by first | rfl | simp)) (Sub.cons rfl (Sub.cons rfl (Sub.cons lookO Sub.nil)))))))) (show Fit κ _ (vc 3 (.slice (ca) (cx).length (cc)) ((cx)) :: vc 3 (.slice la lq.length lc) (lq) :: vc 22 (.slice a rs.length c) (rs) :: blk b1 [I64 (nd), va] 25 :: (ownR 3 rs ++ I)) from (by first | exact Fit.s | exact Fit.sub))
    ·refine Step.eff rfl (Wanted.plain rfl) (Eff.alloc ty69 rfl) ?_
     rintro _ _ ⟨b20, rfl, rfl⟩
     refine ⟨Fit.m, ?_⟩
     refine D.step (rs := [5]) (by kernel_rfl) rfl rfl (all1 ?_)
     refine Step.eff rfl (Wanted.plain rfl) (Eff.call call50 rfl rfl (Lambda17_ok (nd := nd) (Sl.f hl) (at_ lq 0) (at_ (List.drop 1 lq) ((j : Nat) : Int)) (by omega))) ?_
     rintro _ _ ⟨_, _, ⟨ad21, cp22, sd23, vl24, rfl, hsd23, rfl⟩, rfl, rfl⟩
     refine ⟨Fit.m, ?_⟩
     refine D.r 6 rfl (Runs.move rfl) ?_
     refine D.r 7 rfl (Runs.extract rfl rfl) ?_
     refine D.r 8 rfl (Runs.extract rfl rfl) ?_
     refine D.r 11 rfl (Runs.assign rfl) ?_
     refine D.step (rs := [9, 12]) (by kernel_rfl) rfl rfl (all2 ?_ (all1 ?_))
     ·refine Step.read rfl (Wanted.plain rfl) rfl rfl (Runs.extract rfl rfl) Fit.m ?_
      refine D.stop (by kernel_rfl) ?_
      refine A.eff (i := 12) (by kernel_rfl) rfl (Wanted.plain rfl) (Eff.st (cs := [_, _]) (vs := [_, _]) (cs' := [_, _]) ty69) ?_
      rintro _ _ ⟨rfl, rfl⟩
      refine A.read (i := 13) (by kernel_rfl) rfl (Wanted.plain rfl) rfl rfl (Runs.assign rfl) ?_
      refine A.done (by kernel_rfl) ?_
      refine V.then ?_
      refine W.sub (L' := [(12, _), (11, _), (1, _), (2, _), (7, _), (8, _), (9, _), (32, _), (33, _), (34, _)]) (Sub.cons rfl (Sub.cons rfl (Sub.cons rfl (Sub.cons rfl (Sub.cons rfl (Sub.cons rfl (Sub.cons rfl (Sub.cons rfl (Sub.cons rfl (Sub.cons rfl Sub.nil)))))))))) ?_
      refine W.sr ?_
      refine G.r (Runs.move rfl) ?_
      refine G.r (Runs.move rfl) ?_
      refine G.r (Runs.geq rfl rfl) ?_
      refine G.nt ?_
      refine W.ite rfl (fun c50 => ?_) (fun c50 => ?_)
      ·refine W.region ?_
       refine G.r (Runs.move rfl) ?_
       refine G.r (Runs.move rfl) ?_
       refine G.e (Eff.bs (α := Int) (cs := [_]) (xs := [at_ (List.drop 1 lq) ((j : Nat) : Int)]) Tryd.underlying22 ty3 rfl rfl (by decide) (by decide) rfl rfl rfl rfl) ?_
       rintro _ _ ⟨ad25, rfl, rfl⟩
       refine G.e (Eff.app (α := Int) (e := 3) (xs := cx) (ys := ([at_ (List.drop 1 lq) ((j : Nat) : Int)] : List Int)) Tryd.underlying22 ty3 rfl rfl rfl (by repeat (first | exact List.mem_cons_self | apply List.mem_cons_of_mem)) Sl.o (by simp only [List.length_cons, List.length_nil]; omega) (by decide) rfl (fun _ _ => (by repeat (first | exact At.head _ _ _ | apply At.tail)))) ?_
       rintro _ _ ⟨ad26, cp27, rfl, rfl⟩
       refine G.r (Runs.assign rfl) ?_
       refine G.nil ?_
       refine V.block_normal ?_
       refine V.then ?_
       refine W.sub (L' := [(9, _), (1, _), (2, _), (7, _), (8, _), (32, _), (33, _), (34, _)]) (Sub.cons rfl (Sub.cons rfl (Sub.cons rfl (Sub.cons rfl (Sub.cons rfl (Sub.cons rfl (Sub.cons rfl (Sub.cons rfl Sub.nil)))))))) ?_
       refine W.region ?_
       refine G.r (Runs.add rfl rfl (by unfold InR; omega)) ?_
       refine G.r (Runs.move rfl) ?_
       refine G.nil ?_
       have hms := hsd23.2 (lamE_zero.2 ⟨hG, hen⟩)
       have hkn := hms.ke (k := k)
       exact V.next ((j + 1), (ad26), (cp27), (cx ++ ([at_ (List.drop 1 lq) ((j : Nat) : Int)] : List Int))) (show ((j + 1 : Nat) ≤ (List.drop 1 lq).length) ∧ ((cx ++ ([at_ (List.drop 1 lq) ((j : Nat) : Int)] : List Int) : List Int) = at_ lq 0 :: ((List.drop 1 lq).take (j + 1 : Nat)).filter (fun y => keB k es (at_ lq 0) y)) from ⟨(by omega), (by rw [filter_take_yes _ _ j (by omega) (keB_iff.2 (hkn.1 (by omega))), hc]; rfl)⟩) (show (List.drop 1 lq).length - (j + 1 : Nat) < (List.drop 1 lq).length - j from (by omega)) (Sub.cons rfl (Sub.cons rfl (Sub.cons rfl (Sub.cons rfl (Sub.cons (lookV rfl (by first | rfl | simp)) (Sub.cons rfl (Sub.cons rfl (Sub.cons lookO Sub.nil)))))))) (show Fit κ _ (vc 3 (.slice (ad26) (cx ++ ([at_ (List.drop 1 lq) ((j : Nat) : Int)] : List Int)).length (cp27)) ((cx ++ ([at_ (List.drop 1 lq) ((j : Nat) : Int)] : List Int))) :: vc 3 (.slice la lq.length lc) (lq) :: vc 22 (.slice a rs.length c) (rs) :: blk b1 [I64 (nd), va] 25 :: (ownR 3 rs ++ I)) from (by first | exact Fit.s | exact Fit.sub))
      ·refine W.skip ?_
       refine V.block_normal ?_
       refine V.then ?_
       refine W.region ?_
       refine G.r (Runs.add rfl rfl (by unfold InR; omega)) ?_
       refine G.r (Runs.move rfl) ?_
       refine G.nil ?_
       have hms := hsd23.2 (lamE_zero.2 ⟨hG, hen⟩)
       have hkn := hms.ke (k := k)
       exact V.next ((j + 1), (ca), (cc), (cx)) (show ((j + 1 : Nat) ≤ (List.drop 1 lq).length) ∧ ((cx : List Int) = at_ lq 0 :: ((List.drop 1 lq).take (j + 1 : Nat)).filter (fun y => keB k es (at_ lq 0) y)) from ⟨(by omega), (by rw [filter_take_no _ _ j (by omega) (by rw [← Bool.not_eq_true, keB_iff, ← hkn]; omega)]; exact hc)⟩) (show (List.drop 1 lq).length - (j + 1 : Nat) < (List.drop 1 lq).length - j from (by omega)) (Sub.cons rfl (Sub.cons rfl (Sub.cons rfl (Sub.cons rfl (Sub.cons (lookV rfl (by first | rfl | simp)) (Sub.cons rfl (Sub.cons rfl (Sub.cons lookO Sub.nil)))))))) (show Fit κ _ (vc 3 (.slice (ca) (cx).length (cc)) ((cx)) :: vc 3 (.slice la lq.length lc) (lq) :: vc 22 (.slice a rs.length c) (rs) :: blk b1 [I64 (nd), va] 25 :: (ownR 3 rs ++ I)) from (by first | exact Fit.s | exact Fit.sub))
     ·refine Step.eff rfl (Wanted.plain rfl) (Eff.st (cs := [_, _]) (vs := [_, _]) (cs' := [_, _]) ty69) ?_
      rintro _ _ ⟨rfl, rfl⟩
      refine ⟨Fit.m, ?_⟩
      refine D.step (rs := [9]) (by kernel_rfl) rfl rfl (all1 ?_)
      refine Step.read rfl (Wanted.plain rfl) rfl rfl (Runs.extract rfl rfl) Fit.m ?_
      refine D.step (rs := [13]) (by kernel_rfl) rfl rfl (all1 ?_)
      refine Step.read rfl (Wanted.plain rfl) rfl rfl (Runs.assign rfl) Fit.m ?_
      refine D.done (by kernel_rfl) ?_
      refine V.then ?_
      refine W.sub (L' := [(12, _), (11, _), (1, _), (2, _), (7, _), (8, _), (9, _), (32, _), (33, _), (34, _)]) (Sub.cons rfl (Sub.cons rfl (Sub.cons rfl (Sub.cons rfl (Sub.cons rfl (Sub.cons rfl (Sub.cons rfl (Sub.cons rfl (Sub.cons rfl (Sub.cons rfl Sub.nil)))))))))) ?_
      refine W.sr ?_
      refine G.r (Runs.move rfl) ?_
      refine G.r (Runs.move rfl) ?_
      refine G.r (Runs.geq rfl rfl) ?_
      refine G.nt ?_
      refine W.ite rfl (fun c50 => ?_) (fun c50 => ?_)
      ·refine W.region ?_
       refine G.r (Runs.move rfl) ?_
       refine G.r (Runs.move rfl) ?_
       refine G.e (Eff.bs (α := Int) (cs := [_]) (xs := [at_ (List.drop 1 lq) ((j : Nat) : Int)]) Tryd.underlying22 ty3 rfl rfl (by decide) (by decide) rfl rfl rfl rfl) ?_
       rintro _ _ ⟨ad28, rfl, rfl⟩
       refine G.e (Eff.app (α := Int) (e := 3) (xs := cx) (ys := ([at_ (List.drop 1 lq) ((j : Nat) : Int)] : List Int)) Tryd.underlying22 ty3 rfl rfl rfl (by repeat (first | exact List.mem_cons_self | apply List.mem_cons_of_mem)) Sl.o (by simp only [List.length_cons, List.length_nil]; omega) (by decide) rfl (fun _ _ => (by repeat (first | exact At.head _ _ _ | apply At.tail)))) ?_
       rintro _ _ ⟨ad29, cp30, rfl, rfl⟩
       refine G.r (Runs.assign rfl) ?_
       refine G.nil ?_
       refine V.block_normal ?_
       refine V.then ?_
       refine W.sub (L' := [(9, _), (1, _), (2, _), (7, _), (8, _), (32, _), (33, _), (34, _)]) (Sub.cons rfl (Sub.cons rfl (Sub.cons rfl (Sub.cons rfl (Sub.cons rfl (Sub.cons rfl (Sub.cons rfl (Sub.cons rfl Sub.nil)))))))) ?_
       refine W.region ?_
       refine G.r (Runs.add rfl rfl (by unfold InR; omega)) ?_
       refine G.r (Runs.move rfl) ?_
       refine G.nil ?_
       have hms := hsd23.2 (lamE_zero.2 ⟨hG, hen⟩)
       have hkn := hms.ke (k := k)
       exact V.next ((j + 1), (ad29), (cp30), (cx ++ ([at_ (List.drop 1 lq) ((j : Nat) : Int)] : List Int))) (show ((j + 1 : Nat) ≤ (List.drop 1 lq).length) ∧ ((cx ++ ([at_ (List.drop 1 lq) ((j : Nat) : Int)] : List Int) : List Int) = at_ lq 0 :: ((List.drop 1 lq).take (j + 1 : Nat)).filter (fun y => keB k es (at_ lq 0) y)) from ⟨(by omega), (by rw [filter_take_yes _ _ j (by omega) (keB_iff.2 (hkn.1 (by omega))), hc]; rfl)⟩) (show (List.drop 1 lq).length - (j + 1 : Nat) < (List.drop 1 lq).length - j from (by omega)) (Sub.cons rfl (Sub.cons rfl (Sub.cons rfl (Sub.cons rfl (Sub.cons (lookV rfl (by first | rfl | simp)) (Sub.cons rfl (Sub.cons rfl (Sub.cons lookO Sub.nil)))))))) (show Fit κ _ (vc 3 (.slice (ad29) (cx ++ ([at_ (List.drop 1 lq) ((j : Nat) : Int)] : List Int)).length (cp30)) ((cx ++ ([at_ (List.drop 1 lq) ((j : Nat) : Int)] : List Int))) :: vc 3 (.slice la lq.length lc) (lq) :: vc 22 (.slice a rs.length c) (rs) :: blk b1 [I64 (nd), va] 25 :: (ownR 3 rs ++ I)) from (by first | exact Fit.s | exact Fit.sub))
      ·refine W.skip ?_
       refine V.block_normal ?_
       refine V.then ?_
       refine W.region ?_
       refine G.r (Runs.add rfl rfl (by unfold InR; omega)) ?_
       refine G.r (Runs.move rfl) ?_
       refine G.nil ?_
       have hms := hsd23.2 (lamE_zero.2 ⟨hG, hen⟩)
       have hkn := hms.ke (k := k)
       exact V.next ((j + 1), (ca), (cc), (cx)) (show ((j + 1 : Nat) ≤ (List.drop 1 lq).length) ∧ ((cx : List Int) = at_ lq 0 :: ((List.drop 1 lq).take (j + 1 : Nat)).filter (fun y => keB k es (at_ lq 0) y)) from ⟨(by omega), (by rw [filter_take_no _ _ j (by omega) (by rw [← Bool.not_eq_true, keB_iff, ← hkn]; omega)]; exact hc)⟩) (show (List.drop 1 lq).length - (j + 1 : Nat) < (List.drop 1 lq).length - j from (by omega)) (Sub.cons rfl (Sub.cons rfl (Sub.cons rfl (Sub.cons rfl (Sub.cons (lookV rfl (by first | rfl | simp)) (Sub.cons rfl (Sub.cons rfl (Sub.cons lookO Sub.nil)))))))) (show Fit κ _ (vc 3 (.slice (ca) (cx).length (cc)) ((cx)) :: vc 3 (.slice la lq.length lc) (lq) :: vc 22 (.slice a rs.length c) (rs) :: blk b1 [I64 (nd), va] 25 :: (ownR 3 rs ++ I)) from (by first | exact Fit.s | exact Fit.sub))
   ·refine W.exit ?_
    refine V.then_exit ?_
    refine V.then_exit ?_
    refine V.block_hit ?_
    refine V.then ?_
    refine W.region ?_
    refine G.r (Runs.move rfl) ?_
    refine G.r (Runs.move rfl) ?_
    refine G.e (Eff.bs (α := (RowG Int)) (cs := [_]) (xs := [⟨ca, cc, cx⟩]) Tryd.underlying50 ty22 rfl rfl (by decide) (by decide) rfl rfl rfl rfl) ?_
    rintro _ _ ⟨ad31, rfl, rfl⟩
    refine G.e (Eff.app (α := (RowG Int)) (e := 22) (xs := rs) (ys := ([⟨ca, cc, cx⟩] : List (RowG Int))) Tryd.underlying50 ty22 rfl rfl rfl (by repeat (first | exact List.mem_cons_self | apply List.mem_cons_of_mem)) Sl.o (by simp only [List.length_cons, List.length_nil]; omega) (by decide) rfl (fun _ _ => (by repeat (first | exact At.head _ _ _ | apply At.tail)))) ?_
    rintro _ _ ⟨ad32, cp33, rfl, rfl⟩
    refine G.r (Runs.move rfl) ?_
    refine G.r (Runs.move rfl) ?_
    refine G.e (Eff.call call46 rfl rfl (Minus_ok Sl.o Sl.o (by omega))) ?_
    rintro _ _ ⟨_, _, ⟨ad34, cp35, rfl, rfl⟩, rfl, rfl⟩
    refine G.r (Runs.assign rfl) ?_
    refine G.r (Runs.assign rfl) ?_
    refine G.nil ?_
    refine V.block_normal ?_
    have hcx : cx = lq.filter fun y => keB k es (at_ lq 0) y := by rw [hc, List.take_of_length_le (by omega)]; exact cls_first (by omega) (keB_refl _ _ _)
    have hmx : minusL lq cx = lq.filter fun y => !keB k es (at_ lq 0) y := by rw [hcx]; exact cls_left hW.1 _
    have hls := cls_less (R := keB k es) (show 0 < lq.length by omega) (keB_refl _ _ _)
    exact V.next ((minusL lq cx), (ad34), (cp35), (ad32), (cp33), (rs ++ [(⟨ca, cc, cx⟩ : RowG Int)]), (n - 1)) (show (clsL (keB k es) 64 (rangeI nd) = (rs ++ [(⟨ca, cc, cx⟩ : RowG Int)] : List (RowG Int)).map RowG.xs ++ clsL (keB k es) (n - 1 : Nat) (minusL lq cx : List Int)) ∧ ((minusL lq cx : List Int).length ≤ (n - 1 : Nat) ∧ (n - 1 : Nat) + (rs ++ [(⟨ca, cc, cx⟩ : RowG Int)] : List (RowG Int)).length ≤ 64) ∧ ((minusL lq cx : List Int).Pairwise (fun y1 y2 : Int => y1 < y2) ∧ ∀ x ∈ (minusL lq cx : List Int), 0 ≤ x ∧ x < nd) from ⟨(by obtain ⟨n0, hn0⟩ : ∃ n0, n = n0 + 1 := ⟨n - 1, by omega⟩; rw [hg, hmx, hn0, clsL_step (keB k es) (show 0 < lq.length by omega), List.map_append, List.append_assoc, ← hcx]; rfl), (by rw [hmx]; simp only [List.length_append, List.length_cons, List.length_nil]; omega), ⟨minus_asc _ _, fun x hx => hW.2 x (mem_minusL.1 hx).1⟩⟩) (show (n - 1 : Nat) < n from (by omega)) (Sub.cons rfl (Sub.cons rfl (Sub.cons (lookV rfl (by first | rfl | simp)) (Sub.cons (lookV rfl (by first | rfl | simp)) Sub.nil)))) (show Fit κ _ (vc 3 (.slice (ad34) (minusL lq cx).length (cp35)) ((minusL lq cx)) :: vc 22 (.slice (ad32) (rs ++ [(⟨ca, cc, cx⟩ : RowG Int)]).length (cp33)) ((rs ++ [(⟨ca, cc, cx⟩ : RowG Int)])) :: blk b1 [I64 (nd), va] 25 :: (ownR 3 (rs ++ [(⟨ca, cc, cx⟩ : RowG Int)]) ++ I)) from (Fit.trans (show Fit κ _ ([vc 3 (.slice ad34 (minusL lq cx).length cp35) (minusL lq cx), vc 22 (.slice ad32 (rs ++ [(⟨ca, cc, cx⟩ : RowG Int)]).length cp33) (rs ++ [(⟨ca, cc, cx⟩ : RowG Int)]), blk b1 [I64 (nd), va] 25] ++ vc 3 (.slice ca cx.length cc) (cx) :: (ownR 3 rs ++ I)) from (by first | exact Fit.s | exact Fit.sub)) (Fit.ownR_snoc (r := (⟨ca, cc, cx⟩ : RowG Int)))))
  ·refine W.exit ?_
   refine V.then_exit ?_
   refine V.then_exit ?_
   refine V.block_hit ?_
   refine V.then ?_
   refine W.sr ?_
   refine G.r (Runs.move rfl) ?_
   refine G.r (Runs.assign rfl) ?_
   refine G.r (Runs.assign rfl) ?_
   refine G.nt ?_
   refine W.ret ?_
   have hA : askE nd es k = 0 := Classical.not_not.1 c19
   have hlz : lq = [] := List.eq_nil_of_length_eq_zero (by omega)
   rw [hlz, clsL_nil, List.append_nil] at hg
   have hX : classesG nd es k = clsL (keB k es) 64 (rangeI nd) := if_neg c19
   exact V.ret2 rfl rfl rfl (vc 22 (.slice a rs.length c) rs :: (ownR 3 rs ++ I)) (by first | exact Fit.s | exact Fit.sub) ⟨a, c, rs, by first | (rw [hA]; done) | (rw [hA]; rfl), by rw [hX, hg], rfl⟩

end Go.Sl
