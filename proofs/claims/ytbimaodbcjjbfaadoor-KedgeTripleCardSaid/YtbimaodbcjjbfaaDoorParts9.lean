/- A part of the proofs of statements of this seat: contracts of functions, and the plain laws that they lean on. No conditions. -/
import Derived.Test.YtbimaodbcjjbfaaDoorLaw15C
import Derived.Test.YtbimaodbcjjbfaaDoorDfs9
import Derived.Test.YtbimaodbcjjbfaaDoorGraphM5
namespace Go.Sl
open Go.Proofs
set_option linter.unusedVariables false
set_option linter.unusedSimpArgs false
set_option maxRecDepth 4000
theorem mem_minusL {xs ys : List Int} {x : Int} : x ∈ minusL xs ys ↔ x ∈ xs ∧ x ∉ ys := by simp [minusL, mem_ofL]
theorem minus_asc (xs ys : List Int) : (minusL xs ys).Pairwise (fun a b : Int => a < b) := (ofL_asc xs).sublist List.filter_sublist
theorem minus_list (a b : BitVec 64) : minusL (listB a) (listB b) = listB (a &&& ~~~b) := by
  refine intLin.uniq (minus_asc _ _) (listB_asc _) fun x => ?_
  rw [mem_minusL, mem_listB, mem_listB, mem_listB, getLsb_minus]
  constructor
  · rintro ⟨⟨h0, h1⟩, h2⟩
    refine ⟨h0, h1, ?_⟩
    rw [← Bool.not_eq_true]; exact fun h => h2 ⟨h0, h⟩
  · rintro ⟨h0, h1, h2⟩
    exact ⟨⟨h0, h1⟩, fun h => by rw [h2] at h; exact absurd h.2 (by decide)⟩
theorem range_all {nd : Int} (h : 0 ≤ nd ∧ nd ≤ 64) : rangeI nd = listB (allB nd) := by
  refine intLin.uniq (rangeI_asc nd) (listB_asc _) fun x => ?_
  rw [mem_rangeI, mem_listB]
  by_cases hx : 0 ≤ x ∧ x < 64
  · rw [getLsb_allB h.1 h.2 (by omega), decide_eq_true_eq]; omega
  · constructor
    · omega
    · rintro ⟨h1, h2⟩; rw [BitVec.getLsbD_of_ge _ _ (by omega)] at h2; cases h2
/-- Being reached is a path. -/
theorem conn_pth {rows : List (BitVec 64)} {w : BitVec 64} {i j : Nat} : Conn rows w i j ↔ Pth (adjR rows) (fun q => 0 ≤ q ∧ w.getLsbD q.toNat = true) (i : Int) (j : Int) := by
  constructor
  · intro h
    refine Conn.ind (fun j => Pth (adjR rows) (fun q => 0 ≤ q ∧ w.getLsbD q.toNat = true) (i : Int) (j : Int)) (.refl ⟨by omega, by rw [Int.toNat_natCast]; exact h.left⟩) (fun a b h1 _ hr hw => ?_) h
    refine .step h1 ⟨by omega, Classical.byContradiction fun hn => ?_, mem_listB.2 ⟨by omega, by rw [Int.toNat_natCast]; exact hr⟩⟩ ⟨by omega, by rw [Int.toNat_natCast]; exact hw⟩
    rw [at_nat, List.getD_eq_getElem?_getD, List.getElem?_eq_none (by omega)] at hr
    exact absurd hr (by show ¬ (0#64).getLsbD b = true; simp)
  · intro h
    have key : ∀ {x y : Int}, Pth (adjR rows) (fun q => 0 ≤ q ∧ w.getLsbD q.toNat = true) x y → Conn rows w x.toNat y.toNat := fun {x y} h => by
      induction h with
      | refl h => exact .refl h.2
      | @step a b h1 ha hz ih =>
        have h2 := h1.right
        refine ih.step ?_ hz.2
        rw [show ((a.toNat : Nat) : Int) = a by omega]
        exact (mem_listB.1 ha.2.2).2
    have := key h
    rwa [Int.toNat_natCast, Int.toNat_natCast] at this
theorem adj_iff {nd : Int} {es : List Pt} (hG : GrOk nd es) {a b : Int} : adjR (rowsB nd es) a b ↔ edgeP a b ∈ es := by
  rw [← adj_mem hG]
  constructor
  · exact fun h => ⟨a, b, rfl, h⟩
  · rintro ⟨x, y, e, h⟩
    rcases edgeP_inj e with ⟨rfl, rfl⟩ | ⟨rfl, rfl⟩
    · exact h
    · exact (rowsG_of hG).adj.sym _ _ h
theorem adj_rng {nd : Int} {es : List Pt} (hG : GrOk nd es) {a b : Int} (h : adjR (rowsB nd es) a b) : (0 ≤ a ∧ a < nd) ∧ (0 ≤ b ∧ b < nd) := by
  obtain ⟨h0, h1, h2⟩ := (adj_edge hG).1 h
  rcases h2 with h2 | h2
  · have := hG.edge _ h2; simp only at this; omega
  · have := hG.edge _ h2; simp only at this; omega
/-- What is reached from one node within some of the graph's. -/
theorem reach_pth {nd : Int} {es : List Pt} (hG : GrOk nd es) {S : List Int} (hS : ∀ x ∈ S, 0 ≤ x ∧ x < nd) {a x : Int} (ha : 0 ≤ a ∧ a < nd) : x ∈ listB (reachB (rowsB nd es) (maskB [a]) (maskB S)) ↔ Pth (adjR (rowsB nd es)) (fun q => q ∈ S) a x := by
  have hr := hG.rng
  have hbit : ∀ q : Int, (0 ≤ q ∧ (maskB S).getLsbD q.toNat = true) ↔ q ∈ S := fun q => by
    constructor
    · rintro ⟨h0, h1⟩
      have h64 : q.toNat < 64 := Classical.byContradiction fun hn => by rw [BitVec.getLsbD_of_ge _ _ (by omega)] at h1; cases h1
      rw [bit_maskB h64, show ((q.toNat : Nat) : Int) = q by omega] at h1; exact h1
    · intro h
      have := hS q h
      exact ⟨this.1, by rw [bit_maskB (by omega), show ((q.toNat : Nat) : Int) = q by omega]; exact h⟩
  rw [mem_listB, mask_one, bit_one (by omega)]
  have e : (0 ≤ x ∧ (reachB (rowsB nd es) (oneB a.toNat) (maskB S)).getLsbD x.toNat = true) ↔ 0 ≤ x ∧ Conn (rowsB nd es) (maskB S) a.toNat x.toNat := and_congr_right fun _ => ⟨fun h => ⟨by omega, h⟩, fun h => h.2⟩
  rw [e, conn_pth]
  constructor
  · rintro ⟨h0, h⟩
    rw [show ((a.toNat : Nat) : Int) = a by omega, show ((x.toNat : Nat) : Int) = x by omega] at h
    exact h.mono fun q hq => (hbit q).1 hq
  · intro h
    have h0 := (hS x h.right).1
    refine ⟨h0, ?_⟩
    rw [show ((a.toNat : Nat) : Int) = a by omega, show ((x.toNat : Nat) : Int) = x by omega]
    exact h.mono fun q hq => (hbit q).2 hq
theorem edgeP_self {nd : Int} {es : List Pt} (hG : GrOk nd es) {e : Pt} (he : e ∈ es) : edgeP e.u e.v = e := by
  have := hG.edge e he
  unfold edgeP; rw [if_neg (by omega), if_pos (by omega)]
end Go.Sl
namespace Go.Sl
open Go.Proofs
set_option linter.unusedVariables false
set_option linter.unusedSimpArgs false
set_option maxRecDepth 4000
end Go.Sl
namespace Go.Sl
open Go.Proofs
set_option linter.unusedVariables false
set_option linter.unusedSimpArgs false
set_option maxRecDepth 4000
def bothL (e f : Pt) : List Int := meetL [e.u, e.v] [f.u, f.v]
def joinF (nd : Int) (es : List Pt) (e f : Pt) : Bool := if (bothL e f).length ≠ 1 then false else decide (at_ (minusL [f.u, f.v] (bothL e f)) 0 ∈ listB (reachB (rowsB nd es) (maskB (minusL [e.u, e.v] (bothL e f))) (maskB (minusL (rangeI nd) (bothL e f)))))
theorem both_asc2 (e f : Pt) : (bothL e f).Pairwise (fun a b : Int => a < b) := (ofL_asc _).sublist List.filter_sublist
theorem ends_mem {c x z : Int} (h : c ≠ x) : (z = (edgeP c x).u ∨ z = (edgeP c x).v) ↔ (z = c ∨ z = x) := by
  unfold edgeP
  by_cases h1 : x < c
  · simp only [if_pos h1, if_neg (show ¬ c < x by omega)]; omega
  · simp only [if_neg h1, if_pos (show c < x by omega)]
theorem other_end {e : Pt} (he : e.u < e.v) {c : Int} (hc : c = e.u ∨ c = e.v) : ∃ x, e = edgeP c x ∧ c ≠ x := by
  rcases hc with rfl | rfl
  · exact ⟨e.v, by unfold edgeP; rw [if_neg (by omega), if_pos he], by omega⟩
  · exact ⟨e.u, by unfold edgeP; rw [if_pos he, if_neg (by omega)], by omega⟩
theorem minus_one {c x : Int} {e : Pt} (he : e = edgeP c x) (h : c ≠ x) : minusL [e.u, e.v] [c] = [x] := by
  refine intLin.uniq (minus_asc _ _) (by simp) fun z => ?_
  rw [mem_minusL, List.mem_singleton, List.mem_singleton, List.mem_cons, List.mem_singleton, he, ends_mem h]
  omega
theorem both_mem {e f : Pt} {z : Int} : z ∈ bothL e f ↔ (z = e.u ∨ z = e.v) ∧ (z = f.u ∨ z = f.v) := by unfold bothL; rw [mem_meetL]; simp
theorem joinF_iff {nd : Int} {es : List Pt} (hG : GrOk nd es) {e f : Pt} (he : e ∈ es) (hf : f ∈ es) : joinF nd es e f = true ↔ JoinE (adjR (rowsB nd es)) e f := by
  have h1 := hG.edge e he
  have h2 := hG.edge f hf
  have hS : ∀ c : Int, ∀ x ∈ minusL (rangeI nd) [c], 0 ≤ x ∧ x < nd := fun c x hx => by have := mem_rangeI.1 (mem_minusL.1 hx).1; omega
  have core : ∀ c x y : Int, e = edgeP c x → f = edgeP c y → c ≠ x → c ≠ y → x ≠ y → bothL e f = [c] := fun c x y ee ef hcx hcy hxy => by
    refine intLin.uniq (both_asc2 e f) (by simp) fun z => ?_
    rw [both_mem, List.mem_singleton, ee, ef, ends_mem hcx, ends_mem hcy]
    omega
  have eval : ∀ c x y : Int, e = edgeP c x → f = edgeP c y → c ≠ x → c ≠ y → bothL e f = [c] → (joinF nd es e f = true ↔ Pth (adjR (rowsB nd es)) (fun q => q ∈ minusL (rangeI nd) [c]) x y) := fun c x y ee ef hcx hcy hb => by
    unfold joinF
    rw [hb, if_neg (by simp), minus_one ee hcx, minus_one ef hcy, decide_eq_true_eq, show at_ [y] 0 = y from rfl]
    refine reach_pth hG (hS c) ?_
    exact (adj_rng hG ((adj_iff hG).2 (by rw [← ee]; exact he) : adjR (rowsB nd es) c x)).2
  constructor
  · intro h
    have hl : (bothL e f).length = 1 := Classical.byContradiction fun hn => by unfold joinF at h; rw [if_pos hn] at h; cases h
    obtain ⟨c, hc⟩ : ∃ c, bothL e f = [c] := by
      match hq : bothL e f, hl with
      | [c], _ => exact ⟨c, rfl⟩
    have hcm := both_mem.1 (show c ∈ bothL e f by rw [hc]; simp)
    obtain ⟨x, ee, hcx⟩ := other_end h1.2.1 hcm.1
    obtain ⟨y, ef, hcy⟩ := other_end h2.2.1 hcm.2
    have hxy : x ≠ y := fun e3 => by
      subst e3
      have : x ∈ bothL e f := both_mem.2 ⟨by rw [ee, ends_mem hcx]; exact .inr rfl, by rw [ef, ends_mem hcy]; exact .inr rfl⟩
      rw [hc, List.mem_singleton] at this; exact hcx this.symm
    have hp := (eval c x y ee ef hcx hcy hc).1 h
    exact ⟨c, x, y, ee, ef, hxy, (adj_iff hG).2 (by rw [← ee]; exact he), (adj_iff hG).2 (by rw [← ef]; exact hf), hp.mono fun q hq => by
      have := (mem_minusL.1 hq).2
      rw [List.mem_singleton] at this; exact this⟩
  · rintro ⟨c, x, y, ee, ef, hxy, hcx, hcy, hp⟩
    have hx : c ≠ x := fun e3 => (rowsG_of hG).adj.irr c (by rw [← e3] at hcx; exact hcx)
    have hy : c ≠ y := fun e3 => (rowsG_of hG).adj.irr c (by rw [← e3] at hcy; exact hcy)
    refine (eval c x y ee ef hx hy (core c x y ee ef hx hy hxy)).2 ?_
    have hmem : ∀ q, 0 ≤ q ∧ q < nd → q ≠ c → q ∈ minusL (rangeI nd) [c] := fun q hq hne => by
      have hr := hG.rng
      exact mem_minusL.2 ⟨mem_rangeI.2 (by omega), by simpa using hne⟩
    have key : ∀ {z : Int}, Pth (adjR (rowsB nd es)) (fun a => a ≠ c) x z → Pth (adjR (rowsB nd es)) (fun q => q ∈ minusL (rangeI nd) [c]) x z := fun {z} h => by
      induction h with
      | refl h => exact .refl (hmem _ (adj_rng hG hcx).2 h)
      | step _ ha hz ih => exact .step ih ha (hmem _ (adj_rng hG ha).2 hz)
    exact key hp
/-- The classes so far. -/
structure GrpI (nd : Int) (es : List Pt) (gs : List Int) : Prop where
  len : gs.length = es.length
  bnd : ∀ k : Nat, k < es.length → 0 ≤ at_ gs (k : Int) ∧ at_ gs (k : Int) ≤ k
  eqv : ∀ k : Nat, k < es.length → EqvE (adjR (rowsB nd es)) (at_ es (at_ gs (k : Int))) (at_ es (k : Int))
def gsum (gs : List Int) : Nat := (gs.map Int.toNat).sum
theorem gsum_set : ∀ {gs : List Int} {k : Nat} {x : Int}, k < gs.length → 0 ≤ x → x < at_ gs (k : Int) → gsum (gs.set k x) < gsum gs
  | [], _, _, h, _, _ => by simp at h
  | y :: gs, 0, x, _, h0, h1 => by
    have : at_ (y :: gs) ((0 : Nat) : Int) = y := rfl
    rw [this] at h1
    unfold gsum; simp only [List.set_cons_zero, List.map_cons, List.sum_cons]; omega
  | y :: gs, k + 1, x, h, h0, h1 => by
    have e : at_ (y :: gs) ((k + 1 : Nat) : Int) = at_ gs (k : Int) := by rw [at_nat, at_nat]; rfl
    rw [e] at h1
    have := gsum_set (gs := gs) (k := k) (x := x) (by simpa using h) h0 h1
    unfold gsum at this ⊢; simp only [List.set_cons_succ, List.map_cons, List.sum_cons]; omega
theorem GrpI.set {nd : Int} {es : List Pt} {gs : List Int} (hG : GrOk nd es) (h : GrpI nd es gs) {i k : Nat} (hi : i < es.length) (hk : k < es.length) (hlt : at_ gs (i : Int) < at_ gs (k : Int)) (hj : joinF nd es (at_ es (i : Int)) (at_ es (k : Int)) = true) : GrpI nd es (gs.set k (at_ gs (i : Int))) := by
  have hm : ∀ j : Nat, j < es.length → at_ es (j : Int) ∈ es := fun j hj => at_mem (by omega) (by omega)
  have hjn := (joinF_iff hG (hm i hi) (hm k hk)).1 hj
  have hl := h.len
  refine ⟨by simp [hl], fun j hj2 => ?_, fun j hj2 => ?_⟩
  · rw [at_setn _ _ _ _ (by omega)]
    split
    · have h1 := h.bnd i hi; have h2 := h.bnd k hk; omega
    · exact h.bnd j hj2
  · rw [at_setn _ _ _ _ (by omega)]
    split
    · rename_i e; subst e
      exact (h.eqv i hi).step hjn
    · exact h.eqv j hj2
/-- One pass over the pairs: nothing has been changed yet, or the sum has fallen. -/
def PassG (nd : Int) (es : List Pt) (gs gs1 : List Int) (ag : Bool) (i k : Nat) : Prop :=
  (ag = false ∧ gs1 = gs ∧ ∀ i' k' : Nat, i' < es.length → k' < es.length → (i' < i ∨ (i' = i ∧ k' < k)) → ¬ (at_ gs (i' : Int) < at_ gs (k' : Int) ∧ joinF nd es (at_ es (i' : Int)) (at_ es (k' : Int)) = true)) ∨ (ag = true ∧ gsum gs1 < gsum gs)
theorem PassG.start {nd : Int} {es : List Pt} {gs : List Int} : PassG nd es gs gs false 0 0 := .inl ⟨rfl, rfl, fun i' k' _ _ h => by omega⟩
theorem PassG.skip {nd : Int} {es : List Pt} {gs gs1 : List Int} {ag : Bool} {i k : Nat} (h : PassG nd es gs gs1 ag i k) (hn : ¬ (at_ gs1 (i : Int) < at_ gs1 (k : Int) ∧ joinF nd es (at_ es (i : Int)) (at_ es (k : Int)) = true)) : PassG nd es gs gs1 ag i (k + 1) := by
  rcases h with ⟨h1, h2, h3⟩ | h
  · subst h2
    refine .inl ⟨h1, rfl, fun i' k' hi hk hh => ?_⟩
    by_cases e : i' = i ∧ k' = k
    · rw [e.1, e.2]; exact hn
    · exact h3 i' k' hi hk (by omega)
  · exact .inr h
theorem PassG.put {nd : Int} {es : List Pt} {gs gs1 : List Int} {ag : Bool} {i k : Nat} (h : PassG nd es gs gs1 ag i k) (hk : k < gs1.length) (h0 : 0 ≤ at_ gs1 (i : Int)) (hlt : at_ gs1 (i : Int) < at_ gs1 (k : Int)) : PassG nd es gs (gs1.set k (at_ gs1 (i : Int))) true i (k + 1) := by
  have hs := gsum_set hk h0 hlt
  rcases h with ⟨h1, h2, h3⟩ | ⟨h1, h2⟩
  · subst h2; exact .inr ⟨rfl, hs⟩
  · exact .inr ⟨rfl, by omega⟩
theorem PassG.row {nd : Int} {es : List Pt} {gs gs1 : List Int} {ag : Bool} {i k : Nat} (h : PassG nd es gs gs1 ag i k) (hk : es.length ≤ k) : PassG nd es gs gs1 ag (i + 1) 0 := by
  rcases h with ⟨h1, h2, h3⟩ | h
  · exact .inl ⟨h1, h2, fun i' k' hi hk' hh => h3 i' k' hi hk' (by omega)⟩
  · exact .inr h
theorem PassG.mea {nd : Int} {es : List Pt} {gs gs1 : List Int} {ag : Bool} {i k : Nat} (h : PassG nd es gs gs1 ag i k) : 2 * gsum gs1 + ag.toNat < 2 * gsum gs + true.toNat := by
  rcases h with ⟨h1, h2, _⟩ | ⟨h1, h2⟩
  · rw [h1, h2]; simp
  · rw [h1]; simp; omega
end Go.Sl
