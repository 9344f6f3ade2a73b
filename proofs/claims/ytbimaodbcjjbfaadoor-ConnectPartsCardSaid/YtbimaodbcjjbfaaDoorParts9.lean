/- A part of the proofs of statements of this seat: contracts of functions, and the plain laws that they lean on. No conditions. -/
import Derived.Test.YtbimaodbcjjbfaaDoorLaw15C
import Derived.Test.YtbimaodbcjjbfaaDoorDfs9
import Derived.Test.YtbimaodbcjjbfaaDoorGraphM5
namespace Go.Sl
open Go.Proofs
set_option linter.unusedVariables false
set_option linter.unusedSimpArgs false
set_option maxRecDepth 4000
theorem mask_list (m : BitVec 64) : maskB (listB m) = m := by
  refine BitVec.eq_of_getLsbD_eq fun i hi => ?_
  rw [Bool.eq_iff_iff, bit_maskB hi, mem_listB, Int.toNat_natCast]
  exact ⟨fun h => h.2, fun h => ⟨by omega, h⟩⟩
theorem first_mask {lm : BitVec 64} (h : lm ≠ 0#64) : maskB ((listB lm).take 1) = lm &&& (-lm) := by
  obtain ⟨k, hk, hkb, _, he, _⟩ := least_bit h
  have ht := tzB_eq h hk he
  rw [listB_step h, show (tzB lm :: listB (lm &&& (lm - 1#64))).take 1 = [tzB lm] from rfl, mask_one, ht, he]
  unfold bitB; rw [if_neg (by omega), Int.toNat_natCast]
theorem reach_left {rows : List (BitVec 64)} {w lm : BitVec 64} (h : Whole rows w lm) {k : Nat} (hk : lm.getLsbD k = true) : reachB rows (oneB k) lm = reachB rows (oneB k) w := by
  have h64 : k < 64 := Classical.byContradiction fun hn => by rw [BitVec.getLsbD_of_ge _ _ (by omega)] at hk; cases hk
  refine BitVec.eq_of_getLsbD_eq fun j _ => ?_
  rw [Bool.eq_iff_iff]
  constructor
  · intro hj
    exact (Conn.ind (fun j => Conn rows w k j) (.refl (h.1 k hk)) (fun a b h1 _ hr hw => h1.step hr (h.1 b hw)) (show Conn rows lm k j from ⟨h64, hj⟩)).2
  · intro hj
    exact (Conn.ind (fun j => Conn rows lm k j) (.refl hk) (fun a b h1 h2 hr hw => h1.step hr (h.2 k b hk (h2.step hr hw))) (show Conn rows w k j from ⟨h64, hj⟩)).2
theorem mem_minusL {xs ys : List Int} {x : Int} : x ∈ minusL xs ys ↔ x ∈ xs ∧ x ∉ ys := by simp [minusL, mem_ofL]
theorem minus_asc (xs ys : List Int) : (minusL xs ys).Pairwise (fun a b : Int => a < b) := (ofL_asc xs).sublist List.filter_sublist
theorem minus_list (a b : BitVec 64) : minusL (listB a) (listB b) = listB (a &&& ~~~b) := by
  refine intLin.uniq (minus_asc _ _) (listB_asc _) fun x => ?_
  rw [mem_minusL, mem_listB, mem_listB, mem_listB, getLsb_minus]
  constructor
  · rintro ⟨⟨h0, h1⟩, h2⟩
    refine ⟨h0, h1, ?_⟩
    rw [← Bool.not_eq_true]; exact fun h => h2 ⟨h0, h⟩
  · rintro ⟨h0, h1, h2⟩
    exact ⟨⟨h0, h1⟩, fun h => by rw [h2] at h; exact absurd h.2 (by decide)⟩
theorem range_all {nd : Int} (h : 0 ≤ nd ∧ nd ≤ 64) : rangeI nd = listB (allB nd) := by
  refine intLin.uniq (rangeI_asc nd) (listB_asc _) fun x => ?_
  rw [mem_rangeI, mem_listB]
  by_cases hx : 0 ≤ x ∧ x < 64
  · rw [getLsb_allB h.1 h.2 (by omega), decide_eq_true_eq]; omega
  · constructor
    · omega
    · rintro ⟨h1, h2⟩; rw [BitVec.getLsbD_of_ge _ _ (by omega)] at h2; cases h2
/-- Being reached is a path. -/
theorem conn_pth {rows : List (BitVec 64)} {w : BitVec 64} {i j : Nat} : Conn rows w i j ↔ Pth (adjR rows) (fun q => 0 ≤ q ∧ w.getLsbD q.toNat = true) (i : Int) (j : Int) := by
  constructor
  · intro h
    refine Conn.ind (fun j => Pth (adjR rows) (fun q => 0 ≤ q ∧ w.getLsbD q.toNat = true) (i : Int) (j : Int)) (.refl ⟨by omega, by rw [Int.toNat_natCast]; exact h.left⟩) (fun a b h1 _ hr hw => ?_) h
    refine .step h1 ⟨by omega, Classical.byContradiction fun hn => ?_, mem_listB.2 ⟨by omega, by rw [Int.toNat_natCast]; exact hr⟩⟩ ⟨by omega, by rw [Int.toNat_natCast]; exact hw⟩
    rw [at_nat, List.getD_eq_getElem?_getD, List.getElem?_eq_none (by omega)] at hr
    exact absurd hr (by show ¬ (0#64).getLsbD b = true; simp)
  · intro h
    have key : ∀ {x y : Int}, Pth (adjR rows) (fun q => 0 ≤ q ∧ w.getLsbD q.toNat = true) x y → Conn rows w x.toNat y.toNat := fun {x y} h => by
      induction h with
      | refl h => exact .refl h.2
      | @step a b h1 ha hz ih =>
        have h2 := h1.right
        refine ih.step ?_ hz.2
        rw [show ((a.toNat : Nat) : Int) = a by omega]
        exact (mem_listB.1 ha.2.2).2
    have := key h
    rwa [Int.toNat_natCast, Int.toNat_natCast] at this
theorem adj_iff {nd : Int} {es : List Pt} (hG : GrOk nd es) {a b : Int} : adjR (rowsB nd es) a b ↔ edgeP a b ∈ es := by
  rw [← adj_mem hG]
  constructor
  · exact fun h => ⟨a, b, rfl, h⟩
  · rintro ⟨x, y, e, h⟩
    rcases edgeP_inj e with ⟨rfl, rfl⟩ | ⟨rfl, rfl⟩
    · exact h
    · exact (rowsG_of hG).adj.sym _ _ h
theorem adj_rng {nd : Int} {es : List Pt} (hG : GrOk nd es) {a b : Int} (h : adjR (rowsB nd es) a b) : (0 ≤ a ∧ a < nd) ∧ (0 ≤ b ∧ b < nd) := by
  obtain ⟨h0, h1, h2⟩ := (adj_edge hG).1 h
  rcases h2 with h2 | h2
  · have := hG.edge _ h2; simp only at this; omega
  · have := hG.edge _ h2; simp only at this; omega
/-- What is reached from one node within some of the graph's. -/
theorem reach_pth {nd : Int} {es : List Pt} (hG : GrOk nd es) {S : List Int} (hS : ∀ x ∈ S, 0 ≤ x ∧ x < nd) {a x : Int} (ha : 0 ≤ a ∧ a < nd) : x ∈ listB (reachB (rowsB nd es) (maskB [a]) (maskB S)) ↔ Pth (adjR (rowsB nd es)) (fun q => q ∈ S) a x := by
  have hr := hG.rng
  have hbit : ∀ q : Int, (0 ≤ q ∧ (maskB S).getLsbD q.toNat = true) ↔ q ∈ S := fun q => by
    constructor
    · rintro ⟨h0, h1⟩
      have h64 : q.toNat < 64 := Classical.byContradiction fun hn => by rw [BitVec.getLsbD_of_ge _ _ (by omega)] at h1; cases h1
      rw [bit_maskB h64, show ((q.toNat : Nat) : Int) = q by omega] at h1; exact h1
    · intro h
      have := hS q h
      exact ⟨this.1, by rw [bit_maskB (by omega), show ((q.toNat : Nat) : Int) = q by omega]; exact h⟩
  rw [mem_listB, mask_one, bit_one (by omega)]
  have e : (0 ≤ x ∧ (reachB (rowsB nd es) (oneB a.toNat) (maskB S)).getLsbD x.toNat = true) ↔ 0 ≤ x ∧ Conn (rowsB nd es) (maskB S) a.toNat x.toNat := and_congr_right fun _ => ⟨fun h => ⟨by omega, h⟩, fun h => h.2⟩
  rw [e, conn_pth]
  constructor
  · rintro ⟨h0, h⟩
    rw [show ((a.toNat : Nat) : Int) = a by omega, show ((x.toNat : Nat) : Int) = x by omega] at h
    exact h.mono fun q hq => (hbit q).1 hq
  · intro h
    have h0 := (hS x h.right).1
    refine ⟨h0, ?_⟩
    rw [show ((a.toNat : Nat) : Int) = a by omega, show ((x.toNat : Nat) : Int) = x by omega]
    exact h.mono fun q hq => (hbit q).2 hq
theorem blks_cls {nd : Int} {es : List Pt} (hG : GrOk nd es) : ClsP (adjR (rowsB nd es)) es (blksG nd es) := by rw [blks_eq hG]; exact blk_cls (rowsG_of hG) fun e => adj_mem hG
theorem sameG_pth {nd : Int} {es : List Pt} (hG : GrOk nd es) {u v : Int} (hu : 0 ≤ u ∧ u < nd) (hv : 0 ≤ v ∧ v < nd) : sameG nd es u v = true ↔ Pth (adjR (rowsB nd es)) (fun q => 0 ≤ q ∧ q < nd) u v := by
  have hr := hG.rng
  have hE : sameE nd es u v = 0 := by unfold sameE; rw [if_neg (by rw [checkG_ok.2 hG]; decide), if_neg (by omega)]
  unfold sameG
  rw [if_neg (by rw [hE]; decide), tog_eq hr hu hv, decide_eq_true_eq, conn_pth, show ((u.toNat : Nat) : Int) = u by omega, show ((v.toNat : Nat) : Int) = v by omega]
  have hbit : ∀ q : Int, (0 ≤ q ∧ (allB nd).getLsbD q.toNat = true) ↔ (0 ≤ q ∧ q < nd) := fun q => by
    constructor
    · rintro ⟨h0, h1⟩
      have h64 : q.toNat < 64 := Classical.byContradiction fun hn => by rw [BitVec.getLsbD_of_ge _ _ (by omega)] at h1; cases h1
      rw [getLsb_allB hr.1 hr.2 h64, decide_eq_true_eq] at h1; omega
    · intro h; rw [getLsb_allB hr.1 hr.2 (by omega), decide_eq_true_eq]; omega
  exact ⟨fun h => h.mono fun q hq => (hbit q).1 hq, fun h => h.mono fun q hq => (hbit q).2 hq⟩
/-- The reference's bridges. -/
def brPred (nd : Int) (es : List Pt) (e : Pt) : Bool := !(sameG nd (without es (edgeP e.u e.v)) e.u e.v)
theorem edgeP_self {nd : Int} {es : List Pt} (hG : GrOk nd es) {e : Pt} (he : e ∈ es) : edgeP e.u e.v = e := by
  have := hG.edge e he
  unfold edgeP; rw [if_neg (by omega), if_pos (by omega)]
theorem bridges_ref {nd : Int} {es : List Pt} (hG : GrOk nd es) : es.filter (brPred nd es) = bridgesG nd es := by
  have hA := (rowsG_of hG).adj
  have hC := blks_cls hG
  refine Pt.lin.uniq (hG.asc.sublist List.filter_sublist) (bridges_ok hG).asc fun e => ?_
  rw [List.mem_filter, bridges_eq hG]
  have key : ∀ e ∈ es, brPred nd es e = true ↔ ¬ ∃ f, JoinE (adjR (rowsB nd es)) e f := fun e he => by
    have h1 := hG.edge e he
    have hs := edgeP_self hG he
    unfold brPred
    rw [hs, Bool.not_eq_true', ← Bool.not_eq_true, sameG_pth (hG.rem (e := e)) (by omega) (by omega)]
    have hab : adjR (rowsB nd es) e.u e.v := (adj_iff hG).2 (by rw [hs]; exact he)
    have hb := bridge_iff hA hab (adj' := adjR (rowsB nd (without es e))) (fun x y => by rw [adj_iff (hG.rem (e := e)), adj_iff hG, mem_without, hs]) (ok := fun q => 0 ≤ q ∧ q < nd) (fun x y h => (adj_rng hG h).1)
    rw [hs] at hb
    exact not_congr hb
  constructor
  · rintro ⟨he, hp⟩
    obtain ⟨b, hb, heb⟩ := hC.cov e he
    have hl := (single_iff hA (fun e => adj_mem hG) hC hb heb).2 ((key e he).1 hp)
    unfold brL
    refine List.mem_map.2 ⟨b, List.mem_filter.2 ⟨hb, by simpa using hl⟩, ?_⟩
    have h0 := hd0_mem (hC.full b hb)
    match b, hl, heb, h0 with
    | [z], _, heb, h0 => rw [List.mem_singleton] at heb h0; rw [heb]; exact h0
  · intro h
    unfold brL at h
    obtain ⟨b, hb, rfl⟩ := List.mem_map.1 h
    obtain ⟨hbm, hl⟩ := List.mem_filter.1 hb
    have h0 := hd0_mem (hC.full b hbm)
    have he := hC.sub b hbm _ h0
    exact ⟨he, (key _ he).2 ((single_iff hA (fun e => adj_mem hG) hC hbm h0).1 (by simpa using hl))⟩
/-- The reference's joints. -/
def joPred (nd : Int) (es : List Pt) (v : Int) : Bool := decide (1 < (nbG nd es v).length) && !decide (∀ x ∈ nbG nd es v, x ∈ listB (reachB (rowsB nd es) (maskB ((nbG nd es v).take 1)) (maskB (minusL (rangeI nd) [v]))))
theorem nb_adj {nd : Int} {es : List Pt} (hG : GrOk nd es) {v x : Int} (hv : 0 ≤ v ∧ v < nd) : x ∈ nbG nd es v ↔ adjR (rowsB nd es) v x := by
  rw [mem_nbG hG hv]
  have := hG.rows.len
  have hr := hG.rng
  unfold adjR
  rw [mem_listB]
  exact ⟨fun h => ⟨hv.1, by omega, h⟩, fun h => h.2.2⟩
theorem two_of {α : Type} : ∀ {l : List α}, l.Nodup → (1 < l.length ↔ ∃ a ∈ l, ∃ b ∈ l, a ≠ b)
  | [], _ => by simp
  | [x], _ => by simp
  | x :: y :: l, h => by
    refine ⟨fun _ => ⟨x, by simp, y, by simp, fun e => ?_⟩, fun _ => by simp⟩
    have := (List.nodup_cons.1 h).1
    rw [e] at this; exact this List.mem_cons_self
theorem joints_ref {nd : Int} {es : List Pt} (hG : GrOk nd es) : (rangeI nd).filter (joPred nd es) = jointsG nd es := by
  have hA := (rowsG_of hG).adj
  have hC := blks_cls hG
  have hr := hG.rng
  have hja : (jointsG nd es).Pairwise (fun a b : Int => a < b) := by unfold jointsG; rw [if_neg (by rw [checkG_ok.2 hG]; decide)]; exact listB_asc _
  have hjm : ∀ v ∈ jointsG nd es, 0 ≤ v ∧ v < nd := fun v hv => by
    unfold jointsG at hv
    rw [if_neg (by rw [checkG_ok.2 hG]; decide), mem_listB] at hv
    have h64 : v.toNat < 64 := Classical.byContradiction fun hn => by have := hv.2; rw [BitVec.getLsbD_of_ge _ _ (by omega)] at this; cases this
    have h1 := (jointM_bit h64 _).1 hv.2
    rw [show ((v.toNat : Nat) : Int) = v by omega] at h1
    unfold cntB at h1
    obtain ⟨b, hb⟩ := List.exists_mem_of_length_pos (l := (blkG nd es).filter fun b => decide (v ∈ nodesL b)) (by omega)
    obtain ⟨hb1, hb2⟩ := List.mem_filter.1 hb
    have e1 : blksG nd es = blkG nd es := by unfold blksG; rw [if_neg (by rw [checkG_ok.2 hG]; decide)]
    exact nodes_in hG (by rw [e1]; exact hb1) (of_decide_eq_true hb2)
  refine intLin.uniq ((rangeI_asc nd).sublist List.filter_sublist) hja fun v => ?_
  rw [List.mem_filter, mem_rangeI]
  by_cases hv : 0 ≤ v ∧ v < nd
  · rw [joint_iff hG hv.1 hv.2]
    have hmid : (∃ x y, adjR (rowsB nd es) v x ∧ adjR (rowsB nd es) v y ∧ ¬ Pth (adjR (rowsB nd es)) (fun a => a ≠ v) x y) ↔ 1 < cntB (blksG nd es) v := by
      unfold cntB
      have hnd : ((blksG nd es).filter fun b => decide (v ∈ nodesL b)).Nodup := by
        refine List.Pairwise.filter _ ?_
        exact hC.hds.imp fun {a b} h e => by subst e; exact Pt.lin.irr _ h
      rw [show (1 : Int) < (((blksG nd es).filter fun b => decide (v ∈ nodesL b)).length : Int) ↔ 1 < ((blksG nd es).filter fun b => decide (v ∈ nodesL b)).length by omega, two_of hnd]
      have hat : ∀ b ∈ blksG nd es, v ∈ nodesL b ↔ ∃ x, adjR (rowsB nd es) v x ∧ edgeP v x ∈ b := fun b hb => by
        rw [mem_nodesL]
        constructor
        · rintro ⟨e, he, h⟩
          have hs := edgeP_self hG (hC.sub b hb e he)
          rcases h with rfl | rfl
          · exact ⟨e.v, (adj_iff hG).2 (by rw [hs]; exact hC.sub b hb e he), by rw [hs]; exact he⟩
          · exact ⟨e.u, (adj_iff hG).2 (by rw [edgeP_comm, hs]; exact hC.sub b hb e he), by rw [edgeP_comm, hs]; exact he⟩
        · rintro ⟨x, _, he⟩
          refine ⟨_, he, ?_⟩
          unfold edgeP
          by_cases h : x < v
          · right; show v = if v < x then x else v; rw [if_neg (by omega)]
          · left; show v = if x < v then x else v; rw [if_neg h]
      constructor
      · rintro ⟨x, y, hx, hy, hn⟩
        obtain ⟨b1, hb1, he1⟩ := hC.cov _ ((adj_iff hG).1 hx)
        obtain ⟨b2, hb2, he2⟩ := hC.cov _ ((adj_iff hG).1 hy)
        refine ⟨b1, List.mem_filter.2 ⟨hb1, decide_eq_true ((hat b1 hb1).2 ⟨x, hx, he1⟩)⟩, b2, List.mem_filter.2 ⟨hb2, decide_eq_true ((hat b2 hb2).2 ⟨y, hy, he2⟩)⟩, fun e => ?_⟩
        subst e
        exact hn (eqv_at hA hx hy ((hC.cls b1 hb1 _ he1 _ (hC.sub b1 hb1 _ he2)).1 he2))
      · rintro ⟨b1, h1, b2, h2, hne⟩
        obtain ⟨hb1, h1'⟩ := List.mem_filter.1 h1
        obtain ⟨hb2, h2'⟩ := List.mem_filter.1 h2
        obtain ⟨x, hx, he1⟩ := (hat b1 hb1).1 (of_decide_eq_true h1')
        obtain ⟨y, hy, he2⟩ := (hat b2 hb2).1 (of_decide_eq_true h2')
        refine ⟨x, y, hx, hy, fun hp => hne ?_⟩
        have hnf := (blks_perm hG).nodup_iff.2 (asc_nodup hG.asc)
        by_cases hxy : x = y
        · subst hxy; exact flat_uniq hnf hb1 hb2 he1 he2
        · have hj : JoinE (adjR (rowsB nd es)) (edgeP v x) (edgeP v y) := ⟨v, x, y, rfl, rfl, hxy, hx, hy, hp⟩
          exact flat_uniq hnf hb1 hb2 ((hC.cls b1 hb1 _ he1 _ (hC.sub b2 hb2 _ he2)).2 (.one hj)) he2
    rw [← hmid]
    have hS : ∀ x ∈ minusL (rangeI nd) [v], 0 ≤ x ∧ x < nd := fun x hx => by have := mem_rangeI.1 (mem_minusL.1 hx).1; omega
    have hSm : ∀ q, q ∈ minusL (rangeI nd) [v] ↔ (0 ≤ q ∧ q < nd) ∧ q ≠ v := fun q => by rw [mem_minusL, mem_rangeI, List.mem_singleton]; omega
    have hpp : ∀ x y, adjR (rowsB nd es) v x → (Pth (adjR (rowsB nd es)) (fun q => q ∈ minusL (rangeI nd) [v]) x y ↔ Pth (adjR (rowsB nd es)) (fun a => a ≠ v) x y) := fun x y hx => by
      refine ⟨fun h => h.mono fun q hq => ((hSm q).1 hq).2, fun h => ?_⟩
      induction h with
      | refl h => exact .refl ((hSm _).2 ⟨(adj_rng hG hx).2, h⟩)
      | step h1 ha hz ih => exact .step ih ha ((hSm _).2 ⟨(adj_rng hG ha).2, hz⟩)
    have hnn : (nbG nd es v).Nodup := by rw [← nb_eq]; exact (listB_asc _).imp fun h => by omega
    unfold joPred
    rw [Bool.and_eq_true, decide_eq_true_eq, Bool.not_eq_true', decide_eq_false_iff_not]
    constructor
    · rintro ⟨_, h1, h2⟩
      obtain ⟨n0, rest, hnb⟩ : ∃ n0 rest, nbG nd es v = n0 :: rest := by
        cases hq : nbG nd es v with
        | nil => rw [hq] at h1; simp at h1
        | cons a b => exact ⟨a, b, rfl⟩
      have h0 : adjR (rowsB nd es) v n0 := (nb_adj hG hv).1 (by rw [hnb]; simp)
      refine Classical.byContradiction fun hn => h2 fun x hx => ?_
      rw [hnb, show (n0 :: rest).take 1 = [n0] from rfl, reach_pth hG hS (adj_rng hG h0).2, hpp n0 x h0]
      exact Classical.byContradiction fun hn2 => hn ⟨n0, x, h0, (nb_adj hG hv).1 hx, hn2⟩
    · rintro ⟨x, y, hx, hy, hn⟩
      have hxm := (nb_adj hG hv).2 hx
      have hym := (nb_adj hG hv).2 hy
      have hxy : x ≠ y := fun e => by
        subst e
        exact hn (.refl fun e => hA.irr v (by rw [e] at hx; exact hx))
      refine ⟨by omega, (two_of hnn).2 ⟨x, hxm, y, hym, hxy⟩, fun hall => hn ?_⟩
      obtain ⟨n0, rest, hnb⟩ : ∃ n0 rest, nbG nd es v = n0 :: rest := by
        cases hq : nbG nd es v with
        | nil => rw [hq] at hxm; cases hxm
        | cons a b => exact ⟨a, b, rfl⟩
      have h0 : adjR (rowsB nd es) v n0 := (nb_adj hG hv).1 (by rw [hnb]; simp)
      have hp : ∀ z ∈ nbG nd es v, Pth (adjR (rowsB nd es)) (fun a => a ≠ v) n0 z := fun z hz => by
        have := hall z hz
        rw [hnb, show (n0 :: rest).take 1 = [n0] from rfl, reach_pth hG hS (adj_rng hG h0).2, hpp n0 z h0] at this
        exact this
      exact ((hp x hxm).symm hA.sym).trans (hp y hym)
  · exact ⟨fun h => absurd ⟨h.1.1, h.1.2.1⟩ hv, fun h => absurd (hjm v h) hv⟩

end Go.Sl
namespace Go.Sl
open Go.Proofs
set_option linter.unusedVariables false
set_option linter.unusedSimpArgs false
set_option maxRecDepth 4000
theorem whole_next {rows : List (BitVec 64)} {w lm : BitVec 64} (hs : SymR rows) (h : Whole rows w lm) (hz : lm ≠ 0#64) : Whole rows w (lm &&& ~~~(reachB rows (lm &&& (-lm)) w)) := by
  obtain ⟨k, _, _, _, _, he, _⟩ := left_first (rows := rows) hz h.1
  rw [he]; exact h.rest hs k
theorem ref_group {rows : List (BitVec 64)} {w lm : BitVec 64} (h : Whole rows w lm) (hz : lm ≠ 0#64) : listB (reachB rows (maskB (List.take 1 (listB lm))) (maskB (listB lm))) = listB (reachB rows (lm &&& (-lm)) w) := by
  obtain ⟨k, _, _, hkb, _, he, _⟩ := left_first (rows := rows) hz h.1
  rw [first_mask hz, mask_list, he, reach_left h hkb]
theorem left_in {nd : Int} {rows : List (BitVec 64)} {lm : BitVec 64} (hr : 0 ≤ nd ∧ nd ≤ 64) (h : Whole rows (allB nd) lm) : ∀ x ∈ listB lm, 0 ≤ x ∧ x < nd := fun x hx => by
  obtain ⟨h0, h1⟩ := mem_listB.1 hx
  have h2 := h.1 _ h1
  have h64 : x.toNat < 64 := Classical.byContradiction fun hn => by rw [BitVec.getLsbD_of_ge _ _ (by omega)] at h2; cases h2
  rw [getLsb_allB hr.1 hr.2 h64, decide_eq_true_eq] at h2; omega
theorem nz_of {lm : BitVec 64} (h : 0 < (listB lm).length) : lm ≠ 0#64 := fun e => by rw [e, listB_zero] at h; exact absurd h (Nat.lt_irrefl _)

theorem Comps15_ok {κ : Ctx} {I : List Item} {nd : Int} {va : Value} {es : List Pt} (hl : Sl κ I va es) (hb : es.length ≤ 1000000) :
    CallS Tryd.prog κ 34 [.agg #[I64 (nd), va]] I (fun r J => ∃ a c rs, r = .tuple #[.slice a rs.length c, I64 (checkG nd es)] ∧ rs.map RowG.xs = compsG nd es ∧ J = vc 22 (.slice a rs.length c) rs :: (ownR 3 rs ++ I)) := by
 refine CallS.enter (L := [(0, .agg #[I64 (nd), va])]) Tryd.func34 rfl rfl rfl rfl ?_
 refine W.sr ?_
 refine G.e (Eff.box (cs := [_, _]) rfl rfl rfl) ?_
 rintro _ _ ⟨b1, rfl, rfl⟩
 refine G.r (Runs.assign rfl) ?_
 refine G.r (Runs.assign rfl) ?_
 refine G.nt ?_
 refine W.seq ?_
 refine W.sr ?_
 refine G.r (Runs.lds (vs := [_, _]) ty25) ?_
 refine G.e (Eff.call call70 rfl rfl (Check03G_ok (nd := nd) (Sl.f hl))) ?_
 rintro _ _ ⟨_, _, ⟨rfl, rfl⟩, rfl, rfl⟩
 refine G.r (Runs.assign rfl) ?_
 refine G.nt ?_
 refine W.sr ?_
 refine G.r (Runs.move rfl) ?_
 refine G.r (Runs.neq rfl rfl) ?_
 refine G.nt ?_
 refine W.ite rfl (fun c11 => ?_) (fun c11 => ?_)
 ·refine W.sr ?_
  refine G.r (Runs.move rfl) ?_
  refine G.r (Runs.assign rfl) ?_
  refine G.r (Runs.assign rfl) ?_
  refine G.nt ?_
  refine W.ret ?_
  refine V.then_ret ?_
  have hX : compsG nd es = [] := if_pos c11
  exact V.ret2 rfl rfl rfl (vc 22 (.slice none ([] : List (RowG Int)).length 0) ([] : List (RowG Int)) :: (ownR 3 ([] : List (RowG Int)) ++ I)) (Fit.trans (show Fit κ _ I from Fit.m) (Fit.nilvc (α := RowG Int) _ _)) ⟨none, 0, [], rfl, by rw [hX]; rfl, rfl⟩
 ·refine W.skip ?_
  refine V.then ?_
  refine W.sr ?_
  refine G.r (Runs.assign rfl) ?_
  refine G.nt ?_
  refine W.sr ?_
  refine G.r (Runs.fieldAddr fld25_0 rfl) ?_
  refine G.r (Runs.ld ty3) ?_
  refine G.e (Eff.call call29 rfl rfl (Range_ok nd)) ?_
  rintro _ _ ⟨_, _, ⟨ad2, cp3, rfl, rfl⟩, rfl, rfl⟩
  refine G.r (Runs.assign rfl) ?_
  have hG := (checkG_ok.1 (Classical.not_not.1 c11))
  rw [range_all hG.rng]
  refine G.nt ?_
  refine W.sub (L' := [(6, _), (5, _), (1, _)]) (Sub.cons rfl (Sub.cons rfl (Sub.cons rfl Sub.nil))) ?_
  refine W.seq ?_
  refine W.block ?_
  refine W.loop (σ := (BitVec 64) × (Option Addr) × Nat × (Option Addr) × Nat × (List (RowG Int)) × (List (BitVec 64)) × Nat) (fun s => ([(1, .pointer (some ⟨b1, 0, none⟩)), (5, .slice s.2.2.2.1 s.2.2.2.2.2.1.length s.2.2.2.2.1), (6, .slice s.2.1 (listB s.1).length s.2.2.1)] : Env)) (fun s => vc 3 (.slice s.2.1 (listB s.1).length s.2.2.1) (listB s.1) :: vc 22 (.slice s.2.2.2.1 s.2.2.2.2.2.1.length s.2.2.2.2.1) (s.2.2.2.2.2.1) :: blk b1 [I64 (nd), va] 25 :: (ownR 3 s.2.2.2.2.2.1 ++ I)) (fun s => (groupsB (rowsB nd es) (allB nd) = s.2.2.2.2.2.2.1 ++ groupsL (rowsB nd es) (allB nd) s.2.2.2.2.2.2.2 s.1) ∧ (s.2.2.2.2.2.1.map RowG.xs = s.2.2.2.2.2.2.1.map listB) ∧ ((listN s.1).length ≤ s.2.2.2.2.2.2.2 ∧ s.2.2.2.2.2.2.2 + s.2.2.2.2.2.2.1.length ≤ 64) ∧ (Whole (rowsB nd es) (allB nd) s.1)) (fun s => s.2.2.2.2.2.2.2) (allB nd, ad2, cp3, none, 0, [], [], 64) (show (groupsB (rowsB nd es) (allB nd) = ([] : List (BitVec 64)) ++ groupsL (rowsB nd es) (allB nd) (64 : Nat) (allB nd : BitVec 64)) ∧ (([] : List (RowG Int)).map RowG.xs = ([] : List (BitVec 64)).map listB) ∧ ((listN (allB nd : BitVec 64)).length ≤ (64 : Nat) ∧ (64 : Nat) + ([] : List (BitVec 64)).length ≤ 64) ∧ (Whole (rowsB nd es) (allB nd) (allB nd : BitVec 64)) from ⟨rfl, rfl, ⟨listN_len _, by simp⟩, .all⟩) (Sub.cons rfl (Sub.cons (lookV rfl (by first | rfl | simp)) (Sub.cons (lookV rfl (by first | rfl | simp)) Sub.nil))) (show Fit κ _ (vc 3 (.slice (ad2) (listB (allB nd)).length (cp3)) (listB (allB nd)) :: vc 22 (.slice (none) ([]).length (0)) (([])) :: blk b1 [I64 (nd), va] 25 :: (ownR 3 ([]) ++ I)) from (Fit.trans (Fit.nilvc (α := RowG Int) 22 _) Fit.s)) ?_
  rintro ⟨lm, la, lc, a, c, rs, ms, n⟩ hp
  obtain ⟨hg, hm, hn, hW⟩ : (groupsB (rowsB nd es) (allB nd) = ms ++ groupsL (rowsB nd es) (allB nd) n lm) ∧ (rs.map RowG.xs = ms.map listB) ∧ ((listN lm).length ≤ n ∧ n + ms.length ≤ 64) ∧ (Whole (rowsB nd es) (allB nd) lm) := hp
  show W Tryd.prog κ 32 _ _ ([(1, .pointer (some ⟨b1, 0, none⟩)), (5, .slice a rs.length c), (6, .slice la (listB lm).length lc)] : Env) (vc 3 (.slice la (listB lm).length lc) (listB lm) :: vc 22 (.slice a rs.length c) (rs) :: blk b1 [I64 (nd), va] 25 :: (ownR 3 rs ++ I))
  have hlb := listB_len lm
  have hbn : (listB lm).length = (listN lm).length := by unfold listB; rw [List.length_map]
  have hml := congrArg List.length hm
  simp only [List.length_map] at hml
  refine W.seq ?_
  refine W.sr ?_
  refine G.r (Runs.move rfl) ?_
  refine G.r (Runs.lens Tryd.underlying22 rfl) ?_
  refine G.r (Runs.gtr rfl rfl) ?_
  refine G.nt ?_
  refine W.ite rfl (fun c18 => ?_) (fun c18 => ?_)
  ·refine W.skip ?_
   refine V.then ?_
   refine W.block ?_
   refine W.seq ?_
   refine W.drawn mixed ?_
   refine A.hold (vc 3 (.slice la (listB lm).length lc) (listB lm) :: vc 22 (.slice a rs.length c) (rs) :: blk b1 [I64 (nd), va] 25 :: (ownR 3 rs ++ I)) 6 ?_
   refine D.r 0 rfl (Runs.lds (vs := [_, _]) ty25) ?_ (hJ := Fit.sub)
   refine D.r 1 rfl (Runs.move rfl) ?_ (hJ := Fit.sub)
   refine D.r 2 rfl (Runs.hi (α := Int) (xs := listB lm) (h := 1) Tryd.underlying22 ty3 rfl rfl (by omega) Sl.o (by omega)) ?_ (hJ := Fit.sub)
   refine D.r 3 rfl (Runs.move rfl) ?_ (hJ := Fit.sub)
   refine D.step (rs := [4]) (by kernel_rfl) rfl rfl (all1 ?_)
   refine Step.eff rfl (Wanted.plain rfl) (Eff.call call83 rfl rfl (Reach15_ok (nd := nd) (Sl.f hl) (Sl.take Sl.o (by omega)) Sl.o hG (left_in hG.rng hW) (by omega) (by simp only [List.length_take]; omega))) ?_
   rintro _ _ ⟨_, _, ⟨ad4, cp5, rfl, rfl⟩, rfl, rfl⟩
   refine ⟨Fit.sub, ?_⟩
   refine D.r 5 rfl (Runs.assign rfl) ?_ (hJ := Fit.sub)
   have hzl := nz_of (lm := lm) (by omega)
   rw [ref_group hW hzl]
   refine D.done (by kernel_rfl) ?_
   refine V.then ?_
   refine W.region ?_
   refine G.r (Runs.move rfl) ?_
   refine G.r (Runs.move rfl) ?_
   refine G.e (Eff.bs (α := (RowG Int)) (cs := [_]) (xs := [⟨ad4, cp5, listB (reachB (rowsB nd es) (lm &&& (-lm)) (allB nd))⟩]) Tryd.underlying50 ty22 rfl rfl (by decide) (by decide) rfl rfl rfl rfl) ?_
   rintro _ _ ⟨ad6, rfl, rfl⟩
   refine G.e (Eff.app (α := (RowG Int)) (e := 22) (xs := rs) (ys := ([⟨ad4, cp5, listB (reachB (rowsB nd es) (lm &&& (-lm)) (allB nd))⟩] : List (RowG Int))) Tryd.underlying50 ty22 rfl rfl rfl (by repeat (first | exact List.mem_cons_self | apply List.mem_cons_of_mem)) Sl.o (by simp only [List.length_cons, List.length_nil]; omega) (by decide) rfl (fun _ _ => (by repeat (first | exact At.head _ _ _ | apply At.tail)))) ?_
   rintro _ _ ⟨ad7, cp8, rfl, rfl⟩
   refine G.r (Runs.move rfl) ?_
   refine G.r (Runs.move rfl) ?_
   refine G.e (Eff.call call46 rfl rfl (Minus_ok Sl.o Sl.o (by omega))) ?_
   rintro _ _ ⟨_, _, ⟨ad9, cp10, rfl, rfl⟩, rfl, rfl⟩
   refine G.r (Runs.assign rfl) ?_
   refine G.r (Runs.assign rfl) ?_
   refine G.nil ?_
   refine V.block_normal ?_
   rw [show minusL (listB lm) (listB (reachB (rowsB nd es) (lm &&& (-lm)) (allB nd))) = listB (lm &&& ~~~(reachB (rowsB nd es) (lm &&& (-lm)) (allB nd))) from minus_list _ _]
   exact V.next ((lm &&& ~~~(reachB (rowsB nd es) (lm &&& (-lm)) (allB nd))), (ad9), (cp10), (ad7), (cp8), (rs ++ [(⟨ad4, cp5, listB (reachB (rowsB nd es) (lm &&& (-lm)) (allB nd))⟩ : RowG Int)]), (ms ++ [reachB (rowsB nd es) (lm &&& (-lm)) (allB nd)]), (n - 1)) (show (groupsB (rowsB nd es) (allB nd) = (ms ++ [reachB (rowsB nd es) (lm &&& (-lm)) (allB nd)] : List (BitVec 64)) ++ groupsL (rowsB nd es) (allB nd) (n - 1 : Nat) (lm &&& ~~~(reachB (rowsB nd es) (lm &&& (-lm)) (allB nd)) : BitVec 64)) ∧ ((rs ++ [(⟨ad4, cp5, listB (reachB (rowsB nd es) (lm &&& (-lm)) (allB nd))⟩ : RowG Int)] : List (RowG Int)).map RowG.xs = (ms ++ [reachB (rowsB nd es) (lm &&& (-lm)) (allB nd)] : List (BitVec 64)).map listB) ∧ ((listN (lm &&& ~~~(reachB (rowsB nd es) (lm &&& (-lm)) (allB nd)) : BitVec 64)).length ≤ (n - 1 : Nat) ∧ (n - 1 : Nat) + (ms ++ [reachB (rowsB nd es) (lm &&& (-lm)) (allB nd)] : List (BitVec 64)).length ≤ 64) ∧ (Whole (rowsB nd es) (allB nd) (lm &&& ~~~(reachB (rowsB nd es) (lm &&& (-lm)) (allB nd)) : BitVec 64)) from ⟨(by rw [hg, groupsL_pos hzl (by have := groups_less (rows := rowsB nd es) hzl hW.1; omega), List.append_assoc]; rfl), (by rw [List.map_append, List.map_append, hm]; rfl), (by have hle := groups_less (rows := rowsB nd es) hzl hW.1; simp only [List.length_append, List.length_cons, List.length_nil]; omega), (whole_next (rowsB_sym hG) hW hzl)⟩) (show (n - 1 : Nat) < n from (by have := groups_less (rows := rowsB nd es) hzl hW.1; omega)) (Sub.cons rfl (Sub.cons (lookV rfl (by first | rfl | simp)) (Sub.cons (lookV rfl (by first | rfl | simp)) Sub.nil))) (show Fit κ _ (vc 3 (.slice (ad9) (listB (lm &&& ~~~(reachB (rowsB nd es) (lm &&& (-lm)) (allB nd)))).length (cp10)) (listB (lm &&& ~~~(reachB (rowsB nd es) (lm &&& (-lm)) (allB nd)))) :: vc 22 (.slice (ad7) (rs ++ [(⟨ad4, cp5, listB (reachB (rowsB nd es) (lm &&& (-lm)) (allB nd))⟩ : RowG Int)]).length (cp8)) ((rs ++ [(⟨ad4, cp5, listB (reachB (rowsB nd es) (lm &&& (-lm)) (allB nd))⟩ : RowG Int)])) :: blk b1 [I64 (nd), va] 25 :: (ownR 3 (rs ++ [(⟨ad4, cp5, listB (reachB (rowsB nd es) (lm &&& (-lm)) (allB nd))⟩ : RowG Int)]) ++ I)) from (Fit.trans (show Fit κ _ ([vc 3 (.slice ad9 (listB (lm &&& ~~~(reachB (rowsB nd es) (lm &&& (-lm)) (allB nd)))).length cp10) (listB (lm &&& ~~~(reachB (rowsB nd es) (lm &&& (-lm)) (allB nd)))), vc 22 (.slice ad7 (rs ++ [(⟨ad4, cp5, listB (reachB (rowsB nd es) (lm &&& (-lm)) (allB nd))⟩ : RowG Int)]).length cp8) (rs ++ [(⟨ad4, cp5, listB (reachB (rowsB nd es) (lm &&& (-lm)) (allB nd))⟩ : RowG Int)]), blk b1 [I64 (nd), va] 25] ++ vc 3 (.slice ad4 (listB (reachB (rowsB nd es) (lm &&& (-lm)) (allB nd))).length cp5) (listB (reachB (rowsB nd es) (lm &&& (-lm)) (allB nd))) :: (ownR 3 rs ++ I)) from Fit.s) (Fit.ownR_snoc (r := (⟨ad4, cp5, listB (reachB (rowsB nd es) (lm &&& (-lm)) (allB nd))⟩ : RowG Int)))))
  ·refine W.exit ?_
   refine V.then_exit ?_
   refine V.then_exit ?_
   refine V.block_hit ?_
   refine V.then ?_
   refine W.sr ?_
   refine G.r (Runs.move rfl) ?_
   refine G.r (Runs.assign rfl) ?_
   refine G.r (Runs.assign rfl) ?_
   refine G.nt ?_
   refine W.ret ?_
   have hz : checkG nd es = 0 := Classical.not_not.1 c11
   have hlz : lm = 0#64 := Classical.byContradiction fun e => by have h9 := congrArg List.length (listB_step e); simp only [List.length_cons] at h9; omega
   rw [hlz, groupsL_zero, List.append_nil] at hg
   exact V.ret2 rfl rfl rfl (vc 22 (.slice a rs.length c) rs :: (ownR 3 rs ++ I)) (by first | exact Fit.s | exact Fit.sub) ⟨a, c, rs, by rw [hz], by unfold compsG; rw [if_neg c11, hm, hg], rfl⟩

set_option maxHeartbeats 1000000 in
theorem Bridges15_ok {κ : Ctx} {I : List Item} {nd : Int} {a0 : Option Addr} {c0 : Nat} {es : List Pt} (hl : Sl κ I (.slice a0 es.length c0) es) (hb : es.length ≤ 10000) :
    CallS Tryd.prog κ 35 [.agg #[I64 (nd), .slice a0 es.length c0]] I (fun r J => ∃ a c, r = .tuple #[.slice a (bridgesG nd es).length c, I64 (checkG nd es)] ∧ J = vc 38 (.slice a (bridgesG nd es).length c) (bridgesG nd es) :: I) := by
 refine CallS.enter (L := [(0, .agg #[I64 (nd), .slice a0 es.length c0])]) Tryd.func35 rfl rfl rfl rfl ?_
 refine W.sr ?_
 refine G.e (Eff.box (cs := [_, _]) rfl rfl rfl) ?_
 rintro _ _ ⟨b1, rfl, rfl⟩
 refine G.r (Runs.assign rfl) ?_
 refine G.r (Runs.assign rfl) ?_
 refine G.nt ?_
 refine W.seq ?_
 refine W.sr ?_
 refine G.r (Runs.lds (vs := [_, _]) ty25) ?_
 refine G.e (Eff.call call70 rfl rfl (Check03G_ok (nd := nd) (Sl.f hl))) ?_
 rintro _ _ ⟨_, _, ⟨rfl, rfl⟩, rfl, rfl⟩
 refine G.r (Runs.assign rfl) ?_
 refine G.nt ?_
 refine W.sr ?_
 refine G.r (Runs.move rfl) ?_
 refine G.r (Runs.neq rfl rfl) ?_
 refine G.nt ?_
 refine W.ite rfl (fun c15 => ?_) (fun c15 => ?_)
 ·refine W.sr ?_
  refine G.r (Runs.move rfl) ?_
  refine G.r (Runs.assign rfl) ?_
  refine G.r (Runs.assign rfl) ?_
  refine G.nt ?_
  refine W.ret ?_
  refine V.then_ret ?_
  have hX : (bridgesG nd es) = [] := if_pos c15
  exact V.ret2 rfl rfl rfl (vc 38 (.slice none (bridgesG nd es).length 0) (bridgesG nd es) :: I) (by rw [hX]; exact Fit.trans (show Fit κ _ I from Fit.m) (Fit.nilvc (α := Pt) _ _)) ⟨none, 0, by rw [hX]; rfl, rfl⟩
 ·refine W.skip ?_
  refine V.then ?_
  refine W.sr ?_
  refine G.r (Runs.assign rfl) ?_
  have hG := (checkG_ok.1 (Classical.not_not.1 c15))
  refine G.nt ?_
  refine W.seq ?_
  refine W.sr ?_
  refine G.r (Runs.fieldAddr fld25_1 rfl) ?_
  refine G.r (Runs.ld ty23) ?_
  refine G.r (Runs.lens Tryd.underlying23 rfl) ?_
  refine G.r (Runs.move rfl) ?_
  refine G.nt ?_
  refine W.sub (L' := [(20, _), (19, _), (18, _), (5, _), (1, _)]) (Sub.cons rfl (Sub.cons rfl (Sub.cons rfl (Sub.cons rfl (Sub.cons rfl Sub.nil))))) ?_
  refine W.block ?_
  refine W.loop (σ := Nat × (Option Addr) × Nat × (List Pt)) (fun s => ([(1, .pointer (some ⟨b1, 0, none⟩)), (5, .slice s.2.1 s.2.2.2.length s.2.2.1), (18, .slice a0 es.length c0), (19, I64 (((es.length : Nat) : Int))), (20, I64 (((s.1 : Nat) : Int)))] : Env)) (fun s => vc 38 (.slice s.2.1 s.2.2.2.length s.2.2.1) (s.2.2.2) :: blk b1 [I64 (nd), .slice a0 es.length c0] 25 :: I) (fun s => (s.1 ≤ es.length) ∧ (s.2.2.2 = (es.take s.1).filter (brPred nd es))) (fun s => es.length - s.1) (0, none, 0, []) (show ((0 : Nat) ≤ es.length) ∧ (([] : List Pt) = (es.take (0 : Nat)).filter (brPred nd es)) from ⟨(by omega), rfl⟩) (Sub.cons rfl (Sub.cons (lookV rfl (by first | rfl | simp)) (Sub.cons rfl (Sub.cons rfl (Sub.cons lookO Sub.nil))))) (show Fit κ _ (vc 38 (.slice (none) ([]).length (0)) (([])) :: blk b1 [I64 (nd), .slice a0 es.length c0] 25 :: I) from (Fit.nilvc _ _)) ?_
  rintro ⟨k, a, c, out⟩ hp
  obtain ⟨hk, ho⟩ : (k ≤ es.length) ∧ (out = (es.take k).filter (brPred nd es)) := hp
  show W Tryd.prog κ 50 _ _ ([(1, .pointer (some ⟨b1, 0, none⟩)), (5, .slice a out.length c), (18, .slice a0 es.length c0), (19, I64 (((es.length : Nat) : Int))), (20, I64 (((k : Nat) : Int)))] : Env) (vc 38 (.slice a out.length c) (out) :: blk b1 [I64 (nd), .slice a0 es.length c0] 25 :: I)
  have hol : out.length ≤ es.length := by rw [ho]; refine Nat.le_trans (List.length_filter_le _ _) ?_; simp only [List.length_take]; omega
  refine W.sr ?_
  refine G.r (Runs.lss rfl rfl) ?_
  refine G.nt ?_
  refine W.seq ?_
  refine W.ite rfl (fun c21 => ?_) (fun c21 => ?_)
  ·refine W.skip ?_
   refine V.then ?_
   refine W.seq ?_
   refine W.block ?_
   refine W.sr ?_
   refine G.r (Runs.idx (α := Pt) (xs := es) Tryd.underlying23 ty38 rfl rfl (Sl.f hl) (by omega) (by omega)) ?_
   refine G.r (Runs.gets (α := Pt) (xs := es) ty38 rfl (Sl.f hl) (by omega) (by omega)) ?_
   refine G.e (Eff.alloc ty38 rfl) ?_
   rintro _ _ ⟨b2, rfl, rfl⟩
   refine G.e (Eff.st (cs := [_, _]) (vs := [_, _]) (cs' := [_, _]) ty38) ?_
   rintro _ _ ⟨rfl, rfl⟩
   refine G.nt ?_
   refine W.sr ?_
   refine G.r (Runs.lds (vs := [_, _]) ty25) ?_
   refine G.r (Runs.fieldAddr fld38_0 rfl) ?_
   refine G.r (Runs.ld ty3) ?_
   refine G.r (Runs.fieldAddr fld38_1 rfl) ?_
   refine G.r (Runs.ld ty3) ?_
   refine G.e (Eff.call call84 rfl rfl (Rem03_ok (Sl.f hl) ((at_ es ((k : Nat) : Int)).u) ((at_ es ((k : Nat) : Int)).v) (by omega))) ?_
   rintro _ _ ⟨_, _, (⟨hnead3, rfl, rfl⟩ | ⟨ad3, cp4, hzad3, rfl, rfl⟩), rfl, rfl⟩
   ·exact absurd (remG_zero.2 ⟨hG, (by have := hG.at (k := k) (by omega); unfold endsP; omega), (by rw [edgeP_self hG (at_mem (by omega) (by omega))]; exact at_mem (by omega) (by omega))⟩) hnead3
   ·show G Tryd.prog κ _ _ _ _ ([(30, .tuple #[.agg #[I64 (nd), .slice ad3 (without es (edgeP ((at_ es ((k : Nat) : Int)).u) ((at_ es ((k : Nat) : Int)).v))).length cp4], I64 (0)]), (29, I64 ((at_ es ((k : Nat) : Int)).v)), (28, .pointer (some ⟨b2, 1, none⟩)), (27, I64 ((at_ es ((k : Nat) : Int)).u)), (26, .pointer (some ⟨b2, 0, none⟩)), (25, .agg #[I64 (nd), .slice a0 es.length c0]), (7, .pointer (some ⟨b2, 0, none⟩)), (23, .agg #[I64 ((at_ es ((k : Nat) : Int)).u), I64 ((at_ es ((k : Nat) : Int)).v)]), (22, elemPtr (.slice a0 es.length c0) ((((k : Nat) : Int)).toNat * Enc.sz Pt)), (21, .bool (decide (((k : Nat) : Int) < ((es.length : Nat) : Int)))), (1, .pointer (some ⟨b1, 0, none⟩)), (5, .slice a out.length c), (18, .slice a0 es.length c0), (19, I64 (((es.length : Nat) : Int))), (20, I64 (((k : Nat) : Int)))] : Env) (vc 38 (.slice ad3 (without es (edgeP ((at_ es ((k : Nat) : Int)).u) ((at_ es ((k : Nat) : Int)).v))).length cp4) (without es (edgeP ((at_ es ((k : Nat) : Int)).u) ((at_ es ((k : Nat) : Int)).v))) :: blk b2 [I64 ((at_ es ((k : Nat) : Int)).u), I64 ((at_ es ((k : Nat) : Int)).v)] 38 :: vc 38 (.slice a out.length c) (out) :: blk b1 [I64 (nd), .slice a0 es.length c0] 25 :: I)
    refine G.r (Runs.move rfl) ?_
    refine G.r (Runs.extract rfl rfl) ?_
    refine G.r (Runs.extract rfl rfl) ?_
    refine G.e (Eff.alloc ty25 rfl) ?_
    rintro _ _ ⟨b5, rfl, rfl⟩
    refine G.e (Eff.st (cs := [_, _]) (vs := [_, _]) (cs' := [_, _]) ty25) ?_
    rintro _ _ ⟨rfl, rfl⟩
    refine G.r (Runs.assign rfl) ?_
    refine G.nt ?_
    refine W.sub (L' := [(8, _), (7, _), (1, _), (5, _), (18, _), (19, _), (20, _)]) (Sub.cons rfl (Sub.cons rfl (Sub.cons rfl (Sub.cons rfl (Sub.cons rfl (Sub.cons rfl (Sub.cons rfl Sub.nil))))))) ?_
    refine W.sr ?_
    refine G.r (Runs.lds (vs := [_, _]) ty25) ?_
    refine G.r (Runs.fieldAddr fld38_0 rfl) ?_
    refine G.r (Runs.ld ty3) ?_
    refine G.r (Runs.fieldAddr fld38_1 rfl) ?_
    refine G.r (Runs.ld ty3) ?_
    refine G.e (Eff.call call32 rfl rfl (Same15_ok (nd := nd) Sl.o ((at_ es ((k : Nat) : Int)).u) ((at_ es ((k : Nat) : Int)).v) (by have hwl : (without es (edgeP (at_ es ((k : Nat) : Int)).u (at_ es ((k : Nat) : Int)).v)).length ≤ es.length := List.length_filter_le _ _; omega))) ?_
    rintro _ _ ⟨_, _, ⟨rfl, rfl⟩, rfl, rfl⟩
    refine G.r (Runs.move rfl) ?_
    refine G.r (Runs.extract rfl rfl) ?_
    refine G.r (Runs.extract rfl rfl) ?_
    refine G.r (Runs.assign rfl) ?_
    refine G.r (Runs.assign rfl) ?_
    refine G.nt ?_
    refine W.sub (L' := [(10, _), (7, _), (1, _), (5, _), (18, _), (19, _), (20, _)]) (Sub.cons rfl (Sub.cons rfl (Sub.cons rfl (Sub.cons rfl (Sub.cons rfl (Sub.cons rfl (Sub.cons rfl Sub.nil))))))) ?_
    refine W.sr ?_
    refine G.r (Runs.move rfl) ?_
    refine G.r (Runs.not rfl) ?_
    refine G.nt ?_
    refine W.cond rfl (fun c43 => ?_) (fun c43 => ?_)
    ·refine W.region ?_
     refine G.r (Runs.move rfl) ?_
     refine G.r (Runs.lds (vs := [_, _]) ty38) ?_
     refine G.e (Eff.bs (α := Pt) (cs := [_, _]) (xs := [⟨(at_ es ((k : Nat) : Int)).u, (at_ es ((k : Nat) : Int)).v⟩]) Tryd.underlying23 ty38 rfl rfl (by decide) (by decide) rfl rfl rfl rfl) ?_
     rintro _ _ ⟨ad6, rfl, rfl⟩
     refine G.e (Eff.app (α := Pt) (e := 38) (xs := out) (ys := ([⟨(at_ es ((k : Nat) : Int)).u, (at_ es ((k : Nat) : Int)).v⟩] : List Pt)) Tryd.underlying23 ty38 rfl rfl rfl (by repeat (first | exact List.mem_cons_self | apply List.mem_cons_of_mem)) Sl.o (by simp only [List.length_cons, List.length_nil]; omega) (by decide) rfl (fun _ _ => (by repeat (first | exact At.head _ _ _ | apply At.tail)))) ?_
     rintro _ _ ⟨ad7, cp8, rfl, rfl⟩
     refine G.r (Runs.assign rfl) ?_
     refine G.nil ?_
     refine V.block_normal ?_
     refine V.then ?_
     refine W.sub (L' := [(5, _), (1, _), (18, _), (19, _), (20, _)]) (Sub.cons rfl (Sub.cons rfl (Sub.cons rfl (Sub.cons rfl (Sub.cons rfl Sub.nil))))) ?_
     refine W.region ?_
     refine G.r (Runs.add rfl rfl (by unfold InR; omega)) ?_
     refine G.r (Runs.move rfl) ?_
     refine G.nil ?_
     exact V.next ((k + 1), (ad7), (cp8), (out ++ ([⟨(at_ es ((k : Nat) : Int)).u, (at_ es ((k : Nat) : Int)).v⟩] : List Pt))) (show ((k + 1 : Nat) ≤ es.length) ∧ ((out ++ ([⟨(at_ es ((k : Nat) : Int)).u, (at_ es ((k : Nat) : Int)).v⟩] : List Pt) : List Pt) = (es.take (k + 1 : Nat)).filter (brPred nd es)) from ⟨(by omega), (by first | rw [flt_yes (P := brPred nd es) (by omega) c43, ← ho] | rw [flt_no (P := brPred nd es) (by omega) c43, ← ho])⟩) (show es.length - (k + 1 : Nat) < es.length - k from (by omega)) (Sub.cons rfl (Sub.cons (lookV rfl (by first | rfl | simp)) (Sub.cons rfl (Sub.cons rfl (Sub.cons lookO Sub.nil))))) (show Fit κ _ (vc 38 (.slice (ad7) (out ++ ([⟨(at_ es ((k : Nat) : Int)).u, (at_ es ((k : Nat) : Int)).v⟩] : List Pt)).length (cp8)) ((out ++ ([⟨(at_ es ((k : Nat) : Int)).u, (at_ es ((k : Nat) : Int)).v⟩] : List Pt))) :: blk b1 [I64 (nd), .slice a0 es.length c0] 25 :: I) from (by first | exact Fit.s | exact Fit.sub))
    ·refine W.skip ?_
     refine V.block_normal ?_
     refine V.then ?_
     refine W.region ?_
     refine G.r (Runs.add rfl rfl (by unfold InR; omega)) ?_
     refine G.r (Runs.move rfl) ?_
     refine G.nil ?_
     exact V.next ((k + 1), (a), (c), (out)) (show ((k + 1 : Nat) ≤ es.length) ∧ ((out : List Pt) = (es.take (k + 1 : Nat)).filter (brPred nd es)) from ⟨(by omega), (by first | rw [flt_yes (P := brPred nd es) (by omega) c43, ← ho] | rw [flt_no (P := brPred nd es) (by omega) c43, ← ho])⟩) (show es.length - (k + 1 : Nat) < es.length - k from (by omega)) (Sub.cons rfl (Sub.cons (lookV rfl (by first | rfl | simp)) (Sub.cons rfl (Sub.cons rfl (Sub.cons lookO Sub.nil))))) (show Fit κ _ (vc 38 (.slice (a) (out).length (c)) ((out)) :: blk b1 [I64 (nd), .slice a0 es.length c0] 25 :: I) from (by first | exact Fit.s | exact Fit.sub))
  ·refine W.exit ?_
   refine V.then_exit ?_
   refine V.then_exit ?_
   refine V.block_hit ?_
   refine V.then ?_
   refine W.sr ?_
   refine G.r (Runs.move rfl) ?_
   refine G.r (Runs.assign rfl) ?_
   refine G.r (Runs.assign rfl) ?_
   refine G.nt ?_
   refine W.ret ?_
   have hz : checkG nd es = 0 := Classical.not_not.1 c15
   have hX : (bridgesG nd es) = out := by rw [← bridges_ref hG, ho, List.take_of_length_le (by omega)]
   exact V.ret2 rfl rfl rfl (vc 38 (.slice a (bridgesG nd es).length c) (bridgesG nd es) :: I) (by rw [hX]; first | exact Fit.sub | exact Fit.s) ⟨a, c, by rw [hX, hz], rfl⟩

set_option maxHeartbeats 1000000 in
theorem Joints15_ok {κ : Ctx} {I : List Item} {nd : Int} {va : Value} {es : List Pt} (hl : Sl κ I va es) (hb : es.length ≤ 1000000) :
    CallS Tryd.prog κ 36 [.agg #[I64 (nd), va]] I (fun r J => ∃ a c, r = .tuple #[.slice a (jointsG nd es).length c, I64 (checkG nd es)] ∧ J = vc 3 (.slice a (jointsG nd es).length c) (jointsG nd es) :: I) := by
 refine CallS.enter (L := [(0, .agg #[I64 (nd), va])]) Tryd.func36 rfl rfl rfl rfl ?_
 refine W.sr ?_
 refine G.e (Eff.box (cs := [_, _]) rfl rfl rfl) ?_
 rintro _ _ ⟨b1, rfl, rfl⟩
 refine G.r (Runs.assign rfl) ?_
 refine G.r (Runs.assign rfl) ?_
 refine G.nt ?_
 refine W.seq ?_
 refine W.sr ?_
 refine G.r (Runs.lds (vs := [_, _]) ty25) ?_
 refine G.e (Eff.call call70 rfl rfl (Check03G_ok (nd := nd) (Sl.f hl))) ?_
 rintro _ _ ⟨_, _, ⟨rfl, rfl⟩, rfl, rfl⟩
 refine G.r (Runs.assign rfl) ?_
 refine G.nt ?_
 refine W.sr ?_
 refine G.r (Runs.move rfl) ?_
 refine G.r (Runs.neq rfl rfl) ?_
 refine G.nt ?_
 refine W.ite rfl (fun c13 => ?_) (fun c13 => ?_)
 ·refine W.sr ?_
  refine G.r (Runs.move rfl) ?_
  refine G.r (Runs.assign rfl) ?_
  refine G.r (Runs.assign rfl) ?_
  refine G.nt ?_
  refine W.ret ?_
  refine V.then_ret ?_
  have hX : (jointsG nd es) = [] := if_pos c13
  exact V.ret2 rfl rfl rfl (vc 3 (.slice none (jointsG nd es).length 0) (jointsG nd es) :: I) (by rw [hX]; exact Fit.trans (show Fit κ _ I from Fit.m) (Fit.nilvc (α := Int) _ _)) ⟨none, 0, by rw [hX]; rfl, rfl⟩
 ·refine W.skip ?_
  refine V.then ?_
  refine W.sr ?_
  refine G.r (Runs.assign rfl) ?_
  have hG := (checkG_ok.1 (Classical.not_not.1 c13))
  have hrl : (rangeI nd).length ≤ 64 := by rw [range_all hG.rng]; exact listB_len _
  refine G.nt ?_
  refine W.sr ?_
  refine G.r (Runs.fieldAddr fld25_0 rfl) ?_
  refine G.r (Runs.ld ty3) ?_
  refine G.e (Eff.call call29 rfl rfl (Range_ok nd)) ?_
  rintro _ _ ⟨_, _, ⟨ad2, cp3, rfl, rfl⟩, rfl, rfl⟩
  refine G.r (Runs.assign rfl) ?_
  refine G.nt ?_
  refine W.sub (L' := [(6, _), (5, _), (1, _)]) (Sub.cons rfl (Sub.cons rfl (Sub.cons rfl Sub.nil))) ?_
  refine W.seq ?_
  refine W.sr ?_
  refine G.r (Runs.move rfl) ?_
  refine G.r (Runs.lens Tryd.underlying22 rfl) ?_
  refine G.r (Runs.move rfl) ?_
  refine G.nt ?_
  refine W.block ?_
  refine W.loop (σ := Nat × (Option Addr) × Nat × (List Int)) (fun s => ([(1, .pointer (some ⟨b1, 0, none⟩)), (5, .slice s.2.1 s.2.2.2.length s.2.2.1), (6, .slice ad2 (rangeI nd).length cp3), (18, .slice ad2 (rangeI nd).length cp3), (19, I64 ((((rangeI nd).length : Nat) : Int))), (20, I64 (((s.1 : Nat) : Int)))] : Env)) (fun s => vc 3 (.slice s.2.1 s.2.2.2.length s.2.2.1) (s.2.2.2) :: vc 3 (.slice ad2 (rangeI nd).length cp3) (rangeI nd) :: blk b1 [I64 (nd), va] 25 :: I) (fun s => (s.1 ≤ (rangeI nd).length) ∧ (s.2.2.2 = ((rangeI nd).take s.1).filter (joPred nd es))) (fun s => (rangeI nd).length - s.1) (0, none, 0, []) (show ((0 : Nat) ≤ (rangeI nd).length) ∧ (([] : List Int) = ((rangeI nd).take (0 : Nat)).filter (joPred nd es)) from ⟨(by omega), rfl⟩) (Sub.cons rfl (Sub.cons (lookV rfl (by first | rfl | simp)) (Sub.cons rfl (Sub.cons rfl (Sub.cons rfl (Sub.cons lookO Sub.nil)))))) (show Fit κ _ (vc 3 (.slice (none) ([]).length (0)) (([])) :: vc 3 (.slice ad2 (rangeI nd).length cp3) (rangeI nd) :: blk b1 [I64 (nd), va] 25 :: I) from (Fit.nilvc _ _)) ?_
  rintro ⟨k, a, c, out⟩ hp
  obtain ⟨hk, ho⟩ : (k ≤ (rangeI nd).length) ∧ (out = ((rangeI nd).take k).filter (joPred nd es)) := hp
  show W Tryd.prog κ 49 _ _ ([(1, .pointer (some ⟨b1, 0, none⟩)), (5, .slice a out.length c), (6, .slice ad2 (rangeI nd).length cp3), (18, .slice ad2 (rangeI nd).length cp3), (19, I64 ((((rangeI nd).length : Nat) : Int))), (20, I64 (((k : Nat) : Int)))] : Env) (vc 3 (.slice a out.length c) (out) :: vc 3 (.slice ad2 (rangeI nd).length cp3) (rangeI nd) :: blk b1 [I64 (nd), va] 25 :: I)
  have hol : out.length ≤ 64 := by rw [ho]; refine Nat.le_trans (List.length_filter_le _ _) ?_; simp only [List.length_take]; omega
  refine W.sr ?_
  refine G.r (Runs.lss rfl rfl) ?_
  refine G.nt ?_
  refine W.seq ?_
  refine W.ite rfl (fun c21 => ?_) (fun c21 => ?_)
  ·refine W.skip ?_
   refine V.then ?_
   refine W.seq ?_
   refine W.block ?_
   refine W.sr ?_
   refine G.r (Runs.idx (α := Int) (xs := rangeI nd) Tryd.underlying22 ty3 rfl rfl Sl.o (by omega) (by omega)) ?_
   refine G.r (Runs.get (xs := rangeI nd) ty3 rfl Sl.o (by omega) (by omega)) ?_
   refine G.r (Runs.assign rfl) ?_
   refine G.nt ?_
   refine W.sr ?_
   refine G.r (Runs.lds (vs := [_, _]) ty25) ?_
   refine G.r (Runs.move rfl) ?_
   refine G.e (Eff.call call26 rfl rfl (Neigh03_ok (nd := nd) (Sl.f hl) (at_ (rangeI nd) ((k : Nat) : Int)) (by omega))) ?_
   rintro _ _ ⟨_, _, ⟨ad4, cp5, rfl, rfl⟩, rfl, rfl⟩
   have hnl26 := nbG_len nd es (at_ (rangeI nd) ((k : Nat) : Int))
   refine G.r (Runs.assign rfl) ?_
   have hnl := nbG_len nd es (at_ (rangeI nd) ((k : Nat) : Int))
   refine G.nt ?_
   refine W.sub (L' := [(9, _), (8, _), (1, _), (5, _), (6, _), (18, _), (19, _), (20, _)]) (Sub.cons rfl (Sub.cons rfl (Sub.cons rfl (Sub.cons rfl (Sub.cons rfl (Sub.cons rfl (Sub.cons rfl (Sub.cons rfl Sub.nil)))))))) ?_
   refine W.seq ?_
   refine W.drawn mixed ?_
   refine A.hold (vc 3 (.slice ad4 (nbG nd es (at_ (rangeI nd) ((k : Nat) : Int))).length cp5) (nbG nd es (at_ (rangeI nd) ((k : Nat) : Int))) :: vc 3 (.slice a out.length c) (out) :: vc 3 (.slice ad2 (rangeI nd).length cp3) (rangeI nd) :: blk b1 [I64 (nd), va] 25 :: I) 16 ?_
   refine D.r 0 rfl (Runs.move rfl) ?_ (hJ := Fit.sub)
   refine D.r 1 rfl (Runs.lens Tryd.underlying22 rfl) ?_ (hJ := Fit.sub)
   refine D.r 2 rfl (Runs.gtr rfl rfl) ?_ (hJ := Fit.sub)
   refine D.r 3 rfl (Runs.move rfl) ?_ (hJ := Fit.sub)
   refine D.split (d := 30) rfl (fun g30 => ?_) (fun g30 => ?_)
   ·refine D.read 4 rfl (by kernel_rfl) (by kernel_rfl) (by kernel_rfl) rfl (by kernel_rfl) (fun _ _ _ _ h => h) (Wanted.on rfl rfl rfl) rfl rfl Fit.sub (Runs.move rfl) ?_
    refine D.read 5 rfl (by kernel_rfl) (by kernel_rfl) (by kernel_rfl) rfl (by kernel_rfl) (fun _ _ _ _ h => h) (Wanted.on rfl rfl rfl) rfl rfl Fit.sub (Runs.lds (vs := [_, _]) ty25) ?_
    refine D.read 6 rfl (by kernel_rfl) (by kernel_rfl) (by kernel_rfl) rfl (by kernel_rfl) (fun _ _ _ _ h => h) (Wanted.on rfl rfl rfl) rfl rfl Fit.sub (Runs.move rfl) ?_
    refine D.read 7 rfl (by kernel_rfl) (by kernel_rfl) (by kernel_rfl) rfl (by kernel_rfl) (fun _ _ _ _ h => h) (Wanted.on rfl rfl rfl) rfl rfl Fit.sub (Runs.hi (α := Int) (xs := nbG nd es (at_ (rangeI nd) ((k : Nat) : Int))) (h := 1) Tryd.underlying22 ty3 rfl rfl (by omega) Sl.o (by omega)) ?_
    refine D.read 8 rfl (by kernel_rfl) (by kernel_rfl) (by kernel_rfl) rfl (by kernel_rfl) (fun _ _ _ _ h => h) (Wanted.on rfl rfl rfl) rfl rfl Fit.sub (Runs.move rfl) ?_
    refine D.read 9 rfl (by kernel_rfl) (by kernel_rfl) (by kernel_rfl) rfl (by kernel_rfl) (fun _ _ _ _ h => h) (Wanted.on rfl rfl rfl) rfl rfl Fit.sub (Runs.move rfl) ?_
    refine D.step (rs := [10]) (by kernel_rfl) rfl rfl (all1 ?_)
    refine Step.eff rfl (Wanted.on rfl rfl rfl) (Eff.bs (α := Int) (cs := [_]) (xs := [at_ (rangeI nd) ((k : Nat) : Int)]) Tryd.underlying22 ty3 rfl rfl (by decide) (by decide) rfl rfl rfl rfl) ?_
    rintro _ _ ⟨ad6, rfl, rfl⟩
    refine ⟨Fit.sub, ?_⟩
    refine D.step (rs := [11]) (by kernel_rfl) rfl rfl (all1 ?_)
    refine Step.eff rfl (Wanted.on rfl rfl rfl) (Eff.call call46 rfl rfl (Minus_ok Sl.o Sl.o (by omega))) ?_
    rintro _ _ ⟨_, _, ⟨ad7, cp8, rfl, rfl⟩, rfl, rfl⟩
    refine ⟨Fit.sub, ?_⟩
    refine D.step (rs := [12]) (by kernel_rfl) rfl rfl (all1 ?_)
    refine Step.eff rfl (Wanted.on rfl rfl rfl) (Eff.call call83 rfl rfl (Reach15_ok (nd := nd) (Sl.f hl) (Sl.take Sl.o (by omega)) Sl.o hG (fun x hx => by have := mem_rangeI.1 (mem_minusL.1 hx).1; omega) (by omega) (by simp only [List.length_take]; omega))) ?_
    rintro _ _ ⟨_, _, ⟨ad9, cp10, rfl, rfl⟩, rfl, rfl⟩
    refine ⟨Fit.sub, ?_⟩
    refine D.step (rs := [13]) (by kernel_rfl) rfl rfl (all1 ?_)
    refine Step.eff rfl (Wanted.on rfl rfl rfl) (Eff.call call24 rfl rfl (Within_ok Sl.o Sl.o)) ?_
    rintro _ _ ⟨_, _, ⟨rfl, rfl⟩, rfl, rfl⟩
    refine ⟨Fit.sub, ?_⟩
    refine D.read 14 rfl (by kernel_rfl) (by kernel_rfl) (by kernel_rfl) rfl (by kernel_rfl) (fun _ _ _ _ h => h) (Wanted.on rfl rfl rfl) rfl rfl Fit.sub (Runs.notd rfl) ?_
    refine D.r 15 rfl (Runs.pickt rfl rfl) ?_ (hJ := Fit.sub)
    refine D.done (by kernel_rfl) ?_
    refine V.then ?_
    refine W.sub (L' := [(42, _), (8, _), (1, _), (5, _), (6, _), (18, _), (19, _), (20, _)]) (Sub.cons rfl (Sub.cons rfl (Sub.cons rfl (Sub.cons rfl (Sub.cons rfl (Sub.cons rfl (Sub.cons rfl (Sub.cons rfl Sub.nil)))))))) ?_
    refine W.ite rfl (fun c42 => ?_) (fun c42 => ?_)
    ·refine W.region ?_
     refine G.r (Runs.move rfl) ?_
     refine G.r (Runs.move rfl) ?_
     refine G.e (Eff.bs (α := Int) (cs := [_]) (xs := [at_ (rangeI nd) ((k : Nat) : Int)]) Tryd.underlying22 ty3 rfl rfl (by decide) (by decide) rfl rfl rfl rfl) ?_
     rintro _ _ ⟨ad11, rfl, rfl⟩
     refine G.e (Eff.app (α := Int) (e := 3) (xs := out) (ys := ([at_ (rangeI nd) ((k : Nat) : Int)] : List Int)) Tryd.underlying22 ty3 rfl rfl rfl (by repeat (first | exact List.mem_cons_self | apply List.mem_cons_of_mem)) Sl.o (by simp only [List.length_cons, List.length_nil]; omega) (by decide) rfl (fun _ _ => (by repeat (first | exact At.head _ _ _ | apply At.tail)))) ?_
     rintro _ _ ⟨ad12, cp13, rfl, rfl⟩
     refine G.r (Runs.assign rfl) ?_
     refine G.nil ?_
     refine V.block_normal ?_
     refine V.then ?_
     refine W.region ?_
     refine G.r (Runs.add rfl rfl (by unfold InR; omega)) ?_
     refine G.r (Runs.move rfl) ?_
     refine G.nil ?_
     exact V.next ((k + 1), (ad12), (cp13), (out ++ ([at_ (rangeI nd) ((k : Nat) : Int)] : List Int))) (show ((k + 1 : Nat) ≤ (rangeI nd).length) ∧ ((out ++ ([at_ (rangeI nd) ((k : Nat) : Int)] : List Int) : List Int) = ((rangeI nd).take (k + 1 : Nat)).filter (joPred nd es)) from ⟨(by omega), (by first | rw [filter_take_yes _ _ k (by omega) (by unfold joPred; rw [decide_eq_true (show 1 < (nbG nd es (at_ (rangeI nd) ((k : Nat) : Int))).length by omega), decide_eq_false c42]; rfl), ← ho] | rw [filter_take_no _ _ k (by omega) (by unfold joPred; rw [decide_eq_true (Classical.not_not.1 c42)]; simp), ← ho] | rw [filter_take_no _ _ k (by omega) (by unfold joPred; rw [decide_eq_false (show ¬ 1 < (nbG nd es (at_ (rangeI nd) ((k : Nat) : Int))).length by omega)]; rfl), ← ho])⟩) (show (rangeI nd).length - (k + 1 : Nat) < (rangeI nd).length - k from (by omega)) (Sub.cons rfl (Sub.cons (lookV rfl (by first | rfl | simp)) (Sub.cons rfl (Sub.cons rfl (Sub.cons rfl (Sub.cons lookO Sub.nil)))))) (show Fit κ _ (vc 3 (.slice (ad12) (out ++ ([at_ (rangeI nd) ((k : Nat) : Int)] : List Int)).length (cp13)) ((out ++ ([at_ (rangeI nd) ((k : Nat) : Int)] : List Int))) :: vc 3 (.slice ad2 (rangeI nd).length cp3) (rangeI nd) :: blk b1 [I64 (nd), va] 25 :: I) from (by first | exact Fit.s | exact Fit.sub))
    ·refine W.skip ?_
     refine V.block_normal ?_
     refine V.then ?_
     refine W.region ?_
     refine G.r (Runs.add rfl rfl (by unfold InR; omega)) ?_
     refine G.r (Runs.move rfl) ?_
     refine G.nil ?_
     exact V.next ((k + 1), (a), (c), (out)) (show ((k + 1 : Nat) ≤ (rangeI nd).length) ∧ ((out : List Int) = ((rangeI nd).take (k + 1 : Nat)).filter (joPred nd es)) from ⟨(by omega), (by first | rw [filter_take_yes _ _ k (by omega) (by unfold joPred; rw [decide_eq_true (show 1 < (nbG nd es (at_ (rangeI nd) ((k : Nat) : Int))).length by omega), decide_eq_false c42]; rfl), ← ho] | rw [filter_take_no _ _ k (by omega) (by unfold joPred; rw [decide_eq_true (Classical.not_not.1 c42)]; simp), ← ho] | rw [filter_take_no _ _ k (by omega) (by unfold joPred; rw [decide_eq_false (show ¬ 1 < (nbG nd es (at_ (rangeI nd) ((k : Nat) : Int))).length by omega)]; rfl), ← ho])⟩) (show (rangeI nd).length - (k + 1 : Nat) < (rangeI nd).length - k from (by omega)) (Sub.cons rfl (Sub.cons (lookV rfl (by first | rfl | simp)) (Sub.cons rfl (Sub.cons rfl (Sub.cons rfl (Sub.cons lookO Sub.nil)))))) (show Fit κ _ (vc 3 (.slice (a) (out).length (c)) ((out)) :: vc 3 (.slice ad2 (rangeI nd).length cp3) (rangeI nd) :: blk b1 [I64 (nd), va] 25 :: I) from (by first | exact Fit.s | exact Fit.sub))
   ·refine D.pass 4 rfl (by kernel_rfl) (by kernel_rfl) (by kernel_rfl) rfl (by kernel_rfl) (fun _ _ _ _ h => h) (Unwanted.off rfl rfl rfl) rfl rfl Fit.sub ?_
    refine D.pass 5 rfl (by kernel_rfl) (by kernel_rfl) (by kernel_rfl) rfl (by kernel_rfl) (fun _ _ _ _ h => h) (Unwanted.off rfl rfl rfl) rfl rfl Fit.sub ?_
    refine D.pass 6 rfl (by kernel_rfl) (by kernel_rfl) (by kernel_rfl) rfl (by kernel_rfl) (fun _ _ _ _ h => h) (Unwanted.off rfl rfl rfl) rfl rfl Fit.sub ?_
    refine D.pass 7 rfl (by kernel_rfl) (by kernel_rfl) (by kernel_rfl) rfl (by kernel_rfl) (fun _ _ _ _ h => h) (Unwanted.off rfl rfl rfl) rfl rfl Fit.sub ?_
    refine D.pass 8 rfl (by kernel_rfl) (by kernel_rfl) (by kernel_rfl) rfl (by kernel_rfl) (fun _ _ _ _ h => h) (Unwanted.off rfl rfl rfl) rfl rfl Fit.sub ?_
    refine D.pass 9 rfl (by kernel_rfl) (by kernel_rfl) (by kernel_rfl) rfl (by kernel_rfl) (fun _ _ _ _ h => h) (Unwanted.off rfl rfl rfl) rfl rfl Fit.sub ?_
    refine D.pass 10 rfl (by kernel_rfl) (by kernel_rfl) (by kernel_rfl) rfl (by kernel_rfl) (fun _ _ _ _ h => h) (Unwanted.off rfl rfl rfl) rfl rfl Fit.sub ?_
    refine D.pass 11 rfl (by kernel_rfl) (by kernel_rfl) (by kernel_rfl) rfl (by kernel_rfl) (fun _ _ _ _ h => h) (Unwanted.off rfl rfl rfl) rfl rfl Fit.sub ?_
    refine D.pass 12 rfl (by kernel_rfl) (by kernel_rfl) (by kernel_rfl) rfl (by kernel_rfl) (fun _ _ _ _ h => h) (Unwanted.off rfl rfl rfl) rfl rfl Fit.sub ?_
    refine D.pass 13 rfl (by kernel_rfl) (by kernel_rfl) (by kernel_rfl) rfl (by kernel_rfl) (fun _ _ _ _ h => h) (Unwanted.off rfl rfl rfl) rfl rfl Fit.sub ?_
    refine D.pass 14 rfl (by kernel_rfl) (by kernel_rfl) (by kernel_rfl) rfl (by kernel_rfl) (fun _ _ _ _ h => h) (Unwanted.off rfl rfl rfl) rfl rfl Fit.sub ?_
    refine D.r 15 rfl (Runs.pickf rfl rfl) ?_ (hJ := Fit.sub)
    refine D.done (by kernel_rfl) ?_
    refine V.then ?_
    refine W.sub (L' := [(42, _), (8, _), (1, _), (5, _), (6, _), (18, _), (19, _), (20, _)]) (Sub.cons rfl (Sub.cons rfl (Sub.cons rfl (Sub.cons rfl (Sub.cons rfl (Sub.cons rfl (Sub.cons rfl (Sub.cons rfl Sub.nil)))))))) ?_
    refine W.no rfl ?_
    refine W.skip ?_
    refine V.block_normal ?_
    refine V.then ?_
    refine W.region ?_
    refine G.r (Runs.add rfl rfl (by unfold InR; omega)) ?_
    refine G.r (Runs.move rfl) ?_
    refine G.nil ?_
    exact V.next ((k + 1), (a), (c), (out)) (show ((k + 1 : Nat) ≤ (rangeI nd).length) ∧ ((out : List Int) = ((rangeI nd).take (k + 1 : Nat)).filter (joPred nd es)) from ⟨(by omega), (by first | rw [filter_take_yes _ _ k (by omega) (by unfold joPred; rw [decide_eq_true (show 1 < (nbG nd es (at_ (rangeI nd) ((k : Nat) : Int))).length by omega), decide_eq_false c42]; rfl), ← ho] | rw [filter_take_no _ _ k (by omega) (by unfold joPred; rw [decide_eq_true (Classical.not_not.1 c42)]; simp), ← ho] | rw [filter_take_no _ _ k (by omega) (by unfold joPred; rw [decide_eq_false (show ¬ 1 < (nbG nd es (at_ (rangeI nd) ((k : Nat) : Int))).length by omega)]; rfl), ← ho])⟩) (show (rangeI nd).length - (k + 1 : Nat) < (rangeI nd).length - k from (by omega)) (Sub.cons rfl (Sub.cons (lookV rfl (by first | rfl | simp)) (Sub.cons rfl (Sub.cons rfl (Sub.cons rfl (Sub.cons lookO Sub.nil)))))) (show Fit κ _ (vc 3 (.slice (a) (out).length (c)) ((out)) :: vc 3 (.slice ad2 (rangeI nd).length cp3) (rangeI nd) :: blk b1 [I64 (nd), va] 25 :: I) from (by first | exact Fit.s | exact Fit.sub))
  ·refine W.exit ?_
   refine V.then_exit ?_
   refine V.then_exit ?_
   refine V.block_hit ?_
   refine V.then ?_
   refine W.sr ?_
   refine G.r (Runs.move rfl) ?_
   refine G.r (Runs.assign rfl) ?_
   refine G.r (Runs.assign rfl) ?_
   refine G.nt ?_
   refine W.ret ?_
   have hz : checkG nd es = 0 := Classical.not_not.1 c13
   have hX : (jointsG nd es) = out := by rw [← joints_ref hG, ho, List.take_of_length_le (by omega)]
   exact V.ret2 rfl rfl rfl (vc 3 (.slice a (jointsG nd es).length c) (jointsG nd es) :: I) (by rw [hX]; first | exact Fit.sub | exact Fit.s) ⟨a, c, by rw [hX, hz], rfl⟩

end Go.Sl
namespace Go.Sl
open Go.Proofs
set_option linter.unusedVariables false
set_option linter.unusedSimpArgs false
set_option maxRecDepth 4000
def bothL (e f : Pt) : List Int := meetL [e.u, e.v] [f.u, f.v]
def joinF (nd : Int) (es : List Pt) (e f : Pt) : Bool := if (bothL e f).length ≠ 1 then false else decide (at_ (minusL [f.u, f.v] (bothL e f)) 0 ∈ listB (reachB (rowsB nd es) (maskB (minusL [e.u, e.v] (bothL e f))) (maskB (minusL (rangeI nd) (bothL e f)))))
theorem both_asc2 (e f : Pt) : (bothL e f).Pairwise (fun a b : Int => a < b) := (ofL_asc _).sublist List.filter_sublist
theorem ends_mem {c x z : Int} (h : c ≠ x) : (z = (edgeP c x).u ∨ z = (edgeP c x).v) ↔ (z = c ∨ z = x) := by
  unfold edgeP
  by_cases h1 : x < c
  · simp only [if_pos h1, if_neg (show ¬ c < x by omega)]; omega
  · simp only [if_neg h1, if_pos (show c < x by omega)]
theorem other_end {e : Pt} (he : e.u < e.v) {c : Int} (hc : c = e.u ∨ c = e.v) : ∃ x, e = edgeP c x ∧ c ≠ x := by
  rcases hc with rfl | rfl
  · exact ⟨e.v, by unfold edgeP; rw [if_neg (by omega), if_pos he], by omega⟩
  · exact ⟨e.u, by unfold edgeP; rw [if_pos he, if_neg (by omega)], by omega⟩
theorem minus_one {c x : Int} {e : Pt} (he : e = edgeP c x) (h : c ≠ x) : minusL [e.u, e.v] [c] = [x] := by
  refine intLin.uniq (minus_asc _ _) (by simp) fun z => ?_
  rw [mem_minusL, List.mem_singleton, List.mem_singleton, List.mem_cons, List.mem_singleton, he, ends_mem h]
  omega
theorem both_mem {e f : Pt} {z : Int} : z ∈ bothL e f ↔ (z = e.u ∨ z = e.v) ∧ (z = f.u ∨ z = f.v) := by unfold bothL; rw [mem_meetL]; simp
theorem joinF_iff {nd : Int} {es : List Pt} (hG : GrOk nd es) {e f : Pt} (he : e ∈ es) (hf : f ∈ es) : joinF nd es e f = true ↔ JoinE (adjR (rowsB nd es)) e f := by
  have h1 := hG.edge e he
  have h2 := hG.edge f hf
  have hS : ∀ c : Int, ∀ x ∈ minusL (rangeI nd) [c], 0 ≤ x ∧ x < nd := fun c x hx => by have := mem_rangeI.1 (mem_minusL.1 hx).1; omega
  have core : ∀ c x y : Int, e = edgeP c x → f = edgeP c y → c ≠ x → c ≠ y → x ≠ y → bothL e f = [c] := fun c x y ee ef hcx hcy hxy => by
    refine intLin.uniq (both_asc2 e f) (by simp) fun z => ?_
    rw [both_mem, List.mem_singleton, ee, ef, ends_mem hcx, ends_mem hcy]
    omega
  have eval : ∀ c x y : Int, e = edgeP c x → f = edgeP c y → c ≠ x → c ≠ y → bothL e f = [c] → (joinF nd es e f = true ↔ Pth (adjR (rowsB nd es)) (fun q => q ∈ minusL (rangeI nd) [c]) x y) := fun c x y ee ef hcx hcy hb => by
    unfold joinF
    rw [hb, if_neg (by simp), minus_one ee hcx, minus_one ef hcy, decide_eq_true_eq, show at_ [y] 0 = y from rfl]
    refine reach_pth hG (hS c) ?_
    exact (adj_rng hG ((adj_iff hG).2 (by rw [← ee]; exact he) : adjR (rowsB nd es) c x)).2
  constructor
  · intro h
    have hl : (bothL e f).length = 1 := Classical.byContradiction fun hn => by unfold joinF at h; rw [if_pos hn] at h; cases h
    obtain ⟨c, hc⟩ : ∃ c, bothL e f = [c] := by
      match hq : bothL e f, hl with
      | [c], _ => exact ⟨c, rfl⟩
    have hcm := both_mem.1 (show c ∈ bothL e f by rw [hc]; simp)
    obtain ⟨x, ee, hcx⟩ := other_end h1.2.1 hcm.1
    obtain ⟨y, ef, hcy⟩ := other_end h2.2.1 hcm.2
    have hxy : x ≠ y := fun e3 => by
      subst e3
      have : x ∈ bothL e f := both_mem.2 ⟨by rw [ee, ends_mem hcx]; exact .inr rfl, by rw [ef, ends_mem hcy]; exact .inr rfl⟩
      rw [hc, List.mem_singleton] at this; exact hcx this.symm
    have hp := (eval c x y ee ef hcx hcy hc).1 h
    exact ⟨c, x, y, ee, ef, hxy, (adj_iff hG).2 (by rw [← ee]; exact he), (adj_iff hG).2 (by rw [← ef]; exact hf), hp.mono fun q hq => by
      have := (mem_minusL.1 hq).2
      rw [List.mem_singleton] at this; exact this⟩
  · rintro ⟨c, x, y, ee, ef, hxy, hcx, hcy, hp⟩
    have hx : c ≠ x := fun e3 => (rowsG_of hG).adj.irr c (by rw [← e3] at hcx; exact hcx)
    have hy : c ≠ y := fun e3 => (rowsG_of hG).adj.irr c (by rw [← e3] at hcy; exact hcy)
    refine (eval c x y ee ef hx hy (core c x y ee ef hx hy hxy)).2 ?_
    have hmem : ∀ q, 0 ≤ q ∧ q < nd → q ≠ c → q ∈ minusL (rangeI nd) [c] := fun q hq hne => by
      have hr := hG.rng
      exact mem_minusL.2 ⟨mem_rangeI.2 (by omega), by simpa using hne⟩
    have key : ∀ {z : Int}, Pth (adjR (rowsB nd es)) (fun a => a ≠ c) x z → Pth (adjR (rowsB nd es)) (fun q => q ∈ minusL (rangeI nd) [c]) x z := fun {z} h => by
      induction h with
      | refl h => exact .refl (hmem _ (adj_rng hG hcx).2 h)
      | step _ ha hz ih => exact .step ih ha (hmem _ (adj_rng hG ha).2 hz)
    exact key hp
theorem join_len {e f : Pt} (h : (bothL e f).length = 1) (hf : f.u ≠ f.v) : 0 < (minusL [f.u, f.v] (bothL e f)).length := by
  obtain ⟨c, hc⟩ : ∃ c, bothL e f = [c] := by
    match hq : bothL e f, h with
    | [c], _ => exact ⟨c, rfl⟩
  rw [hc]
  refine List.length_pos_iff.2 fun e1 => ?_
  have h1 : ∀ z, z ∈ [f.u, f.v] → z = c := fun z hz => Classical.byContradiction fun hn => by
    have : z ∈ minusL [f.u, f.v] [c] := mem_minusL.2 ⟨hz, by simpa using hn⟩
    rw [e1] at this; cases this
  exact hf ((h1 f.u (by simp)).trans (h1 f.v (by simp)).symm)
/-- The classes so far. -/
structure GrpI (nd : Int) (es : List Pt) (gs : List Int) : Prop where
  len : gs.length = es.length
  bnd : ∀ k : Nat, k < es.length → 0 ≤ at_ gs (k : Int) ∧ at_ gs (k : Int) ≤ k
  eqv : ∀ k : Nat, k < es.length → EqvE (adjR (rowsB nd es)) (at_ es (at_ gs (k : Int))) (at_ es (k : Int))
def FixG (nd : Int) (es : List Pt) (gs : List Int) : Prop := ∀ i k : Nat, i < es.length → k < es.length → ¬ (at_ gs (i : Int) < at_ gs (k : Int) ∧ joinF nd es (at_ es (i : Int)) (at_ es (k : Int)) = true)
def gsum (gs : List Int) : Nat := (gs.map Int.toNat).sum
theorem gsum_set : ∀ {gs : List Int} {k : Nat} {x : Int}, k < gs.length → 0 ≤ x → x < at_ gs (k : Int) → gsum (gs.set k x) < gsum gs
  | [], _, _, h, _, _ => by simp at h
  | y :: gs, 0, x, _, h0, h1 => by
    have : at_ (y :: gs) ((0 : Nat) : Int) = y := rfl
    rw [this] at h1
    unfold gsum; simp only [List.set_cons_zero, List.map_cons, List.sum_cons]; omega
  | y :: gs, k + 1, x, h, h0, h1 => by
    have e : at_ (y :: gs) ((k + 1 : Nat) : Int) = at_ gs (k : Int) := by rw [at_nat, at_nat]; rfl
    rw [e] at h1
    have := gsum_set (gs := gs) (k := k) (x := x) (by simpa using h) h0 h1
    unfold gsum at this ⊢; simp only [List.set_cons_succ, List.map_cons, List.sum_cons]; omega
theorem GrpI.set {nd : Int} {es : List Pt} {gs : List Int} (hG : GrOk nd es) (h : GrpI nd es gs) {i k : Nat} (hi : i < es.length) (hk : k < es.length) (hlt : at_ gs (i : Int) < at_ gs (k : Int)) (hj : joinF nd es (at_ es (i : Int)) (at_ es (k : Int)) = true) : GrpI nd es (gs.set k (at_ gs (i : Int))) := by
  have hm : ∀ j : Nat, j < es.length → at_ es (j : Int) ∈ es := fun j hj => at_mem (by omega) (by omega)
  have hjn := (joinF_iff hG (hm i hi) (hm k hk)).1 hj
  have hl := h.len
  refine ⟨by simp [hl], fun j hj2 => ?_, fun j hj2 => ?_⟩
  · rw [at_setn _ _ _ _ (by omega)]
    split
    · have h1 := h.bnd i hi; have h2 := h.bnd k hk; omega
    · exact h.bnd j hj2
  · rw [at_setn _ _ _ _ (by omega)]
    split
    · rename_i e; subst e
      exact (h.eqv i hi).step hjn
    · exact h.eqv j hj2
/-- One pass over the pairs: nothing has been changed yet, or the sum has fallen. -/
def PassG (nd : Int) (es : List Pt) (gs gs1 : List Int) (ag : Bool) (i k : Nat) : Prop :=
  (ag = false ∧ gs1 = gs ∧ ∀ i' k' : Nat, i' < es.length → k' < es.length → (i' < i ∨ (i' = i ∧ k' < k)) → ¬ (at_ gs (i' : Int) < at_ gs (k' : Int) ∧ joinF nd es (at_ es (i' : Int)) (at_ es (k' : Int)) = true)) ∨ (ag = true ∧ gsum gs1 < gsum gs)
theorem PassG.start {nd : Int} {es : List Pt} {gs : List Int} : PassG nd es gs gs false 0 0 := .inl ⟨rfl, rfl, fun i' k' _ _ h => by omega⟩
theorem PassG.skip {nd : Int} {es : List Pt} {gs gs1 : List Int} {ag : Bool} {i k : Nat} (h : PassG nd es gs gs1 ag i k) (hn : ¬ (at_ gs1 (i : Int) < at_ gs1 (k : Int) ∧ joinF nd es (at_ es (i : Int)) (at_ es (k : Int)) = true)) : PassG nd es gs gs1 ag i (k + 1) := by
  rcases h with ⟨h1, h2, h3⟩ | h
  · subst h2
    refine .inl ⟨h1, rfl, fun i' k' hi hk hh => ?_⟩
    by_cases e : i' = i ∧ k' = k
    · rw [e.1, e.2]; exact hn
    · exact h3 i' k' hi hk (by omega)
  · exact .inr h
theorem PassG.put {nd : Int} {es : List Pt} {gs gs1 : List Int} {ag : Bool} {i k : Nat} (h : PassG nd es gs gs1 ag i k) (hk : k < gs1.length) (h0 : 0 ≤ at_ gs1 (i : Int)) (hlt : at_ gs1 (i : Int) < at_ gs1 (k : Int)) : PassG nd es gs (gs1.set k (at_ gs1 (i : Int))) true i (k + 1) := by
  have hs := gsum_set hk h0 hlt
  rcases h with ⟨h1, h2, h3⟩ | ⟨h1, h2⟩
  · subst h2; exact .inr ⟨rfl, hs⟩
  · exact .inr ⟨rfl, by omega⟩
theorem PassG.row {nd : Int} {es : List Pt} {gs gs1 : List Int} {ag : Bool} {i k : Nat} (h : PassG nd es gs gs1 ag i k) (hk : es.length ≤ k) : PassG nd es gs gs1 ag (i + 1) 0 := by
  rcases h with ⟨h1, h2, h3⟩ | h
  · exact .inl ⟨h1, h2, fun i' k' hi hk' hh => h3 i' k' hi hk' (by omega)⟩
  · exact .inr h
theorem PassG.fix {nd : Int} {es : List Pt} {gs gs1 : List Int} {ag : Bool} {i : Nat} (h : PassG nd es gs gs1 ag i 0) (hi : es.length ≤ i) : ag = false → FixG nd es gs1 := fun e => by
  rcases h with ⟨h1, h2, h3⟩ | ⟨h1, _⟩
  · subst h2; exact fun i' k' hi' hk' => h3 i' k' hi' hk' (by omega)
  · rw [e] at h1; cases h1
theorem PassG.mea {nd : Int} {es : List Pt} {gs gs1 : List Int} {ag : Bool} {i k : Nat} (h : PassG nd es gs gs1 ag i k) : 2 * gsum gs1 + ag.toNat < 2 * gsum gs + true.toNat := by
  rcases h with ⟨h1, h2, _⟩ | ⟨h1, h2⟩
  · rw [h1, h2]; simp
  · rw [h1]; simp; omega
/-- A class, and the classes that have edges. -/
def selK (es : List Pt) (gs : List Int) (i : Int) (n : Nat) : List Pt := ((List.range n).filter fun k : Nat => decide (at_ gs (k : Int) = i)).map fun k : Nat => at_ es (k : Int)
def selG (es : List Pt) (gs : List Int) (i : Int) : List Pt := selK es gs i es.length
def outG (es : List Pt) (gs : List Int) (n : Nat) : List (List Pt) := ((List.range n).map fun i : Nat => selG es gs (i : Int)).filter fun b => decide (0 < b.length)
theorem selK_yes {es : List Pt} {gs : List Int} {i : Int} {n : Nat} (h : at_ gs (n : Int) = i) : selK es gs i (n + 1) = selK es gs i n ++ [at_ es (n : Int)] := by unfold selK; rw [List.range_succ, List.filter_append, List.map_append]; simp [h]
theorem selK_no {es : List Pt} {gs : List Int} {i : Int} {n : Nat} (h : ¬ at_ gs (n : Int) = i) : selK es gs i (n + 1) = selK es gs i n := by unfold selK; rw [List.range_succ, List.filter_append, List.map_append]; simp [h]
theorem outG_yes {es : List Pt} {gs : List Int} {n : Nat} (h : 0 < (selG es gs (n : Int)).length) : outG es gs (n + 1) = outG es gs n ++ [selG es gs (n : Int)] := by unfold outG; rw [List.range_succ, List.map_append, List.filter_append]; simp [h]
theorem outG_no {es : List Pt} {gs : List Int} {n : Nat} (h : ¬ 0 < (selG es gs (n : Int)).length) : outG es gs (n + 1) = outG es gs n := by unfold outG; rw [List.range_succ, List.map_append, List.filter_append]; simp [h]
theorem selK_len (es : List Pt) (gs : List Int) (i : Int) (n : Nat) : (selK es gs i n).length ≤ n := by unfold selK; rw [List.length_map]; refine Nat.le_trans (List.length_filter_le _ _) ?_; rw [List.length_range]; exact Nat.le_refl _
theorem outG_len (es : List Pt) (gs : List Int) (n : Nat) : (outG es gs n).length ≤ n := by unfold outG; refine Nat.le_trans (List.length_filter_le _ _) ?_; rw [List.length_map, List.length_range]; exact Nat.le_refl _
theorem mem_selG {es : List Pt} {gs : List Int} {i : Int} {e : Pt} : e ∈ selG es gs i ↔ ∃ k : Nat, k < es.length ∧ at_ gs (k : Int) = i ∧ at_ es (k : Int) = e := by
  unfold selG selK
  rw [List.mem_map]
  constructor
  · rintro ⟨k, hk, rfl⟩
    obtain ⟨h1, h2⟩ := List.mem_filter.1 hk
    exact ⟨k, List.mem_range.1 h1, of_decide_eq_true h2, rfl⟩
  · rintro ⟨k, h1, h2, rfl⟩
    exact ⟨k, List.mem_filter.2 ⟨List.mem_range.2 h1, decide_eq_true h2⟩, rfl⟩
theorem blks_ref {nd : Int} {es : List Pt} {gs : List Int} (hG : GrOk nd es) (h : GrpI nd es gs) (hF : FixG nd es gs) : outG es gs es.length = blksG nd es := by
  refine ClsP.uniq (adj := adjR (rowsB nd es)) (es := es) ?_ (blks_cls hG)
  have hA := (rowsG_of hG).adj
  have hm : ∀ j : Nat, j < es.length → at_ es (j : Int) ∈ es := fun j hj => at_mem (by omega) (by omega)
  have hconst : ∀ k k' : Nat, k < es.length → k' < es.length → EqvE (adjR (rowsB nd es)) (at_ es (k : Int)) (at_ es (k' : Int)) → at_ gs (k : Int) = at_ gs (k' : Int) := fun k k' hk hk' he => by
    have hidx : ∀ {a b : Nat}, a < es.length → b < es.length → at_ es (a : Int) = at_ es (b : Int) → a = b := fun {a b} ha hb e => by
      rcases Nat.lt_trichotomy a b with h1 | h1 | h1
      · have := asc_at hG.asc h1 hb; rw [e] at this; exact absurd this (Pt.lin.irr _)
      · exact h1
      · have := asc_at hG.asc h1 ha; rw [e] at this; exact absurd this (Pt.lin.irr _)
    obtain ⟨q, hq, hqe, hqg⟩ := he.keep (X := fun f => ∃ q : Nat, q < es.length ∧ at_ es (q : Int) = f ∧ at_ gs (k : Int) = at_ gs (q : Int)) ⟨k, hk, rfl, rfl⟩ fun f f' ⟨q, hq, hqe, hqg⟩ hj => by
      have hfes : f' ∈ es := by
        obtain ⟨c, x, y, _, e2, _, _, hcy, _⟩ := hj
        rw [e2]; exact (adj_iff hG).1 hcy
      obtain ⟨q', hq', hqe'⟩ := mem_at hfes
      refine ⟨q', hq', hqe', ?_⟩
      rw [← hqe, ← hqe'] at hj
      have h1 := hF q q' hq hq'
      have h2 := hF q' q hq' hq
      have j1 := (joinF_iff hG (hm q hq) (hm q' hq')).2 hj
      have j2 := (joinF_iff hG (hm q' hq') (hm q hq)).2 (hj.symm hA.sym)
      rw [hqg]
      rcases Int.lt_trichotomy (at_ gs (q : Int)) (at_ gs (q' : Int)) with h3 | h3 | h3
      · exact absurd ⟨h3, j1⟩ h1
      · exact h3
      · exact absurd ⟨h3, j2⟩ h2
    rw [hqg, hidx hq hk' hqe]
  have hroot : ∀ (i : Nat), 0 < (selG es gs (i : Int)).length → i < es.length ∧ at_ gs (i : Int) = i := fun i hl => by
    obtain ⟨e, he⟩ := List.exists_mem_of_length_pos hl
    obtain ⟨k, hk, hg, _⟩ := mem_selG.1 he
    have hb := h.bnd k hk
    rw [hg] at hb
    have hie : i < es.length := by omega
    have := h.eqv k hk
    rw [hg] at this
    exact ⟨hie, (hconst i k hie hk this).trans hg⟩
  have hasc : ∀ i : Int, (selG es gs i).Pairwise Pt.lt := fun i => by
    unfold selG selK
    rw [List.pairwise_map]
    have h1 : ((List.range es.length).filter fun k : Nat => decide (at_ gs (k : Int) = i)).Pairwise (· < ·) := List.pairwise_lt_range.sublist List.filter_sublist
    refine h1.imp_of_mem fun {a b} ha hb hab => ?_
    have hbl := List.mem_range.1 (List.mem_filter.1 hb).1
    exact asc_at hG.asc hab hbl
  have hhd : ∀ (i : Nat), 0 < (selG es gs (i : Int)).length → hd0 (selG es gs (i : Int)) = at_ es (i : Int) := fun i hl => by
    obtain ⟨h1, h2⟩ := hroot i hl
    have hin : at_ es (i : Int) ∈ selG es gs (i : Int) := mem_selG.2 ⟨i, h1, h2, rfl⟩
    have h0 := hd0_mem (List.length_pos_iff.1 hl)
    obtain ⟨k, hk, hg, hke⟩ := mem_selG.1 h0
    have hb := h.bnd k hk
    rw [hg] at hb
    have hle : ¬ Pt.lt (at_ es (i : Int)) (hd0 (selG es gs (i : Int))) := fun hlt => by
      have hh := hasc (i : Int)
      cases hq : selG es gs (i : Int) with
      | nil => rw [hq] at hl; simp at hl
      | cons z zs =>
        rw [hq] at hh hin hlt
        have e1 : hd0 (z :: zs) = z := rfl
        rw [e1] at hlt
        rcases List.mem_cons.1 hin with e2 | e2
        · rw [e2] at hlt; exact Pt.lin.irr _ hlt
        · exact Pt.lin.irr _ (Pt.lin.tr _ _ _ hlt ((List.pairwise_cons.1 hh).1 _ e2))
    rcases Nat.lt_or_ge i k with h3 | h3
    · have := asc_at hG.asc h3 hk
      rw [hke] at this; exact absurd this hle
    · rw [← hke, show k = i by omega]
  have hmo : ∀ b, b ∈ outG es gs es.length ↔ ∃ i : Nat, i < es.length ∧ b = selG es gs (i : Int) ∧ 0 < b.length := fun b => by
    unfold outG
    rw [List.mem_filter, List.mem_map]
    constructor
    · rintro ⟨⟨i, hi, rfl⟩, hl⟩; exact ⟨i, List.mem_range.1 hi, rfl, of_decide_eq_true hl⟩
    · rintro ⟨i, hi, rfl, hl⟩; exact ⟨⟨i, List.mem_range.2 hi, rfl⟩, decide_eq_true hl⟩
  refine ⟨fun b hb => ?_, fun b hb => ?_, ?_, fun b hb e he => ?_, fun e he => ?_, fun b hb e he f hf => ?_⟩
  · obtain ⟨i, _, _, hl⟩ := (hmo b).1 hb; exact List.length_pos_iff.1 hl
  · obtain ⟨i, _, rfl, _⟩ := (hmo b).1 hb; exact hasc _
  · unfold outG
    rw [List.pairwise_filter, List.pairwise_map]
    refine List.pairwise_lt_range.imp_of_mem fun {a b} ha hb hab h1 h2 => ?_
    rw [hhd a (of_decide_eq_true h1), hhd b (of_decide_eq_true h2)]
    exact asc_at hG.asc hab (List.mem_range.1 hb)
  · obtain ⟨i, _, rfl, _⟩ := (hmo b).1 hb
    obtain ⟨k, hk, _, rfl⟩ := mem_selG.1 he; exact hm k hk
  · obtain ⟨k, hk, rfl⟩ := mem_at he
    have hb := h.bnd k hk
    have hin : at_ es (k : Int) ∈ selG es gs (((at_ gs (k : Int)).toNat : Nat) : Int) := mem_selG.2 ⟨k, hk, by omega, rfl⟩
    exact ⟨_, (hmo _).2 ⟨(at_ gs (k : Int)).toNat, by omega, rfl, List.length_pos_of_mem hin⟩, hin⟩
  · obtain ⟨i, hi, rfl, _⟩ := (hmo b).1 hb
    obtain ⟨k, hk, hg, rfl⟩ := mem_selG.1 he
    obtain ⟨k', hk', rfl⟩ := mem_at hf
    rw [mem_selG]
    constructor
    · rintro ⟨q, hq, hqg, hqe⟩
      have h1 := h.eqv k hk
      have h2 := h.eqv q hq
      rw [hg] at h1; rw [hqg, hqe] at h2
      exact (h1.symm hA.sym).trans h2
    · intro he2
      exact ⟨k', hk', by rw [← hconst k k' hk hk' he2]; exact hg, rfl⟩

end Go.Sl
