/- A part of the proofs of statements of this seat: contracts of functions, and the plain laws that they lean on. No conditions. -/
import Derived.Test.YtbimaodbcjjbfaaGreatDoorMaskB
import Derived.Test.YtbimaodbcjjbfaaGreatDoorGraphL5
import Derived.Test.YtbimaodbcjjbfaaGreatDoorGraphM5
import Derived.Test.YtbimaodbcjjbfaaGreatDoorGraphK5
import Derived.Test.YtbimaodbcjjbfaaGreatDoorRefFrac
import Derived.Test.YtbimaodbcjjbfaaGreatDoorSets
namespace Go.Sl
open Go.Proofs
set_option linter.unusedVariables false
set_option linter.unusedSimpArgs false
set_option maxRecDepth 4000
/-- The row of a node, of any graph. -/
def rowG (nd : Int) (es : List Pt) (v : Int) : BitVec 64 := if v < 0 ∨ ((rowsB nd es).length : Int) ≤ v ∨ checkG nd es ≠ 0 then 0#64 else at_ (rowsB nd es) v
def nbL (es : List Pt) (v : Int) : List Int := es.flatMap fun e => (if e.u = v then [e.v] else []) ++ (if e.v = v then [e.u] else [])
theorem nbL_take {es : List Pt} {k : Nat} (h : k < es.length) (v : Int) : nbL (es.take (k + 1)) v = nbL (es.take k) v ++ ((if (at_ es (k : Int)).u = v then [(at_ es (k : Int)).v] else []) ++ (if (at_ es (k : Int)).v = v then [(at_ es (k : Int)).u] else [])) := by
  unfold nbL; rw [take_at es k h, List.flatMap_append]; simp
theorem mem_nbL {es : List Pt} {v x : Int} : x ∈ nbL es v ↔ (⟨v, x⟩ : Pt) ∈ es ∨ (⟨x, v⟩ : Pt) ∈ es := by
  unfold nbL
  rw [List.mem_flatMap]
  constructor
  · rintro ⟨⟨a, b⟩, he, hx⟩
    rcases List.mem_append.1 hx with h | h
    · split at h
      · rename_i h1; simp only [List.mem_singleton] at h; simp only at h1; subst h h1; exact .inl he
      · simp at h
    · split at h
      · rename_i h1; simp only [List.mem_singleton] at h; simp only at h1; subst h h1; exact .inr he
      · simp at h
  · rintro (h | h)
    · exact ⟨_, h, by simp⟩
    · exact ⟨_, h, by simp⟩
/-- The neighbours of a node. -/
def nbG (nd : Int) (es : List Pt) (v : Int) : List Int := if checkG nd es ≠ 0 then [] else ofL (nbL es v)
theorem nb_eq (nd : Int) (es : List Pt) (v : Int) : listB (rowG nd es v) = nbG nd es v := by
  by_cases hc : checkG nd es ≠ 0
  · unfold rowG nbG; rw [if_pos (.inr (.inr hc)), if_pos hc, listB_zero]
  · have hG := checkG_ok.1 (Classical.not_not.1 hc)
    have hr := hG.rng
    have hl := hG.rows.len
    unfold nbG
    rw [if_neg hc]
    refine intLin.uniq (listB_asc _) (ofL_asc _) fun x => ?_
    rw [mem_listB, mem_ofL, mem_nbL]
    by_cases hv : v < 0 ∨ ((rowsB nd es).length : Int) ≤ v
    · have hz : rowG nd es v = 0#64 := if_pos (by omega)
      rw [hz]
      simp only [BitVec.getLsbD_zero, Bool.false_eq_true, and_false, false_iff]
      rintro (h | h)
      · have := hG.edge _ h; simp only at this; omega
      · have := hG.edge _ h; simp only at this; omega
    · have hz : rowG nd es v = at_ (rowsB nd es) v := if_neg (by omega)
      rw [hz]
      by_cases hx : 0 ≤ x ∧ x < 64
      · rw [hG.rows.bit v x (by omega) (by omega) hx.1 hx.2, decide_eq_true_eq]
        exact ⟨fun h => h.2, fun h => ⟨hx.1, h⟩⟩
      · constructor
        · rintro ⟨h1, h2⟩
          rw [BitVec.getLsbD_of_ge _ _ (by omega)] at h2
          exact absurd h2 (by decide)
        · rintro (h | h)
          · have := hG.edge _ h; simp only at this; omega
          · have := hG.edge _ h; simp only at this; omega
theorem nbG_len (nd : Int) (es : List Pt) (v : Int) : (nbG nd es v).length ≤ 64 := by rw [← nb_eq]; exact listB_len _
theorem listB_and (a b : BitVec 64) : listB (a &&& b) = meetL (listB a) (listB b) := by
  refine intLin.uniq (listB_asc _) ((ofL_asc _).sublist List.filter_sublist) fun x => ?_
  rw [mem_meetL, mem_listB, mem_listB, mem_listB, BitVec.getLsbD_and, Bool.and_eq_true]
  exact ⟨fun h => ⟨⟨h.1, h.2.1⟩, h.1, h.2.2⟩, fun h => ⟨h.1.1, h.1.2, h.2.2⟩⟩
theorem degree_eq (nd : Int) (es : List Pt) (v : Int) : onesB (rowG nd es v) = ((nbG nd es v).length : Int) := by rw [ones_pop, nb_eq]
def commonG (nd : Int) (es : List Pt) (u v : Int) : List Int := if u = v then [] else meetL (nbG nd es u) (nbG nd es v)
theorem common_eq {nd : Int} {es : List Pt} {u v : Int} (h : u ≠ v) : listB (rowG nd es u &&& rowG nd es v) = commonG nd es u v := by
  unfold commonG; rw [if_neg h, listB_and, nb_eq, nb_eq]
def FindP (nd : Int) (es : List Pt) (u v y : Int) : Prop := (checkG nd es = 0 ∧ ∃ j : Nat, y = (j : Int) ∧ j < es.length ∧ at_ es (j : Int) = edgeP u v) ∨ (y = -1 ∧ (checkG nd es ≠ 0 ∨ edgeP u v ∉ es))
theorem FindP.uniq {nd : Int} {es : List Pt} {u v y z : Int} (h : FindP nd es u v y) (h' : FindP nd es u v z) : y = z := by
  have key : ∀ {a b : Int}, (checkG nd es = 0 ∧ ∃ j : Nat, a = (j : Int) ∧ j < es.length ∧ at_ es (j : Int) = edgeP u v) → (b = -1 ∧ (checkG nd es ≠ 0 ∨ edgeP u v ∉ es)) → False := by
    rintro a b ⟨hc, j, _, hj, he⟩ ⟨_, h1 | h1⟩
    · exact h1 hc
    · exact h1 (he ▸ at_mem (by omega) (by omega))
  rcases h with h | h <;> rcases h' with h' | h'
  · obtain ⟨hc, j, rfl, hj, he⟩ := h
    obtain ⟨_, i, rfl, hi, hf⟩ := h'
    have ha := (checkG_ok.1 hc).asc
    rcases Nat.lt_trichotomy i j with h1 | h1 | h1
    · have := asc_at ha (i := i) (j := j) h1 hj; rw [he, hf] at this; exact absurd this (Pt.lin.irr _)
    · rw [h1]
    · have := asc_at ha (i := j) (j := i) h1 hi; rw [he, hf] at this; exact absurd this (Pt.lin.irr _)
  · exact (key h h').elim
  · exact (key h' h).elim
  · rw [h.1, h'.1]
/-- The induced graph. -/
def indG (nd : Int) (es : List Pt) (set : List Int) : List Pt := if checkG nd es ≠ 0 then [] else insideL set es
def indN (nd : Int) (es : List Pt) : Int := if checkG nd es ≠ 0 then 0 else nd
theorem indG_len (nd : Int) (es : List Pt) (set : List Int) : (indG nd es set).length = insideN nd es set := by
  unfold indG insideN; split <;> rfl
theorem indG_ref {nd : Int} {es : List Pt} (set : List Int) (h : ¬ checkG nd es ≠ 0) : indG nd es set = es.filter fun e => decide (e.u ∈ set ∧ e.v ∈ set) := by
  unfold indG; rw [if_neg h]; exact insideL_eq set (checkG_ok.1 (Classical.not_not.1 h))
theorem all_tab : ∀ n : Fin 65, ∀ i : Fin 64, (allB (n.val : Int)).getLsbD i.val = decide (i.val < n.val) := by decide +kernel
theorem getLsb_allB {n : Int} (h0 : 0 ≤ n) (h1 : n ≤ 64) {i : Nat} (hi : i < 64) : (allB n).getLsbD i = decide ((i : Int) < n) := by
  have := all_tab ⟨n.toNat, by omega⟩ ⟨i, hi⟩
  simp only [show ((n.toNat : Nat) : Int) = n by omega] at this
  rw [this, decide_eq_decide]; omega
theorem meet_all {nd : Int} (set : List Int) (h0 : 0 ≤ nd) (h1 : nd ≤ 64) : listB (maskB set &&& allB nd) = meetL set (rangeI nd) := by
  refine intLin.uniq (listB_asc _) ((ofL_asc _).sublist List.filter_sublist) fun x => ?_
  rw [mem_meetL, mem_listB, mem_rangeI, BitVec.getLsbD_and, Bool.and_eq_true]
  by_cases hx : 0 ≤ x ∧ x < 64
  · rw [getLsb_allB h0 h1 (by omega), decide_eq_true_eq, show (maskB set).getLsbD x.toNat = decide (x ∈ set) by unfold maskB; rw [getLsb_maskB (by omega), show ((x.toNat : Nat) : Int) = x by omega]; simp, decide_eq_true_eq]
    exact ⟨fun h => ⟨h.2.1, h.1, by omega, by omega⟩, fun h => ⟨h.2.1, h.1, by omega⟩⟩
  · constructor
    · rintro ⟨h1, h2, _⟩
      rw [BitVec.getLsbD_of_ge _ _ (by omega)] at h2
      exact absurd h2 (by decide)
    · rintro ⟨_, h⟩; omega
theorem dens_count {nd : Int} {es : List Pt} (set : List Int) (h : ¬ checkG nd es ≠ 0) : onesB (maskB set &&& allB nd) = ((meetL set (rangeI nd)).length : Int) := by
  have hr := (checkG_ok.1 (Classical.not_not.1 h)).rng
  rw [ones_pop, meet_all set hr.1 hr.2]
theorem dens_none {nd : Int} {es : List Pt} {set : List Int} (h : ¬ checkG nd es ≠ 0) (hm : (meetL set (rangeI nd)).length = 0) : insideN nd es set = 0 := by
  have hG := checkG_ok.1 (Classical.not_not.1 h)
  have hr := hG.rng
  rw [insideN_ok hG, List.length_eq_zero_iff, List.filter_eq_nil_iff]
  intro e he hd
  simp only [decide_eq_true_eq] at hd
  have h1 := hG.edge e he
  have : e.u ∈ meetL set (rangeI nd) := mem_meetL.2 ⟨hd.1, mem_rangeI.2 ⟨by omega, by omega, by omega⟩⟩
  rw [List.length_eq_zero_iff.1 hm] at this
  exact absurd this List.not_mem_nil
/-- The density. -/
def densG (nd : Int) (es : List Pt) (set : List Int) : Fr := if checkG nd es ≠ 0 then ⟨0, 0⟩ else if (meetL set (rangeI nd)).length = 0 then ⟨0, 1⟩ else mkF ((insideN nd es set : Nat) : Int) (((meetL set (rangeI nd)).length : Nat) : Int)
theorem densG_prog {nd : Int} {es : List Pt} (set : List Int) (h : ¬ checkG nd es ≠ 0) : mkF ((insideN nd es set : Nat) : Int) (if onesB (maskB set &&& allB nd) < 1 then 1 else onesB (maskB set &&& allB nd)) = densG nd es set := by
  unfold densG
  rw [if_neg h, dens_count set h]
  by_cases hm : (meetL set (rangeI nd)).length = 0
  · rw [if_pos hm, dens_none h hm, if_pos (by omega)]; exact mkF_zero (by decide)
  · rw [if_neg hm, if_neg (by omega)]

theorem GRowG_ok {κ : Ctx} {I : List Item} {nd : Int} {va : Value} {es : List Pt} (hl : Sl κ I va es) (v : Int) :
    CallS Tryz.prog κ 55 [.agg #[I64 (nd), va], I64 (v)] I (fun r J => r = U64 (rowG nd es v) ∧ I = J) := by
 refine CallS.enter (L := [(0, .agg #[I64 (nd), va]), (1, I64 (v))]) Tryz.func55 rfl rfl rfl rfl ?_
 refine W.sr ?_
 refine G.e (Eff.box (cs := [_, _]) rfl rfl rfl) ?_
 rintro _ _ ⟨b1, rfl, rfl⟩
 refine G.r (Runs.assign rfl) ?_
 refine G.nt ?_
 refine W.sr ?_
 refine G.r (Runs.lds (vs := [_, _]) ty28) ?_
 refine G.e (Eff.call call111 rfl rfl (MRows_ok (nd := nd) (Sl.f hl))) ?_
 rintro _ _ ⟨_, _, ⟨ad2, cp3, rfl, rfl⟩, rfl, rfl⟩
 have hrwad2 := rowsB_len nd es
 refine G.r (Runs.assign rfl) ?_
 refine G.nt ?_
 refine W.seq ?_
 refine W.sr ?_
 refine G.r (Runs.move rfl) ?_
 refine G.r (Runs.lss rfl rfl) ?_
 refine G.r (Runs.move rfl) ?_
 refine G.split (d := 10) rfl (fun g10 => ?_) (fun g10 => ?_)
 ·refine G.po ?_
  refine G.po ?_
  refine G.po ?_
  refine G.po ?_
  refine G.r (Runs.pickt rfl rfl) ?_
  refine G.r (Runs.move rfl) ?_
  refine G.po ?_
  refine G.po ?_
  refine G.po ?_
  refine G.r (Runs.pickt rfl rfl) ?_
  refine G.nt ?_
  refine W.sub (L' := [(20, _), (5, _), (1, _)]) (Sub.cons rfl (Sub.cons rfl (Sub.cons rfl Sub.nil))) ?_
  refine W.yes rfl ?_
  refine W.sr ?_
  refine G.r (Runs.assign rfl) ?_
  refine G.nt ?_
  refine W.ret ?_
  refine V.then_ret ?_
  exact V.ret1 rfl rfl (I) Fit.m ⟨by rw [show rowG nd es v = 0#64 from if_pos (by omega)]; rfl, rfl⟩
 ·refine G.ro (Runs.move rfl) ?_
  refine G.ro (Runs.move rfl) ?_
  refine G.ro (Runs.lens Tryz.underlying104 rfl) ?_
  refine G.ro (Runs.geq rfl rfl) ?_
  refine G.r (Runs.pickf rfl rfl) ?_
  refine G.r (Runs.move rfl) ?_
  refine G.split (d := 16) rfl (fun g16 => ?_) (fun g16 => ?_)
  ·refine G.po ?_
   refine G.po ?_
   refine G.po ?_
   refine G.r (Runs.pickt rfl rfl) ?_
   refine G.nt ?_
   refine W.sub (L' := [(20, _), (5, _), (1, _)]) (Sub.cons rfl (Sub.cons rfl (Sub.cons rfl Sub.nil))) ?_
   refine W.yes rfl ?_
   refine W.sr ?_
   refine G.r (Runs.assign rfl) ?_
   refine G.nt ?_
   refine W.ret ?_
   refine V.then_ret ?_
   exact V.ret1 rfl rfl (I) Fit.m ⟨by rw [show rowG nd es v = 0#64 from if_pos (by omega)]; rfl, rfl⟩
  ·refine G.ro (Runs.lds (vs := [_, _]) ty28) ?_
   refine G.eff (Wanted.on rfl rfl rfl) (Eff.call call49 rfl rfl (CheckGen_ok (Sl.f hl))) ?_
   rintro _ _ ⟨_, _, ⟨rfl, rfl⟩, rfl, rfl⟩
   refine G.ro (Runs.neq rfl rfl) ?_
   refine G.r (Runs.pickf rfl rfl) ?_
   refine G.nt ?_
   refine W.sub (L' := [(20, _), (5, _), (1, _)]) (Sub.cons rfl (Sub.cons rfl (Sub.cons rfl Sub.nil))) ?_
   refine W.ite rfl (fun c20 => ?_) (fun c20 => ?_)
   ·refine W.sr ?_
    refine G.r (Runs.assign rfl) ?_
    refine G.nt ?_
    refine W.ret ?_
    refine V.then_ret ?_
    exact V.ret1 rfl rfl (I) Fit.m ⟨by rw [show rowG nd es v = 0#64 from if_pos (by omega)]; rfl, rfl⟩
   ·refine W.skip ?_
    refine V.then ?_
    refine W.sr ?_
    refine G.r (Runs.move rfl) ?_
    refine G.r (Runs.move rfl) ?_
    refine G.r (Runs.idx (α := (BitVec 64)) (xs := rowsB nd es) Tryz.underlying104 ty86 rfl rfl Sl.o (by omega) (by omega)) ?_
    refine G.r (Runs.getf0 (α := (BitVec 64)) (xs := rowsB nd es) (u := U64 ((at_ (rowsB nd es) v))) ty86 rfl Sl.o (by omega) (by omega) rfl) ?_
    refine G.r (Runs.assign rfl) ?_
    refine G.nt ?_
    refine W.ret ?_
    exact V.ret1 rfl rfl (I) Fit.m ⟨by rw [show rowG nd es v = at_ (rowsB nd es) v from if_neg (by omega)], rfl⟩

theorem NeighG_ok {κ : Ctx} {I : List Item} {nd : Int} {va : Value} {es : List Pt} (hl : Sl κ I va es) (v : Int) (hT : TabRd κ I 0 tzCells) :
    CallS Tryz.prog κ 15 [.agg #[I64 (nd), va], I64 (v)] I (fun r J => ∃ a c, r = .slice a (nbG nd es v).length c ∧ J = vc 3 (.slice a (nbG nd es v).length c) (nbG nd es v) :: I) := by
 refine CallS.enter (L := [(0, .agg #[I64 (nd), va]), (1, I64 (v))]) Tryz.func15 rfl rfl rfl rfl ?_
 refine W.sr ?_
 refine G.e (Eff.box (cs := [_, _]) rfl rfl rfl) ?_
 rintro _ _ ⟨b1, rfl, rfl⟩
 refine G.r (Runs.assign rfl) ?_
 refine G.nt ?_
 refine W.sr ?_
 refine G.r (Runs.lds (vs := [_, _]) ty28) ?_
 refine G.r (Runs.move rfl) ?_
 refine G.e (Eff.call call55 rfl rfl (GRowG_ok (nd := nd) (Sl.f hl) v)) ?_
 rintro _ _ ⟨_, _, ⟨rfl, rfl⟩, rfl, rfl⟩
 refine G.e (Eff.call call54 rfl rfl (MList_ok (rowG nd es v) (TabRd.fit hT Fit.m))) ?_
 rintro _ _ ⟨_, _, ⟨ad2, cp3, rfl, rfl⟩, rfl, rfl⟩
 refine G.r (Runs.assign rfl) ?_
 refine G.nt ?_
 refine W.ret ?_
 have hX : (nbG nd es v) = _ := (nb_eq nd es v).symm
 exact V.ret1 rfl rfl (vc 3 (.slice ad2 (nbG nd es v).length cp3) (nbG nd es v) :: I) (by rw [hX]; exact Fit.sub) ⟨ad2, cp3, by rw [hX], rfl⟩

theorem DegreeG_ok {κ : Ctx} {I : List Item} {nd : Int} {va : Value} {es : List Pt} (hl : Sl κ I va es) (v : Int) :
    CallS Tryz.prog κ 17 [.agg #[I64 (nd), va], I64 (v)] I (fun r J => r = I64 ((((nbG nd es v).length : Nat)) : Int) ∧ I = J) := by
 refine CallS.enter (L := [(0, .agg #[I64 (nd), va]), (1, I64 (v))]) Tryz.func17 rfl rfl rfl rfl ?_
 refine W.sr ?_
 refine G.e (Eff.box (cs := [_, _]) rfl rfl rfl) ?_
 rintro _ _ ⟨b1, rfl, rfl⟩
 refine G.r (Runs.assign rfl) ?_
 refine G.nt ?_
 refine W.sr ?_
 refine G.r (Runs.lds (vs := [_, _]) ty28) ?_
 refine G.r (Runs.move rfl) ?_
 refine G.e (Eff.call call55 rfl rfl (GRowG_ok (nd := nd) (Sl.f hl) v)) ?_
 rintro _ _ ⟨_, _, ⟨rfl, rfl⟩, rfl, rfl⟩
 refine G.e (Eff.call call57 rfl rfl (MCount_ok (rowG nd es v))) ?_
 rintro _ _ ⟨_, _, ⟨rfl, rfl⟩, rfl, rfl⟩
 refine G.r (Runs.assign rfl) ?_
 refine G.nt ?_
 refine W.ret ?_
 exact V.ret1 rfl rfl (I) Fit.m ⟨by rw [degree_eq], rfl⟩

theorem CommonG_ok {κ : Ctx} {I : List Item} {nd : Int} {va : Value} {es : List Pt} (hl : Sl κ I va es) (u v : Int) (hT : TabRd κ I 0 tzCells) :
    CallS Tryz.prog κ 19 [.agg #[I64 (nd), va], I64 (u), I64 (v)] I (fun r J => ∃ a c, r = .slice a (commonG nd es u v).length c ∧ J = vc 3 (.slice a (commonG nd es u v).length c) (commonG nd es u v) :: I) := by
 refine CallS.enter (L := [(0, .agg #[I64 (nd), va]), (1, I64 (u)), (2, I64 (v))]) Tryz.func19 rfl rfl rfl rfl ?_
 refine W.sr ?_
 refine G.e (Eff.box (cs := [_, _]) rfl rfl rfl) ?_
 rintro _ _ ⟨b1, rfl, rfl⟩
 refine G.r (Runs.assign rfl) ?_
 refine G.nt ?_
 refine W.seq ?_
 refine W.sr ?_
 refine G.r (Runs.move rfl) ?_
 refine G.r (Runs.move rfl) ?_
 refine G.r (Runs.eql rfl rfl) ?_
 refine G.nt ?_
 refine W.ite rfl (fun c9 => ?_) (fun c9 => ?_)
 ·refine W.sr ?_
  refine G.r (Runs.assign rfl) ?_
  refine G.nt ?_
  refine W.ret ?_
  refine V.then_ret ?_
  have hX : (commonG nd es u v) = [] := if_pos c9
  exact V.ret1 rfl rfl (vc 3 (.slice none (commonG nd es u v).length 0) (commonG nd es u v) :: I) (by rw [hX]; exact Fit.trans (show Fit κ _ I from Fit.m) (Fit.nilvc (α := Int) _ _)) ⟨none, 0, by rw [hX]; rfl, rfl⟩
 ·refine W.skip ?_
  refine V.then ?_
  refine W.seq ?_
  refine W.drawn mixed ?_
  refine A.hold (blk b1 [I64 (nd), va] 28 :: I) 9 ?_
  refine D.r 0 rfl (Runs.lds (vs := [_, _]) ty28) ?_ (hJ := Fit.sub)
  refine D.r 1 rfl (Runs.move rfl) ?_ (hJ := Fit.sub)
  refine D.r 3 rfl (Runs.lds (vs := [_, _]) ty28) ?_ (hJ := Fit.sub)
  refine D.r 4 rfl (Runs.move rfl) ?_ (hJ := Fit.sub)
  refine D.step (rs := [2]) (by kernel_rfl) rfl rfl (all1 ?_)
  refine Step.eff rfl (Wanted.plain rfl) (Eff.call call55 rfl rfl (GRowG_ok (nd := nd) (Sl.f hl) u)) ?_
  rintro _ _ ⟨_, _, ⟨rfl, rfl⟩, rfl, rfl⟩
  refine ⟨Fit.sub, ?_⟩
  refine D.step (rs := [5]) (by kernel_rfl) rfl rfl (all1 ?_)
  refine Step.eff rfl (Wanted.plain rfl) (Eff.call call55 rfl rfl (GRowG_ok (nd := nd) (Sl.f hl) v)) ?_
  rintro _ _ ⟨_, _, ⟨rfl, rfl⟩, rfl, rfl⟩
  refine ⟨Fit.sub, ?_⟩
  refine D.r 6 rfl (Runs.andB (a := rowG nd es u) (b := rowG nd es v) rfl rfl) ?_ (hJ := Fit.sub)
  refine D.step (rs := [7]) (by kernel_rfl) rfl rfl (all1 ?_)
  refine Step.eff rfl (Wanted.plain rfl) (Eff.call call54 rfl rfl (MList_ok ((rowG nd es u) &&& (rowG nd es v)) (TabRd.fit hT Fit.m))) ?_
  rintro _ _ ⟨_, _, ⟨ad2, cp3, rfl, rfl⟩, rfl, rfl⟩
  refine ⟨Fit.sub, ?_⟩
  refine D.r 8 rfl (Runs.assign rfl) ?_ (hJ := Fit.sub)
  refine D.done (by kernel_rfl) ?_
  refine V.then ?_
  refine W.sub (L' := [(6, _)]) (Sub.cons rfl Sub.nil) ?_
  refine W.ret ?_
  have hX : (commonG nd es u v) = _ := (common_eq c9).symm
  exact V.ret1 rfl rfl (vc 3 (.slice ad2 (commonG nd es u v).length cp3) (commonG nd es u v) :: I) (by rw [hX]; exact Fit.sub) ⟨ad2, cp3, by rw [hX], rfl⟩

theorem FindG_ok {κ : Ctx} {I : List Item} {nd : Int} {va : Value} {es : List Pt} (hl : Sl κ I va es) (u v : Int) (hb : es.length ≤ 1000000000) :
    CallS Tryz.prog κ 12 [.agg #[I64 (nd), va], I64 (u), I64 (v)] I (fun r J => ∃ y : Int, r = I64 y ∧ FindP nd es u v y ∧ I = J) := by
 refine CallS.enter (L := [(0, .agg #[I64 (nd), va]), (1, I64 (u)), (2, I64 (v))]) Tryz.func12 rfl rfl rfl rfl ?_
 refine W.sr ?_
 refine G.e (Eff.box (cs := [_, _]) rfl rfl rfl) ?_
 rintro _ _ ⟨b1, rfl, rfl⟩
 refine G.r (Runs.assign rfl) ?_
 refine G.nt ?_
 refine W.seq ?_
 refine W.sr ?_
 refine G.r (Runs.lds (vs := [_, _]) ty28) ?_
 refine G.r (Runs.move rfl) ?_
 refine G.r (Runs.move rfl) ?_
 refine G.e (Eff.call call51 rfl rfl (Place_ok (Sl.f hl) u v (by omega))) ?_
 rintro _ _ ⟨_, _, ⟨i2, q3, rfl, hi2, rfl⟩, rfl, rfl⟩
 refine G.r (Runs.move rfl) ?_
 refine G.r (Runs.extract rfl rfl) ?_
 refine G.r (Runs.extract rfl rfl) ?_
 refine G.r (Runs.assign rfl) ?_
 refine G.r (Runs.assign rfl) ?_
 refine G.nt ?_
 refine W.sub (L' := [(8, _), (7, _), (3, _)]) (Sub.cons rfl (Sub.cons rfl (Sub.cons rfl Sub.nil))) ?_
 refine W.sr ?_
 refine G.r (Runs.move rfl) ?_
 refine G.r (Runs.move rfl) ?_
 refine G.split (d := 17) rfl (fun g17 => ?_) (fun g17 => ?_)
 ·refine G.ro (Runs.lds (vs := [_, _]) ty28) ?_
  refine G.eff (Wanted.on rfl rfl rfl) (Eff.call call49 rfl rfl (CheckGen_ok (Sl.f hl))) ?_
  rintro _ _ ⟨_, _, ⟨rfl, rfl⟩, rfl, rfl⟩
  refine G.ro (Runs.eql rfl rfl) ?_
  refine G.r (Runs.pickt rfl rfl) ?_
  refine G.nt ?_
  refine W.ite rfl (fun c21 => ?_) (fun c21 => ?_)
  ·refine W.sr ?_
   refine G.r (Runs.move rfl) ?_
   refine G.r (Runs.assign rfl) ?_
   refine G.nt ?_
   refine W.ret ?_
   refine V.then_ret ?_
   exact V.ret1 rfl rfl (I) Fit.m ⟨_, rfl, .inl ⟨c21, i2, rfl, g17.1, g17.2⟩, rfl⟩
  ·refine W.skip ?_
   refine V.then ?_
   refine W.sr ?_
   refine G.r (Runs.assign rfl) ?_
   refine G.nt ?_
   refine W.ret ?_
   have hn : checkG nd es ≠ 0 ∨ edgeP u v ∉ es := (Decidable.em (checkG nd es = 0)).elim (fun hc => .inr fun hm => by first | exact c21 hc | exact g17 ((hi2.mem (checkG_ok.1 hc).asc).2 hm)) .inl
   exact V.ret1 rfl rfl (I) Fit.m ⟨_, rfl, .inr ⟨rfl, hn⟩, rfl⟩
 ·refine G.po ?_
  refine G.po ?_
  refine G.po ?_
  refine G.r (Runs.pickf rfl rfl) ?_
  refine G.nt ?_
  refine W.no rfl ?_
  refine W.skip ?_
  refine V.then ?_
  refine W.sr ?_
  refine G.r (Runs.assign rfl) ?_
  refine G.nt ?_
  refine W.ret ?_
  have hn : checkG nd es ≠ 0 ∨ edgeP u v ∉ es := (Decidable.em (checkG nd es = 0)).elim (fun hc => .inr fun hm => by first | exact c21 hc | exact g17 ((hi2.mem (checkG_ok.1 hc).asc).2 hm)) .inl
  exact V.ret1 rfl rfl (I) Fit.m ⟨_, rfl, .inr ⟨rfl, hn⟩, rfl⟩

theorem InducedG_ok {κ : Ctx} {I : List Item} {nd : Int} {va vb : Value} {es : List Pt} {set : List Int} (hl : Sl κ I va es) (hs : Sl κ I vb set) (hb : es.length ≤ 1000000) :
    CallS Tryz.prog κ 22 [.agg #[I64 (nd), va], vb] I (fun r J => ∃ a c, r = .tuple #[.agg #[I64 (indN nd es), .slice a (indG nd es set).length c], I64 (checkG nd es)] ∧ J = vc 52 (.slice a (indG nd es set).length c) (indG nd es set) :: I) := by
 refine CallS.enter (L := [(0, .agg #[I64 (nd), va]), (1, vb)]) Tryz.func22 rfl rfl rfl rfl ?_
 refine W.sr ?_
 refine G.e (Eff.box (cs := [_, _]) rfl rfl rfl) ?_
 rintro _ _ ⟨b1, rfl, rfl⟩
 refine G.e (Eff.alloc ty28 rfl) ?_
 rintro _ _ ⟨b2, rfl, rfl⟩
 refine G.r (Runs.assign rfl) ?_
 refine G.nt ?_
 refine W.seq ?_
 refine W.sr ?_
 refine G.r (Runs.lds (vs := [_, _]) ty28) ?_
 refine G.e (Eff.call call49 rfl rfl (CheckGen_ok (Sl.f hl))) ?_
 rintro _ _ ⟨_, _, ⟨rfl, rfl⟩, rfl, rfl⟩
 refine G.r (Runs.assign rfl) ?_
 refine G.nt ?_
 refine W.sr ?_
 refine G.r (Runs.move rfl) ?_
 refine G.r (Runs.neq rfl rfl) ?_
 refine G.nt ?_
 refine W.ite rfl (fun c10 => ?_) (fun c10 => ?_)
 ·refine W.sr ?_
  refine G.r (Runs.build (cells := [_, _]) ty28 Tryz.underlying28 pl28 rfl rfl) ?_
  refine G.r (Runs.move rfl) ?_
  refine G.e (Eff.st (cs := [_, _]) (vs := [_, _]) (cs' := [_, _]) ty28) ?_
  rintro _ _ ⟨rfl, rfl⟩
  refine G.r (Runs.assign rfl) ?_
  refine G.nt ?_
  refine W.ret ?_
  refine V.then_ret ?_
  have hX : (indG nd es set) = [] := if_pos c10
  have hN : indN nd es = 0 := if_pos c10
  exact V.retc1 rfl ty28 rfl rfl (by repeat (first | exact List.mem_cons_self | apply List.mem_cons_of_mem)) rfl (vc 52 (.slice none (indG nd es set).length 0) (indG nd es set) :: I) (by rw [hX]; exact Fit.trans (show Fit κ _ I from Fit.m) (Fit.nilvc (α := Pt) _ _)) ⟨none, 0, by rw [hX, hN]; rfl, rfl⟩
 ·refine W.skip ?_
  refine V.then ?_
  refine W.seq ?_
  refine W.drawn mixed ?_
  refine A.hold (blk b1 [I64 (nd), va] 28 :: I) 8 ?_
  refine D.r 0 rfl (Runs.fieldAddr fld28_0 rfl) ?_ (hJ := Fit.sub)
  refine D.r 1 rfl (Runs.ld ty3) ?_ (hJ := Fit.sub)
  refine D.r 2 rfl (Runs.lds (vs := [_, _]) ty28) ?_ (hJ := Fit.sub)
  refine D.r 3 rfl (Runs.move rfl) ?_ (hJ := Fit.sub)
  refine D.step (rs := [4]) (by kernel_rfl) rfl rfl (all1 ?_)
  refine Step.eff rfl (Wanted.plain rfl) (Eff.call call59 rfl rfl (WithinG_ok (Sl.f hl) (Sl.f hs) (by omega))) ?_
  rintro _ _ ⟨_, _, ⟨ad3, cp4, rfl, rfl⟩, rfl, rfl⟩
  refine ⟨Fit.sub, ?_⟩
  refine D.r 5 rfl (Runs.build (cells := [_, _]) ty28 Tryz.underlying28 pl28 rfl rfl) ?_ (hJ := Fit.sub)
  refine D.step (rs := [6]) (by kernel_rfl) rfl rfl (all1 ?_)
  refine Step.eff rfl (Wanted.plain rfl) (Eff.st (cs := [_, _]) (vs := [_, _]) (cs' := [_, _]) ty28) ?_
  rintro _ _ ⟨rfl, rfl⟩
  refine ⟨Fit.sub, ?_⟩
  refine D.r 7 rfl (Runs.assign rfl) ?_ (hJ := Fit.sub)
  refine D.done (by kernel_rfl) ?_
  refine V.then ?_
  refine W.sub (L' := [(5, _), (4, _)]) (Sub.cons rfl (Sub.cons rfl Sub.nil)) ?_
  refine W.ret ?_
  have hX : (indG nd es set) = _ := if_neg c10
  have hN : indN nd es = nd := if_neg c10
  have hz : checkG nd es = 0 := Classical.not_not.1 c10
  exact V.retc1 rfl ty28 rfl rfl (by repeat (first | exact List.mem_cons_self | apply List.mem_cons_of_mem)) rfl (vc 52 (.slice ad3 (indG nd es set).length cp4) (indG nd es set) :: I) (by rw [hX]; exact Fit.sub) ⟨ad3, cp4, by first | (rw [hX, hN, hz]; done) | (rw [hX, hN, hz]; rfl), rfl⟩

theorem DensityG_ok {κ : Ctx} {I : List Item} {nd : Int} {va vb : Value} {es : List Pt} {set : List Int} (hl : Sl κ I va es) (hs : Sl κ I vb set) (hb : es.length ≤ 1000000) :
    CallS Tryz.prog κ 24 [.agg #[I64 (nd), va], vb] I (fun r J => r = .tuple #[.agg #[I64 (densG nd es set).num, I64 (densG nd es set).den], I64 (checkG nd es)] ∧ I = J) := by
 refine CallS.enter (L := [(0, .agg #[I64 (nd), va]), (1, vb)]) Tryz.func24 rfl rfl rfl rfl ?_
 refine W.sr ?_
 refine G.e (Eff.box (cs := [_, _]) rfl rfl rfl) ?_
 rintro _ _ ⟨b1, rfl, rfl⟩
 refine G.e (Eff.alloc ty45 rfl) ?_
 rintro _ _ ⟨b2, rfl, rfl⟩
 refine G.r (Runs.assign rfl) ?_
 refine G.nt ?_
 refine W.seq ?_
 refine W.sr ?_
 refine G.r (Runs.lds (vs := [_, _]) ty28) ?_
 refine G.e (Eff.call call49 rfl rfl (CheckGen_ok (Sl.f hl))) ?_
 rintro _ _ ⟨_, _, ⟨rfl, rfl⟩, rfl, rfl⟩
 refine G.r (Runs.assign rfl) ?_
 refine G.nt ?_
 refine W.sr ?_
 refine G.r (Runs.move rfl) ?_
 refine G.r (Runs.neq rfl rfl) ?_
 refine G.nt ?_
 refine W.ite rfl (fun c11 => ?_) (fun c11 => ?_)
 ·refine W.sr ?_
  refine G.r (Runs.build (cells := [_, _]) ty45 Tryz.underlying45 pl45 rfl rfl) ?_
  refine G.r (Runs.move rfl) ?_
  refine G.e (Eff.st (cs := [_, _]) (vs := [_, _]) (cs' := [_, _]) ty45) ?_
  rintro _ _ ⟨rfl, rfl⟩
  refine G.r (Runs.assign rfl) ?_
  refine G.nt ?_
  refine W.ret ?_
  refine V.then_ret ?_
  have hX : (densG nd es set) = ⟨0, 0⟩ := if_pos c11
  exact V.retc1 rfl ty45 rfl rfl (by repeat (first | exact List.mem_cons_self | apply List.mem_cons_of_mem)) rfl (I) Fit.m ⟨by first | (rw [hX]; done) | (rw [hX]; rfl), rfl⟩
 ·refine W.skip ?_
  refine V.then ?_
  refine W.seq ?_
  refine W.drawn mixed ?_
  refine A.hold (blk b2 [I64 (0), I64 (0)] 45 :: blk b1 [I64 (nd), va] 28 :: I) 8 ?_
  refine D.r 0 rfl (Runs.move rfl) ?_ (hJ := Fit.sub)
  refine D.r 2 rfl (Runs.fieldAddr fld28_0 rfl) ?_ (hJ := Fit.sub)
  refine D.r 3 rfl (Runs.ld ty3) ?_ (hJ := Fit.sub)
  refine D.step (rs := [1]) (by kernel_rfl) rfl rfl (all1 ?_)
  refine Step.eff rfl (Wanted.plain rfl) (Eff.call call61 rfl rfl (MaskOf_ok (Sl.f hs))) ?_
  rintro _ _ ⟨_, _, ⟨rfl, rfl⟩, rfl, rfl⟩
  refine ⟨Fit.sub, ?_⟩
  refine D.step (rs := [4]) (by kernel_rfl) rfl rfl (all1 ?_)
  refine Step.eff rfl (Wanted.plain rfl) (Eff.call call62 rfl rfl (MaskAll_ok nd)) ?_
  rintro _ _ ⟨_, _, ⟨rfl, rfl⟩, rfl, rfl⟩
  refine ⟨Fit.sub, ?_⟩
  refine D.r 5 rfl (Runs.andB (a := maskB set) (b := allB nd) rfl rfl) ?_ (hJ := Fit.sub)
  refine D.step (rs := [6]) (by kernel_rfl) rfl rfl (all1 ?_)
  refine Step.eff rfl (Wanted.plain rfl) (Eff.call call57 rfl rfl (MCount_ok ((maskB set) &&& (allB nd)))) ?_
  rintro _ _ ⟨_, _, ⟨rfl, rfl⟩, rfl, rfl⟩
  refine ⟨Fit.sub, ?_⟩
  refine D.r 7 rfl (Runs.assign rfl) ?_ (hJ := Fit.sub)
  refine D.done (by kernel_rfl) ?_
  refine V.then ?_
  refine W.sub (L' := [(7, _), (4, _), (2, _), (1, _)]) (Sub.cons rfl (Sub.cons rfl (Sub.cons rfl (Sub.cons rfl Sub.nil)))) ?_
  refine W.sr ?_
  refine G.r (Runs.lds (vs := [_, _]) ty28) ?_
  refine G.r (Runs.move rfl) ?_
  refine G.e (Eff.call call27 rfl rfl (InsideG_ok (nd := nd) (Sl.f hl) (Sl.f hs) (by omega))) ?_
  rintro _ _ ⟨_, _, ⟨rfl, rfl⟩, rfl, rfl⟩
  have hin23 := insideN_le nd es set
  refine G.r (Runs.move rfl) ?_
  refine G.r (Runs.max rfl rfl) ?_
  refine G.e (Eff.call call63 rfl rfl (MakeF_ok ((insideN nd es set : Nat) : Int) (if (onesB ((maskB set) &&& (allB nd))) < 1 then 1 else (onesB ((maskB set) &&& (allB nd)))) (by omega) (by have := onesB_bd (maskB set &&& allB nd); split <;> omega))) ?_
  rintro _ _ ⟨_, _, ⟨rfl, rfl⟩, rfl, rfl⟩
  refine G.r (Runs.extract rfl rfl) ?_
  refine G.r (Runs.extract rfl rfl) ?_
  refine G.e (Eff.st (cs := [_, _]) (vs := [_, _]) (cs' := [_, _]) ty45) ?_
  rintro _ _ ⟨rfl, rfl⟩
  refine G.r (Runs.assign rfl) ?_
  refine G.nt ?_
  refine W.ret ?_
  have hX := densG_prog (nd := nd) (es := es) set c11
  have hz : checkG nd es = 0 := Classical.not_not.1 c11
  exact V.retc1 rfl ty45 rfl rfl (by repeat (first | exact List.mem_cons_self | apply List.mem_cons_of_mem)) rfl (I) Fit.m ⟨by first | (rw [← hX, hz]; done) | (rw [← hX, hz]; rfl), rfl⟩

end Go.Sl
