/- A part of the proofs of statements of this seat: contracts of functions, and the plain laws that they lean on. No conditions. -/
import Derived.Test.YtbimaodbcjjbfaaDoorDfs
/- The search for blocks: each step keeps what is true, and lowers the measure. No Go. No conditions. -/
namespace Go.Sl
set_option linter.unusedVariables false
set_option linter.unusedSimpArgs false
set_option linter.unusedSectionVars false
theorem idxOf_l {l m : List Pt} {e : Pt} (h : e ∈ l) : (l ++ m).idxOf e = l.idxOf e := by rw [List.idxOf_append, if_pos h]
theorem idxOf_r {l : List Pt} {e : Pt} (h : e ∉ l) : (l ++ [e]).idxOf e = l.length := by rw [List.idxOf_append, if_neg h]; simp
theorem less_bits {m : BitVec 64} {k : Nat} (h : (m &&& (m - 1#64)).getLsbD k = true) : m.getLsbD k = true := by
  rw [BitVec.getLsbD_and, Bool.and_eq_true] at h; exact h.1
theorem idxOf_take {l : List Pt} {e : Pt} {k : Nat} (h : l.idxOf e < k) (he : e ∈ l) : e ∈ l.take k ∧ (l.take k).idxOf e = l.idxOf e := by
  have hl : l.idxOf e < l.length := List.idxOf_lt_length_of_mem he
  have hm : e ∈ l.take k := by
    have h1 : (l.take k)[l.idxOf e]'(by rw [List.length_take]; omega) = e := by rw [List.getElem_take]; exact List.getElem_idxOf hl
    exact h1 ▸ List.getElem_mem _
  refine ⟨hm, ?_⟩
  have e2 := idxOf_l (m := l.drop k) hm
  rw [List.take_append_drop] at e2
  exact e2.symm
/-- A node is entered. -/
theorem DfsOk.enter {rows : List (BitVec 64)} {S : Srch} (h : DfsOk rows S) {v f : Int} (hv : 0 ≤ v ∧ v < rows.length) (h0 : at_ S.num v = 0) (hf : f < rows.length)
    (hs : (S.way = [] ∧ f = -1) ∨ (S.way ≠ [] ∧ 0 ≤ f ∧ (⟨f, v⟩ : Pt) ∈ S.edges ∧ ∀ t ts, S.way = t :: ts → ∀ s ∈ ts, S.edges.idxOf (⟨s.src, s.node⟩ : Pt) < S.edges.idxOf (⟨f, v⟩ : Pt)))
    (hed : ∀ e ∈ S.edges, at_ (S.num.set v.toNat (S.cd + 1)) e.u ≠ 0 ∧ at_ (S.num.set v.toNat (S.cd + 1)) e.v ≠ 0 ∧ 0 ≤ e.v) : DfsOk rows (S.enter rows v f) := by
  have hc := h.cd0
  have hk : v.toNat < S.num.length := by rw [h.nl]; omega
  have hun := unv_set S.num v.toNat (S.cd + 1) hk (by have := h0; unfold at_ at this; exact this) (by omega)
  have hcnt := h.cnt
  refine ⟨h.n64, h.bits, by simp [Srch.enter, h.nl], by simp [Srch.enter, h.ll], by simp only [Srch.enter]; omega, by simp only [Srch.enter]; omega, fun t ht => ?_, hed, fun t ts ht => ?_⟩
  · rcases List.mem_append.1 ht with h1 | h1
    · obtain ⟨a, b, c, d⟩ := h.way t h1
      exact ⟨a, b, c, at_set_ne _ (by omega) d⟩
    · obtain rfl := List.mem_singleton.1 h1
      refine ⟨hv, hf, fun k hkk => h.bits v k hv.1 hv.2 hkk, ?_⟩
      show at_ (S.num.set v.toNat (S.cd + 1)) v ≠ 0
      rw [at_set _ v v _ hv.1 hv.1 (by rw [h.nl]; exact hv.2), if_pos rfl]; omega
  · rcases hs with ⟨hw, rfl⟩ | ⟨hw, hf0, hm, hlt⟩
    · have e1 : S.way ++ [(⟨v, -1, at_ rows v⟩ : Vis)] = t :: ts := ht
      rw [hw] at e1
      obtain ⟨rfl, rfl⟩ := List.cons.inj e1
      exact ⟨rfl, fun s hs => absurd hs List.not_mem_nil, List.Pairwise.nil⟩
    · obtain ⟨t', ts', hw'⟩ := List.exists_cons_of_ne_nil hw
      obtain ⟨g1, g2, g3⟩ := h.tree t' ts' hw'
      have e1 : S.way ++ [(⟨v, f, at_ rows v⟩ : Vis)] = t :: ts := ht
      rw [hw', List.cons_append] at e1
      obtain ⟨rfl, rfl⟩ := List.cons.inj e1
      refine ⟨g1, fun s hs => ?_, ?_⟩
      · rcases List.mem_append.1 hs with h1 | h1
        · exact g2 s h1
        · obtain rfl := List.mem_singleton.1 h1; exact ⟨hf0, hm⟩
      · rw [List.map_append, List.pairwise_append]
        refine ⟨g3, by simp, fun a ha b hb => ?_⟩
        obtain ⟨s, hs, rfl⟩ := List.mem_map.1 ha
        simp only [List.map_cons, List.map_nil, List.mem_singleton] at hb
        subst hb
        exact hlt t' ts' hw' s hs
/-- A bit has been looked at. -/
theorem DfsOk.look {rows : List (BitVec 64)} {S : Srch} (h : DfsOk rows S) {ini : List Vis} {t : Vis} (hw : S.way = ini ++ [t]) : DfsOk rows { S with way := ini ++ [{ t with left := t.left &&& (t.left - 1#64) }] } := by
  refine ⟨h.n64, h.bits, h.nl, h.ll, h.cd0, h.cnt, fun s hs => ?_, h.ed, fun a tl ha => ?_⟩
  · rcases List.mem_append.1 hs with h1 | h1
    · exact h.way s (by rw [hw]; exact List.mem_append_left _ h1)
    · obtain rfl := List.mem_singleton.1 h1
      obtain ⟨a, b, c, d⟩ := h.way t (by rw [hw]; exact List.mem_append_right _ List.mem_cons_self)
      exact ⟨a, b, fun k hk => c k (less_bits hk), d⟩
  · cases ini with
    | nil =>
      obtain ⟨rfl, rfl⟩ := List.cons.inj (show [({ t with left := t.left &&& (t.left - 1#64) } : Vis)] = a :: tl from ha)
      obtain ⟨g1, g2, g3⟩ := h.tree t [] (by rw [hw]; rfl)
      exact ⟨g1, fun s hs => absurd hs List.not_mem_nil, List.Pairwise.nil⟩
    | cons x xs =>
      obtain ⟨rfl, rfl⟩ := List.cons.inj (show x :: (xs ++ [({ t with left := t.left &&& (t.left - 1#64) } : Vis)]) = a :: tl from ha)
      obtain ⟨g1, g2, g3⟩ := h.tree x (xs ++ [t]) (by rw [hw]; rfl)
      refine ⟨g1, fun s hs => ?_, by simpa using g3⟩
      rcases List.mem_append.1 hs with h1 | h1
      · exact g2 s (List.mem_append_left _ h1)
      · obtain rfl := List.mem_singleton.1 h1; exact g2 t (List.mem_append_right _ List.mem_cons_self)
/-- An edge more. -/
theorem DfsOk.push {rows : List (BitVec 64)} {S : Srch} (h : DfsOk rows S) {e : Pt} (he : at_ S.num e.u ≠ 0 ∧ at_ S.num e.v ≠ 0 ∧ 0 ≤ e.v) : DfsOk rows { S with edges := S.edges ++ [e] } := by
  refine ⟨h.n64, h.bits, h.nl, h.ll, h.cd0, h.cnt, h.way, fun x hx => ?_, fun a tl ha => ?_⟩
  · rcases List.mem_append.1 hx with h1 | h1
    · exact h.ed x h1
    · rw [List.mem_singleton.1 h1]; exact he
  · obtain ⟨g1, g2, g3⟩ := h.tree a tl ha
    refine ⟨g1, fun s hs => ⟨(g2 s hs).1, List.mem_append_left _ (g2 s hs).2⟩, ?_⟩
    have e1 : (tl.map fun s => (S.edges ++ [e]).idxOf (⟨s.src, s.node⟩ : Pt)) = tl.map fun s => S.edges.idxOf (⟨s.src, s.node⟩ : Pt) := List.map_congr_left fun s hs => idxOf_l (g2 s hs).2
    show (tl.map fun s => (S.edges ++ [e]).idxOf (⟨s.src, s.node⟩ : Pt)).Pairwise (· < ·)
    rw [e1]; exact g3
theorem DfsOk.low {rows : List (BitVec 64)} {S : Srch} (h : DfsOk rows S) {l : List Int} (hl : l.length = rows.length) : DfsOk rows { S with low := l } :=
  ⟨h.n64, h.bits, h.nl, hl, h.cd0, h.cnt, h.way, h.ed, h.tree⟩
/-- The last node is left. -/
theorem DfsOk.leave {rows : List (BitVec 64)} {S : Srch} (h : DfsOk rows S) {ini : List Vis} {t : Vis} (hw : S.way = ini ++ [t]) : DfsOk rows { S with way := ini } := by
  refine ⟨h.n64, h.bits, h.nl, h.ll, h.cd0, h.cnt, fun s hs => h.way s (by rw [hw]; exact List.mem_append_left _ hs), h.ed, fun a tl ha => ?_⟩
  obtain ⟨g1, g2, g3⟩ := h.tree a (tl ++ [t]) (by rw [hw, show ini = a :: tl from ha]; rfl)
  rw [List.map_append, List.pairwise_append] at g3
  exact ⟨g1, fun s hs => g2 s (List.mem_append_left _ hs), g3.1⟩
theorem DfsOk.pop {rows : List (BitVec 64)} {S : Srch} (h : DfsOk rows S) {ini : List Vis} {t : Vis} (hw : S.way = ini ++ [t]) (h0 : 0 ≤ t.src) : DfsOk rows (Srch.pop { S with way := ini } ⟨t.src, t.node⟩) := by
  have hl := h.leave hw
  refine ⟨h.n64, h.bits, h.nl, h.ll, h.cd0, h.cnt, hl.way, fun x hx => h.ed x (List.mem_of_mem_take hx), fun a tl ha => ?_⟩
  obtain ⟨g1, g2, g3⟩ := h.tree a (tl ++ [t]) (by rw [hw, show ini = a :: tl from ha]; rfl)
  rw [List.map_append, List.pairwise_append] at g3
  have hlt : ∀ s ∈ tl, S.edges.idxOf (⟨s.src, s.node⟩ : Pt) < S.edges.idxOf (⟨t.src, t.node⟩ : Pt) := fun s hs => g3.2.2 _ (List.mem_map_of_mem hs) _ (List.mem_map_of_mem List.mem_cons_self)
  refine ⟨g1, fun s hs => ⟨(g2 s (List.mem_append_left _ hs)).1, (idxOf_take (hlt s hs) (g2 s (List.mem_append_left _ hs)).2).1⟩, ?_⟩
  have e1 : (tl.map fun s => (S.edges.take (S.edges.idxOf (⟨t.src, t.node⟩ : Pt))).idxOf (⟨s.src, s.node⟩ : Pt)) = tl.map fun s => S.edges.idxOf (⟨s.src, s.node⟩ : Pt) :=
    List.map_congr_left fun s hs => (idxOf_take (hlt s hs) (g2 s (List.mem_append_left _ hs)).2).2
  show (tl.map fun s => (S.edges.take (S.edges.idxOf (⟨t.src, t.node⟩ : Pt))).idxOf (⟨s.src, s.node⟩ : Pt)).Pairwise (· < ·)
  rw [e1]; exact g3.1
/-- The edge by which the last node was reached is there. -/
theorem DfsOk.tedge {rows : List (BitVec 64)} {S : Srch} (h : DfsOk rows S) {ini : List Vis} {t : Vis} (hw : S.way = ini ++ [t]) (h0 : ¬ t.src < 0) : (⟨t.src, t.node⟩ : Pt) ∈ S.edges := by
  cases ini with
  | nil => obtain ⟨g1, _⟩ := h.tree t [] (by rw [hw]; rfl); omega
  | cons a tl => exact ((h.tree a (tl ++ [t]) (by rw [hw]; rfl)).2.1 t (List.mem_append_right _ List.mem_cons_self)).2
theorem DfsOk.bit {rows : List (BitVec 64)} {S : Srch} (h : DfsOk rows S) {t : Vis} (ht : t ∈ S.way) (hl : t.left ≠ 0#64) : 0 ≤ tzB t.left ∧ tzB t.left < rows.length := by
  have h1 := tzB_range hl
  have h2 := (h.way t ht).2.2.1 _ h1.2.2
  exact ⟨h1.1, by omega⟩
/-- One step: what is true stays true; the measure falls. -/
theorem DfsOk.stepT {rows : List (BitVec 64)} {S : Srch} (h : DfsOk rows S) {ini : List Vis} {t : Vis} (hw : S.way = ini ++ [t]) : DfsOk rows (stepT rows S ini t) ∧ mea (stepT rows S ini t) < mea S := by
  have ht : t ∈ S.way := by rw [hw]; exact List.mem_append_right _ List.mem_cons_self
  obtain ⟨w1, w2, w3, w4⟩ := h.way t ht
  have hm : mea S = 66 * unv S.num + (bitsN ini + ((listB t.left).length + 1)) := by unfold mea; rw [hw, bitsN_app, bitsN_one]
  unfold Sl.stepT
  by_cases hl : t.left ≠ 0#64
  · rw [if_pos hl]
    have hb := h.bit ht hl
    have hls := listB_less hl
    have hlook := h.look hw
    by_cases c1 : tzB t.left = t.src
    · rw [if_pos c1]
      refine ⟨hlook, ?_⟩
      unfold mea
      simp only [bitsN_app, bitsN_one]
      unfold mea at hm
      omega
    rw [if_neg c1]
    by_cases c2 : at_ S.num (tzB t.left) = 0
    · rw [if_pos c2]
      have hcd := h.cd0
      have hset : ∀ i, at_ S.num i ≠ 0 → at_ (S.num.set (tzB t.left).toNat (S.cd + 1)) i ≠ 0 := fun i => at_set_ne i (by omega)
      have hself : at_ (S.num.set (tzB t.left).toNat (S.cd + 1)) (tzB t.left) ≠ 0 := by rw [at_set _ _ _ _ hb.1 hb.1 (by rw [h.nl]; exact hb.2), if_pos rfl]; omega
      have hnew : (⟨t.node, tzB t.left⟩ : Pt) ∉ S.edges := fun hm => (h.ed _ hm).2.1 c2
      have hok1 : DfsOk rows { S with way := ini ++ [{ t with left := t.left &&& (t.left - 1#64) }] } := hlook
      refine ⟨?_, ?_⟩
      · -- entered: by the parts
        have key : DfsOk rows (Srch.enter rows { S with way := ini ++ [{ t with left := t.left &&& (t.left - 1#64) }], edges := S.edges ++ [⟨t.node, tzB t.left⟩] } (tzB t.left) t.node) := by
          have hun := unv_set S.num (tzB t.left).toNat (S.cd + 1) (by rw [h.nl]; omega) (by have := c2; unfold at_ at this; exact this) (by omega)
          have hcnt := h.cnt
          refine ⟨h.n64, h.bits, by simp [Srch.enter, h.nl], by simp [Srch.enter, h.ll], by simp only [Srch.enter]; omega, by simp only [Srch.enter]; omega, fun s hs => ?_, fun e he => ?_, fun a tl ha => ?_⟩
          · rcases List.mem_append.1 hs with h1 | h1
            · obtain ⟨a, b, c, d⟩ := hok1.way s h1
              exact ⟨a, b, c, hset _ d⟩
            · obtain rfl := List.mem_singleton.1 h1
              exact ⟨hb, w1.2, fun k hk => h.bits _ k hb.1 hb.2 hk, hself⟩
          · rcases List.mem_append.1 he with h1 | h1
            · exact ⟨hset _ (h.ed e h1).1, hset _ (h.ed e h1).2.1, (h.ed e h1).2.2⟩
            · obtain rfl := List.mem_singleton.1 h1
              exact ⟨hset _ w4, hself, hb.1⟩
          · have hne : ini ++ [({ t with left := t.left &&& (t.left - 1#64) } : Vis)] ≠ [] := by simp
            obtain ⟨t', ts', hw'⟩ := List.exists_cons_of_ne_nil hne
            obtain ⟨g1, g2, g3⟩ := hok1.tree t' ts' hw'
            have e1 : (ini ++ [({ t with left := t.left &&& (t.left - 1#64) } : Vis)]) ++ [(⟨tzB t.left, t.node, at_ rows (tzB t.left)⟩ : Vis)] = a :: tl := ha
            rw [hw', List.cons_append] at e1
            obtain ⟨rfl, rfl⟩ := List.cons.inj e1
            have hidx : ∀ s ∈ ts', (S.edges ++ [(⟨t.node, tzB t.left⟩ : Pt)]).idxOf (⟨s.src, s.node⟩ : Pt) = S.edges.idxOf (⟨s.src, s.node⟩ : Pt) := fun s hs => idxOf_l (g2 s hs).2
            refine ⟨g1, fun s hs => ?_, ?_⟩
            · rcases List.mem_append.1 hs with h1 | h1
              · exact ⟨(g2 s h1).1, List.mem_append_left _ (g2 s h1).2⟩
              · obtain rfl := List.mem_singleton.1 h1
                exact ⟨w1.1, List.mem_append_right _ List.mem_cons_self⟩
            · show ((ts' ++ [(⟨tzB t.left, t.node, at_ rows (tzB t.left)⟩ : Vis)]).map fun s => (S.edges ++ [(⟨t.node, tzB t.left⟩ : Pt)]).idxOf (⟨s.src, s.node⟩ : Pt)).Pairwise (· < ·)
              rw [List.map_append, List.pairwise_append]
              refine ⟨?_, by simp, fun a ha b hb' => ?_⟩
              · rw [List.map_congr_left hidx]; exact g3
              · obtain ⟨s, hs, rfl⟩ := List.mem_map.1 ha
                simp only [List.map_cons, List.map_nil, List.mem_singleton] at hb'
                subst hb'
                show (S.edges ++ [(⟨t.node, tzB t.left⟩ : Pt)]).idxOf (⟨s.src, s.node⟩ : Pt) < _
                rw [hidx s hs, idxOf_r hnew]
                have := List.idxOf_lt_length_of_mem (g2 s hs).2
                omega
        exact key
      · have hun := unv_set S.num (tzB t.left).toNat (S.cd + 1) (by rw [h.nl]; omega) (by have := c2; unfold at_ at this; exact this) (by omega)
        have h64 := listB_len (at_ rows (tzB t.left))
        unfold mea
        simp only [Srch.enter, bitsN_app, bitsN_one]
        unfold mea at hm
        omega
    rw [if_neg c2]
    by_cases c3 : at_ S.num (tzB t.left) < at_ S.num t.node
    · rw [if_pos c3]
      refine ⟨?_, ?_⟩
      · exact DfsOk.low (S := { S with way := ini ++ [{ t with left := t.left &&& (t.left - 1#64) }], edges := S.edges ++ [⟨t.node, tzB t.left⟩] }) (hlook.push (e := ⟨t.node, tzB t.left⟩) ⟨w4, c2, hb.1⟩) (by rw [List.length_set]; exact h.ll)
      · unfold mea
        simp only [bitsN_app, bitsN_one]
        unfold mea at hm
        omega
    · rw [if_neg c3]
      refine ⟨hlook, ?_⟩
      unfold mea
      simp only [bitsN_app, bitsN_one]
      unfold mea at hm
      omega
  · rw [if_neg hl]
    have hz : mea { S with way := ini } < mea S := by
      unfold mea at hm ⊢
      simp only
      omega
    by_cases c1 : t.src < 0
    · rw [if_pos c1]; exact ⟨h.leave hw, hz⟩
    rw [if_neg c1]
    have hlow : (S.low.set t.src.toNat (minI (at_ S.low t.src) (at_ S.low t.node))).length = rows.length := by rw [List.length_set]; exact h.ll
    split
    · exact ⟨DfsOk.pop (S := { S with low := S.low.set t.src.toNat (minI (at_ S.low t.src) (at_ S.low t.node)) }) (h.low hlow) hw (by omega), hz⟩
    · exact ⟨DfsOk.low (S := { S with way := ini }) (h.leave hw) hlow, hz⟩
theorem DfsOk.step {rows : List (BitVec 64)} {S : Srch} (h : DfsOk rows S) (hn : S.way ≠ []) : DfsOk rows (stepF rows S) ∧ mea (stepF rows S) < mea S := h.stepT (Srch.way_eq hn)
end Go.Sl
