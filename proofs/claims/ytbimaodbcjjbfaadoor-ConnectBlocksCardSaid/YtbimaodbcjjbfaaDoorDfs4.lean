/- A part of the proofs of statements of this seat: contracts of functions, and the plain laws that they lean on. No conditions. -/
import Derived.Test.YtbimaodbcjjbfaaDoorBicon
import Derived.Test.YtbimaodbcjjbfaaDoorDfs3
/- The search for blocks: what its steps keep, in words of edges on common cycles; the blocks of a graph. No Go. No conditions. -/
namespace Go.Sl
set_option linter.unusedVariables false
set_option linter.unusedSimpArgs false
set_option linter.unusedSectionVars false
def adjR (rows : List (BitVec 64)) (a b : Int) : Prop := 0 ≤ a ∧ a < rows.length ∧ b ∈ listB (at_ rows a)
def nf (l : List Int) (x : Int) : Int := if 0 ≤ x then at_ l x else 0
theorem nf_at {l : List Int} {x : Int} (h : 0 ≤ x) : nf l x = at_ l x := if_pos h
theorem nf_set {l : List Int} {w c : Int} (h0 : 0 ≤ w) (h1 : w < l.length) : nf (l.set w.toNat c) = upd (nf l) w c := by
  funext x
  by_cases hx : 0 ≤ x
  · rw [nf_at hx, at_set _ _ _ _ h0 hx h1]
    by_cases e : w = x
    · rw [if_pos e, ← e, upd_self]
    · rw [if_neg e, upd_ne (fun e' => e e'.symm), nf_at hx]
  · have e1 : nf (l.set w.toNat c) x = 0 := if_neg hx
    have e2 : nf l x = 0 := if_neg hx
    rw [e1, upd_ne (by omega), e2]
def pairs (w : List Vis) : List (Int × Int) := w.map fun t => (t.node, t.src)
def remS (w : List Vis) (a b : Int) : Prop := ∃ t ∈ w, t.node = a ∧ b ∈ listB t.left
def BiS (rows : List (BitVec 64)) (S : Srch) : Prop := Bi (adjR rows) (nf S.num) (nf S.low) S.cd (pairs S.way) (remS S.way) S.edges S.out
theorem pairs_snoc (ini : List Vis) (t : Vis) : pairs (ini ++ [t]) = pairs ini ++ [(t.node, t.src)] := by unfold pairs; rw [List.map_append]; rfl
theorem mem_pairs {w : List Vis} {p : Int × Int} : p ∈ pairs w ↔ ∃ t ∈ w, (t.node, t.src) = p := by unfold pairs; rw [List.mem_map]
theorem rem_last {ini : List Vis} {t : Vis} (hn : ∀ s ∈ ini, s.node ≠ t.node) {a b : Int} (hl : t.left ≠ 0#64) : remS (ini ++ [({ t with left := t.left &&& (t.left - 1#64) } : Vis)]) a b ↔ remS (ini ++ [t]) a b ∧ ¬ (a = t.node ∧ b = tzB t.left) := by
  constructor
  · rintro ⟨s, hs, rfl, hb⟩
    rcases List.mem_append.1 hs with h1 | h1
    · exact ⟨⟨s, List.mem_append_left _ h1, rfl, hb⟩, fun e => hn s h1 e.1⟩
    · rw [List.mem_singleton] at h1; subst h1
      exact ⟨⟨t, by simp, rfl, (bits_of hl).2 (.inr hb)⟩, fun e => bits_new hl (e.2 ▸ hb)⟩
  · rintro ⟨⟨s, hs, rfl, hb⟩, hne⟩
    rcases List.mem_append.1 hs with h1 | h1
    · exact ⟨s, List.mem_append_left _ h1, rfl, hb⟩
    · rw [List.mem_singleton] at h1; subst h1
      exact ⟨_, List.mem_append_right _ List.mem_cons_self, rfl, ((bits_of hl).1 hb).resolve_left fun e => hne ⟨rfl, e⟩⟩
theorem rem_leave {ini : List Vis} {t : Vis} (hl : t.left = 0#64) {a b : Int} : remS (ini ++ [t]) a b ↔ remS ini a b := by
  constructor
  · rintro ⟨s, hs, rfl, hb⟩
    rcases List.mem_append.1 hs with h1 | h1
    · exact ⟨s, h1, rfl, hb⟩
    · rw [List.mem_singleton] at h1; subst h1
      rw [hl, listB_zero] at hb; cases hb
  · rintro ⟨s, hs, h⟩; exact ⟨s, List.mem_append_left _ hs, h⟩
theorem BiS.step {rows : List (BitVec 64)} {S : Srch} (hA : AdjOk (adjR rows)) (hk : DfsOk rows S) (h : BiS rows S) {ini : List Vis} {t : Vis} (hw : S.way = ini ++ [t]) : BiS rows (stepT rows S ini t) := by
  have htm : t ∈ S.way := by rw [hw]; simp
  obtain ⟨w1, w2, w3, w4⟩ := hk.way t htm
  have hnl := hk.nl
  have hll := hk.ll
  have hcd := hk.cd0
  have hws : pairs S.way = pairs ini ++ [(t.node, t.src)] := by rw [hw, pairs_snoc]
  have hn : ∀ s ∈ ini, s.node ≠ t.node := fun s hs e => by
    have := (Bi.lt_of (h : Bi _ _ _ _ _ _ _ _) (A := pairs ini) (t := (t.node, t.src)) (B := []) hws).1 (s.node, s.src) (mem_pairs.2 ⟨s, hs, rfl⟩)
    simp only [e] at this; omega
  unfold stepT
  by_cases hl : t.left ≠ 0#64
  · rw [if_pos hl]
    have hb := hk.bit htm hl
    have hr : remS S.way t.node (tzB t.left) := ⟨t, htm, rfl, (bits_of hl).2 (.inl rfl)⟩
    have hadj := (h.rleft _ _ hr).1
    have hwn : ∀ (S' : List Vis), S' = ini ++ [({ t with left := t.left &&& (t.left - 1#64) } : Vis)] → pairs S' = pairs S.way := fun S' e => by rw [e, pairs_snoc, hws]
    have hrl : ∀ a b, (remS S.way a b ∧ ¬ (a = t.node ∧ b = tzB t.left)) ↔ remS (ini ++ [({ t with left := t.left &&& (t.left - 1#64) } : Vis)]) a b := fun a b => by rw [rem_last hn hl, hw]
    by_cases c1 : tzB t.left = t.src
    · rw [if_pos c1]
      have hsrc : nf S.num t.src ≠ 0 := by
        by_cases hi : pairs ini = []
        · have := h.root (t.node, t.src) [] (by rw [hws, hi]; rfl)
          simp only at this; omega
        · obtain ⟨I1, p, _, hp, _⟩ := Bi.prev h hws hi
          have := h.on p (by rw [hws]; rename_i hp2 _; rw [hp2]; simp)
          simp only at hp; rw [hp]; exact this
      show Bi _ _ _ _ (pairs (ini ++ [({ t with left := t.left &&& (t.left - 1#64) } : Vis)])) _ _ _
      rw [hwn _ rfl]
      exact Bi.congr (Bi.look h hws (w := tzB t.left) (by rw [c1]; exact hsrc) (.inl c1)) hrl
    rw [if_neg c1]
    by_cases c2 : at_ S.num (tzB t.left) = 0
    · rw [if_pos c2]
      show Bi (adjR rows) (nf (S.num.set (tzB t.left).toNat (S.cd + 1))) (nf (S.low.set (tzB t.left).toNat (S.cd + 1))) (S.cd + 1) (pairs (ini ++ [({ t with left := t.left &&& (t.left - 1#64) } : Vis)] ++ [⟨tzB t.left, t.node, at_ rows (tzB t.left)⟩])) (remS (ini ++ [({ t with left := t.left &&& (t.left - 1#64) } : Vis)] ++ [⟨tzB t.left, t.node, at_ rows (tzB t.left)⟩])) (S.edges ++ [⟨t.node, tzB t.left⟩]) S.out
      rw [nf_set hb.1 (by rw [hnl]; exact hb.2), nf_set hb.1 (by rw [hll]; exact hb.2), pairs_snoc, hwn _ rfl]
      refine Bi.congr (Bi.enter h hA hws hadj (by rw [nf_at hb.1]; exact c2) hcd) fun a b => ?_
      rw [hrl]
      constructor
      · rintro (⟨s, hs, h1⟩ | ⟨rfl, h1⟩)
        · exact ⟨s, List.mem_append_left _ hs, h1⟩
        · exact ⟨_, List.mem_append_right _ List.mem_cons_self, rfl, h1.2.2⟩
      · rintro ⟨s, hs, h1, h2⟩
        rcases List.mem_append.1 hs with h3 | h3
        · exact .inl ⟨s, h3, h1, h2⟩
        · rw [List.mem_singleton] at h3; subst h3
          exact .inr ⟨h1.symm, hb.1, hb.2, h2⟩
    rw [if_neg c2]
    by_cases c3 : at_ S.num (tzB t.left) < at_ S.num t.node
    · rw [if_pos c3]
      show Bi (adjR rows) (nf S.num) (nf (S.low.set t.node.toNat (minI (at_ S.low t.node) (at_ S.num (tzB t.left))))) S.cd (pairs (ini ++ [({ t with left := t.left &&& (t.left - 1#64) } : Vis)])) (remS (ini ++ [({ t with left := t.left &&& (t.left - 1#64) } : Vis)])) (S.edges ++ [⟨t.node, tzB t.left⟩]) S.out
      rw [nf_set w1.1 (by rw [hll]; exact w1.2), hwn _ rfl, ← nf_at (l := S.low) w1.1, ← nf_at (l := S.num) hb.1]
      exact Bi.congr (Bi.back h hA hws hr (by rw [nf_at hb.1]; exact c2) (by rw [nf_at hb.1]; show _ < nf S.num t.node; rw [nf_at w1.1]; exact c3) c1) hrl
    · rw [if_neg c3]
      show Bi _ _ _ _ (pairs (ini ++ [({ t with left := t.left &&& (t.left - 1#64) } : Vis)])) _ _ _
      rw [hwn _ rfl]
      exact Bi.congr (Bi.look h hws (w := tzB t.left) (by rw [nf_at hb.1]; exact c2) (.inr (by show nf S.num t.node ≤ _; rw [nf_at w1.1, nf_at hb.1]; omega))) hrl
  · rw [if_neg hl]
    have hl0 : t.left = 0#64 := Classical.not_not.1 hl
    have hz : ∀ b, ¬ remS S.way t.node b := fun b hr => by
      rw [hw, rem_leave hl0] at hr
      obtain ⟨s, hs, e, _⟩ := hr
      exact hn s hs e
    have hrl : ∀ a b, remS S.way a b ↔ remS ini a b := fun a b => by rw [hw, rem_leave hl0]
    by_cases c1 : t.src < 0
    · rw [if_pos c1]
      have hini := hk.last hw c1
      subst hini
      obtain ⟨h1, h2⟩ := Bi.leaveRoot h (t := (t.node, t.src)) (by rw [hw]; rfl) hz
      exact Bi.congr h1 hrl
    rw [if_neg c1]
    have hini := hk.more hw c1
    have hpi : pairs ini ≠ [] := fun e => hini (by unfold pairs at e; exact List.map_eq_nil_iff.1 e)
    have hlow : (S.low.set t.src.toNat (minI (at_ S.low t.src) (at_ S.low t.node))).length = rows.length := by rw [List.length_set]; exact hll
    have hsn : t.src ≠ t.node := fun e => by
      obtain ⟨I1, p, hp0, hp, _⟩ := Bi.prev h hws hpi
      have := (Bi.lt_of h (A := pairs ini) (t := (t.node, t.src)) (B := []) hws).1 p (by rw [hp0]; simp)
      simp only at hp this; rw [← hp, e] at this; omega
    have hat : at_ (S.low.set t.src.toNat (minI (at_ S.low t.src) (at_ S.low t.node))) t.node = at_ S.low t.node := by rw [at_set _ _ _ _ (by omega) w1.1 (by rw [hll]; exact w2), if_neg hsn]
    rw [hat]
    have hL : nf (S.low.set t.src.toNat (minI (at_ S.low t.src) (at_ S.low t.node))) = upd (nf S.low) t.src (minI (nf S.low t.src) (nf S.low t.node)) := by
      rw [nf_set (by omega) (by rw [hll]; exact w2), nf_at w1.1, nf_at (by omega : 0 ≤ t.src)]
    by_cases c2 : at_ S.num t.src ≤ at_ S.low t.node
    · rw [if_pos c2]
      show Bi (adjR rows) (nf S.num) (nf (S.low.set t.src.toNat (minI (at_ S.low t.src) (at_ S.low t.node)))) S.cd (pairs ini) (remS ini) (S.edges.take (S.edges.idxOf (⟨t.src, t.node⟩ : Pt))) (S.out ++ [sortD ((S.edges.drop (S.edges.idxOf (⟨t.src, t.node⟩ : Pt))).map normE)])
      rw [hL]
      exact Bi.congr (Bi.leavePop h hA hws hpi hz (by show nf S.num t.src ≤ nf S.low t.node; rw [nf_at w1.1, nf_at (by omega : 0 ≤ t.src)]; exact c2)) hrl
    · rw [if_neg c2]
      show Bi (adjR rows) (nf S.num) (nf (S.low.set t.src.toNat (minI (at_ S.low t.src) (at_ S.low t.node)))) S.cd (pairs ini) (remS ini) S.edges S.out
      rw [hL]
      exact Bi.congr (Bi.leaveFar h hA hws hpi hz (by show nf S.low t.node < nf S.num t.src; rw [nf_at w1.1, nf_at (by omega : 0 ≤ t.src)]; omega)) hrl
theorem BiS.run {rows : List (BitVec 64)} (hA : AdjOk (adjR rows)) : ∀ (n : Nat) (S : Srch), DfsOk rows S → BiS rows S → DfsOk rows (runF rows n S) ∧ BiS rows (runF rows n S)
  | 0, S, hk, h => ⟨hk, h⟩
  | n + 1, S, hk, h => by
    rw [runF_succ]
    by_cases e : S.way = []
    · rw [if_pos e]; exact ⟨hk, h⟩
    · rw [if_neg e]
      exact BiS.run hA n _ (hk.step e).1 (BiS.step hA hk h (Srch.way_eq e))
theorem run_ends {rows : List (BitVec 64)} : ∀ (n : Nat) (S : Srch), DfsOk rows S → mea S ≤ n → (runF rows n S).way = []
  | 0, S, hk, hm => by
    refine Classical.byContradiction fun e => ?_
    have := (hk.step e).2; omega
  | n + 1, S, hk, hm => by
    rw [runF_succ]
    by_cases e : S.way = []
    · rw [if_pos e]; exact e
    · rw [if_neg e]; exact run_ends n _ (hk.step e).1 (by have := (hk.step e).2; omega)
theorem EndsAt.eq {rows : List (BitVec 64)} {S T : Srch} (h : EndsAt rows S T) (hk : DfsOk rows S) {n : Nat} (hm : mea S ≤ n) : T = runF rows n S := h.uniq ⟨n, rfl, run_ends n S hk hm⟩
/-- The states behind the first nodes. -/
def scanS (rows : List (BitVec 64)) : Nat → Srch
  | 0 => ⟨List.replicate rows.length 0, List.replicate rows.length 0, [], [], [], 0⟩
  | k + 1 => if at_ (scanS rows k).num (k : Int) = 0 then runF rows 5000 ((scanS rows k).enter rows (k : Int) (-1)) else scanS rows k
structure RowsG (rows : List (BitVec 64)) : Prop where
  n64 : rows.length ≤ 64
  bits : ∀ (v : Int) (k : Nat), 0 ≤ v → v < rows.length → (at_ rows v).getLsbD k = true → k < rows.length
  adj : AdjOk (adjR rows)
theorem unv_rep (n : Nat) : unv (List.replicate n (0 : Int)) = n := by unfold unv; simp
theorem nf_rep (n : Nat) (x : Int) : nf (List.replicate n (0 : Int)) x = 0 := by
  unfold nf at_
  split
  · rw [List.getD_eq_getElem?_getD, List.getElem?_replicate]; split <;> rfl
  · rfl
theorem scan_start {rows : List (BitVec 64)} (hG : RowsG rows) : DfsOk rows (scanS rows 0) ∧ BiS rows (scanS rows 0) := by
  refine ⟨⟨hG.n64, hG.bits, by simp [scanS], by simp [scanS], Int.le_refl _, ?_, fun t ht => (by cases ht), fun e he => (by cases he), fun t ts hts => (by cases hts)⟩, ?_⟩
  · show (0 : Int).toNat + unv (List.replicate rows.length 0) = rows.length
    rw [unv_rep]; simp
  · have hz : nf (scanS rows 0).num = fun _ => 0 := by funext x; exact nf_rep _ _
    unfold BiS
    rw [hz]
    refine ⟨fun v => ⟨Int.le_refl _, Int.le_refl _⟩, fun u v hu => absurd rfl hu, fun s hs => (by cases hs), .nil, fun A s r B e => ?_, fun s B e => (by cases e), fun a b hr => ?_, fun a b hab ha => absurd rfl ha, fun a b hab ha => absurd rfl ha, .nil, fun e he => (by cases he), fun e he => (by cases he), fun s hs => (by cases hs), fun A s B e => ?_, fun A s B e => ?_, fun A s B e => ?_, fun A s B e => ?_, fun A s B e => ?_, fun e he => (by cases he), fun b hb => (by cases hb), fun b hb => (by cases hb), fun b hb => (by cases hb)⟩
    · have : ([] : List (Int × Int)) = A ++ s :: r :: B := e; simp at this
    · obtain ⟨s, hs, _⟩ := hr; cases hs
    all_goals (have : ([] : List (Int × Int)) = A ++ s :: B := e; simp at this)
theorem at_grow {rows : List (BitVec 64)} {S : Srch} {ini : List Vis} {t : Vis} (hc : 0 ≤ S.cd) {x : Int} (h : at_ S.num x ≠ 0) : at_ (stepT rows S ini t).num x ≠ 0 := by
  unfold stepT
  split
  · split
    · exact h
    · split
      · exact at_set_ne x (by show S.cd + 1 ≠ 0; omega) h
      · split <;> exact h
  · split
    · exact h
    · split <;> exact h
theorem run_grow {rows : List (BitVec 64)} {x : Int} : ∀ (n : Nat) (S : Srch), DfsOk rows S → at_ S.num x ≠ 0 → at_ (runF rows n S).num x ≠ 0
  | 0, S, hk, h => h
  | n + 1, S, hk, h => by
    rw [runF_succ]
    by_cases e : S.way = []
    · rw [if_pos e]; exact h
    · rw [if_neg e]; exact run_grow n _ (hk.step e).1 (at_grow hk.cd0 h)
theorem BiS.first {rows : List (BitVec 64)} {S : Srch} (hA : AdjOk (adjR rows)) (hk : DfsOk rows S) (h : BiS rows S) (hw : S.way = []) {v : Int} (hv : 0 ≤ v ∧ v < rows.length) (h0 : at_ S.num v = 0) : BiS rows (S.enter rows v (-1)) := by
  have hnl := hk.nl
  have hll := hk.ll
  have hed : S.edges = [] := List.eq_nil_iff_forall_not_mem.2 fun e he => by
    obtain ⟨A, s, B, h1, _⟩ := Bi.own h e he
    rw [hw] at h1
    have : ([] : List (Int × Int)) = A ++ s :: B := h1
    simp at this
  have h' : Bi (adjR rows) (nf S.num) (nf S.low) S.cd [] (remS S.way) [] S.out := by
    have h2 : Bi (adjR rows) (nf S.num) (nf S.low) S.cd (pairs S.way) (remS S.way) S.edges S.out := h
    rw [hed] at h2
    have e : pairs S.way = [] := by rw [hw]; rfl
    rw [e] at h2; exact h2
  show Bi (adjR rows) (nf (S.num.set v.toNat (S.cd + 1))) (nf (S.low.set v.toNat (S.cd + 1))) (S.cd + 1) (pairs (S.way ++ [⟨v, -1, at_ rows v⟩])) (remS (S.way ++ [⟨v, -1, at_ rows v⟩])) S.edges S.out
  rw [nf_set hv.1 (by rw [hnl]; exact hv.2), nf_set hv.1 (by rw [hll]; exact hv.2), hw, hed]
  refine Bi.congr (Bi.first h' hA (by rw [nf_at hv.1]; exact h0) hk.cd0) fun a b => ?_
  constructor
  · rintro ⟨rfl, h1⟩; exact ⟨_, List.mem_cons_self, rfl, h1.2.2⟩
  · rintro ⟨s, hs, h1, h2⟩
    have : s = ⟨v, -1, at_ rows v⟩ := List.mem_singleton.1 hs
    subst this
    exact ⟨h1.symm, hv.1, hv.2, h2⟩
theorem scan_ok {rows : List (BitVec 64)} (hG : RowsG rows) : ∀ k, k ≤ rows.length → (DfsOk rows (scanS rows k) ∧ BiS rows (scanS rows k)) ∧ (scanS rows k).way = [] ∧ ∀ j : Nat, j < k → at_ (scanS rows k).num (j : Int) ≠ 0
  | 0, _ => ⟨scan_start hG, rfl, fun j hj => absurd hj (Nat.not_lt_zero j)⟩
  | k + 1, hk => by
    obtain ⟨⟨h1, h2⟩, h3, h4⟩ := scan_ok hG k (by omega)
    unfold scanS
    by_cases c : at_ (scanS rows k).num (k : Int) = 0
    · rw [if_pos c]
      have hv : 0 ≤ (k : Int) ∧ (k : Int) < rows.length := by omega
      have h5 := h1.start h3 hv c
      refine ⟨BiS.run hG.adj 5000 _ h5 (BiS.first hG.adj h1 h2 h3 hv c), run_ends 5000 _ h5 (h1.mea_start h3 _ _ hv c), fun j hj => run_grow 5000 _ h5 ?_⟩
      have hcd := h1.cd0
      show at_ ((scanS rows k).num.set ((k : Int)).toNat ((scanS rows k).cd + 1)) (j : Int) ≠ 0
      rcases Nat.lt_or_ge j k with hj2 | hj2
      · exact at_set_ne _ (by omega) (h4 j hj2)
      · rw [show j = k by omega, at_set _ _ _ _ (by omega) (by omega) (by rw [h1.nl]; omega), if_pos rfl]; omega
    · rw [if_neg c]
      refine ⟨⟨h1, h2⟩, h3, fun j hj => ?_⟩
      rcases Nat.lt_or_ge j k with hj2 | hj2
      · exact h4 j hj2
      · rw [show j = k by omega]; exact c
/-- The blocks of a graph: all edges, once each, in the classes of those on common cycles. -/
structure BlkP (adj : Int → Int → Prop) (out : List (List Pt)) : Prop where
  full : ∀ b ∈ out, b ≠ []
  nd : out.flatten.Nodup
  mem : ∀ e, e ∈ out.flatten ↔ ∃ a b, e = edgeP a b ∧ adj a b
  shut : ∀ b ∈ out, ∀ e ∈ b, ∀ f, EqvE adj e f → f ∈ b
  eqv : ∀ b ∈ out, ∀ e ∈ b, ∀ f ∈ b, EqvE adj e f
theorem scan_blk {rows : List (BitVec 64)} (hG : RowsG rows) : BlkP (adjR rows) (scanS rows rows.length).out := by
  obtain ⟨⟨h1, h2⟩, h3, h4⟩ := scan_ok hG rows.length (Nat.le_refl _)
  have hed : (scanS rows rows.length).edges = [] := List.eq_nil_iff_forall_not_mem.2 fun e he => by
    obtain ⟨A, s, B, h5, _⟩ := Bi.own h2 e he
    rw [h3] at h5
    have : ([] : List (Int × Int)) = A ++ s :: B := h5
    simp at this
  have hall : ∀ a b, adjR rows a b → nf (scanS rows rows.length).num a ≠ 0 := fun a b hab => by
    rw [nf_at hab.1]
    have := h4 a.toNat (by have := hab.1; have := hab.2.1; omega)
    rwa [show ((a.toNat : Nat) : Int) = a by have := hab.1; omega] at this
  have hrem : ∀ a b, ¬ remS (scanS rows rows.length).way a b := fun a b hr => by obtain ⟨s, hs, _⟩ := hr; rw [h3] at hs; cases hs
  have hnd := Bi.nd h2
  have hpin := Bi.pin h2
  have hcnt := Bi.cnt h2
  rw [hed, List.map_nil, List.append_nil] at hnd hpin hcnt
  refine ⟨Bi.full h2, hnd, fun e => ⟨fun he => ?_, ?_⟩, fun b hb e he f hf => hf.keep he fun x y hx hj => Bi.shut h2 b hb x hx y hj, Bi.eqv h2⟩
  · obtain ⟨a, b, h5, h6, _⟩ := hpin e he
    exact ⟨a, b, h5, h6⟩
  · rintro ⟨a, b, rfl, hab⟩
    have hba := hG.adj.sym _ _ hab
    rcases Int.lt_trichotomy (nf (scanS rows rows.length).num a) (nf (scanS rows rows.length).num b) with h5 | h5 | h5
    · exact (hcnt a b hab (hall a b hab) h5).2 (.inr (hrem b a))
    · exact absurd (Bi.inj h2 a b (hall a b hab) h5) fun e => hG.adj.irr a (by rw [← e] at hab; exact hab)
    · rw [edgeP_comm]; exact (hcnt b a hba (hall b a hba) h5).2 (.inr (hrem a b))
end Go.Sl
