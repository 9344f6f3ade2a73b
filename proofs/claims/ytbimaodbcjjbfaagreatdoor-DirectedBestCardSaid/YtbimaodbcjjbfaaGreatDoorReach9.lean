/- A part of the proofs of statements of this seat: contracts of functions, and the plain laws that they lean on. No conditions. -/
import Derived.Test.YtbimaodbcjjbfaaGreatDoorLib
import Derived.Test.YtbimaodbcjjbfaaGreatDoorOps2
import Derived.Test.YtbimaodbcjjbfaaGreatDoorTab
import Derived.ScopeJumps
/- An owned slice cut short; rows that are owned. No conditions. -/
namespace Go.Sl
theorem D.fit {P : Program} {κ : Ctx} {N : Nat} {ops : Array Oper} {Q : Exit → Act → World → Prop} {I J H : List Item} {L : Env} {stop fuel : Nat} {listed : Array Bool} (hf : Fit κ I J) (h : D P κ N ops Q H stop fuel listed L J) : D P κ N ops Q H stop fuel listed L I := fun a w ha hs => h a w ha (hf w hs)
set_option linter.unusedVariables false
set_option linter.unusedSectionVars false
section
variable {α : Type} [Enc α] {κ : Ctx} {I : List Item}
theorem Fit.takevc {e : TypeId} {a : Option Addr} {n c k : Nat} {xs : List α} (hn : n = xs.length) : Fit κ (vc e (.slice a n c) xs :: I) (vc e (.slice a (xs.take k).length c) (xs.take k) :: I) := by
  subst hn
  refine Fit.upd (At.head _ _ _) fun w h => ⟨?_, fun j ⟨o, m, c', hv, hc⟩ => ?_⟩
  · obtain ⟨a', cap, hv, h1, h2, h3, h4⟩ := h
    cases hv
    refine ⟨a, c, rfl, cells_length _, by rw [List.length_take]; omega, h3, fun hc => ?_⟩
    obtain ⟨b, off, cur, ha, hb, h5, h6⟩ := h4 hc
    refine ⟨b, off, cur, ha, hb, h5, fun j u hj => h6 j u ?_⟩
    have e1 : cells xs = cells (xs.take k) ++ cells (xs.drop k) := by rw [← cells_append, List.take_append_drop]
    rw [e1, List.getElem?_append_left (List.getElem?_eq_some_iff.1 hj).1]; exact hj
  · cases hv; exact ⟨o, _, c, rfl, hc⟩
end
end Go.Sl
/- What can be reached within a set of nodes, over rows of bits. No Go. No conditions. -/
namespace Go.Sl
set_option linter.unusedVariables false
set_option linter.unusedSimpArgs false
theorem listN_lt {a b : BitVec 64} (h : ∀ i : Nat, a.getLsbD i = true → b.getLsbD i = true) {k : Nat} (ha : a.getLsbD k = false) (hb : b.getLsbD k = true) : (listN a).length < (listN b).length := by
  have hn : (k :: listN a).Nodup := List.nodup_cons.2 ⟨fun hm => by { rw [mem_listN, ha] at hm; exact absurd hm (by decide) }, (listN_asc a).imp fun h => by omega⟩
  exact List.Nodup.length_le_of_subset hn fun i hi => by
    rcases List.mem_cons.1 hi with rfl | h1
    · exact mem_listN.2 hb
    · exact mem_listN.2 (h i (mem_listN.1 h1))
def oneB (i : Nat) : BitVec 64 := 1#64 <<< i
theorem getLsb_oneB {i j : Nat} (hi : i < 64) : (oneB i).getLsbD j = true ↔ j = i := by
  unfold oneB
  rw [BitVec.getLsbD_shiftLeft]
  constructor
  · intro h
    simp only [Bool.and_eq_true, decide_eq_true_eq, Bool.not_eq_true', decide_eq_false_iff_not, BitVec.getLsbD_one] at h
    omega
  · rintro rfl; simp [hi]
end Go.Sl
/- Groups of nodes that are reached from one another. No Go. No conditions. -/
namespace Go.Sl
set_option linter.unusedVariables false
set_option linter.unusedSimpArgs false
theorem getLsb_minus {a b : BitVec 64} {i : Nat} : (a &&& ~~~b).getLsbD i = true ↔ a.getLsbD i = true ∧ b.getLsbD i = false := by
  by_cases hi : i < 64
  · simp only [BitVec.getLsbD_and, BitVec.getLsbD_not, hi, decide_true, Bool.true_and, Bool.and_eq_true]
    cases b.getLsbD i <;> simp
  · simp [BitVec.getLsbD_of_ge _ _ (show 64 ≤ i by omega)]
end Go.Sl
/- A scope with one label, to which the run jumps back. No conditions. -/
namespace Go.Sl
set_option linter.unusedVariables false
section
variable {P : Program} {κ : Ctx} {N : Nat} {Q : Exit → Act → World → Prop} {L : Env} {I : List Item}
theorem wp_scope_ghost {c rest : Code} {a : Act} {w : World} (l : Nat) {σ : Type} (R : σ → Act → World → Prop) (μ : σ → Nat) (hf : findLabel c l = some rest)
    (first : c.wp P (Exit.jump l (fun a w => ∃ s, R s a w) Q) a w)
    (pass : ∀ s a w, R s a w → rest.wp P (Exit.jump l (fun a' w' => ∃ s', R s' a' w' ∧ μ s' < μ s) Q) a w) : (Code.scope c).wp P Q a w := by
  intro b k cs
  have hg : gotoIn l (.inScope c :: k) = some (.code rest :: .inScope c :: k) := by simp [gotoIn, hf]
  have key : ∀ n s a w, μ s = n → R s a w → ∃ e a' w', Q e a' w' ∧ Arrives P (lone (b.at a (.code rest :: .inScope c :: k)) cs w) b k cs e a' w' := by
    intro n
    induction n using Nat.strongRecOn with
    | _ n ih =>
      intro s a w hn hR
      obtain ⟨e, a₁, w₁, hq, harr⟩ := pass s a w hR b (.inScope c :: k) cs
      cases e with
      | normal => exact ⟨.normal, a₁, w₁, hq, Steps.trans harr (.one step_inScope)⟩
      | exit id => exact ⟨.exit id, a₁, w₁, hq, fun k' hk => harr k' (by simp [exitTo, hk])⟩
      | goto l' =>
        obtain ⟨rfl, s', hR', hlt⟩ := hq
        obtain ⟨e₂, a₂, w₂, hq₂, harr₂⟩ := ih _ (by omega) s' a₁ w₁ rfl hR'
        exact ⟨e₂, a₂, w₂, hq₂, .of_steps (harr _ hg) harr₂⟩
      | ret => exact ⟨_, a₁, w₁, hq, harr⟩
      | panic ch => exact ⟨_, a₁, w₁, hq, harr⟩
      | outgrown => exact ⟨_, a₁, w₁, hq, harr⟩
  obtain ⟨e, a₁, w₁, hq, harr⟩ := first b (.inScope c :: k) cs
  cases e with
  | normal => exact ⟨.normal, a₁, w₁, hq, .head step_scope (Steps.trans harr (.one step_inScope))⟩
  | exit id => exact ⟨.exit id, a₁, w₁, hq, fun k' hk => .head step_scope (harr k' (by simp [exitTo, hk]))⟩
  | goto l' =>
    obtain ⟨rfl, s, hR⟩ := hq
    obtain ⟨e₂, a₂, w₂, hq₂, harr₂⟩ := key _ s a₁ w₁ rfl hR
    exact ⟨e₂, a₂, w₂, hq₂, .of_steps (.head step_scope (harr _ hg)) harr₂⟩
  | ret => exact ⟨_, a₁, w₁, hq, .of_steps (.one step_scope) harr⟩
  | panic ch => exact ⟨_, a₁, w₁, hq, .of_steps (.one step_scope) harr⟩
  | outgrown => exact ⟨_, a₁, w₁, hq, .of_steps (.one step_scope) harr⟩
/-- What lies ahead of the label runs once; behind it, each jump back lowers the measure. -/
theorem W.scope {x y : Code} {l : Nat} {σ : Type} (Lv : σ → Env) (Iv : σ → List Item) (p : σ → Prop) (μ : σ → Nat) (hx : findLabel x l = none)
    (h1 : W P κ N x (Exit.then (MidK κ N Lv Iv p) (Exit.noGoto Q)) L I)
    (round : ∀ s, p s → W P κ N y (Exit.jump l (LoopK κ N Lv Iv p μ s) Q) (Lv s) (Iv s)) : W P κ N (.scope (.seq x (.seq (.label l) y))) Q L I := by
  intro a w ha hs
  refine wp_scope_ghost l (rest := .seq .skip y) (fun s a w => p s ∧ Ag N a (Lv s) ∧ Sep κ w (Iv s)) μ (by simp [findLabel, hx]) (wp_seq ?_) ?_
  · refine Code.wp_mono (fun e a w q => ?_) (h1 a w ha hs)
    cases e with
    | normal =>
      obtain ⟨s, hp, ha', hs'⟩ := q
      refine wp_seq (wp_label ?_)
      refine Code.wp_mono (fun e a w q => ?_) (round s hp a w ha' hs')
      cases e with
      | goto l' => obtain ⟨h, s', h1, _, h2, h3⟩ := q; exact ⟨h, s', h1, h2, h3⟩
      | _ => exact q
    | goto l' => exact q.elim
    | _ => exact q
  · rintro s a w ⟨hp, ha', hs'⟩
    refine wp_seq (wp_skip ?_)
    refine Code.wp_mono (fun e a w q => ?_) (round s hp a w ha' hs')
    cases e with
    | goto l' => obtain ⟨h, s', h1, h0, h2, h3⟩ := q; exact ⟨h, s', ⟨h1, h2, h3⟩, h0⟩
    | _ => exact q
theorem W.goto {l : Nat} (h : V κ N Q (.goto l) L I) : W P κ N (.goto l) Q L I := fun a w ha hs => wp_goto (h a w ha hs)
theorem V.jump_ret {l : Nat} {K : Act → World → Prop} (h : V κ N Q .ret L I) : V κ N (Exit.jump l K Q) .ret L I := h
theorem V.jump {l : Nat} {σ : Type} {Lv : σ → Env} {Iv : σ → List Item} {p : σ → Prop} {μ : σ → Nat} {s : σ} (s' : σ) (hp : p s') (hlt : μ s' < μ s) (hL : Sub L (Lv s')) (hI : Fit κ I (Iv s')) :
    V κ N (Exit.jump l (LoopK κ N Lv Iv p μ s) Q) (.goto l) L I := fun a w ha hs => ⟨rfl, s', hp, hlt, ha.sub hL, hI w hs⟩
end
end Go.Sl
