/- A part of the proofs of statements of this seat: contracts of functions, and the plain laws that they lean on. No conditions. -/
import Derived.Test.YtbimaodbcjjbfaaWinD6
import Derived.Test.YtbimaodbcjjbfaaWinB5
import Derived.Test.YtbimaodbcjjbfaaGraphG5
/- Windows: the reference's way to apply an event. The plain laws. No Go. No conditions. -/
namespace Go.Sl
set_option linter.unusedVariables false
set_option linter.unusedSectionVars false
theorem hit_two {e : Ev} {l : Lk} (h : e.kd = 2) : hitE e l = decide (l.p = (lkOf e).p) := by unfold hitE; rw [if_pos h, decide_eq_decide, lk_p]
theorem hit_oth {e : Ev} {l : Lk} (h : ¬ e.kd = 2) : hitE e l = decide (l.u = e.u ∨ l.v = e.u) := by unfold hitE; rw [if_neg h]
structure ApI (xs : List Lk) (e : Ev) (k : Nat) (O : List Lk) (q : Bool) : Prop where
  eq : stepL xs e = O ++ (if e.kd = 1 then (if q = true then xs.drop k else setL (lkOf e) (xs.drop k)) else (xs.drop k).filter fun l => !hitE e l)
  aft : q = true → e.kd = 1 → ∀ x ∈ xs.drop k, Lk.lt (lkOf e) x
  oth : e.kd ≠ 1 → q = true
section
variable {xs O : List Lk} {e : Ev} {k : Nat} {q : Bool}
theorem ApI.start : ApI xs e 0 [] (decide (e.kd ≠ 1)) := by
  refine ⟨?_, fun h h1 => absurd h1 (of_decide_eq_true h), fun h => decide_eq_true h⟩
  unfold stepL
  by_cases h : e.kd = 1
  · rw [if_pos h, if_pos h, if_neg (by simp [h])]; rfl
  · rw [if_neg h, if_neg h]; rfl
theorem lt_rest (ha : xs.Pairwise Lk.lt) (hk : k < xs.length) : ∀ x ∈ xs.drop (k + 1), Lk.lt (at_ xs (k : Int)) x := by
  have h := ha.sublist (List.drop_sublist k xs)
  rw [drop_at xs k hk] at h
  exact (List.pairwise_cons.1 h).1
theorem ApI.ins (h : ApI xs e k O q) (ha : xs.Pairwise Lk.lt) (hk : k < xs.length) (hq : (!q) = true) (hl : Pt.lt (lkOf e).p (at_ xs (k : Int)).p) : ApI xs e k (O ++ [lkOf e]) true := by
  have hq' : q = false := by simpa using hq
  subst hq'
  have h1 : e.kd = 1 := Classical.byContradiction fun hn => by have := h.oth hn; cases this
  refine ⟨?_, fun _ _ x hx => ?_, fun _ => rfl⟩
  · rw [h.eq, if_pos h1, if_pos h1, if_neg (by decide), if_pos rfl, drop_at xs k hk]
    conv => lhs; unfold setL
    rw [if_pos (show Lk.lt (lkOf e) (at_ xs (k : Int)) from hl), List.append_assoc]; rfl
  · rw [drop_at xs k hk] at hx
    rcases List.mem_cons.1 hx with rfl | hx
    · exact hl
    · exact Pt.lin.tr _ _ _ hl (lt_rest ha hk x hx)
theorem ApI.hit (h : ApI xs e k O q) (ha : xs.Pairwise Lk.lt) (hk : k < xs.length) (h1 : e.kd = 1) (hp : (at_ xs (k : Int)).p = (lkOf e).p) : ApI xs e (k + 1) (O ++ [lkOf e]) true := by
  have hn : ¬ Lk.lt (lkOf e) (at_ xs (k : Int)) := fun h2 => by unfold Lk.lt at h2; rw [hp] at h2; exact Pt.lin.irr _ h2
  have hq' : q = false := Classical.byContradiction fun hc => hn (h.aft (by simpa using hc) h1 _ (by rw [drop_at xs k hk]; exact List.mem_cons_self))
  subst hq'
  refine ⟨?_, fun _ _ x hx => ?_, fun _ => rfl⟩
  · rw [h.eq, if_pos h1, if_pos h1, if_neg (by decide), if_pos rfl, drop_at xs k hk]
    conv => lhs; unfold setL
    rw [if_neg hn, if_pos hp, List.append_assoc]; rfl
  · have := lt_rest ha hk x hx
    unfold Lk.lt at this ⊢
    rw [← hp]; exact this
theorem ApI.drop (h : ApI xs e k O q) (hk : k < xs.length) (h1 : e.kd ≠ 1) (hh : hitE e (at_ xs (k : Int)) = true) : ApI xs e (k + 1) O q :=
  ⟨by rw [h.eq, if_neg h1, if_neg h1, drop_at xs k hk, List.filter_cons, hh]; rfl, fun _ h2 => absurd h2 h1, h.oth⟩
theorem ApI.keep (h : ApI xs e k O q) (ha : xs.Pairwise Lk.lt) (hk : k < xs.length) (hM : (!q) = true → ¬ Pt.lt (lkOf e).p (at_ xs (k : Int)).p) (hp : e.kd = 1 → (at_ xs (k : Int)).p ≠ (lkOf e).p) (h2 : e.kd ≠ 1 → hitE e (at_ xs (k : Int)) = false) :
    ApI xs e (k + 1) (O ++ [at_ xs (k : Int)]) q := by
  refine ⟨?_, fun hq h1 x hx => h.aft hq h1 x (by rw [drop_at xs k hk]; exact List.mem_cons_of_mem _ hx), h.oth⟩
  rw [h.eq, drop_at xs k hk]
  by_cases h1 : e.kd = 1
  · rw [if_pos h1, if_pos h1]
    cases q
    · rw [if_neg (by decide), if_neg (by decide)]
      conv => lhs; unfold setL
      rw [if_neg (show ¬ Lk.lt (lkOf e) (at_ xs (k : Int)) from hM rfl), if_neg (hp h1), List.append_assoc]; rfl
    · rw [if_pos rfl, if_pos rfl, List.append_assoc]; rfl
  · rw [if_neg h1, if_neg h1, List.filter_cons, h2 h1, List.append_assoc]; rfl
theorem ApI.len (h : ApI xs e k O q) : O.length ≤ xs.length + 1 := by
  have h1 := congrArg List.length h.eq
  rw [List.length_append] at h1
  have h2 := stepL_len xs e
  omega
theorem FitOk.chk {nd : Int} (h : FitOk nd e) : checkE e = 0 := Classical.byContradiction fun hc => by
  have h1 := fitE_ok.2 h
  unfold fitE at h1
  rw [if_pos hc] at h1
  exact hc h1
theorem ApI.fin (h : ApI xs e k O q) (hk : xs.length ≤ k) (hq : (!q) = false) : O = stepL xs e := by
  have hq' : q = true := by simpa using hq
  rw [h.eq, List.drop_eq_nil_of_le hk, hq']
  by_cases h1 : e.kd = 1
  · rw [if_pos h1, if_pos rfl, List.append_nil]
  · rw [if_neg h1, List.filter_nil, List.append_nil]
theorem ApI.finIns (h : ApI xs e k O q) (hk : xs.length ≤ k) (hq : (!q) = true) : O ++ [lkOf e] = stepL xs e := by
  have hq' : q = false := by simpa using hq
  have h1 : e.kd = 1 := Classical.byContradiction fun hn => by have := h.oth hn; rw [hq'] at this; cases this
  rw [h.eq, List.drop_eq_nil_of_le hk, hq', if_pos h1, if_neg (by decide)]; rfl
end
end Go.Sl
namespace Go.Sl
open Go.Proofs
set_option linter.unusedVariables false
set_option linter.unusedSimpArgs false
set_option maxRecDepth 4000
set_option maxHeartbeats 4000000 in
theorem Apply5_ok {κ : Ctx} {I : List Item} {nd : Int} {e : Ev} {va : Value} {xs : List Lk} (hl : Sl κ I va xs) (hval : checkS nd xs = 0) (hfit : FitOk nd e) (hsz : xs.length ≤ 1000000) :
    CallS Try.prog κ 88 [.agg #[I64 (nd), va], .agg #[I64 (e.kd), I64 (e.tm), I64 (e.u), I64 (e.v), I64 (e.w), I64 (e.lb), I64 (e.sg)]] I (fun r J => ∃ y : Option Addr × Nat × Option Addr × Nat × Nat, (r = .tuple #[.agg #[I64 nd, .slice y.1 (stepL xs e).length y.2.1], .slice y.2.2.1 y.2.2.2.1 y.2.2.2.2, I64 0] ∧ y.2.2.2.1 ≤ 2 * xs.length + 1) ∧ J = vc 158 (.slice y.1 (stepL xs e).length y.2.1) (stepL xs e) :: I) := by
 refine CallS.pull hl.le fun hmax => ?_
 refine CallS.enter (L := [(0, .agg #[I64 (nd), va]), (1, .agg #[I64 (e.kd), I64 (e.tm), I64 (e.u), I64 (e.v), I64 (e.w), I64 (e.lb), I64 (e.sg)])]) Try.func88 rfl rfl rfl rfl ?_
 refine W.sr ?_
 refine G.e (Eff.box (cs := [_, _]) rfl rfl rfl) ?_
 rintro _ _ ⟨b1, rfl, rfl⟩
 refine G.e (Eff.box (cs := [_, _, _, _, _, _, _]) rfl rfl rfl) ?_
 rintro _ _ ⟨b2, rfl, rfl⟩
 refine G.e (Eff.alloc ty71 rfl) ?_
 rintro _ _ ⟨b3, rfl, rfl⟩
 refine G.r (Runs.assign rfl) ?_
 refine G.r (Runs.assign rfl) ?_
 refine G.nt ?_
 refine W.seq ?_
 refine W.sr ?_
 refine G.r (Runs.lds (vs := [_, _]) ty71) ?_
 refine G.e (Eff.call call124 rfl rfl (CheckS5_ok (nd := nd) (Sl.f hl))) ?_
 rintro _ _ ⟨_, _, ⟨rfl, rfl⟩, rfl, rfl⟩
 refine G.r (Runs.assign rfl) ?_
 refine G.nt ?_
 refine W.sr ?_
 refine G.r (Runs.move rfl) ?_
 refine G.r (Runs.neq rfl rfl) ?_
 refine G.nt ?_
 refine W.ite rfl (fun c19 => ?_) (fun c19 => ?_)
 ·exact absurd hval c19
 ·refine W.skip ?_
  refine V.then ?_
  refine W.seq ?_
  refine W.sr ?_
  refine G.r (Runs.lds (vs := [_, _, _, _, _, _, _]) ty122) ?_
  refine G.e (Eff.call call157 rfl rfl (CheckE4_ok e)) ?_
  rintro _ _ ⟨_, _, ⟨rfl, rfl⟩, rfl, rfl⟩
  refine G.r (Runs.assign rfl) ?_
  refine G.nt ?_
  refine W.sub (L' := [(8, _), (4, _), (3, _), (2, _)]) (Sub.cons rfl (Sub.cons rfl (Sub.cons rfl (Sub.cons rfl Sub.nil)))) ?_
  refine W.sr ?_
  refine G.r (Runs.move rfl) ?_
  refine G.r (Runs.neq rfl rfl) ?_
  refine G.nt ?_
  refine W.ite rfl (fun c25 => ?_) (fun c25 => ?_)
  ·exact absurd hfit.chk c25
  ·refine W.skip ?_
   refine V.then ?_
   refine W.seq ?_
   refine W.sr ?_
   refine G.r (Runs.fieldAddr fld122_2 rfl) ?_
   refine G.r (Runs.ld ty3) ?_
   refine G.r (Runs.fieldAddr fld71_0 rfl) ?_
   refine G.r (Runs.ld ty3) ?_
   refine G.r (Runs.geq rfl rfl) ?_
   refine G.r (Runs.move rfl) ?_
   refine G.split (d := 33) rfl (fun g33 => ?_) (fun g33 => ?_)
   ·exact absurd hfit.fits (by omega)
   ·refine G.ro (Runs.fieldAddr fld122_3 rfl) ?_
    refine G.ro (Runs.ld ty3) ?_
    refine G.ro (Runs.fieldAddr fld71_0 rfl) ?_
    refine G.ro (Runs.ld ty3) ?_
    refine G.ro (Runs.geq rfl rfl) ?_
    refine G.r (Runs.pickf rfl rfl) ?_
    refine G.nt ?_
    refine W.sub (L' := [(39, _), (4, _), (3, _), (2, _)]) (Sub.cons rfl (Sub.cons rfl (Sub.cons rfl (Sub.cons rfl Sub.nil)))) ?_
    refine W.ite rfl (fun c39 => ?_) (fun c39 => ?_)
    ·exact absurd hfit.fits (by omega)
    ·refine W.skip ?_
     refine V.then ?_
     refine W.sr ?_
     refine G.r (Runs.fieldAddr fld71_0 rfl) ?_
     refine G.r (Runs.ld ty3) ?_
     refine G.r (Runs.build (cells := [_, _]) ty71 Try.underlying71 pl71 rfl rfl) ?_
     refine G.e (Eff.alloc ty71 rfl) ?_
     rintro _ _ ⟨b4, rfl, rfl⟩
     refine G.e (Eff.st (cs := [_, _]) (vs := [_, _]) (cs' := [_, _]) ty71) ?_
     rintro _ _ ⟨rfl, rfl⟩
     refine G.nt ?_
     refine W.sr ?_
     refine G.r (Runs.assign rfl) ?_
     have hasc := (checkS_ok hval).2.2
     have hfk := hfit.kind
     refine G.nt ?_
     refine W.sr ?_
     refine G.r (Runs.fieldAddr fld122_2 rfl) ?_
     refine G.r (Runs.ld ty3) ?_
     refine G.r (Runs.fieldAddr fld122_3 rfl) ?_
     refine G.r (Runs.ld ty3) ?_
     refine G.r (Runs.min rfl rfl) ?_
     refine G.r (Runs.fieldAddr fld122_2 rfl) ?_
     refine G.r (Runs.ld ty3) ?_
     refine G.r (Runs.fieldAddr fld122_3 rfl) ?_
     refine G.r (Runs.ld ty3) ?_
     refine G.r (Runs.max rfl rfl) ?_
     refine G.r (Runs.fieldAddr fld122_4 rfl) ?_
     refine G.r (Runs.ld ty3) ?_
     refine G.r (Runs.fieldAddr fld122_5 rfl) ?_
     refine G.r (Runs.ld ty3) ?_
     refine G.r (Runs.fieldAddr fld122_6 rfl) ?_
     refine G.r (Runs.ld ty3) ?_
     refine G.r (Runs.fieldAddr fld122_1 rfl) ?_
     refine G.r (Runs.ld ty3) ?_
     refine G.r (Runs.build (cells := [_, _, _, _, _, _]) ty158 Try.underlying158 pl158 rfl rfl) ?_
     refine G.e (Eff.alloc ty158 rfl) ?_
     rintro _ _ ⟨b5, rfl, rfl⟩
     refine G.e (Eff.st (cs := [_, _, _, _, _, _]) (vs := [_, _, _, _, _, _]) (cs' := [_, _, _, _, _, _]) ty158) ?_
     rintro _ _ ⟨rfl, rfl⟩
     show G Try.prog κ _ _ _ _ ([(11, .pointer (some ⟨b5, 0, none⟩)), (62, .agg #[I64 (if e.v < e.u then e.v else e.u), I64 (if e.u < e.v then e.v else e.u), I64 (e.w), I64 (e.lb), I64 (e.sg), I64 (e.tm)]), (61, I64 (e.tm)), (60, .pointer (some ⟨b2, 1, none⟩)), (59, I64 (e.sg)), (58, .pointer (some ⟨b2, 6, none⟩)), (57, I64 (e.lb)), (56, .pointer (some ⟨b2, 5, none⟩)), (55, I64 (e.w)), (54, .pointer (some ⟨b2, 4, none⟩)), (53, I64 (if e.u < e.v then e.v else e.u)), (52, I64 (e.v)), (51, .pointer (some ⟨b2, 3, none⟩)), (50, I64 (e.u)), (49, .pointer (some ⟨b2, 2, none⟩)), (48, I64 (if e.v < e.u then e.v else e.u)), (47, I64 (e.v)), (46, .pointer (some ⟨b2, 3, none⟩)), (45, I64 (e.u)), (44, .pointer (some ⟨b2, 2, none⟩)), (10, .slice none 0 0), (9, .pointer (some ⟨b4, 0, none⟩)), (43, .agg #[I64 (nd), .slice none 0 0]), (42, I64 (nd)), (41, .pointer (some ⟨b1, 0, none⟩)), (39, .bool (decide (nd ≤ e.v))), (4, .pointer (some ⟨b3, 0, none⟩)), (3, .pointer (some ⟨b2, 0, none⟩)), (2, .pointer (some ⟨b1, 0, none⟩))] : Env) (blk b5 [I64 ((lkOf e).u), I64 ((lkOf e).v), I64 ((lkOf e).w), I64 ((lkOf e).lb), I64 ((lkOf e).sg), I64 ((lkOf e).tm)] 158 :: blk b4 [I64 (nd), .slice none 0 0] 71 :: blk b3 [I64 (0), .slice none 0 0] 71 :: blk b2 [I64 (e.kd), I64 (e.tm), I64 (e.u), I64 (e.v), I64 (e.w), I64 (e.lb), I64 (e.sg)] 122 :: blk b1 [I64 (nd), va] 71 :: I)
     refine G.nt ?_
     refine W.sub (L' := [(11, _), (10, _), (9, _), (4, _), (3, _), (2, _)]) (Sub.cons rfl (Sub.cons rfl (Sub.cons rfl (Sub.cons rfl (Sub.cons rfl (Sub.cons rfl Sub.nil)))))) ?_
     refine W.sr ?_
     refine G.r (Runs.fieldAddr fld122_0 rfl) ?_
     refine G.r (Runs.ld ty3) ?_
     refine G.r (Runs.neq rfl rfl) ?_
     refine G.r (Runs.assign rfl) ?_
     refine G.nt ?_
     refine W.seq ?_
     refine W.sr ?_
     refine G.r (Runs.fieldAddr fld71_1 rfl) ?_
     refine G.r (Runs.ld ty69) ?_
     refine G.r (Runs.lenT (α := Lk) (xs := xs) Try.underlying69 rfl (Sl.f hl)) ?_
     refine G.r (Runs.move rfl) ?_
     refine G.nt ?_
     refine W.sub (L' := [(69, _), (68, _), (67, _), (12, _), (11, _), (10, _), (9, _), (4, _), (3, _)]) (Sub.cons rfl (Sub.cons rfl (Sub.cons rfl (Sub.cons rfl (Sub.cons rfl (Sub.cons rfl (Sub.cons rfl (Sub.cons rfl (Sub.cons rfl Sub.nil))))))))) ?_
     refine W.block ?_
     refine W.loop (σ := Nat × (Option Addr) × Nat × (Option Addr) × Nat × (List Lk) × (List Ev) × Bool) (fun s => ([(3, .pointer (some ⟨b2, 0, none⟩)), (4, .pointer (some ⟨b3, 0, none⟩)), (9, .pointer (some ⟨b4, 0, none⟩)), (10, .slice s.2.2.2.1 s.2.2.2.2.2.2.1.length s.2.2.2.2.1), (11, .pointer (some ⟨b5, 0, none⟩)), (12, .bool (s.2.2.2.2.2.2.2)), (67, va), (68, I64 (((xs.length : Nat) : Int))), (69, I64 (((s.1 : Nat) : Int)))] : Env)) (fun s => blk b4 [I64 (nd), .slice s.2.1 s.2.2.2.2.2.1.length s.2.2.1] 71 :: vc 158 (.slice s.2.1 s.2.2.2.2.2.1.length s.2.2.1) (s.2.2.2.2.2.1) :: vc 122 (.slice s.2.2.2.1 s.2.2.2.2.2.2.1.length s.2.2.2.2.1) (s.2.2.2.2.2.2.1) :: blk b5 [I64 ((lkOf e).u), I64 ((lkOf e).v), I64 ((lkOf e).w), I64 ((lkOf e).lb), I64 ((lkOf e).sg), I64 ((lkOf e).tm)] 158 :: blk b3 [I64 (0), .slice none 0 0] 71 :: blk b2 [I64 (e.kd), I64 (e.tm), I64 (e.u), I64 (e.v), I64 (e.w), I64 (e.lb), I64 (e.sg)] 122 :: blk b1 [I64 (nd), va] 71 :: I) (fun s => (s.1 ≤ xs.length) ∧ (ApI xs e s.1 s.2.2.2.2.2.1 s.2.2.2.2.2.2.2) ∧ (s.2.2.2.2.2.2.1.length ≤ 2 * s.1)) (fun s => xs.length - s.1) (0, none, 0, none, 0, [], [], decide (e.kd ≠ 1)) (show ((0 : Nat) ≤ xs.length) ∧ (ApI xs e (0 : Nat) ([] : List Lk) (decide (e.kd ≠ 1) : Bool)) ∧ (([] : List Ev).length ≤ 2 * (0 : Nat)) from ⟨(by omega), ApI.start, (by simp)⟩) (Sub.cons rfl (Sub.cons rfl (Sub.cons rfl (Sub.cons (lookV rfl (by first | rfl | simp)) (Sub.cons rfl (Sub.cons (lookV rfl (by first | rfl | simp)) (Sub.cons rfl (Sub.cons rfl (Sub.cons lookO Sub.nil))))))))) (show Fit κ _ (blk b4 [I64 (nd), .slice (none) ([]).length (0)] 71 :: vc 158 (.slice (none) ([]).length (0)) (([])) :: vc 122 (.slice (none) ([]).length (0)) (([])) :: blk b5 [I64 ((lkOf e).u), I64 ((lkOf e).v), I64 ((lkOf e).w), I64 ((lkOf e).lb), I64 ((lkOf e).sg), I64 ((lkOf e).tm)] 158 :: blk b3 [I64 (0), .slice none 0 0] 71 :: blk b2 [I64 (e.kd), I64 (e.tm), I64 (e.u), I64 (e.v), I64 (e.w), I64 (e.lb), I64 (e.sg)] 122 :: blk b1 [I64 (nd), va] 71 :: I) from (Fit.trans (Fit.nilvc 122 _) (Fit.trans (Fit.nilvc 158 _) Fit.s))) ?_
     rintro ⟨k, a1, c1, a2, c2, O, chg, q⟩ hp
     obtain ⟨hk, hA, hcg⟩ : (k ≤ xs.length) ∧ (ApI xs e k O q) ∧ (chg.length ≤ 2 * k) := hp
     show W Try.prog κ 180 _ _ ([(3, .pointer (some ⟨b2, 0, none⟩)), (4, .pointer (some ⟨b3, 0, none⟩)), (9, .pointer (some ⟨b4, 0, none⟩)), (10, .slice a2 chg.length c2), (11, .pointer (some ⟨b5, 0, none⟩)), (12, .bool (q)), (67, va), (68, I64 (((xs.length : Nat) : Int))), (69, I64 (((k : Nat) : Int)))] : Env) (blk b4 [I64 (nd), .slice a1 O.length c1] 71 :: vc 158 (.slice a1 O.length c1) (O) :: vc 122 (.slice a2 chg.length c2) (chg) :: blk b5 [I64 ((lkOf e).u), I64 ((lkOf e).v), I64 ((lkOf e).w), I64 ((lkOf e).lb), I64 ((lkOf e).sg), I64 ((lkOf e).tm)] 158 :: blk b3 [I64 (0), .slice none 0 0] 71 :: blk b2 [I64 (e.kd), I64 (e.tm), I64 (e.u), I64 (e.v), I64 (e.w), I64 (e.lb), I64 (e.sg)] 122 :: blk b1 [I64 (nd), va] 71 :: I)
     refine W.sr ?_
     refine G.r (Runs.lss rfl rfl) ?_
     refine G.nt ?_
     refine W.seq ?_
     refine W.ite rfl (fun c70 => ?_) (fun c70 => ?_)
     ·refine W.skip ?_
      refine V.then ?_
      refine W.seq ?_
      refine W.block ?_
      refine W.sr ?_
      refine G.r (Runs.idx (α := Lk) (xs := xs) Try.underlying69 ty158 rfl rfl (Sl.f hl) (by omega) (by omega)) ?_
      refine G.r (Runs.gets (α := Lk) (xs := xs) ty158 rfl (Sl.f hl) (by omega) (by omega)) ?_
      refine G.e (Eff.alloc ty158 rfl) ?_
      rintro _ _ ⟨b6, rfl, rfl⟩
      refine G.e (Eff.st (cs := [_, _, _, _, _, _]) (vs := [_, _, _, _, _, _]) (cs' := [_, _, _, _, _, _]) ty158) ?_
      rintro _ _ ⟨rfl, rfl⟩
      refine G.nt ?_
      refine W.cut (σ := (Option Addr) × Nat × (Option Addr) × Nat × (List Lk) × (List Ev) × Bool) (fun s => ([(3, .pointer (some ⟨b2, 0, none⟩)), (4, .pointer (some ⟨b3, 0, none⟩)), (9, .pointer (some ⟨b4, 0, none⟩)), (10, .slice s.2.2.1 s.2.2.2.2.2.1.length s.2.2.2.1), (11, .pointer (some ⟨b5, 0, none⟩)), (12, .bool (s.2.2.2.2.2.2)), (14, .pointer (some ⟨b6, 0, none⟩)), (67, va), (68, I64 (((xs.length : Nat) : Int))), (69, I64 (((k : Nat) : Int)))] : Env)) (fun s => blk b4 [I64 (nd), .slice s.1 s.2.2.2.2.1.length s.2.1] 71 :: vc 158 (.slice s.1 s.2.2.2.2.1.length s.2.1) (s.2.2.2.2.1) :: vc 122 (.slice s.2.2.1 s.2.2.2.2.2.1.length s.2.2.2.1) (s.2.2.2.2.2.1) :: blk b6 [I64 ((at_ xs ((k : Nat) : Int)).u), I64 ((at_ xs ((k : Nat) : Int)).v), I64 ((at_ xs ((k : Nat) : Int)).w), I64 ((at_ xs ((k : Nat) : Int)).lb), I64 ((at_ xs ((k : Nat) : Int)).sg), I64 ((at_ xs ((k : Nat) : Int)).tm)] 158 :: blk b5 [I64 ((lkOf e).u), I64 ((lkOf e).v), I64 ((lkOf e).w), I64 ((lkOf e).lb), I64 ((lkOf e).sg), I64 ((lkOf e).tm)] 158 :: blk b3 [I64 (0), .slice none 0 0] 71 :: blk b2 [I64 (e.kd), I64 (e.tm), I64 (e.u), I64 (e.v), I64 (e.w), I64 (e.lb), I64 (e.sg)] 122 :: blk b1 [I64 (nd), va] 71 :: I) (fun s => (ApI xs e k s.2.2.2.2.1 s.2.2.2.2.2.2) ∧ ((!s.2.2.2.2.2.2) = true → ¬ Pt.lt (lkOf e).p (at_ xs ((k : Nat) : Int)).p) ∧ (s.2.2.2.2.2.1.length ≤ 2 * k + 1)) ?_ ?_
      ·refine W.seq ?_
       refine W.drawn mixed ?_
       refine A.hold (blk b6 [I64 ((at_ xs ((k : Nat) : Int)).u), I64 ((at_ xs ((k : Nat) : Int)).v), I64 ((at_ xs ((k : Nat) : Int)).w), I64 ((at_ xs ((k : Nat) : Int)).lb), I64 ((at_ xs ((k : Nat) : Int)).sg), I64 ((at_ xs ((k : Nat) : Int)).tm)] 158 :: blk b4 [I64 (nd), .slice a1 O.length c1] 71 :: vc 158 (.slice a1 O.length c1) (O) :: vc 122 (.slice a2 chg.length c2) (chg) :: blk b5 [I64 ((lkOf e).u), I64 ((lkOf e).v), I64 ((lkOf e).w), I64 ((lkOf e).lb), I64 ((lkOf e).sg), I64 ((lkOf e).tm)] 158 :: blk b3 [I64 (0), .slice none 0 0] 71 :: blk b2 [I64 (e.kd), I64 (e.tm), I64 (e.u), I64 (e.v), I64 (e.w), I64 (e.lb), I64 (e.sg)] 122 :: blk b1 [I64 (nd), va] 71 :: I) 9 ?_
       refine D.r 0 rfl (Runs.move rfl) ?_ (hJ := Fit.sub)
       refine D.r 1 rfl (Runs.not rfl) ?_ (hJ := Fit.sub)
       refine D.r 2 rfl (Runs.move rfl) ?_ (hJ := Fit.sub)
       refine D.splitb (d := 75) rfl (fun g75 => ?_) (fun g75 => ?_)
       ·refine D.read 3 rfl (by kernel_rfl) (by kernel_rfl) (by kernel_rfl) rfl (by kernel_rfl) (fun _ _ _ _ h => h) (Wanted.on rfl rfl rfl) rfl rfl Fit.sub (Runs.lds (vs := [_, _, _, _, _, _]) ty158) ?_
        refine D.read 5 rfl (by kernel_rfl) (by kernel_rfl) (by kernel_rfl) rfl (by kernel_rfl) (fun _ _ _ _ h => h) (Wanted.on rfl rfl rfl) rfl rfl Fit.sub (Runs.lds (vs := [_, _, _, _, _, _]) ty158) ?_
        refine D.step (rs := [4]) (by kernel_rfl) rfl rfl (all1 ?_)
        refine Step.eff rfl (Wanted.on rfl rfl rfl) (Eff.call call158 rfl rfl (Edge5_ok (lkOf e))) ?_
        rintro _ _ ⟨_, _, ⟨rfl, rfl⟩, rfl, rfl⟩
        refine ⟨Fit.sub, ?_⟩
        refine D.step (rs := [6]) (by kernel_rfl) rfl rfl (all1 ?_)
        refine Step.eff rfl (Wanted.on rfl rfl rfl) (Eff.call call158 rfl rfl (Edge5_ok (at_ xs ((k : Nat) : Int)))) ?_
        rintro _ _ ⟨_, _, ⟨rfl, rfl⟩, rfl, rfl⟩
        refine ⟨Fit.sub, ?_⟩
        refine D.step (rs := [7]) (by kernel_rfl) rfl rfl (all1 ?_)
        refine Step.eff rfl (Wanted.on rfl rfl rfl) (Eff.call call136 rfl rfl (Before03_ok (lkOf e).p (at_ xs ((k : Nat) : Int)).p)) ?_
        rintro _ _ ⟨_, _, ⟨rfl, rfl⟩, rfl, rfl⟩
        refine ⟨Fit.sub, ?_⟩
        refine D.r 8 rfl (Runs.pickt rfl rfl) ?_ (hJ := Fit.sub)
        refine D.done (by kernel_rfl) ?_
        refine V.then ?_
        refine W.sub (L' := [(81, _), (14, _), (3, _), (4, _), (9, _), (10, _), (11, _), (12, _), (67, _), (68, _), (69, _)]) (Sub.cons rfl (Sub.cons rfl (Sub.cons rfl (Sub.cons rfl (Sub.cons rfl (Sub.cons rfl (Sub.cons rfl (Sub.cons rfl (Sub.cons rfl (Sub.cons rfl (Sub.cons rfl Sub.nil))))))))))) ?_
        refine W.ite rfl (fun c81 => ?_) (fun c81 => ?_)
        ·refine W.drawn mixed ?_
         refine A.hold (blk b6 [I64 ((at_ xs ((k : Nat) : Int)).u), I64 ((at_ xs ((k : Nat) : Int)).v), I64 ((at_ xs ((k : Nat) : Int)).w), I64 ((at_ xs ((k : Nat) : Int)).lb), I64 ((at_ xs ((k : Nat) : Int)).sg), I64 ((at_ xs ((k : Nat) : Int)).tm)] 158 :: blk b5 [I64 ((lkOf e).u), I64 ((lkOf e).v), I64 ((lkOf e).w), I64 ((lkOf e).lb), I64 ((lkOf e).sg), I64 ((lkOf e).tm)] 158 :: blk b3 [I64 (0), .slice none 0 0] 71 :: blk b2 [I64 (e.kd), I64 (e.tm), I64 (e.u), I64 (e.v), I64 (e.w), I64 (e.lb), I64 (e.sg)] 122 :: blk b1 [I64 (nd), va] 71 :: I) 16 ?_
         refine D.r 0 rfl (Runs.fieldAddr fld71_1 rfl) ?_ (hJ := Fit.sub)
         refine D.r 2 rfl (Runs.lds (vs := [_, _, _, _, _, _]) ty158) ?_ (hJ := Fit.sub)
         refine D.r 5 rfl (Runs.move rfl) ?_ (hJ := Fit.sub)
         refine D.r 6 rfl (Runs.lds (vs := [_, _, _, _, _, _]) ty158) ?_ (hJ := Fit.sub)
         refine D.r 7 rfl (Runs.fieldAddr fld122_1 rfl) ?_ (hJ := Fit.sub)
         refine D.r 8 rfl (Runs.ld ty3) ?_ (hJ := Fit.sub)
         refine D.step (rs := [1, 3]) (by kernel_rfl) rfl rfl (all2 ?_ (all1 ?_))
         ·refine Step.read rfl (Wanted.plain rfl) rfl rfl (Runs.ld ty69) Fit.sub ?_
          refine D.step (rs := [3]) (by kernel_rfl) rfl rfl (all1 ?_)
          refine Step.eff rfl (Wanted.plain rfl) (Eff.bs (α := Lk) (cs := [I64 ((lkOf e).u), I64 ((lkOf e).v), I64 ((lkOf e).w), I64 ((lkOf e).lb), I64 ((lkOf e).sg), I64 ((lkOf e).tm)]) (xs := [⟨(lkOf e).u, (lkOf e).v, (lkOf e).w, (lkOf e).lb, (lkOf e).sg, (lkOf e).tm⟩]) Try.underlying69 ty158 rfl rfl (by decide) (by decide) rfl (by kernel_rfl) rfl rfl) ?_
          rintro _ _ ⟨ad7, rfl, rfl⟩
          refine ⟨Fit.sub, ?_⟩
          refine D.step (rs := [4]) (by kernel_rfl) rfl rfl (all1 ?_)
          refine Step.eff rfl (Wanted.plain rfl) (Eff.app (α := Lk) (e := 158) (xs := O) (ys := ([⟨(lkOf e).u, (lkOf e).v, (lkOf e).w, (lkOf e).lb, (lkOf e).sg, (lkOf e).tm⟩] : List Lk)) Try.underlying69 ty158 rfl rfl rfl (by repeat (first | exact List.mem_cons_self | apply List.mem_cons_of_mem)) Sl.o (by have hol3 := hA.len; first | (simp only [List.length_append, List.length_cons, List.length_nil]; omega) | (have hol4 := hA2.len; simp only [List.length_append, List.length_cons, List.length_nil]; omega)) (by decide) rfl (fun _ _ => (by repeat (first | exact At.head _ _ _ | apply At.tail)))) ?_
          rintro _ _ ⟨ad8, cp9, rfl, rfl⟩
          refine ⟨Fit.sub, ?_⟩
          refine D.r 12 rfl (Runs.fieldAddr fld71_1 rfl) ?_ (hJ := Fit.sub)
          refine D.step (rs := [9]) (by kernel_rfl) rfl rfl (all1 ?_)
          refine Step.eff rfl (Wanted.plain rfl) (Eff.call call159 rfl rfl (Set5_ok (lkOf e) e.tm)) ?_
          rintro _ _ ⟨_, _, ⟨rfl, rfl⟩, rfl, rfl⟩
          refine ⟨Fit.sub, ?_⟩
          refine D.step (rs := [10]) (by kernel_rfl) rfl rfl (all1 ?_)
          refine Step.eff rfl (Wanted.plain rfl) (Eff.bs (α := Ev) (cs := [I64 (1), I64 (e.tm), I64 ((lkOf e).u), I64 ((lkOf e).v), I64 ((lkOf e).w), I64 ((lkOf e).lb), I64 ((lkOf e).sg)]) (xs := [⟨1, e.tm, (lkOf e).u, (lkOf e).v, (lkOf e).w, (lkOf e).lb, (lkOf e).sg⟩]) Try.underlying81 ty122 rfl rfl (by decide) (by decide) rfl (by kernel_rfl) rfl rfl) ?_
          rintro _ _ ⟨ad10, rfl, rfl⟩
          refine ⟨Fit.sub, ?_⟩
          refine D.step (rs := [11]) (by kernel_rfl) rfl rfl (all1 ?_)
          refine Step.eff rfl (Wanted.plain rfl) (Eff.app (α := Ev) (e := 122) (xs := chg) (ys := ([⟨1, e.tm, (lkOf e).u, (lkOf e).v, (lkOf e).w, (lkOf e).lb, (lkOf e).sg⟩] : List Ev)) Try.underlying81 ty122 rfl rfl rfl (by repeat (first | exact List.mem_cons_self | apply List.mem_cons_of_mem)) Sl.o (by have hol3 := hA.len; first | (simp only [List.length_append, List.length_cons, List.length_nil]; omega) | (have hol4 := hA2.len; simp only [List.length_append, List.length_cons, List.length_nil]; omega)) (by decide) rfl (fun _ _ => (by repeat (first | exact At.head _ _ _ | apply At.tail)))) ?_
          rintro _ _ ⟨ad11, cp12, rfl, rfl⟩
          refine ⟨Fit.sub, ?_⟩
          refine D.step (rs := [13]) (by kernel_rfl) rfl rfl (all1 ?_)
          refine Step.eff rfl (Wanted.plain rfl) (Eff.st (cs := [_, _]) (vs := [_]) (cs' := [_, _]) ty69) ?_
          rintro _ _ ⟨rfl, rfl⟩
          refine ⟨Fit.sub, ?_⟩
          refine D.r 14 rfl (Runs.assign rfl) ?_ (hJ := Fit.sub)
          refine D.r 15 rfl (Runs.assign rfl) ?_ (hJ := Fit.sub)
          refine D.done (by kernel_rfl) ?_
          exact V.mid ((ad8), (cp9), (ad11), (cp12), (O ++ ([⟨(lkOf e).u, (lkOf e).v, (lkOf e).w, (lkOf e).lb, (lkOf e).sg, (lkOf e).tm⟩] : List Lk)), (chg ++ ([⟨1, e.tm, (lkOf e).u, (lkOf e).v, (lkOf e).w, (lkOf e).lb, (lkOf e).sg⟩] : List Ev)), (true)) (show (ApI xs e k (O ++ ([⟨(lkOf e).u, (lkOf e).v, (lkOf e).w, (lkOf e).lb, (lkOf e).sg, (lkOf e).tm⟩] : List Lk) : List Lk) (true : Bool)) ∧ ((!(true : Bool)) = true → ¬ Pt.lt (lkOf e).p (at_ xs ((k : Nat) : Int)).p) ∧ ((chg ++ ([⟨1, e.tm, (lkOf e).u, (lkOf e).v, (lkOf e).w, (lkOf e).lb, (lkOf e).sg⟩] : List Ev) : List Ev).length ≤ 2 * k + 1) from ⟨(by first | exact hA.ins hasc (by omega) g75 c81 | exact hA), (by intro h; first | exact absurd h (by decide) | exact c81 | (rw [h] at g75; cases g75)), (by first | omega | (simp only [List.length_append, List.length_cons, List.length_nil]; omega))⟩) (Sub.cons rfl (Sub.cons rfl (Sub.cons rfl (Sub.cons (lookV rfl (by first | rfl | simp)) (Sub.cons rfl (Sub.cons (lookV rfl (by first | rfl | simp)) (Sub.cons rfl (Sub.cons rfl (Sub.cons rfl (Sub.cons rfl Sub.nil)))))))))) (show Fit κ _ (blk b4 [I64 (nd), .slice (ad8) (O ++ ([⟨(lkOf e).u, (lkOf e).v, (lkOf e).w, (lkOf e).lb, (lkOf e).sg, (lkOf e).tm⟩] : List Lk)).length (cp9)] 71 :: vc 158 (.slice (ad8) (O ++ ([⟨(lkOf e).u, (lkOf e).v, (lkOf e).w, (lkOf e).lb, (lkOf e).sg, (lkOf e).tm⟩] : List Lk)).length (cp9)) ((O ++ ([⟨(lkOf e).u, (lkOf e).v, (lkOf e).w, (lkOf e).lb, (lkOf e).sg, (lkOf e).tm⟩] : List Lk))) :: vc 122 (.slice (ad11) (chg ++ ([⟨1, e.tm, (lkOf e).u, (lkOf e).v, (lkOf e).w, (lkOf e).lb, (lkOf e).sg⟩] : List Ev)).length (cp12)) ((chg ++ ([⟨1, e.tm, (lkOf e).u, (lkOf e).v, (lkOf e).w, (lkOf e).lb, (lkOf e).sg⟩] : List Ev))) :: blk b6 [I64 ((at_ xs ((k : Nat) : Int)).u), I64 ((at_ xs ((k : Nat) : Int)).v), I64 ((at_ xs ((k : Nat) : Int)).w), I64 ((at_ xs ((k : Nat) : Int)).lb), I64 ((at_ xs ((k : Nat) : Int)).sg), I64 ((at_ xs ((k : Nat) : Int)).tm)] 158 :: blk b5 [I64 ((lkOf e).u), I64 ((lkOf e).v), I64 ((lkOf e).w), I64 ((lkOf e).lb), I64 ((lkOf e).sg), I64 ((lkOf e).tm)] 158 :: blk b3 [I64 (0), .slice none 0 0] 71 :: blk b2 [I64 (e.kd), I64 (e.tm), I64 (e.u), I64 (e.v), I64 (e.w), I64 (e.lb), I64 (e.sg)] 122 :: blk b1 [I64 (nd), va] 71 :: I) from Fit.s)
         ·refine Step.eff rfl (Wanted.plain rfl) (Eff.bs (α := Lk) (cs := [I64 ((lkOf e).u), I64 ((lkOf e).v), I64 ((lkOf e).w), I64 ((lkOf e).lb), I64 ((lkOf e).sg), I64 ((lkOf e).tm)]) (xs := [⟨(lkOf e).u, (lkOf e).v, (lkOf e).w, (lkOf e).lb, (lkOf e).sg, (lkOf e).tm⟩]) Try.underlying69 ty158 rfl rfl (by decide) (by decide) rfl (by kernel_rfl) rfl rfl) ?_
          rintro _ _ ⟨ad13, rfl, rfl⟩
          refine ⟨Fit.sub, ?_⟩
          refine D.step (rs := [1]) (by kernel_rfl) rfl rfl (all1 ?_)
          refine Step.read rfl (Wanted.plain rfl) rfl rfl (Runs.ld ty69) Fit.sub ?_
          refine D.step (rs := [4]) (by kernel_rfl) rfl rfl (all1 ?_)
          refine Step.eff rfl (Wanted.plain rfl) (Eff.app (α := Lk) (e := 158) (xs := O) (ys := ([⟨(lkOf e).u, (lkOf e).v, (lkOf e).w, (lkOf e).lb, (lkOf e).sg, (lkOf e).tm⟩] : List Lk)) Try.underlying69 ty158 rfl rfl rfl (by repeat (first | exact List.mem_cons_self | apply List.mem_cons_of_mem)) Sl.o (by have hol3 := hA.len; first | (simp only [List.length_append, List.length_cons, List.length_nil]; omega) | (have hol4 := hA2.len; simp only [List.length_append, List.length_cons, List.length_nil]; omega)) (by decide) rfl (fun _ _ => (by repeat (first | exact At.head _ _ _ | apply At.tail)))) ?_
          rintro _ _ ⟨ad14, cp15, rfl, rfl⟩
          refine ⟨Fit.sub, ?_⟩
          refine D.r 12 rfl (Runs.fieldAddr fld71_1 rfl) ?_ (hJ := Fit.sub)
          refine D.step (rs := [9]) (by kernel_rfl) rfl rfl (all1 ?_)
          refine Step.eff rfl (Wanted.plain rfl) (Eff.call call159 rfl rfl (Set5_ok (lkOf e) e.tm)) ?_
          rintro _ _ ⟨_, _, ⟨rfl, rfl⟩, rfl, rfl⟩
          refine ⟨Fit.sub, ?_⟩
          refine D.step (rs := [10]) (by kernel_rfl) rfl rfl (all1 ?_)
          refine Step.eff rfl (Wanted.plain rfl) (Eff.bs (α := Ev) (cs := [I64 (1), I64 (e.tm), I64 ((lkOf e).u), I64 ((lkOf e).v), I64 ((lkOf e).w), I64 ((lkOf e).lb), I64 ((lkOf e).sg)]) (xs := [⟨1, e.tm, (lkOf e).u, (lkOf e).v, (lkOf e).w, (lkOf e).lb, (lkOf e).sg⟩]) Try.underlying81 ty122 rfl rfl (by decide) (by decide) rfl (by kernel_rfl) rfl rfl) ?_
          rintro _ _ ⟨ad16, rfl, rfl⟩
          refine ⟨Fit.sub, ?_⟩
          refine D.step (rs := [11]) (by kernel_rfl) rfl rfl (all1 ?_)
          refine Step.eff rfl (Wanted.plain rfl) (Eff.app (α := Ev) (e := 122) (xs := chg) (ys := ([⟨1, e.tm, (lkOf e).u, (lkOf e).v, (lkOf e).w, (lkOf e).lb, (lkOf e).sg⟩] : List Ev)) Try.underlying81 ty122 rfl rfl rfl (by repeat (first | exact List.mem_cons_self | apply List.mem_cons_of_mem)) Sl.o (by have hol3 := hA.len; first | (simp only [List.length_append, List.length_cons, List.length_nil]; omega) | (have hol4 := hA2.len; simp only [List.length_append, List.length_cons, List.length_nil]; omega)) (by decide) rfl (fun _ _ => (by repeat (first | exact At.head _ _ _ | apply At.tail)))) ?_
          rintro _ _ ⟨ad17, cp18, rfl, rfl⟩
          refine ⟨Fit.sub, ?_⟩
          refine D.step (rs := [13]) (by kernel_rfl) rfl rfl (all1 ?_)
          refine Step.eff rfl (Wanted.plain rfl) (Eff.st (cs := [_, _]) (vs := [_]) (cs' := [_, _]) ty69) ?_
          rintro _ _ ⟨rfl, rfl⟩
          refine ⟨Fit.sub, ?_⟩
          refine D.r 14 rfl (Runs.assign rfl) ?_ (hJ := Fit.sub)
          refine D.r 15 rfl (Runs.assign rfl) ?_ (hJ := Fit.sub)
          refine D.done (by kernel_rfl) ?_
          exact V.mid ((ad14), (cp15), (ad17), (cp18), (O ++ ([⟨(lkOf e).u, (lkOf e).v, (lkOf e).w, (lkOf e).lb, (lkOf e).sg, (lkOf e).tm⟩] : List Lk)), (chg ++ ([⟨1, e.tm, (lkOf e).u, (lkOf e).v, (lkOf e).w, (lkOf e).lb, (lkOf e).sg⟩] : List Ev)), (true)) (show (ApI xs e k (O ++ ([⟨(lkOf e).u, (lkOf e).v, (lkOf e).w, (lkOf e).lb, (lkOf e).sg, (lkOf e).tm⟩] : List Lk) : List Lk) (true : Bool)) ∧ ((!(true : Bool)) = true → ¬ Pt.lt (lkOf e).p (at_ xs ((k : Nat) : Int)).p) ∧ ((chg ++ ([⟨1, e.tm, (lkOf e).u, (lkOf e).v, (lkOf e).w, (lkOf e).lb, (lkOf e).sg⟩] : List Ev) : List Ev).length ≤ 2 * k + 1) from ⟨(by first | exact hA.ins hasc (by omega) g75 c81 | exact hA), (by intro h; first | exact absurd h (by decide) | exact c81 | (rw [h] at g75; cases g75)), (by first | omega | (simp only [List.length_append, List.length_cons, List.length_nil]; omega))⟩) (Sub.cons rfl (Sub.cons rfl (Sub.cons rfl (Sub.cons (lookV rfl (by first | rfl | simp)) (Sub.cons rfl (Sub.cons (lookV rfl (by first | rfl | simp)) (Sub.cons rfl (Sub.cons rfl (Sub.cons rfl (Sub.cons rfl Sub.nil)))))))))) (show Fit κ _ (blk b4 [I64 (nd), .slice (ad14) (O ++ ([⟨(lkOf e).u, (lkOf e).v, (lkOf e).w, (lkOf e).lb, (lkOf e).sg, (lkOf e).tm⟩] : List Lk)).length (cp15)] 71 :: vc 158 (.slice (ad14) (O ++ ([⟨(lkOf e).u, (lkOf e).v, (lkOf e).w, (lkOf e).lb, (lkOf e).sg, (lkOf e).tm⟩] : List Lk)).length (cp15)) ((O ++ ([⟨(lkOf e).u, (lkOf e).v, (lkOf e).w, (lkOf e).lb, (lkOf e).sg, (lkOf e).tm⟩] : List Lk))) :: vc 122 (.slice (ad17) (chg ++ ([⟨1, e.tm, (lkOf e).u, (lkOf e).v, (lkOf e).w, (lkOf e).lb, (lkOf e).sg⟩] : List Ev)).length (cp18)) ((chg ++ ([⟨1, e.tm, (lkOf e).u, (lkOf e).v, (lkOf e).w, (lkOf e).lb, (lkOf e).sg⟩] : List Ev))) :: blk b6 [I64 ((at_ xs ((k : Nat) : Int)).u), I64 ((at_ xs ((k : Nat) : Int)).v), I64 ((at_ xs ((k : Nat) : Int)).w), I64 ((at_ xs ((k : Nat) : Int)).lb), I64 ((at_ xs ((k : Nat) : Int)).sg), I64 ((at_ xs ((k : Nat) : Int)).tm)] 158 :: blk b5 [I64 ((lkOf e).u), I64 ((lkOf e).v), I64 ((lkOf e).w), I64 ((lkOf e).lb), I64 ((lkOf e).sg), I64 ((lkOf e).tm)] 158 :: blk b3 [I64 (0), .slice none 0 0] 71 :: blk b2 [I64 (e.kd), I64 (e.tm), I64 (e.u), I64 (e.v), I64 (e.w), I64 (e.lb), I64 (e.sg)] 122 :: blk b1 [I64 (nd), va] 71 :: I) from Fit.s)
        ·refine W.skip ?_
         exact V.mid ((a1), (c1), (a2), (c2), (O), (chg), (q)) (show (ApI xs e k (O : List Lk) (q : Bool)) ∧ ((!(q : Bool)) = true → ¬ Pt.lt (lkOf e).p (at_ xs ((k : Nat) : Int)).p) ∧ ((chg : List Ev).length ≤ 2 * k + 1) from ⟨(by first | exact hA.ins hasc (by omega) g75 c81 | exact hA), (by intro h; first | exact absurd h (by decide) | exact c81 | (rw [h] at g75; cases g75)), (by first | omega | (simp only [List.length_append, List.length_cons, List.length_nil]; omega))⟩) (Sub.cons rfl (Sub.cons rfl (Sub.cons rfl (Sub.cons (lookV rfl (by first | rfl | simp)) (Sub.cons rfl (Sub.cons (lookV rfl (by first | rfl | simp)) (Sub.cons rfl (Sub.cons rfl (Sub.cons rfl (Sub.cons rfl Sub.nil)))))))))) (show Fit κ _ (blk b4 [I64 (nd), .slice (a1) (O).length (c1)] 71 :: vc 158 (.slice (a1) (O).length (c1)) ((O)) :: vc 122 (.slice (a2) (chg).length (c2)) ((chg)) :: blk b6 [I64 ((at_ xs ((k : Nat) : Int)).u), I64 ((at_ xs ((k : Nat) : Int)).v), I64 ((at_ xs ((k : Nat) : Int)).w), I64 ((at_ xs ((k : Nat) : Int)).lb), I64 ((at_ xs ((k : Nat) : Int)).sg), I64 ((at_ xs ((k : Nat) : Int)).tm)] 158 :: blk b5 [I64 ((lkOf e).u), I64 ((lkOf e).v), I64 ((lkOf e).w), I64 ((lkOf e).lb), I64 ((lkOf e).sg), I64 ((lkOf e).tm)] 158 :: blk b3 [I64 (0), .slice none 0 0] 71 :: blk b2 [I64 (e.kd), I64 (e.tm), I64 (e.u), I64 (e.v), I64 (e.w), I64 (e.lb), I64 (e.sg)] 122 :: blk b1 [I64 (nd), va] 71 :: I) from Fit.s)
       ·refine D.pass 3 rfl (by kernel_rfl) (by kernel_rfl) (by kernel_rfl) rfl (by kernel_rfl) (fun _ _ _ _ h => h) (Unwanted.off rfl rfl rfl) rfl rfl Fit.sub ?_
        refine D.pass 5 rfl (by kernel_rfl) (by kernel_rfl) (by kernel_rfl) rfl (by kernel_rfl) (fun _ _ _ _ h => h) (Unwanted.off rfl rfl rfl) rfl rfl Fit.sub ?_
        refine D.pass 4 rfl (by kernel_rfl) (by kernel_rfl) (by kernel_rfl) rfl (by kernel_rfl) (fun _ _ _ _ h => h) (Unwanted.off rfl rfl rfl) rfl rfl Fit.sub ?_
        refine D.pass 6 rfl (by kernel_rfl) (by kernel_rfl) (by kernel_rfl) rfl (by kernel_rfl) (fun _ _ _ _ h => h) (Unwanted.off rfl rfl rfl) rfl rfl Fit.sub ?_
        refine D.pass 7 rfl (by kernel_rfl) (by kernel_rfl) (by kernel_rfl) rfl (by kernel_rfl) (fun _ _ _ _ h => h) (Unwanted.off rfl rfl rfl) rfl rfl Fit.sub ?_
        refine D.r 8 rfl (Runs.pickf rfl rfl) ?_ (hJ := Fit.sub)
        refine D.done (by kernel_rfl) ?_
        refine V.then ?_
        refine W.sub (L' := [(81, _), (14, _), (3, _), (4, _), (9, _), (10, _), (11, _), (12, _), (67, _), (68, _), (69, _)]) (Sub.cons rfl (Sub.cons rfl (Sub.cons rfl (Sub.cons rfl (Sub.cons rfl (Sub.cons rfl (Sub.cons rfl (Sub.cons rfl (Sub.cons rfl (Sub.cons rfl (Sub.cons rfl Sub.nil))))))))))) ?_
        refine W.no rfl ?_
        refine W.skip ?_
        exact V.mid ((a1), (c1), (a2), (c2), (O), (chg), (q)) (show (ApI xs e k (O : List Lk) (q : Bool)) ∧ ((!(q : Bool)) = true → ¬ Pt.lt (lkOf e).p (at_ xs ((k : Nat) : Int)).p) ∧ ((chg : List Ev).length ≤ 2 * k + 1) from ⟨(by first | exact hA.ins hasc (by omega) g75 c81 | exact hA), (by intro h; first | exact absurd h (by decide) | exact c81 | (rw [h] at g75; cases g75)), (by first | omega | (simp only [List.length_append, List.length_cons, List.length_nil]; omega))⟩) (Sub.cons rfl (Sub.cons rfl (Sub.cons rfl (Sub.cons (lookV rfl (by first | rfl | simp)) (Sub.cons rfl (Sub.cons (lookV rfl (by first | rfl | simp)) (Sub.cons rfl (Sub.cons rfl (Sub.cons rfl (Sub.cons rfl Sub.nil)))))))))) (show Fit κ _ (blk b4 [I64 (nd), .slice (a1) (O).length (c1)] 71 :: vc 158 (.slice (a1) (O).length (c1)) ((O)) :: vc 122 (.slice (a2) (chg).length (c2)) ((chg)) :: blk b6 [I64 ((at_ xs ((k : Nat) : Int)).u), I64 ((at_ xs ((k : Nat) : Int)).v), I64 ((at_ xs ((k : Nat) : Int)).w), I64 ((at_ xs ((k : Nat) : Int)).lb), I64 ((at_ xs ((k : Nat) : Int)).sg), I64 ((at_ xs ((k : Nat) : Int)).tm)] 158 :: blk b5 [I64 ((lkOf e).u), I64 ((lkOf e).v), I64 ((lkOf e).w), I64 ((lkOf e).lb), I64 ((lkOf e).sg), I64 ((lkOf e).tm)] 158 :: blk b3 [I64 (0), .slice none 0 0] 71 :: blk b2 [I64 (e.kd), I64 (e.tm), I64 (e.u), I64 (e.v), I64 (e.w), I64 (e.lb), I64 (e.sg)] 122 :: blk b1 [I64 (nd), va] 71 :: I) from Fit.s)
      ·rintro ⟨a3, c3, a4, c4, O2, chg2, q2⟩ hp
       obtain ⟨hA2, hM, hc2⟩ : (ApI xs e k O2 q2) ∧ ((!q2) = true → ¬ Pt.lt (lkOf e).p (at_ xs ((k : Nat) : Int)).p) ∧ (chg2.length ≤ 2 * k + 1) := hp
       show W Try.prog κ 180 _ _ ([(3, .pointer (some ⟨b2, 0, none⟩)), (4, .pointer (some ⟨b3, 0, none⟩)), (9, .pointer (some ⟨b4, 0, none⟩)), (10, .slice a4 chg2.length c4), (11, .pointer (some ⟨b5, 0, none⟩)), (12, .bool (q2)), (14, .pointer (some ⟨b6, 0, none⟩)), (67, va), (68, I64 (((xs.length : Nat) : Int))), (69, I64 (((k : Nat) : Int)))] : Env) (blk b4 [I64 (nd), .slice a3 O2.length c3] 71 :: vc 158 (.slice a3 O2.length c3) (O2) :: vc 122 (.slice a4 chg2.length c4) (chg2) :: blk b6 [I64 ((at_ xs ((k : Nat) : Int)).u), I64 ((at_ xs ((k : Nat) : Int)).v), I64 ((at_ xs ((k : Nat) : Int)).w), I64 ((at_ xs ((k : Nat) : Int)).lb), I64 ((at_ xs ((k : Nat) : Int)).sg), I64 ((at_ xs ((k : Nat) : Int)).tm)] 158 :: blk b5 [I64 ((lkOf e).u), I64 ((lkOf e).v), I64 ((lkOf e).w), I64 ((lkOf e).lb), I64 ((lkOf e).sg), I64 ((lkOf e).tm)] 158 :: blk b3 [I64 (0), .slice none 0 0] 71 :: blk b2 [I64 (e.kd), I64 (e.tm), I64 (e.u), I64 (e.v), I64 (e.w), I64 (e.lb), I64 (e.sg)] 122 :: blk b1 [I64 (nd), va] 71 :: I)
       refine W.seq ?_
       refine W.drawn mixed ?_
       refine A.hold (blk b4 [I64 (nd), .slice a3 O2.length c3] 71 :: vc 158 (.slice a3 O2.length c3) (O2) :: vc 122 (.slice a4 chg2.length c4) (chg2) :: blk b6 [I64 ((at_ xs ((k : Nat) : Int)).u), I64 ((at_ xs ((k : Nat) : Int)).v), I64 ((at_ xs ((k : Nat) : Int)).w), I64 ((at_ xs ((k : Nat) : Int)).lb), I64 ((at_ xs ((k : Nat) : Int)).sg), I64 ((at_ xs ((k : Nat) : Int)).tm)] 158 :: blk b5 [I64 ((lkOf e).u), I64 ((lkOf e).v), I64 ((lkOf e).w), I64 ((lkOf e).lb), I64 ((lkOf e).sg), I64 ((lkOf e).tm)] 158 :: blk b3 [I64 (0), .slice none 0 0] 71 :: blk b2 [I64 (e.kd), I64 (e.tm), I64 (e.u), I64 (e.v), I64 (e.w), I64 (e.lb), I64 (e.sg)] 122 :: blk b1 [I64 (nd), va] 71 :: I) 6 ?_
       refine D.r 0 rfl (Runs.lds (vs := [_, _, _, _, _, _]) ty158) ?_ (hJ := Fit.sub)
       refine D.r 2 rfl (Runs.lds (vs := [_, _, _, _, _, _]) ty158) ?_ (hJ := Fit.sub)
       refine D.step (rs := [1]) (by kernel_rfl) rfl rfl (all1 ?_)
       refine Step.eff rfl (Wanted.plain rfl) (Eff.call call158 rfl rfl (Edge5_ok (at_ xs ((k : Nat) : Int)))) ?_
       rintro _ _ ⟨_, _, ⟨rfl, rfl⟩, rfl, rfl⟩
       refine ⟨Fit.sub, ?_⟩
       refine D.step (rs := [3]) (by kernel_rfl) rfl rfl (all1 ?_)
       refine Step.eff rfl (Wanted.plain rfl) (Eff.call call158 rfl rfl (Edge5_ok (lkOf e))) ?_
       rintro _ _ ⟨_, _, ⟨rfl, rfl⟩, rfl, rfl⟩
       refine ⟨Fit.sub, ?_⟩
       refine D.r 4 rfl (Runs.eqlT (α := Pt) (a := (at_ xs ((k : Nat) : Int)).p) (b := (lkOf e).p) eqt150 rfl rfl) ?_ (hJ := Fit.sub)
       refine D.r 5 rfl (Runs.assign rfl) ?_ (hJ := Fit.sub)
       refine D.done (by kernel_rfl) ?_
       refine V.then ?_
       refine W.sub (L' := [(15, _), (3, _), (4, _), (9, _), (10, _), (11, _), (12, _), (14, _), (67, _), (68, _), (69, _)]) (Sub.cons rfl (Sub.cons rfl (Sub.cons rfl (Sub.cons rfl (Sub.cons rfl (Sub.cons rfl (Sub.cons rfl (Sub.cons rfl (Sub.cons rfl (Sub.cons rfl (Sub.cons rfl Sub.nil))))))))))) ?_
       refine W.block ?_
       refine W.cut (σ := Bool) (fun s => ([(3, .pointer (some ⟨b2, 0, none⟩)), (4, .pointer (some ⟨b3, 0, none⟩)), (9, .pointer (some ⟨b4, 0, none⟩)), (10, .slice a4 chg2.length c4), (11, .pointer (some ⟨b5, 0, none⟩)), (12, .bool (q2)), (14, .pointer (some ⟨b6, 0, none⟩)), (15, .bool (decide (((at_ xs ((k : Nat) : Int)).p) = ((lkOf e).p)))), (67, va), (68, I64 (((xs.length : Nat) : Int))), (69, I64 (((k : Nat) : Int))), (106, .bool (s))] : Env)) (fun s => blk b4 [I64 (nd), .slice a3 O2.length c3] 71 :: vc 158 (.slice a3 O2.length c3) (O2) :: vc 122 (.slice a4 chg2.length c4) (chg2) :: blk b6 [I64 ((at_ xs ((k : Nat) : Int)).u), I64 ((at_ xs ((k : Nat) : Int)).v), I64 ((at_ xs ((k : Nat) : Int)).w), I64 ((at_ xs ((k : Nat) : Int)).lb), I64 ((at_ xs ((k : Nat) : Int)).sg), I64 ((at_ xs ((k : Nat) : Int)).tm)] 158 :: blk b5 [I64 ((lkOf e).u), I64 ((lkOf e).v), I64 ((lkOf e).w), I64 ((lkOf e).lb), I64 ((lkOf e).sg), I64 ((lkOf e).tm)] 158 :: blk b3 [I64 (0), .slice none 0 0] 71 :: blk b2 [I64 (e.kd), I64 (e.tm), I64 (e.u), I64 (e.v), I64 (e.w), I64 (e.lb), I64 (e.sg)] 122 :: blk b1 [I64 (nd), va] 71 :: I) (fun s => (s = decide (e.kd = 1 ∧ (at_ xs ((k : Nat) : Int)).p = (lkOf e).p))) ?_ ?_
       ·refine W.region ?_
        refine G.r (Runs.fieldAddr fld122_0 rfl) ?_
        refine G.r (Runs.ld ty3) ?_
        refine G.r (Runs.eql rfl rfl) ?_
        refine G.r (Runs.move rfl) ?_
        refine G.split (d := 110) rfl (fun g110 => ?_) (fun g110 => ?_)
        ·refine G.ro (Runs.move rfl) ?_
         refine G.r (Runs.pickt rfl rfl) ?_
         refine G.r (Runs.assign rfl) ?_
         refine G.nil ?_
         exact V.mid ((decide (((at_ xs ((k : Nat) : Int)).p) = ((lkOf e).p)))) (show ((decide (((at_ xs ((k : Nat) : Int)).p) = ((lkOf e).p)) : Bool) = decide (e.kd = 1 ∧ (at_ xs ((k : Nat) : Int)).p = (lkOf e).p)) from (by first | exact decide_eq_decide.2 ⟨fun h => ⟨by omega, h⟩, fun h => h.2⟩ | exact (decide_eq_false (fun h => by omega)).symm)) (Sub.cons rfl (Sub.cons rfl (Sub.cons rfl (Sub.cons rfl (Sub.cons rfl (Sub.cons rfl (Sub.cons rfl (Sub.cons rfl (Sub.cons rfl (Sub.cons rfl (Sub.cons rfl (Sub.cons (lookV rfl (by first | rfl | simp)) Sub.nil)))))))))))) (show Fit κ _ (blk b4 [I64 (nd), .slice a3 O2.length c3] 71 :: vc 158 (.slice a3 O2.length c3) (O2) :: vc 122 (.slice a4 chg2.length c4) (chg2) :: blk b6 [I64 ((at_ xs ((k : Nat) : Int)).u), I64 ((at_ xs ((k : Nat) : Int)).v), I64 ((at_ xs ((k : Nat) : Int)).w), I64 ((at_ xs ((k : Nat) : Int)).lb), I64 ((at_ xs ((k : Nat) : Int)).sg), I64 ((at_ xs ((k : Nat) : Int)).tm)] 158 :: blk b5 [I64 ((lkOf e).u), I64 ((lkOf e).v), I64 ((lkOf e).w), I64 ((lkOf e).lb), I64 ((lkOf e).sg), I64 ((lkOf e).tm)] 158 :: blk b3 [I64 (0), .slice none 0 0] 71 :: blk b2 [I64 (e.kd), I64 (e.tm), I64 (e.u), I64 (e.v), I64 (e.w), I64 (e.lb), I64 (e.sg)] 122 :: blk b1 [I64 (nd), va] 71 :: I) from (Fit.refl _))
        ·refine G.po ?_
         refine G.r (Runs.pickf rfl rfl) ?_
         refine G.r (Runs.assign rfl) ?_
         refine G.nil ?_
         exact V.mid ((false)) (show ((false : Bool) = decide (e.kd = 1 ∧ (at_ xs ((k : Nat) : Int)).p = (lkOf e).p)) from (by first | exact decide_eq_decide.2 ⟨fun h => ⟨by omega, h⟩, fun h => h.2⟩ | exact (decide_eq_false (fun h => by omega)).symm)) (Sub.cons rfl (Sub.cons rfl (Sub.cons rfl (Sub.cons rfl (Sub.cons rfl (Sub.cons rfl (Sub.cons rfl (Sub.cons rfl (Sub.cons rfl (Sub.cons rfl (Sub.cons rfl (Sub.cons (lookV rfl (by first | rfl | simp)) Sub.nil)))))))))))) (show Fit κ _ (blk b4 [I64 (nd), .slice a3 O2.length c3] 71 :: vc 158 (.slice a3 O2.length c3) (O2) :: vc 122 (.slice a4 chg2.length c4) (chg2) :: blk b6 [I64 ((at_ xs ((k : Nat) : Int)).u), I64 ((at_ xs ((k : Nat) : Int)).v), I64 ((at_ xs ((k : Nat) : Int)).w), I64 ((at_ xs ((k : Nat) : Int)).lb), I64 ((at_ xs ((k : Nat) : Int)).sg), I64 ((at_ xs ((k : Nat) : Int)).tm)] 158 :: blk b5 [I64 ((lkOf e).u), I64 ((lkOf e).v), I64 ((lkOf e).w), I64 ((lkOf e).lb), I64 ((lkOf e).sg), I64 ((lkOf e).tm)] 158 :: blk b3 [I64 (0), .slice none 0 0] 71 :: blk b2 [I64 (e.kd), I64 (e.tm), I64 (e.u), I64 (e.v), I64 (e.w), I64 (e.lb), I64 (e.sg)] 122 :: blk b1 [I64 (nd), va] 71 :: I) from (Fit.refl _))
       ·rintro y hp
        have hy : (y = decide (e.kd = 1 ∧ (at_ xs ((k : Nat) : Int)).p = (lkOf e).p)) := hp
        show W Try.prog κ 180 _ _ ([(3, .pointer (some ⟨b2, 0, none⟩)), (4, .pointer (some ⟨b3, 0, none⟩)), (9, .pointer (some ⟨b4, 0, none⟩)), (10, .slice a4 chg2.length c4), (11, .pointer (some ⟨b5, 0, none⟩)), (12, .bool (q2)), (14, .pointer (some ⟨b6, 0, none⟩)), (15, .bool (decide (((at_ xs ((k : Nat) : Int)).p) = ((lkOf e).p)))), (67, va), (68, I64 (((xs.length : Nat) : Int))), (69, I64 (((k : Nat) : Int))), (106, .bool (y))] : Env) (blk b4 [I64 (nd), .slice a3 O2.length c3] 71 :: vc 158 (.slice a3 O2.length c3) (O2) :: vc 122 (.slice a4 chg2.length c4) (chg2) :: blk b6 [I64 ((at_ xs ((k : Nat) : Int)).u), I64 ((at_ xs ((k : Nat) : Int)).v), I64 ((at_ xs ((k : Nat) : Int)).w), I64 ((at_ xs ((k : Nat) : Int)).lb), I64 ((at_ xs ((k : Nat) : Int)).sg), I64 ((at_ xs ((k : Nat) : Int)).tm)] 158 :: blk b5 [I64 ((lkOf e).u), I64 ((lkOf e).v), I64 ((lkOf e).w), I64 ((lkOf e).lb), I64 ((lkOf e).sg), I64 ((lkOf e).tm)] 158 :: blk b3 [I64 (0), .slice none 0 0] 71 :: blk b2 [I64 (e.kd), I64 (e.tm), I64 (e.u), I64 (e.v), I64 (e.w), I64 (e.lb), I64 (e.sg)] 122 :: blk b1 [I64 (nd), va] 71 :: I)
        refine W.cond rfl (fun c106 => ?_) (fun c106 => ?_)
        ·refine W.seq ?_
         refine W.sr ?_
         refine G.r (Runs.lds (vs := [_, _, _, _, _, _]) ty158) ?_
         refine G.r (Runs.lds (vs := [_, _, _, _, _, _]) ty158) ?_
         refine G.r (Runs.neqT (α := Lk) (a := (at_ xs ((k : Nat) : Int))) (b := (lkOf e)) eqt158 rfl rfl) ?_
         refine G.nt ?_
         refine W.sub (L' := [(115, _), (3, _), (4, _), (9, _), (10, _), (11, _), (67, _), (68, _), (69, _)]) (Sub.cons rfl (Sub.cons rfl (Sub.cons rfl (Sub.cons rfl (Sub.cons rfl (Sub.cons rfl (Sub.cons rfl (Sub.cons rfl (Sub.cons rfl Sub.nil))))))))) ?_
         refine W.ite rfl (fun c115 => ?_) (fun c115 => ?_)
         ·refine W.region ?_
          refine G.r (Runs.move rfl) ?_
          refine G.r (Runs.lds (vs := [_, _, _, _, _, _]) ty158) ?_
          refine G.r (Runs.fieldAddr fld122_1 rfl) ?_
          refine G.r (Runs.ld ty3) ?_
          refine G.e (Eff.call call159 rfl rfl (Set5_ok (lkOf e) e.tm)) ?_
          rintro _ _ ⟨_, _, ⟨rfl, rfl⟩, rfl, rfl⟩
          refine G.e (Eff.bs (α := Ev) (cs := [I64 (1), I64 (e.tm), I64 ((lkOf e).u), I64 ((lkOf e).v), I64 ((lkOf e).w), I64 ((lkOf e).lb), I64 ((lkOf e).sg)]) (xs := [⟨1, e.tm, (lkOf e).u, (lkOf e).v, (lkOf e).w, (lkOf e).lb, (lkOf e).sg⟩]) Try.underlying81 ty122 rfl rfl (by decide) (by decide) rfl (by kernel_rfl) rfl rfl) ?_
          rintro _ _ ⟨ad19, rfl, rfl⟩
          refine G.e (Eff.app (α := Ev) (e := 122) (xs := chg2) (ys := ([⟨1, e.tm, (lkOf e).u, (lkOf e).v, (lkOf e).w, (lkOf e).lb, (lkOf e).sg⟩] : List Ev)) Try.underlying81 ty122 rfl rfl rfl (by repeat (first | exact List.mem_cons_self | apply List.mem_cons_of_mem)) Sl.o (by have hol3 := hA.len; first | (simp only [List.length_append, List.length_cons, List.length_nil]; omega) | (have hol4 := hA2.len; simp only [List.length_append, List.length_cons, List.length_nil]; omega)) (by decide) rfl (fun _ _ => (by repeat (first | exact At.head _ _ _ | apply At.tail)))) ?_
          rintro _ _ ⟨ad20, cp21, rfl, rfl⟩
          refine G.r (Runs.assign rfl) ?_
          refine G.nt ?_
          refine W.sub (L' := [(10, _), (3, _), (4, _), (9, _), (11, _), (67, _), (68, _), (69, _)]) (Sub.cons rfl (Sub.cons rfl (Sub.cons rfl (Sub.cons rfl (Sub.cons rfl (Sub.cons rfl (Sub.cons rfl (Sub.cons rfl Sub.nil)))))))) ?_
          refine W.region ?_
          refine G.r (Runs.fieldAddr fld71_1 rfl) ?_
          refine G.r (Runs.ld ty69) ?_
          refine G.r (Runs.lds (vs := [_, _, _, _, _, _]) ty158) ?_
          refine G.e (Eff.bs (α := Lk) (cs := [I64 ((lkOf e).u), I64 ((lkOf e).v), I64 ((lkOf e).w), I64 ((lkOf e).lb), I64 ((lkOf e).sg), I64 ((lkOf e).tm)]) (xs := [⟨(lkOf e).u, (lkOf e).v, (lkOf e).w, (lkOf e).lb, (lkOf e).sg, (lkOf e).tm⟩]) Try.underlying69 ty158 rfl rfl (by decide) (by decide) rfl (by kernel_rfl) rfl rfl) ?_
          rintro _ _ ⟨ad22, rfl, rfl⟩
          refine G.e (Eff.app (α := Lk) (e := 158) (xs := O2) (ys := ([⟨(lkOf e).u, (lkOf e).v, (lkOf e).w, (lkOf e).lb, (lkOf e).sg, (lkOf e).tm⟩] : List Lk)) Try.underlying69 ty158 rfl rfl rfl (by repeat (first | exact List.mem_cons_self | apply List.mem_cons_of_mem)) Sl.o (by have hol3 := hA.len; first | (simp only [List.length_append, List.length_cons, List.length_nil]; omega) | (have hol4 := hA2.len; simp only [List.length_append, List.length_cons, List.length_nil]; omega)) (by decide) rfl (fun _ _ => (by repeat (first | exact At.head _ _ _ | apply At.tail)))) ?_
          rintro _ _ ⟨ad23, cp24, rfl, rfl⟩
          refine G.r (Runs.fieldAddr fld71_1 rfl) ?_
          refine G.e (Eff.st (cs := [_, _]) (vs := [_]) (cs' := [_, _]) ty69) ?_
          rintro _ _ ⟨rfl, rfl⟩
          refine G.r (Runs.assign rfl) ?_
          refine G.nil ?_
          refine V.block_normal ?_
          refine V.block_normal ?_
          refine V.then ?_
          refine W.sub (L' := [(12, _), (10, _), (3, _), (4, _), (9, _), (11, _), (67, _), (68, _), (69, _)]) (Sub.cons rfl (Sub.cons rfl (Sub.cons rfl (Sub.cons rfl (Sub.cons rfl (Sub.cons rfl (Sub.cons rfl (Sub.cons rfl (Sub.cons rfl Sub.nil))))))))) ?_
          refine W.region ?_
          refine G.r (Runs.add rfl rfl (by unfold InR; omega)) ?_
          refine G.r (Runs.move rfl) ?_
          refine G.nil ?_
          exact V.next ((k + 1), (ad23), (cp24), (ad20), (cp21), (O2 ++ ([⟨(lkOf e).u, (lkOf e).v, (lkOf e).w, (lkOf e).lb, (lkOf e).sg, (lkOf e).tm⟩] : List Lk)), (chg2 ++ ([⟨1, e.tm, (lkOf e).u, (lkOf e).v, (lkOf e).w, (lkOf e).lb, (lkOf e).sg⟩] : List Ev)), (true)) (show ((k + 1 : Nat) ≤ xs.length) ∧ (ApI xs e (k + 1 : Nat) (O2 ++ ([⟨(lkOf e).u, (lkOf e).v, (lkOf e).w, (lkOf e).lb, (lkOf e).sg, (lkOf e).tm⟩] : List Lk) : List Lk) (true : Bool)) ∧ ((chg2 ++ ([⟨1, e.tm, (lkOf e).u, (lkOf e).v, (lkOf e).w, (lkOf e).lb, (lkOf e).sg⟩] : List Ev) : List Ev).length ≤ 2 * (k + 1 : Nat)) from ⟨(by omega), (by first | exact hA2.hit hasc (by omega) (of_decide_eq_true (hy.symm.trans c106)).1 (of_decide_eq_true (hy.symm.trans c106)).2 | exact hA2.drop (by omega) (of_decide_eq_true (hz.symm.trans c129)).1 (of_decide_eq_true (hz.symm.trans c129)).2 | exact hA2.keep hasc (by omega) hM (fun h1 h2 => of_decide_eq_false (hy.symm.trans c106) ⟨h1, h2⟩) (fun h1 => Classical.byContradiction fun hh => of_decide_eq_false (hz.symm.trans c129) ⟨h1, by simpa using hh⟩)), (by first | omega | (simp only [List.length_append, List.length_cons, List.length_nil]; omega))⟩) (show xs.length - (k + 1 : Nat) < xs.length - k from (by omega)) (Sub.cons rfl (Sub.cons rfl (Sub.cons rfl (Sub.cons (lookV rfl (by first | rfl | simp)) (Sub.cons rfl (Sub.cons (lookV rfl (by first | rfl | simp)) (Sub.cons rfl (Sub.cons rfl (Sub.cons lookO Sub.nil))))))))) (show Fit κ _ (blk b4 [I64 (nd), .slice (ad23) (O2 ++ ([⟨(lkOf e).u, (lkOf e).v, (lkOf e).w, (lkOf e).lb, (lkOf e).sg, (lkOf e).tm⟩] : List Lk)).length (cp24)] 71 :: vc 158 (.slice (ad23) (O2 ++ ([⟨(lkOf e).u, (lkOf e).v, (lkOf e).w, (lkOf e).lb, (lkOf e).sg, (lkOf e).tm⟩] : List Lk)).length (cp24)) ((O2 ++ ([⟨(lkOf e).u, (lkOf e).v, (lkOf e).w, (lkOf e).lb, (lkOf e).sg, (lkOf e).tm⟩] : List Lk))) :: vc 122 (.slice (ad20) (chg2 ++ ([⟨1, e.tm, (lkOf e).u, (lkOf e).v, (lkOf e).w, (lkOf e).lb, (lkOf e).sg⟩] : List Ev)).length (cp21)) ((chg2 ++ ([⟨1, e.tm, (lkOf e).u, (lkOf e).v, (lkOf e).w, (lkOf e).lb, (lkOf e).sg⟩] : List Ev))) :: blk b5 [I64 ((lkOf e).u), I64 ((lkOf e).v), I64 ((lkOf e).w), I64 ((lkOf e).lb), I64 ((lkOf e).sg), I64 ((lkOf e).tm)] 158 :: blk b3 [I64 (0), .slice none 0 0] 71 :: blk b2 [I64 (e.kd), I64 (e.tm), I64 (e.u), I64 (e.v), I64 (e.w), I64 (e.lb), I64 (e.sg)] 122 :: blk b1 [I64 (nd), va] 71 :: I) from Fit.s)
         ·refine W.skip ?_
          refine V.then ?_
          refine W.region ?_
          refine G.r (Runs.fieldAddr fld71_1 rfl) ?_
          refine G.r (Runs.ld ty69) ?_
          refine G.r (Runs.lds (vs := [_, _, _, _, _, _]) ty158) ?_
          refine G.e (Eff.bs (α := Lk) (cs := [I64 ((lkOf e).u), I64 ((lkOf e).v), I64 ((lkOf e).w), I64 ((lkOf e).lb), I64 ((lkOf e).sg), I64 ((lkOf e).tm)]) (xs := [⟨(lkOf e).u, (lkOf e).v, (lkOf e).w, (lkOf e).lb, (lkOf e).sg, (lkOf e).tm⟩]) Try.underlying69 ty158 rfl rfl (by decide) (by decide) rfl (by kernel_rfl) rfl rfl) ?_
          rintro _ _ ⟨ad25, rfl, rfl⟩
          refine G.e (Eff.app (α := Lk) (e := 158) (xs := O2) (ys := ([⟨(lkOf e).u, (lkOf e).v, (lkOf e).w, (lkOf e).lb, (lkOf e).sg, (lkOf e).tm⟩] : List Lk)) Try.underlying69 ty158 rfl rfl rfl (by repeat (first | exact List.mem_cons_self | apply List.mem_cons_of_mem)) Sl.o (by have hol3 := hA.len; first | (simp only [List.length_append, List.length_cons, List.length_nil]; omega) | (have hol4 := hA2.len; simp only [List.length_append, List.length_cons, List.length_nil]; omega)) (by decide) rfl (fun _ _ => (by repeat (first | exact At.head _ _ _ | apply At.tail)))) ?_
          rintro _ _ ⟨ad26, cp27, rfl, rfl⟩
          refine G.r (Runs.fieldAddr fld71_1 rfl) ?_
          refine G.e (Eff.st (cs := [_, _]) (vs := [_]) (cs' := [_, _]) ty69) ?_
          rintro _ _ ⟨rfl, rfl⟩
          refine G.r (Runs.assign rfl) ?_
          refine G.nil ?_
          refine V.block_normal ?_
          refine V.block_normal ?_
          refine V.then ?_
          refine W.sub (L' := [(12, _), (3, _), (4, _), (9, _), (10, _), (11, _), (67, _), (68, _), (69, _)]) (Sub.cons rfl (Sub.cons rfl (Sub.cons rfl (Sub.cons rfl (Sub.cons rfl (Sub.cons rfl (Sub.cons rfl (Sub.cons rfl (Sub.cons rfl Sub.nil))))))))) ?_
          refine W.region ?_
          refine G.r (Runs.add rfl rfl (by unfold InR; omega)) ?_
          refine G.r (Runs.move rfl) ?_
          refine G.nil ?_
          exact V.next ((k + 1), (ad26), (cp27), (a4), (c4), (O2 ++ ([⟨(lkOf e).u, (lkOf e).v, (lkOf e).w, (lkOf e).lb, (lkOf e).sg, (lkOf e).tm⟩] : List Lk)), (chg2), (true)) (show ((k + 1 : Nat) ≤ xs.length) ∧ (ApI xs e (k + 1 : Nat) (O2 ++ ([⟨(lkOf e).u, (lkOf e).v, (lkOf e).w, (lkOf e).lb, (lkOf e).sg, (lkOf e).tm⟩] : List Lk) : List Lk) (true : Bool)) ∧ ((chg2 : List Ev).length ≤ 2 * (k + 1 : Nat)) from ⟨(by omega), (by first | exact hA2.hit hasc (by omega) (of_decide_eq_true (hy.symm.trans c106)).1 (of_decide_eq_true (hy.symm.trans c106)).2 | exact hA2.drop (by omega) (of_decide_eq_true (hz.symm.trans c129)).1 (of_decide_eq_true (hz.symm.trans c129)).2 | exact hA2.keep hasc (by omega) hM (fun h1 h2 => of_decide_eq_false (hy.symm.trans c106) ⟨h1, h2⟩) (fun h1 => Classical.byContradiction fun hh => of_decide_eq_false (hz.symm.trans c129) ⟨h1, by simpa using hh⟩)), (by first | omega | (simp only [List.length_append, List.length_cons, List.length_nil]; omega))⟩) (show xs.length - (k + 1 : Nat) < xs.length - k from (by omega)) (Sub.cons rfl (Sub.cons rfl (Sub.cons rfl (Sub.cons (lookV rfl (by first | rfl | simp)) (Sub.cons rfl (Sub.cons (lookV rfl (by first | rfl | simp)) (Sub.cons rfl (Sub.cons rfl (Sub.cons lookO Sub.nil))))))))) (show Fit κ _ (blk b4 [I64 (nd), .slice (ad26) (O2 ++ ([⟨(lkOf e).u, (lkOf e).v, (lkOf e).w, (lkOf e).lb, (lkOf e).sg, (lkOf e).tm⟩] : List Lk)).length (cp27)] 71 :: vc 158 (.slice (ad26) (O2 ++ ([⟨(lkOf e).u, (lkOf e).v, (lkOf e).w, (lkOf e).lb, (lkOf e).sg, (lkOf e).tm⟩] : List Lk)).length (cp27)) ((O2 ++ ([⟨(lkOf e).u, (lkOf e).v, (lkOf e).w, (lkOf e).lb, (lkOf e).sg, (lkOf e).tm⟩] : List Lk))) :: vc 122 (.slice (a4) (chg2).length (c4)) ((chg2)) :: blk b5 [I64 ((lkOf e).u), I64 ((lkOf e).v), I64 ((lkOf e).w), I64 ((lkOf e).lb), I64 ((lkOf e).sg), I64 ((lkOf e).tm)] 158 :: blk b3 [I64 (0), .slice none 0 0] 71 :: blk b2 [I64 (e.kd), I64 (e.tm), I64 (e.u), I64 (e.v), I64 (e.w), I64 (e.lb), I64 (e.sg)] 122 :: blk b1 [I64 (nd), va] 71 :: I) from Fit.s)
        ·refine W.cut (σ := Bool) (fun s => ([(3, .pointer (some ⟨b2, 0, none⟩)), (4, .pointer (some ⟨b3, 0, none⟩)), (9, .pointer (some ⟨b4, 0, none⟩)), (10, .slice a4 chg2.length c4), (11, .pointer (some ⟨b5, 0, none⟩)), (12, .bool (q2)), (14, .pointer (some ⟨b6, 0, none⟩)), (67, va), (68, I64 (((xs.length : Nat) : Int))), (69, I64 (((k : Nat) : Int))), (129, .bool (s))] : Env)) (fun s => blk b4 [I64 (nd), .slice a3 O2.length c3] 71 :: vc 158 (.slice a3 O2.length c3) (O2) :: vc 122 (.slice a4 chg2.length c4) (chg2) :: blk b6 [I64 ((at_ xs ((k : Nat) : Int)).u), I64 ((at_ xs ((k : Nat) : Int)).v), I64 ((at_ xs ((k : Nat) : Int)).w), I64 ((at_ xs ((k : Nat) : Int)).lb), I64 ((at_ xs ((k : Nat) : Int)).sg), I64 ((at_ xs ((k : Nat) : Int)).tm)] 158 :: blk b5 [I64 ((lkOf e).u), I64 ((lkOf e).v), I64 ((lkOf e).w), I64 ((lkOf e).lb), I64 ((lkOf e).sg), I64 ((lkOf e).tm)] 158 :: blk b3 [I64 (0), .slice none 0 0] 71 :: blk b2 [I64 (e.kd), I64 (e.tm), I64 (e.u), I64 (e.v), I64 (e.w), I64 (e.lb), I64 (e.sg)] 122 :: blk b1 [I64 (nd), va] 71 :: I) (fun s => (s = decide (e.kd ≠ 1 ∧ hitE e (at_ xs ((k : Nat) : Int)) = true))) ?_ ?_
         ·refine W.region ?_
          refine G.r (Runs.fieldAddr fld122_0 rfl) ?_
          refine G.r (Runs.ld ty3) ?_
          refine G.r (Runs.eql rfl rfl) ?_
          refine G.r (Runs.move rfl) ?_
          refine G.split (d := 133) rfl (fun g133 => ?_) (fun g133 => ?_)
          ·refine G.ro (Runs.move rfl) ?_
           refine G.r (Runs.pickt rfl rfl) ?_
           refine G.r (Runs.move rfl) ?_
           refine G.split (d := 136) rfl (fun g136 => ?_) (fun g136 => ?_)
           ·refine G.po ?_
            refine G.po ?_
            refine G.po ?_
            refine G.po ?_
            refine G.pu ?_
            refine G.pu ?_
            refine G.pu ?_
            refine G.pu ?_
            refine G.pu ?_
            refine G.pu ?_
            refine G.pu ?_
            refine G.pu ?_
            refine G.pu ?_
            refine G.pu ?_
            refine G.pu ?_
            refine G.pu ?_
            refine G.po ?_
            refine G.r (Runs.pickt rfl rfl) ?_
            refine G.r (Runs.assign rfl) ?_
            refine G.nil ?_
            exact V.mid ((true)) (show ((true : Bool) = decide (e.kd ≠ 1 ∧ hitE e (at_ xs ((k : Nat) : Int)) = true)) from (by first | (exfalso; omega) | exact (decide_eq_true ⟨by omega, by first | (rw [hit_two (by omega)]; exact decide_eq_true (by assumption)) | (rw [hit_oth (by omega)]; exact decide_eq_true (by omega))⟩).symm | exact (decide_eq_false (fun h => by first | omega | (have h2 := h.2; first | (rw [hit_two (by omega)] at h2; exact absurd (of_decide_eq_true h2) (by assumption)) | (rw [hit_oth (by omega)] at h2; have h3 := of_decide_eq_true h2; omega)))).symm | exact decide_eq_decide.2 ⟨fun h => ⟨by omega, by rw [hit_oth (by omega)]; exact decide_eq_true (.inr h)⟩, fun h => by have h2 := h.2; rw [hit_oth (by omega)] at h2; have h3 := of_decide_eq_true h2; omega⟩)) (Sub.cons rfl (Sub.cons rfl (Sub.cons rfl (Sub.cons rfl (Sub.cons rfl (Sub.cons rfl (Sub.cons rfl (Sub.cons rfl (Sub.cons rfl (Sub.cons rfl (Sub.cons (lookV rfl (by first | rfl | simp)) Sub.nil))))))))))) (show Fit κ _ (blk b4 [I64 (nd), .slice a3 O2.length c3] 71 :: vc 158 (.slice a3 O2.length c3) (O2) :: vc 122 (.slice a4 chg2.length c4) (chg2) :: blk b6 [I64 ((at_ xs ((k : Nat) : Int)).u), I64 ((at_ xs ((k : Nat) : Int)).v), I64 ((at_ xs ((k : Nat) : Int)).w), I64 ((at_ xs ((k : Nat) : Int)).lb), I64 ((at_ xs ((k : Nat) : Int)).sg), I64 ((at_ xs ((k : Nat) : Int)).tm)] 158 :: blk b5 [I64 ((lkOf e).u), I64 ((lkOf e).v), I64 ((lkOf e).w), I64 ((lkOf e).lb), I64 ((lkOf e).sg), I64 ((lkOf e).tm)] 158 :: blk b3 [I64 (0), .slice none 0 0] 71 :: blk b2 [I64 (e.kd), I64 (e.tm), I64 (e.u), I64 (e.v), I64 (e.w), I64 (e.lb), I64 (e.sg)] 122 :: blk b1 [I64 (nd), va] 71 :: I) from (Fit.refl _))
           ·refine G.ro (Runs.fieldAddr fld122_0 rfl) ?_
            refine G.ro (Runs.ld ty3) ?_
            refine G.ro (Runs.eql rfl rfl) ?_
            refine G.ro (Runs.move rfl) ?_
            refine G.split (d := 140) rfl (fun g140 => ?_) (fun g140 => ?_)
            ·refine G.ro (Runs.fieldAddr fld158_0 rfl) ?_
             refine G.ro (Runs.ld ty3) ?_
             refine G.ro (Runs.fieldAddr fld122_2 rfl) ?_
             refine G.ro (Runs.ld ty3) ?_
             refine G.ro (Runs.eql rfl rfl) ?_
             refine G.ro (Runs.move rfl) ?_
             refine G.split (d := 146) rfl (fun g146 => ?_) (fun g146 => ?_)
             ·refine G.po ?_
              refine G.po ?_
              refine G.po ?_
              refine G.po ?_
              refine G.po ?_
              refine G.ro (Runs.pickt rfl rfl) ?_
              refine G.ro (Runs.pickt rfl rfl) ?_
              refine G.r (Runs.pickf rfl rfl) ?_
              refine G.r (Runs.assign rfl) ?_
              refine G.nil ?_
              exact V.mid ((true)) (show ((true : Bool) = decide (e.kd ≠ 1 ∧ hitE e (at_ xs ((k : Nat) : Int)) = true)) from (by first | (exfalso; omega) | exact (decide_eq_true ⟨by omega, by first | (rw [hit_two (by omega)]; exact decide_eq_true (by assumption)) | (rw [hit_oth (by omega)]; exact decide_eq_true (by omega))⟩).symm | exact (decide_eq_false (fun h => by first | omega | (have h2 := h.2; first | (rw [hit_two (by omega)] at h2; exact absurd (of_decide_eq_true h2) (by assumption)) | (rw [hit_oth (by omega)] at h2; have h3 := of_decide_eq_true h2; omega)))).symm | exact decide_eq_decide.2 ⟨fun h => ⟨by omega, by rw [hit_oth (by omega)]; exact decide_eq_true (.inr h)⟩, fun h => by have h2 := h.2; rw [hit_oth (by omega)] at h2; have h3 := of_decide_eq_true h2; omega⟩)) (Sub.cons rfl (Sub.cons rfl (Sub.cons rfl (Sub.cons rfl (Sub.cons rfl (Sub.cons rfl (Sub.cons rfl (Sub.cons rfl (Sub.cons rfl (Sub.cons rfl (Sub.cons (lookV rfl (by first | rfl | simp)) Sub.nil))))))))))) (show Fit κ _ (blk b4 [I64 (nd), .slice a3 O2.length c3] 71 :: vc 158 (.slice a3 O2.length c3) (O2) :: vc 122 (.slice a4 chg2.length c4) (chg2) :: blk b6 [I64 ((at_ xs ((k : Nat) : Int)).u), I64 ((at_ xs ((k : Nat) : Int)).v), I64 ((at_ xs ((k : Nat) : Int)).w), I64 ((at_ xs ((k : Nat) : Int)).lb), I64 ((at_ xs ((k : Nat) : Int)).sg), I64 ((at_ xs ((k : Nat) : Int)).tm)] 158 :: blk b5 [I64 ((lkOf e).u), I64 ((lkOf e).v), I64 ((lkOf e).w), I64 ((lkOf e).lb), I64 ((lkOf e).sg), I64 ((lkOf e).tm)] 158 :: blk b3 [I64 (0), .slice none 0 0] 71 :: blk b2 [I64 (e.kd), I64 (e.tm), I64 (e.u), I64 (e.v), I64 (e.w), I64 (e.lb), I64 (e.sg)] 122 :: blk b1 [I64 (nd), va] 71 :: I) from (Fit.refl _))
             ·refine G.ro (Runs.fieldAddr fld158_1 rfl) ?_
              refine G.ro (Runs.ld ty3) ?_
              refine G.ro (Runs.fieldAddr fld122_2 rfl) ?_
              refine G.ro (Runs.ld ty3) ?_
              refine G.ro (Runs.eql rfl rfl) ?_
              refine G.ro (Runs.pickf rfl rfl) ?_
              refine G.ro (Runs.pickt rfl rfl) ?_
              refine G.r (Runs.pickf rfl rfl) ?_
              refine G.r (Runs.assign rfl) ?_
              refine G.nil ?_
              exact V.mid ((decide (((at_ xs ((k : Nat) : Int)).v) = e.u))) (show ((decide (((at_ xs ((k : Nat) : Int)).v) = e.u) : Bool) = decide (e.kd ≠ 1 ∧ hitE e (at_ xs ((k : Nat) : Int)) = true)) from (by first | (exfalso; omega) | exact (decide_eq_true ⟨by omega, by first | (rw [hit_two (by omega)]; exact decide_eq_true (by assumption)) | (rw [hit_oth (by omega)]; exact decide_eq_true (by omega))⟩).symm | exact (decide_eq_false (fun h => by first | omega | (have h2 := h.2; first | (rw [hit_two (by omega)] at h2; exact absurd (of_decide_eq_true h2) (by assumption)) | (rw [hit_oth (by omega)] at h2; have h3 := of_decide_eq_true h2; omega)))).symm | exact decide_eq_decide.2 ⟨fun h => ⟨by omega, by rw [hit_oth (by omega)]; exact decide_eq_true (.inr h)⟩, fun h => by have h2 := h.2; rw [hit_oth (by omega)] at h2; have h3 := of_decide_eq_true h2; omega⟩)) (Sub.cons rfl (Sub.cons rfl (Sub.cons rfl (Sub.cons rfl (Sub.cons rfl (Sub.cons rfl (Sub.cons rfl (Sub.cons rfl (Sub.cons rfl (Sub.cons rfl (Sub.cons (lookV rfl (by first | rfl | simp)) Sub.nil))))))))))) (show Fit κ _ (blk b4 [I64 (nd), .slice a3 O2.length c3] 71 :: vc 158 (.slice a3 O2.length c3) (O2) :: vc 122 (.slice a4 chg2.length c4) (chg2) :: blk b6 [I64 ((at_ xs ((k : Nat) : Int)).u), I64 ((at_ xs ((k : Nat) : Int)).v), I64 ((at_ xs ((k : Nat) : Int)).w), I64 ((at_ xs ((k : Nat) : Int)).lb), I64 ((at_ xs ((k : Nat) : Int)).sg), I64 ((at_ xs ((k : Nat) : Int)).tm)] 158 :: blk b5 [I64 ((lkOf e).u), I64 ((lkOf e).v), I64 ((lkOf e).w), I64 ((lkOf e).lb), I64 ((lkOf e).sg), I64 ((lkOf e).tm)] 158 :: blk b3 [I64 (0), .slice none 0 0] 71 :: blk b2 [I64 (e.kd), I64 (e.tm), I64 (e.u), I64 (e.v), I64 (e.w), I64 (e.lb), I64 (e.sg)] 122 :: blk b1 [I64 (nd), va] 71 :: I) from (Fit.refl _))
            ·refine G.po ?_
             refine G.po ?_
             refine G.po ?_
             refine G.po ?_
             refine G.po ?_
             refine G.po ?_
             refine G.pu ?_
             refine G.pu ?_
             refine G.pu ?_
             refine G.pu ?_
             refine G.pu ?_
             refine G.po ?_
             refine G.ro (Runs.pickf rfl rfl) ?_
             refine G.r (Runs.pickf rfl rfl) ?_
             refine G.r (Runs.assign rfl) ?_
             refine G.nil ?_
             exact V.mid ((false)) (show ((false : Bool) = decide (e.kd ≠ 1 ∧ hitE e (at_ xs ((k : Nat) : Int)) = true)) from (by first | (exfalso; omega) | exact (decide_eq_true ⟨by omega, by first | (rw [hit_two (by omega)]; exact decide_eq_true (by assumption)) | (rw [hit_oth (by omega)]; exact decide_eq_true (by omega))⟩).symm | exact (decide_eq_false (fun h => by first | omega | (have h2 := h.2; first | (rw [hit_two (by omega)] at h2; exact absurd (of_decide_eq_true h2) (by assumption)) | (rw [hit_oth (by omega)] at h2; have h3 := of_decide_eq_true h2; omega)))).symm | exact decide_eq_decide.2 ⟨fun h => ⟨by omega, by rw [hit_oth (by omega)]; exact decide_eq_true (.inr h)⟩, fun h => by have h2 := h.2; rw [hit_oth (by omega)] at h2; have h3 := of_decide_eq_true h2; omega⟩)) (Sub.cons rfl (Sub.cons rfl (Sub.cons rfl (Sub.cons rfl (Sub.cons rfl (Sub.cons rfl (Sub.cons rfl (Sub.cons rfl (Sub.cons rfl (Sub.cons rfl (Sub.cons (lookV rfl (by first | rfl | simp)) Sub.nil))))))))))) (show Fit κ _ (blk b4 [I64 (nd), .slice a3 O2.length c3] 71 :: vc 158 (.slice a3 O2.length c3) (O2) :: vc 122 (.slice a4 chg2.length c4) (chg2) :: blk b6 [I64 ((at_ xs ((k : Nat) : Int)).u), I64 ((at_ xs ((k : Nat) : Int)).v), I64 ((at_ xs ((k : Nat) : Int)).w), I64 ((at_ xs ((k : Nat) : Int)).lb), I64 ((at_ xs ((k : Nat) : Int)).sg), I64 ((at_ xs ((k : Nat) : Int)).tm)] 158 :: blk b5 [I64 ((lkOf e).u), I64 ((lkOf e).v), I64 ((lkOf e).w), I64 ((lkOf e).lb), I64 ((lkOf e).sg), I64 ((lkOf e).tm)] 158 :: blk b3 [I64 (0), .slice none 0 0] 71 :: blk b2 [I64 (e.kd), I64 (e.tm), I64 (e.u), I64 (e.v), I64 (e.w), I64 (e.lb), I64 (e.sg)] 122 :: blk b1 [I64 (nd), va] 71 :: I) from (Fit.refl _))
          ·refine G.po ?_
           refine G.r (Runs.pickf rfl rfl) ?_
           refine G.r (Runs.move rfl) ?_
           refine G.ro (Runs.fieldAddr fld122_0 rfl) ?_
           refine G.ro (Runs.ld ty3) ?_
           refine G.ro (Runs.eql rfl rfl) ?_
           refine G.ro (Runs.move rfl) ?_
           refine G.split (d := 140) rfl (fun g140 => ?_) (fun g140 => ?_)
           ·refine G.ro (Runs.fieldAddr fld158_0 rfl) ?_
            refine G.ro (Runs.ld ty3) ?_
            refine G.ro (Runs.fieldAddr fld122_2 rfl) ?_
            refine G.ro (Runs.ld ty3) ?_
            refine G.ro (Runs.eql rfl rfl) ?_
            refine G.ro (Runs.move rfl) ?_
            refine G.split (d := 146) rfl (fun g146 => ?_) (fun g146 => ?_)
            ·refine G.po ?_
             refine G.po ?_
             refine G.po ?_
             refine G.po ?_
             refine G.po ?_
             refine G.ro (Runs.pickt rfl rfl) ?_
             refine G.ro (Runs.pickt rfl rfl) ?_
             refine G.r (Runs.pickf rfl rfl) ?_
             refine G.r (Runs.assign rfl) ?_
             refine G.nil ?_
             exact V.mid ((true)) (show ((true : Bool) = decide (e.kd ≠ 1 ∧ hitE e (at_ xs ((k : Nat) : Int)) = true)) from (by first | (exfalso; omega) | exact (decide_eq_true ⟨by omega, by first | (rw [hit_two (by omega)]; exact decide_eq_true (by assumption)) | (rw [hit_oth (by omega)]; exact decide_eq_true (by omega))⟩).symm | exact (decide_eq_false (fun h => by first | omega | (have h2 := h.2; first | (rw [hit_two (by omega)] at h2; exact absurd (of_decide_eq_true h2) (by assumption)) | (rw [hit_oth (by omega)] at h2; have h3 := of_decide_eq_true h2; omega)))).symm | exact decide_eq_decide.2 ⟨fun h => ⟨by omega, by rw [hit_oth (by omega)]; exact decide_eq_true (.inr h)⟩, fun h => by have h2 := h.2; rw [hit_oth (by omega)] at h2; have h3 := of_decide_eq_true h2; omega⟩)) (Sub.cons rfl (Sub.cons rfl (Sub.cons rfl (Sub.cons rfl (Sub.cons rfl (Sub.cons rfl (Sub.cons rfl (Sub.cons rfl (Sub.cons rfl (Sub.cons rfl (Sub.cons (lookV rfl (by first | rfl | simp)) Sub.nil))))))))))) (show Fit κ _ (blk b4 [I64 (nd), .slice a3 O2.length c3] 71 :: vc 158 (.slice a3 O2.length c3) (O2) :: vc 122 (.slice a4 chg2.length c4) (chg2) :: blk b6 [I64 ((at_ xs ((k : Nat) : Int)).u), I64 ((at_ xs ((k : Nat) : Int)).v), I64 ((at_ xs ((k : Nat) : Int)).w), I64 ((at_ xs ((k : Nat) : Int)).lb), I64 ((at_ xs ((k : Nat) : Int)).sg), I64 ((at_ xs ((k : Nat) : Int)).tm)] 158 :: blk b5 [I64 ((lkOf e).u), I64 ((lkOf e).v), I64 ((lkOf e).w), I64 ((lkOf e).lb), I64 ((lkOf e).sg), I64 ((lkOf e).tm)] 158 :: blk b3 [I64 (0), .slice none 0 0] 71 :: blk b2 [I64 (e.kd), I64 (e.tm), I64 (e.u), I64 (e.v), I64 (e.w), I64 (e.lb), I64 (e.sg)] 122 :: blk b1 [I64 (nd), va] 71 :: I) from (Fit.refl _))
            ·refine G.ro (Runs.fieldAddr fld158_1 rfl) ?_
             refine G.ro (Runs.ld ty3) ?_
             refine G.ro (Runs.fieldAddr fld122_2 rfl) ?_
             refine G.ro (Runs.ld ty3) ?_
             refine G.ro (Runs.eql rfl rfl) ?_
             refine G.ro (Runs.pickf rfl rfl) ?_
             refine G.ro (Runs.pickt rfl rfl) ?_
             refine G.r (Runs.pickf rfl rfl) ?_
             refine G.r (Runs.assign rfl) ?_
             refine G.nil ?_
             exact V.mid ((decide (((at_ xs ((k : Nat) : Int)).v) = e.u))) (show ((decide (((at_ xs ((k : Nat) : Int)).v) = e.u) : Bool) = decide (e.kd ≠ 1 ∧ hitE e (at_ xs ((k : Nat) : Int)) = true)) from (by first | (exfalso; omega) | exact (decide_eq_true ⟨by omega, by first | (rw [hit_two (by omega)]; exact decide_eq_true (by assumption)) | (rw [hit_oth (by omega)]; exact decide_eq_true (by omega))⟩).symm | exact (decide_eq_false (fun h => by first | omega | (have h2 := h.2; first | (rw [hit_two (by omega)] at h2; exact absurd (of_decide_eq_true h2) (by assumption)) | (rw [hit_oth (by omega)] at h2; have h3 := of_decide_eq_true h2; omega)))).symm | exact decide_eq_decide.2 ⟨fun h => ⟨by omega, by rw [hit_oth (by omega)]; exact decide_eq_true (.inr h)⟩, fun h => by have h2 := h.2; rw [hit_oth (by omega)] at h2; have h3 := of_decide_eq_true h2; omega⟩)) (Sub.cons rfl (Sub.cons rfl (Sub.cons rfl (Sub.cons rfl (Sub.cons rfl (Sub.cons rfl (Sub.cons rfl (Sub.cons rfl (Sub.cons rfl (Sub.cons rfl (Sub.cons (lookV rfl (by first | rfl | simp)) Sub.nil))))))))))) (show Fit κ _ (blk b4 [I64 (nd), .slice a3 O2.length c3] 71 :: vc 158 (.slice a3 O2.length c3) (O2) :: vc 122 (.slice a4 chg2.length c4) (chg2) :: blk b6 [I64 ((at_ xs ((k : Nat) : Int)).u), I64 ((at_ xs ((k : Nat) : Int)).v), I64 ((at_ xs ((k : Nat) : Int)).w), I64 ((at_ xs ((k : Nat) : Int)).lb), I64 ((at_ xs ((k : Nat) : Int)).sg), I64 ((at_ xs ((k : Nat) : Int)).tm)] 158 :: blk b5 [I64 ((lkOf e).u), I64 ((lkOf e).v), I64 ((lkOf e).w), I64 ((lkOf e).lb), I64 ((lkOf e).sg), I64 ((lkOf e).tm)] 158 :: blk b3 [I64 (0), .slice none 0 0] 71 :: blk b2 [I64 (e.kd), I64 (e.tm), I64 (e.u), I64 (e.v), I64 (e.w), I64 (e.lb), I64 (e.sg)] 122 :: blk b1 [I64 (nd), va] 71 :: I) from (Fit.refl _))
           ·refine G.po ?_
            refine G.po ?_
            refine G.po ?_
            refine G.po ?_
            refine G.po ?_
            refine G.po ?_
            refine G.pu ?_
            refine G.pu ?_
            refine G.pu ?_
            refine G.pu ?_
            refine G.pu ?_
            refine G.po ?_
            refine G.ro (Runs.pickf rfl rfl) ?_
            refine G.r (Runs.pickf rfl rfl) ?_
            refine G.r (Runs.assign rfl) ?_
            refine G.nil ?_
            exact V.mid ((false)) (show ((false : Bool) = decide (e.kd ≠ 1 ∧ hitE e (at_ xs ((k : Nat) : Int)) = true)) from (by first | (exfalso; omega) | exact (decide_eq_true ⟨by omega, by first | (rw [hit_two (by omega)]; exact decide_eq_true (by assumption)) | (rw [hit_oth (by omega)]; exact decide_eq_true (by omega))⟩).symm | exact (decide_eq_false (fun h => by first | omega | (have h2 := h.2; first | (rw [hit_two (by omega)] at h2; exact absurd (of_decide_eq_true h2) (by assumption)) | (rw [hit_oth (by omega)] at h2; have h3 := of_decide_eq_true h2; omega)))).symm | exact decide_eq_decide.2 ⟨fun h => ⟨by omega, by rw [hit_oth (by omega)]; exact decide_eq_true (.inr h)⟩, fun h => by have h2 := h.2; rw [hit_oth (by omega)] at h2; have h3 := of_decide_eq_true h2; omega⟩)) (Sub.cons rfl (Sub.cons rfl (Sub.cons rfl (Sub.cons rfl (Sub.cons rfl (Sub.cons rfl (Sub.cons rfl (Sub.cons rfl (Sub.cons rfl (Sub.cons rfl (Sub.cons (lookV rfl (by first | rfl | simp)) Sub.nil))))))))))) (show Fit κ _ (blk b4 [I64 (nd), .slice a3 O2.length c3] 71 :: vc 158 (.slice a3 O2.length c3) (O2) :: vc 122 (.slice a4 chg2.length c4) (chg2) :: blk b6 [I64 ((at_ xs ((k : Nat) : Int)).u), I64 ((at_ xs ((k : Nat) : Int)).v), I64 ((at_ xs ((k : Nat) : Int)).w), I64 ((at_ xs ((k : Nat) : Int)).lb), I64 ((at_ xs ((k : Nat) : Int)).sg), I64 ((at_ xs ((k : Nat) : Int)).tm)] 158 :: blk b5 [I64 ((lkOf e).u), I64 ((lkOf e).v), I64 ((lkOf e).w), I64 ((lkOf e).lb), I64 ((lkOf e).sg), I64 ((lkOf e).tm)] 158 :: blk b3 [I64 (0), .slice none 0 0] 71 :: blk b2 [I64 (e.kd), I64 (e.tm), I64 (e.u), I64 (e.v), I64 (e.w), I64 (e.lb), I64 (e.sg)] 122 :: blk b1 [I64 (nd), va] 71 :: I) from (Fit.refl _))
         ·rintro z hp
          have hz : (z = decide (e.kd ≠ 1 ∧ hitE e (at_ xs ((k : Nat) : Int)) = true)) := hp
          show W Try.prog κ 180 _ _ ([(3, .pointer (some ⟨b2, 0, none⟩)), (4, .pointer (some ⟨b3, 0, none⟩)), (9, .pointer (some ⟨b4, 0, none⟩)), (10, .slice a4 chg2.length c4), (11, .pointer (some ⟨b5, 0, none⟩)), (12, .bool (q2)), (14, .pointer (some ⟨b6, 0, none⟩)), (67, va), (68, I64 (((xs.length : Nat) : Int))), (69, I64 (((k : Nat) : Int))), (129, .bool (z))] : Env) (blk b4 [I64 (nd), .slice a3 O2.length c3] 71 :: vc 158 (.slice a3 O2.length c3) (O2) :: vc 122 (.slice a4 chg2.length c4) (chg2) :: blk b6 [I64 ((at_ xs ((k : Nat) : Int)).u), I64 ((at_ xs ((k : Nat) : Int)).v), I64 ((at_ xs ((k : Nat) : Int)).w), I64 ((at_ xs ((k : Nat) : Int)).lb), I64 ((at_ xs ((k : Nat) : Int)).sg), I64 ((at_ xs ((k : Nat) : Int)).tm)] 158 :: blk b5 [I64 ((lkOf e).u), I64 ((lkOf e).v), I64 ((lkOf e).w), I64 ((lkOf e).lb), I64 ((lkOf e).sg), I64 ((lkOf e).tm)] 158 :: blk b3 [I64 (0), .slice none 0 0] 71 :: blk b2 [I64 (e.kd), I64 (e.tm), I64 (e.u), I64 (e.v), I64 (e.w), I64 (e.lb), I64 (e.sg)] 122 :: blk b1 [I64 (nd), va] 71 :: I)
          refine W.cond rfl (fun c129 => ?_) (fun c129 => ?_)
          ·refine W.region ?_
           refine G.r (Runs.move rfl) ?_
           refine G.r (Runs.lds (vs := [_, _, _, _, _, _]) ty158) ?_
           refine G.r (Runs.fieldAddr fld122_1 rfl) ?_
           refine G.r (Runs.ld ty3) ?_
           refine G.e (Eff.call call121 rfl rfl (Cut5_ok (at_ xs ((k : Nat) : Int)) e.tm)) ?_
           rintro _ _ ⟨_, _, ⟨rfl, rfl⟩, rfl, rfl⟩
           refine G.e (Eff.bs (α := Ev) (cs := [I64 (2), I64 (e.tm), I64 ((at_ xs ((k : Nat) : Int)).u), I64 ((at_ xs ((k : Nat) : Int)).v), I64 (0), I64 (0), I64 (0)]) (xs := [⟨2, e.tm, (at_ xs ((k : Nat) : Int)).u, (at_ xs ((k : Nat) : Int)).v, 0, 0, 0⟩]) Try.underlying81 ty122 rfl rfl (by decide) (by decide) rfl (by kernel_rfl) rfl rfl) ?_
           rintro _ _ ⟨ad28, rfl, rfl⟩
           refine G.e (Eff.app (α := Ev) (e := 122) (xs := chg2) (ys := ([⟨2, e.tm, (at_ xs ((k : Nat) : Int)).u, (at_ xs ((k : Nat) : Int)).v, 0, 0, 0⟩] : List Ev)) Try.underlying81 ty122 rfl rfl rfl (by repeat (first | exact List.mem_cons_self | apply List.mem_cons_of_mem)) Sl.o (by have hol3 := hA.len; first | (simp only [List.length_append, List.length_cons, List.length_nil]; omega) | (have hol4 := hA2.len; simp only [List.length_append, List.length_cons, List.length_nil]; omega)) (by decide) rfl (fun _ _ => (by repeat (first | exact At.head _ _ _ | apply At.tail)))) ?_
           rintro _ _ ⟨ad29, cp30, rfl, rfl⟩
           refine G.r (Runs.assign rfl) ?_
           refine G.nil ?_
           refine V.block_normal ?_
           refine V.block_normal ?_
           refine V.then ?_
           refine W.sub (L' := [(10, _), (3, _), (4, _), (9, _), (11, _), (12, _), (67, _), (68, _), (69, _)]) (Sub.cons rfl (Sub.cons rfl (Sub.cons rfl (Sub.cons rfl (Sub.cons rfl (Sub.cons rfl (Sub.cons rfl (Sub.cons rfl (Sub.cons rfl Sub.nil))))))))) ?_
           refine W.region ?_
           refine G.r (Runs.add rfl rfl (by unfold InR; omega)) ?_
           refine G.r (Runs.move rfl) ?_
           refine G.nil ?_
           exact V.next ((k + 1), (a3), (c3), (ad29), (cp30), (O2), (chg2 ++ ([⟨2, e.tm, (at_ xs ((k : Nat) : Int)).u, (at_ xs ((k : Nat) : Int)).v, 0, 0, 0⟩] : List Ev)), (q2)) (show ((k + 1 : Nat) ≤ xs.length) ∧ (ApI xs e (k + 1 : Nat) (O2 : List Lk) (q2 : Bool)) ∧ ((chg2 ++ ([⟨2, e.tm, (at_ xs ((k : Nat) : Int)).u, (at_ xs ((k : Nat) : Int)).v, 0, 0, 0⟩] : List Ev) : List Ev).length ≤ 2 * (k + 1 : Nat)) from ⟨(by omega), (by first | exact hA2.hit hasc (by omega) (of_decide_eq_true (hy.symm.trans c106)).1 (of_decide_eq_true (hy.symm.trans c106)).2 | exact hA2.drop (by omega) (of_decide_eq_true (hz.symm.trans c129)).1 (of_decide_eq_true (hz.symm.trans c129)).2 | exact hA2.keep hasc (by omega) hM (fun h1 h2 => of_decide_eq_false (hy.symm.trans c106) ⟨h1, h2⟩) (fun h1 => Classical.byContradiction fun hh => of_decide_eq_false (hz.symm.trans c129) ⟨h1, by simpa using hh⟩)), (by first | omega | (simp only [List.length_append, List.length_cons, List.length_nil]; omega))⟩) (show xs.length - (k + 1 : Nat) < xs.length - k from (by omega)) (Sub.cons rfl (Sub.cons rfl (Sub.cons rfl (Sub.cons (lookV rfl (by first | rfl | simp)) (Sub.cons rfl (Sub.cons (lookV rfl (by first | rfl | simp)) (Sub.cons rfl (Sub.cons rfl (Sub.cons lookO Sub.nil))))))))) (show Fit κ _ (blk b4 [I64 (nd), .slice (a3) (O2).length (c3)] 71 :: vc 158 (.slice (a3) (O2).length (c3)) ((O2)) :: vc 122 (.slice (ad29) (chg2 ++ ([⟨2, e.tm, (at_ xs ((k : Nat) : Int)).u, (at_ xs ((k : Nat) : Int)).v, 0, 0, 0⟩] : List Ev)).length (cp30)) ((chg2 ++ ([⟨2, e.tm, (at_ xs ((k : Nat) : Int)).u, (at_ xs ((k : Nat) : Int)).v, 0, 0, 0⟩] : List Ev))) :: blk b5 [I64 ((lkOf e).u), I64 ((lkOf e).v), I64 ((lkOf e).w), I64 ((lkOf e).lb), I64 ((lkOf e).sg), I64 ((lkOf e).tm)] 158 :: blk b3 [I64 (0), .slice none 0 0] 71 :: blk b2 [I64 (e.kd), I64 (e.tm), I64 (e.u), I64 (e.v), I64 (e.w), I64 (e.lb), I64 (e.sg)] 122 :: blk b1 [I64 (nd), va] 71 :: I) from Fit.s)
          ·refine W.region ?_
           refine G.r (Runs.fieldAddr fld71_1 rfl) ?_
           refine G.r (Runs.ld ty69) ?_
           refine G.r (Runs.lds (vs := [_, _, _, _, _, _]) ty158) ?_
           refine G.e (Eff.bs (α := Lk) (cs := [I64 ((at_ xs ((k : Nat) : Int)).u), I64 ((at_ xs ((k : Nat) : Int)).v), I64 ((at_ xs ((k : Nat) : Int)).w), I64 ((at_ xs ((k : Nat) : Int)).lb), I64 ((at_ xs ((k : Nat) : Int)).sg), I64 ((at_ xs ((k : Nat) : Int)).tm)]) (xs := [⟨(at_ xs ((k : Nat) : Int)).u, (at_ xs ((k : Nat) : Int)).v, (at_ xs ((k : Nat) : Int)).w, (at_ xs ((k : Nat) : Int)).lb, (at_ xs ((k : Nat) : Int)).sg, (at_ xs ((k : Nat) : Int)).tm⟩]) Try.underlying69 ty158 rfl rfl (by decide) (by decide) rfl (by kernel_rfl) rfl rfl) ?_
           rintro _ _ ⟨ad31, rfl, rfl⟩
           refine G.e (Eff.app (α := Lk) (e := 158) (xs := O2) (ys := ([⟨(at_ xs ((k : Nat) : Int)).u, (at_ xs ((k : Nat) : Int)).v, (at_ xs ((k : Nat) : Int)).w, (at_ xs ((k : Nat) : Int)).lb, (at_ xs ((k : Nat) : Int)).sg, (at_ xs ((k : Nat) : Int)).tm⟩] : List Lk)) Try.underlying69 ty158 rfl rfl rfl (by repeat (first | exact List.mem_cons_self | apply List.mem_cons_of_mem)) Sl.o (by have hol3 := hA.len; first | (simp only [List.length_append, List.length_cons, List.length_nil]; omega) | (have hol4 := hA2.len; simp only [List.length_append, List.length_cons, List.length_nil]; omega)) (by decide) rfl (fun _ _ => (by repeat (first | exact At.head _ _ _ | apply At.tail)))) ?_
           rintro _ _ ⟨ad32, cp33, rfl, rfl⟩
           refine G.r (Runs.fieldAddr fld71_1 rfl) ?_
           refine G.e (Eff.st (cs := [_, _]) (vs := [_]) (cs' := [_, _]) ty69) ?_
           rintro _ _ ⟨rfl, rfl⟩
           refine G.nil ?_
           refine V.block_normal ?_
           refine V.block_normal ?_
           refine V.then ?_
           refine W.sub (L' := [(3, _), (4, _), (9, _), (10, _), (11, _), (12, _), (67, _), (68, _), (69, _)]) (Sub.cons rfl (Sub.cons rfl (Sub.cons rfl (Sub.cons rfl (Sub.cons rfl (Sub.cons rfl (Sub.cons rfl (Sub.cons rfl (Sub.cons rfl Sub.nil))))))))) ?_
           refine W.region ?_
           refine G.r (Runs.add rfl rfl (by unfold InR; omega)) ?_
           refine G.r (Runs.move rfl) ?_
           refine G.nil ?_
           exact V.next ((k + 1), (ad32), (cp33), (a4), (c4), (O2 ++ ([⟨(at_ xs ((k : Nat) : Int)).u, (at_ xs ((k : Nat) : Int)).v, (at_ xs ((k : Nat) : Int)).w, (at_ xs ((k : Nat) : Int)).lb, (at_ xs ((k : Nat) : Int)).sg, (at_ xs ((k : Nat) : Int)).tm⟩] : List Lk)), (chg2), (q2)) (show ((k + 1 : Nat) ≤ xs.length) ∧ (ApI xs e (k + 1 : Nat) (O2 ++ ([⟨(at_ xs ((k : Nat) : Int)).u, (at_ xs ((k : Nat) : Int)).v, (at_ xs ((k : Nat) : Int)).w, (at_ xs ((k : Nat) : Int)).lb, (at_ xs ((k : Nat) : Int)).sg, (at_ xs ((k : Nat) : Int)).tm⟩] : List Lk) : List Lk) (q2 : Bool)) ∧ ((chg2 : List Ev).length ≤ 2 * (k + 1 : Nat)) from ⟨(by omega), (by first | exact hA2.hit hasc (by omega) (of_decide_eq_true (hy.symm.trans c106)).1 (of_decide_eq_true (hy.symm.trans c106)).2 | exact hA2.drop (by omega) (of_decide_eq_true (hz.symm.trans c129)).1 (of_decide_eq_true (hz.symm.trans c129)).2 | exact hA2.keep hasc (by omega) hM (fun h1 h2 => of_decide_eq_false (hy.symm.trans c106) ⟨h1, h2⟩) (fun h1 => Classical.byContradiction fun hh => of_decide_eq_false (hz.symm.trans c129) ⟨h1, by simpa using hh⟩)), (by first | omega | (simp only [List.length_append, List.length_cons, List.length_nil]; omega))⟩) (show xs.length - (k + 1 : Nat) < xs.length - k from (by omega)) (Sub.cons rfl (Sub.cons rfl (Sub.cons rfl (Sub.cons (lookV rfl (by first | rfl | simp)) (Sub.cons rfl (Sub.cons (lookV rfl (by first | rfl | simp)) (Sub.cons rfl (Sub.cons rfl (Sub.cons lookO Sub.nil))))))))) (show Fit κ _ (blk b4 [I64 (nd), .slice (ad32) (O2 ++ ([⟨(at_ xs ((k : Nat) : Int)).u, (at_ xs ((k : Nat) : Int)).v, (at_ xs ((k : Nat) : Int)).w, (at_ xs ((k : Nat) : Int)).lb, (at_ xs ((k : Nat) : Int)).sg, (at_ xs ((k : Nat) : Int)).tm⟩] : List Lk)).length (cp33)] 71 :: vc 158 (.slice (ad32) (O2 ++ ([⟨(at_ xs ((k : Nat) : Int)).u, (at_ xs ((k : Nat) : Int)).v, (at_ xs ((k : Nat) : Int)).w, (at_ xs ((k : Nat) : Int)).lb, (at_ xs ((k : Nat) : Int)).sg, (at_ xs ((k : Nat) : Int)).tm⟩] : List Lk)).length (cp33)) ((O2 ++ ([⟨(at_ xs ((k : Nat) : Int)).u, (at_ xs ((k : Nat) : Int)).v, (at_ xs ((k : Nat) : Int)).w, (at_ xs ((k : Nat) : Int)).lb, (at_ xs ((k : Nat) : Int)).sg, (at_ xs ((k : Nat) : Int)).tm⟩] : List Lk))) :: vc 122 (.slice (a4) (chg2).length (c4)) ((chg2)) :: blk b5 [I64 ((lkOf e).u), I64 ((lkOf e).v), I64 ((lkOf e).w), I64 ((lkOf e).lb), I64 ((lkOf e).sg), I64 ((lkOf e).tm)] 158 :: blk b3 [I64 (0), .slice none 0 0] 71 :: blk b2 [I64 (e.kd), I64 (e.tm), I64 (e.u), I64 (e.v), I64 (e.w), I64 (e.lb), I64 (e.sg)] 122 :: blk b1 [I64 (nd), va] 71 :: I) from Fit.s)
     ·refine W.exit ?_
      refine V.then_exit ?_
      refine V.then_exit ?_
      refine V.block_hit ?_
      refine V.then ?_
      refine W.seq ?_
      refine W.sr ?_
      refine G.r (Runs.move rfl) ?_
      refine G.r (Runs.not rfl) ?_
      refine G.nt ?_
      refine W.cond rfl (fun c164 => ?_) (fun c164 => ?_)
      ·refine W.drawn mixed ?_
       refine A.hold (blk b5 [I64 ((lkOf e).u), I64 ((lkOf e).v), I64 ((lkOf e).w), I64 ((lkOf e).lb), I64 ((lkOf e).sg), I64 ((lkOf e).tm)] 158 :: blk b3 [I64 (0), .slice none 0 0] 71 :: blk b2 [I64 (e.kd), I64 (e.tm), I64 (e.u), I64 (e.v), I64 (e.w), I64 (e.lb), I64 (e.sg)] 122 :: blk b1 [I64 (nd), va] 71 :: I) 15 ?_
       refine D.r 0 rfl (Runs.fieldAddr fld71_1 rfl) ?_ (hJ := Fit.sub)
       refine D.r 2 rfl (Runs.lds (vs := [_, _, _, _, _, _]) ty158) ?_ (hJ := Fit.sub)
       refine D.r 5 rfl (Runs.move rfl) ?_ (hJ := Fit.sub)
       refine D.r 6 rfl (Runs.lds (vs := [_, _, _, _, _, _]) ty158) ?_ (hJ := Fit.sub)
       refine D.r 7 rfl (Runs.fieldAddr fld122_1 rfl) ?_ (hJ := Fit.sub)
       refine D.r 8 rfl (Runs.ld ty3) ?_ (hJ := Fit.sub)
       refine D.step (rs := [1, 3]) (by kernel_rfl) rfl rfl (all2 ?_ (all1 ?_))
       ·refine Step.read rfl (Wanted.plain rfl) rfl rfl (Runs.ld ty69) Fit.sub ?_
        refine D.step (rs := [3]) (by kernel_rfl) rfl rfl (all1 ?_)
        refine Step.eff rfl (Wanted.plain rfl) (Eff.bs (α := Lk) (cs := [I64 ((lkOf e).u), I64 ((lkOf e).v), I64 ((lkOf e).w), I64 ((lkOf e).lb), I64 ((lkOf e).sg), I64 ((lkOf e).tm)]) (xs := [⟨(lkOf e).u, (lkOf e).v, (lkOf e).w, (lkOf e).lb, (lkOf e).sg, (lkOf e).tm⟩]) Try.underlying69 ty158 rfl rfl (by decide) (by decide) rfl (by kernel_rfl) rfl rfl) ?_
        rintro _ _ ⟨ad34, rfl, rfl⟩
        refine ⟨Fit.sub, ?_⟩
        refine D.step (rs := [4]) (by kernel_rfl) rfl rfl (all1 ?_)
        refine Step.eff rfl (Wanted.plain rfl) (Eff.app (α := Lk) (e := 158) (xs := O) (ys := ([⟨(lkOf e).u, (lkOf e).v, (lkOf e).w, (lkOf e).lb, (lkOf e).sg, (lkOf e).tm⟩] : List Lk)) Try.underlying69 ty158 rfl rfl rfl (by repeat (first | exact List.mem_cons_self | apply List.mem_cons_of_mem)) Sl.o (by have hol3 := hA.len; first | (simp only [List.length_append, List.length_cons, List.length_nil]; omega) | (have hol4 := hA2.len; simp only [List.length_append, List.length_cons, List.length_nil]; omega)) (by decide) rfl (fun _ _ => (by repeat (first | exact At.head _ _ _ | apply At.tail)))) ?_
        rintro _ _ ⟨ad35, cp36, rfl, rfl⟩
        refine ⟨Fit.sub, ?_⟩
        refine D.r 12 rfl (Runs.fieldAddr fld71_1 rfl) ?_ (hJ := Fit.sub)
        refine D.step (rs := [9]) (by kernel_rfl) rfl rfl (all1 ?_)
        refine Step.eff rfl (Wanted.plain rfl) (Eff.call call159 rfl rfl (Set5_ok (lkOf e) e.tm)) ?_
        rintro _ _ ⟨_, _, ⟨rfl, rfl⟩, rfl, rfl⟩
        refine ⟨Fit.sub, ?_⟩
        refine D.step (rs := [10]) (by kernel_rfl) rfl rfl (all1 ?_)
        refine Step.eff rfl (Wanted.plain rfl) (Eff.bs (α := Ev) (cs := [I64 (1), I64 (e.tm), I64 ((lkOf e).u), I64 ((lkOf e).v), I64 ((lkOf e).w), I64 ((lkOf e).lb), I64 ((lkOf e).sg)]) (xs := [⟨1, e.tm, (lkOf e).u, (lkOf e).v, (lkOf e).w, (lkOf e).lb, (lkOf e).sg⟩]) Try.underlying81 ty122 rfl rfl (by decide) (by decide) rfl (by kernel_rfl) rfl rfl) ?_
        rintro _ _ ⟨ad37, rfl, rfl⟩
        refine ⟨Fit.sub, ?_⟩
        refine D.step (rs := [11]) (by kernel_rfl) rfl rfl (all1 ?_)
        refine Step.eff rfl (Wanted.plain rfl) (Eff.app (α := Ev) (e := 122) (xs := chg) (ys := ([⟨1, e.tm, (lkOf e).u, (lkOf e).v, (lkOf e).w, (lkOf e).lb, (lkOf e).sg⟩] : List Ev)) Try.underlying81 ty122 rfl rfl rfl (by repeat (first | exact List.mem_cons_self | apply List.mem_cons_of_mem)) Sl.o (by have hol3 := hA.len; first | (simp only [List.length_append, List.length_cons, List.length_nil]; omega) | (have hol4 := hA2.len; simp only [List.length_append, List.length_cons, List.length_nil]; omega)) (by decide) rfl (fun _ _ => (by repeat (first | exact At.head _ _ _ | apply At.tail)))) ?_
        rintro _ _ ⟨ad38, cp39, rfl, rfl⟩
        refine ⟨Fit.sub, ?_⟩
        refine D.step (rs := [13]) (by kernel_rfl) rfl rfl (all1 ?_)
        refine Step.eff rfl (Wanted.plain rfl) (Eff.st (cs := [_, _]) (vs := [_]) (cs' := [_, _]) ty69) ?_
        rintro _ _ ⟨rfl, rfl⟩
        refine ⟨Fit.sub, ?_⟩
        refine D.r 14 rfl (Runs.assign rfl) ?_ (hJ := Fit.sub)
        refine D.done (by kernel_rfl) ?_
        refine V.then ?_
        refine W.sub (L' := [(10, _), (4, _), (9, _)]) (Sub.cons rfl (Sub.cons rfl (Sub.cons rfl Sub.nil))) ?_
        refine W.sr ?_
        refine G.r (Runs.lds (vs := [_, _]) ty71) ?_
        refine G.r (Runs.move rfl) ?_
        refine G.e (Eff.st (cs := [_, _]) (vs := [_, _]) (cs' := [_, _]) ty71) ?_
        rintro _ _ ⟨rfl, rfl⟩
        refine G.r (Runs.assign rfl) ?_
        refine G.r (Runs.assign rfl) ?_
        refine G.nt ?_
        refine W.ret ?_
        have hE : O ++ ([⟨(lkOf e).u, (lkOf e).v, (lkOf e).w, (lkOf e).lb, (lkOf e).sg, (lkOf e).tm⟩] : List Lk) = (stepL xs e) := by first | exact hA.fin (by omega) (by assumption) | exact hA.finIns (by omega) (by assumption)
        exact V.retc2 rfl ty71 rfl rfl rfl (by repeat (first | exact List.mem_cons_self | apply List.mem_cons_of_mem)) rfl (vc 158 (.slice ad35 (stepL xs e).length cp36) (stepL xs e) :: I) (by rw [← hE]; exact Fit.sub) ⟨⟨ad35, cp36, ad38, (chg ++ ([⟨1, e.tm, (lkOf e).u, (lkOf e).v, (lkOf e).w, (lkOf e).lb, (lkOf e).sg⟩] : List Ev)).length, cp39⟩, ⟨by rw [← hE] <;> rfl, by first | (show _ ≤ 2 * xs.length + 1; omega) | (show _ ≤ 2 * xs.length + 1; simp only [List.length_append, List.length_cons, List.length_nil]; omega)⟩, rfl⟩
       ·refine Step.eff rfl (Wanted.plain rfl) (Eff.bs (α := Lk) (cs := [I64 ((lkOf e).u), I64 ((lkOf e).v), I64 ((lkOf e).w), I64 ((lkOf e).lb), I64 ((lkOf e).sg), I64 ((lkOf e).tm)]) (xs := [⟨(lkOf e).u, (lkOf e).v, (lkOf e).w, (lkOf e).lb, (lkOf e).sg, (lkOf e).tm⟩]) Try.underlying69 ty158 rfl rfl (by decide) (by decide) rfl (by kernel_rfl) rfl rfl) ?_
        rintro _ _ ⟨ad40, rfl, rfl⟩
        refine ⟨Fit.sub, ?_⟩
        refine D.step (rs := [1]) (by kernel_rfl) rfl rfl (all1 ?_)
        refine Step.read rfl (Wanted.plain rfl) rfl rfl (Runs.ld ty69) Fit.sub ?_
        refine D.step (rs := [4]) (by kernel_rfl) rfl rfl (all1 ?_)
        refine Step.eff rfl (Wanted.plain rfl) (Eff.app (α := Lk) (e := 158) (xs := O) (ys := ([⟨(lkOf e).u, (lkOf e).v, (lkOf e).w, (lkOf e).lb, (lkOf e).sg, (lkOf e).tm⟩] : List Lk)) Try.underlying69 ty158 rfl rfl rfl (by repeat (first | exact List.mem_cons_self | apply List.mem_cons_of_mem)) Sl.o (by have hol3 := hA.len; first | (simp only [List.length_append, List.length_cons, List.length_nil]; omega) | (have hol4 := hA2.len; simp only [List.length_append, List.length_cons, List.length_nil]; omega)) (by decide) rfl (fun _ _ => (by repeat (first | exact At.head _ _ _ | apply At.tail)))) ?_
        rintro _ _ ⟨ad41, cp42, rfl, rfl⟩
        refine ⟨Fit.sub, ?_⟩
        refine D.r 12 rfl (Runs.fieldAddr fld71_1 rfl) ?_ (hJ := Fit.sub)
        refine D.step (rs := [9]) (by kernel_rfl) rfl rfl (all1 ?_)
        refine Step.eff rfl (Wanted.plain rfl) (Eff.call call159 rfl rfl (Set5_ok (lkOf e) e.tm)) ?_
        rintro _ _ ⟨_, _, ⟨rfl, rfl⟩, rfl, rfl⟩
        refine ⟨Fit.sub, ?_⟩
        refine D.step (rs := [10]) (by kernel_rfl) rfl rfl (all1 ?_)
        refine Step.eff rfl (Wanted.plain rfl) (Eff.bs (α := Ev) (cs := [I64 (1), I64 (e.tm), I64 ((lkOf e).u), I64 ((lkOf e).v), I64 ((lkOf e).w), I64 ((lkOf e).lb), I64 ((lkOf e).sg)]) (xs := [⟨1, e.tm, (lkOf e).u, (lkOf e).v, (lkOf e).w, (lkOf e).lb, (lkOf e).sg⟩]) Try.underlying81 ty122 rfl rfl (by decide) (by decide) rfl (by kernel_rfl) rfl rfl) ?_
        rintro _ _ ⟨ad43, rfl, rfl⟩
        refine ⟨Fit.sub, ?_⟩
        refine D.step (rs := [11]) (by kernel_rfl) rfl rfl (all1 ?_)
        refine Step.eff rfl (Wanted.plain rfl) (Eff.app (α := Ev) (e := 122) (xs := chg) (ys := ([⟨1, e.tm, (lkOf e).u, (lkOf e).v, (lkOf e).w, (lkOf e).lb, (lkOf e).sg⟩] : List Ev)) Try.underlying81 ty122 rfl rfl rfl (by repeat (first | exact List.mem_cons_self | apply List.mem_cons_of_mem)) Sl.o (by have hol3 := hA.len; first | (simp only [List.length_append, List.length_cons, List.length_nil]; omega) | (have hol4 := hA2.len; simp only [List.length_append, List.length_cons, List.length_nil]; omega)) (by decide) rfl (fun _ _ => (by repeat (first | exact At.head _ _ _ | apply At.tail)))) ?_
        rintro _ _ ⟨ad44, cp45, rfl, rfl⟩
        refine ⟨Fit.sub, ?_⟩
        refine D.step (rs := [13]) (by kernel_rfl) rfl rfl (all1 ?_)
        refine Step.eff rfl (Wanted.plain rfl) (Eff.st (cs := [_, _]) (vs := [_]) (cs' := [_, _]) ty69) ?_
        rintro _ _ ⟨rfl, rfl⟩
        refine ⟨Fit.sub, ?_⟩
        refine D.r 14 rfl (Runs.assign rfl) ?_ (hJ := Fit.sub)
        refine D.done (by kernel_rfl) ?_
        refine V.then ?_
        refine W.sub (L' := [(10, _), (4, _), (9, _)]) (Sub.cons rfl (Sub.cons rfl (Sub.cons rfl Sub.nil))) ?_
        refine W.sr ?_
        refine G.r (Runs.lds (vs := [_, _]) ty71) ?_
        refine G.r (Runs.move rfl) ?_
        refine G.e (Eff.st (cs := [_, _]) (vs := [_, _]) (cs' := [_, _]) ty71) ?_
        rintro _ _ ⟨rfl, rfl⟩
        refine G.r (Runs.assign rfl) ?_
        refine G.r (Runs.assign rfl) ?_
        refine G.nt ?_
        refine W.ret ?_
        have hE : O ++ ([⟨(lkOf e).u, (lkOf e).v, (lkOf e).w, (lkOf e).lb, (lkOf e).sg, (lkOf e).tm⟩] : List Lk) = (stepL xs e) := by first | exact hA.fin (by omega) (by assumption) | exact hA.finIns (by omega) (by assumption)
        exact V.retc2 rfl ty71 rfl rfl rfl (by repeat (first | exact List.mem_cons_self | apply List.mem_cons_of_mem)) rfl (vc 158 (.slice ad41 (stepL xs e).length cp42) (stepL xs e) :: I) (by rw [← hE]; exact Fit.sub) ⟨⟨ad41, cp42, ad44, (chg ++ ([⟨1, e.tm, (lkOf e).u, (lkOf e).v, (lkOf e).w, (lkOf e).lb, (lkOf e).sg⟩] : List Ev)).length, cp45⟩, ⟨by rw [← hE] <;> rfl, by first | (show _ ≤ 2 * xs.length + 1; omega) | (show _ ≤ 2 * xs.length + 1; simp only [List.length_append, List.length_cons, List.length_nil]; omega)⟩, rfl⟩
      ·refine W.skip ?_
       refine V.then ?_
       refine W.sr ?_
       refine G.r (Runs.lds (vs := [_, _]) ty71) ?_
       refine G.r (Runs.move rfl) ?_
       refine G.e (Eff.st (cs := [_, _]) (vs := [_, _]) (cs' := [_, _]) ty71) ?_
       rintro _ _ ⟨rfl, rfl⟩
       refine G.r (Runs.assign rfl) ?_
       refine G.r (Runs.assign rfl) ?_
       refine G.nt ?_
       refine W.sub (L' := [(6, _), (5, _), (4, _)]) (Sub.cons rfl (Sub.cons rfl (Sub.cons rfl Sub.nil))) ?_
       refine W.ret ?_
       have hE : O = (stepL xs e) := by first | exact hA.fin (by omega) (by assumption) | exact hA.finIns (by omega) (by assumption)
       exact V.retc2 rfl ty71 rfl rfl rfl (by repeat (first | exact List.mem_cons_self | apply List.mem_cons_of_mem)) rfl (vc 158 (.slice a1 (stepL xs e).length c1) (stepL xs e) :: I) (by rw [← hE]; exact Fit.sub) ⟨⟨a1, c1, a2, chg.length, c2⟩, ⟨by rw [← hE] <;> rfl, by first | (show _ ≤ 2 * xs.length + 1; omega) | (show _ ≤ 2 * xs.length + 1; simp only [List.length_append, List.length_cons, List.length_nil]; omega)⟩, rfl⟩

end Go.Sl
namespace Go.Sl
open Go.Proofs
set_option linter.unusedVariables false
set_option linter.unusedSimpArgs false
set_option maxRecDepth 4000
set_option maxHeartbeats 1000000 in
theorem All5_base {κ : Ctx} {I : List Item} {nd : Int} {a0 : Option Addr} {c0 : Nat} {xs : List Lk} {va : Value} {es : List Ev} (hl : Sl κ I va es) (hval : checkS nd xs = 0) (hfit : ∀ j : Nat, j < es.length → FitOk nd (at_ es (j : Int))) (hsz : xs.length + es.length ≤ 1000000) :
    CallS Try.prog κ 87 [.agg #[I64 (nd), .slice a0 xs.length c0], va] (vc 158 (.slice a0 xs.length c0) (xs) :: I) (fun r J => ∃ y : Option Addr × Nat × Int, (r = .tuple #[.agg #[I64 nd, .slice y.1 (List.foldl stepL xs es).length y.2.1], I64 y.2.2, I64 0]) ∧ J = vc 158 (.slice y.1 (List.foldl stepL xs es).length y.2.1) (List.foldl stepL xs es) :: I) := by
 refine CallS.enter (L := [(0, .agg #[I64 (nd), .slice a0 xs.length c0]), (1, va)]) Try.func87 rfl rfl rfl rfl ?_
 refine W.sr ?_
 refine G.e (Eff.box (cs := [_, _]) rfl rfl rfl) ?_
 rintro _ _ ⟨b1, rfl, rfl⟩
 refine G.e (Eff.alloc ty71 rfl) ?_
 rintro _ _ ⟨b2, rfl, rfl⟩
 refine G.r (Runs.assign rfl) ?_
 refine G.r (Runs.assign rfl) ?_
 refine G.nt ?_
 refine W.seq ?_
 refine W.sr ?_
 refine G.r (Runs.lds (vs := [_, _]) ty71) ?_
 refine G.e (Eff.call call124 rfl rfl (CheckS5_ok (nd := nd) Sl.o)) ?_
 rintro _ _ ⟨_, _, ⟨rfl, rfl⟩, rfl, rfl⟩
 refine G.r (Runs.assign rfl) ?_
 refine G.nt ?_
 refine W.sr ?_
 refine G.r (Runs.move rfl) ?_
 refine G.r (Runs.neq rfl rfl) ?_
 refine G.nt ?_
 refine W.ite rfl (fun c17 => ?_) (fun c17 => ?_)
 ·exact absurd hval c17
 ·refine W.skip ?_
  refine V.then ?_
  refine W.sr ?_
  refine G.r (Runs.assign rfl) ?_
  refine G.nt ?_
  refine W.seq ?_
  refine W.sr ?_
  refine G.r (Runs.move rfl) ?_
  refine G.r (Runs.lenT (α := Ev) (xs := es) Try.underlying81 rfl (Sl.f hl)) ?_
  refine G.r (Runs.move rfl) ?_
  refine G.nt ?_
  refine W.sub (L' := [(22, _), (21, _), (20, _), (8, _), (4, _), (2, _)]) (Sub.cons rfl (Sub.cons rfl (Sub.cons rfl (Sub.cons rfl (Sub.cons rfl (Sub.cons rfl Sub.nil)))))) ?_
  refine W.block ?_
  refine W.loop (σ := Nat × (Option Addr) × Nat × Int) (fun s => ([(2, .pointer (some ⟨b1, 0, none⟩)), (4, .pointer (some ⟨b2, 0, none⟩)), (8, I64 (s.2.2.2)), (20, va), (21, I64 (((es.length : Nat) : Int))), (22, I64 (((s.1 : Nat) : Int)))] : Env)) (fun s => blk b1 [I64 (nd), .slice s.2.1 (List.foldl stepL xs (List.take s.1 es)).length s.2.2.1] 71 :: vc 158 (.slice s.2.1 (List.foldl stepL xs (List.take s.1 es)).length s.2.2.1) (List.foldl stepL xs (List.take s.1 es)) :: blk b2 [I64 (0), .slice none 0 0] 71 :: I) (fun s => (s.1 ≤ es.length) ∧ (checkS nd (List.foldl stepL xs (List.take s.1 es)) = 0) ∧ (0 ≤ s.2.2.2 ∧ s.2.2.2 ≤ s.1 * 2000001)) (fun s => es.length - s.1) (0, a0, c0, 0) (show ((0 : Nat) ≤ es.length) ∧ (checkS nd (List.foldl stepL xs (List.take (0 : Nat) es)) = 0) ∧ (0 ≤ (0 : Int) ∧ (0 : Int) ≤ (0 : Nat) * 2000001) from ⟨(by omega), hval, (by omega)⟩) (Sub.cons rfl (Sub.cons rfl (Sub.cons lookO (Sub.cons rfl (Sub.cons rfl (Sub.cons lookO Sub.nil)))))) (show Fit κ _ (blk b1 [I64 (nd), .slice (a0) (List.foldl stepL xs (List.take (0) es)).length (c0)] 71 :: vc 158 (.slice (a0) (List.foldl stepL xs (List.take (0) es)).length (c0)) (List.foldl stepL xs (List.take (0) es)) :: blk b2 [I64 (0), .slice none 0 0] 71 :: I) from Fit.s) ?_
  rintro ⟨k, a1, c1, n⟩ hp
  obtain ⟨hk, hv, hn⟩ : (k ≤ es.length) ∧ (checkS nd (List.foldl stepL xs (List.take k es)) = 0) ∧ (0 ≤ n ∧ n ≤ k * 2000001) := hp
  show W Try.prog κ 47 _ _ ([(2, .pointer (some ⟨b1, 0, none⟩)), (4, .pointer (some ⟨b2, 0, none⟩)), (8, I64 (n)), (20, va), (21, I64 (((es.length : Nat) : Int))), (22, I64 (((k : Nat) : Int)))] : Env) (blk b1 [I64 (nd), .slice a1 (List.foldl stepL xs (List.take k es)).length c1] 71 :: vc 158 (.slice a1 (List.foldl stepL xs (List.take k es)).length c1) (List.foldl stepL xs (List.take k es)) :: blk b2 [I64 (0), .slice none 0 0] 71 :: I)
  have hlk := steps_len (List.take k es) xs
  rw [List.length_take] at hlk
  refine W.sr ?_
  refine G.r (Runs.lss rfl rfl) ?_
  refine G.nt ?_
  refine W.seq ?_
  refine W.ite rfl (fun c23 => ?_) (fun c23 => ?_)
  ·refine W.skip ?_
   refine V.then ?_
   refine W.seq ?_
   refine W.block ?_
   refine W.sr ?_
   refine G.r (Runs.move rfl) ?_
   refine G.r (Runs.idx (α := Ev) (xs := es) Try.underlying81 ty122 rfl rfl (Sl.f hl) (by omega) (by omega)) ?_
   refine G.r (Runs.gets (α := Ev) (xs := es) ty122 rfl (Sl.f hl) (by omega) (by omega)) ?_
   refine G.e (Eff.alloc ty122 rfl) ?_
   rintro _ _ ⟨b3, rfl, rfl⟩
   refine G.r (Runs.assign rfl) ?_
   refine G.e (Eff.st (cs := [_, _, _, _, _, _, _]) (vs := [_, _, _, _, _, _, _]) (cs' := [_, _, _, _, _, _, _]) ty122) ?_
   rintro _ _ ⟨rfl, rfl⟩
   refine G.nt ?_
   refine W.sr ?_
   refine G.r (Runs.lds (vs := [_, _]) ty71) ?_
   refine G.r (Runs.lds (vs := [_, _, _, _, _, _, _]) ty122) ?_
   refine G.e (Eff.call call88 rfl rfl (Apply5_ok (nd := nd) (e := (at_ es ((k : Nat) : Int))) Sl.o hv (hfit k (by omega)) (by have hlk := steps_len (List.take k es) xs; rw [List.length_take] at hlk; omega))) ?_
   rintro _ _ ⟨_, _, ⟨⟨ad4, cp5, ad6, nn7, cp8⟩, ⟨rfl, hnn7⟩, rfl⟩, rfl, rfl⟩
   show G Try.prog κ _ _ _ _ ([(30, .tuple #[.agg #[I64 (nd), .slice ad4 (stepL (List.foldl stepL xs (List.take k es)) (at_ es ((k : Nat) : Int))).length cp5], .slice ad6 nn7 cp8, I64 (0)]), (29, .agg #[I64 ((at_ es ((k : Nat) : Int)).kd), I64 ((at_ es ((k : Nat) : Int)).tm), I64 ((at_ es ((k : Nat) : Int)).u), I64 ((at_ es ((k : Nat) : Int)).v), I64 ((at_ es ((k : Nat) : Int)).w), I64 ((at_ es ((k : Nat) : Int)).lb), I64 ((at_ es ((k : Nat) : Int)).sg)]), (28, .agg #[I64 (nd), .slice a1 (List.foldl stepL xs (List.take k es)).length c1]), (9, I64 (((k : Nat) : Int))), (10, .pointer (some ⟨b3, 0, none⟩)), (26, .agg #[I64 ((at_ es ((k : Nat) : Int)).kd), I64 ((at_ es ((k : Nat) : Int)).tm), I64 ((at_ es ((k : Nat) : Int)).u), I64 ((at_ es ((k : Nat) : Int)).v), I64 ((at_ es ((k : Nat) : Int)).w), I64 ((at_ es ((k : Nat) : Int)).lb), I64 ((at_ es ((k : Nat) : Int)).sg)]), (25, elemPtr (va) ((((k : Nat) : Int)).toNat * Enc.sz Ev)), (24, I64 (((k : Nat) : Int))), (23, .bool (decide (((k : Nat) : Int) < ((es.length : Nat) : Int)))), (2, .pointer (some ⟨b1, 0, none⟩)), (4, .pointer (some ⟨b2, 0, none⟩)), (8, I64 (n)), (20, va), (21, I64 (((es.length : Nat) : Int))), (22, I64 (((k : Nat) : Int)))] : Env) (vc 158 (.slice ad4 (stepL (List.foldl stepL xs (List.take k es)) (at_ es ((k : Nat) : Int))).length cp5) (stepL (List.foldl stepL xs (List.take k es)) (at_ es ((k : Nat) : Int))) :: blk b3 [I64 ((at_ es ((k : Nat) : Int)).kd), I64 ((at_ es ((k : Nat) : Int)).tm), I64 ((at_ es ((k : Nat) : Int)).u), I64 ((at_ es ((k : Nat) : Int)).v), I64 ((at_ es ((k : Nat) : Int)).w), I64 ((at_ es ((k : Nat) : Int)).lb), I64 ((at_ es ((k : Nat) : Int)).sg)] 122 :: blk b1 [I64 (nd), .slice a1 (List.foldl stepL xs (List.take k es)).length c1] 71 :: vc 158 (.slice a1 (List.foldl stepL xs (List.take k es)).length c1) (List.foldl stepL xs (List.take k es)) :: blk b2 [I64 (0), .slice none 0 0] 71 :: I)
   have hnn7 : nn7 ≤ 2 * (List.foldl stepL xs (List.take k es)).length + 1 := hnn7
   refine G.r (Runs.move rfl) ?_
   refine G.r (Runs.extract rfl rfl) ?_
   refine G.r (Runs.extract rfl rfl) ?_
   refine G.r (Runs.extract rfl rfl) ?_
   refine G.e (Eff.alloc ty71 rfl) ?_
   rintro _ _ ⟨b9, rfl, rfl⟩
   refine G.e (Eff.st (cs := [_, _]) (vs := [_, _]) (cs' := [_, _]) ty71) ?_
   rintro _ _ ⟨rfl, rfl⟩
   refine G.r (Runs.assign rfl) ?_
   refine G.r (Runs.assign rfl) ?_
   refine G.nt ?_
   refine W.sub (L' := [(13, _), (12, _), (11, _), (9, _), (2, _), (4, _), (8, _), (20, _), (21, _), (22, _)]) (Sub.cons rfl (Sub.cons rfl (Sub.cons rfl (Sub.cons rfl (Sub.cons rfl (Sub.cons rfl (Sub.cons rfl (Sub.cons rfl (Sub.cons rfl (Sub.cons rfl Sub.nil)))))))))) ?_
   refine W.seq ?_
   refine W.sr ?_
   refine G.r (Runs.move rfl) ?_
   refine G.r (Runs.neq rfl rfl) ?_
   refine G.nt ?_
   refine W.ite rfl (fun c35 => ?_) (fun c35 => ?_)
   ·exact absurd rfl c35
   ·refine W.skip ?_
    refine V.then ?_
    refine W.region ?_
    refine G.r (Runs.lds (vs := [_, _]) ty71) ?_
    refine G.r (Runs.move rfl) ?_
    refine G.r (Runs.move rfl) ?_
    refine G.r (Runs.lens Try.underlying81 rfl) ?_
    refine G.r (Runs.add rfl rfl (by unfold InR; omega)) ?_
    refine G.e (Eff.st (cs := [_, _]) (vs := [_, _]) (cs' := [_, _]) ty71) ?_
    rintro _ _ ⟨rfl, rfl⟩
    refine G.r (Runs.assign rfl) ?_
    refine G.nil ?_
    refine V.block_normal ?_
    refine V.then ?_
    refine W.sub (L' := [(8, _), (2, _), (4, _), (20, _), (21, _), (22, _)]) (Sub.cons rfl (Sub.cons rfl (Sub.cons rfl (Sub.cons rfl (Sub.cons rfl (Sub.cons rfl Sub.nil)))))) ?_
    refine W.region ?_
    refine G.r (Runs.add rfl rfl (by unfold InR; omega)) ?_
    refine G.r (Runs.move rfl) ?_
    refine G.nil ?_
    exact V.next ((k + 1), (ad4), (cp5), (n + ((nn7 : Nat) : Int))) (show ((k + 1 : Nat) ≤ es.length) ∧ (checkS nd (List.foldl stepL xs (List.take (k + 1 : Nat) es)) = 0) ∧ (0 ≤ (n + ((nn7 : Nat) : Int) : Int) ∧ (n + ((nn7 : Nat) : Int) : Int) ≤ (k + 1 : Nat) * 2000001) from ⟨(by omega), (by rw [steps_succ (by omega)]; exact stepL_val hv (hfit k (by omega))), (by omega)⟩) (show es.length - (k + 1 : Nat) < es.length - k from (by omega)) (Sub.cons rfl (Sub.cons rfl (Sub.cons lookO (Sub.cons rfl (Sub.cons rfl (Sub.cons lookO Sub.nil)))))) (show Fit κ _ (blk b1 [I64 (nd), .slice (ad4) (List.foldl stepL xs (List.take (k + 1) es)).length (cp5)] 71 :: vc 158 (.slice (ad4) (List.foldl stepL xs (List.take (k + 1) es)).length (cp5)) (List.foldl stepL xs (List.take (k + 1) es)) :: blk b2 [I64 (0), .slice none 0 0] 71 :: I) from (by rw [steps_succ (by omega)]; exact Fit.s))
  ·refine W.exit ?_
   refine V.then_exit ?_
   refine V.then_exit ?_
   refine V.block_hit ?_
   refine V.then ?_
   refine W.sr ?_
   refine G.r (Runs.lds (vs := [_, _]) ty71) ?_
   refine G.r (Runs.move rfl) ?_
   refine G.e (Eff.st (cs := [_, _]) (vs := [_, _]) (cs' := [_, _]) ty71) ?_
   rintro _ _ ⟨rfl, rfl⟩
   refine G.r (Runs.assign rfl) ?_
   refine G.r (Runs.assign rfl) ?_
   refine G.nt ?_
   refine W.ret ?_
   have hk2 : List.take k es = es := List.take_of_length_le (by omega)
   exact V.retc2 rfl ty71 rfl rfl rfl (by repeat (first | exact List.mem_cons_self | apply List.mem_cons_of_mem)) rfl (vc 158 (.slice a1 (List.foldl stepL xs es).length c1) (List.foldl stepL xs es) :: I) (by rw [hk2]; exact Fit.sub) ⟨⟨a1, c1, n⟩, by rw [hk2], rfl⟩

end Go.Sl
