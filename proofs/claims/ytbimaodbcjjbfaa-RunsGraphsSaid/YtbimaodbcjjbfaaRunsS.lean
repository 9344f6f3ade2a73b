/- A part of the proofs of statements of this seat: contracts of functions, and the plain laws that they lean on. No conditions. -/
import Derived.Test.YtbimaodbcjjbfaaRunsT
import Derived.Test.YtbimaodbcjjbfaaRunsW
namespace Go.Sl
open Go.Proofs
set_option linter.unusedVariables false
set_option linter.unusedSimpArgs false
set_option maxRecDepth 4000
theorem patchL_asc (l a c : List Pt) : AscP (patchL l a c) := (Pt.lin.sortB _).sublist List.filter_sublist
theorem patchL_ext {l a c l2 a2 c2 : List Pt} (h : ∀ p, p ∈ patchL l a c ↔ p ∈ patchL l2 a2 c2) : patchL l a c = patchL l2 a2 c2 := Pt.lin.uniq (patchL_asc l a c) (patchL_asc l2 a2 c2) h
theorem patch_two (l a b : List Pt) : patchL (patchL l a []) b [] = patchL l (b ++ a) [] := patchL_ext fun p => by
  simp only [mem_patchL, List.mem_append, List.not_mem_nil, not_false_eq_true, and_true]
  constructor
  · rintro ((h | h) | h) <;> simp [h]
  · rintro (h | h | h) <;> simp [h]
theorem patch_win (l a c : List Pt) : patchL l (a ++ c) c = patchL l a c := patchL_ext fun p => by
  simp only [mem_patchL, List.mem_append]
  constructor
  · rintro ⟨h | h | h, h2⟩
    · exact ⟨.inl h, h2⟩
    · exact ⟨.inr h, h2⟩
    · exact absurd h h2
  · rintro ⟨h | h, h2⟩
    · exact ⟨.inl h, h2⟩
    · exact ⟨.inr (.inl h), h2⟩
theorem patch_again (l a c : List Pt) : patchL l a c = patchL (patchL l a c) [] c := patchL_ext fun p => by
  simp only [mem_patchL, List.not_mem_nil, or_false]
  constructor
  · rintro ⟨h, h2⟩; exact ⟨⟨h, h2⟩, h2⟩
  · rintro ⟨h, _⟩; exact h
theorem right_nil : ∀ p ∈ ([] : List Pt), p.right := fun p hp => by cases hp
theorem right_app {a b : List Pt} (ha : ∀ p ∈ a, p.right) (hb : ∀ p ∈ b, p.right) : ∀ p ∈ a ++ b, p.right := fun p hp => (List.mem_append.1 hp).elim (ha p) (hb p)

set_option maxHeartbeats 4000000 in
theorem RunsPatches_walk {κ : Ctx} {I : List Item} {la : Option Addr} {ln lc : Nat} {ls : List Int} (hl : Sl κ I (.slice la ln lc) ls) :
    CallS Try.prog κ 11 [.slice la ln lc] I (fun r J => r = .bool true ∧ I = J) := by
 refine CallS.enter (L := [(0, .slice la ln lc)]) Try.func11 rfl rfl rfl rfl ?_
 refine W.sr ?_
 refine G.r (Runs.assign rfl) ?_
 refine G.nt ?_
 refine W.seq ?_
 refine W.sr ?_
 refine G.r (Runs.move rfl) ?_
 refine G.e (Eff.call call42 rfl rfl Few_ok) ?_
 rintro _ _ ⟨_, _, ⟨rfl, rfl⟩, rfl, rfl⟩
 refine G.r (Runs.notd rfl) ?_
 refine G.nt ?_
 refine W.ite rfl (fun c21 => ?_) (fun c21 => ?_)
 ·refine W.sr ?_
  refine G.e (Eff.call call43 rfl rfl Awake34_ok) ?_
  rintro _ _ ⟨_, _, ⟨rfl, rfl⟩, rfl, rfl⟩
  refine G.r (Runs.assign rfl) ?_
  refine G.nt ?_
  refine W.ret ?_
  refine V.then_ret ?_
  exact V.ret1 rfl rfl (I) Fit.m ⟨rfl, rfl⟩
 ·refine W.skip ?_
  refine V.then ?_
  refine W.sr ?_
  refine G.r (Runs.move rfl) ?_
  refine G.e (Eff.call call22 rfl rfl New_ok) ?_
  rintro _ _ ⟨_, _, ⟨dk1, rfl, rfl⟩, rfl, rfl⟩
  show G Try.prog κ _ _ _ _ ([(24, .pointer (some ⟨dk1, 0, none⟩)), (23, .slice la ln lc), (21, .bool (decide (¬ (((ln : Nat) : Int) ≤ 500)))), (20, .bool (decide (((ln : Nat) : Int) ≤ 500))), (19, .slice la ln lc), (2, .bool false), (0, .slice la ln lc)] : Env) (blk dk1 [.slice la ln lc, I64 (0)] 129 :: I)
  have hi0 : (0 : Int) ≤ 0 := Int.le_refl _
  refine G.r (Runs.assign rfl) ?_
  refine G.nt ?_
  refine W.sr ?_
  refine G.r (Runs.move rfl) ?_
  refine G.e (Eff.call call44 rfl rfl (MRun_at (by repeat (first | exact AtF.head _ _ | apply AtF.tail)) (fun _ => Sl.fit hl Fit.m) (by omega)  (by omega))) ?_
  rintro _ _ ⟨_, _, ⟨⟨rn2, ad3, cp4, rl5, i6⟩, ⟨⟨rfl, hwrl5⟩, hi6⟩, rfl⟩, rfl, rfl⟩
  show G Try.prog κ _ _ _ _ ([(26, .agg #[I64 (rn2), .slice ad3 rl5.length cp4]), (25, .pointer (some ⟨dk1, 0, none⟩)), (3, .pointer (some ⟨dk1, 0, none⟩)), (24, .pointer (some ⟨dk1, 0, none⟩)), (23, .slice la ln lc), (21, .bool (decide (¬ (((ln : Nat) : Int) ≤ 500)))), (20, .bool (decide (((ln : Nat) : Int) ≤ 500))), (19, .slice la ln lc), (2, .bool false), (0, .slice la ln lc)] : Env) (vc 60 (.slice ad3 rl5.length cp4) (rl5) :: blk dk1 [.slice la ln lc, I64 (i6)] 129 :: I)
  have hi6 : 0 ≤ i6 := hi6
  dsimp only at hwrl5
  refine G.r (Runs.move rfl) ?_
  refine G.e (Eff.call call63 rfl rfl (Records_at (by repeat (first | exact AtF.head _ _ | apply AtF.tail)) (fun _ => Sl.fit hl Fit.m) (by omega)  (by omega))) ?_
  rintro _ _ ⟨_, _, ⟨⟨ad7, cp8, rs9, i10⟩, ⟨⟨rfl, hrrs9⟩, hi10⟩, rfl⟩, rfl, rfl⟩
  show G Try.prog κ _ _ _ _ ([(28, .slice ad7 rs9.length cp8), (27, .pointer (some ⟨dk1, 0, none⟩)), (26, .agg #[I64 (rn2), .slice ad3 rl5.length cp4]), (25, .pointer (some ⟨dk1, 0, none⟩)), (3, .pointer (some ⟨dk1, 0, none⟩)), (24, .pointer (some ⟨dk1, 0, none⟩)), (23, .slice la ln lc), (21, .bool (decide (¬ (((ln : Nat) : Int) ≤ 500)))), (20, .bool (decide (((ln : Nat) : Int) ≤ 500))), (19, .slice la ln lc), (2, .bool false), (0, .slice la ln lc)] : Env) (vc 60 (.slice ad7 rs9.length cp8) (rs9) :: vc 60 (.slice ad3 rl5.length cp4) (rl5) :: blk dk1 [.slice la ln lc, I64 (i10)] 129 :: I)
  have hi10 : 0 ≤ i10 := hi10
  dsimp only at hrrs9
  refine G.r (Runs.move rfl) ?_
  refine G.e (Eff.call call63 rfl rfl (Records_at (by repeat (first | exact AtF.head _ _ | apply AtF.tail)) (fun _ => Sl.fit hl Fit.m) (by omega)  (by omega))) ?_
  rintro _ _ ⟨_, _, ⟨⟨ad11, cp12, rs13, i14⟩, ⟨⟨rfl, hrrs13⟩, hi14⟩, rfl⟩, rfl, rfl⟩
  show G Try.prog κ _ _ _ _ ([(30, .slice ad11 rs13.length cp12), (29, .pointer (some ⟨dk1, 0, none⟩)), (28, .slice ad7 rs9.length cp8), (27, .pointer (some ⟨dk1, 0, none⟩)), (26, .agg #[I64 (rn2), .slice ad3 rl5.length cp4]), (25, .pointer (some ⟨dk1, 0, none⟩)), (3, .pointer (some ⟨dk1, 0, none⟩)), (24, .pointer (some ⟨dk1, 0, none⟩)), (23, .slice la ln lc), (21, .bool (decide (¬ (((ln : Nat) : Int) ≤ 500)))), (20, .bool (decide (((ln : Nat) : Int) ≤ 500))), (19, .slice la ln lc), (2, .bool false), (0, .slice la ln lc)] : Env) (vc 60 (.slice ad11 rs13.length cp12) (rs13) :: vc 60 (.slice ad7 rs9.length cp8) (rs9) :: vc 60 (.slice ad3 rl5.length cp4) (rl5) :: blk dk1 [.slice la ln lc, I64 (i14)] 129 :: I)
  have hi14 : 0 ≤ i14 := hi14
  dsimp only at hrrs13
  refine G.r (Runs.move rfl) ?_
  refine G.e (Eff.call call63 rfl rfl (Records_at (by repeat (first | exact AtF.head _ _ | apply AtF.tail)) (fun _ => Sl.fit hl Fit.m) (by omega)  (by omega))) ?_
  rintro _ _ ⟨_, _, ⟨⟨ad15, cp16, rs17, i18⟩, ⟨⟨rfl, hrrs17⟩, hi18⟩, rfl⟩, rfl, rfl⟩
  show G Try.prog κ _ _ _ _ ([(32, .slice ad15 rs17.length cp16), (31, .pointer (some ⟨dk1, 0, none⟩)), (30, .slice ad11 rs13.length cp12), (29, .pointer (some ⟨dk1, 0, none⟩)), (28, .slice ad7 rs9.length cp8), (27, .pointer (some ⟨dk1, 0, none⟩)), (26, .agg #[I64 (rn2), .slice ad3 rl5.length cp4]), (25, .pointer (some ⟨dk1, 0, none⟩)), (3, .pointer (some ⟨dk1, 0, none⟩)), (24, .pointer (some ⟨dk1, 0, none⟩)), (23, .slice la ln lc), (21, .bool (decide (¬ (((ln : Nat) : Int) ≤ 500)))), (20, .bool (decide (((ln : Nat) : Int) ≤ 500))), (19, .slice la ln lc), (2, .bool false), (0, .slice la ln lc)] : Env) (vc 60 (.slice ad15 rs17.length cp16) (rs17) :: vc 60 (.slice ad11 rs13.length cp12) (rs13) :: vc 60 (.slice ad7 rs9.length cp8) (rs9) :: vc 60 (.slice ad3 rl5.length cp4) (rl5) :: blk dk1 [.slice la ln lc, I64 (i18)] 129 :: I)
  have hi18 : 0 ≤ i18 := hi18
  dsimp only at hrrs17
  refine G.e (Eff.alloc ty57 rfl) ?_
  rintro _ _ ⟨b19, rfl, rfl⟩
  refine G.e (Eff.st (cs := [_, _]) (vs := [_, _]) (cs' := [_, _]) ty57) ?_
  rintro _ _ ⟨rfl, rfl⟩
  refine G.r (Runs.assign rfl) ?_
  refine G.r (Runs.assign rfl) ?_
  refine G.r (Runs.assign rfl) ?_
  have hv := hwrl5.ok
  have hlen := hwrl5.len
  have hR5 : ∀ p ∈ rs9, p.right := fun p hp => (hrrs9.1 p hp).1
  have hL5 := hrrs9.2
  have hR6 : ∀ p ∈ rs13, p.right := fun p hp => (hrrs13.1 p hp).1
  have hL6 := hrrs13.2
  have hR7 : ∀ p ∈ rs17, p.right := fun p hp => (hrrs17.1 p hp).1
  have hL7 := hrrs17.2
  refine G.nt ?_
  refine W.sub (L' := [(7, _), (6, _), (5, _), (4, _)]) (Sub.cons rfl (Sub.cons rfl (Sub.cons rfl (Sub.cons rfl Sub.nil)))) ?_
  refine W.sr ?_
  refine G.r (Runs.lds (vs := [_, _]) ty57) ?_
  refine G.r (Runs.move rfl) ?_
  refine G.e (Eff.call call66 rfl rfl (Patch_ok (l := rl5) (add := rs9) (cut := ([] : List Pt)) Sl.o Sl.o (Sl.nil _) (by repeat (first | assumption | exact right_nil | refine RunOk.patch ?_ ?_ | refine right_app ?_ ?_)) (by repeat (first | assumption | exact right_nil | refine RunOk.patch ?_ ?_ | refine right_app ?_ ?_)) (by repeat (first | assumption | exact right_nil | refine RunOk.patch ?_ ?_ | refine right_app ?_ ?_)) (by simp only [List.length_append, List.length_nil] at *; omega))) ?_
  rintro _ _ ⟨_, _, ⟨ad20, cp21, rfl, rfl⟩, rfl, rfl⟩
  have hplad20 := patchL_len rl5 rs9 ([] : List Pt)
  refine G.r (Runs.move rfl) ?_
  refine G.r (Runs.extract rfl rfl) ?_
  refine G.r (Runs.extract rfl rfl) ?_
  refine G.e (Eff.alloc ty57 rfl) ?_
  rintro _ _ ⟨b22, rfl, rfl⟩
  refine G.e (Eff.st (cs := [_, _]) (vs := [_, _]) (cs' := [_, _]) ty57) ?_
  rintro _ _ ⟨rfl, rfl⟩
  refine G.r (Runs.assign rfl) ?_
  refine G.nt ?_
  refine W.sr ?_
  refine G.r (Runs.lds (vs := [_, _]) ty57) ?_
  refine G.r (Runs.move rfl) ?_
  refine G.e (Eff.call call66 rfl rfl (Patch_ok (l := patchL rl5 rs9 ([] : List Pt)) (add := rs13) (cut := ([] : List Pt)) Sl.o Sl.o (Sl.nil _) (by repeat (first | assumption | exact right_nil | refine RunOk.patch ?_ ?_ | refine right_app ?_ ?_)) (by repeat (first | assumption | exact right_nil | refine RunOk.patch ?_ ?_ | refine right_app ?_ ?_)) (by repeat (first | assumption | exact right_nil | refine RunOk.patch ?_ ?_ | refine right_app ?_ ?_)) (by simp only [List.length_append, List.length_nil] at *; omega))) ?_
  rintro _ _ ⟨_, _, ⟨ad23, cp24, rfl, rfl⟩, rfl, rfl⟩
  have hplad23 := patchL_len (patchL rl5 rs9 ([] : List Pt)) rs13 ([] : List Pt)
  refine G.r (Runs.move rfl) ?_
  refine G.r (Runs.extract rfl rfl) ?_
  refine G.r (Runs.extract rfl rfl) ?_
  refine G.e (Eff.st (cs := [_, _]) (vs := [_, _]) (cs' := [_, _]) ty57) ?_
  rintro _ _ ⟨rfl, rfl⟩
  refine G.r (Runs.assign rfl) ?_
  refine G.nt ?_
  refine W.sub (L' := [(10, _), (9, _), (8, _), (7, _), (6, _), (5, _), (4, _)]) (Sub.cons rfl (Sub.cons rfl (Sub.cons rfl (Sub.cons rfl (Sub.cons rfl (Sub.cons rfl (Sub.cons rfl Sub.nil))))))) ?_
  refine W.cut (σ := Nat × (Option Addr) × Nat) (fun s => ([(4, .pointer (some ⟨b19, 0, none⟩)), (5, .slice ad7 rs9.length cp8), (7, .slice ad15 rs17.length cp16), (8, .pointer (some ⟨b22, 0, none⟩)), (9, I64 (0)), (10, I64 (0)), (11, .pointer (some ⟨s.1, 0, none⟩)), (12, I64 (0))] : Env)) (fun s => blk s.1 [I64 (rn2), .slice s.2.1 (patchL rl5 (rs13 ++ rs9) []).length s.2.2] 57 :: vc 60 (.slice s.2.1 (patchL rl5 (rs13 ++ rs9) []).length s.2.2) (patchL rl5 (rs13 ++ rs9) []) :: vc 60 (.slice ad23 (patchL (patchL rl5 rs9 ([] : List Pt)) rs13 ([] : List Pt)).length cp24) (patchL (patchL rl5 rs9 ([] : List Pt)) rs13 ([] : List Pt)) :: blk b22 [I64 (rn2), .slice ad23 (patchL (patchL rl5 rs9 ([] : List Pt)) rs13 ([] : List Pt)).length cp24] 57 :: vc 60 (.slice ad20 (patchL rl5 rs9 ([] : List Pt)).length cp21) (patchL rl5 rs9 ([] : List Pt)) :: blk b19 [I64 (rn2), .slice ad3 rl5.length cp4] 57 :: vc 60 (.slice ad15 rs17.length cp16) (rs17) :: vc 60 (.slice ad11 rs13.length cp12) (rs13) :: vc 60 (.slice ad7 rs9.length cp8) (rs9) :: vc 60 (.slice ad3 rl5.length cp4) (rl5) :: blk dk1 [.slice la ln lc, I64 (i18)] 129 :: I) (fun s => True) ?_ ?_
  ·refine W.drawn mixed ?_
   refine A.hold (vc 60 (.slice ad23 (patchL (patchL rl5 rs9 ([] : List Pt)) rs13 ([] : List Pt)).length cp24) (patchL (patchL rl5 rs9 ([] : List Pt)) rs13 ([] : List Pt)) :: blk b22 [I64 (rn2), .slice ad23 (patchL (patchL rl5 rs9 ([] : List Pt)) rs13 ([] : List Pt)).length cp24] 57 :: vc 60 (.slice ad20 (patchL rl5 rs9 ([] : List Pt)).length cp21) (patchL rl5 rs9 ([] : List Pt)) :: blk b19 [I64 (rn2), .slice ad3 rl5.length cp4] 57 :: vc 60 (.slice ad15 rs17.length cp16) (rs17) :: vc 60 (.slice ad11 rs13.length cp12) (rs13) :: vc 60 (.slice ad7 rs9.length cp8) (rs9) :: vc 60 (.slice ad3 rl5.length cp4) (rl5) :: blk dk1 [.slice la ln lc, I64 (i18)] 129 :: I) 11 ?_
   refine D.r 0 rfl (Runs.lds (vs := [_, _]) ty57) ?_ (hJ := Fit.sub)
   refine D.r 1 rfl (Runs.move rfl) ?_ (hJ := Fit.sub)
   refine D.r 3 rfl (Runs.move rfl) ?_ (hJ := Fit.sub)
   refine D.step (rs := [2, 9]) (by kernel_rfl) rfl rfl (all2 ?_ (all1 ?_))
   ·refine Step.eff rfl (Wanted.plain rfl) (Eff.clone (α := Pt) (ys := rs13) Try.underlying55 ty60 rfl rfl rfl Sl.o (by first | omega | (simp only [List.length_append, List.length_nil]; omega)) (by decide) rfl) ?_
    rintro _ _ ⟨ad25, cp26, rfl, rfl⟩
    refine ⟨Fit.sub, ?_⟩
    refine D.step (rs := [4, 9]) (by kernel_rfl) rfl rfl (all2 ?_ (all1 ?_))
    ·refine Step.eff rfl (Wanted.plain rfl) (Eff.app (α := Pt) (e := 60) (xs := rs13) (ys := rs9) Try.underlying55 ty60 rfl rfl rfl (by repeat (first | exact List.mem_cons_self | apply List.mem_cons_of_mem)) Sl.o (by first | omega | (simp only [List.length_append, List.length_nil]; omega)) (by decide) rfl (fun _ _ => (by repeat (first | exact At.head _ _ _ | apply At.tail)))) ?_
     rintro _ _ ⟨ad27, cp28, rfl, rfl⟩
     refine ⟨Fit.sub, ?_⟩
     refine D.step (rs := [5, 9]) (by kernel_rfl) rfl rfl (all2 ?_ (all1 ?_))
     ·refine Step.eff rfl (Wanted.plain rfl) (Eff.call call66 rfl rfl (Patch_ok (l := rl5) (add := rs13 ++ rs9) (cut := ([] : List Pt)) Sl.o Sl.o (Sl.nil _) (by repeat (first | assumption | exact right_nil | refine RunOk.patch ?_ ?_ | refine right_app ?_ ?_)) (by repeat (first | assumption | exact right_nil | refine RunOk.patch ?_ ?_ | refine right_app ?_ ?_)) (by repeat (first | assumption | exact right_nil | refine RunOk.patch ?_ ?_ | refine right_app ?_ ?_)) (by simp only [List.length_append, List.length_nil] at *; omega))) ?_
      rintro _ _ ⟨_, _, ⟨ad29, cp30, rfl, rfl⟩, rfl, rfl⟩
      refine ⟨Fit.sub, ?_⟩
      have hplad29 := patchL_len rl5 (rs13 ++ rs9) ([] : List Pt)
      refine D.r 6 rfl (Runs.move rfl) ?_ (hJ := Fit.sub)
      refine D.r 7 rfl (Runs.extract rfl rfl) ?_ (hJ := Fit.sub)
      refine D.r 8 rfl (Runs.extract rfl rfl) ?_ (hJ := Fit.sub)
      refine D.step (rs := [9]) (by kernel_rfl) rfl rfl (all1 ?_)
      refine Step.eff rfl (Wanted.plain rfl) (Eff.alloc ty57 rfl) ?_
      rintro _ _ ⟨b31, rfl, rfl⟩
      refine ⟨Fit.sub, ?_⟩
      refine D.step (rs := [10]) (by kernel_rfl) rfl rfl (all1 ?_)
      refine Step.eff rfl (Wanted.plain rfl) (Eff.st (cs := [_, _]) (vs := [_, _]) (cs' := [_, _]) ty57) ?_
      rintro _ _ ⟨rfl, rfl⟩
      refine ⟨Fit.sub, ?_⟩
      refine D.stop (by kernel_rfl) ?_
      refine A.read (i := 11) (by kernel_rfl) rfl (Wanted.plain rfl) rfl rfl (Runs.assign rfl) ?_
      refine A.done (by kernel_rfl) ?_
      exact V.mid ((b31), (ad29), (cp30)) (show True from trivial) (Sub.cons rfl (Sub.cons rfl (Sub.cons rfl (Sub.cons rfl (Sub.cons rfl (Sub.cons rfl (Sub.cons (lookV rfl (by first | rfl | simp)) (Sub.cons rfl Sub.nil)))))))) (show Fit κ _ (blk (b31) [I64 (rn2), .slice (ad29) (patchL rl5 (rs13 ++ rs9) []).length (cp30)] 57 :: vc 60 (.slice (ad29) (patchL rl5 (rs13 ++ rs9) []).length (cp30)) (patchL rl5 (rs13 ++ rs9) []) :: vc 60 (.slice ad23 (patchL (patchL rl5 rs9 ([] : List Pt)) rs13 ([] : List Pt)).length cp24) (patchL (patchL rl5 rs9 ([] : List Pt)) rs13 ([] : List Pt)) :: blk b22 [I64 (rn2), .slice ad23 (patchL (patchL rl5 rs9 ([] : List Pt)) rs13 ([] : List Pt)).length cp24] 57 :: vc 60 (.slice ad20 (patchL rl5 rs9 ([] : List Pt)).length cp21) (patchL rl5 rs9 ([] : List Pt)) :: blk b19 [I64 (rn2), .slice ad3 rl5.length cp4] 57 :: vc 60 (.slice ad15 rs17.length cp16) (rs17) :: vc 60 (.slice ad11 rs13.length cp12) (rs13) :: vc 60 (.slice ad7 rs9.length cp8) (rs9) :: vc 60 (.slice ad3 rl5.length cp4) (rl5) :: blk dk1 [.slice la ln lc, I64 (i18)] 129 :: I) from Fit.s)
     ·refine Step.eff rfl (Wanted.plain rfl) (Eff.alloc ty57 rfl) ?_
      rintro _ _ ⟨b32, rfl, rfl⟩
      refine ⟨Fit.sub, ?_⟩
      refine D.step (rs := [5]) (by kernel_rfl) rfl rfl (all1 ?_)
      refine Step.eff rfl (Wanted.plain rfl) (Eff.call call66 rfl rfl (Patch_ok (l := rl5) (add := rs13 ++ rs9) (cut := ([] : List Pt)) Sl.o Sl.o (Sl.nil _) (by repeat (first | assumption | exact right_nil | refine RunOk.patch ?_ ?_ | refine right_app ?_ ?_)) (by repeat (first | assumption | exact right_nil | refine RunOk.patch ?_ ?_ | refine right_app ?_ ?_)) (by repeat (first | assumption | exact right_nil | refine RunOk.patch ?_ ?_ | refine right_app ?_ ?_)) (by simp only [List.length_append, List.length_nil] at *; omega))) ?_
      rintro _ _ ⟨_, _, ⟨ad33, cp34, rfl, rfl⟩, rfl, rfl⟩
      refine ⟨Fit.sub, ?_⟩
      have hplad33 := patchL_len rl5 (rs13 ++ rs9) ([] : List Pt)
      refine D.r 6 rfl (Runs.move rfl) ?_ (hJ := Fit.sub)
      refine D.r 7 rfl (Runs.extract rfl rfl) ?_ (hJ := Fit.sub)
      refine D.r 8 rfl (Runs.extract rfl rfl) ?_ (hJ := Fit.sub)
      refine D.step (rs := [10]) (by kernel_rfl) rfl rfl (all1 ?_)
      refine Step.eff rfl (Wanted.plain rfl) (Eff.st (cs := [_, _]) (vs := [_, _]) (cs' := [_, _]) ty57) ?_
      rintro _ _ ⟨rfl, rfl⟩
      refine ⟨Fit.sub, ?_⟩
      refine D.stop (by kernel_rfl) ?_
      refine A.read (i := 11) (by kernel_rfl) rfl (Wanted.plain rfl) rfl rfl (Runs.assign rfl) ?_
      refine A.done (by kernel_rfl) ?_
      exact V.mid ((b32), (ad33), (cp34)) (show True from trivial) (Sub.cons rfl (Sub.cons rfl (Sub.cons rfl (Sub.cons rfl (Sub.cons rfl (Sub.cons rfl (Sub.cons (lookV rfl (by first | rfl | simp)) (Sub.cons rfl Sub.nil)))))))) (show Fit κ _ (blk (b32) [I64 (rn2), .slice (ad33) (patchL rl5 (rs13 ++ rs9) []).length (cp34)] 57 :: vc 60 (.slice (ad33) (patchL rl5 (rs13 ++ rs9) []).length (cp34)) (patchL rl5 (rs13 ++ rs9) []) :: vc 60 (.slice ad23 (patchL (patchL rl5 rs9 ([] : List Pt)) rs13 ([] : List Pt)).length cp24) (patchL (patchL rl5 rs9 ([] : List Pt)) rs13 ([] : List Pt)) :: blk b22 [I64 (rn2), .slice ad23 (patchL (patchL rl5 rs9 ([] : List Pt)) rs13 ([] : List Pt)).length cp24] 57 :: vc 60 (.slice ad20 (patchL rl5 rs9 ([] : List Pt)).length cp21) (patchL rl5 rs9 ([] : List Pt)) :: blk b19 [I64 (rn2), .slice ad3 rl5.length cp4] 57 :: vc 60 (.slice ad15 rs17.length cp16) (rs17) :: vc 60 (.slice ad11 rs13.length cp12) (rs13) :: vc 60 (.slice ad7 rs9.length cp8) (rs9) :: vc 60 (.slice ad3 rl5.length cp4) (rl5) :: blk dk1 [.slice la ln lc, I64 (i18)] 129 :: I) from Fit.s)
    ·refine Step.eff rfl (Wanted.plain rfl) (Eff.alloc ty57 rfl) ?_
     rintro _ _ ⟨b35, rfl, rfl⟩
     refine ⟨Fit.sub, ?_⟩
     refine D.step (rs := [4]) (by kernel_rfl) rfl rfl (all1 ?_)
     refine Step.eff rfl (Wanted.plain rfl) (Eff.app (α := Pt) (e := 60) (xs := rs13) (ys := rs9) Try.underlying55 ty60 rfl rfl rfl (by repeat (first | exact List.mem_cons_self | apply List.mem_cons_of_mem)) Sl.o (by first | omega | (simp only [List.length_append, List.length_nil]; omega)) (by decide) rfl (fun _ _ => (by repeat (first | exact At.head _ _ _ | apply At.tail)))) ?_
     rintro _ _ ⟨ad36, cp37, rfl, rfl⟩
     refine ⟨Fit.sub, ?_⟩
     refine D.step (rs := [5]) (by kernel_rfl) rfl rfl (all1 ?_)
     refine Step.eff rfl (Wanted.plain rfl) (Eff.call call66 rfl rfl (Patch_ok (l := rl5) (add := rs13 ++ rs9) (cut := ([] : List Pt)) Sl.o Sl.o (Sl.nil _) (by repeat (first | assumption | exact right_nil | refine RunOk.patch ?_ ?_ | refine right_app ?_ ?_)) (by repeat (first | assumption | exact right_nil | refine RunOk.patch ?_ ?_ | refine right_app ?_ ?_)) (by repeat (first | assumption | exact right_nil | refine RunOk.patch ?_ ?_ | refine right_app ?_ ?_)) (by simp only [List.length_append, List.length_nil] at *; omega))) ?_
     rintro _ _ ⟨_, _, ⟨ad38, cp39, rfl, rfl⟩, rfl, rfl⟩
     refine ⟨Fit.sub, ?_⟩
     have hplad38 := patchL_len rl5 (rs13 ++ rs9) ([] : List Pt)
     refine D.r 6 rfl (Runs.move rfl) ?_ (hJ := Fit.sub)
     refine D.r 7 rfl (Runs.extract rfl rfl) ?_ (hJ := Fit.sub)
     refine D.r 8 rfl (Runs.extract rfl rfl) ?_ (hJ := Fit.sub)
     refine D.step (rs := [10]) (by kernel_rfl) rfl rfl (all1 ?_)
     refine Step.eff rfl (Wanted.plain rfl) (Eff.st (cs := [_, _]) (vs := [_, _]) (cs' := [_, _]) ty57) ?_
     rintro _ _ ⟨rfl, rfl⟩
     refine ⟨Fit.sub, ?_⟩
     refine D.stop (by kernel_rfl) ?_
     refine A.read (i := 11) (by kernel_rfl) rfl (Wanted.plain rfl) rfl rfl (Runs.assign rfl) ?_
     refine A.done (by kernel_rfl) ?_
     exact V.mid ((b35), (ad38), (cp39)) (show True from trivial) (Sub.cons rfl (Sub.cons rfl (Sub.cons rfl (Sub.cons rfl (Sub.cons rfl (Sub.cons rfl (Sub.cons (lookV rfl (by first | rfl | simp)) (Sub.cons rfl Sub.nil)))))))) (show Fit κ _ (blk (b35) [I64 (rn2), .slice (ad38) (patchL rl5 (rs13 ++ rs9) []).length (cp39)] 57 :: vc 60 (.slice (ad38) (patchL rl5 (rs13 ++ rs9) []).length (cp39)) (patchL rl5 (rs13 ++ rs9) []) :: vc 60 (.slice ad23 (patchL (patchL rl5 rs9 ([] : List Pt)) rs13 ([] : List Pt)).length cp24) (patchL (patchL rl5 rs9 ([] : List Pt)) rs13 ([] : List Pt)) :: blk b22 [I64 (rn2), .slice ad23 (patchL (patchL rl5 rs9 ([] : List Pt)) rs13 ([] : List Pt)).length cp24] 57 :: vc 60 (.slice ad20 (patchL rl5 rs9 ([] : List Pt)).length cp21) (patchL rl5 rs9 ([] : List Pt)) :: blk b19 [I64 (rn2), .slice ad3 rl5.length cp4] 57 :: vc 60 (.slice ad15 rs17.length cp16) (rs17) :: vc 60 (.slice ad11 rs13.length cp12) (rs13) :: vc 60 (.slice ad7 rs9.length cp8) (rs9) :: vc 60 (.slice ad3 rl5.length cp4) (rl5) :: blk dk1 [.slice la ln lc, I64 (i18)] 129 :: I) from Fit.s)
   ·refine Step.eff rfl (Wanted.plain rfl) (Eff.alloc ty57 rfl) ?_
    rintro _ _ ⟨b40, rfl, rfl⟩
    refine ⟨Fit.sub, ?_⟩
    refine D.step (rs := [2]) (by kernel_rfl) rfl rfl (all1 ?_)
    refine Step.eff rfl (Wanted.plain rfl) (Eff.clone (α := Pt) (ys := rs13) Try.underlying55 ty60 rfl rfl rfl Sl.o (by first | omega | (simp only [List.length_append, List.length_nil]; omega)) (by decide) rfl) ?_
    rintro _ _ ⟨ad41, cp42, rfl, rfl⟩
    refine ⟨Fit.sub, ?_⟩
    refine D.step (rs := [4]) (by kernel_rfl) rfl rfl (all1 ?_)
    refine Step.eff rfl (Wanted.plain rfl) (Eff.app (α := Pt) (e := 60) (xs := rs13) (ys := rs9) Try.underlying55 ty60 rfl rfl rfl (by repeat (first | exact List.mem_cons_self | apply List.mem_cons_of_mem)) Sl.o (by first | omega | (simp only [List.length_append, List.length_nil]; omega)) (by decide) rfl (fun _ _ => (by repeat (first | exact At.head _ _ _ | apply At.tail)))) ?_
    rintro _ _ ⟨ad43, cp44, rfl, rfl⟩
    refine ⟨Fit.sub, ?_⟩
    refine D.step (rs := [5]) (by kernel_rfl) rfl rfl (all1 ?_)
    refine Step.eff rfl (Wanted.plain rfl) (Eff.call call66 rfl rfl (Patch_ok (l := rl5) (add := rs13 ++ rs9) (cut := ([] : List Pt)) Sl.o Sl.o (Sl.nil _) (by repeat (first | assumption | exact right_nil | refine RunOk.patch ?_ ?_ | refine right_app ?_ ?_)) (by repeat (first | assumption | exact right_nil | refine RunOk.patch ?_ ?_ | refine right_app ?_ ?_)) (by repeat (first | assumption | exact right_nil | refine RunOk.patch ?_ ?_ | refine right_app ?_ ?_)) (by simp only [List.length_append, List.length_nil] at *; omega))) ?_
    rintro _ _ ⟨_, _, ⟨ad45, cp46, rfl, rfl⟩, rfl, rfl⟩
    refine ⟨Fit.sub, ?_⟩
    have hplad45 := patchL_len rl5 (rs13 ++ rs9) ([] : List Pt)
    refine D.r 6 rfl (Runs.move rfl) ?_ (hJ := Fit.sub)
    refine D.r 7 rfl (Runs.extract rfl rfl) ?_ (hJ := Fit.sub)
    refine D.r 8 rfl (Runs.extract rfl rfl) ?_ (hJ := Fit.sub)
    refine D.step (rs := [10]) (by kernel_rfl) rfl rfl (all1 ?_)
    refine Step.eff rfl (Wanted.plain rfl) (Eff.st (cs := [_, _]) (vs := [_, _]) (cs' := [_, _]) ty57) ?_
    rintro _ _ ⟨rfl, rfl⟩
    refine ⟨Fit.sub, ?_⟩
    refine D.stop (by kernel_rfl) ?_
    refine A.read (i := 11) (by kernel_rfl) rfl (Wanted.plain rfl) rfl rfl (Runs.assign rfl) ?_
    refine A.done (by kernel_rfl) ?_
    exact V.mid ((b40), (ad45), (cp46)) (show True from trivial) (Sub.cons rfl (Sub.cons rfl (Sub.cons rfl (Sub.cons rfl (Sub.cons rfl (Sub.cons rfl (Sub.cons (lookV rfl (by first | rfl | simp)) (Sub.cons rfl Sub.nil)))))))) (show Fit κ _ (blk (b40) [I64 (rn2), .slice (ad45) (patchL rl5 (rs13 ++ rs9) []).length (cp46)] 57 :: vc 60 (.slice (ad45) (patchL rl5 (rs13 ++ rs9) []).length (cp46)) (patchL rl5 (rs13 ++ rs9) []) :: vc 60 (.slice ad23 (patchL (patchL rl5 rs9 ([] : List Pt)) rs13 ([] : List Pt)).length cp24) (patchL (patchL rl5 rs9 ([] : List Pt)) rs13 ([] : List Pt)) :: blk b22 [I64 (rn2), .slice ad23 (patchL (patchL rl5 rs9 ([] : List Pt)) rs13 ([] : List Pt)).length cp24] 57 :: vc 60 (.slice ad20 (patchL rl5 rs9 ([] : List Pt)).length cp21) (patchL rl5 rs9 ([] : List Pt)) :: blk b19 [I64 (rn2), .slice ad3 rl5.length cp4] 57 :: vc 60 (.slice ad15 rs17.length cp16) (rs17) :: vc 60 (.slice ad11 rs13.length cp12) (rs13) :: vc 60 (.slice ad7 rs9.length cp8) (rs9) :: vc 60 (.slice ad3 rl5.length cp4) (rl5) :: blk dk1 [.slice la ln lc, I64 (i18)] 129 :: I) from Fit.s)
  ·rintro ⟨byy_, ayy, cyy⟩ hp
   show W Try.prog κ 117 _ _ ([(4, .pointer (some ⟨b19, 0, none⟩)), (5, .slice ad7 rs9.length cp8), (7, .slice ad15 rs17.length cp16), (8, .pointer (some ⟨b22, 0, none⟩)), (9, I64 (0)), (10, I64 (0)), (11, .pointer (some ⟨byy_, 0, none⟩)), (12, I64 (0))] : Env) (blk byy_ [I64 (rn2), .slice ayy (patchL rl5 (rs13 ++ rs9) []).length cyy] 57 :: vc 60 (.slice ayy (patchL rl5 (rs13 ++ rs9) []).length cyy) (patchL rl5 (rs13 ++ rs9) []) :: vc 60 (.slice ad23 (patchL (patchL rl5 rs9 ([] : List Pt)) rs13 ([] : List Pt)).length cp24) (patchL (patchL rl5 rs9 ([] : List Pt)) rs13 ([] : List Pt)) :: blk b22 [I64 (rn2), .slice ad23 (patchL (patchL rl5 rs9 ([] : List Pt)) rs13 ([] : List Pt)).length cp24] 57 :: vc 60 (.slice ad20 (patchL rl5 rs9 ([] : List Pt)).length cp21) (patchL rl5 rs9 ([] : List Pt)) :: blk b19 [I64 (rn2), .slice ad3 rl5.length cp4] 57 :: vc 60 (.slice ad15 rs17.length cp16) (rs17) :: vc 60 (.slice ad11 rs13.length cp12) (rs13) :: vc 60 (.slice ad7 rs9.length cp8) (rs9) :: vc 60 (.slice ad3 rl5.length cp4) (rl5) :: blk dk1 [.slice la ln lc, I64 (i18)] 129 :: I)
   refine W.cut (σ := Nat × (Option Addr) × Nat) (fun s => ([(4, .pointer (some ⟨b19, 0, none⟩)), (5, .slice ad7 rs9.length cp8), (7, .slice ad15 rs17.length cp16), (8, .pointer (some ⟨b22, 0, none⟩)), (9, I64 (0)), (10, I64 (0)), (11, .pointer (some ⟨byy_, 0, none⟩)), (12, I64 (0)), (13, .pointer (some ⟨s.1, 0, none⟩)), (14, I64 (0))] : Env)) (fun s => blk s.1 [I64 (rn2), .slice s.2.1 (patchL rl5 (rs9 ++ rs17) rs17).length s.2.2] 57 :: vc 60 (.slice s.2.1 (patchL rl5 (rs9 ++ rs17) rs17).length s.2.2) (patchL rl5 (rs9 ++ rs17) rs17) :: blk byy_ [I64 (rn2), .slice ayy (patchL rl5 (rs13 ++ rs9) []).length cyy] 57 :: vc 60 (.slice ayy (patchL rl5 (rs13 ++ rs9) []).length cyy) (patchL rl5 (rs13 ++ rs9) []) :: vc 60 (.slice ad23 (patchL (patchL rl5 rs9 ([] : List Pt)) rs13 ([] : List Pt)).length cp24) (patchL (patchL rl5 rs9 ([] : List Pt)) rs13 ([] : List Pt)) :: blk b22 [I64 (rn2), .slice ad23 (patchL (patchL rl5 rs9 ([] : List Pt)) rs13 ([] : List Pt)).length cp24] 57 :: vc 60 (.slice ad20 (patchL rl5 rs9 ([] : List Pt)).length cp21) (patchL rl5 rs9 ([] : List Pt)) :: blk b19 [I64 (rn2), .slice ad3 rl5.length cp4] 57 :: vc 60 (.slice ad15 rs17.length cp16) (rs17) :: vc 60 (.slice ad11 rs13.length cp12) (rs13) :: vc 60 (.slice ad7 rs9.length cp8) (rs9) :: vc 60 (.slice ad3 rl5.length cp4) (rl5) :: blk dk1 [.slice la ln lc, I64 (i18)] 129 :: I) (fun s => True) ?_ ?_
   ·refine W.drawn mixed ?_
    refine A.hold (blk byy_ [I64 (rn2), .slice ayy (patchL rl5 (rs13 ++ rs9) []).length cyy] 57 :: vc 60 (.slice ayy (patchL rl5 (rs13 ++ rs9) []).length cyy) (patchL rl5 (rs13 ++ rs9) []) :: vc 60 (.slice ad23 (patchL (patchL rl5 rs9 ([] : List Pt)) rs13 ([] : List Pt)).length cp24) (patchL (patchL rl5 rs9 ([] : List Pt)) rs13 ([] : List Pt)) :: blk b22 [I64 (rn2), .slice ad23 (patchL (patchL rl5 rs9 ([] : List Pt)) rs13 ([] : List Pt)).length cp24] 57 :: vc 60 (.slice ad20 (patchL rl5 rs9 ([] : List Pt)).length cp21) (patchL rl5 rs9 ([] : List Pt)) :: blk b19 [I64 (rn2), .slice ad3 rl5.length cp4] 57 :: vc 60 (.slice ad15 rs17.length cp16) (rs17) :: vc 60 (.slice ad11 rs13.length cp12) (rs13) :: vc 60 (.slice ad7 rs9.length cp8) (rs9) :: vc 60 (.slice ad3 rl5.length cp4) (rl5) :: blk dk1 [.slice la ln lc, I64 (i18)] 129 :: I) 12 ?_
    refine D.r 0 rfl (Runs.lds (vs := [_, _]) ty57) ?_ (hJ := Fit.sub)
    refine D.r 1 rfl (Runs.move rfl) ?_ (hJ := Fit.sub)
    refine D.r 3 rfl (Runs.move rfl) ?_ (hJ := Fit.sub)
    refine D.r 5 rfl (Runs.move rfl) ?_ (hJ := Fit.sub)
    refine D.step (rs := [2, 10]) (by kernel_rfl) rfl rfl (all2 ?_ (all1 ?_))
    ·refine Step.eff rfl (Wanted.plain rfl) (Eff.clone (α := Pt) (ys := rs9) Try.underlying55 ty60 rfl rfl rfl Sl.o (by first | omega | (simp only [List.length_append, List.length_nil]; omega)) (by decide) rfl) ?_
     rintro _ _ ⟨ad47, cp48, rfl, rfl⟩
     refine ⟨Fit.sub, ?_⟩
     refine D.step (rs := [4, 10]) (by kernel_rfl) rfl rfl (all2 ?_ (all1 ?_))
     ·refine Step.eff rfl (Wanted.plain rfl) (Eff.app (α := Pt) (e := 60) (xs := rs9) (ys := rs17) Try.underlying55 ty60 rfl rfl rfl (by repeat (first | exact List.mem_cons_self | apply List.mem_cons_of_mem)) Sl.o (by first | omega | (simp only [List.length_append, List.length_nil]; omega)) (by decide) rfl (fun _ _ => (by repeat (first | exact At.head _ _ _ | apply At.tail)))) ?_
      rintro _ _ ⟨ad49, cp50, rfl, rfl⟩
      refine ⟨Fit.sub, ?_⟩
      refine D.step (rs := [6, 10]) (by kernel_rfl) rfl rfl (all2 ?_ (all1 ?_))
      ·refine Step.eff rfl (Wanted.plain rfl) (Eff.call call66 rfl rfl (Patch_ok (l := rl5) (add := rs9 ++ rs17) (cut := rs17) Sl.o Sl.o Sl.o (by repeat (first | assumption | exact right_nil | refine RunOk.patch ?_ ?_ | refine right_app ?_ ?_)) (by repeat (first | assumption | exact right_nil | refine RunOk.patch ?_ ?_ | refine right_app ?_ ?_)) (by repeat (first | assumption | exact right_nil | refine RunOk.patch ?_ ?_ | refine right_app ?_ ?_)) (by simp only [List.length_append, List.length_nil] at *; omega))) ?_
       rintro _ _ ⟨_, _, ⟨ad51, cp52, rfl, rfl⟩, rfl, rfl⟩
       refine ⟨Fit.sub, ?_⟩
       have hplad51 := patchL_len rl5 (rs9 ++ rs17) rs17
       refine D.r 7 rfl (Runs.move rfl) ?_ (hJ := Fit.sub)
       refine D.r 8 rfl (Runs.extract rfl rfl) ?_ (hJ := Fit.sub)
       refine D.r 9 rfl (Runs.extract rfl rfl) ?_ (hJ := Fit.sub)
       refine D.step (rs := [10]) (by kernel_rfl) rfl rfl (all1 ?_)
       refine Step.eff rfl (Wanted.plain rfl) (Eff.alloc ty57 rfl) ?_
       rintro _ _ ⟨b53, rfl, rfl⟩
       refine ⟨Fit.sub, ?_⟩
       refine D.step (rs := [11]) (by kernel_rfl) rfl rfl (all1 ?_)
       refine Step.eff rfl (Wanted.plain rfl) (Eff.st (cs := [_, _]) (vs := [_, _]) (cs' := [_, _]) ty57) ?_
       rintro _ _ ⟨rfl, rfl⟩
       refine ⟨Fit.sub, ?_⟩
       refine D.stop (by kernel_rfl) ?_
       refine A.read (i := 12) (by kernel_rfl) rfl (Wanted.plain rfl) rfl rfl (Runs.assign rfl) ?_
       refine A.done (by kernel_rfl) ?_
       exact V.mid ((b53), (ad51), (cp52)) (show True from trivial) (Sub.cons rfl (Sub.cons rfl (Sub.cons rfl (Sub.cons rfl (Sub.cons rfl (Sub.cons rfl (Sub.cons rfl (Sub.cons rfl (Sub.cons (lookV rfl (by first | rfl | simp)) (Sub.cons rfl Sub.nil)))))))))) (show Fit κ _ (blk (b53) [I64 (rn2), .slice (ad51) (patchL rl5 (rs9 ++ rs17) rs17).length (cp52)] 57 :: vc 60 (.slice (ad51) (patchL rl5 (rs9 ++ rs17) rs17).length (cp52)) (patchL rl5 (rs9 ++ rs17) rs17) :: blk byy_ [I64 (rn2), .slice ayy (patchL rl5 (rs13 ++ rs9) []).length cyy] 57 :: vc 60 (.slice ayy (patchL rl5 (rs13 ++ rs9) []).length cyy) (patchL rl5 (rs13 ++ rs9) []) :: vc 60 (.slice ad23 (patchL (patchL rl5 rs9 ([] : List Pt)) rs13 ([] : List Pt)).length cp24) (patchL (patchL rl5 rs9 ([] : List Pt)) rs13 ([] : List Pt)) :: blk b22 [I64 (rn2), .slice ad23 (patchL (patchL rl5 rs9 ([] : List Pt)) rs13 ([] : List Pt)).length cp24] 57 :: vc 60 (.slice ad20 (patchL rl5 rs9 ([] : List Pt)).length cp21) (patchL rl5 rs9 ([] : List Pt)) :: blk b19 [I64 (rn2), .slice ad3 rl5.length cp4] 57 :: vc 60 (.slice ad15 rs17.length cp16) (rs17) :: vc 60 (.slice ad11 rs13.length cp12) (rs13) :: vc 60 (.slice ad7 rs9.length cp8) (rs9) :: vc 60 (.slice ad3 rl5.length cp4) (rl5) :: blk dk1 [.slice la ln lc, I64 (i18)] 129 :: I) from Fit.s)
      ·refine Step.eff rfl (Wanted.plain rfl) (Eff.alloc ty57 rfl) ?_
       rintro _ _ ⟨b54, rfl, rfl⟩
       refine ⟨Fit.sub, ?_⟩
       refine D.step (rs := [6]) (by kernel_rfl) rfl rfl (all1 ?_)
       refine Step.eff rfl (Wanted.plain rfl) (Eff.call call66 rfl rfl (Patch_ok (l := rl5) (add := rs9 ++ rs17) (cut := rs17) Sl.o Sl.o Sl.o (by repeat (first | assumption | exact right_nil | refine RunOk.patch ?_ ?_ | refine right_app ?_ ?_)) (by repeat (first | assumption | exact right_nil | refine RunOk.patch ?_ ?_ | refine right_app ?_ ?_)) (by repeat (first | assumption | exact right_nil | refine RunOk.patch ?_ ?_ | refine right_app ?_ ?_)) (by simp only [List.length_append, List.length_nil] at *; omega))) ?_
       rintro _ _ ⟨_, _, ⟨ad55, cp56, rfl, rfl⟩, rfl, rfl⟩
       refine ⟨Fit.sub, ?_⟩
       have hplad55 := patchL_len rl5 (rs9 ++ rs17) rs17
       refine D.r 7 rfl (Runs.move rfl) ?_ (hJ := Fit.sub)
       refine D.r 8 rfl (Runs.extract rfl rfl) ?_ (hJ := Fit.sub)
       refine D.r 9 rfl (Runs.extract rfl rfl) ?_ (hJ := Fit.sub)
       refine D.step (rs := [11]) (by kernel_rfl) rfl rfl (all1 ?_)
       refine Step.eff rfl (Wanted.plain rfl) (Eff.st (cs := [_, _]) (vs := [_, _]) (cs' := [_, _]) ty57) ?_
       rintro _ _ ⟨rfl, rfl⟩
       refine ⟨Fit.sub, ?_⟩
       refine D.stop (by kernel_rfl) ?_
       refine A.read (i := 12) (by kernel_rfl) rfl (Wanted.plain rfl) rfl rfl (Runs.assign rfl) ?_
       refine A.done (by kernel_rfl) ?_
       exact V.mid ((b54), (ad55), (cp56)) (show True from trivial) (Sub.cons rfl (Sub.cons rfl (Sub.cons rfl (Sub.cons rfl (Sub.cons rfl (Sub.cons rfl (Sub.cons rfl (Sub.cons rfl (Sub.cons (lookV rfl (by first | rfl | simp)) (Sub.cons rfl Sub.nil)))))))))) (show Fit κ _ (blk (b54) [I64 (rn2), .slice (ad55) (patchL rl5 (rs9 ++ rs17) rs17).length (cp56)] 57 :: vc 60 (.slice (ad55) (patchL rl5 (rs9 ++ rs17) rs17).length (cp56)) (patchL rl5 (rs9 ++ rs17) rs17) :: blk byy_ [I64 (rn2), .slice ayy (patchL rl5 (rs13 ++ rs9) []).length cyy] 57 :: vc 60 (.slice ayy (patchL rl5 (rs13 ++ rs9) []).length cyy) (patchL rl5 (rs13 ++ rs9) []) :: vc 60 (.slice ad23 (patchL (patchL rl5 rs9 ([] : List Pt)) rs13 ([] : List Pt)).length cp24) (patchL (patchL rl5 rs9 ([] : List Pt)) rs13 ([] : List Pt)) :: blk b22 [I64 (rn2), .slice ad23 (patchL (patchL rl5 rs9 ([] : List Pt)) rs13 ([] : List Pt)).length cp24] 57 :: vc 60 (.slice ad20 (patchL rl5 rs9 ([] : List Pt)).length cp21) (patchL rl5 rs9 ([] : List Pt)) :: blk b19 [I64 (rn2), .slice ad3 rl5.length cp4] 57 :: vc 60 (.slice ad15 rs17.length cp16) (rs17) :: vc 60 (.slice ad11 rs13.length cp12) (rs13) :: vc 60 (.slice ad7 rs9.length cp8) (rs9) :: vc 60 (.slice ad3 rl5.length cp4) (rl5) :: blk dk1 [.slice la ln lc, I64 (i18)] 129 :: I) from Fit.s)
     ·refine Step.eff rfl (Wanted.plain rfl) (Eff.alloc ty57 rfl) ?_
      rintro _ _ ⟨b57, rfl, rfl⟩
      refine ⟨Fit.sub, ?_⟩
      refine D.step (rs := [4]) (by kernel_rfl) rfl rfl (all1 ?_)
      refine Step.eff rfl (Wanted.plain rfl) (Eff.app (α := Pt) (e := 60) (xs := rs9) (ys := rs17) Try.underlying55 ty60 rfl rfl rfl (by repeat (first | exact List.mem_cons_self | apply List.mem_cons_of_mem)) Sl.o (by first | omega | (simp only [List.length_append, List.length_nil]; omega)) (by decide) rfl (fun _ _ => (by repeat (first | exact At.head _ _ _ | apply At.tail)))) ?_
      rintro _ _ ⟨ad58, cp59, rfl, rfl⟩
      refine ⟨Fit.sub, ?_⟩
      refine D.step (rs := [6]) (by kernel_rfl) rfl rfl (all1 ?_)
      refine Step.eff rfl (Wanted.plain rfl) (Eff.call call66 rfl rfl (Patch_ok (l := rl5) (add := rs9 ++ rs17) (cut := rs17) Sl.o Sl.o Sl.o (by repeat (first | assumption | exact right_nil | refine RunOk.patch ?_ ?_ | refine right_app ?_ ?_)) (by repeat (first | assumption | exact right_nil | refine RunOk.patch ?_ ?_ | refine right_app ?_ ?_)) (by repeat (first | assumption | exact right_nil | refine RunOk.patch ?_ ?_ | refine right_app ?_ ?_)) (by simp only [List.length_append, List.length_nil] at *; omega))) ?_
      rintro _ _ ⟨_, _, ⟨ad60, cp61, rfl, rfl⟩, rfl, rfl⟩
      refine ⟨Fit.sub, ?_⟩
      have hplad60 := patchL_len rl5 (rs9 ++ rs17) rs17
      refine D.r 7 rfl (Runs.move rfl) ?_ (hJ := Fit.sub)
      refine D.r 8 rfl (Runs.extract rfl rfl) ?_ (hJ := Fit.sub)
      refine D.r 9 rfl (Runs.extract rfl rfl) ?_ (hJ := Fit.sub)
      refine D.step (rs := [11]) (by kernel_rfl) rfl rfl (all1 ?_)
      refine Step.eff rfl (Wanted.plain rfl) (Eff.st (cs := [_, _]) (vs := [_, _]) (cs' := [_, _]) ty57) ?_
      rintro _ _ ⟨rfl, rfl⟩
      refine ⟨Fit.sub, ?_⟩
      refine D.stop (by kernel_rfl) ?_
      refine A.read (i := 12) (by kernel_rfl) rfl (Wanted.plain rfl) rfl rfl (Runs.assign rfl) ?_
      refine A.done (by kernel_rfl) ?_
      exact V.mid ((b57), (ad60), (cp61)) (show True from trivial) (Sub.cons rfl (Sub.cons rfl (Sub.cons rfl (Sub.cons rfl (Sub.cons rfl (Sub.cons rfl (Sub.cons rfl (Sub.cons rfl (Sub.cons (lookV rfl (by first | rfl | simp)) (Sub.cons rfl Sub.nil)))))))))) (show Fit κ _ (blk (b57) [I64 (rn2), .slice (ad60) (patchL rl5 (rs9 ++ rs17) rs17).length (cp61)] 57 :: vc 60 (.slice (ad60) (patchL rl5 (rs9 ++ rs17) rs17).length (cp61)) (patchL rl5 (rs9 ++ rs17) rs17) :: blk byy_ [I64 (rn2), .slice ayy (patchL rl5 (rs13 ++ rs9) []).length cyy] 57 :: vc 60 (.slice ayy (patchL rl5 (rs13 ++ rs9) []).length cyy) (patchL rl5 (rs13 ++ rs9) []) :: vc 60 (.slice ad23 (patchL (patchL rl5 rs9 ([] : List Pt)) rs13 ([] : List Pt)).length cp24) (patchL (patchL rl5 rs9 ([] : List Pt)) rs13 ([] : List Pt)) :: blk b22 [I64 (rn2), .slice ad23 (patchL (patchL rl5 rs9 ([] : List Pt)) rs13 ([] : List Pt)).length cp24] 57 :: vc 60 (.slice ad20 (patchL rl5 rs9 ([] : List Pt)).length cp21) (patchL rl5 rs9 ([] : List Pt)) :: blk b19 [I64 (rn2), .slice ad3 rl5.length cp4] 57 :: vc 60 (.slice ad15 rs17.length cp16) (rs17) :: vc 60 (.slice ad11 rs13.length cp12) (rs13) :: vc 60 (.slice ad7 rs9.length cp8) (rs9) :: vc 60 (.slice ad3 rl5.length cp4) (rl5) :: blk dk1 [.slice la ln lc, I64 (i18)] 129 :: I) from Fit.s)
    ·refine Step.eff rfl (Wanted.plain rfl) (Eff.alloc ty57 rfl) ?_
     rintro _ _ ⟨b62, rfl, rfl⟩
     refine ⟨Fit.sub, ?_⟩
     refine D.step (rs := [2]) (by kernel_rfl) rfl rfl (all1 ?_)
     refine Step.eff rfl (Wanted.plain rfl) (Eff.clone (α := Pt) (ys := rs9) Try.underlying55 ty60 rfl rfl rfl Sl.o (by first | omega | (simp only [List.length_append, List.length_nil]; omega)) (by decide) rfl) ?_
     rintro _ _ ⟨ad63, cp64, rfl, rfl⟩
     refine ⟨Fit.sub, ?_⟩
     refine D.step (rs := [4]) (by kernel_rfl) rfl rfl (all1 ?_)
     refine Step.eff rfl (Wanted.plain rfl) (Eff.app (α := Pt) (e := 60) (xs := rs9) (ys := rs17) Try.underlying55 ty60 rfl rfl rfl (by repeat (first | exact List.mem_cons_self | apply List.mem_cons_of_mem)) Sl.o (by first | omega | (simp only [List.length_append, List.length_nil]; omega)) (by decide) rfl (fun _ _ => (by repeat (first | exact At.head _ _ _ | apply At.tail)))) ?_
     rintro _ _ ⟨ad65, cp66, rfl, rfl⟩
     refine ⟨Fit.sub, ?_⟩
     refine D.step (rs := [6]) (by kernel_rfl) rfl rfl (all1 ?_)
     refine Step.eff rfl (Wanted.plain rfl) (Eff.call call66 rfl rfl (Patch_ok (l := rl5) (add := rs9 ++ rs17) (cut := rs17) Sl.o Sl.o Sl.o (by repeat (first | assumption | exact right_nil | refine RunOk.patch ?_ ?_ | refine right_app ?_ ?_)) (by repeat (first | assumption | exact right_nil | refine RunOk.patch ?_ ?_ | refine right_app ?_ ?_)) (by repeat (first | assumption | exact right_nil | refine RunOk.patch ?_ ?_ | refine right_app ?_ ?_)) (by simp only [List.length_append, List.length_nil] at *; omega))) ?_
     rintro _ _ ⟨_, _, ⟨ad67, cp68, rfl, rfl⟩, rfl, rfl⟩
     refine ⟨Fit.sub, ?_⟩
     have hplad67 := patchL_len rl5 (rs9 ++ rs17) rs17
     refine D.r 7 rfl (Runs.move rfl) ?_ (hJ := Fit.sub)
     refine D.r 8 rfl (Runs.extract rfl rfl) ?_ (hJ := Fit.sub)
     refine D.r 9 rfl (Runs.extract rfl rfl) ?_ (hJ := Fit.sub)
     refine D.step (rs := [11]) (by kernel_rfl) rfl rfl (all1 ?_)
     refine Step.eff rfl (Wanted.plain rfl) (Eff.st (cs := [_, _]) (vs := [_, _]) (cs' := [_, _]) ty57) ?_
     rintro _ _ ⟨rfl, rfl⟩
     refine ⟨Fit.sub, ?_⟩
     refine D.stop (by kernel_rfl) ?_
     refine A.read (i := 12) (by kernel_rfl) rfl (Wanted.plain rfl) rfl rfl (Runs.assign rfl) ?_
     refine A.done (by kernel_rfl) ?_
     exact V.mid ((b62), (ad67), (cp68)) (show True from trivial) (Sub.cons rfl (Sub.cons rfl (Sub.cons rfl (Sub.cons rfl (Sub.cons rfl (Sub.cons rfl (Sub.cons rfl (Sub.cons rfl (Sub.cons (lookV rfl (by first | rfl | simp)) (Sub.cons rfl Sub.nil)))))))))) (show Fit κ _ (blk (b62) [I64 (rn2), .slice (ad67) (patchL rl5 (rs9 ++ rs17) rs17).length (cp68)] 57 :: vc 60 (.slice (ad67) (patchL rl5 (rs9 ++ rs17) rs17).length (cp68)) (patchL rl5 (rs9 ++ rs17) rs17) :: blk byy_ [I64 (rn2), .slice ayy (patchL rl5 (rs13 ++ rs9) []).length cyy] 57 :: vc 60 (.slice ayy (patchL rl5 (rs13 ++ rs9) []).length cyy) (patchL rl5 (rs13 ++ rs9) []) :: vc 60 (.slice ad23 (patchL (patchL rl5 rs9 ([] : List Pt)) rs13 ([] : List Pt)).length cp24) (patchL (patchL rl5 rs9 ([] : List Pt)) rs13 ([] : List Pt)) :: blk b22 [I64 (rn2), .slice ad23 (patchL (patchL rl5 rs9 ([] : List Pt)) rs13 ([] : List Pt)).length cp24] 57 :: vc 60 (.slice ad20 (patchL rl5 rs9 ([] : List Pt)).length cp21) (patchL rl5 rs9 ([] : List Pt)) :: blk b19 [I64 (rn2), .slice ad3 rl5.length cp4] 57 :: vc 60 (.slice ad15 rs17.length cp16) (rs17) :: vc 60 (.slice ad11 rs13.length cp12) (rs13) :: vc 60 (.slice ad7 rs9.length cp8) (rs9) :: vc 60 (.slice ad3 rl5.length cp4) (rl5) :: blk dk1 [.slice la ln lc, I64 (i18)] 129 :: I) from Fit.s)
   ·rintro ⟨byz_, ayz, cyz⟩ hp
    show W Try.prog κ 117 _ _ ([(4, .pointer (some ⟨b19, 0, none⟩)), (5, .slice ad7 rs9.length cp8), (7, .slice ad15 rs17.length cp16), (8, .pointer (some ⟨b22, 0, none⟩)), (9, I64 (0)), (10, I64 (0)), (11, .pointer (some ⟨byy_, 0, none⟩)), (12, I64 (0)), (13, .pointer (some ⟨byz_, 0, none⟩)), (14, I64 (0))] : Env) (blk byz_ [I64 (rn2), .slice ayz (patchL rl5 (rs9 ++ rs17) rs17).length cyz] 57 :: vc 60 (.slice ayz (patchL rl5 (rs9 ++ rs17) rs17).length cyz) (patchL rl5 (rs9 ++ rs17) rs17) :: blk byy_ [I64 (rn2), .slice ayy (patchL rl5 (rs13 ++ rs9) []).length cyy] 57 :: vc 60 (.slice ayy (patchL rl5 (rs13 ++ rs9) []).length cyy) (patchL rl5 (rs13 ++ rs9) []) :: vc 60 (.slice ad23 (patchL (patchL rl5 rs9 ([] : List Pt)) rs13 ([] : List Pt)).length cp24) (patchL (patchL rl5 rs9 ([] : List Pt)) rs13 ([] : List Pt)) :: blk b22 [I64 (rn2), .slice ad23 (patchL (patchL rl5 rs9 ([] : List Pt)) rs13 ([] : List Pt)).length cp24] 57 :: vc 60 (.slice ad20 (patchL rl5 rs9 ([] : List Pt)).length cp21) (patchL rl5 rs9 ([] : List Pt)) :: blk b19 [I64 (rn2), .slice ad3 rl5.length cp4] 57 :: vc 60 (.slice ad15 rs17.length cp16) (rs17) :: vc 60 (.slice ad11 rs13.length cp12) (rs13) :: vc 60 (.slice ad7 rs9.length cp8) (rs9) :: vc 60 (.slice ad3 rl5.length cp4) (rl5) :: blk dk1 [.slice la ln lc, I64 (i18)] 129 :: I)
    refine W.sr ?_
    refine G.r (Runs.lds (vs := [_, _]) ty57) ?_
    refine G.r (Runs.move rfl) ?_
    refine G.r (Runs.move rfl) ?_
    refine G.e (Eff.call call66 rfl rfl (Patch_ok (l := rl5) (add := rs9) (cut := rs17) Sl.o Sl.o Sl.o (by repeat (first | assumption | exact right_nil | refine RunOk.patch ?_ ?_ | refine right_app ?_ ?_)) (by repeat (first | assumption | exact right_nil | refine RunOk.patch ?_ ?_ | refine right_app ?_ ?_)) (by repeat (first | assumption | exact right_nil | refine RunOk.patch ?_ ?_ | refine right_app ?_ ?_)) (by simp only [List.length_append, List.length_nil] at *; omega))) ?_
    rintro _ _ ⟨_, _, ⟨ad69, cp70, rfl, rfl⟩, rfl, rfl⟩
    have hplad69 := patchL_len rl5 rs9 rs17
    refine G.r (Runs.move rfl) ?_
    refine G.r (Runs.extract rfl rfl) ?_
    refine G.r (Runs.extract rfl rfl) ?_
    refine G.e (Eff.alloc ty57 rfl) ?_
    rintro _ _ ⟨b71, rfl, rfl⟩
    refine G.e (Eff.st (cs := [_, _]) (vs := [_, _]) (cs' := [_, _]) ty57) ?_
    rintro _ _ ⟨rfl, rfl⟩
    refine G.r (Runs.assign rfl) ?_
    refine G.nt ?_
    refine W.sub (L' := [(16, _), (15, _), (7, _), (8, _), (9, _), (10, _), (11, _), (12, _), (13, _), (14, _)]) (Sub.cons rfl (Sub.cons rfl (Sub.cons rfl (Sub.cons rfl (Sub.cons rfl (Sub.cons rfl (Sub.cons rfl (Sub.cons rfl (Sub.cons rfl (Sub.cons rfl Sub.nil)))))))))) ?_
    refine W.sr ?_
    refine G.r (Runs.lds (vs := [_, _]) ty57) ?_
    refine G.r (Runs.move rfl) ?_
    refine G.e (Eff.call call66 rfl rfl (Patch_ok (l := patchL rl5 rs9 rs17) (add := ([] : List Pt)) (cut := rs17) Sl.o (Sl.nil _) Sl.o (by repeat (first | assumption | exact right_nil | refine RunOk.patch ?_ ?_ | refine right_app ?_ ?_)) (by repeat (first | assumption | exact right_nil | refine RunOk.patch ?_ ?_ | refine right_app ?_ ?_)) (by repeat (first | assumption | exact right_nil | refine RunOk.patch ?_ ?_ | refine right_app ?_ ?_)) (by simp only [List.length_append, List.length_nil] at *; omega))) ?_
    rintro _ _ ⟨_, _, ⟨ad72, cp73, rfl, rfl⟩, rfl, rfl⟩
    have hplad72 := patchL_len (patchL rl5 rs9 rs17) ([] : List Pt) rs17
    refine G.r (Runs.move rfl) ?_
    refine G.r (Runs.extract rfl rfl) ?_
    refine G.r (Runs.extract rfl rfl) ?_
    refine G.e (Eff.alloc ty57 rfl) ?_
    rintro _ _ ⟨b74, rfl, rfl⟩
    refine G.e (Eff.st (cs := [_, _]) (vs := [_, _]) (cs' := [_, _]) ty57) ?_
    rintro _ _ ⟨rfl, rfl⟩
    refine G.r (Runs.assign rfl) ?_
    refine G.nt ?_
    refine W.sub (L' := [(18, _), (17, _), (16, _), (15, _), (8, _), (9, _), (10, _), (11, _), (12, _), (13, _), (14, _)]) (Sub.cons rfl (Sub.cons rfl (Sub.cons rfl (Sub.cons rfl (Sub.cons rfl (Sub.cons rfl (Sub.cons rfl (Sub.cons rfl (Sub.cons rfl (Sub.cons rfl (Sub.cons rfl Sub.nil))))))))))) ?_
    refine W.sr ?_
    refine G.r (Runs.move rfl) ?_
    refine G.r (Runs.eql rfl rfl) ?_
    refine G.r (Runs.move rfl) ?_
    refine G.split (d := 79) rfl (fun g79 => ?_) (fun g79 => ?_)
    ·refine G.ro (Runs.move rfl) ?_
     refine G.ro (Runs.eql rfl rfl) ?_
     refine G.r (Runs.pickt rfl rfl) ?_
     refine G.r (Runs.move rfl) ?_
     refine G.split (d := 83) rfl (fun g83 => ?_) (fun g83 => ?_)
     ·refine G.ro (Runs.move rfl) ?_
      refine G.ro (Runs.eql rfl rfl) ?_
      refine G.r (Runs.pickt rfl rfl) ?_
      refine G.r (Runs.move rfl) ?_
      refine G.split (d := 87) rfl (fun g87 => ?_) (fun g87 => ?_)
      ·refine G.ro (Runs.move rfl) ?_
       refine G.ro (Runs.eql rfl rfl) ?_
       refine G.r (Runs.pickt rfl rfl) ?_
       refine G.r (Runs.move rfl) ?_
       refine G.split (d := 91) rfl (fun g91 => ?_) (fun g91 => ?_)
       ·refine G.ro (Runs.move rfl) ?_
        refine G.ro (Runs.eql rfl rfl) ?_
        refine G.r (Runs.pickt rfl rfl) ?_
        refine G.r (Runs.move rfl) ?_
        refine G.split (d := 95) rfl (fun g95 => ?_) (fun g95 => ?_)
        ·refine G.ro (Runs.move rfl) ?_
         refine G.ro (Runs.eql rfl rfl) ?_
         refine G.r (Runs.pickt rfl rfl) ?_
         refine G.r (Runs.move rfl) ?_
         refine G.split (d := 99) rfl (fun g99 => ?_) (fun g99 => ?_)
         ·refine G.ro (Runs.lds (vs := [_, _]) ty57) ?_
          refine G.ro (Runs.lds (vs := [_, _]) ty57) ?_
          refine G.eff (Wanted.on rfl rfl rfl) (Eff.call call67 rfl rfl (Same34_ok Sl.o Sl.o)) ?_
          rintro _ _ ⟨_, _, ⟨rfl, rfl⟩, rfl, rfl⟩
          refine G.r (Runs.pickt rfl rfl) ?_
          refine G.r (Runs.move rfl) ?_
          refine G.split (d := 104) rfl (fun g104 => ?_) (fun g104 => ?_)
          ·refine G.ro (Runs.lds (vs := [_, _]) ty57) ?_
           refine G.ro (Runs.lds (vs := [_, _]) ty57) ?_
           refine G.eff (Wanted.on rfl rfl rfl) (Eff.call call67 rfl rfl (Same34_ok Sl.o Sl.o)) ?_
           rintro _ _ ⟨_, _, ⟨rfl, rfl⟩, rfl, rfl⟩
           refine G.r (Runs.pickt rfl rfl) ?_
           refine G.r (Runs.move rfl) ?_
           refine G.split (d := 109) rfl (fun g109 => ?_) (fun g109 => ?_)
           ·refine G.ro (Runs.lds (vs := [_, _]) ty57) ?_
            refine G.ro (Runs.lds (vs := [_, _]) ty57) ?_
            refine G.eff (Wanted.on rfl rfl rfl) (Eff.call call67 rfl rfl (Same34_ok Sl.o Sl.o)) ?_
            rintro _ _ ⟨_, _, ⟨rfl, rfl⟩, rfl, rfl⟩
            refine G.r (Runs.pickt rfl rfl) ?_
            refine G.r (Runs.move rfl) ?_
            refine G.split (d := 114) rfl (fun g114 => ?_) (fun g114 => ?_)
            ·refine G.eff (Wanted.on rfl rfl rfl) (Eff.call call43 rfl rfl Awake34_ok) ?_
             rintro _ _ ⟨_, _, ⟨rfl, rfl⟩, rfl, rfl⟩
             refine G.r (Runs.pickt rfl rfl) ?_
             refine G.r (Runs.assign rfl) ?_
             refine G.nt ?_
             refine W.sub (L' := [(2, _)]) (Sub.cons rfl Sub.nil) ?_
             refine W.ret ?_
             exact V.ret1 rfl rfl (I) Fit.m ⟨rfl, rfl⟩
            ·exact absurd ⟨rfl, patch_again _ _ _⟩ g114
           ·exact absurd ⟨rfl, patch_win _ _ _⟩ g109
          ·exact absurd ⟨rfl, patch_two _ _ _⟩ g104
         ·exact absurd rfl g99
        ·exact absurd rfl g95
       ·exact absurd rfl g91
      ·exact absurd rfl g87
     ·exact absurd rfl g83
    ·exact absurd rfl g79

end Go.Sl
