/- A part of the proofs of statements of this seat: contracts of functions, and the plain laws that they lean on. No conditions. -/
import Derived.Test.YtbimaodbcjjbfaaWinD6
import Derived.Test.YtbimaodbcjjbfaaWinC5
namespace Go.Sl
open Go.Proofs
set_option linter.unusedVariables false
set_option linter.unusedSimpArgs false
set_option maxRecDepth 4000
set_option maxHeartbeats 1000000 in
theorem CutP_base {κ : Ctx} {I : List Item} {nw : Int} {a0 : Option Addr} {c0 : Nat} {xs : List Lk} {g : FuncId} {cp_ : List Value} {p : Lk → Bool} (hcb : Says Try.prog κ (vc 158 (.slice a0 xs.length c0) xs :: I) g cp_ p) (hsz : xs.length ≤ 1000000) :
    CallS Try.prog κ 248 [.slice a0 xs.length c0, I64 (nw), .func (.func g) #[] cp_.toArray] (vc 158 (.slice a0 xs.length c0) (xs) :: I) (fun r J => ∃ y : Option Addr × Nat × Value, (r = .tuple #[.slice y.1 (xs.filter (fun x => !p x)).length y.2.1, y.2.2]) ∧ J = [] ++ vc 158 (.slice y.1 (xs.filter (fun x => !p x)).length y.2.1) (xs.filter (fun x => !p x)) :: I) := by
 refine CallS.enter (L := [(0, .slice a0 xs.length c0), (1, I64 (nw)), (2, .func (.func g) #[] cp_.toArray)]) Try.func248 rfl rfl rfl rfl ?_
 refine W.sr ?_
 refine G.r (Runs.assign rfl) ?_
 refine G.r (Runs.assign rfl) ?_
 refine G.nt ?_
 refine W.sr ?_
 refine G.r (Runs.move rfl) ?_
 refine G.e (Eff.call call219 rfl rfl (CloneL (xs := xs) Sl.o (by omega))) ?_
 rintro _ _ ⟨_, _, ⟨ad1, cp2, rfl, rfl⟩, rfl, rfl⟩
 refine G.r (Runs.assign rfl) ?_
 refine G.nt ?_
 refine W.sr ?_
 refine G.r (Runs.assign rfl) ?_
 refine G.nt ?_
 refine W.seq ?_
 refine W.sr ?_
 refine G.r (Runs.assign rfl) ?_
 refine G.nt ?_
 refine W.block ?_
 refine W.loop (σ := Nat × (Option Addr) × Nat × (List Ev)) (fun s => ([(0, .slice ad1 (keepL (fun x => !p x) xs s.1).length cp2), (1, I64 (nw)), (2, .func (.func g) #[] cp_.toArray), (8, .slice s.2.1 s.2.2.2.length s.2.2.1), (9, I64 (((keptN (fun x => !p x) xs s.1 : Nat) : Int)))] : Env)) (fun s => vc 122 (.slice s.2.1 s.2.2.2.length s.2.2.1) (s.2.2.2) :: vc 158 (.slice ad1 (keepL (fun x => !p x) xs s.1).length cp2) ((keepL (fun x => !p x) xs s.1)) :: vc 158 (.slice a0 xs.length c0) (xs) :: I) (fun s => (s.1 ≤ xs.length) ∧ (s.2.2.2.length ≤ s.1)) (fun s => xs.length - s.1) (0, none, 0, []) (show ((0 : Nat) ≤ xs.length) ∧ (([] : List Ev).length ≤ (0 : Nat)) from ⟨(by omega), (by simp)⟩) (Sub.cons (lookV rfl (by first | rfl | (rw [keepL_zero]) | (rw [hky.1]) | (rw [hkl]))) (Sub.cons rfl (Sub.cons rfl (Sub.cons (lookV rfl (by first | rfl | (rw [keepL_zero]) | (rw [hky.1]) | (rw [hkl]))) (Sub.cons (lookI rfl (by first | omega | (rw [keptN_zero]; rfl) | (dsimp only; have e1 := hky.2; omega) | (dsimp only; have e1 := hkn; omega))) Sub.nil))))) (show Fit κ _ (vc 122 (.slice (none) ([]).length (0)) (([])) :: vc 158 (.slice ad1 (keepL (fun x => !p x) xs (0)).length cp2) ((keepL (fun x => !p x) xs (0))) :: vc 158 (.slice a0 xs.length c0) (xs) :: I) from (by rw [keepL_zero]; exact Fit.nilvc _ _)) ?_
 rintro ⟨j, a2, c2, chg⟩ hp
 obtain ⟨hj, hcg⟩ : (j ≤ xs.length) ∧ (chg.length ≤ j) := hp
 show W Try.prog κ 49 _ _ ([(0, .slice ad1 (keepL (fun x => !p x) xs j).length cp2), (1, I64 (nw)), (2, .func (.func g) #[] cp_.toArray), (8, .slice a2 chg.length c2), (9, I64 (((keptN (fun x => !p x) xs j : Nat) : Int)))] : Env) (vc 122 (.slice a2 chg.length c2) (chg) :: vc 158 (.slice ad1 (keepL (fun x => !p x) xs j).length cp2) ((keepL (fun x => !p x) xs j)) :: vc 158 (.slice a0 xs.length c0) (xs) :: I)
 have hkj := keptN_le (P := (fun x => !p x)) (xs := xs) (j := j)
 have hkl0 := keepL_len (P := (fun x => !p x)) (xs := xs) (j := j)
 refine W.pull (vc.cap (xs := (keepL (fun x => !p x) xs j)) (by repeat (first | exact List.mem_cons_self | apply List.mem_cons_of_mem))) fun hcap => ?_
 refine W.seq ?_
 refine W.sr ?_
 refine G.r (Runs.move rfl) ?_
 refine G.r (Runs.move rfl) ?_
 refine G.r (Runs.lens Try.underlying69 rfl) ?_
 refine G.r (Runs.lss rfl rfl) ?_
 refine G.nt ?_
 refine W.ite rfl (fun c15 => ?_) (fun c15 => ?_)
 ·refine W.skip ?_
  refine V.then ?_
  refine W.block ?_
  refine W.seq ?_
  refine W.sr ?_
  refine G.r (Runs.move rfl) ?_
  refine G.r (Runs.move rfl) ?_
  refine G.r (Runs.move rfl) ?_
  refine G.r (Runs.idx (α := Lk) (xs := (keepL (fun x => !p x) xs j)) Try.underlying69 ty158 rfl rfl Sl.o (by omega) (by omega)) ?_
  refine G.r (Runs.gets (α := Lk) (xs := (keepL (fun x => !p x) xs j)) ty158 rfl Sl.o (by omega) (by omega)) ?_
  refine G.e (Eff.callv hcb.1 (first := []) (caps := cp_) rfl rfl rfl (hcb.2 (at_ (keepL (fun x => !p x) xs j) ((keptN (fun x => !p x) xs j : Nat) : Int)) _ Fit.m)) ?_
  rintro _ _ ⟨_, _, ⟨rfl, rfl⟩, rfl, rfl⟩
  refine G.r (Runs.not rfl) ?_
  refine G.nt ?_
  refine W.sub (L' := [(22, _), (0, _), (1, _), (2, _), (8, _), (9, _)]) (Sub.cons rfl (Sub.cons rfl (Sub.cons rfl (Sub.cons rfl (Sub.cons rfl (Sub.cons rfl Sub.nil)))))) ?_
  refine W.cond rfl (fun c22 => ?_) (fun c22 => ?_)
  ·refine W.sr ?_
   refine G.r (Runs.move rfl) ?_
   refine G.r (Runs.add rfl rfl (by unfold InR; omega)) ?_
   refine G.r (Runs.assign rfl) ?_
   refine G.nt ?_
   refine W.exit ?_
   refine V.then_exit ?_
   refine V.block_hit ?_
   have hky := keep_yes (P := (fun x => !p x)) (xs := xs) (j := j) (by omega) (by rw [← keepL_at (P := (fun x => !p x)) (xs := xs) (j := j) (by omega)]; exact c22)
   exact V.next ((j + 1), (a2), (c2), (chg)) (show ((j + 1 : Nat) ≤ xs.length) ∧ ((chg : List Ev).length ≤ (j + 1 : Nat)) from ⟨(by omega), (by omega)⟩) (show xs.length - (j + 1 : Nat) < xs.length - j from (by omega)) (Sub.cons (lookV rfl (by first | rfl | (rw [keepL_zero]) | (rw [hky.1]) | (rw [hkl]))) (Sub.cons rfl (Sub.cons rfl (Sub.cons (lookV rfl (by first | rfl | (rw [keepL_zero]) | (rw [hky.1]) | (rw [hkl]))) (Sub.cons (lookI rfl (by first | omega | (rw [keptN_zero]; rfl) | (dsimp only; have e1 := hky.2; omega) | (dsimp only; have e1 := hkn; omega))) Sub.nil))))) (show Fit κ _ (vc 122 (.slice (a2) (chg).length (c2)) ((chg)) :: vc 158 (.slice ad1 (keepL (fun x => !p x) xs (j + 1)).length cp2) ((keepL (fun x => !p x) xs (j + 1))) :: vc 158 (.slice a0 xs.length c0) (xs) :: I) from (by rw [hky.1]; exact Fit.sub))
  ·refine W.skip ?_
   refine V.then ?_
   refine W.sr ?_
   refine G.r (Runs.move rfl) ?_
   have hpj : (fun x => !p x) (at_ xs (j : Int)) = false := by rw [← keepL_at (P := (fun x => !p x)) (xs := xs) (j := j) (by omega)]; exact c22
   have hkn := keep_no (P := (fun x => !p x)) (xs := xs) (j := j) (by omega) hpj
   refine G.r (Runs.move rfl) ?_
   refine G.r (Runs.move rfl) ?_
   refine G.r (Runs.idx (α := Lk) (xs := (keepL (fun x => !p x) xs j)) Try.underlying69 ty158 rfl rfl Sl.o (by omega) (by omega)) ?_
   refine G.r (Runs.gets (α := Lk) (xs := (keepL (fun x => !p x) xs j)) ty158 rfl Sl.o (by omega) (by omega)) ?_
   refine G.r (Runs.move rfl) ?_
   refine G.e (Eff.call call186 rfl rfl (Gone_ok (at_ (keepL (fun x => !p x) xs j) ((keptN (fun x => !p x) xs j : Nat) : Int)) nw)) ?_
   rintro _ _ ⟨_, _, ⟨rfl, rfl⟩, rfl, rfl⟩
   refine G.e (Eff.bs (α := Ev) (cs := [I64 (2), I64 (nw), I64 ((at_ (keepL (fun x => !p x) xs j) ((keptN (fun x => !p x) xs j : Nat) : Int)).u), I64 ((at_ (keepL (fun x => !p x) xs j) ((keptN (fun x => !p x) xs j : Nat) : Int)).v), I64 (0), I64 (0), I64 (0)]) (xs := [⟨2, nw, (at_ (keepL (fun x => !p x) xs j) ((keptN (fun x => !p x) xs j : Nat) : Int)).u, (at_ (keepL (fun x => !p x) xs j) ((keptN (fun x => !p x) xs j : Nat) : Int)).v, 0, 0, 0⟩]) Try.underlying81 ty122 rfl rfl (by decide) (by decide) rfl (by kernel_rfl) rfl rfl) ?_
   rintro _ _ ⟨ad3, rfl, rfl⟩
   refine G.e (Eff.app (α := Ev) (e := 122) (xs := chg) (ys := ([⟨2, nw, (at_ (keepL (fun x => !p x) xs j) ((keptN (fun x => !p x) xs j : Nat) : Int)).u, (at_ (keepL (fun x => !p x) xs j) ((keptN (fun x => !p x) xs j : Nat) : Int)).v, 0, 0, 0⟩] : List Ev)) Try.underlying81 ty122 rfl rfl rfl (by repeat (first | exact List.mem_cons_self | apply List.mem_cons_of_mem)) Sl.o (by simp only [List.length_cons, List.length_nil]; omega) (by decide) rfl (fun _ _ => (by repeat (first | exact At.head _ _ _ | apply At.tail)))) ?_
   rintro _ _ ⟨ad4, cp5, rfl, rfl⟩
   refine G.r (Runs.assign rfl) ?_
   refine G.nt ?_
   refine W.sub (L' := [(8, _), (0, _), (1, _), (2, _), (9, _)]) (Sub.cons rfl (Sub.cons rfl (Sub.cons rfl (Sub.cons rfl (Sub.cons rfl Sub.nil))))) ?_
   refine W.seq ?_
   refine W.drawn mixed ?_
   refine A.hold (I) 8 ?_
   refine D.r 0 rfl (Runs.move rfl) ?_ (hJ := Fit.sub)
   refine D.r 1 rfl (Runs.move rfl) ?_ (hJ := Fit.sub)
   refine D.r 2 rfl (Runs.loraw (l := keptN (fun x => !p x) xs j) Try.underlying69 ty158 rfl rfl (by simp only [Int.natCast_add] <;> omega) (by omega) (by omega)) ?_ (hJ := Fit.sub)
   refine D.r 3 rfl (Runs.move rfl) ?_ (hJ := Fit.sub)
   refine D.r 4 rfl (Runs.move rfl) ?_ (hJ := Fit.sub)
   refine D.r 5 rfl (Runs.add rfl rfl (by unfold InR; omega)) ?_ (hJ := Fit.sub)
   refine D.r 6 rfl (Runs.loraw (l := (keptN (fun x => !p x) xs j + 1)) Try.underlying69 ty158 rfl rfl (by simp only [Int.natCast_add] <;> omega) (by omega) (by omega)) ?_ (hJ := Fit.sub)
   refine D.step (rs := [7]) (by kernel_rfl) rfl rfl (all1 ?_)
   refine Step.eff rfl (Wanted.plain rfl) (Eff.copyT (α := Lk) (k := keptN (fun x => !p x) xs j) (q := (xs.length - j - 1)) (R := (keepL (fun x => !p x) xs (j + 1)) ++ List.drop (keptN (fun x => !p x) xs j + (xs.length - j - 1)) (keepL (fun x => !p x) xs j)) (n := (keepL (fun x => !p x) xs j).length) Try.underlying69 ty158 rfl (by first | omega | (simp only [List.length_append, List.length_take, List.length_drop, List.length_replicate] <;> omega)) rfl (Sl.dropn (Sl.vec (xs := (keepL (fun x => !p x) xs j)) (by repeat (first | exact List.mem_cons_self | apply List.mem_cons_of_mem))) (by omega) (by omega)) (by first | omega | (simp only [List.length_append, List.length_take, List.length_drop, List.length_replicate] <;> omega)) (by first | omega | (simp only [List.length_append, List.length_take, List.length_drop, List.length_replicate] <;> omega)) rfl (keep_copy (by omega) hpj rfl) (by first | omega | (simp only [List.length_append, List.length_take, List.length_drop, List.length_replicate] <;> omega)) (by repeat (first | exact At.head _ _ _ | apply At.tail))) ?_
   rintro _ _ ⟨rfl, rfl⟩
   refine ⟨Fit.sub, ?_⟩
   refine D.done (by kernel_rfl) ?_
   refine V.then ?_
   refine W.region ?_
   refine G.r (Runs.move rfl) ?_
   refine G.r (Runs.move rfl) ?_
   refine G.r (Runs.lens Try.underlying69 rfl) ?_
   refine G.r (Runs.sub rfl rfl (by unfold InR; omega)) ?_
   refine G.r (Runs.hiraw (h := ((keepL (fun x => !p x) xs j).length - 1)) Try.underlying69 ty158 rfl rfl (by omega) (by omega)) ?_
   refine G.r (Runs.assign rfl) ?_
   have hkl : (keepL (fun x => !p x) xs j).length - 1 = (keepL (fun x => !p x) xs (j + 1)).length := by have h3 := keepL_len (P := (fun x => !p x)) (xs := xs) (j := j + 1); omega
   refine G.fit (J := vc 122 (.slice ad3 1 1) (([⟨2, nw, (at_ (keepL (fun x => !p x) xs j) ((keptN (fun x => !p x) xs j : Nat) : Int)).u, (at_ (keepL (fun x => !p x) xs j) ((keptN (fun x => !p x) xs j : Nat) : Int)).v, 0, 0, 0⟩] : List Ev)) :: vc 122 (.slice ad4 (chg ++ ([⟨2, nw, (at_ (keepL (fun x => !p x) xs j) ((keptN (fun x => !p x) xs j : Nat) : Int)).u, (at_ (keepL (fun x => !p x) xs j) ((keptN (fun x => !p x) xs j : Nat) : Int)).v, 0, 0, 0⟩] : List Ev)).length cp5) (chg ++ ([⟨2, nw, (at_ (keepL (fun x => !p x) xs j) ((keptN (fun x => !p x) xs j : Nat) : Int)).u, (at_ (keepL (fun x => !p x) xs j) ((keptN (fun x => !p x) xs j : Nat) : Int)).v, 0, 0, 0⟩] : List Ev)) :: vc 158 (.slice ad1 (keepL (fun x => !p x) xs (j + 1)).length cp2) ((keepL (fun x => !p x) xs (j + 1))) :: vc 158 (.slice a0 xs.length c0) (xs) :: I) (Fit.upd (by repeat (first | exact At.head _ _ _ | apply At.tail)) (fun w h => by have h4 := cutshort (h := ((keepL (fun x => !p x) xs j).length - 1)) (by rw [List.length_append]; omega) w h; rw [keep_take hkl] at h4; exact h4)) ?_
   refine G.nil ?_
   refine V.block_normal ?_
   exact V.next ((j + 1), (ad4), (cp5), (chg ++ ([⟨2, nw, (at_ (keepL (fun x => !p x) xs j) ((keptN (fun x => !p x) xs j : Nat) : Int)).u, (at_ (keepL (fun x => !p x) xs j) ((keptN (fun x => !p x) xs j : Nat) : Int)).v, 0, 0, 0⟩] : List Ev))) (show ((j + 1 : Nat) ≤ xs.length) ∧ ((chg ++ ([⟨2, nw, (at_ (keepL (fun x => !p x) xs j) ((keptN (fun x => !p x) xs j : Nat) : Int)).u, (at_ (keepL (fun x => !p x) xs j) ((keptN (fun x => !p x) xs j : Nat) : Int)).v, 0, 0, 0⟩] : List Ev) : List Ev).length ≤ (j + 1 : Nat)) from ⟨(by omega), (by simp only [List.length_append, List.length_cons, List.length_nil]; omega)⟩) (show xs.length - (j + 1 : Nat) < xs.length - j from (by omega)) (Sub.cons (lookV rfl (by first | rfl | (rw [keepL_zero]) | (rw [hky.1]) | (rw [hkl]))) (Sub.cons rfl (Sub.cons rfl (Sub.cons (lookV rfl (by first | rfl | (rw [keepL_zero]) | (rw [hky.1]) | (rw [hkl]))) (Sub.cons (lookI rfl (by first | omega | (rw [keptN_zero]; rfl) | (dsimp only; have e1 := hky.2; omega) | (dsimp only; have e1 := hkn; omega))) Sub.nil))))) (show Fit κ _ (vc 122 (.slice (ad4) (chg ++ ([⟨2, nw, (at_ (keepL (fun x => !p x) xs j) ((keptN (fun x => !p x) xs j : Nat) : Int)).u, (at_ (keepL (fun x => !p x) xs j) ((keptN (fun x => !p x) xs j : Nat) : Int)).v, 0, 0, 0⟩] : List Ev)).length (cp5)) ((chg ++ ([⟨2, nw, (at_ (keepL (fun x => !p x) xs j) ((keptN (fun x => !p x) xs j : Nat) : Int)).u, (at_ (keepL (fun x => !p x) xs j) ((keptN (fun x => !p x) xs j : Nat) : Int)).v, 0, 0, 0⟩] : List Ev))) :: vc 158 (.slice ad1 (keepL (fun x => !p x) xs (j + 1)).length cp2) ((keepL (fun x => !p x) xs (j + 1))) :: vc 158 (.slice a0 xs.length c0) (xs) :: I) from Fit.sub)
 ·refine W.exit ?_
  refine V.then_exit ?_
  refine V.then_exit ?_
  refine V.block_hit ?_
  refine V.then ?_
  refine W.sr ?_
  refine G.r (Runs.move rfl) ?_
  refine G.r (Runs.move rfl) ?_
  refine G.r (Runs.assign rfl) ?_
  refine G.r (Runs.assign rfl) ?_
  refine G.nt ?_
  refine W.ret ?_
  have hE : (keepL (fun x => !p x) xs j) = (xs.filter (fun x => !p x)) := keepL_end (by omega)
  exact V.ret2 rfl rfl rfl ([] ++ vc 158 (.slice ad1 (xs.filter (fun x => !p x)).length cp2) (xs.filter (fun x => !p x)) :: I) (by rw [← hE]; exact Fit.sub) ⟨⟨ad1, cp2, .slice a2 chg.length c2⟩, by rw [← hE], rfl⟩

end Go.Sl
namespace Go.Sl
open Go.Proofs
set_option linter.unusedVariables false
set_option linter.unusedSimpArgs false
set_option maxRecDepth 4000
theorem SetP_at {κ : Ctx} {I : List Item} {F : Item → List Item} {n : Nat} {e : Ev} {a0 : Option Addr} {c0 : Nat} {xs : List Lk} (hat : AtF I (vc 158 (.slice a0 n c0) xs) F) (hn : n = xs.length) (ha : xs.Pairwise Lk.lt) (hsz : xs.length ≤ 1000000) :
    CallS Try.prog κ 247 [.slice a0 n c0, .agg #[I64 (e.kd), I64 (e.tm), I64 (e.u), I64 (e.v), I64 (e.w), I64 (e.lb), I64 (e.sg)]] I fun r J => ∃ y : Option Addr × Nat × Value, (r = .tuple #[.slice y.1 (setL (lkOf e) xs).length y.2.1, y.2.2]) ∧ J = [] ++ F (vc 158 (.slice y.1 (setL (lkOf e) xs).length y.2.1) (setL (lkOf e) xs)) := by
  subst hn
  exact CallS.at (Post := fun r (y : Option Addr × Nat × Value) => r = .tuple #[.slice y.1 (setL (lkOf e) xs).length y.2.1, y.2.2]) (Z := fun _ => []) (X := fun y : Option Addr × Nat × Value => vc 158 (.slice y.1 (setL (lkOf e) xs).length y.2.1) (setL (lkOf e) xs)) hat fun J hJ _ => SetP_base ha hsz

theorem CutP_at {κ : Ctx} {I : List Item} {F : Item → List Item} {n : Nat} {nw : Int} {a0 : Option Addr} {c0 : Nat} {xs : List Lk} {g : FuncId} {cp_ : List Value} {p : Lk → Bool} (hat : AtF I (vc 158 (.slice a0 n c0) xs) F) (hn : n = xs.length) (hcb : Says Try.prog κ I g cp_ p) (hsz : xs.length ≤ 1000000) :
    CallS Try.prog κ 248 [.slice a0 n c0, I64 (nw), .func (.func g) #[] cp_.toArray] I fun r J => ∃ y : Option Addr × Nat × Value, (r = .tuple #[.slice y.1 (xs.filter (fun x => !p x)).length y.2.1, y.2.2]) ∧ J = [] ++ F (vc 158 (.slice y.1 (xs.filter (fun x => !p x)).length y.2.1) (xs.filter (fun x => !p x))) := by
  subst hn
  exact CallS.at (Post := fun r (y : Option Addr × Nat × Value) => r = .tuple #[.slice y.1 (xs.filter (fun x => !p x)).length y.2.1, y.2.2]) (Z := fun _ => []) (X := fun y : Option Addr × Nat × Value => vc 158 (.slice y.1 (xs.filter (fun x => !p x)).length y.2.1) (xs.filter (fun x => !p x))) hat fun J hJ _ => CutP_base (hcb.fit hJ) hsz

theorem hitE_two {e : Ev} {l : Lk} (h : e.kd = 2) : hitE e l = decide (l.u = (if e.v < e.u then e.v else e.u) ∧ l.v = (if e.u < e.v then e.v else e.u)) := by unfold hitE; rw [if_pos h]; rfl
theorem hitE_oth {e : Ev} {l : Lk} (h : ¬ e.kd = 2) : hitE e l = decide (l.u = e.u ∨ l.v = e.u) := by unfold hitE; rw [if_neg h]

theorem Step1_ok {κ : Ctx} {I : List Item} {b : Nat} {e : Ev} (hk : e.kd = 2) (hb : BlkRd κ I b [I64 (e.kd), I64 (e.tm), I64 (e.u), I64 (e.v), I64 (e.w), I64 (e.lb), I64 (e.sg)] 122) (x : Lk) :
    CallS Try.prog κ 249 [.agg #[I64 (x.u), I64 (x.v), I64 (x.w), I64 (x.lb), I64 (x.sg), I64 (x.tm)], .pointer (some ⟨b, 0, none⟩)] I (fun r J => r = .bool (hitE e x) ∧ I = J) := by
 refine CallS.enter (L := [(0, .agg #[I64 (x.u), I64 (x.v), I64 (x.w), I64 (x.lb), I64 (x.sg), I64 (x.tm)]), (1, .pointer (some ⟨b, 0, none⟩))]) Try.func249 rfl rfl rfl rfl ?_
 refine W.sr ?_
 refine G.e (Eff.box (cs := [_, _, _, _, _, _]) rfl rfl rfl) ?_
 rintro _ _ ⟨b1, rfl, rfl⟩
 refine G.r (Runs.assign rfl) ?_
 refine G.nt ?_
 refine W.sr ?_
 refine G.r (Runs.fieldAddr fld158_0 rfl) ?_
 refine G.r (Runs.ld ty3) ?_
 refine G.r (Runs.fieldAddr fld122_2 rfl) ?_
 refine G.r (Runs.loadB ty3 rfl (BlkRd.fit hb Fit.m) rfl) ?_
 refine G.r (Runs.fieldAddr fld122_3 rfl) ?_
 refine G.r (Runs.loadB ty3 rfl (BlkRd.fit hb Fit.m) rfl) ?_
 refine G.r (Runs.min rfl rfl) ?_
 refine G.r (Runs.eql rfl rfl) ?_
 refine G.r (Runs.move rfl) ?_
 refine G.split (d := 12) rfl (fun g12 => ?_) (fun g12 => ?_)
 ·refine G.ro (Runs.fieldAddr fld158_1 rfl) ?_
  refine G.ro (Runs.ld ty3) ?_
  refine G.ro (Runs.fieldAddr fld122_2 rfl) ?_
  refine G.ro (Runs.loadB ty3 rfl (BlkRd.fit hb Fit.m) rfl) ?_
  refine G.ro (Runs.fieldAddr fld122_3 rfl) ?_
  refine G.ro (Runs.loadB ty3 rfl (BlkRd.fit hb Fit.m) rfl) ?_
  refine G.ro (Runs.max rfl rfl) ?_
  refine G.ro (Runs.eql rfl rfl) ?_
  refine G.r (Runs.pickt rfl rfl) ?_
  refine G.r (Runs.assign rfl) ?_
  refine G.nt ?_
  refine W.sub (L' := [(3, _)]) (Sub.cons rfl Sub.nil) ?_
  refine W.ret ?_
  exact V.ret1 rfl rfl (I) Fit.m ⟨by rw [hitE_two hk]; exact (by first | exact congrArg Value.bool (decide_eq_decide.2 (by skip; omega)) | exact congrArg Value.bool (decide_eq_true (by skip; omega)).symm | exact congrArg Value.bool (decide_eq_false (by skip; omega)).symm), rfl⟩
 ·refine G.po ?_
  refine G.po ?_
  refine G.po ?_
  refine G.po ?_
  refine G.po ?_
  refine G.po ?_
  refine G.po ?_
  refine G.po ?_
  refine G.r (Runs.pickf rfl rfl) ?_
  refine G.r (Runs.assign rfl) ?_
  refine G.nt ?_
  refine W.sub (L' := [(3, _)]) (Sub.cons rfl Sub.nil) ?_
  refine W.ret ?_
  exact V.ret1 rfl rfl (I) Fit.m ⟨by rw [hitE_two hk]; exact (by first | exact congrArg Value.bool (decide_eq_decide.2 (by skip; omega)) | exact congrArg Value.bool (decide_eq_true (by skip; omega)).symm | exact congrArg Value.bool (decide_eq_false (by skip; omega)).symm), rfl⟩

theorem Step1_says {κ : Ctx} {I : List Item} {b : Nat} {e : Ev} (hk : e.kd = 2) (hb : BlkRd κ I b [I64 (e.kd), I64 (e.tm), I64 (e.u), I64 (e.v), I64 (e.w), I64 (e.lb), I64 (e.sg)] 122) : Says Try.prog κ I 249 [.pointer (some ⟨b, 0, none⟩)] (hitE e) := ⟨call249, fun x J hf => Step1_ok hk (hb.fit hf) x⟩

theorem Step2_ok {κ : Ctx} {I : List Item} {b : Nat} {e : Ev} (hk : ¬ e.kd = 2) (hb : BlkRd κ I b [I64 (e.kd), I64 (e.tm), I64 (e.u), I64 (e.v), I64 (e.w), I64 (e.lb), I64 (e.sg)] 122) (x : Lk) :
    CallS Try.prog κ 250 [.agg #[I64 (x.u), I64 (x.v), I64 (x.w), I64 (x.lb), I64 (x.sg), I64 (x.tm)], .pointer (some ⟨b, 0, none⟩)] I (fun r J => r = .bool (hitE e x) ∧ I = J) := by
 refine CallS.enter (L := [(0, .agg #[I64 (x.u), I64 (x.v), I64 (x.w), I64 (x.lb), I64 (x.sg), I64 (x.tm)]), (1, .pointer (some ⟨b, 0, none⟩))]) Try.func250 rfl rfl rfl rfl ?_
 refine W.sr ?_
 refine G.e (Eff.box (cs := [_, _, _, _, _, _]) rfl rfl rfl) ?_
 rintro _ _ ⟨b1, rfl, rfl⟩
 refine G.r (Runs.assign rfl) ?_
 refine G.nt ?_
 refine W.sr ?_
 refine G.r (Runs.fieldAddr fld158_0 rfl) ?_
 refine G.r (Runs.ld ty3) ?_
 refine G.r (Runs.fieldAddr fld122_2 rfl) ?_
 refine G.r (Runs.loadB ty3 rfl (BlkRd.fit hb Fit.m) rfl) ?_
 refine G.r (Runs.eql rfl rfl) ?_
 refine G.r (Runs.move rfl) ?_
 refine G.split (d := 9) rfl (fun g9 => ?_) (fun g9 => ?_)
 ·refine G.po ?_
  refine G.po ?_
  refine G.po ?_
  refine G.po ?_
  refine G.po ?_
  refine G.r (Runs.pickt rfl rfl) ?_
  refine G.r (Runs.assign rfl) ?_
  refine G.nt ?_
  refine W.sub (L' := [(3, _)]) (Sub.cons rfl Sub.nil) ?_
  refine W.ret ?_
  exact V.ret1 rfl rfl (I) Fit.m ⟨by rw [hitE_oth hk]; exact (by first | exact congrArg Value.bool (decide_eq_decide.2 (by skip; omega)) | exact congrArg Value.bool (decide_eq_true (by skip; omega)).symm | exact congrArg Value.bool (decide_eq_false (by skip; omega)).symm), rfl⟩
 ·refine G.ro (Runs.fieldAddr fld158_1 rfl) ?_
  refine G.ro (Runs.ld ty3) ?_
  refine G.ro (Runs.fieldAddr fld122_2 rfl) ?_
  refine G.ro (Runs.loadB ty3 rfl (BlkRd.fit hb Fit.m) rfl) ?_
  refine G.ro (Runs.eql rfl rfl) ?_
  refine G.r (Runs.pickf rfl rfl) ?_
  refine G.r (Runs.assign rfl) ?_
  refine G.nt ?_
  refine W.sub (L' := [(3, _)]) (Sub.cons rfl Sub.nil) ?_
  refine W.ret ?_
  exact V.ret1 rfl rfl (I) Fit.m ⟨by rw [hitE_oth hk]; exact (by first | exact congrArg Value.bool (decide_eq_decide.2 (by skip; omega)) | exact congrArg Value.bool (decide_eq_true (by skip; omega)).symm | exact congrArg Value.bool (decide_eq_false (by skip; omega)).symm), rfl⟩

theorem Step2_says {κ : Ctx} {I : List Item} {b : Nat} {e : Ev} (hk : ¬ e.kd = 2) (hb : BlkRd κ I b [I64 (e.kd), I64 (e.tm), I64 (e.u), I64 (e.v), I64 (e.w), I64 (e.lb), I64 (e.sg)] 122) : Says Try.prog κ I 250 [.pointer (some ⟨b, 0, none⟩)] (hitE e) := ⟨call250, fun x J hf => Step2_ok hk (hb.fit hf) x⟩

theorem StepP_base {κ : Ctx} {I : List Item} {nd : Int} {e : Ev} {a0 : Option Addr} {c0 : Nat} {xs : List Lk} (ha : xs.Pairwise Lk.lt) (hsz : xs.length ≤ 1000000) :
    CallS Try.prog κ 207 [.agg #[I64 (nd), .slice a0 xs.length c0], .agg #[I64 (e.kd), I64 (e.tm), I64 (e.u), I64 (e.v), I64 (e.w), I64 (e.lb), I64 (e.sg)]] (vc 158 (.slice a0 xs.length c0) (xs) :: I) (fun r J => ∃ y : Option Addr × Nat × Value, (r = .tuple #[.agg #[I64 nd, .slice y.1 (stepL xs e).length y.2.1], y.2.2]) ∧ J = [] ++ vc 158 (.slice y.1 (stepL xs e).length y.2.1) (stepL xs e) :: I) := by
 refine CallS.enter (L := [(0, .agg #[I64 (nd), .slice a0 xs.length c0]), (1, .agg #[I64 (e.kd), I64 (e.tm), I64 (e.u), I64 (e.v), I64 (e.w), I64 (e.lb), I64 (e.sg)])]) Try.func207 rfl rfl rfl rfl ?_
 refine W.sr ?_
 refine G.e (Eff.box (cs := [_, _]) rfl rfl rfl) ?_
 rintro _ _ ⟨b1, rfl, rfl⟩
 refine G.e (Eff.box (cs := [_, _, _, _, _, _, _]) rfl rfl rfl) ?_
 rintro _ _ ⟨b2, rfl, rfl⟩
 refine G.e (Eff.alloc ty71 rfl) ?_
 rintro _ _ ⟨b3, rfl, rfl⟩
 refine G.r (Runs.assign rfl) ?_
 refine G.nt ?_
 refine W.sr ?_
 refine G.r (Runs.assign rfl) ?_
 refine G.nt ?_
 refine W.seq ?_
 refine W.sr ?_
 refine G.r (Runs.fieldAddr fld122_0 rfl) ?_
 refine G.r (Runs.ld ty3) ?_
 refine G.nt ?_
 refine W.block ?_
 refine W.sr ?_
 refine G.r (Runs.eql rfl rfl) ?_
 refine G.r (Runs.assign rfl) ?_
 refine G.nt ?_
 refine W.ite rfl (fun c19 => ?_) (fun c19 => ?_)
 ·refine W.region ?_
  refine G.r (Runs.fieldAddr fld71_1 rfl) ?_
  refine G.r (Runs.ld ty69) ?_
  refine G.r (Runs.lds (vs := [_, _, _, _, _, _, _]) ty122) ?_
  refine G.e (Eff.call call247 rfl rfl (SetP_at (by repeat (first | exact AtF.head _ _ | apply AtF.tail)) rfl ha (by omega))) ?_
  rintro _ _ ⟨_, _, ⟨⟨ad4, cp5, wv6⟩, rfl, rfl⟩, rfl, rfl⟩
  show G Try.prog κ _ _ _ _ ([(25, .tuple #[.slice ad4 (setL (lkOf e) xs).length cp5, wv6]), (24, .agg #[I64 (e.kd), I64 (e.tm), I64 (e.u), I64 (e.v), I64 (e.w), I64 (e.lb), I64 (e.sg)]), (23, .slice a0 xs.length c0), (22, .pointer (some ⟨b1, 1, none⟩)), (19, .bool (decide (e.kd = 1))), (20, .bool (decide (e.kd = 1))), (8, I64 (e.kd)), (7, .pointer (some ⟨b2, 0, none⟩)), (6, .slice none 0 0), (5, .slice none 0 0), (4, .pointer (some ⟨b3, 0, none⟩)), (3, .pointer (some ⟨b2, 0, none⟩)), (2, .pointer (some ⟨b1, 0, none⟩)), (0, .agg #[I64 (nd), .slice a0 xs.length c0]), (1, .agg #[I64 (e.kd), I64 (e.tm), I64 (e.u), I64 (e.v), I64 (e.w), I64 (e.lb), I64 (e.sg)])] : Env) (blk b3 [I64 (0), .slice none 0 0] 71 :: blk b2 [I64 (e.kd), I64 (e.tm), I64 (e.u), I64 (e.v), I64 (e.w), I64 (e.lb), I64 (e.sg)] 122 :: blk b1 [I64 (nd), .slice a0 xs.length c0] 71 :: vc 158 (.slice ad4 (setL (lkOf e) xs).length cp5) (setL (lkOf e) xs) :: I)
  refine G.r (Runs.move rfl) ?_
  refine G.r (Runs.extract rfl rfl) ?_
  refine G.r (Runs.extract rfl rfl) ?_
  refine G.r (Runs.fieldAddr fld71_1 rfl) ?_
  refine G.e (Eff.st (cs := [_, _]) (vs := [_]) (cs' := [_, _]) ty69) ?_
  rintro _ _ ⟨rfl, rfl⟩
  refine G.r (Runs.assign rfl) ?_
  refine G.nil ?_
  refine V.block_normal ?_
  refine V.then ?_
  refine W.sub (L' := [(6, _), (4, _), (2, _)]) (Sub.cons rfl (Sub.cons rfl (Sub.cons rfl Sub.nil))) ?_
  refine W.sr ?_
  refine G.r (Runs.lds (vs := [_, _]) ty71) ?_
  refine G.r (Runs.move rfl) ?_
  refine G.e (Eff.st (cs := [_, _]) (vs := [_, _]) (cs' := [_, _]) ty71) ?_
  rintro _ _ ⟨rfl, rfl⟩
  refine G.r (Runs.assign rfl) ?_
  refine G.nt ?_
  refine W.ret ?_
  have hE : setL (lkOf e) xs = (stepL xs e) := by unfold stepL; rw [if_pos c19]
  exact V.retc1 rfl ty71 rfl rfl (by repeat (first | exact List.mem_cons_self | apply List.mem_cons_of_mem)) rfl ([] ++ vc 158 (.slice ad4 (stepL xs e).length cp5) (stepL xs e) :: I) (by rw [← hE]; exact Fit.sub) ⟨⟨ad4, cp5, wv6⟩, by rw [← hE] <;> rfl, rfl⟩
 ·refine W.sr ?_
  refine G.r (Runs.eql rfl rfl) ?_
  refine G.r (Runs.assign rfl) ?_
  refine G.nt ?_
  refine W.ite rfl (fun c29 => ?_) (fun c29 => ?_)
  ·refine W.region ?_
   refine G.r (Runs.fieldAddr fld71_1 rfl) ?_
   refine G.r (Runs.ld ty69) ?_
   refine G.r (Runs.fieldAddr fld122_1 rfl) ?_
   refine G.r (Runs.ld ty3) ?_
   refine G.r (Runs.makeFunc rfl rfl) ?_
   refine G.e (Eff.call call248 rfl rfl (CutP_at (by repeat (first | exact AtF.head _ _ | apply AtF.tail)) rfl (Step1_says c29 (BlkRd.of (by repeat (first | exact List.mem_cons_self | apply List.mem_cons_of_mem)))) (by omega))) ?_
   rintro _ _ ⟨_, _, ⟨⟨ad7, cp8, wv9⟩, rfl, rfl⟩, rfl, rfl⟩
   show G Try.prog κ _ _ _ _ ([(37, .tuple #[.slice ad7 (List.filter (fun x => !hitE e x) xs).length cp8, wv9]), (36, .func (.func 249) #[] #[.pointer (some ⟨b2, 0, none⟩)]), (35, I64 (e.tm)), (34, .pointer (some ⟨b2, 1, none⟩)), (33, .slice a0 xs.length c0), (32, .pointer (some ⟨b1, 1, none⟩)), (29, .bool (decide (e.kd = 2))), (30, .bool (decide (e.kd = 2))), (19, .bool (decide (e.kd = 1))), (20, .bool (decide (e.kd = 1))), (8, I64 (e.kd)), (7, .pointer (some ⟨b2, 0, none⟩)), (6, .slice none 0 0), (5, .slice none 0 0), (4, .pointer (some ⟨b3, 0, none⟩)), (3, .pointer (some ⟨b2, 0, none⟩)), (2, .pointer (some ⟨b1, 0, none⟩)), (0, .agg #[I64 (nd), .slice a0 xs.length c0]), (1, .agg #[I64 (e.kd), I64 (e.tm), I64 (e.u), I64 (e.v), I64 (e.w), I64 (e.lb), I64 (e.sg)])] : Env) (blk b3 [I64 (0), .slice none 0 0] 71 :: blk b2 [I64 (e.kd), I64 (e.tm), I64 (e.u), I64 (e.v), I64 (e.w), I64 (e.lb), I64 (e.sg)] 122 :: blk b1 [I64 (nd), .slice a0 xs.length c0] 71 :: vc 158 (.slice ad7 (List.filter (fun x => !hitE e x) xs).length cp8) (List.filter (fun x => !hitE e x) xs) :: I)
   refine G.r (Runs.move rfl) ?_
   refine G.r (Runs.extract rfl rfl) ?_
   refine G.r (Runs.extract rfl rfl) ?_
   refine G.r (Runs.fieldAddr fld71_1 rfl) ?_
   refine G.e (Eff.st (cs := [_, _]) (vs := [_]) (cs' := [_, _]) ty69) ?_
   rintro _ _ ⟨rfl, rfl⟩
   refine G.r (Runs.assign rfl) ?_
   refine G.nil ?_
   refine V.block_normal ?_
   refine V.then ?_
   refine W.sub (L' := [(6, _), (4, _), (2, _)]) (Sub.cons rfl (Sub.cons rfl (Sub.cons rfl Sub.nil))) ?_
   refine W.sr ?_
   refine G.r (Runs.lds (vs := [_, _]) ty71) ?_
   refine G.r (Runs.move rfl) ?_
   refine G.e (Eff.st (cs := [_, _]) (vs := [_, _]) (cs' := [_, _]) ty71) ?_
   rintro _ _ ⟨rfl, rfl⟩
   refine G.r (Runs.assign rfl) ?_
   refine G.nt ?_
   refine W.ret ?_
   have hE : List.filter (fun x => !hitE e x) xs = (stepL xs e) := by unfold stepL; rw [if_neg c19]
   exact V.retc1 rfl ty71 rfl rfl (by repeat (first | exact List.mem_cons_self | apply List.mem_cons_of_mem)) rfl ([] ++ vc 158 (.slice ad7 (stepL xs e).length cp8) (stepL xs e) :: I) (by rw [← hE]; exact Fit.sub) ⟨⟨ad7, cp8, wv9⟩, by rw [← hE] <;> rfl, rfl⟩
  ·refine W.region ?_
   refine G.r (Runs.fieldAddr fld71_1 rfl) ?_
   refine G.r (Runs.ld ty69) ?_
   refine G.r (Runs.fieldAddr fld122_1 rfl) ?_
   refine G.r (Runs.ld ty3) ?_
   refine G.r (Runs.makeFunc rfl rfl) ?_
   refine G.e (Eff.call call248 rfl rfl (CutP_at (by repeat (first | exact AtF.head _ _ | apply AtF.tail)) rfl (Step2_says c29 (BlkRd.of (by repeat (first | exact List.mem_cons_self | apply List.mem_cons_of_mem)))) (by omega))) ?_
   rintro _ _ ⟨_, _, ⟨⟨ad10, cp11, wv12⟩, rfl, rfl⟩, rfl, rfl⟩
   show G Try.prog κ _ _ _ _ ([(15, .tuple #[.slice ad10 (List.filter (fun x => !hitE e x) xs).length cp11, wv12]), (14, .func (.func 250) #[] #[.pointer (some ⟨b2, 0, none⟩)]), (13, I64 (e.tm)), (12, .pointer (some ⟨b2, 1, none⟩)), (11, .slice a0 xs.length c0), (10, .pointer (some ⟨b1, 1, none⟩)), (29, .bool (decide (e.kd = 2))), (30, .bool (decide (e.kd = 2))), (19, .bool (decide (e.kd = 1))), (20, .bool (decide (e.kd = 1))), (8, I64 (e.kd)), (7, .pointer (some ⟨b2, 0, none⟩)), (6, .slice none 0 0), (5, .slice none 0 0), (4, .pointer (some ⟨b3, 0, none⟩)), (3, .pointer (some ⟨b2, 0, none⟩)), (2, .pointer (some ⟨b1, 0, none⟩)), (0, .agg #[I64 (nd), .slice a0 xs.length c0]), (1, .agg #[I64 (e.kd), I64 (e.tm), I64 (e.u), I64 (e.v), I64 (e.w), I64 (e.lb), I64 (e.sg)])] : Env) (blk b3 [I64 (0), .slice none 0 0] 71 :: blk b2 [I64 (e.kd), I64 (e.tm), I64 (e.u), I64 (e.v), I64 (e.w), I64 (e.lb), I64 (e.sg)] 122 :: blk b1 [I64 (nd), .slice a0 xs.length c0] 71 :: vc 158 (.slice ad10 (List.filter (fun x => !hitE e x) xs).length cp11) (List.filter (fun x => !hitE e x) xs) :: I)
   refine G.r (Runs.move rfl) ?_
   refine G.r (Runs.extract rfl rfl) ?_
   refine G.r (Runs.extract rfl rfl) ?_
   refine G.r (Runs.fieldAddr fld71_1 rfl) ?_
   refine G.e (Eff.st (cs := [_, _]) (vs := [_]) (cs' := [_, _]) ty69) ?_
   rintro _ _ ⟨rfl, rfl⟩
   refine G.r (Runs.assign rfl) ?_
   refine G.nil ?_
   refine V.block_normal ?_
   refine V.then ?_
   refine W.sub (L' := [(6, _), (4, _), (2, _)]) (Sub.cons rfl (Sub.cons rfl (Sub.cons rfl Sub.nil))) ?_
   refine W.sr ?_
   refine G.r (Runs.lds (vs := [_, _]) ty71) ?_
   refine G.r (Runs.move rfl) ?_
   refine G.e (Eff.st (cs := [_, _]) (vs := [_, _]) (cs' := [_, _]) ty71) ?_
   rintro _ _ ⟨rfl, rfl⟩
   refine G.r (Runs.assign rfl) ?_
   refine G.nt ?_
   refine W.ret ?_
   have hE : List.filter (fun x => !hitE e x) xs = (stepL xs e) := by unfold stepL; rw [if_neg c19]
   exact V.retc1 rfl ty71 rfl rfl (by repeat (first | exact List.mem_cons_self | apply List.mem_cons_of_mem)) rfl ([] ++ vc 158 (.slice ad10 (stepL xs e).length cp11) (stepL xs e) :: I) (by rw [← hE]; exact Fit.sub) ⟨⟨ad10, cp11, wv12⟩, by rw [← hE] <;> rfl, rfl⟩

theorem StepP_at {κ : Ctx} {I : List Item} {F : Item → List Item} {n : Nat} {nd : Int} {e : Ev} {a0 : Option Addr} {c0 : Nat} {xs : List Lk} (hat : AtF I (vc 158 (.slice a0 n c0) xs) F) (hn : n = xs.length) (ha : xs.Pairwise Lk.lt) (hsz : xs.length ≤ 1000000) :
    CallS Try.prog κ 207 [.agg #[I64 (nd), .slice a0 n c0], .agg #[I64 (e.kd), I64 (e.tm), I64 (e.u), I64 (e.v), I64 (e.w), I64 (e.lb), I64 (e.sg)]] I fun r J => ∃ y : Option Addr × Nat × Value, (r = .tuple #[.agg #[I64 nd, .slice y.1 (stepL xs e).length y.2.1], y.2.2]) ∧ J = [] ++ F (vc 158 (.slice y.1 (stepL xs e).length y.2.1) (stepL xs e)) := by
  subst hn
  exact CallS.at (Post := fun r (y : Option Addr × Nat × Value) => r = .tuple #[.agg #[I64 nd, .slice y.1 (stepL xs e).length y.2.1], y.2.2]) (Z := fun _ => []) (X := fun y : Option Addr × Nat × Value => vc 158 (.slice y.1 (stepL xs e).length y.2.1) (stepL xs e)) hat fun J hJ _ => StepP_base ha hsz

end Go.Sl
namespace Go.Sl
open Go.Proofs
set_option linter.unusedVariables false
set_option linter.unusedSimpArgs false
set_option maxRecDepth 4000
set_option maxHeartbeats 1000000 in
theorem PutP_base {κ : Ctx} {I : List Item} {b : Nat} {nd : Int} {a0 o0 : Option Addr} {c0 d0 : Nat} {xs : List Lk} {out : List Ev} {va : Value} {es : List Ev} (hl : Sl κ I va es) (hval : checkS nd xs = 0) (hfit : ∀ j : Nat, j < es.length → FitOk nd (at_ es (j : Int))) (hsz : xs.length + es.length ≤ 1000000) (hso : out.length + es.length ≤ 1000000) :
    CallS Try.prog κ 156 [.pointer (some ⟨b, 0, none⟩), va] (blk b [I64 (nd), .slice a0 xs.length c0, .slice o0 out.length d0] 201 :: vc 158 (.slice a0 xs.length c0) (xs) :: vc 122 (.slice o0 out.length d0) (out) :: I) (fun r J => ∃ y : Option Addr × Nat × Option Addr × Nat, r = .tuple #[] ∧ J = blk b [I64 (nd), .slice y.1 (List.foldl stepL xs es).length y.2.1, .slice y.2.2.1 (out ++ es).length y.2.2.2] 201 :: vc 158 (.slice y.1 (List.foldl stepL xs es).length y.2.1) (List.foldl stepL xs es) :: vc 122 (.slice y.2.2.1 (out ++ es).length y.2.2.2) (out ++ es) :: I) := by
 refine CallS.enter (L := [(0, .pointer (some ⟨b, 0, none⟩)), (1, va)]) Try.func156 rfl rfl rfl rfl ?_
 refine W.sr ?_
 refine G.r (Runs.move rfl) ?_
 refine G.r (Runs.lenT (α := Ev) (xs := es) Try.underlying81 rfl (Sl.f hl)) ?_
 refine G.r (Runs.move rfl) ?_
 refine G.nt ?_
 refine W.block ?_
 refine W.loop (σ := Nat × (Option Addr) × Nat × (Option Addr) × Nat) (fun s => ([(0, .pointer (some ⟨b, 0, none⟩)), (6, va), (7, I64 (((es.length : Nat) : Int))), (8, I64 (((s.1 : Nat) : Int)))] : Env)) (fun s => blk b [I64 (nd), .slice s.2.1 (List.foldl stepL xs (List.take s.1 es)).length s.2.2.1, .slice s.2.2.2.1 (out ++ List.take s.1 es).length s.2.2.2.2] 201 :: vc 158 (.slice s.2.1 (List.foldl stepL xs (List.take s.1 es)).length s.2.2.1) (List.foldl stepL xs (List.take s.1 es)) :: vc 122 (.slice s.2.2.2.1 (out ++ List.take s.1 es).length s.2.2.2.2) (out ++ List.take s.1 es) :: I) (fun s => (s.1 ≤ es.length) ∧ (checkS nd (List.foldl stepL xs (List.take s.1 es)) = 0)) (fun s => es.length - s.1) (0, a0, c0, o0, d0) (show ((0 : Nat) ≤ es.length) ∧ (checkS nd (List.foldl stepL xs (List.take (0 : Nat) es)) = 0) from ⟨(by omega), hval⟩) (Sub.cons rfl (Sub.cons rfl (Sub.cons rfl (Sub.cons lookO Sub.nil)))) (show Fit κ _ (blk b [I64 (nd), .slice (a0) (List.foldl stepL xs (List.take (0) es)).length (c0), .slice (o0) (out ++ List.take (0) es).length (d0)] 201 :: vc 158 (.slice (a0) (List.foldl stepL xs (List.take (0) es)).length (c0)) (List.foldl stepL xs (List.take (0) es)) :: vc 122 (.slice (o0) (out ++ List.take (0) es).length (d0)) (out ++ List.take (0) es) :: I) from (by rw [show out ++ List.take 0 es = out from List.append_nil _]; exact Fit.refl _)) ?_
 rintro ⟨k, a1, c1, o1, d1⟩ hp
 obtain ⟨hk, hv⟩ : (k ≤ es.length) ∧ (checkS nd (List.foldl stepL xs (List.take k es)) = 0) := hp
 show W Try.prog κ 35 _ _ ([(0, .pointer (some ⟨b, 0, none⟩)), (6, va), (7, I64 (((es.length : Nat) : Int))), (8, I64 (((k : Nat) : Int)))] : Env) (blk b [I64 (nd), .slice a1 (List.foldl stepL xs (List.take k es)).length c1, .slice o1 (out ++ List.take k es).length d1] 201 :: vc 158 (.slice a1 (List.foldl stepL xs (List.take k es)).length c1) (List.foldl stepL xs (List.take k es)) :: vc 122 (.slice o1 (out ++ List.take k es).length d1) (out ++ List.take k es) :: I)
 refine W.sr ?_
 refine G.r (Runs.lss rfl rfl) ?_
 refine G.nt ?_
 refine W.seq ?_
 refine W.ite rfl (fun c9 => ?_) (fun c9 => ?_)
 ·refine W.skip ?_
  refine V.then ?_
  refine W.seq ?_
  refine W.block ?_
  refine W.sr ?_
  refine G.r (Runs.idx (α := Ev) (xs := es) Try.underlying81 ty122 rfl rfl (Sl.f hl) (by omega) (by omega)) ?_
  refine G.r (Runs.gets (α := Ev) (xs := es) ty122 rfl (Sl.f hl) (by omega) (by omega)) ?_
  refine G.e (Eff.alloc ty122 rfl) ?_
  rintro _ _ ⟨b1, rfl, rfl⟩
  refine G.e (Eff.st (cs := [_, _, _, _, _, _, _]) (vs := [_, _, _, _, _, _, _]) (cs' := [_, _, _, _, _, _, _]) ty122) ?_
  rintro _ _ ⟨rfl, rfl⟩
  refine G.nt ?_
  refine W.seq ?_
  refine W.drawn mixed ?_
  refine A.hold (blk b1 [I64 ((at_ es ((k : Nat) : Int)).kd), I64 ((at_ es ((k : Nat) : Int)).tm), I64 ((at_ es ((k : Nat) : Int)).u), I64 ((at_ es ((k : Nat) : Int)).v), I64 ((at_ es ((k : Nat) : Int)).w), I64 ((at_ es ((k : Nat) : Int)).lb), I64 ((at_ es ((k : Nat) : Int)).sg)] 122 :: I) 13 ?_
  refine D.r 0 rfl (Runs.move rfl) ?_ (hJ := Fit.sub)
  refine D.r 1 rfl (Runs.move rfl) ?_ (hJ := Fit.sub)
  refine D.r 2 rfl (Runs.nilCheck rfl) ?_ (hJ := Fit.sub)
  refine D.r 3 rfl (Runs.fieldAddr fld201_0 rfl) ?_ (hJ := Fit.sub)
  refine D.r 5 rfl (Runs.lds (vs := [_, _, _, _, _, _, _]) ty122) ?_ (hJ := Fit.sub)
  refine D.step (rs := [4]) (by kernel_rfl) rfl rfl (all1 ?_)
  refine Step.read rfl (Wanted.plain rfl) rfl rfl (Runs.lds (vs := [_, _]) ty71) Fit.sub ?_
  refine D.step (rs := [6]) (by kernel_rfl) rfl rfl (all1 ?_)
  refine Step.eff rfl (Wanted.plain rfl) (Eff.call call207 rfl rfl (StepP_at (by repeat (first | exact AtF.head _ _ | apply AtF.tail)) rfl (checkS_ok hv).2.2 (by have h := steps_len (List.take k es) xs; rw [List.length_take] at h; omega))) ?_
  rintro _ _ ⟨_, _, ⟨⟨ad2, cp3, wv4⟩, rfl, rfl⟩, rfl, rfl⟩
  refine ⟨Fit.sub, ?_⟩
  show D Try.prog κ _ _ _ _ _ _ _ ([(19, .tuple #[.agg #[I64 (nd), .slice ad2 (stepL (List.foldl stepL xs (List.take k es)) (at_ es ((k : Nat) : Int))).length cp3], wv4]), (17, .agg #[I64 (nd), .slice a1 (List.foldl stepL xs (List.take k es)).length c1]), (18, .agg #[I64 ((at_ es ((k : Nat) : Int)).kd), I64 ((at_ es ((k : Nat) : Int)).tm), I64 ((at_ es ((k : Nat) : Int)).u), I64 ((at_ es ((k : Nat) : Int)).v), I64 ((at_ es ((k : Nat) : Int)).w), I64 ((at_ es ((k : Nat) : Int)).lb), I64 ((at_ es ((k : Nat) : Int)).sg)]), (16, .pointer (some ⟨b, 0, none⟩)), (15, .pointer (some ⟨b, 0, none⟩)), (14, .pointer (some ⟨b, 0, none⟩)), (13, .pointer (some ⟨b, 0, none⟩)), (5, .pointer (some ⟨b1, 0, none⟩)), (11, .agg #[I64 ((at_ es ((k : Nat) : Int)).kd), I64 ((at_ es ((k : Nat) : Int)).tm), I64 ((at_ es ((k : Nat) : Int)).u), I64 ((at_ es ((k : Nat) : Int)).v), I64 ((at_ es ((k : Nat) : Int)).w), I64 ((at_ es ((k : Nat) : Int)).lb), I64 ((at_ es ((k : Nat) : Int)).sg)]), (10, elemPtr (va) ((((k : Nat) : Int)).toNat * Enc.sz Ev)), (9, .bool (decide (((k : Nat) : Int) < ((es.length : Nat) : Int)))), (0, .pointer (some ⟨b, 0, none⟩)), (6, va), (7, I64 (((es.length : Nat) : Int))), (8, I64 (((k : Nat) : Int)))] : Env) (blk b1 [I64 ((at_ es ((k : Nat) : Int)).kd), I64 ((at_ es ((k : Nat) : Int)).tm), I64 ((at_ es ((k : Nat) : Int)).u), I64 ((at_ es ((k : Nat) : Int)).v), I64 ((at_ es ((k : Nat) : Int)).w), I64 ((at_ es ((k : Nat) : Int)).lb), I64 ((at_ es ((k : Nat) : Int)).sg)] 122 :: blk b [I64 (nd), .slice a1 (List.foldl stepL xs (List.take k es)).length c1, .slice o1 (out ++ List.take k es).length d1] 201 :: vc 158 (.slice ad2 (stepL (List.foldl stepL xs (List.take k es)) (at_ es ((k : Nat) : Int))).length cp3) (stepL (List.foldl stepL xs (List.take k es)) (at_ es ((k : Nat) : Int))) :: vc 122 (.slice o1 (out ++ List.take k es).length d1) (out ++ List.take k es) :: I)
  refine D.r 7 rfl (Runs.move rfl) ?_ (hJ := Fit.sub)
  refine D.r 8 rfl (Runs.extract rfl rfl) ?_ (hJ := Fit.sub)
  refine D.r 9 rfl (Runs.extract rfl rfl) ?_ (hJ := Fit.sub)
  refine D.r 10 rfl (Runs.nilCheck rfl) ?_ (hJ := Fit.sub)
  refine D.r 11 rfl (Runs.fieldAddr fld201_0 rfl) ?_ (hJ := Fit.sub)
  refine D.step (rs := [12]) (by kernel_rfl) rfl rfl (all1 ?_)
  refine Step.eff rfl (Wanted.plain rfl) (Eff.st (cs := [_, _, _]) (vs := [_, _]) (cs' := [_, _, _]) ty71) ?_
  rintro _ _ ⟨rfl, rfl⟩
  refine ⟨Fit.sub, ?_⟩
  refine D.done (by kernel_rfl) ?_
  refine V.then ?_
  refine W.sub (L' := [(5, _), (0, _), (6, _), (7, _), (8, _)]) (Sub.cons rfl (Sub.cons rfl (Sub.cons rfl (Sub.cons rfl (Sub.cons rfl Sub.nil))))) ?_
  refine W.drawn mixed ?_
  refine A.hold (blk b1 [I64 ((at_ es ((k : Nat) : Int)).kd), I64 ((at_ es ((k : Nat) : Int)).tm), I64 ((at_ es ((k : Nat) : Int)).u), I64 ((at_ es ((k : Nat) : Int)).v), I64 ((at_ es ((k : Nat) : Int)).w), I64 ((at_ es ((k : Nat) : Int)).lb), I64 ((at_ es ((k : Nat) : Int)).sg)] 122 :: I) 11 ?_
  refine D.r 0 rfl (Runs.move rfl) ?_ (hJ := Fit.sub)
  refine D.r 1 rfl (Runs.move rfl) ?_ (hJ := Fit.sub)
  refine D.r 2 rfl (Runs.nilCheck rfl) ?_ (hJ := Fit.sub)
  refine D.r 3 rfl (Runs.fieldAddr fld201_1 rfl) ?_ (hJ := Fit.sub)
  refine D.r 5 rfl (Runs.lds (vs := [_, _, _, _, _, _, _]) ty122) ?_ (hJ := Fit.sub)
  refine D.step (rs := [4, 6]) (by kernel_rfl) rfl rfl (all2 ?_ (all1 ?_))
  ·refine Step.read rfl (Wanted.plain rfl) rfl rfl (Runs.ld ty81) Fit.sub ?_
   refine D.step (rs := [6]) (by kernel_rfl) rfl rfl (all1 ?_)
   refine Step.eff rfl (Wanted.plain rfl) (Eff.bs (α := Ev) (cs := [I64 ((at_ es ((k : Nat) : Int)).kd), I64 ((at_ es ((k : Nat) : Int)).tm), I64 ((at_ es ((k : Nat) : Int)).u), I64 ((at_ es ((k : Nat) : Int)).v), I64 ((at_ es ((k : Nat) : Int)).w), I64 ((at_ es ((k : Nat) : Int)).lb), I64 ((at_ es ((k : Nat) : Int)).sg)]) (xs := [⟨(at_ es ((k : Nat) : Int)).kd, (at_ es ((k : Nat) : Int)).tm, (at_ es ((k : Nat) : Int)).u, (at_ es ((k : Nat) : Int)).v, (at_ es ((k : Nat) : Int)).w, (at_ es ((k : Nat) : Int)).lb, (at_ es ((k : Nat) : Int)).sg⟩]) Try.underlying81 ty122 rfl rfl (by decide) (by decide) rfl (by kernel_rfl) rfl rfl) ?_
   rintro _ _ ⟨ad5, rfl, rfl⟩
   refine ⟨Fit.sub, ?_⟩
   refine D.step (rs := [7]) (by kernel_rfl) rfl rfl (all1 ?_)
   refine Step.eff rfl (Wanted.plain rfl) (Eff.app (α := Ev) (e := 122) (xs := out ++ List.take k es) (ys := ([⟨(at_ es ((k : Nat) : Int)).kd, (at_ es ((k : Nat) : Int)).tm, (at_ es ((k : Nat) : Int)).u, (at_ es ((k : Nat) : Int)).v, (at_ es ((k : Nat) : Int)).w, (at_ es ((k : Nat) : Int)).lb, (at_ es ((k : Nat) : Int)).sg⟩] : List Ev)) Try.underlying81 ty122 rfl rfl rfl (by repeat (first | exact List.mem_cons_self | apply List.mem_cons_of_mem)) Sl.o (by simp only [List.length_append, List.length_take, List.length_cons, List.length_nil]; omega) (by decide) rfl (fun _ _ => (by repeat (first | exact At.head _ _ _ | apply At.tail)))) ?_
   rintro _ _ ⟨ad6, cp7, rfl, rfl⟩
   refine ⟨Fit.sub, ?_⟩
   refine D.r 8 rfl (Runs.nilCheck rfl) ?_ (hJ := Fit.sub)
   refine D.r 9 rfl (Runs.fieldAddr fld201_1 rfl) ?_ (hJ := Fit.sub)
   refine D.step (rs := [10]) (by kernel_rfl) rfl rfl (all1 ?_)
   refine Step.eff rfl (Wanted.plain rfl) (Eff.st (cs := [_, _, _]) (vs := [_]) (cs' := [_, _, _]) ty81) ?_
   rintro _ _ ⟨rfl, rfl⟩
   refine ⟨Fit.sub, ?_⟩
   refine D.done (by kernel_rfl) ?_
   refine V.block_normal ?_
   refine V.then ?_
   refine W.sub (L' := [(0, _), (6, _), (7, _), (8, _)]) (Sub.cons rfl (Sub.cons rfl (Sub.cons rfl (Sub.cons rfl Sub.nil)))) ?_
   refine W.region ?_
   refine G.r (Runs.add rfl rfl (by unfold InR; omega)) ?_
   refine G.r (Runs.move rfl) ?_
   refine G.nil ?_
   exact V.next ((k + 1), (ad2), (cp3), (ad6), (cp7)) (show ((k + 1 : Nat) ≤ es.length) ∧ (checkS nd (List.foldl stepL xs (List.take (k + 1 : Nat) es)) = 0) from ⟨(by omega), (by rw [steps_succ (by omega)]; exact stepL_val hv (hfit k (by omega)))⟩) (show es.length - (k + 1 : Nat) < es.length - k from (by omega)) (Sub.cons rfl (Sub.cons rfl (Sub.cons rfl (Sub.cons lookO Sub.nil)))) (show Fit κ _ (blk b [I64 (nd), .slice (ad2) (List.foldl stepL xs (List.take (k + 1) es)).length (cp3), .slice (ad6) (out ++ List.take (k + 1) es).length (cp7)] 201 :: vc 158 (.slice (ad2) (List.foldl stepL xs (List.take (k + 1) es)).length (cp3)) (List.foldl stepL xs (List.take (k + 1) es)) :: vc 122 (.slice (ad6) (out ++ List.take (k + 1) es).length (cp7)) (out ++ List.take (k + 1) es) :: I) from (by rw [steps_succ (by omega), out_succ (by omega)]; exact Fit.sub))
  ·refine Step.eff rfl (Wanted.plain rfl) (Eff.bs (α := Ev) (cs := [I64 ((at_ es ((k : Nat) : Int)).kd), I64 ((at_ es ((k : Nat) : Int)).tm), I64 ((at_ es ((k : Nat) : Int)).u), I64 ((at_ es ((k : Nat) : Int)).v), I64 ((at_ es ((k : Nat) : Int)).w), I64 ((at_ es ((k : Nat) : Int)).lb), I64 ((at_ es ((k : Nat) : Int)).sg)]) (xs := [⟨(at_ es ((k : Nat) : Int)).kd, (at_ es ((k : Nat) : Int)).tm, (at_ es ((k : Nat) : Int)).u, (at_ es ((k : Nat) : Int)).v, (at_ es ((k : Nat) : Int)).w, (at_ es ((k : Nat) : Int)).lb, (at_ es ((k : Nat) : Int)).sg⟩]) Try.underlying81 ty122 rfl rfl (by decide) (by decide) rfl (by kernel_rfl) rfl rfl) ?_
   rintro _ _ ⟨ad8, rfl, rfl⟩
   refine ⟨Fit.sub, ?_⟩
   refine D.step (rs := [4]) (by kernel_rfl) rfl rfl (all1 ?_)
   refine Step.read rfl (Wanted.plain rfl) rfl rfl (Runs.ld ty81) Fit.sub ?_
   refine D.step (rs := [7]) (by kernel_rfl) rfl rfl (all1 ?_)
   refine Step.eff rfl (Wanted.plain rfl) (Eff.app (α := Ev) (e := 122) (xs := out ++ List.take k es) (ys := ([⟨(at_ es ((k : Nat) : Int)).kd, (at_ es ((k : Nat) : Int)).tm, (at_ es ((k : Nat) : Int)).u, (at_ es ((k : Nat) : Int)).v, (at_ es ((k : Nat) : Int)).w, (at_ es ((k : Nat) : Int)).lb, (at_ es ((k : Nat) : Int)).sg⟩] : List Ev)) Try.underlying81 ty122 rfl rfl rfl (by repeat (first | exact List.mem_cons_self | apply List.mem_cons_of_mem)) Sl.o (by simp only [List.length_append, List.length_take, List.length_cons, List.length_nil]; omega) (by decide) rfl (fun _ _ => (by repeat (first | exact At.head _ _ _ | apply At.tail)))) ?_
   rintro _ _ ⟨ad9, cp10, rfl, rfl⟩
   refine ⟨Fit.sub, ?_⟩
   refine D.r 8 rfl (Runs.nilCheck rfl) ?_ (hJ := Fit.sub)
   refine D.r 9 rfl (Runs.fieldAddr fld201_1 rfl) ?_ (hJ := Fit.sub)
   refine D.step (rs := [10]) (by kernel_rfl) rfl rfl (all1 ?_)
   refine Step.eff rfl (Wanted.plain rfl) (Eff.st (cs := [_, _, _]) (vs := [_]) (cs' := [_, _, _]) ty81) ?_
   rintro _ _ ⟨rfl, rfl⟩
   refine ⟨Fit.sub, ?_⟩
   refine D.done (by kernel_rfl) ?_
   refine V.block_normal ?_
   refine V.then ?_
   refine W.sub (L' := [(0, _), (6, _), (7, _), (8, _)]) (Sub.cons rfl (Sub.cons rfl (Sub.cons rfl (Sub.cons rfl Sub.nil)))) ?_
   refine W.region ?_
   refine G.r (Runs.add rfl rfl (by unfold InR; omega)) ?_
   refine G.r (Runs.move rfl) ?_
   refine G.nil ?_
   exact V.next ((k + 1), (ad2), (cp3), (ad9), (cp10)) (show ((k + 1 : Nat) ≤ es.length) ∧ (checkS nd (List.foldl stepL xs (List.take (k + 1 : Nat) es)) = 0) from ⟨(by omega), (by rw [steps_succ (by omega)]; exact stepL_val hv (hfit k (by omega)))⟩) (show es.length - (k + 1 : Nat) < es.length - k from (by omega)) (Sub.cons rfl (Sub.cons rfl (Sub.cons rfl (Sub.cons lookO Sub.nil)))) (show Fit κ _ (blk b [I64 (nd), .slice (ad2) (List.foldl stepL xs (List.take (k + 1) es)).length (cp3), .slice (ad9) (out ++ List.take (k + 1) es).length (cp10)] 201 :: vc 158 (.slice (ad2) (List.foldl stepL xs (List.take (k + 1) es)).length (cp3)) (List.foldl stepL xs (List.take (k + 1) es)) :: vc 122 (.slice (ad9) (out ++ List.take (k + 1) es).length (cp10)) (out ++ List.take (k + 1) es) :: I) from (by rw [steps_succ (by omega), out_succ (by omega)]; exact Fit.sub))
 ·refine W.exit ?_
  refine V.then_exit ?_
  refine V.then_exit ?_
  refine V.block_hit ?_
  have hk2 : List.take k es = es := List.take_of_length_le (by omega)
  exact V.end0 rfl (blk b [I64 (nd), .slice a1 (List.foldl stepL xs es).length c1, .slice o1 (out ++ es).length d1] 201 :: vc 158 (.slice a1 (List.foldl stepL xs es).length c1) (List.foldl stepL xs es) :: vc 122 (.slice o1 (out ++ es).length d1) (out ++ es) :: I) (by rw [hk2]; exact Fit.sub) ⟨⟨a1, c1, o1, d1⟩, rfl, rfl⟩

end Go.Sl
namespace Go.Sl
open Go.Proofs
set_option linter.unusedVariables false
set_option linter.unusedSimpArgs false
set_option maxRecDepth 4000
set_option maxHeartbeats 1000000 in
theorem AgeP_base {κ : Ctx} {I : List Item} {b : Nat} {nd wd mo T last : Int} {a0 o0 : Option Addr} {c0 d0 : Nat} {xs : List Lk} {out : List Ev} (hI0 : SlI nd 2 wd last xs) (hw : checkW 2 wd mo = 0) (hT : 0 ≤ last ∧ last ≤ T ∧ T ≤ 1048576) (hsz : xs.length + out.length ≤ 400000) :
    CallS Try.prog κ 155 [.pointer (some ⟨b, 0, none⟩), .agg #[I64 (2), I64 (wd), I64 (mo)], I64 (T)] (blk b [I64 (nd), .slice a0 xs.length c0, .slice o0 out.length d0] 201 :: vc 158 (.slice a0 xs.length c0) (xs) :: vc 122 (.slice o0 out.length d0) (out) :: I) (fun r J => ∃ y : Option Addr × Nat × Option Addr × Nat, (r = .tuple #[] ∧ SlI nd 2 wd T (ageL wd mo T xs out).1 ∧ (ageL wd mo T xs out).1.length + (ageL wd mo T xs out).2.length = xs.length + out.length) ∧ J = blk b [I64 (nd), .slice y.1 ((ageL wd mo T xs out).1).length y.2.1, .slice y.2.2.1 ((ageL wd mo T xs out).2).length y.2.2.2] 201 :: vc 158 (.slice y.1 ((ageL wd mo T xs out).1).length y.2.1) ((ageL wd mo T xs out).1) :: vc 122 (.slice y.2.2.1 ((ageL wd mo T xs out).2).length y.2.2.2) ((ageL wd mo T xs out).2) :: I) := by
 refine CallS.enter (L := [(0, .pointer (some ⟨b, 0, none⟩)), (1, .agg #[I64 (2), I64 (wd), I64 (mo)]), (2, I64 (T))]) Try.func155 rfl rfl rfl rfl ?_
 refine W.sr ?_
 refine G.e (Eff.box (cs := [_, _, _]) rfl rfl rfl) ?_
 rintro _ _ ⟨b1, rfl, rfl⟩
 refine G.nt ?_
 refine W.block ?_
 refine W.loop (σ := (Option Addr) × Nat × (Option Addr) × Nat × (List Lk) × (List Ev)) (fun s => ([(0, .pointer (some ⟨b, 0, none⟩)), (2, I64 (T)), (4, .pointer (some ⟨b1, 0, none⟩))] : Env)) (fun s => blk b [I64 (nd), .slice s.1 s.2.2.2.2.1.length s.2.1, .slice s.2.2.1 s.2.2.2.2.2.length s.2.2.2.1] 201 :: vc 158 (.slice s.1 s.2.2.2.2.1.length s.2.1) (s.2.2.2.2.1) :: vc 122 (.slice s.2.2.1 s.2.2.2.2.2.length s.2.2.2.1) (s.2.2.2.2.2) :: blk b1 [I64 (2), I64 (wd), I64 (mo)] 73 :: I) (fun s => ((ageL wd mo T xs out) = ageL wd mo T s.2.2.2.2.1 s.2.2.2.2.2) ∧ (SlI nd 2 wd last s.2.2.2.2.1) ∧ (s.2.2.2.2.1.length + s.2.2.2.2.2.length = xs.length + out.length)) (fun s => s.2.2.2.2.1.length) (a0, c0, o0, d0, xs, out) (show ((ageL wd mo T xs out) = ageL wd mo T (xs : List Lk) (out : List Ev)) ∧ (SlI nd 2 wd last (xs : List Lk)) ∧ ((xs : List Lk).length + (out : List Ev).length = xs.length + out.length) from ⟨rfl, hI0, rfl⟩) (Sub.cons rfl (Sub.cons rfl (Sub.cons rfl Sub.nil))) (show Fit κ _ (blk b [I64 (nd), .slice (a0) (xs).length (c0), .slice (o0) (out).length (d0)] 201 :: vc 158 (.slice (a0) (xs).length (c0)) ((xs)) :: vc 122 (.slice (o0) (out).length (d0)) ((out)) :: blk b1 [I64 (2), I64 (wd), I64 (mo)] 73 :: I) from Fit.s) ?_
 rintro ⟨a1, c1, o1, d1, ys, zs⟩ hp
 obtain ⟨hr, hI, hs⟩ : ((ageL wd mo T xs out) = ageL wd mo T ys zs) ∧ (SlI nd 2 wd last ys) ∧ (ys.length + zs.length = xs.length + out.length) := hp
 show W Try.prog κ 34 _ _ ([(0, .pointer (some ⟨b, 0, none⟩)), (2, I64 (T)), (4, .pointer (some ⟨b1, 0, none⟩))] : Env) (blk b [I64 (nd), .slice a1 ys.length c1, .slice o1 zs.length d1] 201 :: vc 158 (.slice a1 ys.length c1) (ys) :: vc 122 (.slice o1 zs.length d1) (zs) :: blk b1 [I64 (2), I64 (wd), I64 (mo)] 73 :: I)
 refine W.block ?_
 refine W.seq ?_
 refine W.drawn mixed ?_
 refine A.hold (blk b [I64 (nd), .slice a1 ys.length c1, .slice o1 zs.length d1] 201 :: vc 158 (.slice a1 ys.length c1) (ys) :: vc 122 (.slice o1 zs.length d1) (zs) :: blk b1 [I64 (2), I64 (wd), I64 (mo)] 73 :: I) 12 ?_
 refine D.r 0 rfl (Runs.move rfl) ?_ (hJ := Fit.sub)
 refine D.r 1 rfl (Runs.nilCheck rfl) ?_ (hJ := Fit.sub)
 refine D.r 2 rfl (Runs.fieldAddr fld201_0 rfl) ?_ (hJ := Fit.sub)
 refine D.r 3 rfl (Runs.lds (vs := [_, _]) ty71) ?_ (hJ := Fit.sub)
 refine D.r 4 rfl (Runs.fieldAddr fld73_1 rfl) ?_ (hJ := Fit.sub)
 refine D.r 5 rfl (Runs.ld ty3) ?_ (hJ := Fit.sub)
 refine D.step (rs := [6]) (by kernel_rfl) rfl rfl (all1 ?_)
 refine Step.eff rfl (Wanted.plain rfl) (Eff.call call123 rfl rfl (First_ok (nd := nd) Sl.o (checkS_tm' hI.val) (checkW_wd hw))) ?_
 rintro _ _ ⟨_, _, ⟨zf2, rfl, hfzf2, rfl⟩, rfl, rfl⟩
 refine ⟨Fit.sub, ?_⟩
 refine D.r 7 rfl (Runs.move rfl) ?_ (hJ := Fit.sub)
 refine D.r 8 rfl (Runs.extract rfl rfl) ?_ (hJ := Fit.sub)
 refine D.r 9 rfl (Runs.extract rfl rfl) ?_ (hJ := Fit.sub)
 refine D.r 10 rfl (Runs.assign rfl) ?_ (hJ := Fit.sub)
 refine D.r 11 rfl (Runs.assign rfl) ?_ (hJ := Fit.sub)
 have hzf := hfzf2
 refine D.done (by kernel_rfl) ?_
 refine V.then ?_
 refine W.sub (L' := [(7, _), (6, _), (0, _), (2, _), (4, _)]) (Sub.cons rfl (Sub.cons rfl (Sub.cons rfl (Sub.cons rfl (Sub.cons rfl Sub.nil))))) ?_
 refine W.seq ?_
 refine W.sr ?_
 refine G.r (Runs.move rfl) ?_
 refine G.r (Runs.notd rfl) ?_
 refine G.r (Runs.move rfl) ?_
 refine G.split (d := 20) rfl (fun g20 => ?_) (fun g20 => ?_)
 ·refine G.po ?_
  refine G.po ?_
  refine G.po ?_
  refine G.r (Runs.pickt rfl rfl) ?_
  refine G.nt ?_
  refine W.yes rfl ?_
  refine W.ret ?_
  refine V.then_ret ?_
  refine V.block_ret ?_
  refine V.then_ret ?_
  refine V.block_ret ?_
  have hstop : ¬ (0 < ys.length ∧ minT ys + wd ≤ T) := (fun h => by have hz := minT_uniq (hzf.1 h.1); omega)
  have hE : (ageL wd mo T xs out) = (ys, zs) := hr.trans (ageL_stop hstop)
  exact V.ret0 rfl (blk b [I64 (nd), .slice a1 ((ageL wd mo T xs out).1).length c1, .slice o1 ((ageL wd mo T xs out).2).length d1] 201 :: vc 158 (.slice a1 ((ageL wd mo T xs out).1).length c1) ((ageL wd mo T xs out).1) :: vc 122 (.slice o1 ((ageL wd mo T xs out).2).length d1) ((ageL wd mo T xs out).2) :: I) (by rw [hE]; exact Fit.sub) ⟨⟨a1, c1, o1, d1⟩, ⟨rfl, by rw [hE]; exact hI.later hT.2.1 (fun _ => hstop), by rw [hE]; exact hs⟩, rfl⟩
 ·refine G.ro (Runs.move rfl) ?_
  refine G.ro (Runs.move rfl) ?_
  refine G.ro (Runs.gtr rfl rfl) ?_
  refine G.r (Runs.pickf rfl rfl) ?_
  refine G.nt ?_
  refine W.ite rfl (fun c24 => ?_) (fun c24 => ?_)
  ·refine W.ret ?_
   refine V.then_ret ?_
   refine V.block_ret ?_
   refine V.then_ret ?_
   refine V.block_ret ?_
   have hstop : ¬ (0 < ys.length ∧ minT ys + wd ≤ T) := (fun h => by have hz := minT_uniq (hzf.1 h.1); omega)
   have hE : (ageL wd mo T xs out) = (ys, zs) := hr.trans (ageL_stop hstop)
   exact V.ret0 rfl (blk b [I64 (nd), .slice a1 ((ageL wd mo T xs out).1).length c1, .slice o1 ((ageL wd mo T xs out).2).length d1] 201 :: vc 158 (.slice a1 ((ageL wd mo T xs out).1).length c1) ((ageL wd mo T xs out).1) :: vc 122 (.slice o1 ((ageL wd mo T xs out).2).length d1) ((ageL wd mo T xs out).2) :: I) (by rw [hE]; exact Fit.sub) ⟨⟨a1, c1, o1, d1⟩, ⟨rfl, by rw [hE]; exact hI.later hT.2.1 (fun _ => hstop), by rw [hE]; exact hs⟩, rfl⟩
  ·refine W.skip ?_
   refine V.then ?_
   refine W.drawn mixed ?_
   refine A.hold (blk b1 [I64 (2), I64 (wd), I64 (mo)] 73 :: I) 9 ?_
   refine D.r 0 rfl (Runs.move rfl) ?_ (hJ := Fit.sub)
   refine D.r 1 rfl (Runs.move rfl) ?_ (hJ := Fit.sub)
   refine D.r 2 rfl (Runs.nilCheck rfl) ?_ (hJ := Fit.sub)
   refine D.r 3 rfl (Runs.fieldAddr fld201_0 rfl) ?_ (hJ := Fit.sub)
   refine D.r 5 rfl (Runs.lds (vs := [_, _, _]) ty73) ?_ (hJ := Fit.sub)
   refine D.r 6 rfl (Runs.move rfl) ?_ (hJ := Fit.sub)
   refine D.step (rs := [4]) (by kernel_rfl) rfl rfl (all1 ?_)
   refine Step.read rfl (Wanted.plain rfl) rfl rfl (Runs.lds (vs := [_, _]) ty71) Fit.sub ?_
   refine D.step (rs := [7]) (by kernel_rfl) rfl rfl (all1 ?_)
   refine Step.eff rfl (Wanted.plain rfl) (Eff.call call120 rfl rfl (GoneP_ok (nd := nd) Sl.o (by omega) (hI.ask hw (by have hzz := hI.first rfl (by omega); have hz := minT_uniq (hzf.1 (by omega)); omega) (by have hzz := hI.first rfl (by omega); have hz := minT_uniq (hzf.1 (by omega)); omega)))) ?_
   rintro _ _ ⟨_, _, ⟨ad3, cp4, rfl, rfl⟩, rfl, rfl⟩
   refine ⟨Fit.sub, ?_⟩
   refine D.step (rs := [8]) (by kernel_rfl) rfl rfl (all1 ?_)
   refine Step.eff rfl (Wanted.plain rfl) (Eff.call call156 rfl rfl (CallS.fit (J := blk b [I64 (nd), .slice a1 ys.length c1, .slice o1 zs.length d1] 201 :: vc 158 (.slice a1 ys.length c1) (ys) :: vc 122 (.slice o1 zs.length d1) (zs) :: vc 122 (.slice ad3 (goneL 2 wd mo zf2 ys).length cp4) (goneL 2 wd mo zf2 ys) :: blk b1 [I64 (2), I64 (wd), I64 (mo)] 73 :: I) Fit.s (PutP_base (nd := nd) (xs := ys) (out := zs) (es := goneL 2 wd mo zf2 ys) Sl.o (hI.val) (fitgone hI.val (by have hzz := hI.first rfl (by omega); have hz := minT_uniq (hzf.1 (by omega)); omega)) (by have h := gone_len 2 wd mo zf2 ys; omega) (by have h := gone_len 2 wd mo zf2 ys; omega)))) ?_
   rintro _ _ ⟨_, _, ⟨⟨ad5, cp6, ad7, cp8⟩, rfl, rfl⟩, rfl, rfl⟩
   refine ⟨Fit.sub, ?_⟩
   show D Try.prog κ _ _ _ _ _ _ _ ([(33, .tuple #[]), (32, .slice ad3 (goneL 2 wd mo zf2 ys).length cp4), (29, .agg #[I64 (nd), .slice a1 ys.length c1]), (31, I64 (zf2)), (30, .agg #[I64 (2), I64 (wd), I64 (mo)]), (28, .pointer (some ⟨b, 0, none⟩)), (27, .pointer (some ⟨b, 0, none⟩)), (26, .pointer (some ⟨b, 0, none⟩)), (25, .pointer (some ⟨b, 0, none⟩)), (24, .bool (decide (T < zf2))), (23, .bool (decide (T < zf2))), (22, I64 (T)), (21, I64 (zf2)), (20, .bool false), (20, .bool (decide (¬ (0 < ys.length)))), (19, .bool (decide (¬ (0 < ys.length)))), (18, .bool (decide (0 < ys.length))), (7, .bool (decide (0 < ys.length))), (6, I64 (zf2)), (0, .pointer (some ⟨b, 0, none⟩)), (2, I64 (T)), (4, .pointer (some ⟨b1, 0, none⟩))] : Env) (blk b [I64 (nd), .slice ad5 (List.foldl stepL ys (goneL 2 wd mo zf2 ys)).length cp6, .slice ad7 (zs ++ (goneL 2 wd mo zf2 ys)).length cp8] 201 :: vc 158 (.slice ad5 (List.foldl stepL ys (goneL 2 wd mo zf2 ys)).length cp6) (List.foldl stepL ys (goneL 2 wd mo zf2 ys)) :: vc 122 (.slice ad7 (zs ++ (goneL 2 wd mo zf2 ys)).length cp8) (zs ++ (goneL 2 wd mo zf2 ys)) :: vc 122 (.slice ad3 (goneL 2 wd mo zf2 ys).length cp4) (goneL 2 wd mo zf2 ys) :: blk b1 [I64 (2), I64 (wd), I64 (mo)] 73 :: I)
   refine D.done (by kernel_rfl) ?_
   refine V.block_normal ?_
   have hpos : 0 < ys.length := by omega
   have hz : zf2 = minT ys + wd := minT_uniq (hzf.1 hpos)
   have hg : List.foldl stepL ys (goneL 2 wd mo zf2 ys) = List.filter (inW 2 wd mo zf2 ys) ys := gone_steps hI.val
   have hgl := gone_len 2 wd mo zf2 ys
   have hal : (List.filter (inW 2 wd mo zf2 ys) ys).length < ys.length := by rw [hz]; exact age_less (wd := wd) (mo := mo) hpos
   exact V.next ((ad5), (cp6), (ad7), (cp8), (List.filter (inW 2 wd mo zf2 ys) ys), (zs ++ goneL 2 wd mo zf2 ys)) (show ((ageL wd mo T xs out) = ageL wd mo T (List.filter (inW 2 wd mo zf2 ys) ys : List Lk) (zs ++ goneL 2 wd mo zf2 ys : List Ev)) ∧ (SlI nd 2 wd last (List.filter (inW 2 wd mo zf2 ys) ys : List Lk)) ∧ ((List.filter (inW 2 wd mo zf2 ys) ys : List Lk).length + (zs ++ goneL 2 wd mo zf2 ys : List Ev).length = xs.length + out.length) from ⟨(by rw [hr, ageL_step ⟨hpos, by omega⟩, ← hz]), (hI.filter _), (by rw [List.length_append]; omega)⟩) (show (List.filter (inW 2 wd mo zf2 ys) ys : List Lk).length < ys.length from hal) (Sub.cons rfl (Sub.cons rfl (Sub.cons rfl Sub.nil))) (show Fit κ _ (blk b [I64 (nd), .slice (ad5) (List.filter (inW 2 wd mo zf2 ys) ys).length (cp6), .slice (ad7) (zs ++ goneL 2 wd mo zf2 ys).length (cp8)] 201 :: vc 158 (.slice (ad5) (List.filter (inW 2 wd mo zf2 ys) ys).length (cp6)) ((List.filter (inW 2 wd mo zf2 ys) ys)) :: vc 122 (.slice (ad7) (zs ++ goneL 2 wd mo zf2 ys).length (cp8)) ((zs ++ goneL 2 wd mo zf2 ys)) :: blk b1 [I64 (2), I64 (wd), I64 (mo)] 73 :: I) from (by rw [hg]; exact Fit.sub))

end Go.Sl
namespace Go.Sl
open Go.Proofs
set_option linter.unusedVariables false
set_option linter.unusedSimpArgs false
set_option maxRecDepth 4000
theorem AgeP_two {κ : Ctx} {I : List Item} {b : Nat} {nd kd wd mo T last : Int} {a0 o0 : Option Addr} {c0 d0 : Nat} {xs : List Lk} {out : List Ev} (hk : kd = 2) (hI0 : SlI nd kd wd last xs) (hw : checkW kd wd mo = 0) (hT : 0 ≤ last ∧ last ≤ T ∧ T ≤ 1048576) (hsz : xs.length + out.length ≤ 400000) :
    CallS Try.prog κ 155 [.pointer (some ⟨b, 0, none⟩), .agg #[I64 kd, I64 wd, I64 mo], I64 T] (blk b [I64 (nd), .slice a0 xs.length c0, .slice o0 out.length d0] 201 :: vc 158 (.slice a0 xs.length c0) (xs) :: vc 122 (.slice o0 out.length d0) (out) :: I) (fun r J => ∃ y : Option Addr × Nat × Option Addr × Nat, (r = .tuple #[] ∧ SlI nd kd wd T (ageL wd mo T xs out).1 ∧ (ageL wd mo T xs out).1.length + (ageL wd mo T xs out).2.length = xs.length + out.length) ∧ J = blk b [I64 (nd), .slice y.1 ((ageL wd mo T xs out).1).length y.2.1, .slice y.2.2.1 ((ageL wd mo T xs out).2).length y.2.2.2] 201 :: vc 158 (.slice y.1 ((ageL wd mo T xs out).1).length y.2.1) ((ageL wd mo T xs out).1) :: vc 122 (.slice y.2.2.1 ((ageL wd mo T xs out).2).length y.2.2.2) ((ageL wd mo T xs out).2) :: I) := by
  subst hk
  exact AgeP_base hI0 hw hT hsz

theorem evStep_three {kd wd mo : Int} {xs : List Lk} {out : List Ev} {e : Ev} {ys : List Lk} {zs : List Ev} (h : agedL kd wd mo e.tm (xs, out) = (ys, zs)) (hk : kd = 3) : evStep kd wd mo (xs, out) e = ((stepL ys e).filter (inW kd wd mo e.tm (stepL ys e)), zs ++ [e] ++ goneL kd wd mo e.tm (stepL ys e)) := by
  unfold evStep windL; rw [h, if_pos hk]
theorem evStep_not {kd wd mo : Int} {xs : List Lk} {out : List Ev} {e : Ev} {ys : List Lk} {zs : List Ev} (h : agedL kd wd mo e.tm (xs, out) = (ys, zs)) (hk : ¬ kd = 3) : evStep kd wd mo (xs, out) e = (stepL ys e, zs ++ [e]) := by
  unfold evStep windL; rw [h, if_neg hk]
theorem checkW_one {kd wd mo : Int} (h : checkW kd wd mo = 0) (hk : kd = 2) : 1 ≤ wd := by
  unfold checkW at h
  split at h
  · cases h
  · split at h
    · cases h
    · omega
theorem lastT_ge {nd : Int} {es : List Ev} (h : StOk nd es) {k : Nat} (hk : k ≤ es.length) : 0 ≤ lastT es k := by
  cases k with
  | zero => exact Int.le_refl _
  | succ k => rw [lastT_succ]; exact (h.fit k (by omega)).tm.1
theorem slideE_st {nd kd wd mo : Int} {es : List Ev} (h1 : ¬ checkW kd wd mo ≠ 0) : slideE nd kd wd mo es = streamE nd es := by unfold slideE; rw [if_neg h1]

set_option maxHeartbeats 1000000 in
theorem Slide_ok {κ : Ctx} {I : List Item} {nd kd wd mo : Int} {va : Value} {es : List Ev} (hl : Sl κ I va es) :
    CallS Try.prog κ 85 [I64 (nd), va, .agg #[I64 (kd), I64 (wd), I64 (mo)]] I (fun r J => ((slideE nd kd wd mo es) ≠ 0 ∧ r = .tuple #[.slice none 0 0, I64 (slideE nd kd wd mo es)] ∧ I = J) ∨ (∃ a c, (slideE nd kd wd mo es) = 0 ∧ r = .tuple #[.slice a (slideS kd wd mo es).2.length c, I64 0] ∧ J = vc 122 (.slice a (slideS kd wd mo es).2.length c) (slideS kd wd mo es).2 :: I)) := by
 refine CallS.pull hl.le fun hmax => ?_
 refine CallS.enter (L := [(0, I64 (nd)), (1, va), (2, .agg #[I64 (kd), I64 (wd), I64 (mo)])]) Try.func85 rfl rfl rfl rfl ?_
 refine W.sr ?_
 refine G.e (Eff.box (cs := [_, _, _]) rfl rfl rfl) ?_
 rintro _ _ ⟨b1, rfl, rfl⟩
 refine G.r (Runs.assign rfl) ?_
 refine G.r (Runs.assign rfl) ?_
 refine G.nt ?_
 refine W.seq ?_
 refine W.sr ?_
 refine G.r (Runs.lds (vs := [_, _, _]) ty73) ?_
 refine G.e (Eff.call call61 rfl rfl (CheckW_ok kd wd mo)) ?_
 rintro _ _ ⟨_, _, ⟨rfl, rfl⟩, rfl, rfl⟩
 refine G.r (Runs.assign rfl) ?_
 refine G.nt ?_
 refine W.sr ?_
 refine G.r (Runs.move rfl) ?_
 refine G.r (Runs.neq rfl rfl) ?_
 refine G.nt ?_
 refine W.ite rfl (fun c16 => ?_) (fun c16 => ?_)
 ·refine W.sr ?_
  refine G.r (Runs.move rfl) ?_
  refine G.r (Runs.assign rfl) ?_
  refine G.r (Runs.assign rfl) ?_
  refine G.nt ?_
  refine W.sub (L' := [(7, _), (6, _)]) (Sub.cons rfl (Sub.cons rfl Sub.nil)) ?_
  refine W.ret ?_
  refine V.then_ret ?_
  have hz : (slideE nd kd wd mo es) = checkW kd wd mo := by unfold slideE; rw [if_pos c16]
  exact V.ret2 rfl rfl rfl (I) Fit.m (.inl ⟨by rw [hz]; exact c16, by rw [hz], rfl⟩)
 ·refine W.skip ?_
  refine V.then ?_
  refine W.seq ?_
  refine W.sr ?_
  refine G.r (Runs.move rfl) ?_
  refine G.r (Runs.move rfl) ?_
  refine G.e (Eff.call call154 rfl rfl (Stream_ok (nd := nd) (Sl.f hl))) ?_
  rintro _ _ ⟨_, _, ⟨rfl, rfl⟩, rfl, rfl⟩
  refine G.r (Runs.assign rfl) ?_
  refine G.nt ?_
  refine W.sub (L' := [(9, _), (5, _), (0, _), (1, _)]) (Sub.cons rfl (Sub.cons rfl (Sub.cons rfl (Sub.cons rfl Sub.nil)))) ?_
  refine W.sr ?_
  refine G.r (Runs.move rfl) ?_
  refine G.r (Runs.neq rfl rfl) ?_
  refine G.nt ?_
  refine W.ite rfl (fun c22 => ?_) (fun c22 => ?_)
  ·refine W.sr ?_
   refine G.r (Runs.move rfl) ?_
   refine G.r (Runs.assign rfl) ?_
   refine G.r (Runs.assign rfl) ?_
   refine G.nt ?_
   refine W.ret ?_
   refine V.then_ret ?_
   have hz : (slideE nd kd wd mo es) = streamE nd es := slideE_st c16
   exact V.ret2 rfl rfl rfl (I) Fit.m (.inl ⟨by rw [hz]; exact c22, by rw [hz], rfl⟩)
  ·refine W.skip ?_
   refine V.then ?_
   refine W.sr ?_
   refine G.r (Runs.move rfl) ?_
   have hE := streamE_ok (Classical.not_not.1 c22)
   refine G.r (Runs.build (cells := [_, _]) ty71 Try.underlying71 pl71 rfl rfl) ?_
   refine G.r (Runs.build (cells := [_, _, _]) ty201 Try.underlying201 pl201 rfl rfl) ?_
   refine G.e (Eff.box (cs := [_, _, _]) rfl rfl rfl) ?_
   rintro _ _ ⟨b2, rfl, rfl⟩
   refine G.r (Runs.assign rfl) ?_
   refine G.nt ?_
   refine W.seq ?_
   refine W.sr ?_
   refine G.r (Runs.move rfl) ?_
   refine G.r (Runs.lenT (α := Ev) (xs := es) Try.underlying81 rfl (Sl.f hl)) ?_
   refine G.r (Runs.move rfl) ?_
   refine G.nt ?_
   refine W.sub (L' := [(30, _), (29, _), (28, _), (10, _), (5, _)]) (Sub.cons rfl (Sub.cons rfl (Sub.cons rfl (Sub.cons rfl (Sub.cons rfl Sub.nil))))) ?_
   refine W.block ?_
   refine W.loop (σ := Nat × (Option Addr) × Nat × (Option Addr) × Nat × (List Lk) × (List Ev)) (fun s => ([(5, .pointer (some ⟨b1, 0, none⟩)), (10, .pointer (some ⟨b2, 0, none⟩)), (28, va), (29, I64 (((es.length : Nat) : Int))), (30, I64 (((s.1 : Nat) : Int)))] : Env)) (fun s => blk b2 [I64 (nd), .slice s.2.1 s.2.2.2.2.2.1.length s.2.2.1, .slice s.2.2.2.1 s.2.2.2.2.2.2.length s.2.2.2.2.1] 201 :: vc 158 (.slice s.2.1 s.2.2.2.2.2.1.length s.2.2.1) (s.2.2.2.2.2.1) :: vc 122 (.slice s.2.2.2.1 s.2.2.2.2.2.2.length s.2.2.2.2.1) (s.2.2.2.2.2.2) :: blk b1 [I64 (kd), I64 (wd), I64 (mo)] 73 :: I) (fun s => (s.1 ≤ es.length) ∧ (slideS kd wd mo (List.take s.1 es) = (s.2.2.2.2.2.1, s.2.2.2.2.2.2)) ∧ (SlI nd kd wd (lastT es s.1) s.2.2.2.2.2.1) ∧ (s.2.2.2.2.2.1.length + s.2.2.2.2.2.2.length ≤ 2 * s.1)) (fun s => es.length - s.1) (0, none, 0, none, 0, [], []) (show ((0 : Nat) ≤ es.length) ∧ (slideS kd wd mo (List.take (0 : Nat) es) = (([] : List Lk), ([] : List Ev))) ∧ (SlI nd kd wd (lastT es (0 : Nat)) ([] : List Lk)) ∧ (([] : List Lk).length + ([] : List Ev).length ≤ 2 * (0 : Nat)) from ⟨(by omega), rfl, (SlI.nil hE.nodes), (by simp)⟩) (Sub.cons rfl (Sub.cons rfl (Sub.cons rfl (Sub.cons rfl (Sub.cons lookO Sub.nil))))) (show Fit κ _ (blk b2 [I64 (nd), .slice (none) ([]).length (0), .slice (none) ([]).length (0)] 201 :: vc 158 (.slice (none) ([]).length (0)) (([])) :: vc 122 (.slice (none) ([]).length (0)) (([])) :: blk b1 [I64 (kd), I64 (wd), I64 (mo)] 73 :: I) from (Fit.trans (Fit.nilvc 122 _) (Fit.trans (Fit.nilvc 158 _) Fit.s))) ?_
   rintro ⟨k, a1, c1, o1, d1, xs, out⟩ hp
   obtain ⟨hk, hst, hI, hs⟩ : (k ≤ es.length) ∧ (slideS kd wd mo (List.take k es) = (xs, out)) ∧ (SlI nd kd wd (lastT es k) xs) ∧ (xs.length + out.length ≤ 2 * k) := hp
   show W Try.prog κ 64 _ _ ([(5, .pointer (some ⟨b1, 0, none⟩)), (10, .pointer (some ⟨b2, 0, none⟩)), (28, va), (29, I64 (((es.length : Nat) : Int))), (30, I64 (((k : Nat) : Int)))] : Env) (blk b2 [I64 (nd), .slice a1 xs.length c1, .slice o1 out.length d1] 201 :: vc 158 (.slice a1 xs.length c1) (xs) :: vc 122 (.slice o1 out.length d1) (out) :: blk b1 [I64 (kd), I64 (wd), I64 (mo)] 73 :: I)
   have hlen := hE.len
   refine W.sr ?_
   refine G.r (Runs.lss rfl rfl) ?_
   refine G.nt ?_
   refine W.seq ?_
   refine W.ite rfl (fun c31 => ?_) (fun c31 => ?_)
   ·refine W.skip ?_
    refine V.then ?_
    refine W.seq ?_
    refine W.block ?_
    refine W.sr ?_
    refine G.r (Runs.idx (α := Ev) (xs := es) Try.underlying81 ty122 rfl rfl (Sl.f hl) (by omega) (by omega)) ?_
    refine G.r (Runs.gets (α := Ev) (xs := es) ty122 rfl (Sl.f hl) (by omega) (by omega)) ?_
    refine G.e (Eff.alloc ty122 rfl) ?_
    rintro _ _ ⟨b3, rfl, rfl⟩
    refine G.e (Eff.st (cs := [_, _, _, _, _, _, _]) (vs := [_, _, _, _, _, _, _]) (cs' := [_, _, _, _, _, _, _]) ty122) ?_
    rintro _ _ ⟨rfl, rfl⟩
    have hfe := hE.fit k (by omega)
    have hto := hE.asc k (by omega)
    refine G.nt ?_
    refine W.cut (σ := (Option Addr) × Nat × (Option Addr) × Nat × (List Lk) × (List Ev)) (fun s => ([(5, .pointer (some ⟨b1, 0, none⟩)), (10, .pointer (some ⟨b2, 0, none⟩)), (12, .pointer (some ⟨b3, 0, none⟩)), (28, va), (29, I64 (((es.length : Nat) : Int))), (30, I64 (((k : Nat) : Int)))] : Env)) (fun s => blk b2 [I64 (nd), .slice s.1 s.2.2.2.2.1.length s.2.1, .slice s.2.2.1 s.2.2.2.2.2.length s.2.2.2.1] 201 :: vc 158 (.slice s.1 s.2.2.2.2.1.length s.2.1) (s.2.2.2.2.1) :: vc 122 (.slice s.2.2.1 s.2.2.2.2.2.length s.2.2.2.1) (s.2.2.2.2.2) :: blk b3 [I64 ((at_ es ((k : Nat) : Int)).kd), I64 ((at_ es ((k : Nat) : Int)).tm), I64 ((at_ es ((k : Nat) : Int)).u), I64 ((at_ es ((k : Nat) : Int)).v), I64 ((at_ es ((k : Nat) : Int)).w), I64 ((at_ es ((k : Nat) : Int)).lb), I64 ((at_ es ((k : Nat) : Int)).sg)] 122 :: blk b1 [I64 (kd), I64 (wd), I64 (mo)] 73 :: I) (fun s => ((agedL kd wd mo (at_ es ((k : Nat) : Int)).tm (xs, out)) = (s.2.2.2.2.1, s.2.2.2.2.2)) ∧ (SlI nd kd wd (at_ es ((k : Nat) : Int)).tm s.2.2.2.2.1) ∧ (s.2.2.2.2.1.length + s.2.2.2.2.2.length = xs.length + out.length)) ?_ ?_
    ·refine W.sr ?_
     refine G.r (Runs.fieldAddr fld73_0 rfl) ?_
     refine G.r (Runs.ld ty3) ?_
     refine G.r (Runs.eql rfl rfl) ?_
     refine G.nt ?_
     refine W.ite rfl (fun c36 => ?_) (fun c36 => ?_)
     ·refine W.region ?_
      refine G.r (Runs.move rfl) ?_
      refine G.r (Runs.lds (vs := [_, _, _]) ty73) ?_
      refine G.r (Runs.fieldAddr fld122_1 rfl) ?_
      refine G.r (Runs.ld ty3) ?_
      refine G.e (Eff.call call155 rfl rfl (CallS.fit (J := blk b2 [I64 (nd), .slice a1 xs.length c1, .slice o1 out.length d1] 201 :: vc 158 (.slice a1 xs.length c1) (xs) :: vc 122 (.slice o1 out.length d1) (out) :: blk b3 [I64 ((at_ es ((k : Nat) : Int)).kd), I64 ((at_ es ((k : Nat) : Int)).tm), I64 ((at_ es ((k : Nat) : Int)).u), I64 ((at_ es ((k : Nat) : Int)).v), I64 ((at_ es ((k : Nat) : Int)).w), I64 ((at_ es ((k : Nat) : Int)).lb), I64 ((at_ es ((k : Nat) : Int)).sg)] 122 :: blk b1 [I64 (kd), I64 (wd), I64 (mo)] 73 :: I) Fit.s (AgeP_two (nd := nd) (T := (at_ es ((k : Nat) : Int)).tm) (xs := xs) (out := out) c36 hI (Classical.not_not.1 c16) ⟨lastT_ge hE (by omega), hto, hfe.tm.2⟩ (by omega)))) ?_
      rintro _ _ ⟨_, _, ⟨⟨ad4, cp5, ad6, cp7⟩, ⟨rfl, hag⟩, rfl⟩, rfl, rfl⟩
      show G Try.prog κ _ _ _ _ ([(41, .tuple #[]), (40, I64 ((at_ es ((k : Nat) : Int)).tm)), (39, .pointer (some ⟨b3, 1, none⟩)), (38, .agg #[I64 (kd), I64 (wd), I64 (mo)]), (37, .pointer (some ⟨b2, 0, none⟩)), (36, .bool (decide (kd = 2))), (35, I64 (kd)), (34, .pointer (some ⟨b1, 0, none⟩)), (12, .pointer (some ⟨b3, 0, none⟩)), (33, .agg #[I64 ((at_ es ((k : Nat) : Int)).kd), I64 ((at_ es ((k : Nat) : Int)).tm), I64 ((at_ es ((k : Nat) : Int)).u), I64 ((at_ es ((k : Nat) : Int)).v), I64 ((at_ es ((k : Nat) : Int)).w), I64 ((at_ es ((k : Nat) : Int)).lb), I64 ((at_ es ((k : Nat) : Int)).sg)]), (32, elemPtr (va) ((((k : Nat) : Int)).toNat * Enc.sz Ev)), (31, .bool (decide (((k : Nat) : Int) < ((es.length : Nat) : Int)))), (5, .pointer (some ⟨b1, 0, none⟩)), (10, .pointer (some ⟨b2, 0, none⟩)), (28, va), (29, I64 (((es.length : Nat) : Int))), (30, I64 (((k : Nat) : Int)))] : Env) (blk b2 [I64 (nd), .slice ad4 ((ageL wd mo ((at_ es ((k : Nat) : Int)).tm) xs out).1).length cp5, .slice ad6 ((ageL wd mo ((at_ es ((k : Nat) : Int)).tm) xs out).2).length cp7] 201 :: vc 158 (.slice ad4 ((ageL wd mo ((at_ es ((k : Nat) : Int)).tm) xs out).1).length cp5) ((ageL wd mo ((at_ es ((k : Nat) : Int)).tm) xs out).1) :: vc 122 (.slice ad6 ((ageL wd mo ((at_ es ((k : Nat) : Int)).tm) xs out).2).length cp7) ((ageL wd mo ((at_ es ((k : Nat) : Int)).tm) xs out).2) :: blk b3 [I64 ((at_ es ((k : Nat) : Int)).kd), I64 ((at_ es ((k : Nat) : Int)).tm), I64 ((at_ es ((k : Nat) : Int)).u), I64 ((at_ es ((k : Nat) : Int)).v), I64 ((at_ es ((k : Nat) : Int)).w), I64 ((at_ es ((k : Nat) : Int)).lb), I64 ((at_ es ((k : Nat) : Int)).sg)] 122 :: blk b1 [I64 (kd), I64 (wd), I64 (mo)] 73 :: I)
      refine G.nil ?_
      exact V.mid ((ad4), (cp5), (ad6), (cp7), ((ageL wd mo (at_ es ((k : Nat) : Int)).tm xs out).1), ((ageL wd mo (at_ es ((k : Nat) : Int)).tm xs out).2)) (show ((agedL kd wd mo (at_ es ((k : Nat) : Int)).tm (xs, out)) = (((ageL wd mo (at_ es ((k : Nat) : Int)).tm xs out).1 : List Lk), ((ageL wd mo (at_ es ((k : Nat) : Int)).tm xs out).2 : List Ev))) ∧ (SlI nd kd wd (at_ es ((k : Nat) : Int)).tm ((ageL wd mo (at_ es ((k : Nat) : Int)).tm xs out).1 : List Lk)) ∧ (((ageL wd mo (at_ es ((k : Nat) : Int)).tm xs out).1 : List Lk).length + ((ageL wd mo (at_ es ((k : Nat) : Int)).tm xs out).2 : List Ev).length = xs.length + out.length) from ⟨(by unfold agedL; rw [if_pos c36]), hag.1, hag.2⟩) (Sub.cons rfl (Sub.cons rfl (Sub.cons rfl (Sub.cons rfl (Sub.cons rfl (Sub.cons rfl Sub.nil)))))) (show Fit κ _ (blk b2 [I64 (nd), .slice (ad4) ((ageL wd mo (at_ es ((k : Nat) : Int)).tm xs out).1).length (cp5), .slice (ad6) ((ageL wd mo (at_ es ((k : Nat) : Int)).tm xs out).2).length (cp7)] 201 :: vc 158 (.slice (ad4) ((ageL wd mo (at_ es ((k : Nat) : Int)).tm xs out).1).length (cp5)) (((ageL wd mo (at_ es ((k : Nat) : Int)).tm xs out).1)) :: vc 122 (.slice (ad6) ((ageL wd mo (at_ es ((k : Nat) : Int)).tm xs out).2).length (cp7)) (((ageL wd mo (at_ es ((k : Nat) : Int)).tm xs out).2)) :: blk b3 [I64 ((at_ es ((k : Nat) : Int)).kd), I64 ((at_ es ((k : Nat) : Int)).tm), I64 ((at_ es ((k : Nat) : Int)).u), I64 ((at_ es ((k : Nat) : Int)).v), I64 ((at_ es ((k : Nat) : Int)).w), I64 ((at_ es ((k : Nat) : Int)).lb), I64 ((at_ es ((k : Nat) : Int)).sg)] 122 :: blk b1 [I64 (kd), I64 (wd), I64 (mo)] 73 :: I) from Fit.s)
     ·refine W.skip ?_
      exact V.mid ((a1), (c1), (o1), (d1), (xs), (out)) (show ((agedL kd wd mo (at_ es ((k : Nat) : Int)).tm (xs, out)) = ((xs : List Lk), (out : List Ev))) ∧ (SlI nd kd wd (at_ es ((k : Nat) : Int)).tm (xs : List Lk)) ∧ ((xs : List Lk).length + (out : List Ev).length = xs.length + out.length) from ⟨(by unfold agedL; rw [if_neg c36]), (hI.later hto (fun h => absurd h c36)), rfl⟩) (Sub.cons rfl (Sub.cons rfl (Sub.cons rfl (Sub.cons rfl (Sub.cons rfl (Sub.cons rfl Sub.nil)))))) (show Fit κ _ (blk b2 [I64 (nd), .slice (a1) (xs).length (c1), .slice (o1) (out).length (d1)] 201 :: vc 158 (.slice (a1) (xs).length (c1)) ((xs)) :: vc 122 (.slice (o1) (out).length (d1)) ((out)) :: blk b3 [I64 ((at_ es ((k : Nat) : Int)).kd), I64 ((at_ es ((k : Nat) : Int)).tm), I64 ((at_ es ((k : Nat) : Int)).u), I64 ((at_ es ((k : Nat) : Int)).v), I64 ((at_ es ((k : Nat) : Int)).w), I64 ((at_ es ((k : Nat) : Int)).lb), I64 ((at_ es ((k : Nat) : Int)).sg)] 122 :: blk b1 [I64 (kd), I64 (wd), I64 (mo)] 73 :: I) from Fit.s)
    ·rintro ⟨a2, c2, o2, d2, ys, zs⟩ hp
     obtain ⟨hag, hI2, hs2⟩ : ((agedL kd wd mo (at_ es ((k : Nat) : Int)).tm (xs, out)) = (ys, zs)) ∧ (SlI nd kd wd (at_ es ((k : Nat) : Int)).tm ys) ∧ (ys.length + zs.length = xs.length + out.length) := hp
     show W Try.prog κ 64 _ _ ([(5, .pointer (some ⟨b1, 0, none⟩)), (10, .pointer (some ⟨b2, 0, none⟩)), (12, .pointer (some ⟨b3, 0, none⟩)), (28, va), (29, I64 (((es.length : Nat) : Int))), (30, I64 (((k : Nat) : Int)))] : Env) (blk b2 [I64 (nd), .slice a2 ys.length c2, .slice o2 zs.length d2] 201 :: vc 158 (.slice a2 ys.length c2) (ys) :: vc 122 (.slice o2 zs.length d2) (zs) :: blk b3 [I64 ((at_ es ((k : Nat) : Int)).kd), I64 ((at_ es ((k : Nat) : Int)).tm), I64 ((at_ es ((k : Nat) : Int)).u), I64 ((at_ es ((k : Nat) : Int)).v), I64 ((at_ es ((k : Nat) : Int)).w), I64 ((at_ es ((k : Nat) : Int)).lb), I64 ((at_ es ((k : Nat) : Int)).sg)] 122 :: blk b1 [I64 (kd), I64 (wd), I64 (mo)] 73 :: I)
     refine W.sr ?_
     refine G.r (Runs.move rfl) ?_
     refine G.r (Runs.lds (vs := [_, _, _, _, _, _, _]) ty122) ?_
     refine G.e (Eff.bs (α := Ev) (cs := [I64 ((at_ es ((k : Nat) : Int)).kd), I64 ((at_ es ((k : Nat) : Int)).tm), I64 ((at_ es ((k : Nat) : Int)).u), I64 ((at_ es ((k : Nat) : Int)).v), I64 ((at_ es ((k : Nat) : Int)).w), I64 ((at_ es ((k : Nat) : Int)).lb), I64 ((at_ es ((k : Nat) : Int)).sg)]) (xs := [⟨(at_ es ((k : Nat) : Int)).kd, (at_ es ((k : Nat) : Int)).tm, (at_ es ((k : Nat) : Int)).u, (at_ es ((k : Nat) : Int)).v, (at_ es ((k : Nat) : Int)).w, (at_ es ((k : Nat) : Int)).lb, (at_ es ((k : Nat) : Int)).sg⟩]) Try.underlying81 ty122 rfl rfl (by decide) (by decide) rfl (by kernel_rfl) rfl rfl) ?_
     rintro _ _ ⟨ad8, rfl, rfl⟩
     refine G.e (Eff.call call156 rfl rfl (CallS.fit (J := blk b2 [I64 (nd), .slice a2 ys.length c2, .slice o2 zs.length d2] 201 :: vc 158 (.slice a2 ys.length c2) (ys) :: vc 122 (.slice o2 zs.length d2) (zs) :: vc 122 (.slice ad8 1 1) (([⟨(at_ es ((k : Nat) : Int)).kd, (at_ es ((k : Nat) : Int)).tm, (at_ es ((k : Nat) : Int)).u, (at_ es ((k : Nat) : Int)).v, (at_ es ((k : Nat) : Int)).w, (at_ es ((k : Nat) : Int)).lb, (at_ es ((k : Nat) : Int)).sg⟩] : List Ev)) :: blk b3 [I64 ((at_ es ((k : Nat) : Int)).kd), I64 ((at_ es ((k : Nat) : Int)).tm), I64 ((at_ es ((k : Nat) : Int)).u), I64 ((at_ es ((k : Nat) : Int)).v), I64 ((at_ es ((k : Nat) : Int)).w), I64 ((at_ es ((k : Nat) : Int)).lb), I64 ((at_ es ((k : Nat) : Int)).sg)] 122 :: blk b1 [I64 (kd), I64 (wd), I64 (mo)] 73 :: I) Fit.s (PutP_base (nd := nd) (xs := ys) (out := zs) (es := ([⟨(at_ es ((k : Nat) : Int)).kd, (at_ es ((k : Nat) : Int)).tm, (at_ es ((k : Nat) : Int)).u, (at_ es ((k : Nat) : Int)).v, (at_ es ((k : Nat) : Int)).w, (at_ es ((k : Nat) : Int)).lb, (at_ es ((k : Nat) : Int)).sg⟩] : List Ev)) Sl.o hI2.val (fitone hfe) (by have h := stepL_len ys (at_ es ((k : Nat) : Int)); have h9 := gone_len kd wd mo (at_ es ((k : Nat) : Int)).tm (stepL ys (at_ es ((k : Nat) : Int))); first | (simp only [List.length_append, List.length_cons, List.length_nil]; omega) | omega) (by have h := stepL_len ys (at_ es ((k : Nat) : Int)); have h9 := gone_len kd wd mo (at_ es ((k : Nat) : Int)).tm (stepL ys (at_ es ((k : Nat) : Int))); first | (simp only [List.length_append, List.length_cons, List.length_nil]; omega) | omega)))) ?_
     rintro _ _ ⟨_, _, ⟨⟨ad9, cp10, ad11, cp12⟩, rfl, rfl⟩, rfl, rfl⟩
     show G Try.prog κ _ _ _ _ ([(45, .tuple #[]), (44, .slice ad8 1 1), (43, .agg #[I64 ((at_ es ((k : Nat) : Int)).kd), I64 ((at_ es ((k : Nat) : Int)).tm), I64 ((at_ es ((k : Nat) : Int)).u), I64 ((at_ es ((k : Nat) : Int)).v), I64 ((at_ es ((k : Nat) : Int)).w), I64 ((at_ es ((k : Nat) : Int)).lb), I64 ((at_ es ((k : Nat) : Int)).sg)]), (42, .pointer (some ⟨b2, 0, none⟩)), (5, .pointer (some ⟨b1, 0, none⟩)), (10, .pointer (some ⟨b2, 0, none⟩)), (12, .pointer (some ⟨b3, 0, none⟩)), (28, va), (29, I64 (((es.length : Nat) : Int))), (30, I64 (((k : Nat) : Int)))] : Env) (blk b2 [I64 (nd), .slice ad9 (List.foldl stepL ys ([⟨(at_ es ((k : Nat) : Int)).kd, (at_ es ((k : Nat) : Int)).tm, (at_ es ((k : Nat) : Int)).u, (at_ es ((k : Nat) : Int)).v, (at_ es ((k : Nat) : Int)).w, (at_ es ((k : Nat) : Int)).lb, (at_ es ((k : Nat) : Int)).sg⟩] : List Ev)).length cp10, .slice ad11 (zs ++ ([⟨(at_ es ((k : Nat) : Int)).kd, (at_ es ((k : Nat) : Int)).tm, (at_ es ((k : Nat) : Int)).u, (at_ es ((k : Nat) : Int)).v, (at_ es ((k : Nat) : Int)).w, (at_ es ((k : Nat) : Int)).lb, (at_ es ((k : Nat) : Int)).sg⟩] : List Ev)).length cp12] 201 :: vc 158 (.slice ad9 (List.foldl stepL ys ([⟨(at_ es ((k : Nat) : Int)).kd, (at_ es ((k : Nat) : Int)).tm, (at_ es ((k : Nat) : Int)).u, (at_ es ((k : Nat) : Int)).v, (at_ es ((k : Nat) : Int)).w, (at_ es ((k : Nat) : Int)).lb, (at_ es ((k : Nat) : Int)).sg⟩] : List Ev)).length cp10) (List.foldl stepL ys ([⟨(at_ es ((k : Nat) : Int)).kd, (at_ es ((k : Nat) : Int)).tm, (at_ es ((k : Nat) : Int)).u, (at_ es ((k : Nat) : Int)).v, (at_ es ((k : Nat) : Int)).w, (at_ es ((k : Nat) : Int)).lb, (at_ es ((k : Nat) : Int)).sg⟩] : List Ev)) :: vc 122 (.slice ad11 (zs ++ ([⟨(at_ es ((k : Nat) : Int)).kd, (at_ es ((k : Nat) : Int)).tm, (at_ es ((k : Nat) : Int)).u, (at_ es ((k : Nat) : Int)).v, (at_ es ((k : Nat) : Int)).w, (at_ es ((k : Nat) : Int)).lb, (at_ es ((k : Nat) : Int)).sg⟩] : List Ev)).length cp12) (zs ++ ([⟨(at_ es ((k : Nat) : Int)).kd, (at_ es ((k : Nat) : Int)).tm, (at_ es ((k : Nat) : Int)).u, (at_ es ((k : Nat) : Int)).v, (at_ es ((k : Nat) : Int)).w, (at_ es ((k : Nat) : Int)).lb, (at_ es ((k : Nat) : Int)).sg⟩] : List Ev)) :: vc 122 (.slice ad8 1 1) (([⟨(at_ es ((k : Nat) : Int)).kd, (at_ es ((k : Nat) : Int)).tm, (at_ es ((k : Nat) : Int)).u, (at_ es ((k : Nat) : Int)).v, (at_ es ((k : Nat) : Int)).w, (at_ es ((k : Nat) : Int)).lb, (at_ es ((k : Nat) : Int)).sg⟩] : List Ev)) :: blk b3 [I64 ((at_ es ((k : Nat) : Int)).kd), I64 ((at_ es ((k : Nat) : Int)).tm), I64 ((at_ es ((k : Nat) : Int)).u), I64 ((at_ es ((k : Nat) : Int)).v), I64 ((at_ es ((k : Nat) : Int)).w), I64 ((at_ es ((k : Nat) : Int)).lb), I64 ((at_ es ((k : Nat) : Int)).sg)] 122 :: blk b1 [I64 (kd), I64 (wd), I64 (mo)] 73 :: I)
     show G Try.prog κ _ _ _ _ ([(45, .tuple #[]), (44, .slice ad8 1 1), (43, .agg #[I64 ((at_ es ((k : Nat) : Int)).kd), I64 ((at_ es ((k : Nat) : Int)).tm), I64 ((at_ es ((k : Nat) : Int)).u), I64 ((at_ es ((k : Nat) : Int)).v), I64 ((at_ es ((k : Nat) : Int)).w), I64 ((at_ es ((k : Nat) : Int)).lb), I64 ((at_ es ((k : Nat) : Int)).sg)]), (42, .pointer (some ⟨b2, 0, none⟩)), (5, .pointer (some ⟨b1, 0, none⟩)), (10, .pointer (some ⟨b2, 0, none⟩)), (12, .pointer (some ⟨b3, 0, none⟩)), (28, va), (29, I64 (((es.length : Nat) : Int))), (30, I64 (((k : Nat) : Int)))] : Env) (blk b2 [I64 (nd), .slice ad9 (stepL ys (at_ es ((k : Nat) : Int))).length cp10, .slice ad11 (zs ++ [(at_ es ((k : Nat) : Int))]).length cp12] 201 :: vc 158 (.slice ad9 (stepL ys (at_ es ((k : Nat) : Int))).length cp10) (stepL ys (at_ es ((k : Nat) : Int))) :: vc 122 (.slice ad11 (zs ++ [(at_ es ((k : Nat) : Int))]).length cp12) (zs ++ [(at_ es ((k : Nat) : Int))]) :: vc 122 (.slice ad8 1 1) (([⟨(at_ es ((k : Nat) : Int)).kd, (at_ es ((k : Nat) : Int)).tm, (at_ es ((k : Nat) : Int)).u, (at_ es ((k : Nat) : Int)).v, (at_ es ((k : Nat) : Int)).w, (at_ es ((k : Nat) : Int)).lb, (at_ es ((k : Nat) : Int)).sg⟩] : List Ev)) :: blk b3 [I64 ((at_ es ((k : Nat) : Int)).kd), I64 ((at_ es ((k : Nat) : Int)).tm), I64 ((at_ es ((k : Nat) : Int)).u), I64 ((at_ es ((k : Nat) : Int)).v), I64 ((at_ es ((k : Nat) : Int)).w), I64 ((at_ es ((k : Nat) : Int)).lb), I64 ((at_ es ((k : Nat) : Int)).sg)] 122 :: blk b1 [I64 (kd), I64 (wd), I64 (mo)] 73 :: I)
     refine G.nt ?_
     refine W.sr ?_
     refine G.r (Runs.fieldAddr fld73_0 rfl) ?_
     refine G.r (Runs.ld ty3) ?_
     refine G.r (Runs.eql rfl rfl) ?_
     have hI3 : SlI nd kd wd (at_ es ((k : Nat) : Int)).tm (stepL ys (at_ es ((k : Nat) : Int))) := hI2.step hfe rfl (checkW_one (Classical.not_not.1 c16))
     refine G.nt ?_
     refine W.ite rfl (fun c48 => ?_) (fun c48 => ?_)
     ·refine W.drawn mixed ?_
      refine A.hold (blk b3 [I64 ((at_ es ((k : Nat) : Int)).kd), I64 ((at_ es ((k : Nat) : Int)).tm), I64 ((at_ es ((k : Nat) : Int)).u), I64 ((at_ es ((k : Nat) : Int)).v), I64 ((at_ es ((k : Nat) : Int)).w), I64 ((at_ es ((k : Nat) : Int)).lb), I64 ((at_ es ((k : Nat) : Int)).sg)] 122 :: blk b1 [I64 (kd), I64 (wd), I64 (mo)] 73 :: I) 10 ?_
      refine D.r 0 rfl (Runs.move rfl) ?_ (hJ := Fit.sub)
      refine D.r 1 rfl (Runs.move rfl) ?_ (hJ := Fit.sub)
      refine D.r 2 rfl (Runs.nilCheck rfl) ?_ (hJ := Fit.sub)
      refine D.r 3 rfl (Runs.fieldAddr fld201_0 rfl) ?_ (hJ := Fit.sub)
      refine D.r 5 rfl (Runs.lds (vs := [_, _, _]) ty73) ?_ (hJ := Fit.sub)
      refine D.r 6 rfl (Runs.fieldAddr fld122_1 rfl) ?_ (hJ := Fit.sub)
      refine D.r 7 rfl (Runs.ld ty3) ?_ (hJ := Fit.sub)
      refine D.step (rs := [4]) (by kernel_rfl) rfl rfl (all1 ?_)
      refine Step.read rfl (Wanted.plain rfl) rfl rfl (Runs.lds (vs := [_, _]) ty71) Fit.sub ?_
      refine D.step (rs := [8]) (by kernel_rfl) rfl rfl (all1 ?_)
      refine Step.eff rfl (Wanted.plain rfl) (Eff.call call120 rfl rfl (GoneP_ok (nd := nd) Sl.o (by have h := stepL_len ys (at_ es ((k : Nat) : Int)); show (stepL ys (at_ es ((k : Nat) : Int))).length ≤ 1000000; omega) (hI3.ask (Classical.not_not.1 c16) hfe.tm (Int.le_refl _)))) ?_
      rintro _ _ ⟨_, _, ⟨ad13, cp14, rfl, rfl⟩, rfl, rfl⟩
      refine ⟨Fit.sub, ?_⟩
      refine D.step (rs := [9]) (by kernel_rfl) rfl rfl (all1 ?_)
      refine Step.eff rfl (Wanted.plain rfl) (Eff.call call156 rfl rfl (CallS.fit (J := blk b2 [I64 (nd), .slice ad9 (stepL ys (at_ es ((k : Nat) : Int))).length cp10, .slice ad11 (zs ++ [(at_ es ((k : Nat) : Int))]).length cp12] 201 :: vc 158 (.slice ad9 (stepL ys (at_ es ((k : Nat) : Int))).length cp10) (stepL ys (at_ es ((k : Nat) : Int))) :: vc 122 (.slice ad11 (zs ++ [(at_ es ((k : Nat) : Int))]).length cp12) (zs ++ [(at_ es ((k : Nat) : Int))]) :: vc 122 (.slice ad13 (goneL kd wd mo ((at_ es ((k : Nat) : Int)).tm) (stepL ys (at_ es ((k : Nat) : Int)))).length cp14) (goneL kd wd mo ((at_ es ((k : Nat) : Int)).tm) (stepL ys (at_ es ((k : Nat) : Int)))) :: vc 122 (.slice ad8 1 1) (([⟨(at_ es ((k : Nat) : Int)).kd, (at_ es ((k : Nat) : Int)).tm, (at_ es ((k : Nat) : Int)).u, (at_ es ((k : Nat) : Int)).v, (at_ es ((k : Nat) : Int)).w, (at_ es ((k : Nat) : Int)).lb, (at_ es ((k : Nat) : Int)).sg⟩] : List Ev)) :: blk b3 [I64 ((at_ es ((k : Nat) : Int)).kd), I64 ((at_ es ((k : Nat) : Int)).tm), I64 ((at_ es ((k : Nat) : Int)).u), I64 ((at_ es ((k : Nat) : Int)).v), I64 ((at_ es ((k : Nat) : Int)).w), I64 ((at_ es ((k : Nat) : Int)).lb), I64 ((at_ es ((k : Nat) : Int)).sg)] 122 :: blk b1 [I64 (kd), I64 (wd), I64 (mo)] 73 :: I) Fit.s (PutP_base (nd := nd) (xs := stepL ys (at_ es ((k : Nat) : Int))) (out := zs ++ [(at_ es ((k : Nat) : Int))]) (es := goneL kd wd mo ((at_ es ((k : Nat) : Int)).tm) (stepL ys (at_ es ((k : Nat) : Int)))) Sl.o hI3.val (fitgone hI3.val hfe.tm) (by have h := stepL_len ys (at_ es ((k : Nat) : Int)); have h9 := gone_len kd wd mo (at_ es ((k : Nat) : Int)).tm (stepL ys (at_ es ((k : Nat) : Int))); first | (simp only [List.length_append, List.length_cons, List.length_nil]; omega) | omega) (by have h := stepL_len ys (at_ es ((k : Nat) : Int)); have h9 := gone_len kd wd mo (at_ es ((k : Nat) : Int)).tm (stepL ys (at_ es ((k : Nat) : Int))); first | (simp only [List.length_append, List.length_cons, List.length_nil]; omega) | omega)))) ?_
      rintro _ _ ⟨_, _, ⟨⟨ad15, cp16, ad17, cp18⟩, rfl, rfl⟩, rfl, rfl⟩
      refine ⟨Fit.sub, ?_⟩
      show D Try.prog κ _ _ _ _ _ _ _ ([(58, .tuple #[]), (57, .slice ad13 (goneL kd wd mo ((at_ es ((k : Nat) : Int)).tm) (stepL ys (at_ es ((k : Nat) : Int)))).length cp14), (53, .agg #[I64 (nd), .slice ad9 (stepL ys (at_ es ((k : Nat) : Int))).length cp10]), (56, I64 ((at_ es ((k : Nat) : Int)).tm)), (55, .pointer (some ⟨b3, 1, none⟩)), (54, .agg #[I64 (kd), I64 (wd), I64 (mo)]), (52, .pointer (some ⟨b2, 0, none⟩)), (51, .pointer (some ⟨b2, 0, none⟩)), (50, .pointer (some ⟨b2, 0, none⟩)), (49, .pointer (some ⟨b2, 0, none⟩)), (48, .bool (decide (kd = 3))), (47, I64 (kd)), (46, .pointer (some ⟨b1, 0, none⟩)), (45, .tuple #[]), (44, .slice ad8 1 1), (43, .agg #[I64 ((at_ es ((k : Nat) : Int)).kd), I64 ((at_ es ((k : Nat) : Int)).tm), I64 ((at_ es ((k : Nat) : Int)).u), I64 ((at_ es ((k : Nat) : Int)).v), I64 ((at_ es ((k : Nat) : Int)).w), I64 ((at_ es ((k : Nat) : Int)).lb), I64 ((at_ es ((k : Nat) : Int)).sg)]), (42, .pointer (some ⟨b2, 0, none⟩)), (5, .pointer (some ⟨b1, 0, none⟩)), (10, .pointer (some ⟨b2, 0, none⟩)), (12, .pointer (some ⟨b3, 0, none⟩)), (28, va), (29, I64 (((es.length : Nat) : Int))), (30, I64 (((k : Nat) : Int)))] : Env) (blk b2 [I64 (nd), .slice ad15 (List.foldl stepL (stepL ys (at_ es ((k : Nat) : Int))) (goneL kd wd mo ((at_ es ((k : Nat) : Int)).tm) (stepL ys (at_ es ((k : Nat) : Int))))).length cp16, .slice ad17 ((zs ++ [(at_ es ((k : Nat) : Int))]) ++ (goneL kd wd mo ((at_ es ((k : Nat) : Int)).tm) (stepL ys (at_ es ((k : Nat) : Int))))).length cp18] 201 :: vc 158 (.slice ad15 (List.foldl stepL (stepL ys (at_ es ((k : Nat) : Int))) (goneL kd wd mo ((at_ es ((k : Nat) : Int)).tm) (stepL ys (at_ es ((k : Nat) : Int))))).length cp16) (List.foldl stepL (stepL ys (at_ es ((k : Nat) : Int))) (goneL kd wd mo ((at_ es ((k : Nat) : Int)).tm) (stepL ys (at_ es ((k : Nat) : Int))))) :: vc 122 (.slice ad17 ((zs ++ [(at_ es ((k : Nat) : Int))]) ++ (goneL kd wd mo ((at_ es ((k : Nat) : Int)).tm) (stepL ys (at_ es ((k : Nat) : Int))))).length cp18) ((zs ++ [(at_ es ((k : Nat) : Int))]) ++ (goneL kd wd mo ((at_ es ((k : Nat) : Int)).tm) (stepL ys (at_ es ((k : Nat) : Int))))) :: vc 122 (.slice ad13 (goneL kd wd mo ((at_ es ((k : Nat) : Int)).tm) (stepL ys (at_ es ((k : Nat) : Int)))).length cp14) (goneL kd wd mo ((at_ es ((k : Nat) : Int)).tm) (stepL ys (at_ es ((k : Nat) : Int)))) :: vc 122 (.slice ad8 1 1) (([⟨(at_ es ((k : Nat) : Int)).kd, (at_ es ((k : Nat) : Int)).tm, (at_ es ((k : Nat) : Int)).u, (at_ es ((k : Nat) : Int)).v, (at_ es ((k : Nat) : Int)).w, (at_ es ((k : Nat) : Int)).lb, (at_ es ((k : Nat) : Int)).sg⟩] : List Ev)) :: blk b3 [I64 ((at_ es ((k : Nat) : Int)).kd), I64 ((at_ es ((k : Nat) : Int)).tm), I64 ((at_ es ((k : Nat) : Int)).u), I64 ((at_ es ((k : Nat) : Int)).v), I64 ((at_ es ((k : Nat) : Int)).w), I64 ((at_ es ((k : Nat) : Int)).lb), I64 ((at_ es ((k : Nat) : Int)).sg)] 122 :: blk b1 [I64 (kd), I64 (wd), I64 (mo)] 73 :: I)
      refine D.done (by kernel_rfl) ?_
      refine V.block_normal ?_
      refine V.then ?_
      refine W.sub (L' := [(5, _), (10, _), (28, _), (29, _), (30, _)]) (Sub.cons rfl (Sub.cons rfl (Sub.cons rfl (Sub.cons rfl (Sub.cons rfl Sub.nil))))) ?_
      refine W.region ?_
      refine G.r (Runs.add rfl rfl (by unfold InR; omega)) ?_
      refine G.r (Runs.move rfl) ?_
      refine G.nil ?_
      have hgs := gone_steps (kd := kd) (wd := wd) (mo := mo) (nw := (at_ es ((k : Nat) : Int)).tm) hI3.val
      have hgl := gone_len kd wd mo (at_ es ((k : Nat) : Int)).tm (stepL ys (at_ es ((k : Nat) : Int)))
      have hsl := stepL_len ys (at_ es ((k : Nat) : Int))
      exact V.next ((k + 1), (ad15), (cp16), (ad17), (cp18), (List.filter (inW kd wd mo (at_ es ((k : Nat) : Int)).tm (stepL ys (at_ es ((k : Nat) : Int)))) (stepL ys (at_ es ((k : Nat) : Int)))), (zs ++ [(at_ es ((k : Nat) : Int))] ++ goneL kd wd mo (at_ es ((k : Nat) : Int)).tm (stepL ys (at_ es ((k : Nat) : Int))))) (show ((k + 1 : Nat) ≤ es.length) ∧ (slideS kd wd mo (List.take (k + 1 : Nat) es) = ((List.filter (inW kd wd mo (at_ es ((k : Nat) : Int)).tm (stepL ys (at_ es ((k : Nat) : Int)))) (stepL ys (at_ es ((k : Nat) : Int))) : List Lk), (zs ++ [(at_ es ((k : Nat) : Int))] ++ goneL kd wd mo (at_ es ((k : Nat) : Int)).tm (stepL ys (at_ es ((k : Nat) : Int))) : List Ev))) ∧ (SlI nd kd wd (lastT es (k + 1 : Nat)) (List.filter (inW kd wd mo (at_ es ((k : Nat) : Int)).tm (stepL ys (at_ es ((k : Nat) : Int)))) (stepL ys (at_ es ((k : Nat) : Int))) : List Lk)) ∧ ((List.filter (inW kd wd mo (at_ es ((k : Nat) : Int)).tm (stepL ys (at_ es ((k : Nat) : Int)))) (stepL ys (at_ es ((k : Nat) : Int))) : List Lk).length + (zs ++ [(at_ es ((k : Nat) : Int))] ++ goneL kd wd mo (at_ es ((k : Nat) : Int)).tm (stepL ys (at_ es ((k : Nat) : Int))) : List Ev).length ≤ 2 * (k + 1 : Nat)) from ⟨(by omega), (by rw [slideS_succ (by omega), hst]; exact evStep_three hag c48), (by rw [lastT_succ]; exact hI3.filter _), (by simp only [List.length_append, List.length_cons, List.length_nil]; omega)⟩) (show es.length - (k + 1 : Nat) < es.length - k from (by omega)) (Sub.cons rfl (Sub.cons rfl (Sub.cons rfl (Sub.cons rfl (Sub.cons lookO Sub.nil))))) (show Fit κ _ (blk b2 [I64 (nd), .slice (ad15) (List.filter (inW kd wd mo (at_ es ((k : Nat) : Int)).tm (stepL ys (at_ es ((k : Nat) : Int)))) (stepL ys (at_ es ((k : Nat) : Int)))).length (cp16), .slice (ad17) (zs ++ [(at_ es ((k : Nat) : Int))] ++ goneL kd wd mo (at_ es ((k : Nat) : Int)).tm (stepL ys (at_ es ((k : Nat) : Int)))).length (cp18)] 201 :: vc 158 (.slice (ad15) (List.filter (inW kd wd mo (at_ es ((k : Nat) : Int)).tm (stepL ys (at_ es ((k : Nat) : Int)))) (stepL ys (at_ es ((k : Nat) : Int)))).length (cp16)) ((List.filter (inW kd wd mo (at_ es ((k : Nat) : Int)).tm (stepL ys (at_ es ((k : Nat) : Int)))) (stepL ys (at_ es ((k : Nat) : Int))))) :: vc 122 (.slice (ad17) (zs ++ [(at_ es ((k : Nat) : Int))] ++ goneL kd wd mo (at_ es ((k : Nat) : Int)).tm (stepL ys (at_ es ((k : Nat) : Int)))).length (cp18)) ((zs ++ [(at_ es ((k : Nat) : Int))] ++ goneL kd wd mo (at_ es ((k : Nat) : Int)).tm (stepL ys (at_ es ((k : Nat) : Int))))) :: blk b1 [I64 (kd), I64 (wd), I64 (mo)] 73 :: I) from (by rw [← hgs]; exact Fit.sub))
     ·refine W.skip ?_
      refine V.block_normal ?_
      refine V.then ?_
      refine W.region ?_
      refine G.r (Runs.add rfl rfl (by unfold InR; omega)) ?_
      refine G.r (Runs.move rfl) ?_
      refine G.nil ?_
      have hsl := stepL_len ys (at_ es ((k : Nat) : Int))
      exact V.next ((k + 1), (ad9), (cp10), (ad11), (cp12), ((stepL ys (at_ es ((k : Nat) : Int)))), (zs ++ [(at_ es ((k : Nat) : Int))])) (show ((k + 1 : Nat) ≤ es.length) ∧ (slideS kd wd mo (List.take (k + 1 : Nat) es) = (((stepL ys (at_ es ((k : Nat) : Int))) : List Lk), (zs ++ [(at_ es ((k : Nat) : Int))] : List Ev))) ∧ (SlI nd kd wd (lastT es (k + 1 : Nat)) ((stepL ys (at_ es ((k : Nat) : Int))) : List Lk)) ∧ (((stepL ys (at_ es ((k : Nat) : Int))) : List Lk).length + (zs ++ [(at_ es ((k : Nat) : Int))] : List Ev).length ≤ 2 * (k + 1 : Nat)) from ⟨(by omega), (by rw [slideS_succ (by omega), hst]; exact evStep_not hag c48), (by rw [lastT_succ]; exact hI3), (by simp only [List.length_append, List.length_cons, List.length_nil]; omega)⟩) (show es.length - (k + 1 : Nat) < es.length - k from (by omega)) (Sub.cons rfl (Sub.cons rfl (Sub.cons rfl (Sub.cons rfl (Sub.cons lookO Sub.nil))))) (show Fit κ _ (blk b2 [I64 (nd), .slice (ad9) ((stepL ys (at_ es ((k : Nat) : Int)))).length (cp10), .slice (ad11) (zs ++ [(at_ es ((k : Nat) : Int))]).length (cp12)] 201 :: vc 158 (.slice (ad9) ((stepL ys (at_ es ((k : Nat) : Int)))).length (cp10)) (((stepL ys (at_ es ((k : Nat) : Int))))) :: vc 122 (.slice (ad11) (zs ++ [(at_ es ((k : Nat) : Int))]).length (cp12)) ((zs ++ [(at_ es ((k : Nat) : Int))])) :: blk b1 [I64 (kd), I64 (wd), I64 (mo)] 73 :: I) from Fit.sub)
   ·refine W.exit ?_
    refine V.then_exit ?_
    refine V.then_exit ?_
    refine V.block_hit ?_
    refine V.then ?_
    refine W.sr ?_
    refine G.r (Runs.move rfl) ?_
    refine G.r (Runs.nilCheck rfl) ?_
    refine G.r (Runs.fieldAddr fld201_1 rfl) ?_
    refine G.r (Runs.ld ty81) ?_
    refine G.r (Runs.assign rfl) ?_
    refine G.r (Runs.assign rfl) ?_
    refine G.nt ?_
    refine W.ret ?_
    have hE2 : (slideS kd wd mo es) = (xs, out) := by rw [← hst, show List.take k es = es from List.take_of_length_le (by omega)]
    have hz : (slideE nd kd wd mo es) = 0 := (slideE_st c16).trans (Classical.not_not.1 c22)
    exact V.ret2 rfl rfl rfl (vc 122 (.slice o1 (slideS kd wd mo es).2.length d1) (slideS kd wd mo es).2 :: I) (by rw [hE2]; exact Fit.sub) (.inr ⟨o1, d1, hz, by rw [hE2], rfl⟩)

end Go.Sl
