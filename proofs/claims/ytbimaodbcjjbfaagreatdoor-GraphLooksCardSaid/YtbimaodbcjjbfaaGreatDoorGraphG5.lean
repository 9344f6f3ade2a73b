/- A part of the proofs of statements of this seat: contracts of functions, and the plain laws that they lean on. No conditions. -/
import Derived.Test.YtbimaodbcjjbfaaGreatDoorRunsT
import Derived.Test.YtbimaodbcjjbfaaGreatDoorRunsD5
import Derived.Test.YtbimaodbcjjbfaaGreatDoorRunsY
import Derived.Test.YtbimaodbcjjbfaaGreatDoorRunsW
namespace Go.Sl
open Go.Proofs
set_option linter.unusedVariables false
set_option linter.unusedSimpArgs false
set_option maxRecDepth 4000

end Go.Sl
namespace Go.Sl
open Go.Proofs
set_option linter.unusedVariables false
set_option linter.unusedSimpArgs false
set_option maxRecDepth 4000
theorem eqt52 : EqT Tryz.prog 52 Pt := EqT.flat (fun p : Pt => [p.u, p.v]) (fun _ => rfl) (fun x y h => by cases x; cases y; simpa using h) (n := 2) (fun _ => rfl) (by kernel_rfl) (by kernel_rfl) (by kernel_rfl) (by kernel_rfl) (by kernel_rfl)

theorem BSearchE {κ : Ctx} {I : List Item} {v : Value} {xs : List Pt} (hl : Sl κ I v xs) (x : Pt) {g : FuncId} {cp_ : List Value} {cf : Pt → Pt → Int} (hcb : Cmps Tryz.prog κ I g cp_ cf) (hsz : xs.length ≤ 1000000000000) :
    CallS Tryz.prog κ 109 [v, .agg #[I64 (x.u), I64 (x.v)], .func (.func g) #[] cp_.toArray] I (fun r J => ∃ i b, r = .tuple #[I64 ((i : Nat) : Int), .bool b] ∧ BFound cf xs x i b ∧ I = J) := by
 refine CallS.pull hl.le fun hmax => ?_
 refine CallS.enter (L := [(0, v), (1, .agg #[I64 (x.u), I64 (x.v)]), (2, .func (.func g) #[] cp_.toArray)]) Tryz.func109 rfl rfl rfl rfl ?_
 refine W.sr ?_
 refine G.e (Eff.box (cs := [_, _]) rfl rfl rfl) ?_
 rintro _ _ ⟨b1, rfl, rfl⟩
 refine G.r (Runs.assign rfl) ?_
 refine G.r (Runs.assign rfl) ?_
 refine G.nt ?_
 refine W.sr ?_
 refine G.r (Runs.move rfl) ?_
 refine G.r (Runs.lenT (α := Pt) (xs := xs) Tryz.underlying26 rfl (Sl.f hl)) ?_
 refine G.r (Runs.assign rfl) ?_
 refine G.nt ?_
 refine W.sr ?_
 refine G.r (Runs.move rfl) ?_
 refine G.r (Runs.assign rfl) ?_
 refine G.r (Runs.assign rfl) ?_
 refine G.nt ?_
 refine W.seq ?_
 refine W.block ?_
 refine W.loop (σ := Nat × Nat) (fun s => ([(0, v), (2, .func (.func g) #[] cp_.toArray), (4, .pointer (some ⟨b1, 0, none⟩)), (8, I64 (((xs.length : Nat) : Int))), (9, I64 (((s.1 : Nat) : Int))), (10, I64 (((s.2 : Nat) : Int)))] : Env)) (fun s => blk b1 [I64 (x.u), I64 (x.v)] 52 :: I) (fun s => (s.1 ≤ s.2) ∧ (s.2 ≤ xs.length) ∧ (0 < s.1 → cf (at_ xs ((s.1 : Int) - 1)) x < 0) ∧ (s.2 < xs.length → ¬ cf (at_ xs (s.2 : Int)) x < 0)) (fun s => s.2 - s.1) (0, xs.length) (show ((0 : Nat) ≤ (xs.length : Nat)) ∧ ((xs.length : Nat) ≤ xs.length) ∧ (0 < (0 : Nat) → cf (at_ xs (((0 : Nat) : Int) - 1)) x < 0) ∧ ((xs.length : Nat) < xs.length → ¬ cf (at_ xs ((xs.length : Nat) : Int)) x < 0) from ⟨(by omega), (by omega), (fun h => absurd h (by decide)), (fun h => absurd h (by omega))⟩) (Sub.cons rfl (Sub.cons rfl (Sub.cons rfl (Sub.cons rfl (Sub.cons lookO (Sub.cons lookO Sub.nil)))))) (show Fit κ _ (blk b1 [I64 (x.u), I64 (x.v)] 52 :: I) from Fit.sub) ?_
 rintro ⟨i, j⟩ hp
 obtain ⟨hij, hj, hlo, hhi⟩ : (i ≤ j) ∧ (j ≤ xs.length) ∧ (0 < i → cf (at_ xs ((i : Int) - 1)) x < 0) ∧ (j < xs.length → ¬ cf (at_ xs (j : Int)) x < 0) := hp
 show W Tryz.prog κ 49 _ _ ([(0, v), (2, .func (.func g) #[] cp_.toArray), (4, .pointer (some ⟨b1, 0, none⟩)), (8, I64 (((xs.length : Nat) : Int))), (9, I64 (((i : Nat) : Int))), (10, I64 (((j : Nat) : Int)))] : Env) (blk b1 [I64 (x.u), I64 (x.v)] 52 :: I)
 refine W.seq ?_
 refine W.sr ?_
 refine G.r (Runs.move rfl) ?_
 refine G.r (Runs.move rfl) ?_
 refine G.r (Runs.lss rfl rfl) ?_
 refine G.nt ?_
 refine W.ite rfl (fun c17 => ?_) (fun c17 => ?_)
 ·refine W.skip ?_
  refine V.then ?_
  refine W.block ?_
  refine W.sr ?_
  refine G.r (Runs.move rfl) ?_
  refine G.r (Runs.move rfl) ?_
  refine G.r (Runs.add rfl rfl (by unfold InR; omega)) ?_
  refine G.r (Runs.convU Tryz.underlying3 Tryz.underlying109 rfl (by omega)) ?_
  refine G.r (Runs.shr1 rfl rfl) ?_
  refine G.r (Runs.convI Tryz.underlying109 Tryz.underlying3 rfl (by unfold InR; omega)) ?_
  refine G.r (Runs.assign rfl) ?_
  refine G.nt ?_
  refine W.sub (L' := [(11, _), (0, _), (2, _), (4, _), (8, _), (9, _), (10, _)]) (Sub.cons rfl (Sub.cons rfl (Sub.cons rfl (Sub.cons rfl (Sub.cons rfl (Sub.cons rfl (Sub.cons rfl Sub.nil))))))) ?_
  refine W.seq ?_
  refine W.drawn mixed ?_
  refine A.hold (blk b1 [I64 (x.u), I64 (x.v)] 52 :: I) 8 ?_
  refine D.r 0 rfl (Runs.move rfl) ?_ (hJ := Fit.sub)
  refine D.r 1 rfl (Runs.move rfl) ?_ (hJ := Fit.sub)
  refine D.r 2 rfl (Runs.move rfl) ?_ (hJ := Fit.sub)
  refine D.r 3 rfl (Runs.idx (α := Pt) (xs := xs) Tryz.underlying26 ty52 rfl rfl (Sl.f hl) (by omega) (by omega)) ?_ (hJ := Fit.sub)
  refine D.r 4 rfl (Runs.gets (α := Pt) (xs := xs) ty52 rfl (Sl.f hl) (by omega) (by omega)) ?_ (hJ := Fit.sub)
  refine D.r 5 rfl (Runs.lds (vs := [_, _]) ty52) ?_ (hJ := Fit.sub)
  refine D.step (rs := [6]) (by kernel_rfl) rfl rfl (all1 ?_)
  refine Step.eff rfl (Wanted.plain rfl) (Eff.callv hcb.1 (first := []) (caps := cp_) rfl rfl rfl (hcb.2 (at_ xs ((((i : Nat) : Int) + ((j : Nat) : Int)) / 2)) x _ Fit.m)) ?_
  rintro _ _ ⟨_, _, ⟨rfl, rfl⟩, rfl, rfl⟩
  refine ⟨Fit.sub, ?_⟩
  refine D.r 7 rfl (Runs.lss rfl rfl) ?_ (hJ := Fit.sub)
  refine D.done (by kernel_rfl) ?_
  refine V.then ?_
  refine W.sub (L' := [(31, _), (11, _), (0, _), (2, _), (4, _), (8, _), (9, _), (10, _)]) (Sub.cons rfl (Sub.cons rfl (Sub.cons rfl (Sub.cons rfl (Sub.cons rfl (Sub.cons rfl (Sub.cons rfl (Sub.cons rfl Sub.nil)))))))) ?_
  refine W.ite rfl (fun c31 => ?_) (fun c31 => ?_)
  ·refine W.region ?_
   refine G.r (Runs.move rfl) ?_
   refine G.r (Runs.add rfl rfl (by unfold InR; omega)) ?_
   refine G.r (Runs.assign rfl) ?_
   refine G.nil ?_
   refine V.block_normal ?_
   exact V.next (((i + j) / 2 + 1), (j)) (show (((i + j) / 2 + 1 : Nat) ≤ (j : Nat)) ∧ ((j : Nat) ≤ xs.length) ∧ (0 < ((i + j) / 2 + 1 : Nat) → cf (at_ xs ((((i + j) / 2 + 1 : Nat) : Int) - 1)) x < 0) ∧ ((j : Nat) < xs.length → ¬ cf (at_ xs ((j : Nat) : Int)) x < 0) from ⟨(by omega), (by omega), (fun _ => by rw [show (((i + j) / 2 + 1 : Nat) : Int) - 1 = (((i : Nat) : Int) + ((j : Nat) : Int)) / 2 by omega]; exact c31), hhi⟩) (show (j : Nat) - ((i + j) / 2 + 1 : Nat) < j - i from (by omega)) (Sub.cons rfl (Sub.cons rfl (Sub.cons rfl (Sub.cons rfl (Sub.cons lookO (Sub.cons lookO Sub.nil)))))) (show Fit κ _ (blk b1 [I64 (x.u), I64 (x.v)] 52 :: I) from Fit.sub)
  ·refine W.region ?_
   refine G.r (Runs.move rfl) ?_
   refine G.r (Runs.assign rfl) ?_
   refine G.nil ?_
   refine V.block_normal ?_
   exact V.next ((i), ((i + j) / 2)) (show ((i : Nat) ≤ ((i + j) / 2 : Nat)) ∧ (((i + j) / 2 : Nat) ≤ xs.length) ∧ (0 < (i : Nat) → cf (at_ xs (((i : Nat) : Int) - 1)) x < 0) ∧ (((i + j) / 2 : Nat) < xs.length → ¬ cf (at_ xs (((i + j) / 2 : Nat) : Int)) x < 0) from ⟨(by omega), (by omega), hlo, (fun _ => by rw [show (((i + j) / 2 : Nat) : Int) = (((i : Nat) : Int) + ((j : Nat) : Int)) / 2 by omega]; exact c31)⟩) (show ((i + j) / 2 : Nat) - (i : Nat) < j - i from (by omega)) (Sub.cons rfl (Sub.cons rfl (Sub.cons rfl (Sub.cons rfl (Sub.cons lookO (Sub.cons lookO Sub.nil)))))) (show Fit κ _ (blk b1 [I64 (x.u), I64 (x.v)] 52 :: I) from Fit.sub)
 ·refine W.exit ?_
  refine V.then_exit ?_
  refine V.then_exit ?_
  refine V.block_hit ?_
  refine V.then ?_
  refine W.seq ?_
  refine W.drawn mixed ?_
  refine A.hold (blk b1 [I64 (x.u), I64 (x.v)] 52 :: I) 16 ?_
  refine D.r 0 rfl (Runs.move rfl) ?_ (hJ := Fit.sub)
  refine D.r 1 rfl (Runs.move rfl) ?_ (hJ := Fit.sub)
  refine D.r 2 rfl (Runs.move rfl) ?_ (hJ := Fit.sub)
  refine D.r 3 rfl (Runs.lss rfl rfl) ?_ (hJ := Fit.sub)
  refine D.r 4 rfl (Runs.move rfl) ?_ (hJ := Fit.sub)
  refine D.split (d := 39) rfl (fun g39 => ?_) (fun g39 => ?_)
  ·refine D.read 5 rfl (by kernel_rfl) (by kernel_rfl) (by kernel_rfl) rfl (by kernel_rfl) (fun _ _ _ _ h => h) (Wanted.on rfl rfl rfl) rfl rfl Fit.sub (Runs.move rfl) ?_
   refine D.read 6 rfl (by kernel_rfl) (by kernel_rfl) (by kernel_rfl) rfl (by kernel_rfl) (fun _ _ _ _ h => h) (Wanted.on rfl rfl rfl) rfl rfl Fit.sub (Runs.move rfl) ?_
   refine D.read 7 rfl (by kernel_rfl) (by kernel_rfl) (by kernel_rfl) rfl (by kernel_rfl) (fun _ _ _ _ h => h) (Wanted.on rfl rfl rfl) rfl rfl Fit.sub (Runs.move rfl) ?_
   refine D.read 8 rfl (by kernel_rfl) (by kernel_rfl) (by kernel_rfl) rfl (by kernel_rfl) (fun _ _ _ _ h => h) (Wanted.on rfl rfl rfl) rfl rfl Fit.sub (Runs.idx (α := Pt) (xs := xs) Tryz.underlying26 ty52 rfl rfl (Sl.f hl) (by omega) (by omega)) ?_
   refine D.read 9 rfl (by kernel_rfl) (by kernel_rfl) (by kernel_rfl) rfl (by kernel_rfl) (fun _ _ _ _ h => h) (Wanted.on rfl rfl rfl) rfl rfl Fit.sub (Runs.gets (α := Pt) (xs := xs) ty52 rfl (Sl.f hl) (by omega) (by omega)) ?_
   refine D.read 10 rfl (by kernel_rfl) (by kernel_rfl) (by kernel_rfl) rfl (by kernel_rfl) (fun _ _ _ _ h => h) (Wanted.on rfl rfl rfl) rfl rfl Fit.sub (Runs.lds (vs := [_, _]) ty52) ?_
   refine D.step (rs := [11]) (by kernel_rfl) rfl rfl (all1 ?_)
   refine Step.eff rfl (Wanted.on rfl rfl rfl) (Eff.callv hcb.1 (first := []) (caps := cp_) rfl rfl rfl (hcb.2 (at_ xs ((i : Nat) : Int)) x _ Fit.m)) ?_
   rintro _ _ ⟨_, _, ⟨rfl, rfl⟩, rfl, rfl⟩
   refine ⟨Fit.sub, ?_⟩
   refine D.read 12 rfl (by kernel_rfl) (by kernel_rfl) (by kernel_rfl) rfl (by kernel_rfl) (fun _ _ _ _ h => h) (Wanted.on rfl rfl rfl) rfl rfl Fit.sub (Runs.eql rfl rfl) ?_
   refine D.r 13 rfl (Runs.pickt rfl rfl) ?_ (hJ := Fit.sub)
   refine D.r 14 rfl (Runs.assign rfl) ?_ (hJ := Fit.sub)
   refine D.r 15 rfl (Runs.assign rfl) ?_ (hJ := Fit.sub)
   refine D.done (by kernel_rfl) ?_
   refine V.then ?_
   refine W.sub (L' := [(7, _), (6, _)]) (Sub.cons rfl (Sub.cons rfl Sub.nil)) ?_
   refine W.ret ?_
   have hie : i = j := by omega
   subst hie
   exact V.ret2 rfl rfl rfl (I) Fit.m ⟨i, _, rfl, ⟨hj, hlo, hhi, (decide_eq_decide.2 ⟨fun h => ⟨by omega, h⟩, fun h => h.2⟩)⟩, rfl⟩
  ·refine D.pass 5 rfl (by kernel_rfl) (by kernel_rfl) (by kernel_rfl) rfl (by kernel_rfl) (fun _ _ _ _ h => h) (Unwanted.off rfl rfl rfl) rfl rfl Fit.sub ?_
   refine D.pass 6 rfl (by kernel_rfl) (by kernel_rfl) (by kernel_rfl) rfl (by kernel_rfl) (fun _ _ _ _ h => h) (Unwanted.off rfl rfl rfl) rfl rfl Fit.sub ?_
   refine D.pass 7 rfl (by kernel_rfl) (by kernel_rfl) (by kernel_rfl) rfl (by kernel_rfl) (fun _ _ _ _ h => h) (Unwanted.off rfl rfl rfl) rfl rfl Fit.sub ?_
   refine D.pass 8 rfl (by kernel_rfl) (by kernel_rfl) (by kernel_rfl) rfl (by kernel_rfl) (fun _ _ _ _ h => h) (Unwanted.off rfl rfl rfl) rfl rfl Fit.sub ?_
   refine D.pass 9 rfl (by kernel_rfl) (by kernel_rfl) (by kernel_rfl) rfl (by kernel_rfl) (fun _ _ _ _ h => h) (Unwanted.off rfl rfl rfl) rfl rfl Fit.sub ?_
   refine D.pass 10 rfl (by kernel_rfl) (by kernel_rfl) (by kernel_rfl) rfl (by kernel_rfl) (fun _ _ _ _ h => h) (Unwanted.off rfl rfl rfl) rfl rfl Fit.sub ?_
   refine D.pass 11 rfl (by kernel_rfl) (by kernel_rfl) (by kernel_rfl) rfl (by kernel_rfl) (fun _ _ _ _ h => h) (Unwanted.off rfl rfl rfl) rfl rfl Fit.sub ?_
   refine D.pass 12 rfl (by kernel_rfl) (by kernel_rfl) (by kernel_rfl) rfl (by kernel_rfl) (fun _ _ _ _ h => h) (Unwanted.off rfl rfl rfl) rfl rfl Fit.sub ?_
   refine D.r 13 rfl (Runs.pickf rfl rfl) ?_ (hJ := Fit.sub)
   refine D.r 14 rfl (Runs.assign rfl) ?_ (hJ := Fit.sub)
   refine D.r 15 rfl (Runs.assign rfl) ?_ (hJ := Fit.sub)
   refine D.done (by kernel_rfl) ?_
   refine V.then ?_
   refine W.sub (L' := [(7, _), (6, _)]) (Sub.cons rfl (Sub.cons rfl Sub.nil)) ?_
   refine W.ret ?_
   have hie : i = j := by omega
   subst hie
   exact V.ret2 rfl rfl rfl (I) Fit.m ⟨i, _, rfl, ⟨hj, hlo, hhi, ((decide_eq_false (fun h => by omega)).symm)⟩, rfl⟩

theorem CompactE_ok {κ : Ctx} {I : List Item} {a : Option Addr} {c : Nat} {xs : List Pt} (hsz : xs.length < 1000000000000) :
    CallS Tryz.prog κ 108 [.slice a xs.length c] (vc 52 (.slice a xs.length c) (xs) :: I) (fun r J => ∃ ys, (r = .slice a (compactN xs xs.length).length c ∧ ys = compactN xs xs.length) ∧ J = vc 52 (.slice a ys.length c) ys :: I) := by
 refine CallS.pull (vc.cap List.mem_cons_self) fun hcap => ?_
 refine CallS.enter (L := [(0, .slice a xs.length c)]) Tryz.func108 rfl rfl rfl rfl ?_
 refine W.sr ?_
 refine G.r (Runs.assign rfl) ?_
 refine G.nt ?_
 refine W.seq ?_
 refine W.sr ?_
 refine G.r (Runs.move rfl) ?_
 refine G.r (Runs.lens Tryz.underlying26 rfl) ?_
 refine G.r (Runs.lss rfl rfl) ?_
 refine G.nt ?_
 refine W.ite rfl (fun c8 => ?_) (fun c8 => ?_)
 ·refine W.sr ?_
  refine G.r (Runs.move rfl) ?_
  refine G.r (Runs.assign rfl) ?_
  refine G.nt ?_
  refine W.ret ?_
  refine V.then_ret ?_
  have hc : compactN xs xs.length = xs := (compactN_take (fun j h1 h2 => by omega) (Nat.le_refl _)).trans (List.take_length)
  exact V.ret1 rfl rfl (vc 52 (.slice a xs.length c) xs :: I) Fit.sub ⟨xs, ⟨by rw [hc], hc.symm⟩, rfl⟩
 ·refine W.skip ?_
  refine V.then ?_
  refine W.seq ?_
  refine W.sr ?_
  refine G.r (Runs.assign rfl) ?_
  refine G.nt ?_
  refine W.block ?_
  refine W.loop (σ := Nat) (fun s => ([(0, .slice a xs.length c), (3, I64 (((s : Nat) : Int)))] : Env)) (fun s => vc 52 (.slice a xs.length c) (xs) :: I) (fun s => (1 ≤ s ∧ s ≤ xs.length) ∧ (∀ j, j < s → 0 < j → at_ xs (j : Int) ≠ at_ xs ((j : Int) - 1))) (fun s => xs.length - s) (1) (show (1 ≤ (1 : Nat) ∧ (1 : Nat) ≤ xs.length) ∧ (∀ j, j < (1 : Nat) → 0 < j → at_ xs (j : Int) ≠ at_ xs ((j : Int) - 1)) from ⟨(by omega), (fun j h1 h2 => by omega)⟩) (Sub.cons rfl (Sub.cons lookO Sub.nil)) (show Fit κ _ (vc 52 (.slice a xs.length c) (xs) :: I) from Fit.sub) ?_
  rintro k hp
  obtain ⟨hk, hne⟩ : (1 ≤ k ∧ k ≤ xs.length) ∧ (∀ j, j < k → 0 < j → at_ xs (j : Int) ≠ at_ xs ((j : Int) - 1)) := hp
  show W Tryz.prog κ 61 _ _ ([(0, .slice a xs.length c), (3, I64 (((k : Nat) : Int)))] : Env) (vc 52 (.slice a xs.length c) (xs) :: I)
  refine W.seq ?_
  refine W.sr ?_
  refine G.r (Runs.move rfl) ?_
  refine G.r (Runs.move rfl) ?_
  refine G.r (Runs.lens Tryz.underlying26 rfl) ?_
  refine G.r (Runs.lss rfl rfl) ?_
  refine G.nt ?_
  refine W.ite rfl (fun c13 => ?_) (fun c13 => ?_)
  ·refine W.skip ?_
   refine V.then ?_
   refine W.seq ?_
   refine W.block ?_
   refine W.seq ?_
   refine W.drawn mixed ?_
   refine A.hold (vc 52 (.slice a xs.length c) (xs) :: I) 10 ?_
   refine D.r 0 rfl (Runs.move rfl) ?_
   refine D.r 1 rfl (Runs.move rfl) ?_
   refine D.r 2 rfl (Runs.idx (α := Pt) (xs := xs) Tryz.underlying26 ty52 rfl rfl Sl.o (by omega) (by first | omega | (simp only [List.length_drop]; omega))) ?_
   refine D.r 3 rfl (Runs.gets (α := Pt) (xs := xs) ty52 rfl Sl.o (by omega) (by first | omega | (simp only [List.length_drop]; omega))) ?_
   refine D.r 4 rfl (Runs.move rfl) ?_
   refine D.r 5 rfl (Runs.move rfl) ?_
   refine D.r 6 rfl (Runs.sub rfl rfl (by unfold InR; omega)) ?_
   refine D.r 7 rfl (Runs.idx (α := Pt) (xs := xs) Tryz.underlying26 ty52 rfl rfl Sl.o (by omega) (by first | omega | (simp only [List.length_drop]; omega))) ?_
   refine D.r 8 rfl (Runs.gets (α := Pt) (xs := xs) ty52 rfl Sl.o (by omega) (by first | omega | (simp only [List.length_drop]; omega))) ?_
   refine D.r 9 rfl (Runs.eqlT (α := Pt) (a := (at_ xs ((k : Nat) : Int))) (b := (at_ xs (((k : Nat) : Int) - 1))) eqt52 rfl rfl) ?_
   refine D.done (by kernel_rfl) ?_
   refine V.then ?_
   refine W.sub (L' := [(25, _), (0, _), (3, _)]) (Sub.cons rfl (Sub.cons rfl (Sub.cons rfl Sub.nil))) ?_
   refine W.ite rfl (fun c25 => ?_) (fun c25 => ?_)
   ·refine W.sr ?_
    refine G.r (Runs.move rfl) ?_
    refine G.r (Runs.move rfl) ?_
    refine G.r (Runs.lo (α := Pt) (xs := xs) (l := k) Tryz.underlying26 ty52 rfl rfl (by omega) Sl.o (by omega)) ?_
    refine G.r (Runs.assign rfl) ?_
    refine G.nt ?_
    refine W.seq ?_
    refine W.sr ?_
    refine G.r (Runs.assign rfl) ?_
    refine G.nt ?_
    refine W.block ?_
    refine W.loop (σ := Nat × Nat × (List Pt)) (fun s => ([(0, .slice a xs.length c), (3, I64 (((s.1 : Nat) : Int))), (4, .slice (adrop a c k (Enc.sz Pt)) (List.drop k xs).length (c - k)), (5, I64 (((s.2.1 : Nat) : Int)))] : Env)) (fun s => vc 52 (.slice a xs.length c) (s.2.2) :: I) (fun s => (1 ≤ s.2.1 ∧ k + s.2.1 ≤ xs.length) ∧ (s.2.2.length = xs.length) ∧ (1 ≤ s.1 ∧ s.1 < k + s.2.1) ∧ (s.2.2.take s.1 = compactN xs (k + s.2.1)) ∧ (∀ j, k + s.2.1 ≤ j + 1 → at_ s.2.2 (j : Int) = at_ xs (j : Int))) (fun s => xs.length - (k + s.2.1)) (k, 1, xs) (show (1 ≤ (1 : Nat) ∧ k + (1 : Nat) ≤ xs.length) ∧ ((xs : List Pt).length = xs.length) ∧ (1 ≤ (k : Nat) ∧ (k : Nat) < k + (1 : Nat)) ∧ ((xs : List Pt).take (k : Nat) = compactN xs (k + (1 : Nat))) ∧ (∀ j, k + (1 : Nat) ≤ j + 1 → at_ (xs : List Pt) (j : Int) = at_ xs (j : Int)) from ⟨(by omega), (by omega), (by omega), (by rw [← compactN_take hne (by omega)]; simp only [compactN]; rw [if_pos ⟨by omega, c25⟩]), (fun _ _ => rfl)⟩) (Sub.cons rfl (Sub.cons lookO (Sub.cons rfl (Sub.cons lookO Sub.nil)))) (show Fit κ _ (vc 52 (.slice a xs.length c) ((xs)) :: I) from Fit.sub) ?_
    rintro ⟨m, q, ys⟩ hp
    obtain ⟨hq, hyl, hm, htk, hsame⟩ : (1 ≤ q ∧ k + q ≤ xs.length) ∧ (ys.length = xs.length) ∧ (1 ≤ m ∧ m < k + q) ∧ (ys.take m = compactN xs (k + q)) ∧ (∀ j, k + q ≤ j + 1 → at_ ys (j : Int) = at_ xs (j : Int)) := hp
    show W Tryz.prog κ 61 _ _ ([(0, .slice a xs.length c), (3, I64 (((m : Nat) : Int))), (4, .slice (adrop a c k (Enc.sz Pt)) (List.drop k xs).length (c - k)), (5, I64 (((q : Nat) : Int)))] : Env) (vc 52 (.slice a xs.length c) (ys) :: I)
    have hdl : (List.drop k xs).length = xs.length - k := List.length_drop
    have hq1 := hsame (k + q) (by omega)
    have hq2 := hsame (k + q - 1) (by omega)
    rw [show ((k + q - 1 : Nat) : Int) = ((k + q : Nat) : Int) - 1 by omega] at hq2
    refine W.seq ?_
    refine W.sr ?_
    refine G.r (Runs.move rfl) ?_
    refine G.r (Runs.move rfl) ?_
    refine G.r (Runs.lens Tryz.underlying26 rfl) ?_
    refine G.r (Runs.lss rfl rfl) ?_
    refine G.nt ?_
    refine W.ite rfl (fun c32 => ?_) (fun c32 => ?_)
    ·refine W.skip ?_
     refine V.then ?_
     refine W.seq ?_
     refine W.block ?_
     refine W.seq ?_
     refine W.drawn mixed ?_
     refine A.hold (vc 52 (.slice a xs.length c) (ys) :: I) 10 ?_
     refine D.r 0 rfl (Runs.move rfl) ?_
     refine D.r 1 rfl (Runs.move rfl) ?_
     refine D.r 2 rfl (Runs.idx (α := Pt) (xs := List.drop k ys) Tryz.underlying26 ty52 rfl rfl (Sl.dropn Sl.o (by omega) (by rw [List.length_drop]; omega)) (by omega) (by first | omega | (simp only [List.length_drop]; omega))) ?_
     refine D.r 3 rfl (Runs.gets (α := Pt) (xs := List.drop k ys) ty52 rfl (Sl.dropn Sl.o (by omega) (by rw [List.length_drop]; omega)) (by omega) (by first | omega | (simp only [List.length_drop]; omega))) ?_
     refine D.r 4 rfl (Runs.move rfl) ?_
     refine D.r 5 rfl (Runs.move rfl) ?_
     refine D.r 6 rfl (Runs.sub rfl rfl (by unfold InR; omega)) ?_
     refine D.r 7 rfl (Runs.idx (α := Pt) (xs := List.drop k ys) Tryz.underlying26 ty52 rfl rfl (Sl.dropn Sl.o (by omega) (by rw [List.length_drop]; omega)) (by omega) (by first | omega | (simp only [List.length_drop]; omega))) ?_
     refine D.r 8 rfl (Runs.gets (α := Pt) (xs := List.drop k ys) ty52 rfl (Sl.dropn Sl.o (by omega) (by rw [List.length_drop]; omega)) (by omega) (by first | omega | (simp only [List.length_drop]; omega))) ?_
     refine D.r 9 rfl (Runs.neqT (α := Pt) (a := (at_ (List.drop k ys) ((q : Nat) : Int))) (b := (at_ (List.drop k ys) (((q : Nat) : Int) - 1))) eqt52 rfl rfl) ?_
     refine D.done (by kernel_rfl) ?_
     refine V.then ?_
     refine W.sub (L' := [(44, _), (0, _), (3, _), (4, _), (5, _)]) (Sub.cons rfl (Sub.cons rfl (Sub.cons rfl (Sub.cons rfl (Sub.cons rfl Sub.nil))))) ?_
     refine W.ite rfl (fun c44 => ?_) (fun c44 => ?_)
     ·refine W.sr ?_
      refine G.r (Runs.move rfl) ?_
      refine G.r (Runs.move rfl) ?_
      refine G.r (Runs.move rfl) ?_
      refine G.r (Runs.move rfl) ?_
      refine G.r (Runs.idx (α := Pt) (xs := List.drop k ys) Tryz.underlying26 ty52 rfl rfl (Sl.dropn Sl.o (by omega) (by rw [List.length_drop]; omega)) (by omega) (by first | omega | (simp only [List.length_drop]; omega))) ?_
      refine G.r (Runs.gets (α := Pt) (xs := List.drop k ys) ty52 rfl (Sl.dropn Sl.o (by omega) (by rw [List.length_drop]; omega)) (by omega) (by first | omega | (simp only [List.length_drop]; omega))) ?_
      refine G.r (Runs.idx (α := Pt) (xs := ys) Tryz.underlying26 ty52 rfl rfl Sl.o (by omega) (by first | omega | (simp only [List.length_drop]; omega))) ?_
      refine G.e (Eff.set (α := Pt) (xs := ys) (e := 52) (new := ⟨(at_ (List.drop k ys) ((q : Nat) : Int)).u, (at_ (List.drop k ys) ((q : Nat) : Int)).v⟩) ty52 rfl rfl rfl (by omega) (by first | omega | (simp only [List.length_drop]; omega)) (by repeat (first | exact At.head _ _ _ | apply At.tail))) ?_
      rintro _ _ ⟨rfl, rfl⟩
      refine G.nt ?_
      refine W.region ?_
      refine G.r (Runs.move rfl) ?_
      refine G.r (Runs.add rfl rfl (by unfold InR; omega)) ?_
      refine G.r (Runs.assign rfl) ?_
      refine G.nil ?_
      refine V.block_normal ?_
      refine V.then ?_
      refine W.sub (L' := [(3, _), (0, _), (4, _), (5, _)]) (Sub.cons rfl (Sub.cons rfl (Sub.cons rfl (Sub.cons rfl Sub.nil)))) ?_
      refine W.region ?_
      refine G.r (Runs.move rfl) ?_
      refine G.r (Runs.add rfl rfl (by unfold InR; omega)) ?_
      refine G.r (Runs.assign rfl) ?_
      refine G.nil ?_
      have hd1 : at_ (List.drop k ys) ((q : Nat) : Int) = at_ ys ((k + q : Nat) : Int) := by rw [at_drop _ _ _ (by omega)]; congr 1
      have hd2 : at_ (List.drop k ys) (((q : Nat) : Int) - 1) = at_ ys (((k + q : Nat) : Int) - 1) := by rw [at_drop _ _ _ (by omega)]; congr 1; omega
      have hset : List.set ys (((m : Nat) : Int)).toNat (⟨(at_ (List.drop k ys) ((q : Nat) : Int)).u, (at_ (List.drop k ys) ((q : Nat) : Int)).v⟩) = ys.set m (at_ ys ((k + q : Nat) : Int)) := by rw [← hd1]; rfl
      rw [hset]
      rw [hd1, hd2] at c44
      exact V.next ((m + 1), (q + 1), (ys.set m (at_ ys ((k + q : Nat) : Int)))) (show (1 ≤ (q + 1 : Nat) ∧ k + (q + 1 : Nat) ≤ xs.length) ∧ ((ys.set m (at_ ys ((k + q : Nat) : Int)) : List Pt).length = xs.length) ∧ (1 ≤ (m + 1 : Nat) ∧ (m + 1 : Nat) < k + (q + 1 : Nat)) ∧ ((ys.set m (at_ ys ((k + q : Nat) : Int)) : List Pt).take (m + 1 : Nat) = compactN xs (k + (q + 1 : Nat))) ∧ (∀ j, k + (q + 1 : Nat) ≤ j + 1 → at_ (ys.set m (at_ ys ((k + q : Nat) : Int)) : List Pt) (j : Int) = at_ xs (j : Int)) from ⟨(by omega), (by rw [List.length_set]; exact hyl), (by omega), (by rw [show k + (q + 1) = k + q + 1 by omega]; exact compact_put htk (by omega) c44 hq1 hq2), (fun j hj => by rw [at_setn _ _ _ _ (by omega), if_neg (by omega)]; exact hsame j (by omega))⟩) (show xs.length - (k + (q + 1 : Nat)) < xs.length - (k + q) from (by simp only [List.length_drop] at *; omega)) (Sub.cons rfl (Sub.cons lookO (Sub.cons rfl (Sub.cons lookO Sub.nil)))) (show Fit κ _ (vc 52 (.slice a xs.length c) ((ys.set m (at_ ys ((k + q : Nat) : Int)))) :: I) from Fit.sub)
     ·refine W.skip ?_
      refine V.block_normal ?_
      refine V.then ?_
      refine W.region ?_
      refine G.r (Runs.move rfl) ?_
      refine G.r (Runs.add rfl rfl (by unfold InR; omega)) ?_
      refine G.r (Runs.assign rfl) ?_
      refine G.nil ?_
      have hd1 : at_ (List.drop k ys) ((q : Nat) : Int) = at_ ys ((k + q : Nat) : Int) := by rw [at_drop _ _ _ (by omega)]; congr 1
      have hd2 : at_ (List.drop k ys) (((q : Nat) : Int) - 1) = at_ ys (((k + q : Nat) : Int) - 1) := by rw [at_drop _ _ _ (by omega)]; congr 1; omega
      rw [hd1, hd2] at c44
      exact V.next ((m), (q + 1), (ys)) (show (1 ≤ (q + 1 : Nat) ∧ k + (q + 1 : Nat) ≤ xs.length) ∧ ((ys : List Pt).length = xs.length) ∧ (1 ≤ (m : Nat) ∧ (m : Nat) < k + (q + 1 : Nat)) ∧ ((ys : List Pt).take (m : Nat) = compactN xs (k + (q + 1 : Nat))) ∧ (∀ j, k + (q + 1 : Nat) ≤ j + 1 → at_ (ys : List Pt) (j : Int) = at_ xs (j : Int)) from ⟨(by omega), (by omega), (by omega), (by rw [show k + (q + 1) = k + q + 1 by omega]; exact compact_keep htk (by omega) c44 hq1 hq2), (fun j hj => hsame j (by omega))⟩) (show xs.length - (k + (q + 1 : Nat)) < xs.length - (k + q) from (by simp only [List.length_drop] at *; omega)) (Sub.cons rfl (Sub.cons lookO (Sub.cons rfl (Sub.cons lookO Sub.nil)))) (show Fit κ _ (vc 52 (.slice a xs.length c) ((ys)) :: I) from Fit.sub)
    ·refine W.exit ?_
     refine V.then_exit ?_
     refine V.then_exit ?_
     refine V.block_hit ?_
     refine V.then ?_
     refine W.sr ?_
     refine G.r (Runs.move rfl) ?_
     refine G.r (Runs.move rfl) ?_
     refine G.r (Runs.lo (α := Pt) (xs := ys) (l := m) Tryz.underlying26 ty52 rfl rfl (by omega) Sl.o (by omega)) ?_
     refine G.e (Eff.clear (α := Pt) (k := m) (xs := ys) Tryz.underlying26 ty52 (AllOne.cons rfl (AllOne.cons rfl AllOne.nil)) rfl rfl (by omega) (by repeat (first | exact At.head _ _ _ | apply At.tail))) ?_
     rintro _ _ ⟨rfl, rfl⟩
     refine G.nt ?_
     refine W.sr ?_
     refine G.r (Runs.move rfl) ?_
     refine G.r (Runs.move rfl) ?_
     refine G.r (Runs.hiraw (h := m) Tryz.underlying26 ty52 rfl rfl (by omega) (by omega)) ?_
     refine G.r (Runs.assign rfl) ?_
     refine G.nt ?_
     refine W.sub (L' := [(2, _)]) (Sub.cons rfl Sub.nil) ?_
     refine W.ret ?_
     refine V.block_ret ?_
     refine V.then_ret ?_
     refine V.then_ret ?_
     refine V.block_ret ?_
     refine V.then_ret ?_
     have hc : ys.take m = compactN xs xs.length := by rw [htk]; congr 1; omega
     exact V.ret1 rfl rfl (vc 52 (.slice a (List.take m ys).length c) (List.take m ys) :: I) Fit.sub ⟨_, ⟨by rw [← hc, List.length_take, hyl, Nat.min_eq_left (by omega)], hc⟩, rfl⟩
   ·refine W.skip ?_
    refine V.block_normal ?_
    refine V.then ?_
    refine W.region ?_
    refine G.r (Runs.move rfl) ?_
    refine G.r (Runs.add rfl rfl (by unfold InR; omega)) ?_
    refine G.r (Runs.assign rfl) ?_
    refine G.nil ?_
    exact V.next ((k + 1)) (show (1 ≤ (k + 1 : Nat) ∧ (k + 1 : Nat) ≤ xs.length) ∧ (∀ j, j < (k + 1 : Nat) → 0 < j → at_ xs (j : Int) ≠ at_ xs ((j : Int) - 1)) from ⟨(by omega), (all_succ hne (fun _ => c25))⟩) (show xs.length - (k + 1 : Nat) < xs.length - k from (by omega)) (Sub.cons rfl (Sub.cons lookO Sub.nil)) (show Fit κ _ (vc 52 (.slice a xs.length c) (xs) :: I) from Fit.sub)
  ·refine W.exit ?_
   refine V.then_exit ?_
   refine V.then_exit ?_
   refine V.block_hit ?_
   refine V.then ?_
   refine W.sr ?_
   refine G.r (Runs.move rfl) ?_
   refine G.r (Runs.assign rfl) ?_
   refine G.nt ?_
   refine W.ret ?_
   have hc : compactN xs xs.length = xs := (compactN_take (fun j h1 h2 => hne j (by omega) h2) (Nat.le_refl _)).trans (List.take_length)
   exact V.ret1 rfl rfl (vc 52 (.slice a xs.length c) xs :: I) Fit.sub ⟨xs, ⟨by rw [hc], hc.symm⟩, rfl⟩

end Go.Sl
namespace Go.Sl
open Go.Proofs
set_option linter.unusedVariables false
set_option linter.unusedSimpArgs false
set_option maxRecDepth 4000
theorem CheckGen_ok {κ : Ctx} {I : List Item} {nd : Int} {v : Value} {es : List Pt} (hl : Sl κ I v es) :
    CallS Tryz.prog κ 49 [.agg #[I64 (nd), v]] I (fun r J => r = I64 (checkG nd es) ∧ I = J) := by
 refine CallS.pull hl.le fun hmax => ?_
 refine CallS.enter (L := [(0, .agg #[I64 (nd), v])]) Tryz.func49 rfl rfl rfl rfl ?_
 refine W.sr ?_
 refine G.e (Eff.box (cs := [_, _]) rfl rfl rfl) ?_
 rintro _ _ ⟨b1, rfl, rfl⟩
 refine G.r (Runs.assign rfl) ?_
 refine G.nt ?_
 refine W.seq ?_
 refine W.sr ?_
 refine G.r (Runs.fieldAddr fld28_0 rfl) ?_
 refine G.r (Runs.ld ty3) ?_
 refine G.r (Runs.lss rfl rfl) ?_
 refine G.r (Runs.move rfl) ?_
 refine G.split (d := 8) rfl (fun g8 => ?_) (fun g8 => ?_)
 ·refine G.po ?_
  refine G.po ?_
  refine G.po ?_
  refine G.r (Runs.pickt rfl rfl) ?_
  refine G.nt ?_
  refine W.yes rfl ?_
  refine W.sr ?_
  refine G.r (Runs.assign rfl) ?_
  refine G.nt ?_
  refine W.ret ?_
  refine V.then_ret ?_
  exact V.ret1 rfl rfl (I) Fit.m ⟨by rw [show checkG nd es = 1 from (by unfold checkG; rw [if_pos (by omega)])], rfl⟩
 ·refine G.ro (Runs.fieldAddr fld28_0 rfl) ?_
  refine G.ro (Runs.ld ty3) ?_
  refine G.ro (Runs.gtr rfl rfl) ?_
  refine G.r (Runs.pickf rfl rfl) ?_
  refine G.nt ?_
  refine W.ite rfl (fun c12 => ?_) (fun c12 => ?_)
  ·refine W.sr ?_
   refine G.r (Runs.assign rfl) ?_
   refine G.nt ?_
   refine W.ret ?_
   refine V.then_ret ?_
   exact V.ret1 rfl rfl (I) Fit.m ⟨by rw [show checkG nd es = 1 from (by unfold checkG; rw [if_pos (by omega)])], rfl⟩
  ·refine W.skip ?_
   refine V.then ?_
   refine W.seq ?_
   refine W.sr ?_
   refine G.r (Runs.fieldAddr fld28_1 rfl) ?_
   refine G.r (Runs.ld ty26) ?_
   refine G.r (Runs.lenT (α := Pt) (xs := es) Tryz.underlying26 rfl (Sl.f hl)) ?_
   refine G.r (Runs.move rfl) ?_
   refine G.nt ?_
   refine W.sub (L' := [(16, _), (15, _), (14, _), (1, _)]) (Sub.cons rfl (Sub.cons rfl (Sub.cons rfl (Sub.cons rfl Sub.nil)))) ?_
   refine W.block ?_
   refine W.loop (σ := Nat) (fun s => ([(1, .pointer (some ⟨b1, 0, none⟩)), (14, v), (15, I64 (((es.length : Nat) : Int))), (16, I64 (((s : Nat) : Int)))] : Env)) (fun s => blk b1 [I64 (nd), v] 28 :: I) (fun s => (s ≤ es.length) ∧ (checkG nd es = scanL (badE nd) Pt.lt (prevAt es s) (es.drop s))) (fun s => es.length - s) (0) (show ((0 : Nat) ≤ es.length) ∧ (checkG nd es = scanL (badE nd) Pt.lt (prevAt es (0 : Nat)) (es.drop (0 : Nat))) from ⟨(by omega), (by unfold checkG; rw [if_neg (by omega)]; rfl)⟩) (Sub.cons rfl (Sub.cons rfl (Sub.cons rfl (Sub.cons lookO Sub.nil)))) (show Fit κ _ (blk b1 [I64 (nd), v] 28 :: I) from Fit.sub) ?_
   rintro k hp
   obtain ⟨hk, hs⟩ : (k ≤ es.length) ∧ (checkG nd es = scanL (badE nd) Pt.lt (prevAt es k) (es.drop k)) := hp
   show W Tryz.prog κ 54 _ _ ([(1, .pointer (some ⟨b1, 0, none⟩)), (14, v), (15, I64 (((es.length : Nat) : Int))), (16, I64 (((k : Nat) : Int)))] : Env) (blk b1 [I64 (nd), v] 28 :: I)
   refine W.sr ?_
   refine G.r (Runs.lss rfl rfl) ?_
   refine G.nt ?_
   refine W.seq ?_
   refine W.ite rfl (fun c17 => ?_) (fun c17 => ?_)
   ·refine W.skip ?_
    refine V.then ?_
    refine W.seq ?_
    refine W.block ?_
    refine W.sr ?_
    refine G.r (Runs.move rfl) ?_
    refine G.r (Runs.idx (α := Pt) (xs := es) Tryz.underlying26 ty52 rfl rfl (Sl.f hl) (by omega) (by omega)) ?_
    refine G.r (Runs.gets (α := Pt) (xs := es) ty52 rfl (Sl.f hl) (by omega) (by omega)) ?_
    refine G.e (Eff.alloc ty52 rfl) ?_
    rintro _ _ ⟨b2, rfl, rfl⟩
    refine G.r (Runs.assign rfl) ?_
    refine G.e (Eff.st (cs := [_, _]) (vs := [_, _]) (cs' := [_, _]) ty52) ?_
    rintro _ _ ⟨rfl, rfl⟩
    refine G.nt ?_
    refine W.block ?_
    refine W.sr ?_
    refine G.r (Runs.fieldAddr fld52_0 rfl) ?_
    refine G.r (Runs.ld ty3) ?_
    refine G.r (Runs.lss rfl rfl) ?_
    refine G.r (Runs.move rfl) ?_
    refine G.split (d := 25) rfl (fun g25 => ?_) (fun g25 => ?_)
    ·refine G.po ?_
     refine G.po ?_
     refine G.po ?_
     refine G.po ?_
     refine G.po ?_
     refine G.r (Runs.pickt rfl rfl) ?_
     refine G.r (Runs.move rfl) ?_
     refine G.po ?_
     refine G.po ?_
     refine G.po ?_
     refine G.po ?_
     refine G.po ?_
     refine G.r (Runs.pickt rfl rfl) ?_
     refine G.r (Runs.assign rfl) ?_
     refine G.nt ?_
     refine W.sub (L' := [(21, _), (3, _), (4, _), (1, _), (14, _), (15, _), (16, _)]) (Sub.cons rfl (Sub.cons rfl (Sub.cons rfl (Sub.cons rfl (Sub.cons rfl (Sub.cons rfl (Sub.cons rfl Sub.nil))))))) ?_
     refine W.yes rfl ?_
     refine W.sr ?_
     refine G.r (Runs.assign rfl) ?_
     refine G.nt ?_
     refine W.ret ?_
     refine V.block_ret ?_
     refine V.block_ret ?_
     refine V.then_ret ?_
     refine V.then_ret ?_
     refine V.block_ret ?_
     refine V.then_ret ?_
     exact V.ret1 rfl rfl (I) Fit.m ⟨by rw [show checkG nd es = 6 from (hs.trans ((scanL_bad (by omega) (by unfold badE; rw [if_pos (by omega)]; decide)).trans (by unfold badE; rw [if_pos (by omega)])))], rfl⟩
    ·refine G.ro (Runs.fieldAddr fld52_0 rfl) ?_
     refine G.ro (Runs.ld ty3) ?_
     refine G.ro (Runs.fieldAddr fld52_1 rfl) ?_
     refine G.ro (Runs.ld ty3) ?_
     refine G.ro (Runs.geq rfl rfl) ?_
     refine G.r (Runs.pickf rfl rfl) ?_
     refine G.r (Runs.move rfl) ?_
     refine G.split (d := 32) rfl (fun g32 => ?_) (fun g32 => ?_)
     ·refine G.po ?_
      refine G.po ?_
      refine G.po ?_
      refine G.po ?_
      refine G.po ?_
      refine G.r (Runs.pickt rfl rfl) ?_
      refine G.r (Runs.assign rfl) ?_
      refine G.nt ?_
      refine W.sub (L' := [(21, _), (3, _), (4, _), (1, _), (14, _), (15, _), (16, _)]) (Sub.cons rfl (Sub.cons rfl (Sub.cons rfl (Sub.cons rfl (Sub.cons rfl (Sub.cons rfl (Sub.cons rfl Sub.nil))))))) ?_
      refine W.yes rfl ?_
      refine W.sr ?_
      refine G.r (Runs.assign rfl) ?_
      refine G.nt ?_
      refine W.ret ?_
      refine V.block_ret ?_
      refine V.block_ret ?_
      refine V.then_ret ?_
      refine V.then_ret ?_
      refine V.block_ret ?_
      refine V.then_ret ?_
      exact V.ret1 rfl rfl (I) Fit.m ⟨by rw [show checkG nd es = 6 from (hs.trans ((scanL_bad (by omega) (by unfold badE; rw [if_pos (by omega)]; decide)).trans (by unfold badE; rw [if_pos (by omega)])))], rfl⟩
     ·refine G.ro (Runs.fieldAddr fld52_1 rfl) ?_
      refine G.ro (Runs.ld ty3) ?_
      refine G.ro (Runs.fieldAddr fld28_0 rfl) ?_
      refine G.ro (Runs.ld ty3) ?_
      refine G.ro (Runs.geq rfl rfl) ?_
      refine G.r (Runs.pickf rfl rfl) ?_
      refine G.r (Runs.assign rfl) ?_
      refine G.nt ?_
      refine W.sub (L' := [(21, _), (3, _), (4, _), (1, _), (14, _), (15, _), (16, _)]) (Sub.cons rfl (Sub.cons rfl (Sub.cons rfl (Sub.cons rfl (Sub.cons rfl (Sub.cons rfl (Sub.cons rfl Sub.nil))))))) ?_
      refine W.ite rfl (fun c21 => ?_) (fun c21 => ?_)
      ·refine W.sr ?_
       refine G.r (Runs.assign rfl) ?_
       refine G.nt ?_
       refine W.ret ?_
       refine V.block_ret ?_
       refine V.block_ret ?_
       refine V.then_ret ?_
       refine V.then_ret ?_
       refine V.block_ret ?_
       refine V.then_ret ?_
       exact V.ret1 rfl rfl (I) Fit.m ⟨by rw [show checkG nd es = 6 from (hs.trans ((scanL_bad (by omega) (by unfold badE; rw [if_pos (by omega)]; decide)).trans (by unfold badE; rw [if_pos (by omega)])))], rfl⟩
      ·refine W.seq ?_
       refine W.drawn mixed ?_
       refine A.hold (blk b2 [I64 ((at_ es ((k : Nat) : Int)).u), I64 ((at_ es ((k : Nat) : Int)).v)] 52 :: blk b1 [I64 (nd), v] 28 :: I) 14 ?_
       refine D.r 0 rfl (Runs.move rfl) ?_
       refine D.r 1 rfl (Runs.gtr rfl rfl) ?_
       refine D.r 2 rfl (Runs.move rfl) ?_
       refine D.split (d := 42) rfl (fun g42 => ?_) (fun g42 => ?_)
       ·refine D.ro 3 rfl (Runs.fieldAddr fld28_1 rfl) ?_
        refine D.ro 4 rfl (Runs.ld ty26) ?_
        refine D.ro 5 rfl (Runs.move rfl) ?_
        refine D.ro 6 rfl (Runs.sub rfl rfl (by unfold InR; omega)) ?_
        refine D.ro 7 rfl (Runs.idx (α := Pt) (xs := es) Tryz.underlying26 ty52 rfl rfl (Sl.f hl) (by omega) (by omega)) ?_
        refine D.ro 8 rfl (Runs.gets (α := Pt) (xs := es) ty52 rfl (Sl.f hl) (by omega) (by omega)) ?_
        refine D.ro 9 rfl (Runs.lds (vs := [_, _]) ty52) ?_
        refine D.step (rs := [10]) (by kernel_rfl) rfl rfl (all1 ?_)
        refine Step.eff rfl (Wanted.on rfl rfl rfl) (Eff.call call107 rfl rfl (Order_ok (at_ es (((k : Nat) : Int) - 1)) (at_ es ((k : Nat) : Int)))) ?_
        rintro _ _ ⟨_, _, ⟨rfl, rfl⟩, rfl, rfl⟩
        refine ⟨Fit.m, ?_⟩
        refine D.ro 11 rfl (Runs.geq rfl rfl) ?_
        refine D.r 12 rfl (Runs.pickt rfl rfl) ?_
        refine D.r 13 rfl (Runs.assign rfl) ?_
        refine D.done (by kernel_rfl) ?_
        refine V.then ?_
        refine W.sub (L' := [(39, _), (1, _), (14, _), (15, _), (16, _)]) (Sub.cons rfl (Sub.cons rfl (Sub.cons rfl (Sub.cons rfl (Sub.cons rfl Sub.nil))))) ?_
        refine W.ite rfl (fun c39 => ?_) (fun c39 => ?_)
        ·refine W.sr ?_
         refine G.r (Runs.assign rfl) ?_
         refine G.nt ?_
         refine W.ret ?_
         refine V.block_ret ?_
         refine V.block_ret ?_
         refine V.then_ret ?_
         refine V.then_ret ?_
         refine V.block_ret ?_
         refine V.then_ret ?_
         exact V.ret1 rfl rfl (I) Fit.m ⟨by rw [show checkG nd es = 5 from (hs.trans (scanL_order (by omega) (badE_zero.2 (by omega)) (by omega) (fun h => by have := (Pt.cmp_lt _ _).2 h; omega)))], rfl⟩
        ·refine W.skip ?_
         refine V.block_normal ?_
         refine V.block_normal ?_
         refine V.then ?_
         refine W.region ?_
         refine G.r (Runs.add rfl rfl (by unfold InR; omega)) ?_
         refine G.r (Runs.move rfl) ?_
         refine G.nil ?_
         exact V.next ((k + 1)) (show ((k + 1 : Nat) ≤ es.length) ∧ (checkG nd es = scanL (badE nd) Pt.lt (prevAt es (k + 1 : Nat)) (es.drop (k + 1 : Nat))) from ⟨(by omega), (hs.trans (scanL_step (by omega) (badE_zero.2 (by omega)) (fun h0 => by first | omega | exact (Pt.cmp_lt _ _).1 (by omega))))⟩) (show es.length - (k + 1 : Nat) < es.length - k from (by omega)) (Sub.cons rfl (Sub.cons rfl (Sub.cons rfl (Sub.cons lookO Sub.nil)))) (show Fit κ _ (blk b1 [I64 (nd), v] 28 :: I) from Fit.sub)
       ·refine D.po 3 rfl ?_
        refine D.po 4 rfl ?_
        refine D.po 5 rfl ?_
        refine D.po 6 rfl ?_
        refine D.po 7 rfl ?_
        refine D.po 8 rfl ?_
        refine D.po 9 rfl ?_
        refine D.po 10 rfl ?_
        refine D.po 11 rfl ?_
        refine D.r 12 rfl (Runs.pickf rfl rfl) ?_
        refine D.r 13 rfl (Runs.assign rfl) ?_
        refine D.done (by kernel_rfl) ?_
        refine V.then ?_
        refine W.sub (L' := [(39, _), (1, _), (14, _), (15, _), (16, _)]) (Sub.cons rfl (Sub.cons rfl (Sub.cons rfl (Sub.cons rfl (Sub.cons rfl Sub.nil))))) ?_
        refine W.no rfl ?_
        refine W.skip ?_
        refine V.block_normal ?_
        refine V.block_normal ?_
        refine V.then ?_
        refine W.region ?_
        refine G.r (Runs.add rfl rfl (by unfold InR; omega)) ?_
        refine G.r (Runs.move rfl) ?_
        refine G.nil ?_
        exact V.next ((k + 1)) (show ((k + 1 : Nat) ≤ es.length) ∧ (checkG nd es = scanL (badE nd) Pt.lt (prevAt es (k + 1 : Nat)) (es.drop (k + 1 : Nat))) from ⟨(by omega), (hs.trans (scanL_step (by omega) (badE_zero.2 (by omega)) (fun h0 => by first | omega | exact (Pt.cmp_lt _ _).1 (by omega))))⟩) (show es.length - (k + 1 : Nat) < es.length - k from (by omega)) (Sub.cons rfl (Sub.cons rfl (Sub.cons rfl (Sub.cons lookO Sub.nil)))) (show Fit κ _ (blk b1 [I64 (nd), v] 28 :: I) from Fit.sub)
   ·refine W.exit ?_
    refine V.then_exit ?_
    refine V.then_exit ?_
    refine V.block_hit ?_
    refine V.then ?_
    refine W.sr ?_
    refine G.r (Runs.assign rfl) ?_
    refine G.nt ?_
    refine W.ret ?_
    exact V.ret1 rfl rfl (I) Fit.m ⟨by rw [show checkG nd es = 0 from (hs.trans (scanL_end (by omega)))], rfl⟩

theorem Ends_ok {κ : Ctx} {I : List Item} (nd u v : Int) :
    CallS Tryz.prog κ 68 [I64 (nd), I64 (u), I64 (v)] I (fun r J => r = .bool (decide (endsP nd u v)) ∧ I = J) := by
 have hmx : ((if v < u then v else u) ≤ u ∧ (if v < u then v else u) ≤ v ∧ ((if v < u then v else u) = u ∨ (if v < u then v else u) = v)) ∧ (u ≤ (if u < v then v else u) ∧ v ≤ (if u < v then v else u) ∧ ((if u < v then v else u) = u ∨ (if u < v then v else u) = v)) := by refine ⟨⟨?_, ?_, ?_⟩, ⟨?_, ?_, ?_⟩⟩ <;> split <;> omega
 refine CallS.enter (L := [(0, I64 (nd)), (1, I64 (u)), (2, I64 (v))]) Tryz.func68 rfl rfl rfl rfl ?_
 refine W.sr ?_
 refine G.r (Runs.assign rfl) ?_
 refine G.nt ?_
 refine W.sr ?_
 refine G.r (Runs.move rfl) ?_
 refine G.r (Runs.move rfl) ?_
 refine G.r (Runs.neq rfl rfl) ?_
 refine G.r (Runs.move rfl) ?_
 refine G.split (d := 10) rfl (fun g10 => ?_) (fun g10 => ?_)
 ·refine G.ro (Runs.move rfl) ?_
  refine G.ro (Runs.move rfl) ?_
  refine G.ro (Runs.min rfl rfl) ?_
  refine G.ro (Runs.geq rfl rfl) ?_
  refine G.r (Runs.pickt rfl rfl) ?_
  refine G.r (Runs.move rfl) ?_
  refine G.split (d := 16) rfl (fun g16 => ?_) (fun g16 => ?_)
  ·refine G.ro (Runs.move rfl) ?_
   refine G.ro (Runs.move rfl) ?_
   refine G.ro (Runs.max rfl rfl) ?_
   refine G.ro (Runs.move rfl) ?_
   refine G.ro (Runs.lss rfl rfl) ?_
   refine G.r (Runs.pickt rfl rfl) ?_
   refine G.r (Runs.assign rfl) ?_
   refine G.nt ?_
   refine W.sub (L' := [(6, _)]) (Sub.cons rfl Sub.nil) ?_
   refine W.ret ?_
   exact V.ret1 rfl rfl (I) Fit.m ⟨(by first | exact congrArg Value.bool (decide_eq_decide.2 (by unfold endsP; omega)) | exact congrArg Value.bool (decide_eq_true (by unfold endsP; omega)).symm | exact congrArg Value.bool (decide_eq_false (by unfold endsP; omega)).symm), rfl⟩
  ·refine G.po ?_
   refine G.po ?_
   refine G.po ?_
   refine G.po ?_
   refine G.po ?_
   refine G.r (Runs.pickf rfl rfl) ?_
   refine G.r (Runs.assign rfl) ?_
   refine G.nt ?_
   refine W.sub (L' := [(6, _)]) (Sub.cons rfl Sub.nil) ?_
   refine W.ret ?_
   exact V.ret1 rfl rfl (I) Fit.m ⟨(by first | exact congrArg Value.bool (decide_eq_decide.2 (by unfold endsP; omega)) | exact congrArg Value.bool (decide_eq_true (by unfold endsP; omega)).symm | exact congrArg Value.bool (decide_eq_false (by unfold endsP; omega)).symm), rfl⟩
 ·refine G.po ?_
  refine G.po ?_
  refine G.po ?_
  refine G.po ?_
  refine G.r (Runs.pickf rfl rfl) ?_
  refine G.r (Runs.move rfl) ?_
  refine G.po ?_
  refine G.po ?_
  refine G.po ?_
  refine G.po ?_
  refine G.po ?_
  refine G.r (Runs.pickf rfl rfl) ?_
  refine G.r (Runs.assign rfl) ?_
  refine G.nt ?_
  refine W.sub (L' := [(6, _)]) (Sub.cons rfl Sub.nil) ?_
  refine W.ret ?_
  exact V.ret1 rfl rfl (I) Fit.m ⟨(by first | exact congrArg Value.bool (decide_eq_decide.2 (by unfold endsP; omega)) | exact congrArg Value.bool (decide_eq_true (by unfold endsP; omega)).symm | exact congrArg Value.bool (decide_eq_false (by unfold endsP; omega)).symm), rfl⟩

theorem EdgeG_ok {κ : Ctx} {I : List Item} (u v : Int) :
    CallS Tryz.prog κ 105 [I64 (u), I64 (v)] I (fun r J => r = .agg #[I64 (edgeP u v).u, I64 (edgeP u v).v] ∧ I = J) := by
 refine CallS.enter (L := [(0, I64 (u)), (1, I64 (v))]) Tryz.func105 rfl rfl rfl rfl ?_
 refine W.sr ?_
 refine G.e (Eff.alloc ty52 rfl) ?_
 rintro _ _ ⟨b1, rfl, rfl⟩
 refine G.nt ?_
 refine W.sr ?_
 refine G.r (Runs.move rfl) ?_
 refine G.r (Runs.move rfl) ?_
 refine G.r (Runs.min rfl rfl) ?_
 refine G.r (Runs.move rfl) ?_
 refine G.r (Runs.move rfl) ?_
 refine G.r (Runs.max rfl rfl) ?_
 refine G.r (Runs.build (cells := [_, _]) ty52 Tryz.underlying52 pl52 rfl rfl) ?_
 refine G.e (Eff.st (cs := [_, _]) (vs := [_, _]) (cs' := [_, _]) ty52) ?_
 rintro _ _ ⟨rfl, rfl⟩
 refine G.nt ?_
 refine W.ret ?_
 exact V.retc rfl ty52 rfl (by repeat (first | exact List.mem_cons_self | apply List.mem_cons_of_mem)) rfl (I) Fit.m ⟨rfl, rfl⟩

theorem Order_cmps {κ : Ctx} {I : List Item} : Cmps Tryz.prog κ I 107 [] Pt.cmp := ⟨call107, fun x y J hf => Order_ok x y⟩

theorem Place_ok {κ : Ctx} {I : List Item} {nd : Int} {va : Value} {es : List Pt} (hl : Sl κ I va es) (u v : Int) (hb : es.length ≤ 1000000000) :
    CallS Tryz.prog κ 51 [.agg #[I64 (nd), va], I64 (u), I64 (v)] I (fun r J => ∃ i q, r = .tuple #[I64 ((i : Nat) : Int), .bool (decide (i < es.length ∧ at_ es ((i : Nat) : Int) = (edgeP u v)))] ∧ BFound Pt.cmp es (edgeP u v) i q ∧ I = J) := by
 refine CallS.pull hl.le fun hmax => ?_
 refine CallS.enter (L := [(0, .agg #[I64 (nd), va]), (1, I64 (u)), (2, I64 (v))]) Tryz.func51 rfl rfl rfl rfl ?_
 refine W.sr ?_
 refine G.e (Eff.box (cs := [_, _]) rfl rfl rfl) ?_
 rintro _ _ ⟨b1, rfl, rfl⟩
 refine G.r (Runs.assign rfl) ?_
 refine G.r (Runs.assign rfl) ?_
 refine G.nt ?_
 refine W.sr ?_
 refine G.r (Runs.move rfl) ?_
 refine G.r (Runs.move rfl) ?_
 refine G.e (Eff.call call105 rfl rfl (EdgeG_ok u v)) ?_
 rintro _ _ ⟨_, _, ⟨rfl, rfl⟩, rfl, rfl⟩
 refine G.e (Eff.alloc ty52 rfl) ?_
 rintro _ _ ⟨b2, rfl, rfl⟩
 refine G.e (Eff.st (cs := [_, _]) (vs := [_, _]) (cs' := [_, _]) ty52) ?_
 rintro _ _ ⟨rfl, rfl⟩
 refine G.nt ?_
 refine W.sr ?_
 refine G.r (Runs.fieldAddr fld28_1 rfl) ?_
 refine G.r (Runs.ld ty26) ?_
 refine G.r (Runs.lds (vs := [_, _]) ty52) ?_
 refine G.e (Eff.call call109 rfl rfl (BSearchE (Sl.f hl) (edgeP u v) Order_cmps (by omega))) ?_
 rintro _ _ ⟨_, _, ⟨i3, q4, rfl, hi3, rfl⟩, rfl, rfl⟩
 refine G.r (Runs.move rfl) ?_
 refine G.r (Runs.extract rfl rfl) ?_
 refine G.r (Runs.extract rfl rfl) ?_
 refine G.r (Runs.assign rfl) ?_
 refine G.r (Runs.assign rfl) ?_
 refine G.nt ?_
 refine W.sub (L' := [(9, _), (8, _), (3, _)]) (Sub.cons rfl (Sub.cons rfl (Sub.cons rfl Sub.nil))) ?_
 refine W.seq ?_
 refine W.drawn mixed ?_
 refine A.hold (blk b2 [I64 ((edgeP u v).u), I64 ((edgeP u v).v)] 52 :: blk b1 [I64 (nd), va] 28 :: I) 17 ?_
 refine D.r 0 rfl (Runs.move rfl) ?_ (hJ := Fit.sub)
 refine D.r 1 rfl (Runs.move rfl) ?_ (hJ := Fit.sub)
 refine D.r 2 rfl (Runs.fieldAddr fld28_1 rfl) ?_ (hJ := Fit.sub)
 refine D.r 3 rfl (Runs.ld ty26) ?_ (hJ := Fit.sub)
 refine D.r 4 rfl (Runs.lenT (α := Pt) (xs := es) Tryz.underlying26 rfl (Sl.f hl)) ?_ (hJ := Fit.sub)
 refine D.r 5 rfl (Runs.lss rfl rfl) ?_ (hJ := Fit.sub)
 refine D.r 6 rfl (Runs.move rfl) ?_ (hJ := Fit.sub)
 refine D.split (d := 27) rfl (fun g27 => ?_) (fun g27 => ?_)
 ·refine D.read 7 rfl (by kernel_rfl) (by kernel_rfl) (by kernel_rfl) rfl (by kernel_rfl) (fun _ _ _ _ h => h) (Wanted.on rfl rfl rfl) rfl rfl Fit.sub (Runs.fieldAddr fld28_1 rfl) ?_
  refine D.read 8 rfl (by kernel_rfl) (by kernel_rfl) (by kernel_rfl) rfl (by kernel_rfl) (fun _ _ _ _ h => h) (Wanted.on rfl rfl rfl) rfl rfl Fit.sub (Runs.ld ty26) ?_
  refine D.read 9 rfl (by kernel_rfl) (by kernel_rfl) (by kernel_rfl) rfl (by kernel_rfl) (fun _ _ _ _ h => h) (Wanted.on rfl rfl rfl) rfl rfl Fit.sub (Runs.move rfl) ?_
  refine D.read 10 rfl (by kernel_rfl) (by kernel_rfl) (by kernel_rfl) rfl (by kernel_rfl) (fun _ _ _ _ h => h) (Wanted.on rfl rfl rfl) rfl rfl Fit.sub (Runs.idx (α := Pt) (xs := es) Tryz.underlying26 ty52 rfl rfl (Sl.f hl) (by omega) (by omega)) ?_
  refine D.read 11 rfl (by kernel_rfl) (by kernel_rfl) (by kernel_rfl) rfl (by kernel_rfl) (fun _ _ _ _ h => h) (Wanted.on rfl rfl rfl) rfl rfl Fit.sub (Runs.gets (α := Pt) (xs := es) ty52 rfl (Sl.f hl) (by omega) (by omega)) ?_
  refine D.read 12 rfl (by kernel_rfl) (by kernel_rfl) (by kernel_rfl) rfl (by kernel_rfl) (fun _ _ _ _ h => h) (Wanted.on rfl rfl rfl) rfl rfl Fit.sub (Runs.lds (vs := [_, _]) ty52) ?_
  refine D.read 13 rfl (by kernel_rfl) (by kernel_rfl) (by kernel_rfl) rfl (by kernel_rfl) (fun _ _ _ _ h => h) (Wanted.on rfl rfl rfl) rfl rfl Fit.sub (Runs.eqlT (α := Pt) (a := (at_ es ((i3 : Nat) : Int))) (b := (edgeP u v)) eqt52 rfl rfl) ?_
  refine D.r 14 rfl (Runs.pickt rfl rfl) ?_ (hJ := Fit.sub)
  refine D.r 15 rfl (Runs.assign rfl) ?_ (hJ := Fit.sub)
  refine D.r 16 rfl (Runs.assign rfl) ?_ (hJ := Fit.sub)
  refine D.done (by kernel_rfl) ?_
  refine V.then ?_
  refine W.sub (L' := [(7, _), (6, _)]) (Sub.cons rfl (Sub.cons rfl Sub.nil)) ?_
  refine W.ret ?_
  exact V.ret2 rfl rfl rfl (I) Fit.m ⟨i3, q4, congrArg (fun b_ => Value.tuple #[I64 ((i3 : Nat) : Int), .bool b_]) (decide_eq_decide.2 ⟨fun h => ⟨by omega, h⟩, fun h => h.2⟩), hi3, rfl⟩
 ·refine D.pass 7 rfl (by kernel_rfl) (by kernel_rfl) (by kernel_rfl) rfl (by kernel_rfl) (fun _ _ _ _ h => h) (Unwanted.off rfl rfl rfl) rfl rfl Fit.sub ?_
  refine D.pass 8 rfl (by kernel_rfl) (by kernel_rfl) (by kernel_rfl) rfl (by kernel_rfl) (fun _ _ _ _ h => h) (Unwanted.off rfl rfl rfl) rfl rfl Fit.sub ?_
  refine D.pass 9 rfl (by kernel_rfl) (by kernel_rfl) (by kernel_rfl) rfl (by kernel_rfl) (fun _ _ _ _ h => h) (Unwanted.off rfl rfl rfl) rfl rfl Fit.sub ?_
  refine D.pass 10 rfl (by kernel_rfl) (by kernel_rfl) (by kernel_rfl) rfl (by kernel_rfl) (fun _ _ _ _ h => h) (Unwanted.off rfl rfl rfl) rfl rfl Fit.sub ?_
  refine D.pass 11 rfl (by kernel_rfl) (by kernel_rfl) (by kernel_rfl) rfl (by kernel_rfl) (fun _ _ _ _ h => h) (Unwanted.off rfl rfl rfl) rfl rfl Fit.sub ?_
  refine D.pass 12 rfl (by kernel_rfl) (by kernel_rfl) (by kernel_rfl) rfl (by kernel_rfl) (fun _ _ _ _ h => h) (Unwanted.off rfl rfl rfl) rfl rfl Fit.sub ?_
  refine D.pass 13 rfl (by kernel_rfl) (by kernel_rfl) (by kernel_rfl) rfl (by kernel_rfl) (fun _ _ _ _ h => h) (Unwanted.off rfl rfl rfl) rfl rfl Fit.sub ?_
  refine D.r 14 rfl (Runs.pickf rfl rfl) ?_ (hJ := Fit.sub)
  refine D.r 15 rfl (Runs.assign rfl) ?_ (hJ := Fit.sub)
  refine D.r 16 rfl (Runs.assign rfl) ?_ (hJ := Fit.sub)
  refine D.done (by kernel_rfl) ?_
  refine V.then ?_
  refine W.sub (L' := [(7, _), (6, _)]) (Sub.cons rfl (Sub.cons rfl Sub.nil)) ?_
  refine W.ret ?_
  exact V.ret2 rfl rfl rfl (I) Fit.m ⟨i3, q4, congrArg (fun b_ => Value.tuple #[I64 ((i3 : Nat) : Int), .bool b_]) (decide_eq_false (fun h => by omega)).symm, hi3, rfl⟩

end Go.Sl
namespace Go.Sl
open Go.Proofs
set_option linter.unusedVariables false
set_option linter.unusedSimpArgs false
set_option maxRecDepth 4000
theorem SameEdges_ok {κ : Ctx} {I : List Item} {va vb : Value} {xs ys : List Pt} (hx : Sl κ I va xs) (hy : Sl κ I vb ys) :
    CallS Tryz.prog κ 65 [va, vb] I (fun r J => r = .bool (decide (xs = ys)) ∧ I = J) := by
 refine CallS.pull hx.le fun hmax => ?_
 refine CallS.pull hy.le fun hmay => ?_
 refine CallS.enter (L := [(0, va), (1, vb)]) Tryz.func65 rfl rfl rfl rfl ?_
 refine W.sr ?_
 refine G.r (Runs.assign rfl) ?_
 refine G.nt ?_
 refine W.seq ?_
 refine W.sr ?_
 refine G.r (Runs.move rfl) ?_
 refine G.r (Runs.lenT (α := Pt) (xs := xs) Tryz.underlying26 rfl (Sl.f hx)) ?_
 refine G.r (Runs.move rfl) ?_
 refine G.r (Runs.lenT (α := Pt) (xs := ys) Tryz.underlying26 rfl (Sl.f hy)) ?_
 refine G.r (Runs.neq rfl rfl) ?_
 refine G.nt ?_
 refine W.ite rfl (fun c10 => ?_) (fun c10 => ?_)
 ·refine W.sr ?_
  refine G.r (Runs.assign rfl) ?_
  refine G.nt ?_
  refine W.ret ?_
  refine V.then_ret ?_
  exact V.ret1 rfl rfl (I) Fit.m ⟨by rw [decide_eq_false (show ¬ xs = ys from fun e => by first | (have e2 := congrArg List.length e; omega) | (have e3 := congrArg (fun l => at_ l ((k : Nat) : Int)) e; exact absurd e3 (by assumption)))], rfl⟩
 ·refine W.skip ?_
  refine V.then ?_
  refine W.seq ?_
  refine W.sr ?_
  refine G.r (Runs.move rfl) ?_
  refine G.r (Runs.lenT (α := Pt) (xs := xs) Tryz.underlying26 rfl (Sl.f hx)) ?_
  refine G.r (Runs.move rfl) ?_
  refine G.nt ?_
  refine W.block ?_
  refine W.loop (σ := Nat) (fun s => ([(0, va), (1, vb), (12, I64 (((xs.length : Nat) : Int))), (13, I64 (((s : Nat) : Int)))] : Env)) (fun s => I) (fun s => (s ≤ xs.length) ∧ (∀ j, j < s → at_ xs (j : Int) = at_ ys (j : Int))) (fun s => xs.length - s) (0) (show ((0 : Nat) ≤ xs.length) ∧ (∀ j, j < (0 : Nat) → at_ xs (j : Int) = at_ ys (j : Int)) from ⟨(by omega), all_zero⟩) (Sub.cons rfl (Sub.cons rfl (Sub.cons rfl (Sub.cons lookO Sub.nil)))) (show Fit κ _ (I) from Fit.sub) ?_
  rintro k hp
  obtain ⟨hk, hn⟩ : (k ≤ xs.length) ∧ (∀ j, j < k → at_ xs (j : Int) = at_ ys (j : Int)) := hp
  show W Tryz.prog κ 26 _ _ ([(0, va), (1, vb), (12, I64 (((xs.length : Nat) : Int))), (13, I64 (((k : Nat) : Int)))] : Env) (I)
  refine W.sr ?_
  refine G.r (Runs.lss rfl rfl) ?_
  refine G.nt ?_
  refine W.seq ?_
  refine W.ite rfl (fun c14 => ?_) (fun c14 => ?_)
  ·refine W.skip ?_
   refine V.then ?_
   refine W.seq ?_
   refine W.block ?_
   refine W.sr ?_
   refine G.r (Runs.move rfl) ?_
   refine G.r (Runs.assign rfl) ?_
   refine G.nt ?_
   refine W.seq ?_
   refine W.drawn mixed ?_
   refine A.hold (I) 9 ?_
   refine D.r 0 rfl (Runs.move rfl) ?_
   refine D.r 1 rfl (Runs.move rfl) ?_
   refine D.r 2 rfl (Runs.idx (α := Pt) (xs := xs) Tryz.underlying26 ty52 rfl rfl (Sl.f hx) (by omega) (by omega)) ?_
   refine D.r 3 rfl (Runs.gets (α := Pt) (xs := xs) ty52 rfl (Sl.f hx) (by omega) (by omega)) ?_
   refine D.r 4 rfl (Runs.move rfl) ?_
   refine D.r 5 rfl (Runs.move rfl) ?_
   refine D.r 6 rfl (Runs.idx (α := Pt) (xs := ys) Tryz.underlying26 ty52 rfl rfl (Sl.f hy) (by omega) (by omega)) ?_
   refine D.r 7 rfl (Runs.gets (α := Pt) (xs := ys) ty52 rfl (Sl.f hy) (by omega) (by omega)) ?_
   refine D.r 8 rfl (Runs.neqT (α := Pt) (a := (at_ xs ((k : Nat) : Int))) (b := (at_ ys ((k : Nat) : Int))) eqt52 rfl rfl) ?_
   refine D.done (by kernel_rfl) ?_
   refine V.then ?_
   refine W.sub (L' := [(24, _), (0, _), (1, _), (12, _), (13, _)]) (Sub.cons rfl (Sub.cons rfl (Sub.cons rfl (Sub.cons rfl (Sub.cons rfl Sub.nil))))) ?_
   refine W.ite rfl (fun c24 => ?_) (fun c24 => ?_)
   ·refine W.sr ?_
    refine G.r (Runs.assign rfl) ?_
    refine G.nt ?_
    refine W.ret ?_
    refine V.block_ret ?_
    refine V.then_ret ?_
    refine V.then_ret ?_
    refine V.block_ret ?_
    refine V.then_ret ?_
    exact V.ret1 rfl rfl (I) Fit.m ⟨by rw [decide_eq_false (show ¬ xs = ys from fun e => by first | (have e2 := congrArg List.length e; omega) | (have e3 := congrArg (fun l => at_ l ((k : Nat) : Int)) e; exact absurd e3 (by assumption)))], rfl⟩
   ·refine W.skip ?_
    refine V.block_normal ?_
    refine V.then ?_
    refine W.region ?_
    refine G.r (Runs.add rfl rfl (by unfold InR; omega)) ?_
    refine G.r (Runs.move rfl) ?_
    refine G.nil ?_
    exact V.next ((k + 1)) (show ((k + 1 : Nat) ≤ xs.length) ∧ (∀ j, j < (k + 1 : Nat) → at_ xs (j : Int) = at_ ys (j : Int)) from ⟨(by omega), (all_succ hn (Classical.not_not.1 c24))⟩) (show xs.length - (k + 1 : Nat) < xs.length - k from (by omega)) (Sub.cons rfl (Sub.cons rfl (Sub.cons rfl (Sub.cons lookO Sub.nil)))) (show Fit κ _ (I) from Fit.sub)
  ·refine W.exit ?_
   refine V.then_exit ?_
   refine V.then_exit ?_
   refine V.block_hit ?_
   refine V.then ?_
   refine W.sr ?_
   refine G.r (Runs.assign rfl) ?_
   refine G.nt ?_
   refine W.ret ?_
   exact V.ret1 rfl rfl (I) Fit.m ⟨by rw [decide_eq_true (show xs = ys from ext_at (by omega) (fun j hj => hn j (by omega)))], rfl⟩

theorem Same03_ok {κ : Ctx} {I : List Item} {n m : Int} {va vb : Value} {xs ys : List Pt} (hx : Sl κ I va xs) (hy : Sl κ I vb ys) :
    CallS Tryz.prog κ 26 [.agg #[I64 (n), va], .agg #[I64 (m), vb]] I (fun r J => r = .bool (decide (n = m ∧ xs = ys)) ∧ I = J) := by
 refine CallS.enter (L := [(0, .agg #[I64 (n), va]), (1, .agg #[I64 (m), vb])]) Tryz.func26 rfl rfl rfl rfl ?_
 refine W.sr ?_
 refine G.e (Eff.box (cs := [_, _]) rfl rfl rfl) ?_
 rintro _ _ ⟨b1, rfl, rfl⟩
 refine G.e (Eff.box (cs := [_, _]) rfl rfl rfl) ?_
 rintro _ _ ⟨b2, rfl, rfl⟩
 refine G.r (Runs.assign rfl) ?_
 refine G.nt ?_
 refine W.sr ?_
 refine G.r (Runs.fieldAddr fld28_0 rfl) ?_
 refine G.r (Runs.ld ty3) ?_
 refine G.r (Runs.fieldAddr fld28_0 rfl) ?_
 refine G.r (Runs.ld ty3) ?_
 refine G.r (Runs.eql rfl rfl) ?_
 refine G.r (Runs.move rfl) ?_
 refine G.split (d := 10) rfl (fun g10 => ?_) (fun g10 => ?_)
 ·refine G.ro (Runs.fieldAddr fld28_1 rfl) ?_
  refine G.ro (Runs.ld ty26) ?_
  refine G.ro (Runs.fieldAddr fld28_1 rfl) ?_
  refine G.ro (Runs.ld ty26) ?_
  refine G.eff (Wanted.on rfl rfl rfl) (Eff.call call65 rfl rfl (SameEdges_ok (Sl.f hx) (Sl.f hy))) ?_
  rintro _ _ ⟨_, _, ⟨rfl, rfl⟩, rfl, rfl⟩
  refine G.r (Runs.pickt rfl rfl) ?_
  refine G.r (Runs.assign rfl) ?_
  refine G.nt ?_
  refine W.sub (L' := [(4, _)]) (Sub.cons rfl Sub.nil) ?_
  refine W.ret ?_
  exact V.ret1 rfl rfl (I) Fit.m ⟨congrArg Value.bool (decide_eq_decide.2 ⟨fun h => ⟨by assumption, h⟩, fun h => h.2⟩), rfl⟩
 ·refine G.po ?_
  refine G.po ?_
  refine G.po ?_
  refine G.po ?_
  refine G.po ?_
  refine G.r (Runs.pickf rfl rfl) ?_
  refine G.r (Runs.assign rfl) ?_
  refine G.nt ?_
  refine W.sub (L' := [(4, _)]) (Sub.cons rfl Sub.nil) ?_
  refine W.ret ?_
  exact V.ret1 rfl rfl (I) Fit.m ⟨congrArg Value.bool (decide_eq_false (fun h => by have := h.1; omega)).symm, rfl⟩

end Go.Sl
