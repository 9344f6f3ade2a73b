/- A part of the proofs of statements of this seat: contracts of functions, and the plain laws that they lean on. No conditions. -/
import Derived.Test.YtbimaodbcjjbfaaDoorGraphH5
import Derived.Test.YtbimaodbcjjbfaaDoorSets
namespace Go.Sl
open Go.Proofs
set_option linter.unusedVariables false
set_option linter.unusedSimpArgs false
set_option maxRecDepth 4000
def meetL (xs ys : List Int) : List Int := (ofL xs).filter fun x => decide (x ∈ ys)
theorem mem_meetL {xs ys : List Int} {x : Int} : x ∈ meetL xs ys ↔ x ∈ xs ∧ x ∈ ys := by simp [meetL, mem_ofL]
def rangeI (n : Int) : List Int := (List.range (min n 64).toNat).map fun j : Nat => (j : Int)
theorem mem_rangeI {n x : Int} : x ∈ rangeI n ↔ 0 ≤ x ∧ x < n ∧ x < 64 := by
  unfold rangeI
  rw [List.mem_map]
  constructor
  · rintro ⟨j, hj, rfl⟩; rw [List.mem_range] at hj; omega
  · rintro ⟨h1, h2, h3⟩; exact ⟨x.toNat, by rw [List.mem_range]; omega, by omega⟩
theorem Meet_ok {κ : Ctx} {I : List Item} {u v : Value} {xs ys : List Int} (hu : Sl κ I u xs) (hv : Sl κ I v ys) (hb : xs.length < 17592186044415) :
    CallS Tryd.prog κ 25 [u, v] I (fun r J => ∃ a c, r = .slice a (meetL xs ys).length c ∧ J = vc 3 (.slice a (meetL xs ys).length c) (meetL xs ys) :: I) := by
 have hol := ofL_len xs
 refine CallS.enter (L := [(0, u), (1, v)]) Tryd.func25 rfl rfl rfl rfl ?_
 refine W.sr ?_
 refine G.r (Runs.assign rfl) ?_
 refine G.nt ?_
 refine W.sr ?_
 refine G.r (Runs.assign rfl) ?_
 refine G.nt ?_
 refine W.seq ?_
 refine W.sr ?_
 refine G.r (Runs.move rfl) ?_
 refine G.e (Eff.call call18 rfl rfl (Of_ok (Sl.f hu) (by omega))) ?_
 rintro _ _ ⟨_, _, ⟨ad1, cp2, rfl, rfl⟩, rfl, rfl⟩
 refine G.r (Runs.lens Tryd.underlying22 rfl) ?_
 refine G.r (Runs.move rfl) ?_
 refine G.nt ?_
 refine W.block ?_
 refine W.loop (σ := Nat × (Option Addr) × Nat × (List Int)) (fun s => ([(1, v), (5, .slice s.2.1 s.2.2.2.length s.2.2.1), (9, .slice ad1 (ofL xs).length cp2), (10, I64 ((((ofL xs).length : Nat) : Int))), (11, I64 (((s.1 : Nat) : Int)))] : Env)) (fun s => vc 3 (.slice s.2.1 s.2.2.2.length s.2.2.1) (s.2.2.2) :: vc 3 (.slice ad1 (ofL xs).length cp2) (ofL xs) :: I) (fun s => (s.1 ≤ (ofL xs).length) ∧ (s.2.2.2 = ((ofL xs).take s.1).filter (fun x => decide (x ∈ ys)))) (fun s => (ofL xs).length - s.1) (0, none, 0, []) (show ((0 : Nat) ≤ (ofL xs).length) ∧ (([] : List Int) = ((ofL xs).take (0 : Nat)).filter (fun x => decide (x ∈ ys))) from ⟨(by omega), rfl⟩) (Sub.cons rfl (Sub.cons (lookV rfl (by first | rfl | simp)) (Sub.cons rfl (Sub.cons rfl (Sub.cons lookO Sub.nil))))) (show Fit κ _ (vc 3 (.slice (none) ([]).length (0)) (([])) :: vc 3 (.slice ad1 (ofL xs).length cp2) (ofL xs) :: I) from (Fit.nilvc _ _)) ?_
 rintro ⟨k, a, c, out⟩ hp
 obtain ⟨hk, ho⟩ : (k ≤ (ofL xs).length) ∧ (out = ((ofL xs).take k).filter (fun x => decide (x ∈ ys))) := hp
 show W Tryd.prog κ 24 _ _ ([(1, v), (5, .slice a out.length c), (9, .slice ad1 (ofL xs).length cp2), (10, I64 ((((ofL xs).length : Nat) : Int))), (11, I64 (((k : Nat) : Int)))] : Env) (vc 3 (.slice a out.length c) (out) :: vc 3 (.slice ad1 (ofL xs).length cp2) (ofL xs) :: I)
 refine W.sr ?_
 refine G.r (Runs.lss rfl rfl) ?_
 refine G.nt ?_
 refine W.seq ?_
 refine W.ite rfl (fun c12 => ?_) (fun c12 => ?_)
 ·refine W.skip ?_
  refine V.then ?_
  refine W.seq ?_
  refine W.block ?_
  refine W.sr ?_
  refine G.r (Runs.idx (α := Int) (xs := ofL xs) Tryd.underlying22 ty3 rfl rfl Sl.o (by omega) (by omega)) ?_
  refine G.r (Runs.get (xs := ofL xs) ty3 rfl Sl.o (by omega) (by omega)) ?_
  refine G.r (Runs.assign rfl) ?_
  refine G.nt ?_
  refine W.sr ?_
  refine G.r (Runs.move rfl) ?_
  refine G.r (Runs.move rfl) ?_
  refine G.e (Eff.call call19 rfl rfl (RHas_ok (Sl.f hv) (at_ (ofL xs) ((k : Nat) : Int)))) ?_
  rintro _ _ ⟨_, _, ⟨rfl, rfl⟩, rfl, rfl⟩
  refine G.nt ?_
  refine W.ite rfl (fun c17 => ?_) (fun c17 => ?_)
  ·refine W.region ?_
   refine G.r (Runs.move rfl) ?_
   refine G.r (Runs.move rfl) ?_
   refine G.e (Eff.bs (α := Int) (cs := [_]) (xs := [at_ (ofL xs) ((k : Nat) : Int)]) Tryd.underlying22 ty3 rfl rfl (by decide) (by decide) rfl rfl rfl rfl) ?_
   rintro _ _ ⟨ad3, rfl, rfl⟩
   refine G.e (Eff.app (α := Int) (e := 3) (xs := out) (ys := ([at_ (ofL xs) ((k : Nat) : Int)] : List Int)) Tryd.underlying22 ty3 rfl rfl rfl (by repeat (first | exact List.mem_cons_self | apply List.mem_cons_of_mem)) Sl.o (by have := ofL_len xs; simp only [List.length_cons, List.length_nil]; rw [ho]; have := filter_take_len (ofL xs) (fun x => decide (x ∈ ys)) k; omega) (by decide) rfl (fun _ _ => (by repeat (first | exact At.head _ _ _ | apply At.tail)))) ?_
   rintro _ _ ⟨ad4, cp5, rfl, rfl⟩
   refine G.r (Runs.assign rfl) ?_
   refine G.nil ?_
   refine V.block_normal ?_
   refine V.then ?_
   refine W.sub (L' := [(5, _), (1, _), (9, _), (10, _), (11, _)]) (Sub.cons rfl (Sub.cons rfl (Sub.cons rfl (Sub.cons rfl (Sub.cons rfl Sub.nil))))) ?_
   refine W.region ?_
   refine G.r (Runs.add rfl rfl (by unfold InR; omega)) ?_
   refine G.r (Runs.move rfl) ?_
   refine G.nil ?_
   exact V.next ((k + 1), (ad4), (cp5), (out ++ ([at_ (ofL xs) ((k : Nat) : Int)] : List Int))) (show ((k + 1 : Nat) ≤ (ofL xs).length) ∧ ((out ++ ([at_ (ofL xs) ((k : Nat) : Int)] : List Int) : List Int) = ((ofL xs).take (k + 1 : Nat)).filter (fun x => decide (x ∈ ys))) from ⟨(by omega), (by first | rw [filter_take_yes _ _ k (by omega) (decide_eq_true c17), ← ho] | rw [filter_take_no _ _ k (by omega) (decide_eq_false c17), ← ho])⟩) (show (ofL xs).length - (k + 1 : Nat) < (ofL xs).length - k from (by omega)) (Sub.cons rfl (Sub.cons (lookV rfl (by first | rfl | simp)) (Sub.cons rfl (Sub.cons rfl (Sub.cons lookO Sub.nil))))) (show Fit κ _ (vc 3 (.slice (ad4) (out ++ ([at_ (ofL xs) ((k : Nat) : Int)] : List Int)).length (cp5)) ((out ++ ([at_ (ofL xs) ((k : Nat) : Int)] : List Int))) :: vc 3 (.slice ad1 (ofL xs).length cp2) (ofL xs) :: I) from Fit.sub)
  ·refine W.skip ?_
   refine V.block_normal ?_
   refine V.then ?_
   refine W.region ?_
   refine G.r (Runs.add rfl rfl (by unfold InR; omega)) ?_
   refine G.r (Runs.move rfl) ?_
   refine G.nil ?_
   exact V.next ((k + 1), (a), (c), (out)) (show ((k + 1 : Nat) ≤ (ofL xs).length) ∧ ((out : List Int) = ((ofL xs).take (k + 1 : Nat)).filter (fun x => decide (x ∈ ys))) from ⟨(by omega), (by first | rw [filter_take_yes _ _ k (by omega) (decide_eq_true c17), ← ho] | rw [filter_take_no _ _ k (by omega) (decide_eq_false c17), ← ho])⟩) (show (ofL xs).length - (k + 1 : Nat) < (ofL xs).length - k from (by omega)) (Sub.cons rfl (Sub.cons (lookV rfl (by first | rfl | simp)) (Sub.cons rfl (Sub.cons rfl (Sub.cons lookO Sub.nil))))) (show Fit κ _ (vc 3 (.slice (a) (out).length (c)) ((out)) :: vc 3 (.slice ad1 (ofL xs).length cp2) (ofL xs) :: I) from Fit.sub)
 ·refine W.exit ?_
  refine V.then_exit ?_
  refine V.then_exit ?_
  refine V.block_hit ?_
  refine V.then ?_
  refine W.sr ?_
  refine G.r (Runs.move rfl) ?_
  refine G.r (Runs.assign rfl) ?_
  refine G.nt ?_
  refine W.ret ?_
  have hk2 : (ofL xs).take k = ofL xs := List.take_of_length_le (by omega)
  rw [hk2] at ho
  have ho2 : out = meetL xs ys := ho
  subst ho2
  exact V.ret1 rfl rfl (vc 3 (.slice a (meetL xs ys).length c) (meetL xs ys) :: I) Fit.sub ⟨a, c, rfl, rfl⟩

theorem Range_ok {κ : Ctx} {I : List Item} (n : Int) :
    CallS Tryd.prog κ 29 [I64 (n)] I (fun r J => ∃ a c, r = .slice a (rangeI n).length c ∧ J = vc 3 (.slice a (rangeI n).length c) (rangeI n) :: I) := by
 refine CallS.enter (L := [(0, I64 (n))]) Tryd.func29 rfl rfl rfl rfl ?_
 refine W.sr ?_
 refine G.r (Runs.assign rfl) ?_
 refine G.nt ?_
 refine W.sr ?_
 refine G.r (Runs.assign rfl) ?_
 refine G.nt ?_
 refine W.seq ?_
 refine W.sr ?_
 refine G.r (Runs.assign rfl) ?_
 refine G.nt ?_
 refine W.block ?_
 refine W.loop (σ := Nat × (Option Addr) × Nat × (List Int)) (fun s => ([(0, I64 (n)), (3, .slice s.2.1 s.2.2.2.length s.2.2.1), (4, I64 (((s.1 : Nat) : Int)))] : Env)) (fun s => vc 3 (.slice s.2.1 s.2.2.2.length s.2.2.1) (s.2.2.2) :: I) (fun s => (s.1 ≤ (min n 64).toNat) ∧ (s.2.2.2 = (List.range s.1).map fun j : Nat => (j : Int))) (fun s => (min n 64).toNat - s.1) (0, none, 0, []) (show ((0 : Nat) ≤ (min n 64).toNat) ∧ (([] : List Int) = (List.range (0 : Nat)).map fun j : Nat => (j : Int)) from ⟨(by omega), rfl⟩) (Sub.cons rfl (Sub.cons (lookV rfl (by first | rfl | simp)) (Sub.cons lookO Sub.nil))) (show Fit κ _ (vc 3 (.slice (none) ([]).length (0)) (([])) :: I) from (Fit.nilvc _ _)) ?_
 rintro ⟨k, a, c, out⟩ hp
 obtain ⟨hk, ho⟩ : (k ≤ (min n 64).toNat) ∧ (out = (List.range k).map fun j : Nat => (j : Int)) := hp
 show W Tryd.prog κ 19 _ _ ([(0, I64 (n)), (3, .slice a out.length c), (4, I64 (((k : Nat) : Int)))] : Env) (vc 3 (.slice a out.length c) (out) :: I)
 have hol : out.length = k := by rw [ho]; simp
 refine W.seq ?_
 refine W.sr ?_
 refine G.r (Runs.move rfl) ?_
 refine G.r (Runs.move rfl) ?_
 refine G.r (Runs.lss rfl rfl) ?_
 refine G.r (Runs.move rfl) ?_
 refine G.split (d := 8) rfl (fun g8 => ?_) (fun g8 => ?_)
 ·refine G.ro (Runs.move rfl) ?_
  refine G.ro (Runs.lss rfl rfl) ?_
  refine G.r (Runs.pickt rfl rfl) ?_
  refine G.nt ?_
  refine W.ite rfl (fun c11 => ?_) (fun c11 => ?_)
  ·refine W.skip ?_
   refine V.then ?_
   refine W.seq ?_
   refine W.block ?_
   refine W.region ?_
   refine G.r (Runs.move rfl) ?_
   refine G.r (Runs.move rfl) ?_
   refine G.e (Eff.bs (α := Int) (cs := [_]) (xs := [((k : Nat) : Int)]) Tryd.underlying22 ty3 rfl rfl (by decide) (by decide) rfl rfl rfl rfl) ?_
   rintro _ _ ⟨ad1, rfl, rfl⟩
   refine G.e (Eff.app (α := Int) (e := 3) (xs := out) (ys := ([((k : Nat) : Int)] : List Int)) Tryd.underlying22 ty3 rfl rfl rfl (by repeat (first | exact List.mem_cons_self | apply List.mem_cons_of_mem)) Sl.o (by simp only [List.length_cons, List.length_nil]; omega) (by decide) rfl (fun _ _ => (by repeat (first | exact At.head _ _ _ | apply At.tail)))) ?_
   rintro _ _ ⟨ad2, cp3, rfl, rfl⟩
   refine G.r (Runs.assign rfl) ?_
   refine G.nil ?_
   refine V.block_normal ?_
   refine V.then ?_
   refine W.sub (L' := [(3, _), (0, _), (4, _)]) (Sub.cons rfl (Sub.cons rfl (Sub.cons rfl Sub.nil))) ?_
   refine W.region ?_
   refine G.r (Runs.move rfl) ?_
   refine G.r (Runs.add rfl rfl (by unfold InR; omega)) ?_
   refine G.r (Runs.assign rfl) ?_
   refine G.nil ?_
   exact V.next ((k + 1), (ad2), (cp3), (out ++ ([((k : Nat) : Int)] : List Int))) (show ((k + 1 : Nat) ≤ (min n 64).toNat) ∧ ((out ++ ([((k : Nat) : Int)] : List Int) : List Int) = (List.range (k + 1 : Nat)).map fun j : Nat => (j : Int)) from ⟨(by omega), (by rw [List.range_succ, List.map_append, ← ho]; rfl)⟩) (show (min n 64).toNat - (k + 1 : Nat) < (min n 64).toNat - k from (by omega)) (Sub.cons rfl (Sub.cons (lookV rfl (by first | rfl | simp)) (Sub.cons lookO Sub.nil))) (show Fit κ _ (vc 3 (.slice (ad2) (out ++ ([((k : Nat) : Int)] : List Int)).length (cp3)) ((out ++ ([((k : Nat) : Int)] : List Int))) :: I) from Fit.sub)
  ·refine W.exit ?_
   refine V.then_exit ?_
   refine V.then_exit ?_
   refine V.block_hit ?_
   refine V.then ?_
   refine W.sr ?_
   refine G.r (Runs.move rfl) ?_
   refine G.r (Runs.assign rfl) ?_
   refine G.nt ?_
   refine W.ret ?_
   have ho2 : out = rangeI n := by rw [ho]; unfold rangeI; congr 2; omega
   subst ho2
   exact V.ret1 rfl rfl (vc 3 (.slice a (rangeI n).length c) (rangeI n) :: I) Fit.sub ⟨a, c, rfl, rfl⟩
 ·refine G.po ?_
  refine G.po ?_
  refine G.r (Runs.pickf rfl rfl) ?_
  refine G.nt ?_
  refine W.no rfl ?_
  refine W.exit ?_
  refine V.then_exit ?_
  refine V.then_exit ?_
  refine V.block_hit ?_
  refine V.then ?_
  refine W.sr ?_
  refine G.r (Runs.move rfl) ?_
  refine G.r (Runs.assign rfl) ?_
  refine G.nt ?_
  refine W.ret ?_
  have ho2 : out = rangeI n := by rw [ho]; unfold rangeI; congr 2; omega
  subst ho2
  exact V.ret1 rfl rfl (vc 3 (.slice a (rangeI n).length c) (rangeI n) :: I) Fit.sub ⟨a, c, rfl, rfl⟩

end Go.Sl
