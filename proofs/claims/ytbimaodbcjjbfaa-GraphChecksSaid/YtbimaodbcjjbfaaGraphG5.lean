/- A part of the proofs of statements of this seat: contracts of functions, and the plain laws that they lean on. No conditions. -/
import Derived.Test.YtbimaodbcjjbfaaRunsT
import Derived.Test.YtbimaodbcjjbfaaRunsD5
import Derived.Test.YtbimaodbcjjbfaaRunsY
import Derived.Test.YtbimaodbcjjbfaaRunsW
namespace Go.Sl
open Go.Proofs
set_option linter.unusedVariables false
set_option linter.unusedSimpArgs false
set_option maxRecDepth 4000
theorem CloneE {κ : Ctx} {I : List Item} {a : Option Addr} {c : Nat} {xs : List Pt} (hl : Sl κ I (.slice a xs.length c) xs) (hb : xs.length ≤ 1000000000) :
    CallS Try.prog κ 152 [.slice a xs.length c] I (fun r J => ∃ a' c', r = .slice a' xs.length c' ∧ J = vc 150 (.slice a' xs.length c') xs :: I) := by
 refine CallS.pull (p := a.isNone = true → xs = [] ∧ c = 0) (fun w hs hn => hl.isNone w hs hn) fun hnone => ?_
 refine CallS.enter (L := [(0, .slice a xs.length c)]) Try.func152 rfl rfl rfl rfl ?_
 refine W.sr ?_
 refine G.r (Runs.assign rfl) ?_
 refine G.nt ?_
 refine W.seq ?_
 refine W.sr ?_
 refine G.r (Runs.move rfl) ?_
 refine G.r (Runs.eqnil Try.underlying97 rfl rfl) ?_
 refine G.nt ?_
 refine W.cond rfl (fun c4 => ?_) (fun c4 => ?_)
 ·refine W.sr ?_
  refine G.r (Runs.assign rfl) ?_
  refine G.nt ?_
  refine W.ret ?_
  refine V.then_ret ?_
  obtain ⟨hx0, _⟩ := hnone c4
  subst hx0
  exact V.ret1 rfl rfl (vc 150 (.slice none ([] : List Pt).length 0) ([] : List Pt) :: I) (Fit.nilvc _ _) ⟨none, 0, rfl, rfl⟩
 ·refine W.skip ?_
  refine V.then ?_
  refine W.sr ?_
  refine G.e (Eff.bs0 (α := Pt) Try.underlying97 ty150 rfl) ?_
  rintro _ _ ⟨ad1, rfl, rfl⟩
  refine G.r (Runs.move rfl) ?_
  refine G.e (Eff.app (α := Pt) (e := 150) (xs := ([] : List Pt)) (ys := xs) Try.underlying97 ty150 rfl rfl rfl (by repeat (first | exact List.mem_cons_self | apply List.mem_cons_of_mem)) (Sl.f hl) (by simp only [List.length_nil]; omega) (by decide) rfl (fun _ _ => (by repeat (first | exact At.head _ _ _ | apply At.tail)))) ?_
  rintro _ _ ⟨ad2, cp3, rfl, rfl⟩
  refine G.r (Runs.assign rfl) ?_
  refine G.nt ?_
  refine W.ret ?_
  exact V.ret1 rfl rfl (vc 150 (.slice ad2 xs.length cp3) xs :: I) Fit.sub ⟨ad2, cp3, rfl, rfl⟩

theorem ov203 : ∀ args w, (callFunc 203 args).run Try.prog w = ((Extern.SlicesOverlaps.overlaps #[97, 97] #[4] args).run Try.prog w).andThen fun v w' => .ok (.value v) w' := fun args w => run_callFunc_extern (e := Extern.SlicesOverlaps.overlaps #[97, 97] #[4]) Try.func203 (by kernel_rfl) (by kernel_rfl) (by kernel_rfl) (by kernel_rfl) args w

set_option maxHeartbeats 8000000 in
theorem InsertE_ok {κ : Ctx} {I : List Item} {a va : Option Addr} {c vcp i : Nat} {xs ys : List Pt} (hi : i ≤ xs.length) (hy : 0 < ys.length) (hsz : xs.length + ys.length ≤ 1000000000) :
    CallS Try.prog κ 151 [.slice a xs.length c, I64 (((i : Nat) : Int)), .slice va ys.length vcp] (vc 150 (.slice a xs.length c) (xs) :: vc 150 (.slice va ys.length vcp) (ys) :: I) (fun r J => ∃ a' c', r = .slice a' (List.take i xs ++ ys ++ List.drop i xs).length c' ∧ J = vc 150 (.slice a' (List.take i xs ++ ys ++ List.drop i xs).length c') (List.take i xs ++ ys ++ List.drop i xs) :: I) := by
 refine CallS.pull (vc.cap List.mem_cons_self) fun hcap => ?_
 have hRl : (List.take i xs ++ ys ++ List.drop i xs).length = xs.length + ys.length := by simp only [List.length_append, List.length_take, List.length_drop]; omega
 refine CallS.enter (L := [(0, .slice a xs.length c), (1, I64 (((i : Nat) : Int))), (2, .slice va ys.length vcp)]) Try.func151 rfl rfl rfl rfl ?_
 refine W.sr ?_
 refine G.r (Runs.assign rfl) ?_
 refine G.nt ?_
 refine W.sr ?_
 refine G.r (Runs.move rfl) ?_
 refine G.r (Runs.move rfl) ?_
 refine G.r (Runs.lo (α := Pt) (xs := xs) (l := i) Try.underlying97 ty150 rfl rfl (by omega) Sl.o (by first | omega | (simp only [List.length_append, List.length_take, List.length_drop, List.length_replicate] <;> omega))) ?_
 refine G.nt ?_
 refine W.sr ?_
 refine G.r (Runs.move rfl) ?_
 refine G.r (Runs.lens Try.underlying97 rfl) ?_
 refine G.r (Runs.assign rfl) ?_
 refine G.nt ?_
 refine W.seq ?_
 refine W.sr ?_
 refine G.r (Runs.move rfl) ?_
 refine G.r (Runs.eql rfl rfl) ?_
 refine G.nt ?_
 refine W.ite rfl (fun c16 => ?_) (fun c16 => ?_)
 ·exact absurd c16 (by omega)
 ·refine W.skip ?_
  refine V.then ?_
  refine W.sr ?_
  refine G.r (Runs.move rfl) ?_
  refine G.r (Runs.lens Try.underlying97 rfl) ?_
  refine G.r (Runs.assign rfl) ?_
  refine G.nt ?_
  refine W.sub (L' := [(8, _), (7, _), (0, _), (1, _), (2, _)]) (Sub.cons rfl (Sub.cons rfl (Sub.cons rfl (Sub.cons rfl (Sub.cons rfl Sub.nil))))) ?_
  refine W.seq ?_
  refine W.sr ?_
  refine G.r (Runs.move rfl) ?_
  refine G.r (Runs.move rfl) ?_
  refine G.r (Runs.eql rfl rfl) ?_
  refine G.nt ?_
  refine W.ite rfl (fun c22 => ?_) (fun c22 => ?_)
  ·refine W.sr ?_
   refine G.r (Runs.move rfl) ?_
   refine G.r (Runs.move rfl) ?_
   refine G.e (Eff.app (α := Pt) (e := 150) (xs := xs) (ys := ys) Try.underlying97 ty150 rfl rfl rfl (by repeat (first | exact List.mem_cons_self | apply List.mem_cons_of_mem)) Sl.o (by omega) (by decide) rfl (fun _ _ => (by repeat (first | exact At.head _ _ _ | apply At.tail)))) ?_
   rintro _ _ ⟨ad1, cp2, rfl, rfl⟩
   refine G.r (Runs.assign rfl) ?_
   refine G.nt ?_
   refine W.ret ?_
   refine V.then_ret ?_
   have hR : List.take i xs ++ ys ++ List.drop i xs = xs ++ ys := by rw [List.take_of_length_le (by omega), List.drop_eq_nil_of_le (by omega), List.append_nil]
   exact V.ret1 rfl rfl (vc 150 (.slice ad1 (List.take i xs ++ ys ++ List.drop i xs).length cp2) (List.take i xs ++ ys ++ List.drop i xs) :: I) (by rw [hR]; exact Fit.s) ⟨ad1, cp2, by rw [hR], rfl⟩
  ·refine W.skip ?_
   refine V.then ?_
   refine W.seq ?_
   refine W.sr ?_
   refine G.r (Runs.move rfl) ?_
   refine G.r (Runs.move rfl) ?_
   refine G.r (Runs.add rfl rfl (by unfold InR; omega)) ?_
   refine G.r (Runs.move rfl) ?_
   refine G.r (Runs.caps Try.underlying97 rfl) ?_
   refine G.r (Runs.gtr rfl rfl) ?_
   refine G.nt ?_
   refine W.sub (L' := [(31, _), (8, _), (7, _), (0, _), (1, _), (2, _)]) (Sub.cons rfl (Sub.cons rfl (Sub.cons rfl (Sub.cons rfl (Sub.cons rfl (Sub.cons rfl Sub.nil)))))) ?_
   refine W.ite rfl (fun c31 => ?_) (fun c31 => ?_)
   ·refine W.sr ?_
    refine G.r (Runs.move rfl) ?_
    refine G.r (Runs.move rfl) ?_
    refine G.r (Runs.hiraw (h := i) Try.underlying97 ty150 rfl rfl (by omega) (by omega)) ?_
    refine G.r (Runs.move rfl) ?_
    refine G.r (Runs.move rfl) ?_
    refine G.r (Runs.add rfl rfl (by unfold InR; omega)) ?_
    refine G.r (Runs.move rfl) ?_
    refine G.r (Runs.sub rfl rfl (by unfold InR; omega)) ?_
    refine G.e (Eff.grow (α := Pt) (xs := xs) (k := xs.length + ys.length - i) Try.underlying97 Try.underlying3 ty150 rfl rfl rfl (by omega) Sl.o (by omega) (by omega) (by omega) (by omega) (by decide) rfl) ?_
    rintro _ _ ⟨ad3, cp4, rfl, rfl⟩
    refine G.r (Runs.assign rfl) ?_
    refine G.pull (p := (List.take i xs ++ List.replicate (xs.length + ys.length - i) (default : Pt)).length ≤ cp4) (vc.cap (by repeat (first | exact List.mem_cons_self | apply List.mem_cons_of_mem))) fun hcap2 => ?_
    have hZl : (List.take i xs ++ List.replicate (xs.length + ys.length - i) (default : Pt)).length = xs.length + ys.length := by simp only [List.length_append, List.length_take, List.length_replicate]; omega
    refine G.nt ?_
    refine W.sub (L' := [(9, _), (7, _), (0, _), (1, _), (2, _)]) (Sub.cons rfl (Sub.cons rfl (Sub.cons rfl (Sub.cons rfl (Sub.cons rfl Sub.nil))))) ?_
    refine W.sr ?_
    refine G.r (Runs.move rfl) ?_
    refine G.r (Runs.move rfl) ?_
    refine G.r (Runs.lo (α := Pt) (xs := List.take i xs ++ List.replicate (xs.length + ys.length - i) (default : Pt)) (l := i) Try.underlying97 ty150 rfl rfl (by omega) Sl.o (by first | omega | (simp only [List.length_append, List.length_take, List.length_drop, List.length_replicate] <;> omega))) ?_
    refine G.r (Runs.move rfl) ?_
    refine G.e (Eff.copyT (α := Pt) (k := i) (q := ys.length) (R := List.take i xs ++ ys ++ List.replicate (xs.length - i) (default : Pt)) (n := (i + (xs.length + ys.length - i))) Try.underlying97 ty150 rfl (by first | omega | (simp only [List.length_append, List.length_take, List.length_drop, List.length_replicate] <;> omega)) rfl Sl.o (by first | omega | (simp only [List.length_append, List.length_take, List.length_drop, List.length_replicate] <;> omega)) (by first | omega | (simp only [List.length_append, List.length_take, List.length_drop, List.length_replicate] <;> omega)) rfl (ins1 hi) (by first | omega | (simp only [List.length_append, List.length_take, List.length_drop, List.length_replicate] <;> omega)) (by repeat (first | exact At.head _ _ _ | apply At.tail))) ?_
    rintro _ _ ⟨rfl, rfl⟩
    refine G.nt ?_
    refine W.seq ?_
    refine W.drawn mixed ?_
    refine A.hold (I) 9 ?_
    refine D.r 0 rfl (Runs.move rfl) ?_ (hJ := Fit.sub)
    refine D.r 1 rfl (Runs.move rfl) ?_ (hJ := Fit.sub)
    refine D.r 2 rfl (Runs.move rfl) ?_ (hJ := Fit.sub)
    refine D.r 3 rfl (Runs.add rfl rfl (by unfold InR; omega)) ?_ (hJ := Fit.sub)
    refine D.r 4 rfl (Runs.loraw (l := (i + ys.length)) Try.underlying97 ty150 rfl rfl (by omega) (by omega) (by omega)) ?_ (hJ := Fit.sub)
    refine D.r 5 rfl (Runs.move rfl) ?_ (hJ := Fit.sub)
    refine D.r 6 rfl (Runs.move rfl) ?_ (hJ := Fit.sub)
    refine D.r 7 rfl (Runs.loraw (l := i) Try.underlying97 ty150 rfl rfl (by omega) (by omega) (by omega)) ?_ (hJ := Fit.sub)
    refine D.step (rs := [8]) (by kernel_rfl) rfl rfl (all1 ?_)
    refine Step.eff rfl (Wanted.plain rfl) (Eff.copyT (α := Pt) (k := (i + ys.length)) (q := (xs.length - i)) (R := List.take i xs ++ ys ++ List.drop i xs) (n := (i + (xs.length + ys.length - i))) Try.underlying97 ty150 rfl (by first | omega | (simp only [List.length_append, List.length_take, List.length_drop, List.length_replicate] <;> omega)) rfl (Sl.dropn (Sl.vec (xs := xs) (by repeat (first | exact List.mem_cons_self | apply List.mem_cons_of_mem))) (by omega) (by omega)) (by first | omega | (simp only [List.length_append, List.length_take, List.length_drop, List.length_replicate] <;> omega)) (by first | omega | (simp only [List.length_append, List.length_take, List.length_drop, List.length_replicate] <;> omega)) rfl (ins2 hi) (by first | omega | (simp only [List.length_append, List.length_take, List.length_drop, List.length_replicate] <;> omega)) (by repeat (first | exact At.head _ _ _ | apply At.tail))) ?_
    rintro _ _ ⟨rfl, rfl⟩
    refine ⟨Fit.sub, ?_⟩
    refine D.done (by kernel_rfl) ?_
    refine V.then ?_
    refine W.sub (L' := [(9, _)]) (Sub.cons rfl Sub.nil) ?_
    refine W.sr ?_
    refine G.r (Runs.move rfl) ?_
    refine G.r (Runs.assign rfl) ?_
    refine G.nt ?_
    refine W.ret ?_
    refine V.then_ret ?_
    exact V.ret1 rfl rfl (vc 150 (.slice ad3 (List.take i xs ++ ys ++ List.drop i xs).length cp4) (List.take i xs ++ ys ++ List.drop i xs) :: I) (by rw [show (List.take i xs ++ ys ++ List.drop i xs).length = i + (xs.length + ys.length - i) by omega]; exact Fit.s) ⟨ad3, cp4, by rw [show (List.take i xs ++ ys ++ List.drop i xs).length = i + (xs.length + ys.length - i) by omega], rfl⟩
   ·refine W.skip ?_
    refine V.then ?_
    refine W.sr ?_
    refine G.r (Runs.move rfl) ?_
    refine G.r (Runs.move rfl) ?_
    refine G.r (Runs.move rfl) ?_
    refine G.r (Runs.add rfl rfl (by unfold InR; omega)) ?_
    refine G.r (Runs.hiraw (h := xs.length + ys.length) Try.underlying97 ty150 rfl rfl (by omega) (by omega)) ?_
    refine G.r (Runs.assign rfl) ?_
    refine G.room (h := xs.length + ys.length) (by repeat (first | exact AtF.head _ _ | apply AtF.tail)) rfl (by omega) (by omega) (fun js hjs => ?_)
    show G Try.prog κ _ _ _ _ ([(0, .slice a (xs.length + ys.length) c), (60, .slice a (xs.length + ys.length) c), (59, I64 (((xs.length : Nat) : Int) + ((ys.length : Nat) : Int))), (58, I64 (((ys.length : Nat) : Int))), (57, I64 (((xs.length : Nat) : Int))), (56, .slice a xs.length c), (31, .bool (decide (((c : Nat) : Int) < (((xs.length : Nat) : Int) + ((ys.length : Nat) : Int))))), (8, I64 (((xs.length : Nat) : Int))), (7, I64 (((ys.length : Nat) : Int))), (0, .slice a xs.length c), (1, I64 (((i : Nat) : Int))), (2, .slice va ys.length vcp)] : Env) (vec 150 (Enc.sz Pt) (.slice a (xs.length + ys.length) c) (xs.length + ys.length) (cells xs ++ js) :: vc 150 (.slice va ys.length vcp) (ys) :: I)
    refine G.nt ?_
    refine W.seq ?_
    refine W.sr ?_
    refine G.r (Runs.move rfl) ?_
    refine G.r (Runs.move rfl) ?_
    refine G.r (Runs.move rfl) ?_
    refine G.r (Runs.move rfl) ?_
    refine G.r (Runs.add rfl rfl (by unfold InR; omega)) ?_
    refine G.r (Runs.loraw (l := (i + ys.length)) Try.underlying97 ty150 rfl rfl (by omega) (by omega) (by omega)) ?_
    refine G.e (Eff.overlaps (k := i + ys.length) ov203 Try.underlying97 ty150 rfl rfl (by omega) (by omega) (by omega) (show Fit κ _ (vc 150 (.slice va ys.length vcp) ys :: vec 150 (Enc.sz Pt) (.slice a (xs.length + ys.length) c) (xs.length + ys.length) (cells xs ++ js) :: I) from Fit.sp (Sp.pick (Pick.tail _ (Pick.head _ _)) (Sp.refl _))) (Nat.mul_pos (by omega) Enc.pos) rfl) ?_
    rintro _ _ ⟨rfl, rfl⟩
    refine G.r (Runs.not rfl) ?_
    refine G.nt ?_
    refine W.sub (L' := [(68, _), (0, _), (8, _), (7, _), (1, _), (2, _)]) (Sub.cons rfl (Sub.cons rfl (Sub.cons rfl (Sub.cons rfl (Sub.cons rfl (Sub.cons rfl Sub.nil)))))) ?_
    refine W.yes rfl ?_
    refine W.seq ?_
    refine W.drawn mixed ?_
    refine A.hold (I) 9 ?_
    refine D.r 0 rfl (Runs.move rfl) ?_ (hJ := Fit.sub)
    refine D.r 1 rfl (Runs.move rfl) ?_ (hJ := Fit.sub)
    refine D.r 2 rfl (Runs.move rfl) ?_ (hJ := Fit.sub)
    refine D.r 3 rfl (Runs.add rfl rfl (by unfold InR; omega)) ?_ (hJ := Fit.sub)
    refine D.r 4 rfl (Runs.loraw (l := (i + ys.length)) Try.underlying97 ty150 rfl rfl (by omega) (by omega) (by omega)) ?_ (hJ := Fit.sub)
    refine D.r 5 rfl (Runs.move rfl) ?_ (hJ := Fit.sub)
    refine D.r 6 rfl (Runs.move rfl) ?_ (hJ := Fit.sub)
    refine D.r 7 rfl (Runs.loraw (l := i) Try.underlying97 ty150 rfl rfl (by omega) (by omega) (by omega)) ?_ (hJ := Fit.sub)
    refine D.step (rs := [8]) (by kernel_rfl) rfl rfl (all1 ?_)
    refine Step.eff rfl (Wanted.plain rfl) (Eff.copyR (sz := Enc.sz Pt) (n := xs.length + ys.length) (cs := (cells xs ++ js)) (k := (i + ys.length)) (q := (xs.length - i)) Try.underlying97 ty150 rfl (by omega) rfl (SlRd.dropR (SlRd.vec (by repeat (first | exact List.mem_cons_self | apply List.mem_cons_of_mem))) (by omega)) (by omega) (by omega) (ins_one hi) rfl (by repeat (first | exact At.head _ _ _ | apply At.tail))) ?_
    rintro _ _ ⟨rfl, rfl⟩
    refine ⟨Fit.sub, ?_⟩
    show D Try.prog κ _ _ _ _ _ _ _ ([(77, I64 ((((xs.length - i) : Nat) : Int))), (76, .slice (adrop a c i (Enc.sz Pt)) ((xs.length + ys.length) - i) (c - i)), (75, I64 (((i : Nat) : Int))), (74, .slice a (xs.length + ys.length) c), (73, .slice (adrop a c (i + ys.length) (Enc.sz Pt)) ((xs.length + ys.length) - (i + ys.length)) (c - (i + ys.length))), (72, I64 (((i : Nat) : Int) + ((ys.length : Nat) : Int))), (71, I64 (((ys.length : Nat) : Int))), (70, I64 (((i : Nat) : Int))), (69, .slice a (xs.length + ys.length) c), (68, .bool true), (0, .slice a (xs.length + ys.length) c), (8, I64 (((xs.length : Nat) : Int))), (7, I64 (((ys.length : Nat) : Int))), (1, I64 (((i : Nat) : Int))), (2, .slice va ys.length vcp)] : Env) (vec 150 (Enc.sz Pt) (.slice a (xs.length + ys.length) c) (xs.length + ys.length) (List.take ((i + ys.length) * Enc.sz Pt) (cells xs ++ js) ++ List.take ((xs.length - i) * Enc.sz Pt) (List.drop (i * Enc.sz Pt) (cells xs ++ js)) ++ List.drop ((i + ys.length) * Enc.sz Pt + (xs.length - i) * Enc.sz Pt) (cells xs ++ js)) :: vc 150 (.slice va ys.length vcp) (ys) :: I)
    refine D.done (by kernel_rfl) ?_
    refine V.then ?_
    refine W.sub (L' := [(0, _), (1, _), (2, _)]) (Sub.cons rfl (Sub.cons rfl (Sub.cons rfl Sub.nil))) ?_
    refine W.sr ?_
    refine G.r (Runs.move rfl) ?_
    refine G.r (Runs.move rfl) ?_
    refine G.r (Runs.loraw (l := i) Try.underlying97 ty150 rfl rfl (by omega) (by omega) (by omega)) ?_
    refine G.r (Runs.move rfl) ?_
    refine G.e (Eff.copyR (sz := Enc.sz Pt) (n := xs.length + ys.length) (cs := (List.take ((i + ys.length) * Enc.sz Pt) (cells xs ++ js) ++ List.take ((xs.length - i) * Enc.sz Pt) (List.drop (i * Enc.sz Pt) (cells xs ++ js)) ++ List.drop ((i + ys.length) * Enc.sz Pt + (xs.length - i) * Enc.sz Pt) (cells xs ++ js))) (k := i) (q := ys.length) Try.underlying97 ty150 rfl (by omega) rfl (show Sl κ _ (.slice va ys.length vcp) ys from (Sl.vec (e := 150) (xs := ys) (by repeat (first | exact List.mem_cons_self | apply List.mem_cons_of_mem)))) (by omega) (by omega) (fun u hu => cells_one ys u (List.mem_of_mem_take hu)) rfl (by repeat (first | exact At.head _ _ _ | apply At.tail))) ?_
    rintro _ _ ⟨rfl, rfl⟩
    show G Try.prog κ _ _ _ _ ([(82, I64 (((ys.length : Nat) : Int))), (81, .slice va ys.length vcp), (80, .slice (adrop a c i (Enc.sz Pt)) ((xs.length + ys.length) - i) (c - i)), (79, I64 (((i : Nat) : Int))), (78, .slice a (xs.length + ys.length) c), (0, .slice a (xs.length + ys.length) c), (1, I64 (((i : Nat) : Int))), (2, .slice va ys.length vcp)] : Env) (vec 150 (Enc.sz Pt) (.slice a (xs.length + ys.length) c) (xs.length + ys.length) (List.take (i * Enc.sz Pt) (List.take ((i + ys.length) * Enc.sz Pt) (cells xs ++ js) ++ List.take ((xs.length - i) * Enc.sz Pt) (List.drop (i * Enc.sz Pt) (cells xs ++ js)) ++ List.drop ((i + ys.length) * Enc.sz Pt + (xs.length - i) * Enc.sz Pt) (cells xs ++ js)) ++ List.take (ys.length * Enc.sz Pt) (cells ys) ++ List.drop (i * Enc.sz Pt + ys.length * Enc.sz Pt) (List.take ((i + ys.length) * Enc.sz Pt) (cells xs ++ js) ++ List.take ((xs.length - i) * Enc.sz Pt) (List.drop (i * Enc.sz Pt) (cells xs ++ js)) ++ List.drop ((i + ys.length) * Enc.sz Pt + (xs.length - i) * Enc.sz Pt) (cells xs ++ js))) :: vc 150 (.slice va ys.length vcp) (ys) :: I)
    refine G.nt ?_
    refine W.sr ?_
    refine G.r (Runs.move rfl) ?_
    refine G.r (Runs.assign rfl) ?_
    refine G.nt ?_
    refine W.ret ?_
    refine V.then_ret ?_
    have hC : (List.take (i * Enc.sz Pt) (List.take ((i + ys.length) * Enc.sz Pt) (cells xs ++ js) ++ List.take ((xs.length - i) * Enc.sz Pt) (List.drop (i * Enc.sz Pt) (cells xs ++ js)) ++ List.drop ((i + ys.length) * Enc.sz Pt + (xs.length - i) * Enc.sz Pt) (cells xs ++ js)) ++ List.take (ys.length * Enc.sz Pt) (cells ys) ++ List.drop (i * Enc.sz Pt + ys.length * Enc.sz Pt) (List.take ((i + ys.length) * Enc.sz Pt) (cells xs ++ js) ++ List.take ((xs.length - i) * Enc.sz Pt) (List.drop (i * Enc.sz Pt) (cells xs ++ js)) ++ List.drop ((i + ys.length) * Enc.sz Pt + (xs.length - i) * Enc.sz Pt) (cells xs ++ js))) = cells (List.take i xs ++ ys ++ List.drop i xs) := ins_cells hi hjs
    exact V.ret1 rfl rfl (vc 150 (.slice a (List.take i xs ++ ys ++ List.drop i xs).length c) (List.take i xs ++ ys ++ List.drop i xs) :: I) (by rw [hC]; show Fit κ _ (vec 150 _ (.slice a (List.take i xs ++ ys ++ List.drop i xs).length c) (List.take i xs ++ ys ++ List.drop i xs).length (cells (List.take i xs ++ ys ++ List.drop i xs)) :: I); rw [hRl]; exact Fit.s) ⟨a, c, by rw [hRl], rfl⟩

end Go.Sl
namespace Go.Sl
open Go.Proofs
set_option linter.unusedVariables false
set_option linter.unusedSimpArgs false
set_option maxRecDepth 4000
theorem eqt150 : EqT Try.prog 150 Pt := EqT.flat (fun p : Pt => [p.u, p.v]) (fun _ => rfl) (fun x y h => by cases x; cases y; simpa using h) (n := 2) (fun _ => rfl) (by kernel_rfl) (by kernel_rfl) (by kernel_rfl) (by kernel_rfl) (by kernel_rfl)

set_option maxHeartbeats 4000000 in
theorem DeleteE_ok {κ : Ctx} {I : List Item} {a : Option Addr} {c i j : Nat} {xs : List Pt} (hij : i < j) (hj : j ≤ xs.length) (hsz : xs.length ≤ 1000000000) :
    CallS Try.prog κ 161 [.slice a xs.length c, I64 (((i : Nat) : Int)), I64 (((j : Nat) : Int))] (vc 150 (.slice a xs.length c) (xs) :: I) (fun r J => r = .slice a (List.take i xs ++ List.drop j xs).length c ∧ vc 150 (.slice a (List.take i xs ++ List.drop j xs).length c) (List.take i xs ++ List.drop j xs) :: I = J) := by
 refine CallS.pull (vc.cap List.mem_cons_self) fun hcap => ?_
 have hRl : (List.take i xs ++ List.drop j xs).length = i + (xs.length - j) := by simp only [List.length_append, List.length_take, List.length_drop]; omega
 refine CallS.enter (L := [(0, .slice a xs.length c), (1, I64 (((i : Nat) : Int))), (2, I64 (((j : Nat) : Int)))]) Try.func161 rfl rfl rfl rfl ?_
 refine W.sr ?_
 refine G.r (Runs.assign rfl) ?_
 refine G.nt ?_
 refine W.sr ?_
 refine G.r (Runs.move rfl) ?_
 refine G.r (Runs.move rfl) ?_
 refine G.r (Runs.move rfl) ?_
 refine G.r (Runs.move rfl) ?_
 refine G.r (Runs.lens Try.underlying97 rfl) ?_
 refine G.r (Runs.lohi3 (l := i) (h := j) (q := xs.length) Try.underlying97 ty150 rfl rfl (by omega) rfl (by omega) rfl (by omega) (by omega) (by omega) (by omega)) ?_
 refine G.nt ?_
 refine W.seq ?_
 refine W.sr ?_
 refine G.r (Runs.move rfl) ?_
 refine G.r (Runs.move rfl) ?_
 refine G.r (Runs.eql rfl rfl) ?_
 refine G.nt ?_
 refine W.ite rfl (fun c16 => ?_) (fun c16 => ?_)
 ·exact absurd c16 (by omega)
 ·refine W.skip ?_
  refine V.then ?_
  refine W.sr ?_
  refine G.r (Runs.move rfl) ?_
  refine G.r (Runs.lens Try.underlying97 rfl) ?_
  refine G.r (Runs.assign rfl) ?_
  refine G.nt ?_
  refine W.sub (L' := [(7, _), (0, _), (1, _), (2, _)]) (Sub.cons rfl (Sub.cons rfl (Sub.cons rfl (Sub.cons rfl Sub.nil)))) ?_
  refine W.seq ?_
  refine W.drawn mixed ?_
  refine A.hold (I) 8 ?_
  refine D.r 0 rfl (Runs.move rfl) ?_ (hJ := Fit.sub)
  refine D.r 1 rfl (Runs.move rfl) ?_ (hJ := Fit.sub)
  refine D.r 2 rfl (Runs.hiraw (h := i) Try.underlying97 ty150 rfl rfl (by omega) (by omega)) ?_ (hJ := Fit.sub)
  refine D.r 3 rfl (Runs.move rfl) ?_ (hJ := Fit.sub)
  refine D.r 4 rfl (Runs.move rfl) ?_ (hJ := Fit.sub)
  refine D.r 5 rfl (Runs.loraw (l := j) Try.underlying97 ty150 rfl rfl (by omega) (by omega) (by omega)) ?_ (hJ := Fit.sub)
  refine D.step (rs := [6]) (by kernel_rfl) rfl rfl (all1 ?_)
  refine Step.eff rfl (Wanted.plain rfl) (Eff.appIn (α := Pt) (xs := xs) (i := i) (j := j) Try.underlying97 ty150 rfl rfl rfl (by omega) (by omega) (by omega) rfl (by repeat (first | exact At.head _ _ _ | apply At.tail))) ?_
  rintro _ _ ⟨rfl, rfl⟩
  refine ⟨Fit.sub, ?_⟩
  refine D.r 7 rfl (Runs.assign rfl) ?_ (hJ := Fit.sub)
  refine D.done (by kernel_rfl) ?_
  refine V.then ?_
  refine W.sr ?_
  refine G.r (Runs.move rfl) ?_
  refine G.r (Runs.move rfl) ?_
  refine G.r (Runs.lens Try.underlying97 rfl) ?_
  refine G.r (Runs.move rfl) ?_
  refine G.r (Runs.lohiraw (l := (List.take i xs ++ List.drop j xs).length) (h := xs.length) Try.underlying97 ty150 rfl rfl (by omega) rfl (by omega) (by omega) (by omega)) ?_
  refine G.e (Eff.clearB (α := Pt) (xs := (List.take i xs ++ List.drop j xs)) (k := (List.take i xs ++ List.drop j xs).length) (h := xs.length) Try.underlying97 ty150 (AllOne.cons rfl (AllOne.cons rfl AllOne.nil)) rfl rfl rfl rfl (by omega) (by omega) (by repeat (first | exact At.head _ _ _ | apply At.tail))) ?_
  rintro _ _ ⟨rfl, rfl⟩
  refine G.nt ?_
  refine W.sub (L' := [(0, _)]) (Sub.cons rfl Sub.nil) ?_
  refine W.sr ?_
  refine G.r (Runs.move rfl) ?_
  refine G.r (Runs.assign rfl) ?_
  refine G.nt ?_
  refine W.ret ?_
  exact V.ret1 rfl rfl (_) (Fit.refl _) ⟨rfl, rfl⟩

theorem BSearchP {κ : Ctx} {I : List Item} {v : Value} {xs : List Pt} (hl : Sl κ I v xs) (x : Pt) {g : FuncId} {cp_ : List Value} {cf : Pt → Pt → Int} (hcb : Cmps Try.prog κ I g cp_ cf) (hsz : xs.length ≤ 1000000000000) :
    CallS Try.prog κ 148 [v, .agg #[I64 (x.u), I64 (x.v)], .func (.func g) #[] cp_.toArray] I (fun r J => ∃ i b, r = .tuple #[I64 ((i : Nat) : Int), .bool b] ∧ BFound cf xs x i b ∧ I = J) := by
 refine CallS.pull hl.le fun hmax => ?_
 refine CallS.enter (L := [(0, v), (1, .agg #[I64 (x.u), I64 (x.v)]), (2, .func (.func g) #[] cp_.toArray)]) Try.func148 rfl rfl rfl rfl ?_
 refine W.sr ?_
 refine G.e (Eff.box (cs := [_, _]) rfl rfl rfl) ?_
 rintro _ _ ⟨b1, rfl, rfl⟩
 refine G.r (Runs.assign rfl) ?_
 refine G.r (Runs.assign rfl) ?_
 refine G.nt ?_
 refine W.sr ?_
 refine G.r (Runs.move rfl) ?_
 refine G.r (Runs.lenT (α := Pt) (xs := xs) Try.underlying55 rfl (Sl.f hl)) ?_
 refine G.r (Runs.assign rfl) ?_
 refine G.nt ?_
 refine W.sr ?_
 refine G.r (Runs.move rfl) ?_
 refine G.r (Runs.assign rfl) ?_
 refine G.r (Runs.assign rfl) ?_
 refine G.nt ?_
 refine W.seq ?_
 refine W.block ?_
 refine W.loop (σ := Nat × Nat) (fun s => ([(0, v), (2, .func (.func g) #[] cp_.toArray), (4, .pointer (some ⟨b1, 0, none⟩)), (8, I64 (((xs.length : Nat) : Int))), (9, I64 (((s.1 : Nat) : Int))), (10, I64 (((s.2 : Nat) : Int)))] : Env)) (fun s => blk b1 [I64 (x.u), I64 (x.v)] 60 :: I) (fun s => (s.1 ≤ s.2) ∧ (s.2 ≤ xs.length) ∧ (0 < s.1 → cf (at_ xs ((s.1 : Int) - 1)) x < 0) ∧ (s.2 < xs.length → ¬ cf (at_ xs (s.2 : Int)) x < 0)) (fun s => s.2 - s.1) (0, xs.length) (show ((0 : Nat) ≤ (xs.length : Nat)) ∧ ((xs.length : Nat) ≤ xs.length) ∧ (0 < (0 : Nat) → cf (at_ xs (((0 : Nat) : Int) - 1)) x < 0) ∧ ((xs.length : Nat) < xs.length → ¬ cf (at_ xs ((xs.length : Nat) : Int)) x < 0) from ⟨(by omega), (by omega), (fun h => absurd h (by decide)), (fun h => absurd h (by omega))⟩) (Sub.cons rfl (Sub.cons rfl (Sub.cons rfl (Sub.cons rfl (Sub.cons lookO (Sub.cons lookO Sub.nil)))))) (show Fit κ _ (blk b1 [I64 (x.u), I64 (x.v)] 60 :: I) from Fit.sub) ?_
 rintro ⟨i, j⟩ hp
 obtain ⟨hij, hj, hlo, hhi⟩ : (i ≤ j) ∧ (j ≤ xs.length) ∧ (0 < i → cf (at_ xs ((i : Int) - 1)) x < 0) ∧ (j < xs.length → ¬ cf (at_ xs (j : Int)) x < 0) := hp
 show W Try.prog κ 49 _ _ ([(0, v), (2, .func (.func g) #[] cp_.toArray), (4, .pointer (some ⟨b1, 0, none⟩)), (8, I64 (((xs.length : Nat) : Int))), (9, I64 (((i : Nat) : Int))), (10, I64 (((j : Nat) : Int)))] : Env) (blk b1 [I64 (x.u), I64 (x.v)] 60 :: I)
 refine W.seq ?_
 refine W.sr ?_
 refine G.r (Runs.move rfl) ?_
 refine G.r (Runs.move rfl) ?_
 refine G.r (Runs.lss rfl rfl) ?_
 refine G.nt ?_
 refine W.ite rfl (fun c17 => ?_) (fun c17 => ?_)
 ·refine W.skip ?_
  refine V.then ?_
  refine W.block ?_
  refine W.sr ?_
  refine G.r (Runs.move rfl) ?_
  refine G.r (Runs.move rfl) ?_
  refine G.r (Runs.add rfl rfl (by unfold InR; omega)) ?_
  refine G.r (Runs.convU Try.underlying3 Try.underlying230 rfl (by omega)) ?_
  refine G.r (Runs.shr1 rfl rfl) ?_
  refine G.r (Runs.convI Try.underlying230 Try.underlying3 rfl (by unfold InR; omega)) ?_
  refine G.r (Runs.assign rfl) ?_
  refine G.nt ?_
  refine W.sub (L' := [(11, _), (0, _), (2, _), (4, _), (8, _), (9, _), (10, _)]) (Sub.cons rfl (Sub.cons rfl (Sub.cons rfl (Sub.cons rfl (Sub.cons rfl (Sub.cons rfl (Sub.cons rfl Sub.nil))))))) ?_
  refine W.seq ?_
  refine W.drawn mixed ?_
  refine A.hold (blk b1 [I64 (x.u), I64 (x.v)] 60 :: I) 8 ?_
  refine D.r 0 rfl (Runs.move rfl) ?_ (hJ := Fit.sub)
  refine D.r 1 rfl (Runs.move rfl) ?_ (hJ := Fit.sub)
  refine D.r 2 rfl (Runs.move rfl) ?_ (hJ := Fit.sub)
  refine D.r 3 rfl (Runs.idx (α := Pt) (xs := xs) Try.underlying55 ty60 rfl rfl (Sl.f hl) (by omega) (by omega)) ?_ (hJ := Fit.sub)
  refine D.r 4 rfl (Runs.gets (α := Pt) (xs := xs) ty60 rfl (Sl.f hl) (by omega) (by omega)) ?_ (hJ := Fit.sub)
  refine D.r 5 rfl (Runs.lds (vs := [_, _]) ty60) ?_ (hJ := Fit.sub)
  refine D.step (rs := [6]) (by kernel_rfl) rfl rfl (all1 ?_)
  refine Step.eff rfl (Wanted.plain rfl) (Eff.callv hcb.1 (first := []) (caps := cp_) rfl rfl rfl (hcb.2 (at_ xs ((((i : Nat) : Int) + ((j : Nat) : Int)) / 2)) x _ Fit.m)) ?_
  rintro _ _ ⟨_, _, ⟨rfl, rfl⟩, rfl, rfl⟩
  refine ⟨Fit.sub, ?_⟩
  refine D.r 7 rfl (Runs.lss rfl rfl) ?_ (hJ := Fit.sub)
  refine D.done (by kernel_rfl) ?_
  refine V.then ?_
  refine W.sub (L' := [(31, _), (11, _), (0, _), (2, _), (4, _), (8, _), (9, _), (10, _)]) (Sub.cons rfl (Sub.cons rfl (Sub.cons rfl (Sub.cons rfl (Sub.cons rfl (Sub.cons rfl (Sub.cons rfl (Sub.cons rfl Sub.nil)))))))) ?_
  refine W.ite rfl (fun c31 => ?_) (fun c31 => ?_)
  ·refine W.region ?_
   refine G.r (Runs.move rfl) ?_
   refine G.r (Runs.add rfl rfl (by unfold InR; omega)) ?_
   refine G.r (Runs.assign rfl) ?_
   refine G.nil ?_
   refine V.block_normal ?_
   exact V.next (((i + j) / 2 + 1), (j)) (show (((i + j) / 2 + 1 : Nat) ≤ (j : Nat)) ∧ ((j : Nat) ≤ xs.length) ∧ (0 < ((i + j) / 2 + 1 : Nat) → cf (at_ xs ((((i + j) / 2 + 1 : Nat) : Int) - 1)) x < 0) ∧ ((j : Nat) < xs.length → ¬ cf (at_ xs ((j : Nat) : Int)) x < 0) from ⟨(by omega), (by omega), (fun _ => by rw [show (((i + j) / 2 + 1 : Nat) : Int) - 1 = (((i : Nat) : Int) + ((j : Nat) : Int)) / 2 by omega]; exact c31), hhi⟩) (show (j : Nat) - ((i + j) / 2 + 1 : Nat) < j - i from (by omega)) (Sub.cons rfl (Sub.cons rfl (Sub.cons rfl (Sub.cons rfl (Sub.cons lookO (Sub.cons lookO Sub.nil)))))) (show Fit κ _ (blk b1 [I64 (x.u), I64 (x.v)] 60 :: I) from Fit.sub)
  ·refine W.region ?_
   refine G.r (Runs.move rfl) ?_
   refine G.r (Runs.assign rfl) ?_
   refine G.nil ?_
   refine V.block_normal ?_
   exact V.next ((i), ((i + j) / 2)) (show ((i : Nat) ≤ ((i + j) / 2 : Nat)) ∧ (((i + j) / 2 : Nat) ≤ xs.length) ∧ (0 < (i : Nat) → cf (at_ xs (((i : Nat) : Int) - 1)) x < 0) ∧ (((i + j) / 2 : Nat) < xs.length → ¬ cf (at_ xs (((i + j) / 2 : Nat) : Int)) x < 0) from ⟨(by omega), (by omega), hlo, (fun _ => by rw [show (((i + j) / 2 : Nat) : Int) = (((i : Nat) : Int) + ((j : Nat) : Int)) / 2 by omega]; exact c31)⟩) (show ((i + j) / 2 : Nat) - (i : Nat) < j - i from (by omega)) (Sub.cons rfl (Sub.cons rfl (Sub.cons rfl (Sub.cons rfl (Sub.cons lookO (Sub.cons lookO Sub.nil)))))) (show Fit κ _ (blk b1 [I64 (x.u), I64 (x.v)] 60 :: I) from Fit.sub)
 ·refine W.exit ?_
  refine V.then_exit ?_
  refine V.then_exit ?_
  refine V.block_hit ?_
  refine V.then ?_
  refine W.seq ?_
  refine W.drawn mixed ?_
  refine A.hold (blk b1 [I64 (x.u), I64 (x.v)] 60 :: I) 16 ?_
  refine D.r 0 rfl (Runs.move rfl) ?_ (hJ := Fit.sub)
  refine D.r 1 rfl (Runs.move rfl) ?_ (hJ := Fit.sub)
  refine D.r 2 rfl (Runs.move rfl) ?_ (hJ := Fit.sub)
  refine D.r 3 rfl (Runs.lss rfl rfl) ?_ (hJ := Fit.sub)
  refine D.r 4 rfl (Runs.move rfl) ?_ (hJ := Fit.sub)
  refine D.split (d := 39) rfl (fun g39 => ?_) (fun g39 => ?_)
  ·refine D.read 5 rfl (by kernel_rfl) (by kernel_rfl) (by kernel_rfl) rfl (by kernel_rfl) (fun _ _ _ _ h => h) (Wanted.on rfl rfl rfl) rfl rfl Fit.sub (Runs.move rfl) ?_
   refine D.read 6 rfl (by kernel_rfl) (by kernel_rfl) (by kernel_rfl) rfl (by kernel_rfl) (fun _ _ _ _ h => h) (Wanted.on rfl rfl rfl) rfl rfl Fit.sub (Runs.move rfl) ?_
   refine D.read 7 rfl (by kernel_rfl) (by kernel_rfl) (by kernel_rfl) rfl (by kernel_rfl) (fun _ _ _ _ h => h) (Wanted.on rfl rfl rfl) rfl rfl Fit.sub (Runs.move rfl) ?_
   refine D.read 8 rfl (by kernel_rfl) (by kernel_rfl) (by kernel_rfl) rfl (by kernel_rfl) (fun _ _ _ _ h => h) (Wanted.on rfl rfl rfl) rfl rfl Fit.sub (Runs.idx (α := Pt) (xs := xs) Try.underlying55 ty60 rfl rfl (Sl.f hl) (by omega) (by omega)) ?_
   refine D.read 9 rfl (by kernel_rfl) (by kernel_rfl) (by kernel_rfl) rfl (by kernel_rfl) (fun _ _ _ _ h => h) (Wanted.on rfl rfl rfl) rfl rfl Fit.sub (Runs.gets (α := Pt) (xs := xs) ty60 rfl (Sl.f hl) (by omega) (by omega)) ?_
   refine D.read 10 rfl (by kernel_rfl) (by kernel_rfl) (by kernel_rfl) rfl (by kernel_rfl) (fun _ _ _ _ h => h) (Wanted.on rfl rfl rfl) rfl rfl Fit.sub (Runs.lds (vs := [_, _]) ty60) ?_
   refine D.step (rs := [11]) (by kernel_rfl) rfl rfl (all1 ?_)
   refine Step.eff rfl (Wanted.on rfl rfl rfl) (Eff.callv hcb.1 (first := []) (caps := cp_) rfl rfl rfl (hcb.2 (at_ xs ((i : Nat) : Int)) x _ Fit.m)) ?_
   rintro _ _ ⟨_, _, ⟨rfl, rfl⟩, rfl, rfl⟩
   refine ⟨Fit.sub, ?_⟩
   refine D.read 12 rfl (by kernel_rfl) (by kernel_rfl) (by kernel_rfl) rfl (by kernel_rfl) (fun _ _ _ _ h => h) (Wanted.on rfl rfl rfl) rfl rfl Fit.sub (Runs.eql rfl rfl) ?_
   refine D.r 13 rfl (Runs.pickt rfl rfl) ?_ (hJ := Fit.sub)
   refine D.r 14 rfl (Runs.assign rfl) ?_ (hJ := Fit.sub)
   refine D.r 15 rfl (Runs.assign rfl) ?_ (hJ := Fit.sub)
   refine D.done (by kernel_rfl) ?_
   refine V.then ?_
   refine W.sub (L' := [(7, _), (6, _)]) (Sub.cons rfl (Sub.cons rfl Sub.nil)) ?_
   refine W.ret ?_
   have hie : i = j := by omega
   subst hie
   exact V.ret2 rfl rfl rfl (I) Fit.m ⟨i, _, rfl, ⟨hj, hlo, hhi, (decide_eq_decide.2 ⟨fun h => ⟨by omega, h⟩, fun h => h.2⟩)⟩, rfl⟩
  ·refine D.pass 5 rfl (by kernel_rfl) (by kernel_rfl) (by kernel_rfl) rfl (by kernel_rfl) (fun _ _ _ _ h => h) (Unwanted.off rfl rfl rfl) rfl rfl Fit.sub ?_
   refine D.pass 6 rfl (by kernel_rfl) (by kernel_rfl) (by kernel_rfl) rfl (by kernel_rfl) (fun _ _ _ _ h => h) (Unwanted.off rfl rfl rfl) rfl rfl Fit.sub ?_
   refine D.pass 7 rfl (by kernel_rfl) (by kernel_rfl) (by kernel_rfl) rfl (by kernel_rfl) (fun _ _ _ _ h => h) (Unwanted.off rfl rfl rfl) rfl rfl Fit.sub ?_
   refine D.pass 8 rfl (by kernel_rfl) (by kernel_rfl) (by kernel_rfl) rfl (by kernel_rfl) (fun _ _ _ _ h => h) (Unwanted.off rfl rfl rfl) rfl rfl Fit.sub ?_
   refine D.pass 9 rfl (by kernel_rfl) (by kernel_rfl) (by kernel_rfl) rfl (by kernel_rfl) (fun _ _ _ _ h => h) (Unwanted.off rfl rfl rfl) rfl rfl Fit.sub ?_
   refine D.pass 10 rfl (by kernel_rfl) (by kernel_rfl) (by kernel_rfl) rfl (by kernel_rfl) (fun _ _ _ _ h => h) (Unwanted.off rfl rfl rfl) rfl rfl Fit.sub ?_
   refine D.pass 11 rfl (by kernel_rfl) (by kernel_rfl) (by kernel_rfl) rfl (by kernel_rfl) (fun _ _ _ _ h => h) (Unwanted.off rfl rfl rfl) rfl rfl Fit.sub ?_
   refine D.pass 12 rfl (by kernel_rfl) (by kernel_rfl) (by kernel_rfl) rfl (by kernel_rfl) (fun _ _ _ _ h => h) (Unwanted.off rfl rfl rfl) rfl rfl Fit.sub ?_
   refine D.r 13 rfl (Runs.pickf rfl rfl) ?_ (hJ := Fit.sub)
   refine D.r 14 rfl (Runs.assign rfl) ?_ (hJ := Fit.sub)
   refine D.r 15 rfl (Runs.assign rfl) ?_ (hJ := Fit.sub)
   refine D.done (by kernel_rfl) ?_
   refine V.then ?_
   refine W.sub (L' := [(7, _), (6, _)]) (Sub.cons rfl (Sub.cons rfl Sub.nil)) ?_
   refine W.ret ?_
   have hie : i = j := by omega
   subst hie
   exact V.ret2 rfl rfl rfl (I) Fit.m ⟨i, _, rfl, ⟨hj, hlo, hhi, ((decide_eq_false (fun h => by omega)).symm)⟩, rfl⟩

theorem BSearchE {κ : Ctx} {I : List Item} {v : Value} {xs : List Pt} (hl : Sl κ I v xs) (x : Pt) {g : FuncId} {cp_ : List Value} {cf : Pt → Pt → Int} (hcb : Cmps Try.prog κ I g cp_ cf) (hsz : xs.length ≤ 1000000000000) :
    CallS Try.prog κ 202 [v, .agg #[I64 (x.u), I64 (x.v)], .func (.func g) #[] cp_.toArray] I (fun r J => ∃ i b, r = .tuple #[I64 ((i : Nat) : Int), .bool b] ∧ BFound cf xs x i b ∧ I = J) := by
 refine CallS.pull hl.le fun hmax => ?_
 refine CallS.enter (L := [(0, v), (1, .agg #[I64 (x.u), I64 (x.v)]), (2, .func (.func g) #[] cp_.toArray)]) Try.func202 rfl rfl rfl rfl ?_
 refine W.sr ?_
 refine G.e (Eff.box (cs := [_, _]) rfl rfl rfl) ?_
 rintro _ _ ⟨b1, rfl, rfl⟩
 refine G.r (Runs.assign rfl) ?_
 refine G.r (Runs.assign rfl) ?_
 refine G.nt ?_
 refine W.sr ?_
 refine G.r (Runs.move rfl) ?_
 refine G.r (Runs.lenT (α := Pt) (xs := xs) Try.underlying97 rfl (Sl.f hl)) ?_
 refine G.r (Runs.assign rfl) ?_
 refine G.nt ?_
 refine W.sr ?_
 refine G.r (Runs.move rfl) ?_
 refine G.r (Runs.assign rfl) ?_
 refine G.r (Runs.assign rfl) ?_
 refine G.nt ?_
 refine W.seq ?_
 refine W.block ?_
 refine W.loop (σ := Nat × Nat) (fun s => ([(0, v), (2, .func (.func g) #[] cp_.toArray), (4, .pointer (some ⟨b1, 0, none⟩)), (8, I64 (((xs.length : Nat) : Int))), (9, I64 (((s.1 : Nat) : Int))), (10, I64 (((s.2 : Nat) : Int)))] : Env)) (fun s => blk b1 [I64 (x.u), I64 (x.v)] 150 :: I) (fun s => (s.1 ≤ s.2) ∧ (s.2 ≤ xs.length) ∧ (0 < s.1 → cf (at_ xs ((s.1 : Int) - 1)) x < 0) ∧ (s.2 < xs.length → ¬ cf (at_ xs (s.2 : Int)) x < 0)) (fun s => s.2 - s.1) (0, xs.length) (show ((0 : Nat) ≤ (xs.length : Nat)) ∧ ((xs.length : Nat) ≤ xs.length) ∧ (0 < (0 : Nat) → cf (at_ xs (((0 : Nat) : Int) - 1)) x < 0) ∧ ((xs.length : Nat) < xs.length → ¬ cf (at_ xs ((xs.length : Nat) : Int)) x < 0) from ⟨(by omega), (by omega), (fun h => absurd h (by decide)), (fun h => absurd h (by omega))⟩) (Sub.cons rfl (Sub.cons rfl (Sub.cons rfl (Sub.cons rfl (Sub.cons lookO (Sub.cons lookO Sub.nil)))))) (show Fit κ _ (blk b1 [I64 (x.u), I64 (x.v)] 150 :: I) from Fit.sub) ?_
 rintro ⟨i, j⟩ hp
 obtain ⟨hij, hj, hlo, hhi⟩ : (i ≤ j) ∧ (j ≤ xs.length) ∧ (0 < i → cf (at_ xs ((i : Int) - 1)) x < 0) ∧ (j < xs.length → ¬ cf (at_ xs (j : Int)) x < 0) := hp
 show W Try.prog κ 49 _ _ ([(0, v), (2, .func (.func g) #[] cp_.toArray), (4, .pointer (some ⟨b1, 0, none⟩)), (8, I64 (((xs.length : Nat) : Int))), (9, I64 (((i : Nat) : Int))), (10, I64 (((j : Nat) : Int)))] : Env) (blk b1 [I64 (x.u), I64 (x.v)] 150 :: I)
 refine W.seq ?_
 refine W.sr ?_
 refine G.r (Runs.move rfl) ?_
 refine G.r (Runs.move rfl) ?_
 refine G.r (Runs.lss rfl rfl) ?_
 refine G.nt ?_
 refine W.ite rfl (fun c17 => ?_) (fun c17 => ?_)
 ·refine W.skip ?_
  refine V.then ?_
  refine W.block ?_
  refine W.sr ?_
  refine G.r (Runs.move rfl) ?_
  refine G.r (Runs.move rfl) ?_
  refine G.r (Runs.add rfl rfl (by unfold InR; omega)) ?_
  refine G.r (Runs.convU Try.underlying3 Try.underlying230 rfl (by omega)) ?_
  refine G.r (Runs.shr1 rfl rfl) ?_
  refine G.r (Runs.convI Try.underlying230 Try.underlying3 rfl (by unfold InR; omega)) ?_
  refine G.r (Runs.assign rfl) ?_
  refine G.nt ?_
  refine W.sub (L' := [(11, _), (0, _), (2, _), (4, _), (8, _), (9, _), (10, _)]) (Sub.cons rfl (Sub.cons rfl (Sub.cons rfl (Sub.cons rfl (Sub.cons rfl (Sub.cons rfl (Sub.cons rfl Sub.nil))))))) ?_
  refine W.seq ?_
  refine W.drawn mixed ?_
  refine A.hold (blk b1 [I64 (x.u), I64 (x.v)] 150 :: I) 8 ?_
  refine D.r 0 rfl (Runs.move rfl) ?_ (hJ := Fit.sub)
  refine D.r 1 rfl (Runs.move rfl) ?_ (hJ := Fit.sub)
  refine D.r 2 rfl (Runs.move rfl) ?_ (hJ := Fit.sub)
  refine D.r 3 rfl (Runs.idx (α := Pt) (xs := xs) Try.underlying97 ty150 rfl rfl (Sl.f hl) (by omega) (by omega)) ?_ (hJ := Fit.sub)
  refine D.r 4 rfl (Runs.gets (α := Pt) (xs := xs) ty150 rfl (Sl.f hl) (by omega) (by omega)) ?_ (hJ := Fit.sub)
  refine D.r 5 rfl (Runs.lds (vs := [_, _]) ty150) ?_ (hJ := Fit.sub)
  refine D.step (rs := [6]) (by kernel_rfl) rfl rfl (all1 ?_)
  refine Step.eff rfl (Wanted.plain rfl) (Eff.callv hcb.1 (first := []) (caps := cp_) rfl rfl rfl (hcb.2 (at_ xs ((((i : Nat) : Int) + ((j : Nat) : Int)) / 2)) x _ Fit.m)) ?_
  rintro _ _ ⟨_, _, ⟨rfl, rfl⟩, rfl, rfl⟩
  refine ⟨Fit.sub, ?_⟩
  refine D.r 7 rfl (Runs.lss rfl rfl) ?_ (hJ := Fit.sub)
  refine D.done (by kernel_rfl) ?_
  refine V.then ?_
  refine W.sub (L' := [(31, _), (11, _), (0, _), (2, _), (4, _), (8, _), (9, _), (10, _)]) (Sub.cons rfl (Sub.cons rfl (Sub.cons rfl (Sub.cons rfl (Sub.cons rfl (Sub.cons rfl (Sub.cons rfl (Sub.cons rfl Sub.nil)))))))) ?_
  refine W.ite rfl (fun c31 => ?_) (fun c31 => ?_)
  ·refine W.region ?_
   refine G.r (Runs.move rfl) ?_
   refine G.r (Runs.add rfl rfl (by unfold InR; omega)) ?_
   refine G.r (Runs.assign rfl) ?_
   refine G.nil ?_
   refine V.block_normal ?_
   exact V.next (((i + j) / 2 + 1), (j)) (show (((i + j) / 2 + 1 : Nat) ≤ (j : Nat)) ∧ ((j : Nat) ≤ xs.length) ∧ (0 < ((i + j) / 2 + 1 : Nat) → cf (at_ xs ((((i + j) / 2 + 1 : Nat) : Int) - 1)) x < 0) ∧ ((j : Nat) < xs.length → ¬ cf (at_ xs ((j : Nat) : Int)) x < 0) from ⟨(by omega), (by omega), (fun _ => by rw [show (((i + j) / 2 + 1 : Nat) : Int) - 1 = (((i : Nat) : Int) + ((j : Nat) : Int)) / 2 by omega]; exact c31), hhi⟩) (show (j : Nat) - ((i + j) / 2 + 1 : Nat) < j - i from (by omega)) (Sub.cons rfl (Sub.cons rfl (Sub.cons rfl (Sub.cons rfl (Sub.cons lookO (Sub.cons lookO Sub.nil)))))) (show Fit κ _ (blk b1 [I64 (x.u), I64 (x.v)] 150 :: I) from Fit.sub)
  ·refine W.region ?_
   refine G.r (Runs.move rfl) ?_
   refine G.r (Runs.assign rfl) ?_
   refine G.nil ?_
   refine V.block_normal ?_
   exact V.next ((i), ((i + j) / 2)) (show ((i : Nat) ≤ ((i + j) / 2 : Nat)) ∧ (((i + j) / 2 : Nat) ≤ xs.length) ∧ (0 < (i : Nat) → cf (at_ xs (((i : Nat) : Int) - 1)) x < 0) ∧ (((i + j) / 2 : Nat) < xs.length → ¬ cf (at_ xs (((i + j) / 2 : Nat) : Int)) x < 0) from ⟨(by omega), (by omega), hlo, (fun _ => by rw [show (((i + j) / 2 : Nat) : Int) = (((i : Nat) : Int) + ((j : Nat) : Int)) / 2 by omega]; exact c31)⟩) (show ((i + j) / 2 : Nat) - (i : Nat) < j - i from (by omega)) (Sub.cons rfl (Sub.cons rfl (Sub.cons rfl (Sub.cons rfl (Sub.cons lookO (Sub.cons lookO Sub.nil)))))) (show Fit κ _ (blk b1 [I64 (x.u), I64 (x.v)] 150 :: I) from Fit.sub)
 ·refine W.exit ?_
  refine V.then_exit ?_
  refine V.then_exit ?_
  refine V.block_hit ?_
  refine V.then ?_
  refine W.seq ?_
  refine W.drawn mixed ?_
  refine A.hold (blk b1 [I64 (x.u), I64 (x.v)] 150 :: I) 16 ?_
  refine D.r 0 rfl (Runs.move rfl) ?_ (hJ := Fit.sub)
  refine D.r 1 rfl (Runs.move rfl) ?_ (hJ := Fit.sub)
  refine D.r 2 rfl (Runs.move rfl) ?_ (hJ := Fit.sub)
  refine D.r 3 rfl (Runs.lss rfl rfl) ?_ (hJ := Fit.sub)
  refine D.r 4 rfl (Runs.move rfl) ?_ (hJ := Fit.sub)
  refine D.split (d := 39) rfl (fun g39 => ?_) (fun g39 => ?_)
  ·refine D.read 5 rfl (by kernel_rfl) (by kernel_rfl) (by kernel_rfl) rfl (by kernel_rfl) (fun _ _ _ _ h => h) (Wanted.on rfl rfl rfl) rfl rfl Fit.sub (Runs.move rfl) ?_
   refine D.read 6 rfl (by kernel_rfl) (by kernel_rfl) (by kernel_rfl) rfl (by kernel_rfl) (fun _ _ _ _ h => h) (Wanted.on rfl rfl rfl) rfl rfl Fit.sub (Runs.move rfl) ?_
   refine D.read 7 rfl (by kernel_rfl) (by kernel_rfl) (by kernel_rfl) rfl (by kernel_rfl) (fun _ _ _ _ h => h) (Wanted.on rfl rfl rfl) rfl rfl Fit.sub (Runs.move rfl) ?_
   refine D.read 8 rfl (by kernel_rfl) (by kernel_rfl) (by kernel_rfl) rfl (by kernel_rfl) (fun _ _ _ _ h => h) (Wanted.on rfl rfl rfl) rfl rfl Fit.sub (Runs.idx (α := Pt) (xs := xs) Try.underlying97 ty150 rfl rfl (Sl.f hl) (by omega) (by omega)) ?_
   refine D.read 9 rfl (by kernel_rfl) (by kernel_rfl) (by kernel_rfl) rfl (by kernel_rfl) (fun _ _ _ _ h => h) (Wanted.on rfl rfl rfl) rfl rfl Fit.sub (Runs.gets (α := Pt) (xs := xs) ty150 rfl (Sl.f hl) (by omega) (by omega)) ?_
   refine D.read 10 rfl (by kernel_rfl) (by kernel_rfl) (by kernel_rfl) rfl (by kernel_rfl) (fun _ _ _ _ h => h) (Wanted.on rfl rfl rfl) rfl rfl Fit.sub (Runs.lds (vs := [_, _]) ty150) ?_
   refine D.step (rs := [11]) (by kernel_rfl) rfl rfl (all1 ?_)
   refine Step.eff rfl (Wanted.on rfl rfl rfl) (Eff.callv hcb.1 (first := []) (caps := cp_) rfl rfl rfl (hcb.2 (at_ xs ((i : Nat) : Int)) x _ Fit.m)) ?_
   rintro _ _ ⟨_, _, ⟨rfl, rfl⟩, rfl, rfl⟩
   refine ⟨Fit.sub, ?_⟩
   refine D.read 12 rfl (by kernel_rfl) (by kernel_rfl) (by kernel_rfl) rfl (by kernel_rfl) (fun _ _ _ _ h => h) (Wanted.on rfl rfl rfl) rfl rfl Fit.sub (Runs.eql rfl rfl) ?_
   refine D.r 13 rfl (Runs.pickt rfl rfl) ?_ (hJ := Fit.sub)
   refine D.r 14 rfl (Runs.assign rfl) ?_ (hJ := Fit.sub)
   refine D.r 15 rfl (Runs.assign rfl) ?_ (hJ := Fit.sub)
   refine D.done (by kernel_rfl) ?_
   refine V.then ?_
   refine W.sub (L' := [(7, _), (6, _)]) (Sub.cons rfl (Sub.cons rfl Sub.nil)) ?_
   refine W.ret ?_
   have hie : i = j := by omega
   subst hie
   exact V.ret2 rfl rfl rfl (I) Fit.m ⟨i, _, rfl, ⟨hj, hlo, hhi, (decide_eq_decide.2 ⟨fun h => ⟨by omega, h⟩, fun h => h.2⟩)⟩, rfl⟩
  ·refine D.pass 5 rfl (by kernel_rfl) (by kernel_rfl) (by kernel_rfl) rfl (by kernel_rfl) (fun _ _ _ _ h => h) (Unwanted.off rfl rfl rfl) rfl rfl Fit.sub ?_
   refine D.pass 6 rfl (by kernel_rfl) (by kernel_rfl) (by kernel_rfl) rfl (by kernel_rfl) (fun _ _ _ _ h => h) (Unwanted.off rfl rfl rfl) rfl rfl Fit.sub ?_
   refine D.pass 7 rfl (by kernel_rfl) (by kernel_rfl) (by kernel_rfl) rfl (by kernel_rfl) (fun _ _ _ _ h => h) (Unwanted.off rfl rfl rfl) rfl rfl Fit.sub ?_
   refine D.pass 8 rfl (by kernel_rfl) (by kernel_rfl) (by kernel_rfl) rfl (by kernel_rfl) (fun _ _ _ _ h => h) (Unwanted.off rfl rfl rfl) rfl rfl Fit.sub ?_
   refine D.pass 9 rfl (by kernel_rfl) (by kernel_rfl) (by kernel_rfl) rfl (by kernel_rfl) (fun _ _ _ _ h => h) (Unwanted.off rfl rfl rfl) rfl rfl Fit.sub ?_
   refine D.pass 10 rfl (by kernel_rfl) (by kernel_rfl) (by kernel_rfl) rfl (by kernel_rfl) (fun _ _ _ _ h => h) (Unwanted.off rfl rfl rfl) rfl rfl Fit.sub ?_
   refine D.pass 11 rfl (by kernel_rfl) (by kernel_rfl) (by kernel_rfl) rfl (by kernel_rfl) (fun _ _ _ _ h => h) (Unwanted.off rfl rfl rfl) rfl rfl Fit.sub ?_
   refine D.pass 12 rfl (by kernel_rfl) (by kernel_rfl) (by kernel_rfl) rfl (by kernel_rfl) (fun _ _ _ _ h => h) (Unwanted.off rfl rfl rfl) rfl rfl Fit.sub ?_
   refine D.r 13 rfl (Runs.pickf rfl rfl) ?_ (hJ := Fit.sub)
   refine D.r 14 rfl (Runs.assign rfl) ?_ (hJ := Fit.sub)
   refine D.r 15 rfl (Runs.assign rfl) ?_ (hJ := Fit.sub)
   refine D.done (by kernel_rfl) ?_
   refine V.then ?_
   refine W.sub (L' := [(7, _), (6, _)]) (Sub.cons rfl (Sub.cons rfl Sub.nil)) ?_
   refine W.ret ?_
   have hie : i = j := by omega
   subst hie
   exact V.ret2 rfl rfl rfl (I) Fit.m ⟨i, _, rfl, ⟨hj, hlo, hhi, ((decide_eq_false (fun h => by omega)).symm)⟩, rfl⟩

theorem CompactE_ok {κ : Ctx} {I : List Item} {a : Option Addr} {c : Nat} {xs : List Pt} (hsz : xs.length < 1000000000000) :
    CallS Try.prog κ 140 [.slice a xs.length c] (vc 150 (.slice a xs.length c) (xs) :: I) (fun r J => ∃ ys, (r = .slice a (compactN xs xs.length).length c ∧ ys = compactN xs xs.length) ∧ J = vc 150 (.slice a ys.length c) ys :: I) := by
 refine CallS.pull (vc.cap List.mem_cons_self) fun hcap => ?_
 refine CallS.enter (L := [(0, .slice a xs.length c)]) Try.func140 rfl rfl rfl rfl ?_
 refine W.sr ?_
 refine G.r (Runs.assign rfl) ?_
 refine G.nt ?_
 refine W.seq ?_
 refine W.sr ?_
 refine G.r (Runs.move rfl) ?_
 refine G.r (Runs.lens Try.underlying97 rfl) ?_
 refine G.r (Runs.lss rfl rfl) ?_
 refine G.nt ?_
 refine W.ite rfl (fun c8 => ?_) (fun c8 => ?_)
 ·refine W.sr ?_
  refine G.r (Runs.move rfl) ?_
  refine G.r (Runs.assign rfl) ?_
  refine G.nt ?_
  refine W.ret ?_
  refine V.then_ret ?_
  have hc : compactN xs xs.length = xs := (compactN_take (fun j h1 h2 => by omega) (Nat.le_refl _)).trans (List.take_length)
  exact V.ret1 rfl rfl (vc 150 (.slice a xs.length c) xs :: I) Fit.sub ⟨xs, ⟨by rw [hc], hc.symm⟩, rfl⟩
 ·refine W.skip ?_
  refine V.then ?_
  refine W.seq ?_
  refine W.sr ?_
  refine G.r (Runs.assign rfl) ?_
  refine G.nt ?_
  refine W.block ?_
  refine W.loop (σ := Nat) (fun s => ([(0, .slice a xs.length c), (3, I64 (((s : Nat) : Int)))] : Env)) (fun s => vc 150 (.slice a xs.length c) (xs) :: I) (fun s => (1 ≤ s ∧ s ≤ xs.length) ∧ (∀ j, j < s → 0 < j → at_ xs (j : Int) ≠ at_ xs ((j : Int) - 1))) (fun s => xs.length - s) (1) (show (1 ≤ (1 : Nat) ∧ (1 : Nat) ≤ xs.length) ∧ (∀ j, j < (1 : Nat) → 0 < j → at_ xs (j : Int) ≠ at_ xs ((j : Int) - 1)) from ⟨(by omega), (fun j h1 h2 => by omega)⟩) (Sub.cons rfl (Sub.cons lookO Sub.nil)) (show Fit κ _ (vc 150 (.slice a xs.length c) (xs) :: I) from Fit.sub) ?_
  rintro k hp
  obtain ⟨hk, hne⟩ : (1 ≤ k ∧ k ≤ xs.length) ∧ (∀ j, j < k → 0 < j → at_ xs (j : Int) ≠ at_ xs ((j : Int) - 1)) := hp
  show W Try.prog κ 61 _ _ ([(0, .slice a xs.length c), (3, I64 (((k : Nat) : Int)))] : Env) (vc 150 (.slice a xs.length c) (xs) :: I)
  refine W.seq ?_
  refine W.sr ?_
  refine G.r (Runs.move rfl) ?_
  refine G.r (Runs.move rfl) ?_
  refine G.r (Runs.lens Try.underlying97 rfl) ?_
  refine G.r (Runs.lss rfl rfl) ?_
  refine G.nt ?_
  refine W.ite rfl (fun c13 => ?_) (fun c13 => ?_)
  ·refine W.skip ?_
   refine V.then ?_
   refine W.seq ?_
   refine W.block ?_
   refine W.seq ?_
   refine W.drawn mixed ?_
   refine A.hold (vc 150 (.slice a xs.length c) (xs) :: I) 10 ?_
   refine D.r 0 rfl (Runs.move rfl) ?_
   refine D.r 1 rfl (Runs.move rfl) ?_
   refine D.r 2 rfl (Runs.idx (α := Pt) (xs := xs) Try.underlying97 ty150 rfl rfl Sl.o (by omega) (by first | omega | (simp only [List.length_drop]; omega))) ?_
   refine D.r 3 rfl (Runs.gets (α := Pt) (xs := xs) ty150 rfl Sl.o (by omega) (by first | omega | (simp only [List.length_drop]; omega))) ?_
   refine D.r 4 rfl (Runs.move rfl) ?_
   refine D.r 5 rfl (Runs.move rfl) ?_
   refine D.r 6 rfl (Runs.sub rfl rfl (by unfold InR; omega)) ?_
   refine D.r 7 rfl (Runs.idx (α := Pt) (xs := xs) Try.underlying97 ty150 rfl rfl Sl.o (by omega) (by first | omega | (simp only [List.length_drop]; omega))) ?_
   refine D.r 8 rfl (Runs.gets (α := Pt) (xs := xs) ty150 rfl Sl.o (by omega) (by first | omega | (simp only [List.length_drop]; omega))) ?_
   refine D.r 9 rfl (Runs.eqlT (α := Pt) (a := (at_ xs ((k : Nat) : Int))) (b := (at_ xs (((k : Nat) : Int) - 1))) eqt150 rfl rfl) ?_
   refine D.done (by kernel_rfl) ?_
   refine V.then ?_
   refine W.sub (L' := [(25, _), (0, _), (3, _)]) (Sub.cons rfl (Sub.cons rfl (Sub.cons rfl Sub.nil))) ?_
   refine W.ite rfl (fun c25 => ?_) (fun c25 => ?_)
   ·refine W.sr ?_
    refine G.r (Runs.move rfl) ?_
    refine G.r (Runs.move rfl) ?_
    refine G.r (Runs.lo (α := Pt) (xs := xs) (l := k) Try.underlying97 ty150 rfl rfl (by omega) Sl.o (by omega)) ?_
    refine G.r (Runs.assign rfl) ?_
    refine G.nt ?_
    refine W.seq ?_
    refine W.sr ?_
    refine G.r (Runs.assign rfl) ?_
    refine G.nt ?_
    refine W.block ?_
    refine W.loop (σ := Nat × Nat × (List Pt)) (fun s => ([(0, .slice a xs.length c), (3, I64 (((s.1 : Nat) : Int))), (4, .slice (adrop a c k (Enc.sz Pt)) (List.drop k xs).length (c - k)), (5, I64 (((s.2.1 : Nat) : Int)))] : Env)) (fun s => vc 150 (.slice a xs.length c) (s.2.2) :: I) (fun s => (1 ≤ s.2.1 ∧ k + s.2.1 ≤ xs.length) ∧ (s.2.2.length = xs.length) ∧ (1 ≤ s.1 ∧ s.1 < k + s.2.1) ∧ (s.2.2.take s.1 = compactN xs (k + s.2.1)) ∧ (∀ j, k + s.2.1 ≤ j + 1 → at_ s.2.2 (j : Int) = at_ xs (j : Int))) (fun s => xs.length - (k + s.2.1)) (k, 1, xs) (show (1 ≤ (1 : Nat) ∧ k + (1 : Nat) ≤ xs.length) ∧ ((xs : List Pt).length = xs.length) ∧ (1 ≤ (k : Nat) ∧ (k : Nat) < k + (1 : Nat)) ∧ ((xs : List Pt).take (k : Nat) = compactN xs (k + (1 : Nat))) ∧ (∀ j, k + (1 : Nat) ≤ j + 1 → at_ (xs : List Pt) (j : Int) = at_ xs (j : Int)) from ⟨(by omega), (by omega), (by omega), (by rw [← compactN_take hne (by omega)]; simp only [compactN]; rw [if_pos ⟨by omega, c25⟩]), (fun _ _ => rfl)⟩) (Sub.cons rfl (Sub.cons lookO (Sub.cons rfl (Sub.cons lookO Sub.nil)))) (show Fit κ _ (vc 150 (.slice a xs.length c) ((xs)) :: I) from Fit.sub) ?_
    rintro ⟨m, q, ys⟩ hp
    obtain ⟨hq, hyl, hm, htk, hsame⟩ : (1 ≤ q ∧ k + q ≤ xs.length) ∧ (ys.length = xs.length) ∧ (1 ≤ m ∧ m < k + q) ∧ (ys.take m = compactN xs (k + q)) ∧ (∀ j, k + q ≤ j + 1 → at_ ys (j : Int) = at_ xs (j : Int)) := hp
    show W Try.prog κ 61 _ _ ([(0, .slice a xs.length c), (3, I64 (((m : Nat) : Int))), (4, .slice (adrop a c k (Enc.sz Pt)) (List.drop k xs).length (c - k)), (5, I64 (((q : Nat) : Int)))] : Env) (vc 150 (.slice a xs.length c) (ys) :: I)
    have hdl : (List.drop k xs).length = xs.length - k := List.length_drop
    have hq1 := hsame (k + q) (by omega)
    have hq2 := hsame (k + q - 1) (by omega)
    rw [show ((k + q - 1 : Nat) : Int) = ((k + q : Nat) : Int) - 1 by omega] at hq2
    refine W.seq ?_
    refine W.sr ?_
    refine G.r (Runs.move rfl) ?_
    refine G.r (Runs.move rfl) ?_
    refine G.r (Runs.lens Try.underlying97 rfl) ?_
    refine G.r (Runs.lss rfl rfl) ?_
    refine G.nt ?_
    refine W.ite rfl (fun c32 => ?_) (fun c32 => ?_)
    ·refine W.skip ?_
     refine V.then ?_
     refine W.seq ?_
     refine W.block ?_
     refine W.seq ?_
     refine W.drawn mixed ?_
     refine A.hold (vc 150 (.slice a xs.length c) (ys) :: I) 10 ?_
     refine D.r 0 rfl (Runs.move rfl) ?_
     refine D.r 1 rfl (Runs.move rfl) ?_
     refine D.r 2 rfl (Runs.idx (α := Pt) (xs := List.drop k ys) Try.underlying97 ty150 rfl rfl (Sl.dropn Sl.o (by omega) (by rw [List.length_drop]; omega)) (by omega) (by first | omega | (simp only [List.length_drop]; omega))) ?_
     refine D.r 3 rfl (Runs.gets (α := Pt) (xs := List.drop k ys) ty150 rfl (Sl.dropn Sl.o (by omega) (by rw [List.length_drop]; omega)) (by omega) (by first | omega | (simp only [List.length_drop]; omega))) ?_
     refine D.r 4 rfl (Runs.move rfl) ?_
     refine D.r 5 rfl (Runs.move rfl) ?_
     refine D.r 6 rfl (Runs.sub rfl rfl (by unfold InR; omega)) ?_
     refine D.r 7 rfl (Runs.idx (α := Pt) (xs := List.drop k ys) Try.underlying97 ty150 rfl rfl (Sl.dropn Sl.o (by omega) (by rw [List.length_drop]; omega)) (by omega) (by first | omega | (simp only [List.length_drop]; omega))) ?_
     refine D.r 8 rfl (Runs.gets (α := Pt) (xs := List.drop k ys) ty150 rfl (Sl.dropn Sl.o (by omega) (by rw [List.length_drop]; omega)) (by omega) (by first | omega | (simp only [List.length_drop]; omega))) ?_
     refine D.r 9 rfl (Runs.neqT (α := Pt) (a := (at_ (List.drop k ys) ((q : Nat) : Int))) (b := (at_ (List.drop k ys) (((q : Nat) : Int) - 1))) eqt150 rfl rfl) ?_
     refine D.done (by kernel_rfl) ?_
     refine V.then ?_
     refine W.sub (L' := [(44, _), (0, _), (3, _), (4, _), (5, _)]) (Sub.cons rfl (Sub.cons rfl (Sub.cons rfl (Sub.cons rfl (Sub.cons rfl Sub.nil))))) ?_
     refine W.ite rfl (fun c44 => ?_) (fun c44 => ?_)
     ·refine W.sr ?_
      refine G.r (Runs.move rfl) ?_
      refine G.r (Runs.move rfl) ?_
      refine G.r (Runs.move rfl) ?_
      refine G.r (Runs.move rfl) ?_
      refine G.r (Runs.idx (α := Pt) (xs := List.drop k ys) Try.underlying97 ty150 rfl rfl (Sl.dropn Sl.o (by omega) (by rw [List.length_drop]; omega)) (by omega) (by first | omega | (simp only [List.length_drop]; omega))) ?_
      refine G.r (Runs.gets (α := Pt) (xs := List.drop k ys) ty150 rfl (Sl.dropn Sl.o (by omega) (by rw [List.length_drop]; omega)) (by omega) (by first | omega | (simp only [List.length_drop]; omega))) ?_
      refine G.r (Runs.idx (α := Pt) (xs := ys) Try.underlying97 ty150 rfl rfl Sl.o (by omega) (by first | omega | (simp only [List.length_drop]; omega))) ?_
      refine G.e (Eff.set (α := Pt) (xs := ys) (e := 150) (new := ⟨(at_ (List.drop k ys) ((q : Nat) : Int)).u, (at_ (List.drop k ys) ((q : Nat) : Int)).v⟩) ty150 rfl rfl rfl (by omega) (by first | omega | (simp only [List.length_drop]; omega)) (by repeat (first | exact At.head _ _ _ | apply At.tail))) ?_
      rintro _ _ ⟨rfl, rfl⟩
      refine G.nt ?_
      refine W.region ?_
      refine G.r (Runs.move rfl) ?_
      refine G.r (Runs.add rfl rfl (by unfold InR; omega)) ?_
      refine G.r (Runs.assign rfl) ?_
      refine G.nil ?_
      refine V.block_normal ?_
      refine V.then ?_
      refine W.sub (L' := [(3, _), (0, _), (4, _), (5, _)]) (Sub.cons rfl (Sub.cons rfl (Sub.cons rfl (Sub.cons rfl Sub.nil)))) ?_
      refine W.region ?_
      refine G.r (Runs.move rfl) ?_
      refine G.r (Runs.add rfl rfl (by unfold InR; omega)) ?_
      refine G.r (Runs.assign rfl) ?_
      refine G.nil ?_
      have hd1 : at_ (List.drop k ys) ((q : Nat) : Int) = at_ ys ((k + q : Nat) : Int) := by rw [at_drop _ _ _ (by omega)]; congr 1
      have hd2 : at_ (List.drop k ys) (((q : Nat) : Int) - 1) = at_ ys (((k + q : Nat) : Int) - 1) := by rw [at_drop _ _ _ (by omega)]; congr 1; omega
      have hset : List.set ys (((m : Nat) : Int)).toNat (⟨(at_ (List.drop k ys) ((q : Nat) : Int)).u, (at_ (List.drop k ys) ((q : Nat) : Int)).v⟩) = ys.set m (at_ ys ((k + q : Nat) : Int)) := by rw [← hd1]; rfl
      rw [hset]
      rw [hd1, hd2] at c44
      exact V.next ((m + 1), (q + 1), (ys.set m (at_ ys ((k + q : Nat) : Int)))) (show (1 ≤ (q + 1 : Nat) ∧ k + (q + 1 : Nat) ≤ xs.length) ∧ ((ys.set m (at_ ys ((k + q : Nat) : Int)) : List Pt).length = xs.length) ∧ (1 ≤ (m + 1 : Nat) ∧ (m + 1 : Nat) < k + (q + 1 : Nat)) ∧ ((ys.set m (at_ ys ((k + q : Nat) : Int)) : List Pt).take (m + 1 : Nat) = compactN xs (k + (q + 1 : Nat))) ∧ (∀ j, k + (q + 1 : Nat) ≤ j + 1 → at_ (ys.set m (at_ ys ((k + q : Nat) : Int)) : List Pt) (j : Int) = at_ xs (j : Int)) from ⟨(by omega), (by rw [List.length_set]; exact hyl), (by omega), (by rw [show k + (q + 1) = k + q + 1 by omega]; exact compact_put htk (by omega) c44 hq1 hq2), (fun j hj => by rw [at_setn _ _ _ _ (by omega), if_neg (by omega)]; exact hsame j (by omega))⟩) (show xs.length - (k + (q + 1 : Nat)) < xs.length - (k + q) from (by simp only [List.length_drop] at *; omega)) (Sub.cons rfl (Sub.cons lookO (Sub.cons rfl (Sub.cons lookO Sub.nil)))) (show Fit κ _ (vc 150 (.slice a xs.length c) ((ys.set m (at_ ys ((k + q : Nat) : Int)))) :: I) from Fit.sub)
     ·refine W.skip ?_
      refine V.block_normal ?_
      refine V.then ?_
      refine W.region ?_
      refine G.r (Runs.move rfl) ?_
      refine G.r (Runs.add rfl rfl (by unfold InR; omega)) ?_
      refine G.r (Runs.assign rfl) ?_
      refine G.nil ?_
      have hd1 : at_ (List.drop k ys) ((q : Nat) : Int) = at_ ys ((k + q : Nat) : Int) := by rw [at_drop _ _ _ (by omega)]; congr 1
      have hd2 : at_ (List.drop k ys) (((q : Nat) : Int) - 1) = at_ ys (((k + q : Nat) : Int) - 1) := by rw [at_drop _ _ _ (by omega)]; congr 1; omega
      rw [hd1, hd2] at c44
      exact V.next ((m), (q + 1), (ys)) (show (1 ≤ (q + 1 : Nat) ∧ k + (q + 1 : Nat) ≤ xs.length) ∧ ((ys : List Pt).length = xs.length) ∧ (1 ≤ (m : Nat) ∧ (m : Nat) < k + (q + 1 : Nat)) ∧ ((ys : List Pt).take (m : Nat) = compactN xs (k + (q + 1 : Nat))) ∧ (∀ j, k + (q + 1 : Nat) ≤ j + 1 → at_ (ys : List Pt) (j : Int) = at_ xs (j : Int)) from ⟨(by omega), (by omega), (by omega), (by rw [show k + (q + 1) = k + q + 1 by omega]; exact compact_keep htk (by omega) c44 hq1 hq2), (fun j hj => hsame j (by omega))⟩) (show xs.length - (k + (q + 1 : Nat)) < xs.length - (k + q) from (by simp only [List.length_drop] at *; omega)) (Sub.cons rfl (Sub.cons lookO (Sub.cons rfl (Sub.cons lookO Sub.nil)))) (show Fit κ _ (vc 150 (.slice a xs.length c) ((ys)) :: I) from Fit.sub)
    ·refine W.exit ?_
     refine V.then_exit ?_
     refine V.then_exit ?_
     refine V.block_hit ?_
     refine V.then ?_
     refine W.sr ?_
     refine G.r (Runs.move rfl) ?_
     refine G.r (Runs.move rfl) ?_
     refine G.r (Runs.lo (α := Pt) (xs := ys) (l := m) Try.underlying97 ty150 rfl rfl (by omega) Sl.o (by omega)) ?_
     refine G.e (Eff.clear (α := Pt) (k := m) (xs := ys) Try.underlying97 ty150 (AllOne.cons rfl (AllOne.cons rfl AllOne.nil)) rfl rfl (by omega) (by repeat (first | exact At.head _ _ _ | apply At.tail))) ?_
     rintro _ _ ⟨rfl, rfl⟩
     refine G.nt ?_
     refine W.sr ?_
     refine G.r (Runs.move rfl) ?_
     refine G.r (Runs.move rfl) ?_
     refine G.r (Runs.hiraw (h := m) Try.underlying97 ty150 rfl rfl (by omega) (by omega)) ?_
     refine G.r (Runs.assign rfl) ?_
     refine G.nt ?_
     refine W.sub (L' := [(2, _)]) (Sub.cons rfl Sub.nil) ?_
     refine W.ret ?_
     refine V.block_ret ?_
     refine V.then_ret ?_
     refine V.then_ret ?_
     refine V.block_ret ?_
     refine V.then_ret ?_
     have hc : ys.take m = compactN xs xs.length := by rw [htk]; congr 1; omega
     exact V.ret1 rfl rfl (vc 150 (.slice a (List.take m ys).length c) (List.take m ys) :: I) Fit.sub ⟨_, ⟨by rw [← hc, List.length_take, hyl, Nat.min_eq_left (by omega)], hc⟩, rfl⟩
   ·refine W.skip ?_
    refine V.block_normal ?_
    refine V.then ?_
    refine W.region ?_
    refine G.r (Runs.move rfl) ?_
    refine G.r (Runs.add rfl rfl (by unfold InR; omega)) ?_
    refine G.r (Runs.assign rfl) ?_
    refine G.nil ?_
    exact V.next ((k + 1)) (show (1 ≤ (k + 1 : Nat) ∧ (k + 1 : Nat) ≤ xs.length) ∧ (∀ j, j < (k + 1 : Nat) → 0 < j → at_ xs (j : Int) ≠ at_ xs ((j : Int) - 1)) from ⟨(by omega), (all_succ hne (fun _ => c25))⟩) (show xs.length - (k + 1 : Nat) < xs.length - k from (by omega)) (Sub.cons rfl (Sub.cons lookO Sub.nil)) (show Fit κ _ (vc 150 (.slice a xs.length c) (xs) :: I) from Fit.sub)
  ·refine W.exit ?_
   refine V.then_exit ?_
   refine V.then_exit ?_
   refine V.block_hit ?_
   refine V.then ?_
   refine W.sr ?_
   refine G.r (Runs.move rfl) ?_
   refine G.r (Runs.assign rfl) ?_
   refine G.nt ?_
   refine W.ret ?_
   have hc : compactN xs xs.length = xs := (compactN_take (fun j h1 h2 => hne j (by omega) h2) (Nat.le_refl _)).trans (List.take_length)
   exact V.ret1 rfl rfl (vc 150 (.slice a xs.length c) xs :: I) Fit.sub ⟨xs, ⟨by rw [hc], hc.symm⟩, rfl⟩

end Go.Sl
namespace Go.Sl
open Go.Proofs
set_option linter.unusedVariables false
set_option linter.unusedSimpArgs false
set_option maxRecDepth 4000
theorem CheckGen_ok {κ : Ctx} {I : List Item} {nd : Int} {v : Value} {es : List Pt} (hl : Sl κ I v es) :
    CallS Try.prog κ 72 [.agg #[I64 (nd), v]] I (fun r J => r = I64 (checkG nd es) ∧ I = J) := by
 refine CallS.pull hl.le fun hmax => ?_
 refine CallS.enter (L := [(0, .agg #[I64 (nd), v])]) Try.func72 rfl rfl rfl rfl ?_
 refine W.sr ?_
 refine G.e (Eff.box (cs := [_, _]) rfl rfl rfl) ?_
 rintro _ _ ⟨b1, rfl, rfl⟩
 refine G.r (Runs.assign rfl) ?_
 refine G.nt ?_
 refine W.seq ?_
 refine W.sr ?_
 refine G.r (Runs.fieldAddr fld99_0 rfl) ?_
 refine G.r (Runs.ld ty3) ?_
 refine G.r (Runs.lss rfl rfl) ?_
 refine G.r (Runs.move rfl) ?_
 refine G.split (d := 8) rfl (fun g8 => ?_) (fun g8 => ?_)
 ·refine G.po ?_
  refine G.po ?_
  refine G.po ?_
  refine G.r (Runs.pickt rfl rfl) ?_
  refine G.nt ?_
  refine W.yes rfl ?_
  refine W.sr ?_
  refine G.r (Runs.assign rfl) ?_
  refine G.nt ?_
  refine W.ret ?_
  refine V.then_ret ?_
  exact V.ret1 rfl rfl (I) Fit.m ⟨by rw [show checkG nd es = 1 from (by unfold checkG; rw [if_pos (by omega)])], rfl⟩
 ·refine G.ro (Runs.fieldAddr fld99_0 rfl) ?_
  refine G.ro (Runs.ld ty3) ?_
  refine G.ro (Runs.gtr rfl rfl) ?_
  refine G.r (Runs.pickf rfl rfl) ?_
  refine G.nt ?_
  refine W.ite rfl (fun c12 => ?_) (fun c12 => ?_)
  ·refine W.sr ?_
   refine G.r (Runs.assign rfl) ?_
   refine G.nt ?_
   refine W.ret ?_
   refine V.then_ret ?_
   exact V.ret1 rfl rfl (I) Fit.m ⟨by rw [show checkG nd es = 1 from (by unfold checkG; rw [if_pos (by omega)])], rfl⟩
  ·refine W.skip ?_
   refine V.then ?_
   refine W.seq ?_
   refine W.sr ?_
   refine G.r (Runs.fieldAddr fld99_1 rfl) ?_
   refine G.r (Runs.ld ty97) ?_
   refine G.r (Runs.lenT (α := Pt) (xs := es) Try.underlying97 rfl (Sl.f hl)) ?_
   refine G.r (Runs.move rfl) ?_
   refine G.nt ?_
   refine W.sub (L' := [(16, _), (15, _), (14, _), (1, _)]) (Sub.cons rfl (Sub.cons rfl (Sub.cons rfl (Sub.cons rfl Sub.nil)))) ?_
   refine W.block ?_
   refine W.loop (σ := Nat) (fun s => ([(1, .pointer (some ⟨b1, 0, none⟩)), (14, v), (15, I64 (((es.length : Nat) : Int))), (16, I64 (((s : Nat) : Int)))] : Env)) (fun s => blk b1 [I64 (nd), v] 99 :: I) (fun s => (s ≤ es.length) ∧ (checkG nd es = scanL (badE nd) Pt.lt (prevAt es s) (es.drop s))) (fun s => es.length - s) (0) (show ((0 : Nat) ≤ es.length) ∧ (checkG nd es = scanL (badE nd) Pt.lt (prevAt es (0 : Nat)) (es.drop (0 : Nat))) from ⟨(by omega), (by unfold checkG; rw [if_neg (by omega)]; rfl)⟩) (Sub.cons rfl (Sub.cons rfl (Sub.cons rfl (Sub.cons lookO Sub.nil)))) (show Fit κ _ (blk b1 [I64 (nd), v] 99 :: I) from Fit.sub) ?_
   rintro k hp
   obtain ⟨hk, hs⟩ : (k ≤ es.length) ∧ (checkG nd es = scanL (badE nd) Pt.lt (prevAt es k) (es.drop k)) := hp
   show W Try.prog κ 54 _ _ ([(1, .pointer (some ⟨b1, 0, none⟩)), (14, v), (15, I64 (((es.length : Nat) : Int))), (16, I64 (((k : Nat) : Int)))] : Env) (blk b1 [I64 (nd), v] 99 :: I)
   refine W.sr ?_
   refine G.r (Runs.lss rfl rfl) ?_
   refine G.nt ?_
   refine W.seq ?_
   refine W.ite rfl (fun c17 => ?_) (fun c17 => ?_)
   ·refine W.skip ?_
    refine V.then ?_
    refine W.seq ?_
    refine W.block ?_
    refine W.sr ?_
    refine G.r (Runs.move rfl) ?_
    refine G.r (Runs.idx (α := Pt) (xs := es) Try.underlying97 ty150 rfl rfl (Sl.f hl) (by omega) (by omega)) ?_
    refine G.r (Runs.gets (α := Pt) (xs := es) ty150 rfl (Sl.f hl) (by omega) (by omega)) ?_
    refine G.e (Eff.alloc ty150 rfl) ?_
    rintro _ _ ⟨b2, rfl, rfl⟩
    refine G.r (Runs.assign rfl) ?_
    refine G.e (Eff.st (cs := [_, _]) (vs := [_, _]) (cs' := [_, _]) ty150) ?_
    rintro _ _ ⟨rfl, rfl⟩
    refine G.nt ?_
    refine W.block ?_
    refine W.sr ?_
    refine G.r (Runs.fieldAddr fld150_0 rfl) ?_
    refine G.r (Runs.ld ty3) ?_
    refine G.r (Runs.lss rfl rfl) ?_
    refine G.r (Runs.move rfl) ?_
    refine G.split (d := 25) rfl (fun g25 => ?_) (fun g25 => ?_)
    ·refine G.po ?_
     refine G.po ?_
     refine G.po ?_
     refine G.po ?_
     refine G.po ?_
     refine G.r (Runs.pickt rfl rfl) ?_
     refine G.r (Runs.move rfl) ?_
     refine G.po ?_
     refine G.po ?_
     refine G.po ?_
     refine G.po ?_
     refine G.po ?_
     refine G.r (Runs.pickt rfl rfl) ?_
     refine G.r (Runs.assign rfl) ?_
     refine G.nt ?_
     refine W.sub (L' := [(21, _), (3, _), (4, _), (1, _), (14, _), (15, _), (16, _)]) (Sub.cons rfl (Sub.cons rfl (Sub.cons rfl (Sub.cons rfl (Sub.cons rfl (Sub.cons rfl (Sub.cons rfl Sub.nil))))))) ?_
     refine W.yes rfl ?_
     refine W.sr ?_
     refine G.r (Runs.assign rfl) ?_
     refine G.nt ?_
     refine W.ret ?_
     refine V.block_ret ?_
     refine V.block_ret ?_
     refine V.then_ret ?_
     refine V.then_ret ?_
     refine V.block_ret ?_
     refine V.then_ret ?_
     exact V.ret1 rfl rfl (I) Fit.m ⟨by rw [show checkG nd es = 6 from (hs.trans ((scanL_bad (by omega) (by unfold badE; rw [if_pos (by omega)]; decide)).trans (by unfold badE; rw [if_pos (by omega)])))], rfl⟩
    ·refine G.ro (Runs.fieldAddr fld150_0 rfl) ?_
     refine G.ro (Runs.ld ty3) ?_
     refine G.ro (Runs.fieldAddr fld150_1 rfl) ?_
     refine G.ro (Runs.ld ty3) ?_
     refine G.ro (Runs.geq rfl rfl) ?_
     refine G.r (Runs.pickf rfl rfl) ?_
     refine G.r (Runs.move rfl) ?_
     refine G.split (d := 32) rfl (fun g32 => ?_) (fun g32 => ?_)
     ·refine G.po ?_
      refine G.po ?_
      refine G.po ?_
      refine G.po ?_
      refine G.po ?_
      refine G.r (Runs.pickt rfl rfl) ?_
      refine G.r (Runs.assign rfl) ?_
      refine G.nt ?_
      refine W.sub (L' := [(21, _), (3, _), (4, _), (1, _), (14, _), (15, _), (16, _)]) (Sub.cons rfl (Sub.cons rfl (Sub.cons rfl (Sub.cons rfl (Sub.cons rfl (Sub.cons rfl (Sub.cons rfl Sub.nil))))))) ?_
      refine W.yes rfl ?_
      refine W.sr ?_
      refine G.r (Runs.assign rfl) ?_
      refine G.nt ?_
      refine W.ret ?_
      refine V.block_ret ?_
      refine V.block_ret ?_
      refine V.then_ret ?_
      refine V.then_ret ?_
      refine V.block_ret ?_
      refine V.then_ret ?_
      exact V.ret1 rfl rfl (I) Fit.m ⟨by rw [show checkG nd es = 6 from (hs.trans ((scanL_bad (by omega) (by unfold badE; rw [if_pos (by omega)]; decide)).trans (by unfold badE; rw [if_pos (by omega)])))], rfl⟩
     ·refine G.ro (Runs.fieldAddr fld150_1 rfl) ?_
      refine G.ro (Runs.ld ty3) ?_
      refine G.ro (Runs.fieldAddr fld99_0 rfl) ?_
      refine G.ro (Runs.ld ty3) ?_
      refine G.ro (Runs.geq rfl rfl) ?_
      refine G.r (Runs.pickf rfl rfl) ?_
      refine G.r (Runs.assign rfl) ?_
      refine G.nt ?_
      refine W.sub (L' := [(21, _), (3, _), (4, _), (1, _), (14, _), (15, _), (16, _)]) (Sub.cons rfl (Sub.cons rfl (Sub.cons rfl (Sub.cons rfl (Sub.cons rfl (Sub.cons rfl (Sub.cons rfl Sub.nil))))))) ?_
      refine W.ite rfl (fun c21 => ?_) (fun c21 => ?_)
      ·refine W.sr ?_
       refine G.r (Runs.assign rfl) ?_
       refine G.nt ?_
       refine W.ret ?_
       refine V.block_ret ?_
       refine V.block_ret ?_
       refine V.then_ret ?_
       refine V.then_ret ?_
       refine V.block_ret ?_
       refine V.then_ret ?_
       exact V.ret1 rfl rfl (I) Fit.m ⟨by rw [show checkG nd es = 6 from (hs.trans ((scanL_bad (by omega) (by unfold badE; rw [if_pos (by omega)]; decide)).trans (by unfold badE; rw [if_pos (by omega)])))], rfl⟩
      ·refine W.seq ?_
       refine W.drawn mixed ?_
       refine A.hold (blk b2 [I64 ((at_ es ((k : Nat) : Int)).u), I64 ((at_ es ((k : Nat) : Int)).v)] 150 :: blk b1 [I64 (nd), v] 99 :: I) 14 ?_
       refine D.r 0 rfl (Runs.move rfl) ?_
       refine D.r 1 rfl (Runs.gtr rfl rfl) ?_
       refine D.r 2 rfl (Runs.move rfl) ?_
       refine D.split (d := 42) rfl (fun g42 => ?_) (fun g42 => ?_)
       ·refine D.ro 3 rfl (Runs.fieldAddr fld99_1 rfl) ?_
        refine D.ro 4 rfl (Runs.ld ty97) ?_
        refine D.ro 5 rfl (Runs.move rfl) ?_
        refine D.ro 6 rfl (Runs.sub rfl rfl (by unfold InR; omega)) ?_
        refine D.ro 7 rfl (Runs.idx (α := Pt) (xs := es) Try.underlying97 ty150 rfl rfl (Sl.f hl) (by omega) (by omega)) ?_
        refine D.ro 8 rfl (Runs.gets (α := Pt) (xs := es) ty150 rfl (Sl.f hl) (by omega) (by omega)) ?_
        refine D.ro 9 rfl (Runs.lds (vs := [_, _]) ty150) ?_
        refine D.step (rs := [10]) (by kernel_rfl) rfl rfl (all1 ?_)
        refine Step.eff rfl (Wanted.on rfl rfl rfl) (Eff.call call135 rfl rfl (Order_ok (at_ es (((k : Nat) : Int) - 1)) (at_ es ((k : Nat) : Int)))) ?_
        rintro _ _ ⟨_, _, ⟨rfl, rfl⟩, rfl, rfl⟩
        refine ⟨Fit.m, ?_⟩
        refine D.ro 11 rfl (Runs.geq rfl rfl) ?_
        refine D.r 12 rfl (Runs.pickt rfl rfl) ?_
        refine D.r 13 rfl (Runs.assign rfl) ?_
        refine D.done (by kernel_rfl) ?_
        refine V.then ?_
        refine W.sub (L' := [(39, _), (1, _), (14, _), (15, _), (16, _)]) (Sub.cons rfl (Sub.cons rfl (Sub.cons rfl (Sub.cons rfl (Sub.cons rfl Sub.nil))))) ?_
        refine W.ite rfl (fun c39 => ?_) (fun c39 => ?_)
        ·refine W.sr ?_
         refine G.r (Runs.assign rfl) ?_
         refine G.nt ?_
         refine W.ret ?_
         refine V.block_ret ?_
         refine V.block_ret ?_
         refine V.then_ret ?_
         refine V.then_ret ?_
         refine V.block_ret ?_
         refine V.then_ret ?_
         exact V.ret1 rfl rfl (I) Fit.m ⟨by rw [show checkG nd es = 5 from (hs.trans (scanL_order (by omega) (badE_zero.2 (by omega)) (by omega) (fun h => by have := (Pt.cmp_lt _ _).2 h; omega)))], rfl⟩
        ·refine W.skip ?_
         refine V.block_normal ?_
         refine V.block_normal ?_
         refine V.then ?_
         refine W.region ?_
         refine G.r (Runs.add rfl rfl (by unfold InR; omega)) ?_
         refine G.r (Runs.move rfl) ?_
         refine G.nil ?_
         exact V.next ((k + 1)) (show ((k + 1 : Nat) ≤ es.length) ∧ (checkG nd es = scanL (badE nd) Pt.lt (prevAt es (k + 1 : Nat)) (es.drop (k + 1 : Nat))) from ⟨(by omega), (hs.trans (scanL_step (by omega) (badE_zero.2 (by omega)) (fun h0 => by first | omega | exact (Pt.cmp_lt _ _).1 (by omega))))⟩) (show es.length - (k + 1 : Nat) < es.length - k from (by omega)) (Sub.cons rfl (Sub.cons rfl (Sub.cons rfl (Sub.cons lookO Sub.nil)))) (show Fit κ _ (blk b1 [I64 (nd), v] 99 :: I) from Fit.sub)
       ·refine D.po 3 rfl ?_
        refine D.po 4 rfl ?_
        refine D.po 5 rfl ?_
        refine D.po 6 rfl ?_
        refine D.po 7 rfl ?_
        refine D.po 8 rfl ?_
        refine D.po 9 rfl ?_
        refine D.po 10 rfl ?_
        refine D.po 11 rfl ?_
        refine D.r 12 rfl (Runs.pickf rfl rfl) ?_
        refine D.r 13 rfl (Runs.assign rfl) ?_
        refine D.done (by kernel_rfl) ?_
        refine V.then ?_
        refine W.sub (L' := [(39, _), (1, _), (14, _), (15, _), (16, _)]) (Sub.cons rfl (Sub.cons rfl (Sub.cons rfl (Sub.cons rfl (Sub.cons rfl Sub.nil))))) ?_
        refine W.no rfl ?_
        refine W.skip ?_
        refine V.block_normal ?_
        refine V.block_normal ?_
        refine V.then ?_
        refine W.region ?_
        refine G.r (Runs.add rfl rfl (by unfold InR; omega)) ?_
        refine G.r (Runs.move rfl) ?_
        refine G.nil ?_
        exact V.next ((k + 1)) (show ((k + 1 : Nat) ≤ es.length) ∧ (checkG nd es = scanL (badE nd) Pt.lt (prevAt es (k + 1 : Nat)) (es.drop (k + 1 : Nat))) from ⟨(by omega), (hs.trans (scanL_step (by omega) (badE_zero.2 (by omega)) (fun h0 => by first | omega | exact (Pt.cmp_lt _ _).1 (by omega))))⟩) (show es.length - (k + 1 : Nat) < es.length - k from (by omega)) (Sub.cons rfl (Sub.cons rfl (Sub.cons rfl (Sub.cons lookO Sub.nil)))) (show Fit κ _ (blk b1 [I64 (nd), v] 99 :: I) from Fit.sub)
   ·refine W.exit ?_
    refine V.then_exit ?_
    refine V.then_exit ?_
    refine V.block_hit ?_
    refine V.then ?_
    refine W.sr ?_
    refine G.r (Runs.assign rfl) ?_
    refine G.nt ?_
    refine W.ret ?_
    exact V.ret1 rfl rfl (I) Fit.m ⟨by rw [show checkG nd es = 0 from (hs.trans (scanL_end (by omega)))], rfl⟩

theorem Ends_ok {κ : Ctx} {I : List Item} (nd u v : Int) :
    CallS Try.prog κ 137 [I64 (nd), I64 (u), I64 (v)] I (fun r J => r = .bool (decide (endsP nd u v)) ∧ I = J) := by
 have hmx : ((if v < u then v else u) ≤ u ∧ (if v < u then v else u) ≤ v ∧ ((if v < u then v else u) = u ∨ (if v < u then v else u) = v)) ∧ (u ≤ (if u < v then v else u) ∧ v ≤ (if u < v then v else u) ∧ ((if u < v then v else u) = u ∨ (if u < v then v else u) = v)) := by refine ⟨⟨?_, ?_, ?_⟩, ⟨?_, ?_, ?_⟩⟩ <;> split <;> omega
 refine CallS.enter (L := [(0, I64 (nd)), (1, I64 (u)), (2, I64 (v))]) Try.func137 rfl rfl rfl rfl ?_
 refine W.sr ?_
 refine G.r (Runs.assign rfl) ?_
 refine G.nt ?_
 refine W.sr ?_
 refine G.r (Runs.move rfl) ?_
 refine G.r (Runs.move rfl) ?_
 refine G.r (Runs.neq rfl rfl) ?_
 refine G.r (Runs.move rfl) ?_
 refine G.split (d := 10) rfl (fun g10 => ?_) (fun g10 => ?_)
 ·refine G.ro (Runs.move rfl) ?_
  refine G.ro (Runs.move rfl) ?_
  refine G.ro (Runs.min rfl rfl) ?_
  refine G.ro (Runs.geq rfl rfl) ?_
  refine G.r (Runs.pickt rfl rfl) ?_
  refine G.r (Runs.move rfl) ?_
  refine G.split (d := 16) rfl (fun g16 => ?_) (fun g16 => ?_)
  ·refine G.ro (Runs.move rfl) ?_
   refine G.ro (Runs.move rfl) ?_
   refine G.ro (Runs.max rfl rfl) ?_
   refine G.ro (Runs.move rfl) ?_
   refine G.ro (Runs.lss rfl rfl) ?_
   refine G.r (Runs.pickt rfl rfl) ?_
   refine G.r (Runs.assign rfl) ?_
   refine G.nt ?_
   refine W.sub (L' := [(6, _)]) (Sub.cons rfl Sub.nil) ?_
   refine W.ret ?_
   exact V.ret1 rfl rfl (I) Fit.m ⟨(by first | exact congrArg Value.bool (decide_eq_decide.2 (by unfold endsP; omega)) | exact congrArg Value.bool (decide_eq_true (by unfold endsP; omega)).symm | exact congrArg Value.bool (decide_eq_false (by unfold endsP; omega)).symm), rfl⟩
  ·refine G.po ?_
   refine G.po ?_
   refine G.po ?_
   refine G.po ?_
   refine G.po ?_
   refine G.r (Runs.pickf rfl rfl) ?_
   refine G.r (Runs.assign rfl) ?_
   refine G.nt ?_
   refine W.sub (L' := [(6, _)]) (Sub.cons rfl Sub.nil) ?_
   refine W.ret ?_
   exact V.ret1 rfl rfl (I) Fit.m ⟨(by first | exact congrArg Value.bool (decide_eq_decide.2 (by unfold endsP; omega)) | exact congrArg Value.bool (decide_eq_true (by unfold endsP; omega)).symm | exact congrArg Value.bool (decide_eq_false (by unfold endsP; omega)).symm), rfl⟩
 ·refine G.po ?_
  refine G.po ?_
  refine G.po ?_
  refine G.po ?_
  refine G.r (Runs.pickf rfl rfl) ?_
  refine G.r (Runs.move rfl) ?_
  refine G.po ?_
  refine G.po ?_
  refine G.po ?_
  refine G.po ?_
  refine G.po ?_
  refine G.r (Runs.pickf rfl rfl) ?_
  refine G.r (Runs.assign rfl) ?_
  refine G.nt ?_
  refine W.sub (L' := [(6, _)]) (Sub.cons rfl Sub.nil) ?_
  refine W.ret ?_
  exact V.ret1 rfl rfl (I) Fit.m ⟨(by first | exact congrArg Value.bool (decide_eq_decide.2 (by unfold endsP; omega)) | exact congrArg Value.bool (decide_eq_true (by unfold endsP; omega)).symm | exact congrArg Value.bool (decide_eq_false (by unfold endsP; omega)).symm), rfl⟩

theorem EdgeG_ok {κ : Ctx} {I : List Item} (u v : Int) :
    CallS Try.prog κ 138 [I64 (u), I64 (v)] I (fun r J => r = .agg #[I64 (edgeP u v).u, I64 (edgeP u v).v] ∧ I = J) := by
 refine CallS.enter (L := [(0, I64 (u)), (1, I64 (v))]) Try.func138 rfl rfl rfl rfl ?_
 refine W.sr ?_
 refine G.e (Eff.alloc ty150 rfl) ?_
 rintro _ _ ⟨b1, rfl, rfl⟩
 refine G.nt ?_
 refine W.sr ?_
 refine G.r (Runs.move rfl) ?_
 refine G.r (Runs.move rfl) ?_
 refine G.r (Runs.min rfl rfl) ?_
 refine G.r (Runs.move rfl) ?_
 refine G.r (Runs.move rfl) ?_
 refine G.r (Runs.max rfl rfl) ?_
 refine G.r (Runs.build (cells := [_, _]) ty150 Try.underlying150 pl150 rfl rfl) ?_
 refine G.e (Eff.st (cs := [_, _]) (vs := [_, _]) (cs' := [_, _]) ty150) ?_
 rintro _ _ ⟨rfl, rfl⟩
 refine G.nt ?_
 refine W.ret ?_
 exact V.retc rfl ty150 rfl (by repeat (first | exact List.mem_cons_self | apply List.mem_cons_of_mem)) rfl (I) Fit.m ⟨rfl, rfl⟩

theorem Change_ok {κ : Ctx} {I : List Item} {nd : Int} {va : Value} {es : List Pt} (hl : Sl κ I va es) (u v : Int) :
    CallS Try.prog κ 149 [.agg #[I64 (nd), va], I64 (u), I64 (v)] I (fun r J => r = I64 (changeG nd es u v) ∧ I = J) := by
 refine CallS.enter (L := [(0, .agg #[I64 (nd), va]), (1, I64 (u)), (2, I64 (v))]) Try.func149 rfl rfl rfl rfl ?_
 refine W.sr ?_
 refine G.e (Eff.box (cs := [_, _]) rfl rfl rfl) ?_
 rintro _ _ ⟨b1, rfl, rfl⟩
 refine G.r (Runs.assign rfl) ?_
 refine G.nt ?_
 refine W.seq ?_
 refine W.sr ?_
 refine G.r (Runs.lds (vs := [_, _]) ty99) ?_
 refine G.e (Eff.call call72 rfl rfl (CheckGen_ok (Sl.f hl))) ?_
 rintro _ _ ⟨_, _, ⟨rfl, rfl⟩, rfl, rfl⟩
 refine G.r (Runs.assign rfl) ?_
 refine G.nt ?_
 refine W.sr ?_
 refine G.r (Runs.move rfl) ?_
 refine G.r (Runs.neq rfl rfl) ?_
 refine G.nt ?_
 refine W.ite rfl (fun c11 => ?_) (fun c11 => ?_)
 ·refine W.sr ?_
  refine G.r (Runs.move rfl) ?_
  refine G.r (Runs.assign rfl) ?_
  refine G.nt ?_
  refine W.ret ?_
  refine V.then_ret ?_
  exact V.ret1 rfl rfl (I) Fit.m ⟨by unfold changeG; rw [if_pos (by omega)], rfl⟩
 ·refine W.skip ?_
  refine V.then ?_
  refine W.seq ?_
  refine W.sr ?_
  refine G.r (Runs.fieldAddr fld99_0 rfl) ?_
  refine G.r (Runs.ld ty3) ?_
  refine G.r (Runs.move rfl) ?_
  refine G.r (Runs.move rfl) ?_
  refine G.e (Eff.call call137 rfl rfl (Ends_ok nd u v)) ?_
  rintro _ _ ⟨_, _, ⟨rfl, rfl⟩, rfl, rfl⟩
  refine G.r (Runs.notd rfl) ?_
  refine G.nt ?_
  refine W.sub (L' := [(18, _)]) (Sub.cons rfl Sub.nil) ?_
  refine W.ite rfl (fun c18 => ?_) (fun c18 => ?_)
  ·refine W.sr ?_
   refine G.r (Runs.assign rfl) ?_
   refine G.nt ?_
   refine W.ret ?_
   refine V.then_ret ?_
   exact V.ret1 rfl rfl (I) Fit.m ⟨by unfold changeG; rw [if_neg (by omega), if_neg (by assumption)], rfl⟩
  ·refine W.skip ?_
   refine V.then ?_
   refine W.sr ?_
   refine G.r (Runs.assign rfl) ?_
   refine G.nt ?_
   refine W.ret ?_
   exact V.ret1 rfl rfl (I) Fit.m ⟨by unfold changeG; rw [if_neg (by omega), if_pos (Classical.not_not.1 (by assumption))], rfl⟩

theorem RCompare_cmps {κ : Ctx} {I : List Item} : Cmps Try.prog κ I 111 [] Pt.cmp := ⟨call111, fun x y J hf => RCompare_ok x y⟩
theorem Order_cmps {κ : Ctx} {I : List Item} : Cmps Try.prog κ I 135 [] Pt.cmp := ⟨call135, fun x y J hf => Order_ok x y⟩

theorem Place_ok {κ : Ctx} {I : List Item} {nd : Int} {va : Value} {es : List Pt} (hl : Sl κ I va es) (u v : Int) (hb : es.length ≤ 1000000000) :
    CallS Try.prog κ 150 [.agg #[I64 (nd), va], I64 (u), I64 (v)] I (fun r J => ∃ i q, r = .tuple #[I64 ((i : Nat) : Int), .bool (decide (i < es.length ∧ at_ es ((i : Nat) : Int) = (edgeP u v)))] ∧ BFound Pt.cmp es (edgeP u v) i q ∧ I = J) := by
 refine CallS.pull hl.le fun hmax => ?_
 refine CallS.enter (L := [(0, .agg #[I64 (nd), va]), (1, I64 (u)), (2, I64 (v))]) Try.func150 rfl rfl rfl rfl ?_
 refine W.sr ?_
 refine G.e (Eff.box (cs := [_, _]) rfl rfl rfl) ?_
 rintro _ _ ⟨b1, rfl, rfl⟩
 refine G.r (Runs.assign rfl) ?_
 refine G.r (Runs.assign rfl) ?_
 refine G.nt ?_
 refine W.sr ?_
 refine G.r (Runs.move rfl) ?_
 refine G.r (Runs.move rfl) ?_
 refine G.e (Eff.call call138 rfl rfl (EdgeG_ok u v)) ?_
 rintro _ _ ⟨_, _, ⟨rfl, rfl⟩, rfl, rfl⟩
 refine G.e (Eff.alloc ty150 rfl) ?_
 rintro _ _ ⟨b2, rfl, rfl⟩
 refine G.e (Eff.st (cs := [_, _]) (vs := [_, _]) (cs' := [_, _]) ty150) ?_
 rintro _ _ ⟨rfl, rfl⟩
 refine G.nt ?_
 refine W.sr ?_
 refine G.r (Runs.fieldAddr fld99_1 rfl) ?_
 refine G.r (Runs.ld ty97) ?_
 refine G.r (Runs.lds (vs := [_, _]) ty150) ?_
 refine G.e (Eff.call call202 rfl rfl (BSearchE (Sl.f hl) (edgeP u v) Order_cmps (by omega))) ?_
 rintro _ _ ⟨_, _, ⟨i3, q4, rfl, hi3, rfl⟩, rfl, rfl⟩
 refine G.r (Runs.move rfl) ?_
 refine G.r (Runs.extract rfl rfl) ?_
 refine G.r (Runs.extract rfl rfl) ?_
 refine G.r (Runs.assign rfl) ?_
 refine G.r (Runs.assign rfl) ?_
 refine G.nt ?_
 refine W.sub (L' := [(9, _), (8, _), (3, _)]) (Sub.cons rfl (Sub.cons rfl (Sub.cons rfl Sub.nil))) ?_
 refine W.seq ?_
 refine W.drawn mixed ?_
 refine A.hold (blk b2 [I64 ((edgeP u v).u), I64 ((edgeP u v).v)] 150 :: blk b1 [I64 (nd), va] 99 :: I) 17 ?_
 refine D.r 0 rfl (Runs.move rfl) ?_ (hJ := Fit.sub)
 refine D.r 1 rfl (Runs.move rfl) ?_ (hJ := Fit.sub)
 refine D.r 2 rfl (Runs.fieldAddr fld99_1 rfl) ?_ (hJ := Fit.sub)
 refine D.r 3 rfl (Runs.ld ty97) ?_ (hJ := Fit.sub)
 refine D.r 4 rfl (Runs.lenT (α := Pt) (xs := es) Try.underlying97 rfl (Sl.f hl)) ?_ (hJ := Fit.sub)
 refine D.r 5 rfl (Runs.lss rfl rfl) ?_ (hJ := Fit.sub)
 refine D.r 6 rfl (Runs.move rfl) ?_ (hJ := Fit.sub)
 refine D.split (d := 27) rfl (fun g27 => ?_) (fun g27 => ?_)
 ·refine D.read 7 rfl (by kernel_rfl) (by kernel_rfl) (by kernel_rfl) rfl (by kernel_rfl) (fun _ _ _ _ h => h) (Wanted.on rfl rfl rfl) rfl rfl Fit.sub (Runs.fieldAddr fld99_1 rfl) ?_
  refine D.read 8 rfl (by kernel_rfl) (by kernel_rfl) (by kernel_rfl) rfl (by kernel_rfl) (fun _ _ _ _ h => h) (Wanted.on rfl rfl rfl) rfl rfl Fit.sub (Runs.ld ty97) ?_
  refine D.read 9 rfl (by kernel_rfl) (by kernel_rfl) (by kernel_rfl) rfl (by kernel_rfl) (fun _ _ _ _ h => h) (Wanted.on rfl rfl rfl) rfl rfl Fit.sub (Runs.move rfl) ?_
  refine D.read 10 rfl (by kernel_rfl) (by kernel_rfl) (by kernel_rfl) rfl (by kernel_rfl) (fun _ _ _ _ h => h) (Wanted.on rfl rfl rfl) rfl rfl Fit.sub (Runs.idx (α := Pt) (xs := es) Try.underlying97 ty150 rfl rfl (Sl.f hl) (by omega) (by omega)) ?_
  refine D.read 11 rfl (by kernel_rfl) (by kernel_rfl) (by kernel_rfl) rfl (by kernel_rfl) (fun _ _ _ _ h => h) (Wanted.on rfl rfl rfl) rfl rfl Fit.sub (Runs.gets (α := Pt) (xs := es) ty150 rfl (Sl.f hl) (by omega) (by omega)) ?_
  refine D.read 12 rfl (by kernel_rfl) (by kernel_rfl) (by kernel_rfl) rfl (by kernel_rfl) (fun _ _ _ _ h => h) (Wanted.on rfl rfl rfl) rfl rfl Fit.sub (Runs.lds (vs := [_, _]) ty150) ?_
  refine D.read 13 rfl (by kernel_rfl) (by kernel_rfl) (by kernel_rfl) rfl (by kernel_rfl) (fun _ _ _ _ h => h) (Wanted.on rfl rfl rfl) rfl rfl Fit.sub (Runs.eqlT (α := Pt) (a := (at_ es ((i3 : Nat) : Int))) (b := (edgeP u v)) eqt150 rfl rfl) ?_
  refine D.r 14 rfl (Runs.pickt rfl rfl) ?_ (hJ := Fit.sub)
  refine D.r 15 rfl (Runs.assign rfl) ?_ (hJ := Fit.sub)
  refine D.r 16 rfl (Runs.assign rfl) ?_ (hJ := Fit.sub)
  refine D.done (by kernel_rfl) ?_
  refine V.then ?_
  refine W.sub (L' := [(7, _), (6, _)]) (Sub.cons rfl (Sub.cons rfl Sub.nil)) ?_
  refine W.ret ?_
  exact V.ret2 rfl rfl rfl (I) Fit.m ⟨i3, q4, congrArg (fun b_ => Value.tuple #[I64 ((i3 : Nat) : Int), .bool b_]) (decide_eq_decide.2 ⟨fun h => ⟨by omega, h⟩, fun h => h.2⟩), hi3, rfl⟩
 ·refine D.pass 7 rfl (by kernel_rfl) (by kernel_rfl) (by kernel_rfl) rfl (by kernel_rfl) (fun _ _ _ _ h => h) (Unwanted.off rfl rfl rfl) rfl rfl Fit.sub ?_
  refine D.pass 8 rfl (by kernel_rfl) (by kernel_rfl) (by kernel_rfl) rfl (by kernel_rfl) (fun _ _ _ _ h => h) (Unwanted.off rfl rfl rfl) rfl rfl Fit.sub ?_
  refine D.pass 9 rfl (by kernel_rfl) (by kernel_rfl) (by kernel_rfl) rfl (by kernel_rfl) (fun _ _ _ _ h => h) (Unwanted.off rfl rfl rfl) rfl rfl Fit.sub ?_
  refine D.pass 10 rfl (by kernel_rfl) (by kernel_rfl) (by kernel_rfl) rfl (by kernel_rfl) (fun _ _ _ _ h => h) (Unwanted.off rfl rfl rfl) rfl rfl Fit.sub ?_
  refine D.pass 11 rfl (by kernel_rfl) (by kernel_rfl) (by kernel_rfl) rfl (by kernel_rfl) (fun _ _ _ _ h => h) (Unwanted.off rfl rfl rfl) rfl rfl Fit.sub ?_
  refine D.pass 12 rfl (by kernel_rfl) (by kernel_rfl) (by kernel_rfl) rfl (by kernel_rfl) (fun _ _ _ _ h => h) (Unwanted.off rfl rfl rfl) rfl rfl Fit.sub ?_
  refine D.pass 13 rfl (by kernel_rfl) (by kernel_rfl) (by kernel_rfl) rfl (by kernel_rfl) (fun _ _ _ _ h => h) (Unwanted.off rfl rfl rfl) rfl rfl Fit.sub ?_
  refine D.r 14 rfl (Runs.pickf rfl rfl) ?_ (hJ := Fit.sub)
  refine D.r 15 rfl (Runs.assign rfl) ?_ (hJ := Fit.sub)
  refine D.r 16 rfl (Runs.assign rfl) ?_ (hJ := Fit.sub)
  refine D.done (by kernel_rfl) ?_
  refine V.then ?_
  refine W.sub (L' := [(7, _), (6, _)]) (Sub.cons rfl (Sub.cons rfl Sub.nil)) ?_
  refine W.ret ?_
  exact V.ret2 rfl rfl rfl (I) Fit.m ⟨i3, q4, congrArg (fun b_ => Value.tuple #[I64 ((i3 : Nat) : Int), .bool b_]) (decide_eq_false (fun h => by omega)).symm, hi3, rfl⟩

theorem InsertE_two {κ : Ctx} {I : List Item} {a va : Option Addr} {n m c vcp i : Nat} {xs ys : List Pt} {K : List Item} (hf : Fit κ I (vc 150 (.slice a n c) xs :: vc 150 (.slice va m vcp) ys :: K)) (hn : n = xs.length) (hm : m = ys.length) (hi : i ≤ xs.length) (hy : 0 < ys.length) (hsz : xs.length + ys.length ≤ 1000000000) :
    CallS Try.prog κ 151 [.slice a n c, I64 ((i : Nat) : Int), .slice va m vcp] I (fun r J => ∃ a' c', r = .slice a' (List.take i xs ++ ys ++ List.drop i xs).length c' ∧ J = vc 150 (.slice a' (List.take i xs ++ ys ++ List.drop i xs).length c') (List.take i xs ++ ys ++ List.drop i xs) :: K) := by
  subst hn hm
  exact CallS.fit hf (InsertE_ok hi hy hsz)

theorem AddG_ok {κ : Ctx} {I : List Item} {nd : Int} {a0 : Option Addr} {c0 : Nat} {es : List Pt} (hl : Sl κ I (.slice a0 es.length c0) es) (u v : Int) (hb : es.length ≤ 10000000) :
    CallS Try.prog κ 83 [.agg #[I64 (nd), .slice a0 es.length c0], I64 (u), I64 (v)] I (fun r J => (addG nd es u v ≠ 0 ∧ r = .tuple #[.agg #[I64 0, .slice none 0 0], I64 (addG nd es u v)] ∧ I = J) ∨ (∃ a c, addG nd es u v = 0 ∧ r = .tuple #[.agg #[I64 nd, .slice a (insB Pt.lt es (edgeP u v)).length c], I64 0] ∧ J = vc 150 (.slice a (insB Pt.lt es (edgeP u v)).length c) (insB Pt.lt es (edgeP u v)) :: I)) := by
 refine CallS.enter (L := [(0, .agg #[I64 (nd), .slice a0 es.length c0]), (1, I64 (u)), (2, I64 (v))]) Try.func83 rfl rfl rfl rfl ?_
 refine W.sr ?_
 refine G.e (Eff.box (cs := [_, _]) rfl rfl rfl) ?_
 rintro _ _ ⟨b1, rfl, rfl⟩
 refine G.e (Eff.alloc ty99 rfl) ?_
 rintro _ _ ⟨b2, rfl, rfl⟩
 refine G.r (Runs.assign rfl) ?_
 refine G.nt ?_
 refine W.seq ?_
 refine W.sr ?_
 refine G.r (Runs.lds (vs := [_, _]) ty99) ?_
 refine G.r (Runs.move rfl) ?_
 refine G.r (Runs.move rfl) ?_
 refine G.e (Eff.call call149 rfl rfl (Change_ok (Sl.f hl) u v)) ?_
 rintro _ _ ⟨_, _, ⟨rfl, rfl⟩, rfl, rfl⟩
 refine G.r (Runs.assign rfl) ?_
 refine G.nt ?_
 refine W.sr ?_
 refine G.r (Runs.move rfl) ?_
 refine G.r (Runs.neq rfl rfl) ?_
 refine G.nt ?_
 refine W.ite rfl (fun c16 => ?_) (fun c16 => ?_)
 ·refine W.sr ?_
  refine G.r (Runs.build (cells := [_, _]) ty99 Try.underlying99 pl99 rfl rfl) ?_
  refine G.r (Runs.move rfl) ?_
  refine G.e (Eff.st (cs := [_, _]) (vs := [_, _]) (cs' := [_, _]) ty99) ?_
  rintro _ _ ⟨rfl, rfl⟩
  refine G.r (Runs.assign rfl) ?_
  refine G.nt ?_
  refine W.sub (L' := [(7, _), (6, _)]) (Sub.cons rfl (Sub.cons rfl Sub.nil)) ?_
  refine W.ret ?_
  refine V.then_ret ?_
  have hz : addG nd es u v = changeG nd es u v := by unfold addG; rw [if_pos (by omega)]
  exact V.retc1 rfl ty99 rfl rfl (by repeat (first | exact List.mem_cons_self | apply List.mem_cons_of_mem)) rfl (I) Fit.m (.inl ⟨by rw [hz]; omega, by rw [hz], rfl⟩)
 ·refine W.skip ?_
  refine V.then ?_
  refine W.sr ?_
  refine G.r (Runs.lds (vs := [_, _]) ty99) ?_
  refine G.r (Runs.move rfl) ?_
  refine G.r (Runs.move rfl) ?_
  refine G.e (Eff.call call150 rfl rfl (Place_ok (Sl.f hl) u v (by omega))) ?_
  rintro _ _ ⟨_, _, ⟨i3, q4, rfl, hi3, rfl⟩, rfl, rfl⟩
  have hG := (changeG_zero.1 (by omega : changeG nd es u v = 0)).1
  have hile := hi3.le
  refine G.r (Runs.move rfl) ?_
  refine G.r (Runs.extract rfl rfl) ?_
  refine G.r (Runs.extract rfl rfl) ?_
  refine G.r (Runs.assign rfl) ?_
  refine G.r (Runs.assign rfl) ?_
  refine G.nt ?_
  refine W.sub (L' := [(10, _), (9, _), (6, _), (3, _), (1, _), (2, _)]) (Sub.cons rfl (Sub.cons rfl (Sub.cons rfl (Sub.cons rfl (Sub.cons rfl (Sub.cons rfl Sub.nil)))))) ?_
  refine W.seq ?_
  refine W.sr ?_
  refine G.r (Runs.move rfl) ?_
  refine G.nt ?_
  refine W.ite rfl (fun c26 => ?_) (fun c26 => ?_)
  ·refine W.sr ?_
   refine G.r (Runs.build (cells := [_, _]) ty99 Try.underlying99 pl99 rfl rfl) ?_
   refine G.e (Eff.st (cs := [_, _]) (vs := [_, _]) (cs' := [_, _]) ty99) ?_
   rintro _ _ ⟨rfl, rfl⟩
   refine G.r (Runs.assign rfl) ?_
   refine G.nt ?_
   refine W.ret ?_
   refine V.then_ret ?_
   have hz : addG nd es u v = 15 := by unfold addG; rw [if_neg (by omega), if_pos ((hi3.mem hG.asc).1 c26)]
   exact V.retc1 rfl ty99 rfl rfl (by repeat (first | exact List.mem_cons_self | apply List.mem_cons_of_mem)) rfl (I) Fit.m (.inl ⟨by rw [hz]; decide, by rw [hz], rfl⟩)
  ·refine W.skip ?_
   refine V.then ?_
   refine W.seq ?_
   refine W.drawn mixed ?_
   refine A.hold (blk b2 [I64 (0), .slice none 0 0] 99 :: blk b1 [I64 (nd), .slice a0 es.length c0] 99 :: I) 12 ?_
   refine D.r 0 rfl (Runs.fieldAddr fld99_0 rfl) ?_ (hJ := Fit.sub)
   refine D.r 1 rfl (Runs.ld ty3) ?_ (hJ := Fit.sub)
   refine D.r 2 rfl (Runs.fieldAddr fld99_1 rfl) ?_ (hJ := Fit.sub)
   refine D.r 3 rfl (Runs.ld ty97) ?_ (hJ := Fit.sub)
   refine D.r 5 rfl (Runs.move rfl) ?_ (hJ := Fit.sub)
   refine D.r 6 rfl (Runs.move rfl) ?_ (hJ := Fit.sub)
   refine D.r 7 rfl (Runs.move rfl) ?_ (hJ := Fit.sub)
   refine D.step (rs := [4]) (by kernel_rfl) rfl rfl (all1 ?_)
   refine Step.eff rfl (Wanted.plain rfl) (Eff.call call152 rfl rfl (CloneE (xs := es) (Sl.f hl) (by omega))) ?_
   rintro _ _ ⟨_, _, ⟨ad5, cp6, rfl, rfl⟩, rfl, rfl⟩
   refine ⟨Fit.sub, ?_⟩
   refine D.step (rs := [8]) (by kernel_rfl) rfl rfl (all1 ?_)
   refine Step.eff rfl (Wanted.plain rfl) (Eff.call call138 rfl rfl (EdgeG_ok u v)) ?_
   rintro _ _ ⟨_, _, ⟨rfl, rfl⟩, rfl, rfl⟩
   refine ⟨Fit.sub, ?_⟩
   refine D.step (rs := [9]) (by kernel_rfl) rfl rfl (all1 ?_)
   refine Step.eff rfl (Wanted.plain rfl) (Eff.bs (α := Pt) (cs := [_, _]) (xs := [⟨(edgeP u v).u, (edgeP u v).v⟩]) Try.underlying97 ty150 rfl rfl (by decide) (by decide) rfl rfl rfl rfl) ?_
   rintro _ _ ⟨ad7, rfl, rfl⟩
   refine ⟨Fit.sub, ?_⟩
   refine D.step (rs := [10]) (by kernel_rfl) rfl rfl (all1 ?_)
   refine Step.eff rfl (Wanted.plain rfl) (Eff.call call151 rfl rfl (InsertE_two (i := i3) (xs := es) (ys := ([⟨(edgeP u v).u, (edgeP u v).v⟩] : List Pt)) (show Fit κ _ (vc 150 (.slice ad5 es.length cp6) (es) :: vc 150 (.slice ad7 1 1) (([⟨(edgeP u v).u, (edgeP u v).v⟩] : List Pt)) :: blk b2 [I64 (0), .slice none 0 0] 99 :: blk b1 [I64 (nd), .slice a0 es.length c0] 99 :: I) from Fit.s) rfl rfl (by omega) (by simp only [List.length_cons]; omega) (by simp only [List.length_cons, List.length_nil]; omega))) ?_
   rintro _ _ ⟨_, _, ⟨ad8, cp9, rfl, rfl⟩, rfl, rfl⟩
   refine ⟨Fit.sub, ?_⟩
   show D Try.prog κ _ _ _ _ _ _ _ ([(38, .slice ad8 (List.take i3 es ++ ([⟨(edgeP u v).u, (edgeP u v).v⟩] : List Pt) ++ List.drop i3 es).length cp9), (37, .slice ad7 1 1), (36, .agg #[I64 ((edgeP u v).u), I64 ((edgeP u v).v)]), (32, .slice ad5 es.length cp6), (35, I64 (v)), (34, I64 (u)), (33, I64 (((i3 : Nat) : Int))), (31, .slice a0 es.length c0), (30, .pointer (some ⟨b1, 1, none⟩)), (29, I64 (nd)), (28, .pointer (some ⟨b1, 0, none⟩)), (26, .bool (decide (i3 < es.length ∧ at_ es ((i3 : Nat) : Int) = edgeP u v))), (10, .bool (decide (i3 < es.length ∧ at_ es ((i3 : Nat) : Int) = edgeP u v))), (9, I64 (((i3 : Nat) : Int))), (6, .pointer (some ⟨b2, 0, none⟩)), (3, .pointer (some ⟨b1, 0, none⟩)), (1, I64 (u)), (2, I64 (v))] : Env) (vc 150 (.slice ad8 (List.take i3 es ++ ([⟨(edgeP u v).u, (edgeP u v).v⟩] : List Pt) ++ List.drop i3 es).length cp9) (List.take i3 es ++ ([⟨(edgeP u v).u, (edgeP u v).v⟩] : List Pt) ++ List.drop i3 es) :: blk b2 [I64 (0), .slice none 0 0] 99 :: blk b1 [I64 (nd), .slice a0 es.length c0] 99 :: I)
   refine D.r 11 rfl (Runs.build (cells := [_, _]) ty99 Try.underlying99 pl99 rfl rfl) ?_ (hJ := Fit.sub)
   refine D.stop (by kernel_rfl) ?_
   refine A.eff (i := 12) (by kernel_rfl) rfl (Wanted.plain rfl) (Eff.st (cs := [_, _]) (vs := [_, _]) (cs' := [_, _]) ty99) ?_
   rintro _ _ ⟨rfl, rfl⟩
   refine A.read (i := 13) (by kernel_rfl) rfl (Wanted.plain rfl) rfl rfl (Runs.assign rfl) ?_
   refine A.done (by kernel_rfl) ?_
   refine V.then ?_
   refine W.sub (L' := [(7, _), (6, _)]) (Sub.cons rfl (Sub.cons rfl Sub.nil)) ?_
   refine W.ret ?_
   have hz : addG nd es u v = 0 := by unfold addG; rw [if_neg (by omega), if_neg (fun hm => c26 ((hi3.mem hG.asc).2 hm))]
   have hE : List.take i3 es ++ ([⟨(edgeP u v).u, (edgeP u v).v⟩] : List Pt) ++ List.drop i3 es = (insB Pt.lt es (edgeP u v)) := hi3.ins hG.asc (fun hm => c26 ((hi3.mem hG.asc).2 hm))
   exact V.retc1 rfl ty99 rfl rfl (by repeat (first | exact List.mem_cons_self | apply List.mem_cons_of_mem)) rfl (vc 150 (.slice ad8 (insB Pt.lt es (edgeP u v)).length cp9) (insB Pt.lt es (edgeP u v)) :: I) (by rw [← hE]; exact Fit.sub) (.inr ⟨ad8, cp9, hz, by rw [← hE]; rfl, rfl⟩)

end Go.Sl
namespace Go.Sl
open Go.Proofs
set_option linter.unusedVariables false
set_option linter.unusedSimpArgs false
set_option maxRecDepth 4000
theorem SameEdges_ok {κ : Ctx} {I : List Item} {va vb : Value} {xs ys : List Pt} (hx : Sl κ I va xs) (hy : Sl κ I vb ys) :
    CallS Try.prog κ 144 [va, vb] I (fun r J => r = .bool (decide (xs = ys)) ∧ I = J) := by
 refine CallS.pull hx.le fun hmax => ?_
 refine CallS.pull hy.le fun hmay => ?_
 refine CallS.enter (L := [(0, va), (1, vb)]) Try.func144 rfl rfl rfl rfl ?_
 refine W.sr ?_
 refine G.r (Runs.assign rfl) ?_
 refine G.nt ?_
 refine W.seq ?_
 refine W.sr ?_
 refine G.r (Runs.move rfl) ?_
 refine G.r (Runs.lenT (α := Pt) (xs := xs) Try.underlying97 rfl (Sl.f hx)) ?_
 refine G.r (Runs.move rfl) ?_
 refine G.r (Runs.lenT (α := Pt) (xs := ys) Try.underlying97 rfl (Sl.f hy)) ?_
 refine G.r (Runs.neq rfl rfl) ?_
 refine G.nt ?_
 refine W.ite rfl (fun c10 => ?_) (fun c10 => ?_)
 ·refine W.sr ?_
  refine G.r (Runs.assign rfl) ?_
  refine G.nt ?_
  refine W.ret ?_
  refine V.then_ret ?_
  exact V.ret1 rfl rfl (I) Fit.m ⟨by rw [decide_eq_false (show ¬ xs = ys from fun e => by first | (have e2 := congrArg List.length e; omega) | (have e3 := congrArg (fun l => at_ l ((k : Nat) : Int)) e; exact absurd e3 (by assumption)))], rfl⟩
 ·refine W.skip ?_
  refine V.then ?_
  refine W.seq ?_
  refine W.sr ?_
  refine G.r (Runs.move rfl) ?_
  refine G.r (Runs.lenT (α := Pt) (xs := xs) Try.underlying97 rfl (Sl.f hx)) ?_
  refine G.r (Runs.move rfl) ?_
  refine G.nt ?_
  refine W.block ?_
  refine W.loop (σ := Nat) (fun s => ([(0, va), (1, vb), (12, I64 (((xs.length : Nat) : Int))), (13, I64 (((s : Nat) : Int)))] : Env)) (fun s => I) (fun s => (s ≤ xs.length) ∧ (∀ j, j < s → at_ xs (j : Int) = at_ ys (j : Int))) (fun s => xs.length - s) (0) (show ((0 : Nat) ≤ xs.length) ∧ (∀ j, j < (0 : Nat) → at_ xs (j : Int) = at_ ys (j : Int)) from ⟨(by omega), all_zero⟩) (Sub.cons rfl (Sub.cons rfl (Sub.cons rfl (Sub.cons lookO Sub.nil)))) (show Fit κ _ (I) from Fit.sub) ?_
  rintro k hp
  obtain ⟨hk, hn⟩ : (k ≤ xs.length) ∧ (∀ j, j < k → at_ xs (j : Int) = at_ ys (j : Int)) := hp
  show W Try.prog κ 26 _ _ ([(0, va), (1, vb), (12, I64 (((xs.length : Nat) : Int))), (13, I64 (((k : Nat) : Int)))] : Env) (I)
  refine W.sr ?_
  refine G.r (Runs.lss rfl rfl) ?_
  refine G.nt ?_
  refine W.seq ?_
  refine W.ite rfl (fun c14 => ?_) (fun c14 => ?_)
  ·refine W.skip ?_
   refine V.then ?_
   refine W.seq ?_
   refine W.block ?_
   refine W.sr ?_
   refine G.r (Runs.move rfl) ?_
   refine G.r (Runs.assign rfl) ?_
   refine G.nt ?_
   refine W.seq ?_
   refine W.drawn mixed ?_
   refine A.hold (I) 9 ?_
   refine D.r 0 rfl (Runs.move rfl) ?_
   refine D.r 1 rfl (Runs.move rfl) ?_
   refine D.r 2 rfl (Runs.idx (α := Pt) (xs := xs) Try.underlying97 ty150 rfl rfl (Sl.f hx) (by omega) (by omega)) ?_
   refine D.r 3 rfl (Runs.gets (α := Pt) (xs := xs) ty150 rfl (Sl.f hx) (by omega) (by omega)) ?_
   refine D.r 4 rfl (Runs.move rfl) ?_
   refine D.r 5 rfl (Runs.move rfl) ?_
   refine D.r 6 rfl (Runs.idx (α := Pt) (xs := ys) Try.underlying97 ty150 rfl rfl (Sl.f hy) (by omega) (by omega)) ?_
   refine D.r 7 rfl (Runs.gets (α := Pt) (xs := ys) ty150 rfl (Sl.f hy) (by omega) (by omega)) ?_
   refine D.r 8 rfl (Runs.neqT (α := Pt) (a := (at_ xs ((k : Nat) : Int))) (b := (at_ ys ((k : Nat) : Int))) eqt150 rfl rfl) ?_
   refine D.done (by kernel_rfl) ?_
   refine V.then ?_
   refine W.sub (L' := [(24, _), (0, _), (1, _), (12, _), (13, _)]) (Sub.cons rfl (Sub.cons rfl (Sub.cons rfl (Sub.cons rfl (Sub.cons rfl Sub.nil))))) ?_
   refine W.ite rfl (fun c24 => ?_) (fun c24 => ?_)
   ·refine W.sr ?_
    refine G.r (Runs.assign rfl) ?_
    refine G.nt ?_
    refine W.ret ?_
    refine V.block_ret ?_
    refine V.then_ret ?_
    refine V.then_ret ?_
    refine V.block_ret ?_
    refine V.then_ret ?_
    exact V.ret1 rfl rfl (I) Fit.m ⟨by rw [decide_eq_false (show ¬ xs = ys from fun e => by first | (have e2 := congrArg List.length e; omega) | (have e3 := congrArg (fun l => at_ l ((k : Nat) : Int)) e; exact absurd e3 (by assumption)))], rfl⟩
   ·refine W.skip ?_
    refine V.block_normal ?_
    refine V.then ?_
    refine W.region ?_
    refine G.r (Runs.add rfl rfl (by unfold InR; omega)) ?_
    refine G.r (Runs.move rfl) ?_
    refine G.nil ?_
    exact V.next ((k + 1)) (show ((k + 1 : Nat) ≤ xs.length) ∧ (∀ j, j < (k + 1 : Nat) → at_ xs (j : Int) = at_ ys (j : Int)) from ⟨(by omega), (all_succ hn (Classical.not_not.1 c24))⟩) (show xs.length - (k + 1 : Nat) < xs.length - k from (by omega)) (Sub.cons rfl (Sub.cons rfl (Sub.cons rfl (Sub.cons lookO Sub.nil)))) (show Fit κ _ (I) from Fit.sub)
  ·refine W.exit ?_
   refine V.then_exit ?_
   refine V.then_exit ?_
   refine V.block_hit ?_
   refine V.then ?_
   refine W.sr ?_
   refine G.r (Runs.assign rfl) ?_
   refine G.nt ?_
   refine W.ret ?_
   exact V.ret1 rfl rfl (I) Fit.m ⟨by rw [decide_eq_true (show xs = ys from ext_at (by omega) (fun j hj => hn j (by omega)))], rfl⟩

theorem Same03_ok {κ : Ctx} {I : List Item} {n m : Int} {va vb : Value} {xs ys : List Pt} (hx : Sl κ I va xs) (hy : Sl κ I vb ys) :
    CallS Try.prog κ 77 [.agg #[I64 (n), va], .agg #[I64 (m), vb]] I (fun r J => r = .bool (decide (n = m ∧ xs = ys)) ∧ I = J) := by
 refine CallS.enter (L := [(0, .agg #[I64 (n), va]), (1, .agg #[I64 (m), vb])]) Try.func77 rfl rfl rfl rfl ?_
 refine W.sr ?_
 refine G.e (Eff.box (cs := [_, _]) rfl rfl rfl) ?_
 rintro _ _ ⟨b1, rfl, rfl⟩
 refine G.e (Eff.box (cs := [_, _]) rfl rfl rfl) ?_
 rintro _ _ ⟨b2, rfl, rfl⟩
 refine G.r (Runs.assign rfl) ?_
 refine G.nt ?_
 refine W.sr ?_
 refine G.r (Runs.fieldAddr fld99_0 rfl) ?_
 refine G.r (Runs.ld ty3) ?_
 refine G.r (Runs.fieldAddr fld99_0 rfl) ?_
 refine G.r (Runs.ld ty3) ?_
 refine G.r (Runs.eql rfl rfl) ?_
 refine G.r (Runs.move rfl) ?_
 refine G.split (d := 10) rfl (fun g10 => ?_) (fun g10 => ?_)
 ·refine G.ro (Runs.fieldAddr fld99_1 rfl) ?_
  refine G.ro (Runs.ld ty97) ?_
  refine G.ro (Runs.fieldAddr fld99_1 rfl) ?_
  refine G.ro (Runs.ld ty97) ?_
  refine G.eff (Wanted.on rfl rfl rfl) (Eff.call call144 rfl rfl (SameEdges_ok (Sl.f hx) (Sl.f hy))) ?_
  rintro _ _ ⟨_, _, ⟨rfl, rfl⟩, rfl, rfl⟩
  refine G.r (Runs.pickt rfl rfl) ?_
  refine G.r (Runs.assign rfl) ?_
  refine G.nt ?_
  refine W.sub (L' := [(4, _)]) (Sub.cons rfl Sub.nil) ?_
  refine W.ret ?_
  exact V.ret1 rfl rfl (I) Fit.m ⟨congrArg Value.bool (decide_eq_decide.2 ⟨fun h => ⟨by assumption, h⟩, fun h => h.2⟩), rfl⟩
 ·refine G.po ?_
  refine G.po ?_
  refine G.po ?_
  refine G.po ?_
  refine G.po ?_
  refine G.r (Runs.pickf rfl rfl) ?_
  refine G.r (Runs.assign rfl) ?_
  refine G.nt ?_
  refine W.sub (L' := [(4, _)]) (Sub.cons rfl Sub.nil) ?_
  refine W.ret ?_
  exact V.ret1 rfl rfl (I) Fit.m ⟨congrArg Value.bool (decide_eq_false (fun h => by have := h.1; omega)).symm, rfl⟩

theorem RGraph1_ok {κ : Ctx} {I : List Item} {b : Nat} {nd : Int} (hb : BlkRd κ I b [I64 nd] 3) (x : Pt) :
    CallS Try.prog κ 147 [.agg #[I64 (x.u), I64 (x.v)], .pointer (some ⟨b, 0, none⟩)] I (fun r J => r = .bool (decide (nd ≤ (if x.u < x.v then x.v else x.u))) ∧ I = J) := by
 refine CallS.enter (L := [(0, .agg #[I64 (x.u), I64 (x.v)]), (1, .pointer (some ⟨b, 0, none⟩))]) Try.func147 rfl rfl rfl rfl ?_
 refine W.sr ?_
 refine G.e (Eff.box (cs := [_, _]) rfl rfl rfl) ?_
 rintro _ _ ⟨b1, rfl, rfl⟩
 refine G.r (Runs.assign rfl) ?_
 refine G.nt ?_
 refine W.sr ?_
 refine G.r (Runs.idxArr Try.underlying60 ty2 rfl rfl (by omega) (by omega)) ?_
 refine G.r (Runs.ld ty3) ?_
 refine G.r (Runs.idxArr Try.underlying60 ty2 rfl rfl (by omega) (by omega)) ?_
 refine G.r (Runs.ld ty3) ?_
 refine G.r (Runs.max rfl rfl) ?_
 refine G.r (Runs.loadB ty3 rfl (BlkRd.fit hb Fit.m) rfl) ?_
 refine G.r (Runs.geq rfl rfl) ?_
 refine G.r (Runs.assign rfl) ?_
 refine G.nt ?_
 refine W.ret ?_
 exact V.ret1 rfl rfl (I) Fit.m ⟨rfl, rfl⟩

theorem RGraph1_says {κ : Ctx} {I : List Item} {b : Nat} {nd : Int} (hb : BlkRd κ I b [I64 nd] 3) : Says Try.prog κ I 147 [.pointer (some ⟨b, 0, none⟩)] (fun x : Pt => decide (nd ≤ (if x.u < x.v then x.v else x.u))) := ⟨call147, fun x J hf => RGraph1_ok (hb.fit hf) x⟩
theorem any_over {nd : Int} {l : List Pt} (h : ∀ p ∈ l, p.u < nd ∧ p.v < nd) (h2 : l.any (fun x => decide (nd ≤ (if x.u < x.v then x.v else x.u))) = true) : False := by
  obtain ⟨p, hp, h3⟩ := List.any_eq_true.1 h2
  have := h p hp
  rw [decide_eq_true_eq] at h3
  split at h3 <;> omega

theorem RGraph_ok {κ : Ctx} {I : List Item} {n nd : Int} {la : Option Addr} {lc : Nat} {l : List Pt} (hl : Sl κ I (.slice la l.length lc) l) (hv : RunOk n l) (hn : 0 ≤ nd ∧ nd ≤ 64) (hu : ∀ p ∈ l, p.u < nd ∧ p.v < nd) (hsy : ∀ p ∈ l, p.swap ∈ l) (hb : l.length ≤ 1000000) :
    CallS Try.prog κ 82 [.agg #[I64 (n), .slice la l.length lc], I64 (nd)] I (fun r J => ∃ a c, r = .tuple #[.agg #[I64 nd, .slice a (l.filter fun p => decide (p.u < p.v)).length c], I64 0] ∧ J = vc 150 (.slice a (l.filter fun p => decide (p.u < p.v)).length c) (l.filter fun p => decide (p.u < p.v)) :: I) := by
 refine CallS.pull hl.le fun hmax => ?_
 refine CallS.enter (L := [(0, .agg #[I64 (n), .slice la l.length lc]), (1, I64 (nd))]) Try.func82 rfl rfl rfl rfl ?_
 refine W.sr ?_
 refine G.e (Eff.box (cs := [_, _]) rfl rfl rfl) ?_
 rintro _ _ ⟨b1, rfl, rfl⟩
 refine G.e (Eff.box (cs := [_]) rfl rfl rfl) ?_
 rintro _ _ ⟨b2, rfl, rfl⟩
 refine G.e (Eff.alloc ty99 rfl) ?_
 rintro _ _ ⟨b3, rfl, rfl⟩
 refine G.r (Runs.assign rfl) ?_
 refine G.nt ?_
 refine W.seq ?_
 refine W.sr ?_
 refine G.r (Runs.lds (vs := [_, _]) ty57) ?_
 refine G.e (Eff.call call65 rfl rfl (RunsCheck_ok (Sl.f hl) hv)) ?_
 rintro _ _ ⟨_, _, ⟨rfl, rfl⟩, rfl, rfl⟩
 refine G.r (Runs.assign rfl) ?_
 refine G.nt ?_
 refine W.sr ?_
 refine G.r (Runs.move rfl) ?_
 refine G.r (Runs.neq rfl rfl) ?_
 refine G.nt ?_
 refine W.ite rfl (fun c15 => ?_) (fun c15 => ?_)
 ·exact absurd rfl c15
 ·refine W.skip ?_
  refine V.then ?_
  refine W.seq ?_
  refine W.sr ?_
  refine G.r (Runs.ld ty3) ?_
  refine G.r (Runs.lss rfl rfl) ?_
  refine G.r (Runs.move rfl) ?_
  refine G.split (d := 20) rfl (fun g20 => ?_) (fun g20 => ?_)
  ·exact absurd hn (by omega)
  ·refine G.ro (Runs.ld ty3) ?_
   refine G.ro (Runs.gtr rfl rfl) ?_
   refine G.r (Runs.pickf rfl rfl) ?_
   refine G.nt ?_
   refine W.sub (L' := [(23, _), (4, _), (3, _), (2, _)]) (Sub.cons rfl (Sub.cons rfl (Sub.cons rfl (Sub.cons rfl Sub.nil)))) ?_
   refine W.ite rfl (fun c23 => ?_) (fun c23 => ?_)
   ·exact absurd hn (by omega)
   ·refine W.skip ?_
    refine V.then ?_
    refine W.seq ?_
    refine W.sr ?_
    refine G.r (Runs.fieldAddr fld57_1 rfl) ?_
    refine G.r (Runs.ld ty55) ?_
    refine G.r (Runs.makeFunc rfl rfl) ?_
    refine G.e (Eff.call call125 rfl rfl (ContainsFuncP (Sl.f hl) (RGraph1_says (BlkRd.of (by repeat (first | exact List.mem_cons_self | apply List.mem_cons_of_mem)))))) ?_
    rintro _ _ ⟨_, _, ⟨rfl, rfl⟩, rfl, rfl⟩
    refine G.nt ?_
    refine W.cond rfl (fun c28 => ?_) (fun c28 => ?_)
    ·exact (any_over hu c28).elim
    ·refine W.skip ?_
     refine V.then ?_
     refine W.sr ?_
     refine G.r (Runs.ld ty3) ?_
     refine G.r (Runs.build (cells := [_, _]) ty99 Try.underlying99 pl99 rfl rfl) ?_
     refine G.e (Eff.alloc ty99 rfl) ?_
     rintro _ _ ⟨b4, rfl, rfl⟩
     refine G.e (Eff.st (cs := [_, _]) (vs := [_, _]) (cs' := [_, _]) ty99) ?_
     rintro _ _ ⟨rfl, rfl⟩
     refine G.nt ?_
     refine W.seq ?_
     refine W.sr ?_
     refine G.r (Runs.fieldAddr fld57_1 rfl) ?_
     refine G.r (Runs.ld ty55) ?_
     refine G.r (Runs.lens Try.underlying55 rfl) ?_
     refine G.r (Runs.move rfl) ?_
     refine G.nt ?_
     refine W.sub (L' := [(35, _), (34, _), (33, _), (7, _), (4, _), (2, _)]) (Sub.cons rfl (Sub.cons rfl (Sub.cons rfl (Sub.cons rfl (Sub.cons rfl (Sub.cons rfl Sub.nil)))))) ?_
     refine W.block ?_
     refine W.loop (σ := Nat × (Option Addr) × Nat × (List Pt)) (fun s => ([(2, .pointer (some ⟨b1, 0, none⟩)), (4, .pointer (some ⟨b3, 0, none⟩)), (7, .pointer (some ⟨b4, 0, none⟩)), (33, .slice la l.length lc), (34, I64 (((l.length : Nat) : Int))), (35, I64 (((s.1 : Nat) : Int)))] : Env)) (fun s => vc 150 (.slice s.2.1 s.2.2.2.length s.2.2.1) (s.2.2.2) :: blk b4 [I64 (nd), .slice s.2.1 s.2.2.2.length s.2.2.1] 99 :: blk b3 [I64 (0), .slice none 0 0] 99 :: blk b2 [I64 (nd)] 3 :: blk b1 [I64 (n), .slice la l.length lc] 57 :: I) (fun s => (s.1 ≤ l.length) ∧ (s.2.2.2 = (l.take s.1).filter fun p => decide (p.u < p.v))) (fun s => l.length - s.1) (0, none, 0, []) (show ((0 : Nat) ≤ l.length) ∧ (([] : List Pt) = (l.take (0 : Nat)).filter fun p => decide (p.u < p.v)) from ⟨(by omega), rfl⟩) (Sub.cons rfl (Sub.cons rfl (Sub.cons rfl (Sub.cons rfl (Sub.cons rfl (Sub.cons lookO Sub.nil)))))) (show Fit κ _ (vc 150 (.slice (none) ([]).length (0)) (([])) :: blk b4 [I64 (nd), .slice (none) ([]).length (0)] 99 :: blk b3 [I64 (0), .slice none 0 0] 99 :: blk b2 [I64 (nd)] 3 :: blk b1 [I64 (n), .slice la l.length lc] 57 :: I) from (Fit.nilvc _ _)) ?_
     rintro ⟨k, a, c, out⟩ hp
     obtain ⟨hk, ho⟩ : (k ≤ l.length) ∧ (out = (l.take k).filter fun p => decide (p.u < p.v)) := hp
     show W Try.prog κ 70 _ _ ([(2, .pointer (some ⟨b1, 0, none⟩)), (4, .pointer (some ⟨b3, 0, none⟩)), (7, .pointer (some ⟨b4, 0, none⟩)), (33, .slice la l.length lc), (34, I64 (((l.length : Nat) : Int))), (35, I64 (((k : Nat) : Int)))] : Env) (vc 150 (.slice a out.length c) (out) :: blk b4 [I64 (nd), .slice a out.length c] 99 :: blk b3 [I64 (0), .slice none 0 0] 99 :: blk b2 [I64 (nd)] 3 :: blk b1 [I64 (n), .slice la l.length lc] 57 :: I)
     have hol : out.length ≤ l.length := by rw [ho]; refine Nat.le_trans (List.length_filter_le _ _) ?_; simp only [List.length_take]; omega
     refine W.sr ?_
     refine G.r (Runs.lss rfl rfl) ?_
     refine G.nt ?_
     refine W.seq ?_
     refine W.ite rfl (fun c36 => ?_) (fun c36 => ?_)
     ·refine W.skip ?_
      refine V.then ?_
      refine W.seq ?_
      refine W.block ?_
      refine W.sr ?_
      refine G.r (Runs.idx (α := Pt) (xs := l) Try.underlying55 ty60 rfl rfl (Sl.f hl) (by omega) (by omega)) ?_
      refine G.r (Runs.gets (α := Pt) (xs := l) ty60 rfl (Sl.f hl) (by omega) (by omega)) ?_
      refine G.e (Eff.alloc ty60 rfl) ?_
      rintro _ _ ⟨b5, rfl, rfl⟩
      refine G.e (Eff.st (cs := [_, _]) (vs := [_, _]) (cs' := [_, _]) ty60) ?_
      rintro _ _ ⟨rfl, rfl⟩
      refine G.nt ?_
      refine W.seq ?_
      refine W.sr ?_
      refine G.r (Runs.fieldAddr fld57_1 rfl) ?_
      refine G.r (Runs.ld ty55) ?_
      refine G.r (Runs.idxArr Try.underlying60 ty2 rfl rfl (by omega) (by omega)) ?_
      refine G.r (Runs.ld ty3) ?_
      refine G.r (Runs.idxArr Try.underlying60 ty2 rfl rfl (by omega) (by omega)) ?_
      refine G.r (Runs.ld ty3) ?_
      refine G.r (Runs.buildArr (cells := [_, _]) ty60 Try.underlying60 ty3 rfl rfl) ?_
      refine G.e (Eff.call call148 rfl rfl (BSearchP (Sl.f hl) (⟨(at_ l ((k : Nat) : Int)).v, (at_ l ((k : Nat) : Int)).u⟩ : Pt) RCompare_cmps (by omega))) ?_
      rintro _ _ ⟨_, _, ⟨i6, q7, rfl, hi6, rfl⟩, rfl, rfl⟩
      have hq := hi6
      refine G.r (Runs.move rfl) ?_
      refine G.r (Runs.extract rfl rfl) ?_
      refine G.r (Runs.extract rfl rfl) ?_
      refine G.r (Runs.assign rfl) ?_
      refine G.r (Runs.assign rfl) ?_
      refine G.nt ?_
      refine W.sub (L' := [(11, _), (9, _), (2, _), (4, _), (7, _), (33, _), (34, _), (35, _)]) (Sub.cons rfl (Sub.cons rfl (Sub.cons rfl (Sub.cons rfl (Sub.cons rfl (Sub.cons rfl (Sub.cons rfl (Sub.cons rfl Sub.nil)))))))) ?_
      refine W.sr ?_
      refine G.r (Runs.move rfl) ?_
      refine G.r (Runs.not rfl) ?_
      refine G.nt ?_
      refine W.cond rfl (fun c51 => ?_) (fun c51 => ?_)
      ·exact absurd ((hq.isMem hv.asc).trans (decide_eq_true (hsy _ (at_mem (xs := l) (i := ((k : Nat) : Int)) (by omega) (by omega))))) (by simpa using c51)
      ·refine W.skip ?_
       refine V.then ?_
       refine W.sr ?_
       refine G.r (Runs.idxArr Try.underlying60 ty2 rfl rfl (by omega) (by omega)) ?_
       refine G.r (Runs.ld ty3) ?_
       refine G.r (Runs.idxArr Try.underlying60 ty2 rfl rfl (by omega) (by omega)) ?_
       refine G.r (Runs.ld ty3) ?_
       refine G.r (Runs.lss rfl rfl) ?_
       refine G.nt ?_
       refine W.sub (L' := [(57, _), (9, _), (2, _), (4, _), (7, _), (33, _), (34, _), (35, _)]) (Sub.cons rfl (Sub.cons rfl (Sub.cons rfl (Sub.cons rfl (Sub.cons rfl (Sub.cons rfl (Sub.cons rfl (Sub.cons rfl Sub.nil)))))))) ?_
       refine W.ite rfl (fun c57 => ?_) (fun c57 => ?_)
       ·refine W.region ?_
        refine G.r (Runs.fieldAddr fld99_1 rfl) ?_
        refine G.r (Runs.ld ty97) ?_
        refine G.r (Runs.idxArr Try.underlying60 ty2 rfl rfl (by omega) (by omega)) ?_
        refine G.r (Runs.ld ty3) ?_
        refine G.r (Runs.idxArr Try.underlying60 ty2 rfl rfl (by omega) (by omega)) ?_
        refine G.r (Runs.ld ty3) ?_
        refine G.r (Runs.build (cells := [_, _]) ty150 Try.underlying150 pl150 rfl rfl) ?_
        refine G.e (Eff.bs (α := Pt) (cs := [_, _]) (xs := [⟨(at_ l ((k : Nat) : Int)).u, (at_ l ((k : Nat) : Int)).v⟩]) Try.underlying97 ty150 rfl rfl (by decide) (by decide) rfl rfl rfl rfl) ?_
        rintro _ _ ⟨ad8, rfl, rfl⟩
        refine G.e (Eff.app (α := Pt) (e := 150) (xs := out) (ys := ([⟨(at_ l ((k : Nat) : Int)).u, (at_ l ((k : Nat) : Int)).v⟩] : List Pt)) Try.underlying97 ty150 rfl rfl rfl (by repeat (first | exact List.mem_cons_self | apply List.mem_cons_of_mem)) Sl.o (by simp only [List.length_cons, List.length_nil]; omega) (by decide) rfl (fun _ _ => (by repeat (first | exact At.head _ _ _ | apply At.tail)))) ?_
        rintro _ _ ⟨ad9, cp10, rfl, rfl⟩
        refine G.r (Runs.fieldAddr fld99_1 rfl) ?_
        refine G.e (Eff.st (cs := [_, _]) (vs := [_]) (cs' := [_, _]) ty97) ?_
        rintro _ _ ⟨rfl, rfl⟩
        refine G.nil ?_
        refine V.block_normal ?_
        refine V.then ?_
        refine W.sub (L' := [(2, _), (4, _), (7, _), (33, _), (34, _), (35, _)]) (Sub.cons rfl (Sub.cons rfl (Sub.cons rfl (Sub.cons rfl (Sub.cons rfl (Sub.cons rfl Sub.nil)))))) ?_
        refine W.region ?_
        refine G.r (Runs.add rfl rfl (by unfold InR; omega)) ?_
        refine G.r (Runs.move rfl) ?_
        refine G.nil ?_
        exact V.next ((k + 1), (ad9), (cp10), (out ++ ([⟨(at_ l ((k : Nat) : Int)).u, (at_ l ((k : Nat) : Int)).v⟩] : List Pt))) (show ((k + 1 : Nat) ≤ l.length) ∧ ((out ++ ([⟨(at_ l ((k : Nat) : Int)).u, (at_ l ((k : Nat) : Int)).v⟩] : List Pt) : List Pt) = (l.take (k + 1 : Nat)).filter fun p => decide (p.u < p.v)) from ⟨(by omega), (by first | rw [flt_yes (by omega) (decide_eq_true c57), ← ho] | rw [flt_no (by omega) (decide_eq_false c57), ← ho])⟩) (show l.length - (k + 1 : Nat) < l.length - k from (by omega)) (Sub.cons rfl (Sub.cons rfl (Sub.cons rfl (Sub.cons rfl (Sub.cons rfl (Sub.cons lookO Sub.nil)))))) (show Fit κ _ (vc 150 (.slice (ad9) (out ++ ([⟨(at_ l ((k : Nat) : Int)).u, (at_ l ((k : Nat) : Int)).v⟩] : List Pt)).length (cp10)) ((out ++ ([⟨(at_ l ((k : Nat) : Int)).u, (at_ l ((k : Nat) : Int)).v⟩] : List Pt))) :: blk b4 [I64 (nd), .slice (ad9) (out ++ ([⟨(at_ l ((k : Nat) : Int)).u, (at_ l ((k : Nat) : Int)).v⟩] : List Pt)).length (cp10)] 99 :: blk b3 [I64 (0), .slice none 0 0] 99 :: blk b2 [I64 (nd)] 3 :: blk b1 [I64 (n), .slice la l.length lc] 57 :: I) from Fit.sub)
       ·refine W.skip ?_
        refine V.block_normal ?_
        refine V.then ?_
        refine W.region ?_
        refine G.r (Runs.add rfl rfl (by unfold InR; omega)) ?_
        refine G.r (Runs.move rfl) ?_
        refine G.nil ?_
        exact V.next ((k + 1), (a), (c), (out)) (show ((k + 1 : Nat) ≤ l.length) ∧ ((out : List Pt) = (l.take (k + 1 : Nat)).filter fun p => decide (p.u < p.v)) from ⟨(by omega), (by first | rw [flt_yes (by omega) (decide_eq_true c57), ← ho] | rw [flt_no (by omega) (decide_eq_false c57), ← ho])⟩) (show l.length - (k + 1 : Nat) < l.length - k from (by omega)) (Sub.cons rfl (Sub.cons rfl (Sub.cons rfl (Sub.cons rfl (Sub.cons rfl (Sub.cons lookO Sub.nil)))))) (show Fit κ _ (vc 150 (.slice (a) (out).length (c)) ((out)) :: blk b4 [I64 (nd), .slice (a) (out).length (c)] 99 :: blk b3 [I64 (0), .slice none 0 0] 99 :: blk b2 [I64 (nd)] 3 :: blk b1 [I64 (n), .slice la l.length lc] 57 :: I) from Fit.sub)
     ·refine W.exit ?_
      refine V.then_exit ?_
      refine V.then_exit ?_
      refine V.block_hit ?_
      refine V.then ?_
      refine W.sr ?_
      refine G.r (Runs.lds (vs := [_, _]) ty99) ?_
      refine G.e (Eff.st (cs := [_, _]) (vs := [_, _]) (cs' := [_, _]) ty99) ?_
      rintro _ _ ⟨rfl, rfl⟩
      refine G.r (Runs.assign rfl) ?_
      refine G.nt ?_
      refine W.ret ?_
      have hk2 : l.take k = l := List.take_of_length_le (by omega)
      rw [hk2] at ho
      subst ho
      exact V.retc1 rfl ty99 rfl rfl (by repeat (first | exact List.mem_cons_self | apply List.mem_cons_of_mem)) rfl (vc 150 (.slice a (l.filter fun p => decide (p.u < p.v)).length c) (l.filter fun p => decide (p.u < p.v)) :: I) Fit.sub ⟨_, _, rfl, rfl⟩

end Go.Sl
