/- A part of the proofs of statements of this seat: contracts of functions, and the plain laws that they lean on. No conditions. -/
import Derived.Test.YtbimaodbcjjbfaaWinA5
import Derived.Test.YtbimaodbcjjbfaaRunsD5
namespace Go.Sl
open Go.Proofs
set_option linter.unusedVariables false
set_option linter.unusedSimpArgs false
set_option maxRecDepth 4000
/-- What is later comes first; of one time the greater edge. -/
def Lk.lcmp (a c : Lk) : Int := orL [cmpI c.tm a.tm, Lk.cmp c a]
def Lk.late (a c : Lk) : Prop := c.tm < a.tm ∨ (a.tm = c.tm ∧ Lk.lt c a)
instance : DecidableRel Lk.late := fun a c => by unfold Lk.late; infer_instance
theorem Lk.lcmp_lt (a c : Lk) : Lk.lcmp a c < 0 ↔ Lk.late a c := by
  unfold Lk.lcmp Lk.late
  rw [← Lk.cmp_lt]
  simp only [orL, cmpI]
  generalize Lk.cmp c a = z
  (repeat' split) <;> omega
def SortedK (xs ys : List Lk) : Prop := ys.Perm xs ∧ ys.Pairwise fun a b => ¬ Lk.late b a
open Go.Proofs Go.Shelf Go.Sort in
theorem swo_lk : SWO (ltOf Lk.lcmp) where
  irrefl x := decide_eq_false fun h => by rw [Lk.lcmp_lt] at h; unfold Lk.late Lk.lt Pt.lt Lk.p at h; simp only at h; omega
  trans x y z h1 h2 := decide_eq_true (by
    have a := of_decide_eq_true h1
    have b := of_decide_eq_true h2
    rw [Lk.lcmp_lt] at a b ⊢
    unfold Lk.late Lk.lt Pt.lt Lk.p at a b ⊢
    simp only at a b ⊢
    omega)
  ntrans x y z h1 h2 := decide_eq_false fun h => by
    have a := of_decide_eq_false h1
    have b := of_decide_eq_false h2
    rw [Lk.lcmp_lt] at a b h
    unfold Lk.late Lk.lt Pt.lt Lk.p at a b h
    simp only at a b h
    omega

theorem CloneL {κ : Ctx} {I : List Item} {a : Option Addr} {c : Nat} {xs : List Lk} (hl : Sl κ I (.slice a xs.length c) xs) (hb : xs.length ≤ 1000000000) :
    CallS Try.prog κ 219 [.slice a xs.length c] I (fun r J => ∃ a' c', r = .slice a' xs.length c' ∧ J = vc 158 (.slice a' xs.length c') xs :: I) := by
 refine CallS.pull (p := a.isNone = true → xs = [] ∧ c = 0) (fun w hs hn => hl.isNone w hs hn) fun hnone => ?_
 refine CallS.enter (L := [(0, .slice a xs.length c)]) Try.func219 rfl rfl rfl rfl ?_
 refine W.sr ?_
 refine G.r (Runs.assign rfl) ?_
 refine G.nt ?_
 refine W.seq ?_
 refine W.sr ?_
 refine G.r (Runs.move rfl) ?_
 refine G.r (Runs.eqnil Try.underlying69 rfl rfl) ?_
 refine G.nt ?_
 refine W.cond rfl (fun c4 => ?_) (fun c4 => ?_)
 ·refine W.sr ?_
  refine G.r (Runs.assign rfl) ?_
  refine G.nt ?_
  refine W.ret ?_
  refine V.then_ret ?_
  obtain ⟨hx0, _⟩ := hnone c4
  subst hx0
  exact V.ret1 rfl rfl (vc 158 (.slice none ([] : List Lk).length 0) ([] : List Lk) :: I) (Fit.nilvc _ _) ⟨none, 0, rfl, rfl⟩
 ·refine W.skip ?_
  refine V.then ?_
  refine W.sr ?_
  refine G.e (Eff.bs0 (α := Lk) Try.underlying69 ty158 rfl) ?_
  rintro _ _ ⟨ad1, rfl, rfl⟩
  refine G.r (Runs.move rfl) ?_
  refine G.e (Eff.app (α := Lk) (e := 158) (xs := ([] : List Lk)) (ys := xs) Try.underlying69 ty158 rfl rfl rfl (by repeat (first | exact List.mem_cons_self | apply List.mem_cons_of_mem)) (Sl.f hl) (by simp only [List.length_nil]; omega) (by decide) rfl (fun _ _ => (by repeat (first | exact At.head _ _ _ | apply At.tail)))) ?_
  rintro _ _ ⟨ad2, cp3, rfl, rfl⟩
  refine G.r (Runs.assign rfl) ?_
  refine G.nt ?_
  refine W.ret ?_
  exact V.ret1 rfl rfl (vc 158 (.slice ad2 xs.length cp3) xs :: I) Fit.sub ⟨ad2, cp3, rfl, rfl⟩

theorem LastCmp_ok {κ : Ctx} {I : List Item} (a c : Lk) :
    CallS Try.prog κ 221 [.agg #[I64 (a.u), I64 (a.v), I64 (a.w), I64 (a.lb), I64 (a.sg), I64 (a.tm)], .agg #[I64 (c.u), I64 (c.v), I64 (c.w), I64 (c.lb), I64 (c.sg), I64 (c.tm)]] I (fun r J => r = I64 (Lk.lcmp a c) ∧ I = J) := by
 refine CallS.enter (L := [(0, .agg #[I64 (a.u), I64 (a.v), I64 (a.w), I64 (a.lb), I64 (a.sg), I64 (a.tm)]), (1, .agg #[I64 (c.u), I64 (c.v), I64 (c.w), I64 (c.lb), I64 (c.sg), I64 (c.tm)])]) Try.func221 rfl rfl rfl rfl ?_
 refine W.sr ?_
 refine G.e (Eff.box (cs := [_, _, _, _, _, _]) rfl rfl rfl) ?_
 rintro _ _ ⟨b1, rfl, rfl⟩
 refine G.e (Eff.box (cs := [_, _, _, _, _, _]) rfl rfl rfl) ?_
 rintro _ _ ⟨b2, rfl, rfl⟩
 refine G.r (Runs.assign rfl) ?_
 refine G.nt ?_
 refine W.seq ?_
 refine W.drawn mixed ?_
 refine A.hold (blk b2 [I64 (c.u), I64 (c.v), I64 (c.w), I64 (c.lb), I64 (c.sg), I64 (c.tm)] 158 :: blk b1 [I64 (a.u), I64 (a.v), I64 (a.w), I64 (a.lb), I64 (a.sg), I64 (a.tm)] 158 :: I) 10 ?_
 refine D.r 0 rfl (Runs.fieldAddr fld158_5 rfl) ?_
 refine D.r 1 rfl (Runs.ld ty3) ?_
 refine D.r 2 rfl (Runs.fieldAddr fld158_5 rfl) ?_
 refine D.r 3 rfl (Runs.ld ty3) ?_
 refine D.r 5 rfl (Runs.lds (vs := [_, _, _, _, _, _]) ty158) ?_
 refine D.r 6 rfl (Runs.lds (vs := [_, _, _, _, _, _]) ty158) ?_
 refine D.step (rs := [4]) (by kernel_rfl) rfl rfl (all1 ?_)
 refine Step.eff rfl (Wanted.plain rfl) (Eff.call call173 rfl rfl (Compare_ok c.tm a.tm)) ?_
 rintro _ _ ⟨_, _, ⟨rfl, rfl⟩, rfl, rfl⟩
 refine ⟨Fit.m, ?_⟩
 refine D.step (rs := [7]) (by kernel_rfl) rfl rfl (all1 ?_)
 refine Step.eff rfl (Wanted.plain rfl) (Eff.call call188 rfl rfl (OrderL_ok c a)) ?_
 rintro _ _ ⟨_, _, ⟨rfl, rfl⟩, rfl, rfl⟩
 refine ⟨Fit.m, ?_⟩
 refine D.step (rs := [8]) (by kernel_rfl) rfl rfl (all1 ?_)
 refine Step.eff rfl (Wanted.plain rfl) (Eff.bs (α := Int) (cs := [_, _]) (xs := [cmpI c.tm a.tm, Lk.cmp c a]) Try.underlying22 ty3 rfl rfl (by decide) (by decide) rfl rfl rfl rfl) ?_
 rintro _ _ ⟨ad3, rfl, rfl⟩
 refine ⟨Fit.m, ?_⟩
 refine D.step (rs := [9]) (by kernel_rfl) rfl rfl (all1 ?_)
 refine Step.eff rfl (Wanted.plain rfl) (Eff.call call172 rfl rfl (Or_ok Sl.o)) ?_
 rintro _ _ ⟨_, _, ⟨rfl, rfl⟩, rfl, rfl⟩
 refine ⟨Fit.m, ?_⟩
 refine D.stop (by kernel_rfl) ?_
 refine A.read (i := 10) (by kernel_rfl) rfl (Wanted.plain rfl) rfl rfl (Runs.assign rfl) ?_
 refine A.done (by kernel_rfl) ?_
 refine V.then ?_
 refine W.sub (L' := [(4, _)]) (Sub.cons rfl Sub.nil) ?_
 refine W.ret ?_
 exact V.ret1 rfl rfl (I) Fit.m ⟨rfl, rfl⟩

open Go.Proofs Go.Shelf Go.Sort in
theorem SortK_ok {κ : Ctx} {I : List Item} {a : Option Addr} {c : Nat} {xs : List Lk} (hsz : xs.length < 1000000000) :
    CallS Try.prog κ 220 [.slice a xs.length c, .func (.func 221) #[] #[]] (vc 158 (.slice a xs.length c) xs :: I) fun r J => ∃ ys : List Lk, (r = .tuple #[] ∧ SortedK xs ys ∧ ys.length = xs.length) ∧ J = [] ++ vc 158 (.slice a xs.length c) ys :: I :=
  (sort_any (α := Lk) (ρ := Try.sort220_ren) Try.sort220 Try.isAgg158 Try.sizeOf158 Lk.lcmp swo_lk 221 #[] (enters_of Try.func221 (by kernel_rfl) rfl) (fun x y W => lays_of (LastCmp_ok x y)) (by omega)).mono fun r J ⟨ys, ⟨h1, h2, h3⟩, h4⟩ =>
    ⟨ys, ⟨h1, ⟨h2, h3.imp fun {a b} h => by rw [← Lk.lcmp_lt]; exact of_decide_eq_false h⟩, h2.length_eq⟩, by rw [h4, h2.length_eq]⟩
theorem SortK_at {κ : Ctx} {I : List Item} {F : Item → List Item} {a : Option Addr} {n c : Nat} {xs : List Lk} (hat : AtF I (vc 158 (.slice a n c) xs) F) (hn : xs.length = n) (hsz : xs.length < 1000000000) :
    CallS Try.prog κ 220 [.slice a n c, .func (.func 221) #[] #[]] I fun r J => ∃ ys : List Lk, (r = .tuple #[] ∧ SortedK xs ys ∧ ys.length = n) ∧ J = [] ++ F (vc 158 (.slice a n c) ys) :=
  CallS.at (Z := fun _ => []) (X := fun ys : List Lk => vc 158 (.slice a n c) ys) (Post := fun r ys => r = .tuple #[] ∧ SortedK xs ys ∧ ys.length = n) hat fun J _ _ => by subst hn; exact SortK_ok hsz

theorem Last_ok {κ : Ctx} {I : List Item} {nd mo : Int} {a0 : Option Addr} {c0 : Nat} {xs : List Lk} (hl : Sl κ I (.slice a0 xs.length c0) xs) (h0 : 0 ≤ mo) (hsz : xs.length ≤ 1000000) :
    CallS Try.prog κ 183 [.agg #[I64 (nd), .slice a0 xs.length c0], I64 (mo)] I (fun r J => ∃ (a : Option Addr) (c : Nat) (ys : List Lk) (m : Nat), r = .slice a (List.take m ys).length c ∧ (SortedK xs ys ∧ ys.length = xs.length ∧ (m : Int) ≤ mo ∧ m ≤ xs.length ∧ ((m : Int) = mo ∨ m = xs.length)) ∧ J = vc 158 (.slice a xs.length c) ys :: I) := by
 refine CallS.enter (L := [(0, .agg #[I64 (nd), .slice a0 xs.length c0]), (1, I64 (mo))]) Try.func183 rfl rfl rfl rfl ?_
 refine W.sr ?_
 refine G.e (Eff.box (cs := [_, _]) rfl rfl rfl) ?_
 rintro _ _ ⟨b1, rfl, rfl⟩
 refine G.r (Runs.assign rfl) ?_
 refine G.nt ?_
 refine W.sr ?_
 refine G.r (Runs.fieldAddr fld71_1 rfl) ?_
 refine G.r (Runs.ld ty69) ?_
 refine G.e (Eff.call call219 rfl rfl (CloneL (xs := xs) (Sl.f hl) (by omega))) ?_
 rintro _ _ ⟨_, _, ⟨ad2, cp3, rfl, rfl⟩, rfl, rfl⟩
 refine G.r (Runs.assign rfl) ?_
 refine G.nt ?_
 refine W.sr ?_
 refine G.r (Runs.move rfl) ?_
 refine G.e (Eff.call call220 rfl rfl (SortK_at (by repeat (first | exact AtF.head _ _ | apply AtF.tail)) rfl (by omega))) ?_
 rintro _ _ ⟨_, _, ⟨ys4, ⟨rfl, hsys4, hlys4⟩, rfl⟩, rfl, rfl⟩
 show G Try.prog κ _ _ _ _ ([(10, .tuple #[]), (9, .slice ad2 xs.length cp3), (5, .slice ad2 xs.length cp3), (8, .slice ad2 xs.length cp3), (7, .slice a0 xs.length c0), (6, .pointer (some ⟨b1, 1, none⟩)), (4, .slice none 0 0), (2, .pointer (some ⟨b1, 0, none⟩)), (0, .agg #[I64 (nd), .slice a0 xs.length c0]), (1, I64 (mo))] : Env) (vc 158 (.slice ad2 xs.length cp3) (ys4) :: blk b1 [I64 (nd), .slice a0 xs.length c0] 71 :: I)
 refine G.nt ?_
 refine W.sr ?_
 refine G.r (Runs.move rfl) ?_
 refine G.r (Runs.move rfl) ?_
 refine G.r (Runs.move rfl) ?_
 refine G.r (Runs.lens Try.underlying69 rfl) ?_
 refine G.r (Runs.min rfl rfl) ?_
 refine G.r (Runs.hi (α := Lk) (xs := ys4) (h := (if ((xs.length : Nat) : Int) < mo then ((xs.length : Nat) : Int) else mo).toNat) Try.underlying69 ty158 rfl rfl (by omega) Sl.o (by split <;> omega)) ?_
 refine G.r (Runs.assign rfl) ?_
 refine G.nt ?_
 refine W.sub (L' := [(4, _)]) (Sub.cons rfl Sub.nil) ?_
 refine W.ret ?_
 have hmn : (((((if ((xs.length : Nat) : Int) < mo then ((xs.length : Nat) : Int) else mo).toNat)) : Nat) : Int) ≤ mo ∧ (((if ((xs.length : Nat) : Int) < mo then ((xs.length : Nat) : Int) else mo).toNat)) ≤ xs.length ∧ ((((((if ((xs.length : Nat) : Int) < mo then ((xs.length : Nat) : Int) else mo).toNat)) : Nat) : Int) = mo ∨ (((if ((xs.length : Nat) : Int) < mo then ((xs.length : Nat) : Int) else mo).toNat)) = xs.length) := by split <;> omega
 exact V.ret1 rfl rfl (vc 158 (.slice ad2 xs.length cp3) (ys4) :: I) Fit.sub ⟨ad2, cp3, ys4, ((if ((xs.length : Nat) : Int) < mo then ((xs.length : Nat) : Int) else mo).toNat), rfl, ⟨hsys4, hlys4, hmn⟩, rfl⟩

theorem IndexL_ok {κ : Ctx} {I : List Item} {v : Value} {xs : List Lk} (hl : Sl κ I v xs) (x : Lk) :
    CallS Try.prog κ 222 [v, .agg #[I64 (x.u), I64 (x.v), I64 (x.w), I64 (x.lb), I64 (x.sg), I64 (x.tm)]] I (fun r J => ∃ y : Int, r = I64 y ∧ (0 ≤ y ↔ x ∈ xs) ∧ I = J) := by
 refine CallS.pull hl.le fun hmax => ?_
 refine CallS.enter (L := [(0, v), (1, .agg #[I64 (x.u), I64 (x.v), I64 (x.w), I64 (x.lb), I64 (x.sg), I64 (x.tm)])]) Try.func222 rfl rfl rfl rfl ?_
 refine W.sr ?_
 refine G.e (Eff.box (cs := [_, _, _, _, _, _]) rfl rfl rfl) ?_
 rintro _ _ ⟨b1, rfl, rfl⟩
 refine G.r (Runs.assign rfl) ?_
 refine G.nt ?_
 refine W.seq ?_
 refine W.sr ?_
 refine G.r (Runs.move rfl) ?_
 refine G.r (Runs.lenT (α := Lk) (xs := xs) Try.underlying69 rfl (Sl.f hl)) ?_
 refine G.r (Runs.move rfl) ?_
 refine G.nt ?_
 refine W.block ?_
 refine W.loop (σ := Nat) (fun s => ([(0, v), (3, .pointer (some ⟨b1, 0, none⟩)), (7, I64 (((xs.length : Nat) : Int))), (8, I64 (((s : Nat) : Int)))] : Env)) (fun s => blk b1 [I64 (x.u), I64 (x.v), I64 (x.w), I64 (x.lb), I64 (x.sg), I64 (x.tm)] 158 :: I) (fun s => (s ≤ xs.length) ∧ (∀ j, j < s → at_ xs (j : Int) ≠ x)) (fun s => xs.length - s) (0) (show ((0 : Nat) ≤ xs.length) ∧ (∀ j, j < (0 : Nat) → at_ xs (j : Int) ≠ x) from ⟨(by omega), all_zero⟩) (Sub.cons rfl (Sub.cons rfl (Sub.cons rfl (Sub.cons lookO Sub.nil)))) (show Fit κ _ (blk b1 [I64 (x.u), I64 (x.v), I64 (x.w), I64 (x.lb), I64 (x.sg), I64 (x.tm)] 158 :: I) from Fit.sub) ?_
 rintro k hp
 obtain ⟨hk, hn⟩ : (k ≤ xs.length) ∧ (∀ j, j < k → at_ xs (j : Int) ≠ x) := hp
 show W Try.prog κ 19 _ _ ([(0, v), (3, .pointer (some ⟨b1, 0, none⟩)), (7, I64 (((xs.length : Nat) : Int))), (8, I64 (((k : Nat) : Int)))] : Env) (blk b1 [I64 (x.u), I64 (x.v), I64 (x.w), I64 (x.lb), I64 (x.sg), I64 (x.tm)] 158 :: I)
 refine W.sr ?_
 refine G.r (Runs.lss rfl rfl) ?_
 refine G.nt ?_
 refine W.seq ?_
 refine W.ite rfl (fun c9 => ?_) (fun c9 => ?_)
 ·refine W.skip ?_
  refine V.then ?_
  refine W.seq ?_
  refine W.block ?_
  refine W.sr ?_
  refine G.r (Runs.move rfl) ?_
  refine G.r (Runs.assign rfl) ?_
  refine G.nt ?_
  refine W.seq ?_
  refine W.drawn mixed ?_
  refine A.hold (blk b1 [I64 (x.u), I64 (x.v), I64 (x.w), I64 (x.lb), I64 (x.sg), I64 (x.tm)] 158 :: I) 6 ?_
  refine D.r 0 rfl (Runs.lds (vs := [_, _, _, _, _, _]) ty158) ?_
  refine D.r 1 rfl (Runs.move rfl) ?_
  refine D.r 2 rfl (Runs.move rfl) ?_
  refine D.r 3 rfl (Runs.idx (α := Lk) (xs := xs) Try.underlying69 ty158 rfl rfl (Sl.f hl) (by omega) (by omega)) ?_
  refine D.r 4 rfl (Runs.gets (α := Lk) (xs := xs) ty158 rfl (Sl.f hl) (by omega) (by omega)) ?_
  refine D.r 5 rfl (Runs.eqlT (α := Lk) (a := x) (b := (at_ xs ((k : Nat) : Int))) eqt158 rfl rfl) ?_
  refine D.done (by kernel_rfl) ?_
  refine V.then ?_
  refine W.ite rfl (fun c16 => ?_) (fun c16 => ?_)
  ·refine W.sr ?_
   refine G.r (Runs.move rfl) ?_
   refine G.r (Runs.assign rfl) ?_
   refine G.nt ?_
   refine W.sub (L' := [(4, _)]) (Sub.cons rfl Sub.nil) ?_
   refine W.ret ?_
   refine V.block_ret ?_
   refine V.then_ret ?_
   refine V.then_ret ?_
   refine V.block_ret ?_
   refine V.then_ret ?_
   have hm : x ∈ xs := by rw [show x = at_ xs ((k : Nat) : Int) from c16]; exact at_mem (by omega) (by omega)
   exact V.ret1 rfl rfl (I) Fit.m ⟨_, rfl, ⟨fun _ => hm, fun _ => by omega⟩, rfl⟩
  ·refine W.skip ?_
   refine V.block_normal ?_
   refine V.then ?_
   refine W.region ?_
   refine G.r (Runs.add rfl rfl (by unfold InR; omega)) ?_
   refine G.r (Runs.move rfl) ?_
   refine G.nil ?_
   exact V.next ((k + 1)) (show ((k + 1 : Nat) ≤ xs.length) ∧ (∀ j, j < (k + 1 : Nat) → at_ xs (j : Int) ≠ x) from ⟨(by omega), (all_succ hn (fun e => c16 e.symm))⟩) (show xs.length - (k + 1 : Nat) < xs.length - k from (by omega)) (Sub.cons rfl (Sub.cons rfl (Sub.cons rfl (Sub.cons lookO Sub.nil)))) (show Fit κ _ (blk b1 [I64 (x.u), I64 (x.v), I64 (x.w), I64 (x.lb), I64 (x.sg), I64 (x.tm)] 158 :: I) from Fit.sub)
 ·refine W.exit ?_
  refine V.then_exit ?_
  refine V.then_exit ?_
  refine V.block_hit ?_
  refine V.then ?_
  refine W.sr ?_
  refine G.r (Runs.assign rfl) ?_
  refine G.nt ?_
  refine W.ret ?_
  have hm : x ∉ xs := not_mem_at hn (by omega)
  exact V.ret1 rfl rfl (I) Fit.m ⟨_, rfl, ⟨fun h => absurd h (by decide), fun h => absurd h hm⟩, rfl⟩

theorem ContainsL_ok {κ : Ctx} {I : List Item} {v : Value} {xs : List Lk} (hl : Sl κ I v xs) (x : Lk) :
    CallS Try.prog κ 185 [v, .agg #[I64 (x.u), I64 (x.v), I64 (x.w), I64 (x.lb), I64 (x.sg), I64 (x.tm)]] I (fun r J => r = .bool (decide (x ∈ xs)) ∧ I = J) := by
 refine CallS.enter (L := [(0, v), (1, .agg #[I64 (x.u), I64 (x.v), I64 (x.w), I64 (x.lb), I64 (x.sg), I64 (x.tm)])]) Try.func185 rfl rfl rfl rfl ?_
 refine W.sr ?_
 refine G.e (Eff.box (cs := [_, _, _, _, _, _]) rfl rfl rfl) ?_
 rintro _ _ ⟨b1, rfl, rfl⟩
 refine G.r (Runs.assign rfl) ?_
 refine G.nt ?_
 refine W.sr ?_
 refine G.r (Runs.move rfl) ?_
 refine G.r (Runs.lds (vs := [_, _, _, _, _, _]) ty158) ?_
 refine G.e (Eff.call call222 rfl rfl (IndexL_ok (Sl.f hl) x)) ?_
 rintro _ _ ⟨_, _, ⟨y2, rfl, hy2, rfl⟩, rfl, rfl⟩
 refine G.r (Runs.geq rfl rfl) ?_
 refine G.r (Runs.assign rfl) ?_
 refine G.nt ?_
 refine W.ret ?_
 exact V.ret1 rfl rfl (I) Fit.m ⟨by rw [decide_eq_decide.2 (by assumption)], rfl⟩

theorem Last1_ok {κ : Ctx} {I : List Item} {b : Nat} {v : Value} {zs : List Lk} (hb : BlkRd κ I b [v] 69) (hz : Sl κ I v zs) (x : Lk) :
    CallS Try.prog κ 184 [.agg #[I64 (x.u), I64 (x.v), I64 (x.w), I64 (x.lb), I64 (x.sg), I64 (x.tm)], .pointer (some ⟨b, 0, none⟩)] I (fun r J => r = .bool (decide (x ∈ zs)) ∧ I = J) := by
 refine CallS.enter (L := [(0, .agg #[I64 (x.u), I64 (x.v), I64 (x.w), I64 (x.lb), I64 (x.sg), I64 (x.tm)]), (1, .pointer (some ⟨b, 0, none⟩))]) Try.func184 rfl rfl rfl rfl ?_
 refine W.sr ?_
 refine G.e (Eff.box (cs := [_, _, _, _, _, _]) rfl rfl rfl) ?_
 rintro _ _ ⟨b1, rfl, rfl⟩
 refine G.r (Runs.assign rfl) ?_
 refine G.nt ?_
 refine W.sr ?_
 refine G.r (Runs.loadB ty69 rfl (BlkRd.fit hb Fit.m) rfl) ?_
 refine G.r (Runs.lds (vs := [_, _, _, _, _, _]) ty158) ?_
 refine G.e (Eff.call call185 rfl rfl (ContainsL_ok (Sl.f hz) x)) ?_
 rintro _ _ ⟨_, _, ⟨rfl, rfl⟩, rfl, rfl⟩
 refine G.r (Runs.assign rfl) ?_
 refine G.nt ?_
 refine W.ret ?_
 exact V.ret1 rfl rfl (I) Fit.m ⟨rfl, rfl⟩

theorem Last1_says {κ : Ctx} {I : List Item} {b : Nat} {v : Value} {zs : List Lk} (hb : BlkRd κ I b [v] 69) (hz : Sl κ I v zs) : Says Try.prog κ I 184 [.pointer (some ⟨b, 0, none⟩)] (fun x : Lk => decide (x ∈ zs)) := ⟨call184, fun x J hf => Last1_ok (hb.fit hf) (Sl.fit hz hf) x⟩

theorem Rule3_ok {κ : Ctx} {I : List Item} {nd kd wd mo nw : Int} {a0 : Option Addr} {c0 : Nat} {xs : List Lk} (hl : Sl κ I (.slice a0 xs.length c0) xs) (h0 : 0 ≤ mo) (hsz : xs.length ≤ 1000000) :
    CallS Try.prog κ 182 [.agg #[I64 (nd), .slice a0 xs.length c0], .agg #[I64 (kd), I64 (wd), I64 (mo)], I64 (nw)] I (fun r J => ∃ (b : Nat) (a : Option Addr) (c : Nat) (ys : List Lk) (m : Nat), r = .func (.func 184) #[] #[.pointer (some ⟨b, 0, none⟩)] ∧ (SortedK xs ys ∧ ys.length = xs.length ∧ (m : Int) ≤ mo ∧ m ≤ xs.length ∧ ((m : Int) = mo ∨ m = xs.length)) ∧ J = blk b [.slice a (List.take m ys).length c] 69 :: vc 158 (.slice a xs.length c) ys :: I) := by
 refine CallS.enter (L := [(0, .agg #[I64 (nd), .slice a0 xs.length c0]), (1, .agg #[I64 (kd), I64 (wd), I64 (mo)]), (2, I64 (nw))]) Try.func182 rfl rfl rfl rfl ?_
 refine W.sr ?_
 refine G.e (Eff.box (cs := [_, _]) rfl rfl rfl) ?_
 rintro _ _ ⟨b1, rfl, rfl⟩
 refine G.e (Eff.box (cs := [_, _, _]) rfl rfl rfl) ?_
 rintro _ _ ⟨b2, rfl, rfl⟩
 refine G.r (Runs.assign rfl) ?_
 refine G.nt ?_
 refine W.sr ?_
 refine G.r (Runs.lds (vs := [_, _]) ty71) ?_
 refine G.r (Runs.fieldAddr fld73_2 rfl) ?_
 refine G.r (Runs.ld ty3) ?_
 refine G.e (Eff.call call183 rfl rfl (Last_ok (nd := nd) (Sl.f hl) h0 (by omega))) ?_
 rintro _ _ ⟨_, _, ⟨ad3, cp4, ys5, mm6, rfl, hzys5, rfl⟩, rfl, rfl⟩
 refine G.e (Eff.alloc ty69 rfl) ?_
 rintro _ _ ⟨b7, rfl, rfl⟩
 refine G.e (Eff.st (cs := [_]) (vs := [_]) (cs' := [_]) ty69) ?_
 rintro _ _ ⟨rfl, rfl⟩
 refine G.nt ?_
 refine W.sr ?_
 refine G.r (Runs.makeFunc rfl rfl) ?_
 refine G.r (Runs.assign rfl) ?_
 refine G.nt ?_
 refine W.ret ?_
 exact V.ret1 rfl rfl (blk b7 [.slice ad3 (List.take mm6 ys5).length cp4] 69 :: vc 158 (.slice ad3 xs.length cp4) (ys5) :: I) Fit.sub ⟨b7, ad3, cp4, ys5, mm6, rfl, hzys5, rfl⟩

end Go.Sl
/- Windows: what is present. The plain laws. No Go. No conditions. -/
namespace Go.Sl
set_option linter.unusedVariables false
set_option linter.unusedSectionVars false
theorem scan0 {n : Int} : ∀ (xs : List Lk) (q : Lk), scanL (badL n) Lk.lt (some q) xs = 0 → (∀ x ∈ xs, badL n x = 0) ∧ (q :: xs).Pairwise Lk.lt
  | [], q, _ => by simp
  | p :: ps, q, h => by
    simp only [scanL] at h
    by_cases hb : badL n p = 0
    · rw [if_neg (by simp [hb])] at h
      by_cases hl : Lk.lt q p
      · rw [if_pos hl] at h
        obtain ⟨h1, h2⟩ := scan0 ps p h
        refine ⟨fun x hx => ?_, List.pairwise_cons.2 ⟨fun x hx => ?_, h2⟩⟩
        · rcases List.mem_cons.1 hx with rfl | hx
          · exact hb
          · exact h1 x hx
        · rcases List.mem_cons.1 hx with rfl | hx
          · exact hl
          · exact Pt.lin.tr _ _ _ hl ((List.pairwise_cons.1 h2).1 x hx)
      · rw [if_neg hl] at h; cases h
    · rw [if_pos hb] at h; exact absurd h hb
theorem checkS_ok {n : Int} {xs : List Lk} (h : checkS n xs = 0) : (0 ≤ n ∧ n ≤ 64) ∧ (∀ x ∈ xs, badL n x = 0) ∧ xs.Pairwise Lk.lt := by
  unfold checkS at h
  by_cases hn : n < 0 ∨ 64 < n
  · rw [if_pos hn] at h; cases h
  · rw [if_neg hn] at h
    refine ⟨by omega, ?_⟩
    cases xs with
    | nil => exact ⟨(fun x hx => by cases hx), List.Pairwise.nil⟩
    | cons p ps =>
      simp only [scanL] at h
      by_cases hb : badL n p = 0
      · rw [if_neg (by simp [hb])] at h
        obtain ⟨h1, h2⟩ := scan0 ps p h
        exact ⟨fun x hx => by
          rcases List.mem_cons.1 hx with rfl | hx
          · exact hb
          · exact h1 x hx, h2⟩
      · rw [if_pos hb] at h; exact absurd h hb
theorem badL_tm {n : Int} {l : Lk} (h : badL n l = 0) : 0 ≤ l.tm ∧ l.tm ≤ 1048576 := by
  unfold badL at h
  split at h
  · cases h
  · split at h
    · cases h
    · split at h
      · cases h
      · omega
structure AskOk (nd : Int) (xs : List Lk) (kd wd mo nw : Int) : Prop where
  kind : 1 ≤ kd ∧ kd ≤ 3
  width : kd = 2 → 1 ≤ wd ∧ wd ≤ 1048576
  most : kd = 3 → 0 ≤ mo ∧ mo ≤ 2016
  nodes : 0 ≤ nd ∧ nd ≤ 64
  asc : xs.Pairwise Lk.lt
  now : 0 ≤ nw ∧ nw ≤ 1048576
  tm : ∀ x ∈ xs, 0 ≤ x.tm ∧ x.tm ≤ nw
theorem askE_ok {nd : Int} {xs : List Lk} {kd wd mo nw : Int} (h : askE nd xs kd wd mo nw = 0) : AskOk nd xs kd wd mo nw := by
  unfold askE at h
  by_cases h1 : checkW kd wd mo = 0
  · rw [if_neg (by simp [h1])] at h
    by_cases h2 : checkS nd xs = 0
    · rw [if_neg (by simp [h2])] at h
      obtain ⟨h3, h4, h5⟩ := checkS_ok h2
      split at h
      · cases h
      · rename_i h6
        have hw : (1 ≤ kd ∧ kd ≤ 3) ∧ (kd = 2 → 1 ≤ wd ∧ wd ≤ 1048576) ∧ (kd = 3 → 0 ≤ mo ∧ mo ≤ 2016) := by
          unfold checkW at h1
          split at h1
          · cases h1
          · split at h1
            · cases h1
            · omega
        refine ⟨hw.1, hw.2.1, hw.2.2, h3, h5, by omega, fun x hx => ?_⟩
        have h7 := badL_tm (h4 x hx)
        refine ⟨h7.1, ?_⟩
        by_cases h8 : nw < x.tm
        · exact absurd (.inr (.inr (List.any_eq_true.2 ⟨x, hx, decide_eq_true h8⟩))) h6
        · omega
    · rw [if_pos h2] at h; exact absurd h h2
  · rw [if_pos h1] at h; exact absurd h h1
/-- How many come before x in the order of the latest. -/
def rankL (xs : List Lk) (x : Lk) : Nat := (xs.filter fun y => decide (Lk.late y x)).length
def inW (kd wd mo nw : Int) (xs : List Lk) (x : Lk) : Bool := if kd = 2 then decide (nw - x.tm < wd) else if kd = 3 then decide ((rankL xs x : Int) < mo) else true
theorem late_irr (x : Lk) : ¬ Lk.late x x := by unfold Lk.late Lk.lt Pt.lt; omega
theorem late_asymm {x y : Lk} (h : Lk.late x y) : ¬ Lk.late y x := by unfold Lk.late Lk.lt Pt.lt at *; omega
theorem rank_at : ∀ (ys : List Lk) (i : Nat) (hi : i < ys.length), ys.Pairwise Lk.late → rankL ys ys[i] = i
  | [], i, hi, _ => absurd hi (by simp)
  | y :: ys, 0, hi, hp => by
    obtain ⟨h1, h2⟩ := List.pairwise_cons.1 hp
    unfold rankL
    rw [List.filter_eq_nil_iff.2 fun z hz => ?_]
    · rfl
    · simp only [List.getElem_cons_zero, decide_eq_true_eq]
      rcases List.mem_cons.1 hz with rfl | hz
      · exact late_irr _
      · exact late_asymm (h1 z hz)
  | y :: ys, i + 1, hi, hp => by
    obtain ⟨h1, h2⟩ := List.pairwise_cons.1 hp
    have hi' : i < ys.length := by simpa using hi
    have ih := rank_at ys i hi' h2
    unfold rankL at ih ⊢
    rw [List.getElem_cons_succ, List.filter_cons, if_pos (decide_eq_true (h1 _ (List.getElem_mem hi'))), List.length_cons, ih]
theorem sortedK_late {xs ys : List Lk} (h : SortedK xs ys) (ha : xs.Pairwise Lk.lt) : ys.Pairwise Lk.late := by
  have h1 : xs.Pairwise fun a b => Lk.late a b ∨ Lk.late b a := ha.imp fun {a b} hab => by unfold Lk.late Lk.lt Pt.lt at *; omega
  have h2 : ys.Pairwise fun a b => Lk.late a b ∨ Lk.late b a := (h.1.pairwise_iff fun {x y} hxy => hxy.symm).2 h1
  exact (h2.and h.2).imp fun {a b} hab => hab.1.resolve_right hab.2
theorem take_rank {xs ys : List Lk} (h : SortedK xs ys) (ha : xs.Pairwise Lk.lt) {x : Lk} (hx : x ∈ xs) (m : Nat) : x ∈ ys.take m ↔ rankL xs x < m := by
  have hp := sortedK_late h ha
  have hr : ∀ z, rankL xs z = rankL ys z := fun z => by unfold rankL; exact ((h.1.filter _).length_eq).symm
  constructor
  · intro hm
    obtain ⟨j, hj, he⟩ := List.mem_take_iff_getElem.1 hm
    rw [hr, ← he, rank_at ys j (by omega) hp]; omega
  · intro hm
    obtain ⟨j, hj, he⟩ := List.getElem_of_mem (h.1.mem_iff.2 hx)
    rw [hr, ← he, rank_at ys j hj hp] at hm
    exact List.mem_take_iff_getElem.2 ⟨j, by omega, he⟩
/-- The program's tests, on links of a state that may be asked about. -/
theorem inW_all {kd wd mo nw : Int} {xs : List Lk} (hk : kd = 1) : (xs.filter fun _ => true) = xs.filter (inW kd wd mo nw xs) :=
  List.filter_congr fun x hx => by unfold inW; rw [if_neg (by omega), if_neg (by omega)]
theorem inW_age {nd kd wd mo nw : Int} {xs : List Lk} (h : AskOk nd xs kd wd mo nw) (hk : kd = 2) : (xs.filter fun x => decide (IntKind.i64.wrap (nw - x.tm) < wd)) = xs.filter (inW kd wd mo nw xs) :=
  List.filter_congr fun x hx => by
    have h1 := h.tm x hx
    have h2 := h.now
    unfold inW; rw [if_pos hk, InR.wrap (by unfold InR; omega)]
theorem inW_last {nd kd wd mo nw : Int} {xs ys : List Lk} {m : Nat} (h : AskOk nd xs kd wd mo nw) (hk : kd = 3) (hs : SortedK xs ys ∧ ys.length = xs.length ∧ (m : Int) ≤ mo ∧ m ≤ xs.length ∧ ((m : Int) = mo ∨ m = xs.length)) :
    (xs.filter fun x => decide (x ∈ ys.take m)) = xs.filter (inW kd wd mo nw xs) :=
  List.filter_congr fun x hx => by
    unfold inW; rw [if_neg (by omega), if_pos hk, decide_eq_decide, take_rank hs.1 h.asc hx]
    have hlt : rankL xs x < xs.length := by
      have h1 := List.length_filter_le (fun y => decide (Lk.late y x)) xs
      obtain ⟨j, hj, he⟩ := List.getElem_of_mem (hs.1.1.mem_iff.2 hx)
      have h2 : rankL xs x = j := by
        have : rankL xs x = rankL ys x := by unfold rankL; exact ((hs.1.1.filter _).length_eq).symm
        rw [this, ← he, rank_at ys j hj (sortedK_late hs.1 h.asc)]
      omega
    omega
end Go.Sl
namespace Go.Sl
open Go.Proofs
set_option linter.unusedVariables false
set_option linter.unusedSimpArgs false
set_option maxRecDepth 4000
end Go.Sl
namespace Go.Sl
open Go.Proofs
set_option linter.unusedVariables false
set_option linter.unusedSimpArgs false
set_option maxRecDepth 4000
theorem Present1_ok {κ : Ctx} {I : List Item} {nd wd mo nw : Int} {a0 : Option Addr} {c0 : Nat} {xs : List Lk} (hl : Sl κ I (.slice a0 xs.length c0) xs) (hsz : xs.length ≤ 1000000) :
    CallS Try.prog κ 53 [.agg #[I64 (nd), .slice a0 xs.length c0], .agg #[I64 (1), I64 (wd), I64 (mo)], I64 (nw)] I (fun r J => (askE nd xs 1 wd mo nw ≠ 0 ∧ r = .tuple #[.agg #[I64 0, .slice none 0 0], I64 (askE nd xs 1 wd mo nw)] ∧ I = J) ∨ (∃ a c, askE nd xs 1 wd mo nw = 0 ∧ r = .tuple #[.agg #[I64 nd, .slice a (xs.filter (inW 1 wd mo nw xs)).length c], I64 0] ∧ J = vc 158 (.slice a (xs.filter (inW 1 wd mo nw xs)).length c) (xs.filter (inW 1 wd mo nw xs)) :: I)) := by
 refine CallS.enter (L := [(0, .agg #[I64 (nd), .slice a0 xs.length c0]), (1, .agg #[I64 (1), I64 (wd), I64 (mo)]), (2, I64 (nw))]) Try.func53 rfl rfl rfl rfl ?_
 refine W.sr ?_
 refine G.e (Eff.box (cs := [_, _]) rfl rfl rfl) ?_
 rintro _ _ ⟨b1, rfl, rfl⟩
 refine G.e (Eff.box (cs := [_, _, _]) rfl rfl rfl) ?_
 rintro _ _ ⟨b2, rfl, rfl⟩
 refine G.e (Eff.alloc ty71 rfl) ?_
 rintro _ _ ⟨b3, rfl, rfl⟩
 refine G.r (Runs.assign rfl) ?_
 refine G.nt ?_
 refine W.seq ?_
 refine W.sr ?_
 refine G.r (Runs.lds (vs := [_, _]) ty71) ?_
 refine G.r (Runs.lds (vs := [_, _, _]) ty73) ?_
 refine G.r (Runs.move rfl) ?_
 refine G.e (Eff.call call115 rfl rfl (Asked_ok (nd := nd) (kd := 1) (wd := wd) (mo := mo) (nw := nw) (Sl.f hl))) ?_
 rintro _ _ ⟨_, _, ⟨rfl, rfl⟩, rfl, rfl⟩
 refine G.r (Runs.assign rfl) ?_
 refine G.nt ?_
 refine W.sr ?_
 refine G.r (Runs.move rfl) ?_
 refine G.r (Runs.neq rfl rfl) ?_
 refine G.nt ?_
 refine W.sub (L' := [(14, _), (8, _), (6, _), (4, _), (3, _), (2, _)]) (Sub.cons rfl (Sub.cons rfl (Sub.cons rfl (Sub.cons rfl (Sub.cons rfl (Sub.cons rfl Sub.nil)))))) ?_
 refine W.ite rfl (fun c14 => ?_) (fun c14 => ?_)
 ·refine W.sr ?_
  refine G.r (Runs.build (cells := [_, _]) ty71 Try.underlying71 pl71 rfl rfl) ?_
  refine G.r (Runs.move rfl) ?_
  refine G.e (Eff.st (cs := [_, _]) (vs := [_, _]) (cs' := [_, _]) ty71) ?_
  rintro _ _ ⟨rfl, rfl⟩
  refine G.r (Runs.assign rfl) ?_
  refine G.nt ?_
  refine W.ret ?_
  refine V.then_ret ?_
  exact V.retc1 rfl ty71 rfl rfl (by repeat (first | exact List.mem_cons_self | apply List.mem_cons_of_mem)) rfl (I) Fit.m (.inl ⟨c14, rfl, rfl⟩)
 ·refine W.skip ?_
  refine V.then ?_
  refine W.seq ?_
  refine W.drawn mixed ?_
  refine A.hold (blk b3 [I64 (0), .slice none 0 0] 71 :: blk b2 [I64 (1), I64 (wd), I64 (mo)] 73 :: blk b1 [I64 (nd), .slice a0 xs.length c0] 71 :: I) 10 ?_
  refine D.r 0 rfl (Runs.lds (vs := [_, _]) ty71) ?_ (hJ := Fit.sub)
  refine D.r 2 rfl (Runs.fieldAddr fld73_0 rfl) ?_ (hJ := Fit.sub)
  refine D.r 3 rfl (Runs.ld ty3) ?_ (hJ := Fit.sub)
  refine D.r 5 rfl (Runs.lds (vs := [_, _]) ty71) ?_ (hJ := Fit.sub)
  refine D.r 6 rfl (Runs.lds (vs := [_, _, _]) ty73) ?_ (hJ := Fit.sub)
  refine D.r 7 rfl (Runs.move rfl) ?_ (hJ := Fit.sub)
  refine D.step (rs := [1]) (by kernel_rfl) rfl rfl (all1 ?_)
  refine Step.eff rfl (Wanted.plain rfl) (Eff.call call117 rfl rfl Rules_ok) ?_
  rintro _ _ ⟨_, _, ⟨mr4, rfl, rfl⟩, rfl, rfl⟩
  refine ⟨Fit.sub, ?_⟩
  refine D.step (rs := [4]) (by kernel_rfl) rfl rfl (all1 ?_)
  refine Step.read rfl (Wanted.plain rfl) rfl rfl (Runs.lookupK (i := 0) Try.underlying163 Try.underlying3 rfl rfl rfl (by repeat (first | exact List.mem_cons_self | apply List.mem_cons_of_mem)) rfl) Fit.sub ?_
  refine D.step (rs := [8]) (by kernel_rfl) rfl rfl (all1 ?_)
  refine Step.eff rfl (Wanted.plain rfl) (Eff.callv call178 rfl rfl rfl Rule1_ok) ?_
  rintro _ _ ⟨_, _, ⟨rfl, rfl⟩, rfl, rfl⟩
  refine ⟨Fit.sub, ?_⟩
  refine D.step (rs := [9]) (by kernel_rfl) rfl rfl (all1 ?_)
  refine Step.eff rfl (Wanted.plain rfl) (Eff.call call116 rfl rfl (Only_ok (nd := nd) (Sl.f hl) All1_says (by omega))) ?_
  rintro _ _ ⟨_, _, ⟨ad5, cp6, rfl, rfl⟩, rfl, rfl⟩
  refine ⟨Fit.sub, ?_⟩
  refine D.stop (by kernel_rfl) ?_
  refine A.eff (i := 10) (by kernel_rfl) rfl (Wanted.plain rfl) (Eff.st (cs := [_, _]) (vs := [_, _]) (cs' := [_, _]) ty71) ?_
  rintro _ _ ⟨rfl, rfl⟩
  refine A.read (i := 11) (by kernel_rfl) rfl (Wanted.plain rfl) rfl rfl (Runs.assign rfl) ?_
  refine A.done (by kernel_rfl) ?_
  refine V.then ?_
  refine W.sub (L' := [(7, _), (6, _)]) (Sub.cons rfl (Sub.cons rfl Sub.nil)) ?_
  refine W.ret ?_
  have hE : List.filter (fun _ : Lk => true) xs = (xs.filter (inW 1 wd mo nw xs)) := inW_all rfl
  exact V.retc1 rfl ty71 rfl rfl (by repeat (first | exact List.mem_cons_self | apply List.mem_cons_of_mem)) rfl (vc 158 (.slice ad5 (xs.filter (inW 1 wd mo nw xs)).length cp6) (xs.filter (inW 1 wd mo nw xs)) :: I) (by rw [← hE]; exact Fit.sub) (.inr ⟨ad5, cp6, Classical.not_not.1 c14, by rw [← hE], rfl⟩)

theorem Present2_ok {κ : Ctx} {I : List Item} {nd wd mo nw : Int} {a0 : Option Addr} {c0 : Nat} {xs : List Lk} (hl : Sl κ I (.slice a0 xs.length c0) xs) (hsz : xs.length ≤ 1000000) :
    CallS Try.prog κ 53 [.agg #[I64 (nd), .slice a0 xs.length c0], .agg #[I64 (2), I64 (wd), I64 (mo)], I64 (nw)] I (fun r J => (askE nd xs 2 wd mo nw ≠ 0 ∧ r = .tuple #[.agg #[I64 0, .slice none 0 0], I64 (askE nd xs 2 wd mo nw)] ∧ I = J) ∨ (∃ a c, askE nd xs 2 wd mo nw = 0 ∧ r = .tuple #[.agg #[I64 nd, .slice a (xs.filter (inW 2 wd mo nw xs)).length c], I64 0] ∧ J = vc 158 (.slice a (xs.filter (inW 2 wd mo nw xs)).length c) (xs.filter (inW 2 wd mo nw xs)) :: I)) := by
 refine CallS.enter (L := [(0, .agg #[I64 (nd), .slice a0 xs.length c0]), (1, .agg #[I64 (2), I64 (wd), I64 (mo)]), (2, I64 (nw))]) Try.func53 rfl rfl rfl rfl ?_
 refine W.sr ?_
 refine G.e (Eff.box (cs := [_, _]) rfl rfl rfl) ?_
 rintro _ _ ⟨b1, rfl, rfl⟩
 refine G.e (Eff.box (cs := [_, _, _]) rfl rfl rfl) ?_
 rintro _ _ ⟨b2, rfl, rfl⟩
 refine G.e (Eff.alloc ty71 rfl) ?_
 rintro _ _ ⟨b3, rfl, rfl⟩
 refine G.r (Runs.assign rfl) ?_
 refine G.nt ?_
 refine W.seq ?_
 refine W.sr ?_
 refine G.r (Runs.lds (vs := [_, _]) ty71) ?_
 refine G.r (Runs.lds (vs := [_, _, _]) ty73) ?_
 refine G.r (Runs.move rfl) ?_
 refine G.e (Eff.call call115 rfl rfl (Asked_ok (nd := nd) (kd := 2) (wd := wd) (mo := mo) (nw := nw) (Sl.f hl))) ?_
 rintro _ _ ⟨_, _, ⟨rfl, rfl⟩, rfl, rfl⟩
 refine G.r (Runs.assign rfl) ?_
 refine G.nt ?_
 refine W.sr ?_
 refine G.r (Runs.move rfl) ?_
 refine G.r (Runs.neq rfl rfl) ?_
 refine G.nt ?_
 refine W.sub (L' := [(14, _), (8, _), (6, _), (4, _), (3, _), (2, _)]) (Sub.cons rfl (Sub.cons rfl (Sub.cons rfl (Sub.cons rfl (Sub.cons rfl (Sub.cons rfl Sub.nil)))))) ?_
 refine W.ite rfl (fun c14 => ?_) (fun c14 => ?_)
 ·refine W.sr ?_
  refine G.r (Runs.build (cells := [_, _]) ty71 Try.underlying71 pl71 rfl rfl) ?_
  refine G.r (Runs.move rfl) ?_
  refine G.e (Eff.st (cs := [_, _]) (vs := [_, _]) (cs' := [_, _]) ty71) ?_
  rintro _ _ ⟨rfl, rfl⟩
  refine G.r (Runs.assign rfl) ?_
  refine G.nt ?_
  refine W.ret ?_
  refine V.then_ret ?_
  exact V.retc1 rfl ty71 rfl rfl (by repeat (first | exact List.mem_cons_self | apply List.mem_cons_of_mem)) rfl (I) Fit.m (.inl ⟨c14, rfl, rfl⟩)
 ·refine W.skip ?_
  refine V.then ?_
  refine W.seq ?_
  refine W.drawn mixed ?_
  refine A.hold (blk b3 [I64 (0), .slice none 0 0] 71 :: blk b2 [I64 (2), I64 (wd), I64 (mo)] 73 :: blk b1 [I64 (nd), .slice a0 xs.length c0] 71 :: I) 10 ?_
  refine D.r 0 rfl (Runs.lds (vs := [_, _]) ty71) ?_ (hJ := Fit.sub)
  refine D.r 2 rfl (Runs.fieldAddr fld73_0 rfl) ?_ (hJ := Fit.sub)
  refine D.r 3 rfl (Runs.ld ty3) ?_ (hJ := Fit.sub)
  refine D.r 5 rfl (Runs.lds (vs := [_, _]) ty71) ?_ (hJ := Fit.sub)
  refine D.r 6 rfl (Runs.lds (vs := [_, _, _]) ty73) ?_ (hJ := Fit.sub)
  refine D.r 7 rfl (Runs.move rfl) ?_ (hJ := Fit.sub)
  refine D.step (rs := [1]) (by kernel_rfl) rfl rfl (all1 ?_)
  refine Step.eff rfl (Wanted.plain rfl) (Eff.call call117 rfl rfl Rules_ok) ?_
  rintro _ _ ⟨_, _, ⟨mr4, rfl, rfl⟩, rfl, rfl⟩
  refine ⟨Fit.sub, ?_⟩
  refine D.step (rs := [4]) (by kernel_rfl) rfl rfl (all1 ?_)
  refine Step.read rfl (Wanted.plain rfl) rfl rfl (Runs.lookupK (i := 1) Try.underlying163 Try.underlying3 rfl rfl rfl (by repeat (first | exact List.mem_cons_self | apply List.mem_cons_of_mem)) rfl) Fit.sub ?_
  refine D.step (rs := [8]) (by kernel_rfl) rfl rfl (all1 ?_)
  refine Step.eff rfl (Wanted.plain rfl) (Eff.callv call180 rfl rfl rfl Rule2_ok) ?_
  rintro _ _ ⟨_, _, ⟨b5, b6, rfl, rfl⟩, rfl, rfl⟩
  refine ⟨Fit.sub, ?_⟩
  refine D.step (rs := [9]) (by kernel_rfl) rfl rfl (all1 ?_)
  refine Step.eff rfl (Wanted.plain rfl) (Eff.call call116 rfl rfl (Only_ok (nd := nd) (Sl.f hl) (Age1_says (BlkRd.of (by repeat (first | exact List.mem_cons_self | apply List.mem_cons_of_mem))) (BlkRd.of (by repeat (first | exact List.mem_cons_self | apply List.mem_cons_of_mem)))) (by omega))) ?_
  rintro _ _ ⟨_, _, ⟨ad7, cp8, rfl, rfl⟩, rfl, rfl⟩
  refine ⟨Fit.sub, ?_⟩
  refine D.stop (by kernel_rfl) ?_
  refine A.eff (i := 10) (by kernel_rfl) rfl (Wanted.plain rfl) (Eff.st (cs := [_, _]) (vs := [_, _]) (cs' := [_, _]) ty71) ?_
  rintro _ _ ⟨rfl, rfl⟩
  refine A.read (i := 11) (by kernel_rfl) rfl (Wanted.plain rfl) rfl rfl (Runs.assign rfl) ?_
  refine A.done (by kernel_rfl) ?_
  refine V.then ?_
  refine W.sub (L' := [(7, _), (6, _)]) (Sub.cons rfl (Sub.cons rfl Sub.nil)) ?_
  refine W.ret ?_
  have hE : List.filter (fun x : Lk => decide (IntKind.i64.wrap (nw - x.tm) < wd)) xs = (xs.filter (inW 2 wd mo nw xs)) := inW_age (askE_ok (Classical.not_not.1 c14)) rfl
  exact V.retc1 rfl ty71 rfl rfl (by repeat (first | exact List.mem_cons_self | apply List.mem_cons_of_mem)) rfl (vc 158 (.slice ad7 (xs.filter (inW 2 wd mo nw xs)).length cp8) (xs.filter (inW 2 wd mo nw xs)) :: I) (by rw [← hE]; exact Fit.sub) (.inr ⟨ad7, cp8, Classical.not_not.1 c14, by rw [← hE], rfl⟩)

theorem Present3_ok {κ : Ctx} {I : List Item} {nd wd mo nw : Int} {a0 : Option Addr} {c0 : Nat} {xs : List Lk} (hl : Sl κ I (.slice a0 xs.length c0) xs) (hsz : xs.length ≤ 1000000) :
    CallS Try.prog κ 53 [.agg #[I64 (nd), .slice a0 xs.length c0], .agg #[I64 (3), I64 (wd), I64 (mo)], I64 (nw)] I (fun r J => (askE nd xs 3 wd mo nw ≠ 0 ∧ r = .tuple #[.agg #[I64 0, .slice none 0 0], I64 (askE nd xs 3 wd mo nw)] ∧ I = J) ∨ (∃ a c, askE nd xs 3 wd mo nw = 0 ∧ r = .tuple #[.agg #[I64 nd, .slice a (xs.filter (inW 3 wd mo nw xs)).length c], I64 0] ∧ J = vc 158 (.slice a (xs.filter (inW 3 wd mo nw xs)).length c) (xs.filter (inW 3 wd mo nw xs)) :: I)) := by
 refine CallS.enter (L := [(0, .agg #[I64 (nd), .slice a0 xs.length c0]), (1, .agg #[I64 (3), I64 (wd), I64 (mo)]), (2, I64 (nw))]) Try.func53 rfl rfl rfl rfl ?_
 refine W.sr ?_
 refine G.e (Eff.box (cs := [_, _]) rfl rfl rfl) ?_
 rintro _ _ ⟨b1, rfl, rfl⟩
 refine G.e (Eff.box (cs := [_, _, _]) rfl rfl rfl) ?_
 rintro _ _ ⟨b2, rfl, rfl⟩
 refine G.e (Eff.alloc ty71 rfl) ?_
 rintro _ _ ⟨b3, rfl, rfl⟩
 refine G.r (Runs.assign rfl) ?_
 refine G.nt ?_
 refine W.seq ?_
 refine W.sr ?_
 refine G.r (Runs.lds (vs := [_, _]) ty71) ?_
 refine G.r (Runs.lds (vs := [_, _, _]) ty73) ?_
 refine G.r (Runs.move rfl) ?_
 refine G.e (Eff.call call115 rfl rfl (Asked_ok (nd := nd) (kd := 3) (wd := wd) (mo := mo) (nw := nw) (Sl.f hl))) ?_
 rintro _ _ ⟨_, _, ⟨rfl, rfl⟩, rfl, rfl⟩
 refine G.r (Runs.assign rfl) ?_
 refine G.nt ?_
 refine W.sr ?_
 refine G.r (Runs.move rfl) ?_
 refine G.r (Runs.neq rfl rfl) ?_
 refine G.nt ?_
 refine W.sub (L' := [(14, _), (8, _), (6, _), (4, _), (3, _), (2, _)]) (Sub.cons rfl (Sub.cons rfl (Sub.cons rfl (Sub.cons rfl (Sub.cons rfl (Sub.cons rfl Sub.nil)))))) ?_
 refine W.ite rfl (fun c14 => ?_) (fun c14 => ?_)
 ·refine W.sr ?_
  refine G.r (Runs.build (cells := [_, _]) ty71 Try.underlying71 pl71 rfl rfl) ?_
  refine G.r (Runs.move rfl) ?_
  refine G.e (Eff.st (cs := [_, _]) (vs := [_, _]) (cs' := [_, _]) ty71) ?_
  rintro _ _ ⟨rfl, rfl⟩
  refine G.r (Runs.assign rfl) ?_
  refine G.nt ?_
  refine W.ret ?_
  refine V.then_ret ?_
  exact V.retc1 rfl ty71 rfl rfl (by repeat (first | exact List.mem_cons_self | apply List.mem_cons_of_mem)) rfl (I) Fit.m (.inl ⟨c14, rfl, rfl⟩)
 ·refine W.skip ?_
  refine V.then ?_
  refine W.seq ?_
  refine W.drawn mixed ?_
  refine A.hold (blk b3 [I64 (0), .slice none 0 0] 71 :: blk b2 [I64 (3), I64 (wd), I64 (mo)] 73 :: blk b1 [I64 (nd), .slice a0 xs.length c0] 71 :: I) 10 ?_
  refine D.r 0 rfl (Runs.lds (vs := [_, _]) ty71) ?_ (hJ := Fit.sub)
  refine D.r 2 rfl (Runs.fieldAddr fld73_0 rfl) ?_ (hJ := Fit.sub)
  refine D.r 3 rfl (Runs.ld ty3) ?_ (hJ := Fit.sub)
  refine D.r 5 rfl (Runs.lds (vs := [_, _]) ty71) ?_ (hJ := Fit.sub)
  refine D.r 6 rfl (Runs.lds (vs := [_, _, _]) ty73) ?_ (hJ := Fit.sub)
  refine D.r 7 rfl (Runs.move rfl) ?_ (hJ := Fit.sub)
  refine D.step (rs := [1]) (by kernel_rfl) rfl rfl (all1 ?_)
  refine Step.eff rfl (Wanted.plain rfl) (Eff.call call117 rfl rfl Rules_ok) ?_
  rintro _ _ ⟨_, _, ⟨mr4, rfl, rfl⟩, rfl, rfl⟩
  refine ⟨Fit.sub, ?_⟩
  refine D.step (rs := [4]) (by kernel_rfl) rfl rfl (all1 ?_)
  refine Step.read rfl (Wanted.plain rfl) rfl rfl (Runs.lookupK (i := 2) Try.underlying163 Try.underlying3 rfl rfl rfl (by repeat (first | exact List.mem_cons_self | apply List.mem_cons_of_mem)) rfl) Fit.sub ?_
  refine D.step (rs := [8]) (by kernel_rfl) rfl rfl (all1 ?_)
  refine Step.eff rfl (Wanted.plain rfl) (Eff.callv call182 rfl rfl rfl (Rule3_ok (Sl.f hl) ((askE_ok (Classical.not_not.1 c14)).most rfl).1 (by omega))) ?_
  rintro _ _ ⟨_, _, ⟨b5, ad6, cp7, ys8, mm9, rfl, hzys8, rfl⟩, rfl, rfl⟩
  refine ⟨Fit.sub, ?_⟩
  refine D.step (rs := [9]) (by kernel_rfl) rfl rfl (all1 ?_)
  refine Step.eff rfl (Wanted.plain rfl) (Eff.call call116 rfl rfl (Only_ok (nd := nd) (Sl.f hl) (Last1_says (BlkRd.of (by repeat (first | exact List.mem_cons_self | apply List.mem_cons_of_mem))) (Sl.take Sl.o (by omega))) (by omega))) ?_
  rintro _ _ ⟨_, _, ⟨ad10, cp11, rfl, rfl⟩, rfl, rfl⟩
  refine ⟨Fit.sub, ?_⟩
  refine D.stop (by kernel_rfl) ?_
  refine A.eff (i := 10) (by kernel_rfl) rfl (Wanted.plain rfl) (Eff.st (cs := [_, _]) (vs := [_, _]) (cs' := [_, _]) ty71) ?_
  rintro _ _ ⟨rfl, rfl⟩
  refine A.read (i := 11) (by kernel_rfl) rfl (Wanted.plain rfl) rfl rfl (Runs.assign rfl) ?_
  refine A.done (by kernel_rfl) ?_
  refine V.then ?_
  refine W.sub (L' := [(7, _), (6, _)]) (Sub.cons rfl (Sub.cons rfl Sub.nil)) ?_
  refine W.ret ?_
  have hE : List.filter (fun x : Lk => decide (x ∈ List.take mm9 ys8)) xs = (xs.filter (inW 3 wd mo nw xs)) := inW_last (askE_ok (Classical.not_not.1 c14)) rfl hzys8
  exact V.retc1 rfl ty71 rfl rfl (by repeat (first | exact List.mem_cons_self | apply List.mem_cons_of_mem)) rfl (vc 158 (.slice ad10 (xs.filter (inW 3 wd mo nw xs)).length cp11) (xs.filter (inW 3 wd mo nw xs)) :: I) (by rw [← hE]; exact Fit.sub) (.inr ⟨ad10, cp11, Classical.not_not.1 c14, by rw [← hE], rfl⟩)

theorem PresentE_ok {κ : Ctx} {I : List Item} {nd kd wd mo nw : Int} {a0 : Option Addr} {c0 : Nat} {xs : List Lk} (hl : Sl κ I (.slice a0 xs.length c0) xs) (he : askE nd xs kd wd mo nw ≠ 0) :
    CallS Try.prog κ 53 [.agg #[I64 (nd), .slice a0 xs.length c0], .agg #[I64 (kd), I64 (wd), I64 (mo)], I64 (nw)] I (fun r J => r = .tuple #[.agg #[I64 0, .slice none 0 0], I64 (askE nd xs kd wd mo nw)] ∧ I = J) := by
 refine CallS.enter (L := [(0, .agg #[I64 (nd), .slice a0 xs.length c0]), (1, .agg #[I64 (kd), I64 (wd), I64 (mo)]), (2, I64 (nw))]) Try.func53 rfl rfl rfl rfl ?_
 refine W.sr ?_
 refine G.e (Eff.box (cs := [_, _]) rfl rfl rfl) ?_
 rintro _ _ ⟨b1, rfl, rfl⟩
 refine G.e (Eff.box (cs := [_, _, _]) rfl rfl rfl) ?_
 rintro _ _ ⟨b2, rfl, rfl⟩
 refine G.e (Eff.alloc ty71 rfl) ?_
 rintro _ _ ⟨b3, rfl, rfl⟩
 refine G.r (Runs.assign rfl) ?_
 refine G.nt ?_
 refine W.seq ?_
 refine W.sr ?_
 refine G.r (Runs.lds (vs := [_, _]) ty71) ?_
 refine G.r (Runs.lds (vs := [_, _, _]) ty73) ?_
 refine G.r (Runs.move rfl) ?_
 refine G.e (Eff.call call115 rfl rfl (Asked_ok (nd := nd) (kd := kd) (wd := wd) (mo := mo) (nw := nw) (Sl.f hl))) ?_
 rintro _ _ ⟨_, _, ⟨rfl, rfl⟩, rfl, rfl⟩
 refine G.r (Runs.assign rfl) ?_
 refine G.nt ?_
 refine W.sr ?_
 refine G.r (Runs.move rfl) ?_
 refine G.r (Runs.neq rfl rfl) ?_
 refine G.nt ?_
 refine W.sub (L' := [(14, _), (8, _), (6, _), (4, _), (3, _), (2, _)]) (Sub.cons rfl (Sub.cons rfl (Sub.cons rfl (Sub.cons rfl (Sub.cons rfl (Sub.cons rfl Sub.nil)))))) ?_
 refine W.ite rfl (fun c14 => ?_) (fun c14 => ?_)
 ·refine W.sr ?_
  refine G.r (Runs.build (cells := [_, _]) ty71 Try.underlying71 pl71 rfl rfl) ?_
  refine G.r (Runs.move rfl) ?_
  refine G.e (Eff.st (cs := [_, _]) (vs := [_, _]) (cs' := [_, _]) ty71) ?_
  rintro _ _ ⟨rfl, rfl⟩
  refine G.r (Runs.assign rfl) ?_
  refine G.nt ?_
  refine W.ret ?_
  refine V.then_ret ?_
  exact V.retc1 rfl ty71 rfl rfl (by repeat (first | exact List.mem_cons_self | apply List.mem_cons_of_mem)) rfl (I) Fit.m ⟨rfl, rfl⟩
 ·exact absurd he c14

theorem PresentP_ok {κ : Ctx} {I : List Item} {nd kd wd mo nw : Int} {a0 : Option Addr} {c0 : Nat} {xs : List Lk} (hl : Sl κ I (.slice a0 xs.length c0) xs) (hsz : xs.length ≤ 1000000) :
    CallS Try.prog κ 53 [.agg #[I64 (nd), .slice a0 xs.length c0], .agg #[I64 (kd), I64 (wd), I64 (mo)], I64 (nw)] I fun r J => (askE nd xs kd wd mo nw ≠ 0 ∧ r = .tuple #[.agg #[I64 0, .slice none 0 0], I64 (askE nd xs kd wd mo nw)] ∧ I = J) ∨ (∃ a c, askE nd xs kd wd mo nw = 0 ∧ r = .tuple #[.agg #[I64 nd, .slice a (xs.filter (inW kd wd mo nw xs)).length c], I64 0] ∧ J = vc 158 (.slice a (xs.filter (inW kd wd mo nw xs)).length c) (xs.filter (inW kd wd mo nw xs)) :: I) := by
  by_cases he : askE nd xs kd wd mo nw = 0
  · have hk := (askE_ok he).kind
    rcases (by omega : kd = 1 ∨ kd = 2 ∨ kd = 3) with rfl | rfl | rfl
    · exact Present1_ok hl hsz
    · exact Present2_ok hl hsz
    · exact Present3_ok hl hsz
  · exact (PresentE_ok hl he).mono fun r J h => .inl ⟨he, h⟩

end Go.Sl
namespace Go.Sl
open Go.Proofs
set_option linter.unusedVariables false
set_option linter.unusedSimpArgs false
set_option maxRecDepth 4000
/-- The cut of a link that is gone. -/
def cutEv (nw : Int) (l : Lk) : Ev := ⟨2, nw, l.u, l.v, 0, 0, 0⟩
theorem gone_yes {P : Lk → Bool} {f : Lk → Ev} {xs : List Lk} {k : Nat} (hk : k < xs.length) (h : P (at_ xs (k : Int)) = false) : ((xs.take (k + 1)).filter fun x => !P x).map f = ((xs.take k).filter fun x => !P x).map f ++ [f (at_ xs (k : Int))] := by
  rw [take_at xs k hk, List.filter_append, List.map_append]; simp [h]
theorem gone_no {P : Lk → Bool} {f : Lk → Ev} {xs : List Lk} {k : Nat} (hk : k < xs.length) (h : P (at_ xs (k : Int)) = true) : ((xs.take (k + 1)).filter fun x => !P x).map f = ((xs.take k).filter fun x => !P x).map f := by
  rw [take_at xs k hk, List.filter_append, List.map_append]; simp [h]
theorem filt_not {P R : Lk → Bool} {xs : List Lk} (h : xs.filter P = xs.filter R) : (xs.filter fun x => !P x) = xs.filter fun x => !R x :=
  List.filter_congr fun x hx => by
    have h1 : x ∈ xs.filter P ↔ x ∈ xs.filter R := by rw [h]
    rw [List.mem_filter, List.mem_filter] at h1
    simp only [hx, true_and] at h1
    cases hp : P x <;> cases hr : R x <;> simp_all
def goneL (kd wd mo nw : Int) (xs : List Lk) : List Ev := (xs.filter fun x => !inW kd wd mo nw xs x).map (cutEv nw)

theorem Gone_ok {κ : Ctx} {I : List Item} (l : Lk) (nw : Int) :
    CallS Try.prog κ 186 [.agg #[I64 (l.u), I64 (l.v), I64 (l.w), I64 (l.lb), I64 (l.sg), I64 (l.tm)], I64 (nw)] I (fun r J => r = .agg #[I64 2, I64 nw, I64 l.u, I64 l.v, I64 0, I64 0, I64 0] ∧ I = J) := by
 refine CallS.enter (L := [(0, .agg #[I64 (l.u), I64 (l.v), I64 (l.w), I64 (l.lb), I64 (l.sg), I64 (l.tm)]), (1, I64 (nw))]) Try.func186 rfl rfl rfl rfl ?_
 refine W.sr ?_
 refine G.e (Eff.box (cs := [_, _, _, _, _, _]) rfl rfl rfl) ?_
 rintro _ _ ⟨b1, rfl, rfl⟩
 refine G.e (Eff.alloc ty122 rfl) ?_
 rintro _ _ ⟨b2, rfl, rfl⟩
 refine G.nt ?_
 refine W.sr ?_
 refine G.r (Runs.move rfl) ?_
 refine G.r (Runs.fieldAddr fld158_0 rfl) ?_
 refine G.r (Runs.ld ty3) ?_
 refine G.r (Runs.fieldAddr fld158_1 rfl) ?_
 refine G.r (Runs.ld ty3) ?_
 refine G.r (Runs.build (cells := [_, _, _, _, _, _, _]) ty122 Try.underlying122 pl122 rfl rfl) ?_
 refine G.e (Eff.st (cs := [_, _, _, _, _, _, _]) (vs := [_, _, _, _, _, _, _]) (cs' := [_, _, _, _, _, _, _]) ty122) ?_
 rintro _ _ ⟨rfl, rfl⟩
 refine G.nt ?_
 refine W.ret ?_
 exact V.retc rfl ty122 rfl (by repeat (first | exact List.mem_cons_self | apply List.mem_cons_of_mem)) rfl (I) Fit.m ⟨rfl, rfl⟩

theorem Cut5_ok {κ : Ctx} {I : List Item} (l : Lk) (nw : Int) :
    CallS Try.prog κ 121 [.agg #[I64 (l.u), I64 (l.v), I64 (l.w), I64 (l.lb), I64 (l.sg), I64 (l.tm)], I64 (nw)] I (fun r J => r = .agg #[I64 2, I64 nw, I64 l.u, I64 l.v, I64 0, I64 0, I64 0] ∧ I = J) := by
 refine CallS.enter (L := [(0, .agg #[I64 (l.u), I64 (l.v), I64 (l.w), I64 (l.lb), I64 (l.sg), I64 (l.tm)]), (1, I64 (nw))]) Try.func121 rfl rfl rfl rfl ?_
 refine W.sr ?_
 refine G.e (Eff.box (cs := [_, _, _, _, _, _]) rfl rfl rfl) ?_
 rintro _ _ ⟨b1, rfl, rfl⟩
 refine G.e (Eff.alloc ty122 rfl) ?_
 rintro _ _ ⟨b2, rfl, rfl⟩
 refine G.nt ?_
 refine W.sr ?_
 refine G.r (Runs.move rfl) ?_
 refine G.r (Runs.fieldAddr fld158_0 rfl) ?_
 refine G.r (Runs.ld ty3) ?_
 refine G.r (Runs.fieldAddr fld158_1 rfl) ?_
 refine G.r (Runs.ld ty3) ?_
 refine G.r (Runs.build (cells := [_, _, _, _, _, _, _]) ty122 Try.underlying122 pl122 rfl rfl) ?_
 refine G.e (Eff.st (cs := [_, _, _, _, _, _, _]) (vs := [_, _, _, _, _, _, _]) (cs' := [_, _, _, _, _, _, _]) ty122) ?_
 rintro _ _ ⟨rfl, rfl⟩
 refine G.nt ?_
 refine W.ret ?_
 exact V.retc rfl ty122 rfl (by repeat (first | exact List.mem_cons_self | apply List.mem_cons_of_mem)) rfl (I) Fit.m ⟨rfl, rfl⟩

theorem Gone1_ok {κ : Ctx} {I : List Item} {nd wd mo nw : Int} {a0 : Option Addr} {c0 : Nat} {xs : List Lk} (hl : Sl κ I (.slice a0 xs.length c0) xs) (hsz : xs.length ≤ 1000000) (hA : askE nd xs 1 wd mo nw = 0) :
    CallS Try.prog κ 120 [.agg #[I64 (nd), .slice a0 xs.length c0], .agg #[I64 (1), I64 (wd), I64 (mo)], I64 (nw)] I (fun r J => ∃ a c, r = .slice a (goneL 1 wd mo nw xs).length c ∧ J = vc 122 (.slice a (goneL 1 wd mo nw xs).length c) (goneL 1 wd mo nw xs) :: I) := by
 refine CallS.enter (L := [(0, .agg #[I64 (nd), .slice a0 xs.length c0]), (1, .agg #[I64 (1), I64 (wd), I64 (mo)]), (2, I64 (nw))]) Try.func120 rfl rfl rfl rfl ?_
 refine W.sr ?_
 refine G.e (Eff.box (cs := [_, _]) rfl rfl rfl) ?_
 rintro _ _ ⟨b1, rfl, rfl⟩
 refine G.e (Eff.box (cs := [_, _, _]) rfl rfl rfl) ?_
 rintro _ _ ⟨b2, rfl, rfl⟩
 refine G.r (Runs.assign rfl) ?_
 refine G.nt ?_
 refine W.seq ?_
 refine W.drawn mixed ?_
 refine A.hold (blk b2 [I64 (1), I64 (wd), I64 (mo)] 73 :: blk b1 [I64 (nd), .slice a0 xs.length c0] 71 :: I) 9 ?_
 refine D.r 1 rfl (Runs.fieldAddr fld73_0 rfl) ?_ (hJ := Fit.sub)
 refine D.r 2 rfl (Runs.ld ty3) ?_ (hJ := Fit.sub)
 refine D.r 4 rfl (Runs.lds (vs := [_, _]) ty71) ?_ (hJ := Fit.sub)
 refine D.r 5 rfl (Runs.lds (vs := [_, _, _]) ty73) ?_ (hJ := Fit.sub)
 refine D.r 6 rfl (Runs.move rfl) ?_ (hJ := Fit.sub)
 refine D.step (rs := [0]) (by kernel_rfl) rfl rfl (all1 ?_)
 refine Step.eff rfl (Wanted.plain rfl) (Eff.call call117 rfl rfl Rules_ok) ?_
 rintro _ _ ⟨_, _, ⟨mr3, rfl, rfl⟩, rfl, rfl⟩
 refine ⟨Fit.sub, ?_⟩
 refine D.step (rs := [3]) (by kernel_rfl) rfl rfl (all1 ?_)
 refine Step.read rfl (Wanted.plain rfl) rfl rfl (Runs.lookupK (i := 0) Try.underlying163 Try.underlying3 rfl rfl rfl (by repeat (first | exact List.mem_cons_self | apply List.mem_cons_of_mem)) rfl) Fit.sub ?_
 refine D.step (rs := [7]) (by kernel_rfl) rfl rfl (all1 ?_)
 refine Step.eff rfl (Wanted.plain rfl) (Eff.callv call178 rfl rfl rfl Rule1_ok) ?_
 rintro _ _ ⟨_, _, ⟨rfl, rfl⟩, rfl, rfl⟩
 refine ⟨Fit.sub, ?_⟩
 refine D.r 8 rfl (Runs.assign rfl) ?_ (hJ := Fit.sub)
 refine D.done (by kernel_rfl) ?_
 refine V.then ?_
 refine W.sub (L' := [(7, _), (3, _), (2, _)]) (Sub.cons rfl (Sub.cons rfl (Sub.cons rfl Sub.nil))) ?_
 refine W.sr ?_
 refine G.r (Runs.assign rfl) ?_
 refine G.nt ?_
 refine W.seq ?_
 refine W.sr ?_
 refine G.r (Runs.fieldAddr fld71_1 rfl) ?_
 refine G.r (Runs.ld ty69) ?_
 refine G.r (Runs.lens Try.underlying69 rfl) ?_
 refine G.r (Runs.move rfl) ?_
 refine G.nt ?_
 refine W.block ?_
 refine W.loop (σ := Nat × (Option Addr) × Nat × (List Ev)) (fun s => ([(2, I64 (nw)), (7, .func (.func 179) #[] #[]), (8, .slice s.2.1 s.2.2.2.length s.2.2.1), (20, .slice a0 xs.length c0), (21, I64 (((xs.length : Nat) : Int))), (22, I64 (((s.1 : Nat) : Int)))] : Env)) (fun s => vc 122 (.slice s.2.1 s.2.2.2.length s.2.2.1) (s.2.2.2) :: mp mr3 [({ key := I64 (1), val := .func (.func 178) #[] #[], born := 0 } : MapEntry), ({ key := I64 (2), val := .func (.func 180) #[] #[], born := 1 } : MapEntry), ({ key := I64 (3), val := .func (.func 182) #[] #[], born := 2 } : MapEntry)] 3 :: blk b2 [I64 (1), I64 (wd), I64 (mo)] 73 :: blk b1 [I64 (nd), .slice a0 xs.length c0] 71 :: I) (fun s => (s.1 ≤ xs.length) ∧ (s.2.2.2 = ((xs.take s.1).filter fun x => !(fun _ : Lk => true) x).map (cutEv nw))) (fun s => xs.length - s.1) (0, none, 0, []) (show ((0 : Nat) ≤ xs.length) ∧ (([] : List Ev) = ((xs.take (0 : Nat)).filter fun x => !(fun _ : Lk => true) x).map (cutEv nw)) from ⟨(by omega), rfl⟩) (Sub.cons rfl (Sub.cons rfl (Sub.cons (lookV rfl (by first | rfl | simp)) (Sub.cons rfl (Sub.cons rfl (Sub.cons lookO Sub.nil)))))) (show Fit κ _ (vc 122 (.slice (none) ([]).length (0)) (([])) :: mp mr3 [({ key := I64 (1), val := .func (.func 178) #[] #[], born := 0 } : MapEntry), ({ key := I64 (2), val := .func (.func 180) #[] #[], born := 1 } : MapEntry), ({ key := I64 (3), val := .func (.func 182) #[] #[], born := 2 } : MapEntry)] 3 :: blk b2 [I64 (1), I64 (wd), I64 (mo)] 73 :: blk b1 [I64 (nd), .slice a0 xs.length c0] 71 :: I) from (Fit.nilvc _ _)) ?_
 rintro ⟨k, a, c, out⟩ hp
 obtain ⟨hk, ho⟩ : (k ≤ xs.length) ∧ (out = ((xs.take k).filter fun x => !(fun _ : Lk => true) x).map (cutEv nw)) := hp
 show W Try.prog κ 38 _ _ ([(2, I64 (nw)), (7, .func (.func 179) #[] #[]), (8, .slice a out.length c), (20, .slice a0 xs.length c0), (21, I64 (((xs.length : Nat) : Int))), (22, I64 (((k : Nat) : Int)))] : Env) (vc 122 (.slice a out.length c) (out) :: mp mr3 [({ key := I64 (1), val := .func (.func 178) #[] #[], born := 0 } : MapEntry), ({ key := I64 (2), val := .func (.func 180) #[] #[], born := 1 } : MapEntry), ({ key := I64 (3), val := .func (.func 182) #[] #[], born := 2 } : MapEntry)] 3 :: blk b2 [I64 (1), I64 (wd), I64 (mo)] 73 :: blk b1 [I64 (nd), .slice a0 xs.length c0] 71 :: I)
 have hol : out.length ≤ xs.length := by rw [ho, List.length_map]; refine Nat.le_trans (List.length_filter_le _ _) ?_; simp only [List.length_take]; omega
 refine W.sr ?_
 refine G.r (Runs.lss rfl rfl) ?_
 refine G.nt ?_
 refine W.seq ?_
 refine W.ite rfl (fun c23 => ?_) (fun c23 => ?_)
 ·refine W.skip ?_
  refine V.then ?_
  refine W.seq ?_
  refine W.block ?_
  refine W.sr ?_
  refine G.r (Runs.idx (α := Lk) (xs := xs) Try.underlying69 ty158 rfl rfl (Sl.f hl) (by omega) (by omega)) ?_
  refine G.r (Runs.gets (α := Lk) (xs := xs) ty158 rfl (Sl.f hl) (by omega) (by omega)) ?_
  refine G.e (Eff.alloc ty158 rfl) ?_
  rintro _ _ ⟨b4, rfl, rfl⟩
  refine G.e (Eff.st (cs := [_, _, _, _, _, _]) (vs := [_, _, _, _, _, _]) (cs' := [_, _, _, _, _, _]) ty158) ?_
  rintro _ _ ⟨rfl, rfl⟩
  refine G.nt ?_
  refine W.sr ?_
  refine G.r (Runs.move rfl) ?_
  refine G.r (Runs.lds (vs := [_, _, _, _, _, _]) ty158) ?_
  refine G.e (Eff.callv call179 rfl rfl rfl (All1_ok (at_ xs ((k : Nat) : Int)))) ?_
  rintro _ _ ⟨_, _, ⟨rfl, rfl⟩, rfl, rfl⟩
  refine G.r (Runs.not rfl) ?_
  refine G.nt ?_
  refine W.sub (L' := [(29, _), (10, _), (2, _), (7, _), (8, _), (20, _), (21, _), (22, _)]) (Sub.cons rfl (Sub.cons rfl (Sub.cons rfl (Sub.cons rfl (Sub.cons rfl (Sub.cons rfl (Sub.cons rfl (Sub.cons rfl Sub.nil)))))))) ?_
  refine W.no rfl ?_
  refine W.skip ?_
  refine V.block_normal ?_
  refine V.then ?_
  refine W.region ?_
  refine G.r (Runs.add rfl rfl (by unfold InR; omega)) ?_
  refine G.r (Runs.move rfl) ?_
  refine G.nil ?_
  exact V.next ((k + 1), (a), (c), (out)) (show ((k + 1 : Nat) ≤ xs.length) ∧ ((out : List Ev) = ((xs.take (k + 1 : Nat)).filter fun x => !(fun _ : Lk => true) x).map (cutEv nw)) from ⟨(by omega), (by first | (rw [gone_yes (P := (fun _ : Lk => true)) (by omega) (decide_eq_false c29), ← ho]; done) | (rw [gone_yes (P := (fun _ : Lk => true)) (by omega) (decide_eq_false c29), ← ho]; rfl) | (rw [gone_no (P := (fun _ : Lk => true)) (by omega) (decide_eq_true (Classical.not_not.1 c29)), ← ho]) | (rw [gone_no (P := (fun _ : Lk => true)) (by omega) rfl, ← ho]))⟩) (show xs.length - (k + 1 : Nat) < xs.length - k from (by omega)) (Sub.cons rfl (Sub.cons rfl (Sub.cons (lookV rfl (by first | rfl | simp)) (Sub.cons rfl (Sub.cons rfl (Sub.cons lookO Sub.nil)))))) (show Fit κ _ (vc 122 (.slice (a) (out).length (c)) ((out)) :: mp mr3 [({ key := I64 (1), val := .func (.func 178) #[] #[], born := 0 } : MapEntry), ({ key := I64 (2), val := .func (.func 180) #[] #[], born := 1 } : MapEntry), ({ key := I64 (3), val := .func (.func 182) #[] #[], born := 2 } : MapEntry)] 3 :: blk b2 [I64 (1), I64 (wd), I64 (mo)] 73 :: blk b1 [I64 (nd), .slice a0 xs.length c0] 71 :: I) from Fit.sub)
 ·refine W.exit ?_
  refine V.then_exit ?_
  refine V.then_exit ?_
  refine V.block_hit ?_
  refine V.then ?_
  refine W.sr ?_
  refine G.r (Runs.move rfl) ?_
  refine G.r (Runs.assign rfl) ?_
  refine G.nt ?_
  refine W.ret ?_
  have hE : out = (goneL 1 wd mo nw xs) := by rw [ho, show List.take k xs = xs from List.take_of_length_le (by omega)]; unfold goneL; rw [filt_not (P := (fun _ : Lk => true)) (inW_all rfl)]
  subst hE
  exact V.ret1 rfl rfl (vc 122 (.slice a (goneL 1 wd mo nw xs).length c) (goneL 1 wd mo nw xs) :: I) Fit.sub ⟨a, c, rfl, rfl⟩

theorem Gone2_ok {κ : Ctx} {I : List Item} {nd wd mo nw : Int} {a0 : Option Addr} {c0 : Nat} {xs : List Lk} (hl : Sl κ I (.slice a0 xs.length c0) xs) (hsz : xs.length ≤ 1000000) (hA : askE nd xs 2 wd mo nw = 0) :
    CallS Try.prog κ 120 [.agg #[I64 (nd), .slice a0 xs.length c0], .agg #[I64 (2), I64 (wd), I64 (mo)], I64 (nw)] I (fun r J => ∃ a c, r = .slice a (goneL 2 wd mo nw xs).length c ∧ J = vc 122 (.slice a (goneL 2 wd mo nw xs).length c) (goneL 2 wd mo nw xs) :: I) := by
 refine CallS.enter (L := [(0, .agg #[I64 (nd), .slice a0 xs.length c0]), (1, .agg #[I64 (2), I64 (wd), I64 (mo)]), (2, I64 (nw))]) Try.func120 rfl rfl rfl rfl ?_
 refine W.sr ?_
 refine G.e (Eff.box (cs := [_, _]) rfl rfl rfl) ?_
 rintro _ _ ⟨b1, rfl, rfl⟩
 refine G.e (Eff.box (cs := [_, _, _]) rfl rfl rfl) ?_
 rintro _ _ ⟨b2, rfl, rfl⟩
 refine G.r (Runs.assign rfl) ?_
 refine G.nt ?_
 refine W.seq ?_
 refine W.drawn mixed ?_
 refine A.hold (blk b2 [I64 (2), I64 (wd), I64 (mo)] 73 :: blk b1 [I64 (nd), .slice a0 xs.length c0] 71 :: I) 9 ?_
 refine D.r 1 rfl (Runs.fieldAddr fld73_0 rfl) ?_ (hJ := Fit.sub)
 refine D.r 2 rfl (Runs.ld ty3) ?_ (hJ := Fit.sub)
 refine D.r 4 rfl (Runs.lds (vs := [_, _]) ty71) ?_ (hJ := Fit.sub)
 refine D.r 5 rfl (Runs.lds (vs := [_, _, _]) ty73) ?_ (hJ := Fit.sub)
 refine D.r 6 rfl (Runs.move rfl) ?_ (hJ := Fit.sub)
 refine D.step (rs := [0]) (by kernel_rfl) rfl rfl (all1 ?_)
 refine Step.eff rfl (Wanted.plain rfl) (Eff.call call117 rfl rfl Rules_ok) ?_
 rintro _ _ ⟨_, _, ⟨mr3, rfl, rfl⟩, rfl, rfl⟩
 refine ⟨Fit.sub, ?_⟩
 refine D.step (rs := [3]) (by kernel_rfl) rfl rfl (all1 ?_)
 refine Step.read rfl (Wanted.plain rfl) rfl rfl (Runs.lookupK (i := 1) Try.underlying163 Try.underlying3 rfl rfl rfl (by repeat (first | exact List.mem_cons_self | apply List.mem_cons_of_mem)) rfl) Fit.sub ?_
 refine D.step (rs := [7]) (by kernel_rfl) rfl rfl (all1 ?_)
 refine Step.eff rfl (Wanted.plain rfl) (Eff.callv call180 rfl rfl rfl Rule2_ok) ?_
 rintro _ _ ⟨_, _, ⟨b4, b5, rfl, rfl⟩, rfl, rfl⟩
 refine ⟨Fit.sub, ?_⟩
 refine D.r 8 rfl (Runs.assign rfl) ?_ (hJ := Fit.sub)
 refine D.done (by kernel_rfl) ?_
 refine V.then ?_
 refine W.sub (L' := [(7, _), (3, _), (2, _)]) (Sub.cons rfl (Sub.cons rfl (Sub.cons rfl Sub.nil))) ?_
 refine W.sr ?_
 refine G.r (Runs.assign rfl) ?_
 refine G.nt ?_
 refine W.seq ?_
 refine W.sr ?_
 refine G.r (Runs.fieldAddr fld71_1 rfl) ?_
 refine G.r (Runs.ld ty69) ?_
 refine G.r (Runs.lens Try.underlying69 rfl) ?_
 refine G.r (Runs.move rfl) ?_
 refine G.nt ?_
 refine W.block ?_
 refine W.loop (σ := Nat × (Option Addr) × Nat × (List Ev)) (fun s => ([(2, I64 (nw)), (7, .func (.func 181) #[] #[.pointer (some ⟨b4, 0, none⟩), .pointer (some ⟨b5, 0, none⟩)]), (8, .slice s.2.1 s.2.2.2.length s.2.2.1), (20, .slice a0 xs.length c0), (21, I64 (((xs.length : Nat) : Int))), (22, I64 (((s.1 : Nat) : Int)))] : Env)) (fun s => vc 122 (.slice s.2.1 s.2.2.2.length s.2.2.1) (s.2.2.2) :: blk b4 [I64 (nw)] 3 :: blk b5 [I64 (2), I64 (wd), I64 (mo)] 73 :: mp mr3 [({ key := I64 (1), val := .func (.func 178) #[] #[], born := 0 } : MapEntry), ({ key := I64 (2), val := .func (.func 180) #[] #[], born := 1 } : MapEntry), ({ key := I64 (3), val := .func (.func 182) #[] #[], born := 2 } : MapEntry)] 3 :: blk b2 [I64 (2), I64 (wd), I64 (mo)] 73 :: blk b1 [I64 (nd), .slice a0 xs.length c0] 71 :: I) (fun s => (s.1 ≤ xs.length) ∧ (s.2.2.2 = ((xs.take s.1).filter fun x => !(fun x : Lk => decide (IntKind.i64.wrap (nw - x.tm) < wd)) x).map (cutEv nw))) (fun s => xs.length - s.1) (0, none, 0, []) (show ((0 : Nat) ≤ xs.length) ∧ (([] : List Ev) = ((xs.take (0 : Nat)).filter fun x => !(fun x : Lk => decide (IntKind.i64.wrap (nw - x.tm) < wd)) x).map (cutEv nw)) from ⟨(by omega), rfl⟩) (Sub.cons rfl (Sub.cons rfl (Sub.cons (lookV rfl (by first | rfl | simp)) (Sub.cons rfl (Sub.cons rfl (Sub.cons lookO Sub.nil)))))) (show Fit κ _ (vc 122 (.slice (none) ([]).length (0)) (([])) :: blk b4 [I64 (nw)] 3 :: blk b5 [I64 (2), I64 (wd), I64 (mo)] 73 :: mp mr3 [({ key := I64 (1), val := .func (.func 178) #[] #[], born := 0 } : MapEntry), ({ key := I64 (2), val := .func (.func 180) #[] #[], born := 1 } : MapEntry), ({ key := I64 (3), val := .func (.func 182) #[] #[], born := 2 } : MapEntry)] 3 :: blk b2 [I64 (2), I64 (wd), I64 (mo)] 73 :: blk b1 [I64 (nd), .slice a0 xs.length c0] 71 :: I) from (Fit.nilvc _ _)) ?_
 rintro ⟨k, a, c, out⟩ hp
 obtain ⟨hk, ho⟩ : (k ≤ xs.length) ∧ (out = ((xs.take k).filter fun x => !(fun x : Lk => decide (IntKind.i64.wrap (nw - x.tm) < wd)) x).map (cutEv nw)) := hp
 show W Try.prog κ 38 _ _ ([(2, I64 (nw)), (7, .func (.func 181) #[] #[.pointer (some ⟨b4, 0, none⟩), .pointer (some ⟨b5, 0, none⟩)]), (8, .slice a out.length c), (20, .slice a0 xs.length c0), (21, I64 (((xs.length : Nat) : Int))), (22, I64 (((k : Nat) : Int)))] : Env) (vc 122 (.slice a out.length c) (out) :: blk b4 [I64 (nw)] 3 :: blk b5 [I64 (2), I64 (wd), I64 (mo)] 73 :: mp mr3 [({ key := I64 (1), val := .func (.func 178) #[] #[], born := 0 } : MapEntry), ({ key := I64 (2), val := .func (.func 180) #[] #[], born := 1 } : MapEntry), ({ key := I64 (3), val := .func (.func 182) #[] #[], born := 2 } : MapEntry)] 3 :: blk b2 [I64 (2), I64 (wd), I64 (mo)] 73 :: blk b1 [I64 (nd), .slice a0 xs.length c0] 71 :: I)
 have hol : out.length ≤ xs.length := by rw [ho, List.length_map]; refine Nat.le_trans (List.length_filter_le _ _) ?_; simp only [List.length_take]; omega
 refine W.sr ?_
 refine G.r (Runs.lss rfl rfl) ?_
 refine G.nt ?_
 refine W.seq ?_
 refine W.ite rfl (fun c23 => ?_) (fun c23 => ?_)
 ·refine W.skip ?_
  refine V.then ?_
  refine W.seq ?_
  refine W.block ?_
  refine W.sr ?_
  refine G.r (Runs.idx (α := Lk) (xs := xs) Try.underlying69 ty158 rfl rfl (Sl.f hl) (by omega) (by omega)) ?_
  refine G.r (Runs.gets (α := Lk) (xs := xs) ty158 rfl (Sl.f hl) (by omega) (by omega)) ?_
  refine G.e (Eff.alloc ty158 rfl) ?_
  rintro _ _ ⟨b6, rfl, rfl⟩
  refine G.e (Eff.st (cs := [_, _, _, _, _, _]) (vs := [_, _, _, _, _, _]) (cs' := [_, _, _, _, _, _]) ty158) ?_
  rintro _ _ ⟨rfl, rfl⟩
  refine G.nt ?_
  refine W.sr ?_
  refine G.r (Runs.move rfl) ?_
  refine G.r (Runs.lds (vs := [_, _, _, _, _, _]) ty158) ?_
  refine G.e (Eff.callv call181 rfl rfl rfl (Age1_ok (BlkRd.of (by repeat (first | exact List.mem_cons_self | apply List.mem_cons_of_mem))) (BlkRd.of (by repeat (first | exact List.mem_cons_self | apply List.mem_cons_of_mem))) (at_ xs ((k : Nat) : Int)))) ?_
  rintro _ _ ⟨_, _, ⟨rfl, rfl⟩, rfl, rfl⟩
  refine G.r (Runs.notd rfl) ?_
  refine G.nt ?_
  refine W.sub (L' := [(29, _), (10, _), (2, _), (7, _), (8, _), (20, _), (21, _), (22, _)]) (Sub.cons rfl (Sub.cons rfl (Sub.cons rfl (Sub.cons rfl (Sub.cons rfl (Sub.cons rfl (Sub.cons rfl (Sub.cons rfl Sub.nil)))))))) ?_
  refine W.ite rfl (fun c29 => ?_) (fun c29 => ?_)
  ·refine W.region ?_
   refine G.r (Runs.move rfl) ?_
   refine G.r (Runs.lds (vs := [_, _, _, _, _, _]) ty158) ?_
   refine G.r (Runs.move rfl) ?_
   refine G.e (Eff.call call186 rfl rfl (Gone_ok (at_ xs ((k : Nat) : Int)) nw)) ?_
   rintro _ _ ⟨_, _, ⟨rfl, rfl⟩, rfl, rfl⟩
   refine G.e (Eff.bs (α := Ev) (cs := [I64 (2), I64 (nw), I64 ((at_ xs ((k : Nat) : Int)).u), I64 ((at_ xs ((k : Nat) : Int)).v), I64 (0), I64 (0), I64 (0)]) (xs := [⟨2, nw, (at_ xs ((k : Nat) : Int)).u, (at_ xs ((k : Nat) : Int)).v, 0, 0, 0⟩]) Try.underlying81 ty122 rfl rfl (by decide) (by decide) rfl (by kernel_rfl) rfl rfl) ?_
   rintro _ _ ⟨ad7, rfl, rfl⟩
   refine G.e (Eff.app (α := Ev) (e := 122) (xs := out) (ys := ([⟨2, nw, (at_ xs ((k : Nat) : Int)).u, (at_ xs ((k : Nat) : Int)).v, 0, 0, 0⟩] : List Ev)) Try.underlying81 ty122 rfl rfl rfl (by repeat (first | exact List.mem_cons_self | apply List.mem_cons_of_mem)) Sl.o (by simp only [List.length_cons, List.length_nil]; omega) (by decide) rfl (fun _ _ => (by repeat (first | exact At.head _ _ _ | apply At.tail)))) ?_
   rintro _ _ ⟨ad8, cp9, rfl, rfl⟩
   refine G.r (Runs.assign rfl) ?_
   refine G.nil ?_
   refine V.block_normal ?_
   refine V.then ?_
   refine W.sub (L' := [(8, _), (2, _), (7, _), (20, _), (21, _), (22, _)]) (Sub.cons rfl (Sub.cons rfl (Sub.cons rfl (Sub.cons rfl (Sub.cons rfl (Sub.cons rfl Sub.nil)))))) ?_
   refine W.region ?_
   refine G.r (Runs.add rfl rfl (by unfold InR; omega)) ?_
   refine G.r (Runs.move rfl) ?_
   refine G.nil ?_
   exact V.next ((k + 1), (ad8), (cp9), (out ++ ([⟨2, nw, (at_ xs ((k : Nat) : Int)).u, (at_ xs ((k : Nat) : Int)).v, 0, 0, 0⟩] : List Ev))) (show ((k + 1 : Nat) ≤ xs.length) ∧ ((out ++ ([⟨2, nw, (at_ xs ((k : Nat) : Int)).u, (at_ xs ((k : Nat) : Int)).v, 0, 0, 0⟩] : List Ev) : List Ev) = ((xs.take (k + 1 : Nat)).filter fun x => !(fun x : Lk => decide (IntKind.i64.wrap (nw - x.tm) < wd)) x).map (cutEv nw)) from ⟨(by omega), (by first | (rw [gone_yes (P := (fun x : Lk => decide (IntKind.i64.wrap (nw - x.tm) < wd))) (by omega) (decide_eq_false c29), ← ho]; done) | (rw [gone_yes (P := (fun x : Lk => decide (IntKind.i64.wrap (nw - x.tm) < wd))) (by omega) (decide_eq_false c29), ← ho]; rfl) | (rw [gone_no (P := (fun x : Lk => decide (IntKind.i64.wrap (nw - x.tm) < wd))) (by omega) (decide_eq_true (Classical.not_not.1 c29)), ← ho]) | (rw [gone_no (P := (fun x : Lk => decide (IntKind.i64.wrap (nw - x.tm) < wd))) (by omega) rfl, ← ho]))⟩) (show xs.length - (k + 1 : Nat) < xs.length - k from (by omega)) (Sub.cons rfl (Sub.cons rfl (Sub.cons (lookV rfl (by first | rfl | simp)) (Sub.cons rfl (Sub.cons rfl (Sub.cons lookO Sub.nil)))))) (show Fit κ _ (vc 122 (.slice (ad8) (out ++ ([⟨2, nw, (at_ xs ((k : Nat) : Int)).u, (at_ xs ((k : Nat) : Int)).v, 0, 0, 0⟩] : List Ev)).length (cp9)) ((out ++ ([⟨2, nw, (at_ xs ((k : Nat) : Int)).u, (at_ xs ((k : Nat) : Int)).v, 0, 0, 0⟩] : List Ev))) :: blk b4 [I64 (nw)] 3 :: blk b5 [I64 (2), I64 (wd), I64 (mo)] 73 :: mp mr3 [({ key := I64 (1), val := .func (.func 178) #[] #[], born := 0 } : MapEntry), ({ key := I64 (2), val := .func (.func 180) #[] #[], born := 1 } : MapEntry), ({ key := I64 (3), val := .func (.func 182) #[] #[], born := 2 } : MapEntry)] 3 :: blk b2 [I64 (2), I64 (wd), I64 (mo)] 73 :: blk b1 [I64 (nd), .slice a0 xs.length c0] 71 :: I) from Fit.sub)
  ·refine W.skip ?_
   refine V.block_normal ?_
   refine V.then ?_
   refine W.region ?_
   refine G.r (Runs.add rfl rfl (by unfold InR; omega)) ?_
   refine G.r (Runs.move rfl) ?_
   refine G.nil ?_
   exact V.next ((k + 1), (a), (c), (out)) (show ((k + 1 : Nat) ≤ xs.length) ∧ ((out : List Ev) = ((xs.take (k + 1 : Nat)).filter fun x => !(fun x : Lk => decide (IntKind.i64.wrap (nw - x.tm) < wd)) x).map (cutEv nw)) from ⟨(by omega), (by first | (rw [gone_yes (P := (fun x : Lk => decide (IntKind.i64.wrap (nw - x.tm) < wd))) (by omega) (decide_eq_false c29), ← ho]; done) | (rw [gone_yes (P := (fun x : Lk => decide (IntKind.i64.wrap (nw - x.tm) < wd))) (by omega) (decide_eq_false c29), ← ho]; rfl) | (rw [gone_no (P := (fun x : Lk => decide (IntKind.i64.wrap (nw - x.tm) < wd))) (by omega) (decide_eq_true (Classical.not_not.1 c29)), ← ho]) | (rw [gone_no (P := (fun x : Lk => decide (IntKind.i64.wrap (nw - x.tm) < wd))) (by omega) rfl, ← ho]))⟩) (show xs.length - (k + 1 : Nat) < xs.length - k from (by omega)) (Sub.cons rfl (Sub.cons rfl (Sub.cons (lookV rfl (by first | rfl | simp)) (Sub.cons rfl (Sub.cons rfl (Sub.cons lookO Sub.nil)))))) (show Fit κ _ (vc 122 (.slice (a) (out).length (c)) ((out)) :: blk b4 [I64 (nw)] 3 :: blk b5 [I64 (2), I64 (wd), I64 (mo)] 73 :: mp mr3 [({ key := I64 (1), val := .func (.func 178) #[] #[], born := 0 } : MapEntry), ({ key := I64 (2), val := .func (.func 180) #[] #[], born := 1 } : MapEntry), ({ key := I64 (3), val := .func (.func 182) #[] #[], born := 2 } : MapEntry)] 3 :: blk b2 [I64 (2), I64 (wd), I64 (mo)] 73 :: blk b1 [I64 (nd), .slice a0 xs.length c0] 71 :: I) from Fit.sub)
 ·refine W.exit ?_
  refine V.then_exit ?_
  refine V.then_exit ?_
  refine V.block_hit ?_
  refine V.then ?_
  refine W.sr ?_
  refine G.r (Runs.move rfl) ?_
  refine G.r (Runs.assign rfl) ?_
  refine G.nt ?_
  refine W.ret ?_
  have hE : out = (goneL 2 wd mo nw xs) := by rw [ho, show List.take k xs = xs from List.take_of_length_le (by omega)]; unfold goneL; rw [filt_not (P := (fun x : Lk => decide (IntKind.i64.wrap (nw - x.tm) < wd))) (inW_age (askE_ok hA) rfl)]
  subst hE
  exact V.ret1 rfl rfl (vc 122 (.slice a (goneL 2 wd mo nw xs).length c) (goneL 2 wd mo nw xs) :: I) Fit.sub ⟨a, c, rfl, rfl⟩

theorem Gone3_ok {κ : Ctx} {I : List Item} {nd wd mo nw : Int} {a0 : Option Addr} {c0 : Nat} {xs : List Lk} (hl : Sl κ I (.slice a0 xs.length c0) xs) (hsz : xs.length ≤ 1000000) (hA : askE nd xs 3 wd mo nw = 0) :
    CallS Try.prog κ 120 [.agg #[I64 (nd), .slice a0 xs.length c0], .agg #[I64 (3), I64 (wd), I64 (mo)], I64 (nw)] I (fun r J => ∃ a c, r = .slice a (goneL 3 wd mo nw xs).length c ∧ J = vc 122 (.slice a (goneL 3 wd mo nw xs).length c) (goneL 3 wd mo nw xs) :: I) := by
 refine CallS.enter (L := [(0, .agg #[I64 (nd), .slice a0 xs.length c0]), (1, .agg #[I64 (3), I64 (wd), I64 (mo)]), (2, I64 (nw))]) Try.func120 rfl rfl rfl rfl ?_
 refine W.sr ?_
 refine G.e (Eff.box (cs := [_, _]) rfl rfl rfl) ?_
 rintro _ _ ⟨b1, rfl, rfl⟩
 refine G.e (Eff.box (cs := [_, _, _]) rfl rfl rfl) ?_
 rintro _ _ ⟨b2, rfl, rfl⟩
 refine G.r (Runs.assign rfl) ?_
 refine G.nt ?_
 refine W.seq ?_
 refine W.drawn mixed ?_
 refine A.hold (blk b2 [I64 (3), I64 (wd), I64 (mo)] 73 :: blk b1 [I64 (nd), .slice a0 xs.length c0] 71 :: I) 9 ?_
 refine D.r 1 rfl (Runs.fieldAddr fld73_0 rfl) ?_ (hJ := Fit.sub)
 refine D.r 2 rfl (Runs.ld ty3) ?_ (hJ := Fit.sub)
 refine D.r 4 rfl (Runs.lds (vs := [_, _]) ty71) ?_ (hJ := Fit.sub)
 refine D.r 5 rfl (Runs.lds (vs := [_, _, _]) ty73) ?_ (hJ := Fit.sub)
 refine D.r 6 rfl (Runs.move rfl) ?_ (hJ := Fit.sub)
 refine D.step (rs := [0]) (by kernel_rfl) rfl rfl (all1 ?_)
 refine Step.eff rfl (Wanted.plain rfl) (Eff.call call117 rfl rfl Rules_ok) ?_
 rintro _ _ ⟨_, _, ⟨mr3, rfl, rfl⟩, rfl, rfl⟩
 refine ⟨Fit.sub, ?_⟩
 refine D.step (rs := [3]) (by kernel_rfl) rfl rfl (all1 ?_)
 refine Step.read rfl (Wanted.plain rfl) rfl rfl (Runs.lookupK (i := 2) Try.underlying163 Try.underlying3 rfl rfl rfl (by repeat (first | exact List.mem_cons_self | apply List.mem_cons_of_mem)) rfl) Fit.sub ?_
 refine D.step (rs := [7]) (by kernel_rfl) rfl rfl (all1 ?_)
 refine Step.eff rfl (Wanted.plain rfl) (Eff.callv call182 rfl rfl rfl (Rule3_ok (Sl.f hl) ((askE_ok hA).most rfl).1 (by omega))) ?_
 rintro _ _ ⟨_, _, ⟨b4, ad5, cp6, ys7, mm8, rfl, hzys7, rfl⟩, rfl, rfl⟩
 refine ⟨Fit.sub, ?_⟩
 refine D.r 8 rfl (Runs.assign rfl) ?_ (hJ := Fit.sub)
 refine D.done (by kernel_rfl) ?_
 refine V.then ?_
 refine W.sub (L' := [(7, _), (3, _), (2, _)]) (Sub.cons rfl (Sub.cons rfl (Sub.cons rfl Sub.nil))) ?_
 refine W.sr ?_
 refine G.r (Runs.assign rfl) ?_
 refine G.nt ?_
 refine W.seq ?_
 refine W.sr ?_
 refine G.r (Runs.fieldAddr fld71_1 rfl) ?_
 refine G.r (Runs.ld ty69) ?_
 refine G.r (Runs.lens Try.underlying69 rfl) ?_
 refine G.r (Runs.move rfl) ?_
 refine G.nt ?_
 refine W.block ?_
 refine W.loop (σ := Nat × (Option Addr) × Nat × (List Ev)) (fun s => ([(2, I64 (nw)), (7, .func (.func 184) #[] #[.pointer (some ⟨b4, 0, none⟩)]), (8, .slice s.2.1 s.2.2.2.length s.2.2.1), (20, .slice a0 xs.length c0), (21, I64 (((xs.length : Nat) : Int))), (22, I64 (((s.1 : Nat) : Int)))] : Env)) (fun s => vc 122 (.slice s.2.1 s.2.2.2.length s.2.2.1) (s.2.2.2) :: blk b4 [.slice ad5 (List.take mm8 ys7).length cp6] 69 :: vc 158 (.slice ad5 xs.length cp6) (ys7) :: mp mr3 [({ key := I64 (1), val := .func (.func 178) #[] #[], born := 0 } : MapEntry), ({ key := I64 (2), val := .func (.func 180) #[] #[], born := 1 } : MapEntry), ({ key := I64 (3), val := .func (.func 182) #[] #[], born := 2 } : MapEntry)] 3 :: blk b2 [I64 (3), I64 (wd), I64 (mo)] 73 :: blk b1 [I64 (nd), .slice a0 xs.length c0] 71 :: I) (fun s => (s.1 ≤ xs.length) ∧ (s.2.2.2 = ((xs.take s.1).filter fun x => !(fun x : Lk => decide (x ∈ List.take mm8 ys7)) x).map (cutEv nw))) (fun s => xs.length - s.1) (0, none, 0, []) (show ((0 : Nat) ≤ xs.length) ∧ (([] : List Ev) = ((xs.take (0 : Nat)).filter fun x => !(fun x : Lk => decide (x ∈ List.take mm8 ys7)) x).map (cutEv nw)) from ⟨(by omega), rfl⟩) (Sub.cons rfl (Sub.cons rfl (Sub.cons (lookV rfl (by first | rfl | simp)) (Sub.cons rfl (Sub.cons rfl (Sub.cons lookO Sub.nil)))))) (show Fit κ _ (vc 122 (.slice (none) ([]).length (0)) (([])) :: blk b4 [.slice ad5 (List.take mm8 ys7).length cp6] 69 :: vc 158 (.slice ad5 xs.length cp6) (ys7) :: mp mr3 [({ key := I64 (1), val := .func (.func 178) #[] #[], born := 0 } : MapEntry), ({ key := I64 (2), val := .func (.func 180) #[] #[], born := 1 } : MapEntry), ({ key := I64 (3), val := .func (.func 182) #[] #[], born := 2 } : MapEntry)] 3 :: blk b2 [I64 (3), I64 (wd), I64 (mo)] 73 :: blk b1 [I64 (nd), .slice a0 xs.length c0] 71 :: I) from (Fit.nilvc _ _)) ?_
 rintro ⟨k, a, c, out⟩ hp
 obtain ⟨hk, ho⟩ : (k ≤ xs.length) ∧ (out = ((xs.take k).filter fun x => !(fun x : Lk => decide (x ∈ List.take mm8 ys7)) x).map (cutEv nw)) := hp
 show W Try.prog κ 38 _ _ ([(2, I64 (nw)), (7, .func (.func 184) #[] #[.pointer (some ⟨b4, 0, none⟩)]), (8, .slice a out.length c), (20, .slice a0 xs.length c0), (21, I64 (((xs.length : Nat) : Int))), (22, I64 (((k : Nat) : Int)))] : Env) (vc 122 (.slice a out.length c) (out) :: blk b4 [.slice ad5 (List.take mm8 ys7).length cp6] 69 :: vc 158 (.slice ad5 xs.length cp6) (ys7) :: mp mr3 [({ key := I64 (1), val := .func (.func 178) #[] #[], born := 0 } : MapEntry), ({ key := I64 (2), val := .func (.func 180) #[] #[], born := 1 } : MapEntry), ({ key := I64 (3), val := .func (.func 182) #[] #[], born := 2 } : MapEntry)] 3 :: blk b2 [I64 (3), I64 (wd), I64 (mo)] 73 :: blk b1 [I64 (nd), .slice a0 xs.length c0] 71 :: I)
 have hol : out.length ≤ xs.length := by rw [ho, List.length_map]; refine Nat.le_trans (List.length_filter_le _ _) ?_; simp only [List.length_take]; omega
 refine W.sr ?_
 refine G.r (Runs.lss rfl rfl) ?_
 refine G.nt ?_
 refine W.seq ?_
 refine W.ite rfl (fun c23 => ?_) (fun c23 => ?_)
 ·refine W.skip ?_
  refine V.then ?_
  refine W.seq ?_
  refine W.block ?_
  refine W.sr ?_
  refine G.r (Runs.idx (α := Lk) (xs := xs) Try.underlying69 ty158 rfl rfl (Sl.f hl) (by omega) (by omega)) ?_
  refine G.r (Runs.gets (α := Lk) (xs := xs) ty158 rfl (Sl.f hl) (by omega) (by omega)) ?_
  refine G.e (Eff.alloc ty158 rfl) ?_
  rintro _ _ ⟨b9, rfl, rfl⟩
  refine G.e (Eff.st (cs := [_, _, _, _, _, _]) (vs := [_, _, _, _, _, _]) (cs' := [_, _, _, _, _, _]) ty158) ?_
  rintro _ _ ⟨rfl, rfl⟩
  refine G.nt ?_
  refine W.sr ?_
  refine G.r (Runs.move rfl) ?_
  refine G.r (Runs.lds (vs := [_, _, _, _, _, _]) ty158) ?_
  refine G.e (Eff.callv call184 rfl rfl rfl (Last1_ok (BlkRd.of (by repeat (first | exact List.mem_cons_self | apply List.mem_cons_of_mem))) (Sl.take Sl.o (by omega)) (at_ xs ((k : Nat) : Int)))) ?_
  rintro _ _ ⟨_, _, ⟨rfl, rfl⟩, rfl, rfl⟩
  refine G.r (Runs.notd rfl) ?_
  refine G.nt ?_
  refine W.sub (L' := [(29, _), (10, _), (2, _), (7, _), (8, _), (20, _), (21, _), (22, _)]) (Sub.cons rfl (Sub.cons rfl (Sub.cons rfl (Sub.cons rfl (Sub.cons rfl (Sub.cons rfl (Sub.cons rfl (Sub.cons rfl Sub.nil)))))))) ?_
  refine W.ite rfl (fun c29 => ?_) (fun c29 => ?_)
  ·refine W.region ?_
   refine G.r (Runs.move rfl) ?_
   refine G.r (Runs.lds (vs := [_, _, _, _, _, _]) ty158) ?_
   refine G.r (Runs.move rfl) ?_
   refine G.e (Eff.call call186 rfl rfl (Gone_ok (at_ xs ((k : Nat) : Int)) nw)) ?_
   rintro _ _ ⟨_, _, ⟨rfl, rfl⟩, rfl, rfl⟩
   refine G.e (Eff.bs (α := Ev) (cs := [I64 (2), I64 (nw), I64 ((at_ xs ((k : Nat) : Int)).u), I64 ((at_ xs ((k : Nat) : Int)).v), I64 (0), I64 (0), I64 (0)]) (xs := [⟨2, nw, (at_ xs ((k : Nat) : Int)).u, (at_ xs ((k : Nat) : Int)).v, 0, 0, 0⟩]) Try.underlying81 ty122 rfl rfl (by decide) (by decide) rfl (by kernel_rfl) rfl rfl) ?_
   rintro _ _ ⟨ad10, rfl, rfl⟩
   refine G.e (Eff.app (α := Ev) (e := 122) (xs := out) (ys := ([⟨2, nw, (at_ xs ((k : Nat) : Int)).u, (at_ xs ((k : Nat) : Int)).v, 0, 0, 0⟩] : List Ev)) Try.underlying81 ty122 rfl rfl rfl (by repeat (first | exact List.mem_cons_self | apply List.mem_cons_of_mem)) Sl.o (by simp only [List.length_cons, List.length_nil]; omega) (by decide) rfl (fun _ _ => (by repeat (first | exact At.head _ _ _ | apply At.tail)))) ?_
   rintro _ _ ⟨ad11, cp12, rfl, rfl⟩
   refine G.r (Runs.assign rfl) ?_
   refine G.nil ?_
   refine V.block_normal ?_
   refine V.then ?_
   refine W.sub (L' := [(8, _), (2, _), (7, _), (20, _), (21, _), (22, _)]) (Sub.cons rfl (Sub.cons rfl (Sub.cons rfl (Sub.cons rfl (Sub.cons rfl (Sub.cons rfl Sub.nil)))))) ?_
   refine W.region ?_
   refine G.r (Runs.add rfl rfl (by unfold InR; omega)) ?_
   refine G.r (Runs.move rfl) ?_
   refine G.nil ?_
   exact V.next ((k + 1), (ad11), (cp12), (out ++ ([⟨2, nw, (at_ xs ((k : Nat) : Int)).u, (at_ xs ((k : Nat) : Int)).v, 0, 0, 0⟩] : List Ev))) (show ((k + 1 : Nat) ≤ xs.length) ∧ ((out ++ ([⟨2, nw, (at_ xs ((k : Nat) : Int)).u, (at_ xs ((k : Nat) : Int)).v, 0, 0, 0⟩] : List Ev) : List Ev) = ((xs.take (k + 1 : Nat)).filter fun x => !(fun x : Lk => decide (x ∈ List.take mm8 ys7)) x).map (cutEv nw)) from ⟨(by omega), (by first | (rw [gone_yes (P := (fun x : Lk => decide (x ∈ List.take mm8 ys7))) (by omega) (decide_eq_false c29), ← ho]; done) | (rw [gone_yes (P := (fun x : Lk => decide (x ∈ List.take mm8 ys7))) (by omega) (decide_eq_false c29), ← ho]; rfl) | (rw [gone_no (P := (fun x : Lk => decide (x ∈ List.take mm8 ys7))) (by omega) (decide_eq_true (Classical.not_not.1 c29)), ← ho]) | (rw [gone_no (P := (fun x : Lk => decide (x ∈ List.take mm8 ys7))) (by omega) rfl, ← ho]))⟩) (show xs.length - (k + 1 : Nat) < xs.length - k from (by omega)) (Sub.cons rfl (Sub.cons rfl (Sub.cons (lookV rfl (by first | rfl | simp)) (Sub.cons rfl (Sub.cons rfl (Sub.cons lookO Sub.nil)))))) (show Fit κ _ (vc 122 (.slice (ad11) (out ++ ([⟨2, nw, (at_ xs ((k : Nat) : Int)).u, (at_ xs ((k : Nat) : Int)).v, 0, 0, 0⟩] : List Ev)).length (cp12)) ((out ++ ([⟨2, nw, (at_ xs ((k : Nat) : Int)).u, (at_ xs ((k : Nat) : Int)).v, 0, 0, 0⟩] : List Ev))) :: blk b4 [.slice ad5 (List.take mm8 ys7).length cp6] 69 :: vc 158 (.slice ad5 xs.length cp6) (ys7) :: mp mr3 [({ key := I64 (1), val := .func (.func 178) #[] #[], born := 0 } : MapEntry), ({ key := I64 (2), val := .func (.func 180) #[] #[], born := 1 } : MapEntry), ({ key := I64 (3), val := .func (.func 182) #[] #[], born := 2 } : MapEntry)] 3 :: blk b2 [I64 (3), I64 (wd), I64 (mo)] 73 :: blk b1 [I64 (nd), .slice a0 xs.length c0] 71 :: I) from Fit.sub)
  ·refine W.skip ?_
   refine V.block_normal ?_
   refine V.then ?_
   refine W.region ?_
   refine G.r (Runs.add rfl rfl (by unfold InR; omega)) ?_
   refine G.r (Runs.move rfl) ?_
   refine G.nil ?_
   exact V.next ((k + 1), (a), (c), (out)) (show ((k + 1 : Nat) ≤ xs.length) ∧ ((out : List Ev) = ((xs.take (k + 1 : Nat)).filter fun x => !(fun x : Lk => decide (x ∈ List.take mm8 ys7)) x).map (cutEv nw)) from ⟨(by omega), (by first | (rw [gone_yes (P := (fun x : Lk => decide (x ∈ List.take mm8 ys7))) (by omega) (decide_eq_false c29), ← ho]; done) | (rw [gone_yes (P := (fun x : Lk => decide (x ∈ List.take mm8 ys7))) (by omega) (decide_eq_false c29), ← ho]; rfl) | (rw [gone_no (P := (fun x : Lk => decide (x ∈ List.take mm8 ys7))) (by omega) (decide_eq_true (Classical.not_not.1 c29)), ← ho]) | (rw [gone_no (P := (fun x : Lk => decide (x ∈ List.take mm8 ys7))) (by omega) rfl, ← ho]))⟩) (show xs.length - (k + 1 : Nat) < xs.length - k from (by omega)) (Sub.cons rfl (Sub.cons rfl (Sub.cons (lookV rfl (by first | rfl | simp)) (Sub.cons rfl (Sub.cons rfl (Sub.cons lookO Sub.nil)))))) (show Fit κ _ (vc 122 (.slice (a) (out).length (c)) ((out)) :: blk b4 [.slice ad5 (List.take mm8 ys7).length cp6] 69 :: vc 158 (.slice ad5 xs.length cp6) (ys7) :: mp mr3 [({ key := I64 (1), val := .func (.func 178) #[] #[], born := 0 } : MapEntry), ({ key := I64 (2), val := .func (.func 180) #[] #[], born := 1 } : MapEntry), ({ key := I64 (3), val := .func (.func 182) #[] #[], born := 2 } : MapEntry)] 3 :: blk b2 [I64 (3), I64 (wd), I64 (mo)] 73 :: blk b1 [I64 (nd), .slice a0 xs.length c0] 71 :: I) from Fit.sub)
 ·refine W.exit ?_
  refine V.then_exit ?_
  refine V.then_exit ?_
  refine V.block_hit ?_
  refine V.then ?_
  refine W.sr ?_
  refine G.r (Runs.move rfl) ?_
  refine G.r (Runs.assign rfl) ?_
  refine G.nt ?_
  refine W.ret ?_
  have hE : out = (goneL 3 wd mo nw xs) := by rw [ho, show List.take k xs = xs from List.take_of_length_le (by omega)]; unfold goneL; rw [filt_not (P := (fun x : Lk => decide (x ∈ List.take mm8 ys7))) (inW_last (askE_ok hA) rfl hzys7)]
  subst hE
  exact V.ret1 rfl rfl (vc 122 (.slice a (goneL 3 wd mo nw xs).length c) (goneL 3 wd mo nw xs) :: I) Fit.sub ⟨a, c, rfl, rfl⟩

theorem GoneP_ok {κ : Ctx} {I : List Item} {nd kd wd mo nw : Int} {a0 : Option Addr} {c0 : Nat} {xs : List Lk} (hl : Sl κ I (.slice a0 xs.length c0) xs) (hsz : xs.length ≤ 1000000) (hA : askE nd xs kd wd mo nw = 0) :
    CallS Try.prog κ 120 [.agg #[I64 (nd), .slice a0 xs.length c0], .agg #[I64 (kd), I64 (wd), I64 (mo)], I64 (nw)] I fun r J => ∃ a c, r = .slice a (goneL kd wd mo nw xs).length c ∧ J = vc 122 (.slice a (goneL kd wd mo nw xs).length c) (goneL kd wd mo nw xs) :: I := by
  have hk := (askE_ok hA).kind
  rcases (by omega : kd = 1 ∨ kd = 2 ∨ kd = 3) with rfl | rfl | rfl
  · exact Gone1_ok hl hsz hA
  · exact Gone2_ok hl hsz hA
  · exact Gone3_ok hl hsz hA

end Go.Sl
namespace Go.Sl
open Go.Proofs
set_option linter.unusedVariables false
set_option linter.unusedSimpArgs false
set_option maxRecDepth 4000
end Go.Sl
