/- A part of the proofs of statements of this seat: contracts of functions, and the plain laws that they lean on. No conditions. -/
import Derived.Test.YtbimaodbcjjbfaaGraphM5
import Derived.Test.YtbimaodbcjjbfaaGraphH5
import Derived.Test.YtbimaodbcjjbfaaRunsY
namespace Go.Sl
open Go.Proofs
set_option linter.unusedVariables false
set_option linter.unusedSimpArgs false
set_option maxRecDepth 4000
theorem insB_sortB (xs : List Pt) (e : Pt) : insB Pt.lt (sortB Pt.lt xs) e = sortB Pt.lt (xs ++ [e]) :=
  Pt.lin.uniq (Pt.lin.insB _ (Pt.lin.sortB _)) (Pt.lin.sortB _) fun p => by rw [mem_insB, mem_sortB, mem_sortB, List.mem_append, List.mem_singleton]; exact ⟨fun h => h.symm, fun h => h.symm⟩

theorem With_own {κ : Ctx} {I : List Item} {a0 : Option Addr} {c0 : Nat} {es : List Pt} (e : Pt) (ha : AscP es) (hb : es.length ≤ 10000000) :
    CallS Try.prog κ 142 [.slice a0 es.length c0, .agg #[I64 (e.u), I64 (e.v)]] (vc 150 (.slice a0 es.length c0) (es) :: I) (fun r J => ∃ a c, r = .slice a (insB Pt.lt es e).length c ∧ J = vc 150 (.slice a (insB Pt.lt es e).length c) (insB Pt.lt es e) :: I) := by
 refine CallS.enter (L := [(0, .slice a0 es.length c0), (1, .agg #[I64 (e.u), I64 (e.v)])]) Try.func142 rfl rfl rfl rfl ?_
 refine W.sr ?_
 refine G.e (Eff.box (cs := [_, _]) rfl rfl rfl) ?_
 rintro _ _ ⟨b1, rfl, rfl⟩
 refine G.r (Runs.assign rfl) ?_
 refine G.nt ?_
 refine W.sr ?_
 refine G.r (Runs.assign rfl) ?_
 refine G.nt ?_
 refine W.seq ?_
 refine W.block ?_
 refine W.loop (σ := Nat) (fun s => ([(0, .slice a0 es.length c0), (3, .pointer (some ⟨b1, 0, none⟩)), (5, I64 (((s : Nat) : Int)))] : Env)) (fun s => blk b1 [I64 (e.u), I64 (e.v)] 150 :: vc 150 (.slice a0 es.length c0) (es) :: I) (fun s => (s ≤ es.length) ∧ (∀ j, j < s → Pt.lt (at_ es (j : Int)) e)) (fun s => es.length - s) (0) (show ((0 : Nat) ≤ es.length) ∧ (∀ j, j < (0 : Nat) → Pt.lt (at_ es (j : Int)) e) from ⟨(by omega), all_zero⟩) (Sub.cons rfl (Sub.cons rfl (Sub.cons lookO Sub.nil))) (show Fit κ _ (blk b1 [I64 (e.u), I64 (e.v)] 150 :: vc 150 (.slice a0 es.length c0) (es) :: I) from Fit.sub) ?_
 rintro k hp
 obtain ⟨hk, hn⟩ : (k ≤ es.length) ∧ (∀ j, j < k → Pt.lt (at_ es (j : Int)) e) := hp
 show W Try.prog κ 46 _ _ ([(0, .slice a0 es.length c0), (3, .pointer (some ⟨b1, 0, none⟩)), (5, I64 (((k : Nat) : Int)))] : Env) (blk b1 [I64 (e.u), I64 (e.v)] 150 :: vc 150 (.slice a0 es.length c0) (es) :: I)
 refine W.seq ?_
 refine W.seq ?_
 refine W.drawn mixed ?_
 refine A.hold (blk b1 [I64 (e.u), I64 (e.v)] 150 :: vc 150 (.slice a0 es.length c0) (es) :: I) 12 ?_
 refine D.r 0 rfl (Runs.move rfl) ?_
 refine D.r 1 rfl (Runs.move rfl) ?_
 refine D.r 2 rfl (Runs.lens Try.underlying97 rfl) ?_
 refine D.r 3 rfl (Runs.lss rfl rfl) ?_
 refine D.r 4 rfl (Runs.move rfl) ?_
 refine D.split (d := 11) rfl (fun g11 => ?_) (fun g11 => ?_)
 ·refine D.ro 5 rfl (Runs.move rfl) ?_
  refine D.ro 6 rfl (Runs.move rfl) ?_
  refine D.ro 7 rfl (Runs.idx (α := Pt) (xs := es) Try.underlying97 ty150 rfl rfl Sl.o (by omega) (by omega)) ?_
  refine D.ro 8 rfl (Runs.gets (α := Pt) (xs := es) ty150 rfl Sl.o (by omega) (by omega)) ?_
  refine D.ro 9 rfl (Runs.lds (vs := [_, _]) ty150) ?_
  refine D.step (rs := [10]) (by kernel_rfl) rfl rfl (all1 ?_)
  refine Step.eff rfl (Wanted.on rfl rfl rfl) (Eff.call call136 rfl rfl (Before03_ok (at_ es ((k : Nat) : Int)) e)) ?_
  rintro _ _ ⟨_, _, ⟨rfl, rfl⟩, rfl, rfl⟩
  refine ⟨Fit.m, ?_⟩
  refine D.r 11 rfl (Runs.pickt rfl rfl) ?_
  refine D.done (by kernel_rfl) ?_
  refine V.then ?_
  refine W.sub (L' := [(18, _), (0, _), (3, _), (5, _)]) (Sub.cons rfl (Sub.cons rfl (Sub.cons rfl (Sub.cons rfl Sub.nil)))) ?_
  refine W.ite rfl (fun c18 => ?_) (fun c18 => ?_)
  ·refine W.skip ?_
   refine V.then ?_
   refine W.block ?_
   refine W.region ?_
   refine G.r (Runs.move rfl) ?_
   refine G.r (Runs.add rfl rfl (by unfold InR; omega)) ?_
   refine G.r (Runs.assign rfl) ?_
   refine G.nil ?_
   refine V.block_normal ?_
   exact V.next ((k + 1)) (show ((k + 1 : Nat) ≤ es.length) ∧ (∀ j, j < (k + 1 : Nat) → Pt.lt (at_ es (j : Int)) e) from ⟨(by omega), (all_succ hn c18)⟩) (show es.length - (k + 1 : Nat) < es.length - k from (by omega)) (Sub.cons rfl (Sub.cons rfl (Sub.cons lookO Sub.nil))) (show Fit κ _ (blk b1 [I64 (e.u), I64 (e.v)] 150 :: vc 150 (.slice a0 es.length c0) (es) :: I) from Fit.sub)
  ·refine W.exit ?_
   refine V.then_exit ?_
   refine V.then_exit ?_
   refine V.block_hit ?_
   refine V.then ?_
   refine W.seq ?_
   refine W.seq ?_
   refine W.drawn mixed ?_
   refine A.hold (blk b1 [I64 (e.u), I64 (e.v)] 150 :: vc 150 (.slice a0 es.length c0) (es) :: I) 12 ?_
   refine D.r 0 rfl (Runs.move rfl) ?_
   refine D.r 1 rfl (Runs.move rfl) ?_
   refine D.r 2 rfl (Runs.lens Try.underlying97 rfl) ?_
   refine D.r 3 rfl (Runs.lss rfl rfl) ?_
   refine D.r 4 rfl (Runs.move rfl) ?_
   refine D.split (d := 25) rfl (fun g25 => ?_) (fun g25 => ?_)
   ·refine D.ro 5 rfl (Runs.move rfl) ?_
    refine D.ro 6 rfl (Runs.move rfl) ?_
    refine D.ro 7 rfl (Runs.idx (α := Pt) (xs := es) Try.underlying97 ty150 rfl rfl Sl.o (by omega) (by omega)) ?_
    refine D.ro 8 rfl (Runs.gets (α := Pt) (xs := es) ty150 rfl Sl.o (by omega) (by omega)) ?_
    refine D.ro 9 rfl (Runs.lds (vs := [_, _]) ty150) ?_
    refine D.ro 10 rfl (Runs.eqlT (α := Pt) (a := (at_ es ((k : Nat) : Int))) (b := e) eqt150 rfl rfl) ?_
    refine D.r 11 rfl (Runs.pickt rfl rfl) ?_
    refine D.done (by kernel_rfl) ?_
    refine V.then ?_
    refine W.sub (L' := [(32, _), (0, _), (3, _), (5, _)]) (Sub.cons rfl (Sub.cons rfl (Sub.cons rfl (Sub.cons rfl Sub.nil)))) ?_
    refine W.ite rfl (fun c32 => ?_) (fun c32 => ?_)
    ·refine W.sr ?_
     refine G.r (Runs.move rfl) ?_
     refine G.r (Runs.assign rfl) ?_
     refine G.nt ?_
     refine W.ret ?_
     refine V.then_ret ?_
     have hm : e ∈ es := by rw [← show at_ es ((k : Nat) : Int) = e from c32]; exact at_mem (by omega) (by omega)
     have hE : (insB Pt.lt es e) = es := insB_mem ha hm
     exact V.ret1 rfl rfl (vc 150 (.slice a0 (insB Pt.lt es e).length c0) (insB Pt.lt es e) :: I) (by rw [hE]; exact Fit.sub) ⟨a0, c0, by rw [hE], rfl⟩
    ·refine W.skip ?_
     refine V.then ?_
     refine W.sr ?_
     refine G.r (Runs.move rfl) ?_
     refine G.r (Runs.move rfl) ?_
     refine G.r (Runs.hi (α := Pt) (xs := es) (h := k) Try.underlying97 ty150 rfl rfl (by omega) Sl.o (by omega)) ?_
     refine G.e (Eff.clone (α := Pt) (ys := List.take k es) Try.underlying97 ty150 rfl rfl rfl (Sl.take Sl.o (by omega)) (by simp only [List.length_cons, List.length_nil, List.length_append, List.length_take, List.length_drop]; omega) (by decide) rfl) ?_
     rintro _ _ ⟨ad2, cp3, rfl, rfl⟩
     refine G.r (Runs.assign rfl) ?_
     refine G.nt ?_
     refine W.seq ?_
     refine W.drawn mixed ?_
     refine A.hold (blk b1 [I64 (e.u), I64 (e.v)] 150 :: vc 150 (.slice a0 es.length c0) (es) :: I) 9 ?_
     refine D.r 0 rfl (Runs.move rfl) ?_ (hJ := Fit.sub)
     refine D.r 1 rfl (Runs.lds (vs := [_, _]) ty150) ?_ (hJ := Fit.sub)
     refine D.r 4 rfl (Runs.move rfl) ?_ (hJ := Fit.sub)
     refine D.r 5 rfl (Runs.move rfl) ?_ (hJ := Fit.sub)
     refine D.r 6 rfl (Runs.lo (α := Pt) (xs := es) (l := k) Try.underlying97 ty150 rfl rfl (by omega) Sl.o (by omega)) ?_ (hJ := Fit.sub)
     refine D.step (rs := [2]) (by kernel_rfl) rfl rfl (all1 ?_)
     refine Step.eff rfl (Wanted.plain rfl) (Eff.bs (α := Pt) (cs := [_, _]) (xs := [⟨e.u, e.v⟩]) Try.underlying97 ty150 rfl rfl (by decide) (by decide) rfl rfl rfl rfl) ?_
     rintro _ _ ⟨ad4, rfl, rfl⟩
     refine ⟨Fit.sub, ?_⟩
     refine D.step (rs := [3]) (by kernel_rfl) rfl rfl (all1 ?_)
     refine Step.eff rfl (Wanted.plain rfl) (Eff.app (α := Pt) (e := 150) (xs := List.take k es) (ys := ([⟨e.u, e.v⟩] : List Pt)) Try.underlying97 ty150 rfl rfl rfl (by repeat (first | exact List.mem_cons_self | apply List.mem_cons_of_mem)) Sl.o (by simp only [List.length_cons, List.length_nil, List.length_append, List.length_take, List.length_drop]; omega) (by decide) rfl (fun _ _ => (by repeat (first | exact At.head _ _ _ | apply At.tail)))) ?_
     rintro _ _ ⟨ad5, cp6, rfl, rfl⟩
     refine ⟨Fit.sub, ?_⟩
     refine D.step (rs := [7]) (by kernel_rfl) rfl rfl (all1 ?_)
     refine Step.eff rfl (Wanted.plain rfl) (Eff.app (α := Pt) (e := 150) (xs := (List.take k es) ++ ([⟨e.u, e.v⟩] : List Pt)) (ys := List.drop k es) Try.underlying97 ty150 rfl rfl rfl (by repeat (first | exact List.mem_cons_self | apply List.mem_cons_of_mem)) (Sl.drop Sl.o (by omega)) (by simp only [List.length_cons, List.length_nil, List.length_append, List.length_take, List.length_drop]; omega) (by decide) rfl (fun _ _ => (by repeat (first | exact At.head _ _ _ | apply At.tail)))) ?_
     rintro _ _ ⟨ad7, cp8, rfl, rfl⟩
     refine ⟨Fit.sub, ?_⟩
     refine D.r 8 rfl (Runs.assign rfl) ?_ (hJ := Fit.sub)
     refine D.done (by kernel_rfl) ?_
     refine V.then ?_
     refine W.sub (L' := [(4, _)]) (Sub.cons rfl Sub.nil) ?_
     refine W.ret ?_
     have hw := with_new ha (by omega : k ≤ es.length) hn (fun hlt => ⟨by first | assumption | omega, by first | exact c32 | omega⟩)
     have hE : ((List.take k es) ++ ([⟨e.u, e.v⟩] : List Pt)) ++ (List.drop k es) = (insB Pt.lt es e) := by first | exact hw.2 | simpa using hw.2
     exact V.ret1 rfl rfl (vc 150 (.slice ad7 (insB Pt.lt es e).length cp8) (insB Pt.lt es e) :: I) (by rw [← hE]; exact Fit.sub) ⟨ad7, cp8, by rw [← hE], rfl⟩
   ·refine D.po 5 rfl ?_
    refine D.po 6 rfl ?_
    refine D.po 7 rfl ?_
    refine D.po 8 rfl ?_
    refine D.po 9 rfl ?_
    refine D.po 10 rfl ?_
    refine D.r 11 rfl (Runs.pickf rfl rfl) ?_
    refine D.done (by kernel_rfl) ?_
    refine V.then ?_
    refine W.sub (L' := [(32, _), (0, _), (3, _), (5, _)]) (Sub.cons rfl (Sub.cons rfl (Sub.cons rfl (Sub.cons rfl Sub.nil)))) ?_
    refine W.no rfl ?_
    refine W.skip ?_
    refine V.then ?_
    refine W.sr ?_
    refine G.r (Runs.move rfl) ?_
    refine G.r (Runs.move rfl) ?_
    refine G.r (Runs.hi (α := Pt) (xs := es) (h := k) Try.underlying97 ty150 rfl rfl (by omega) Sl.o (by omega)) ?_
    refine G.e (Eff.clone (α := Pt) (ys := List.take k es) Try.underlying97 ty150 rfl rfl rfl (Sl.take Sl.o (by omega)) (by simp only [List.length_cons, List.length_nil, List.length_append, List.length_take, List.length_drop]; omega) (by decide) rfl) ?_
    rintro _ _ ⟨ad9, cp10, rfl, rfl⟩
    refine G.r (Runs.assign rfl) ?_
    refine G.nt ?_
    refine W.seq ?_
    refine W.drawn mixed ?_
    refine A.hold (blk b1 [I64 (e.u), I64 (e.v)] 150 :: vc 150 (.slice a0 es.length c0) (es) :: I) 9 ?_
    refine D.r 0 rfl (Runs.move rfl) ?_ (hJ := Fit.sub)
    refine D.r 1 rfl (Runs.lds (vs := [_, _]) ty150) ?_ (hJ := Fit.sub)
    refine D.r 4 rfl (Runs.move rfl) ?_ (hJ := Fit.sub)
    refine D.r 5 rfl (Runs.move rfl) ?_ (hJ := Fit.sub)
    refine D.r 6 rfl (Runs.lo (α := Pt) (xs := es) (l := k) Try.underlying97 ty150 rfl rfl (by omega) Sl.o (by omega)) ?_ (hJ := Fit.sub)
    refine D.step (rs := [2]) (by kernel_rfl) rfl rfl (all1 ?_)
    refine Step.eff rfl (Wanted.plain rfl) (Eff.bs (α := Pt) (cs := [_, _]) (xs := [⟨e.u, e.v⟩]) Try.underlying97 ty150 rfl rfl (by decide) (by decide) rfl rfl rfl rfl) ?_
    rintro _ _ ⟨ad11, rfl, rfl⟩
    refine ⟨Fit.sub, ?_⟩
    refine D.step (rs := [3]) (by kernel_rfl) rfl rfl (all1 ?_)
    refine Step.eff rfl (Wanted.plain rfl) (Eff.app (α := Pt) (e := 150) (xs := List.take k es) (ys := ([⟨e.u, e.v⟩] : List Pt)) Try.underlying97 ty150 rfl rfl rfl (by repeat (first | exact List.mem_cons_self | apply List.mem_cons_of_mem)) Sl.o (by simp only [List.length_cons, List.length_nil, List.length_append, List.length_take, List.length_drop]; omega) (by decide) rfl (fun _ _ => (by repeat (first | exact At.head _ _ _ | apply At.tail)))) ?_
    rintro _ _ ⟨ad12, cp13, rfl, rfl⟩
    refine ⟨Fit.sub, ?_⟩
    refine D.step (rs := [7]) (by kernel_rfl) rfl rfl (all1 ?_)
    refine Step.eff rfl (Wanted.plain rfl) (Eff.app (α := Pt) (e := 150) (xs := (List.take k es) ++ ([⟨e.u, e.v⟩] : List Pt)) (ys := List.drop k es) Try.underlying97 ty150 rfl rfl rfl (by repeat (first | exact List.mem_cons_self | apply List.mem_cons_of_mem)) (Sl.drop Sl.o (by omega)) (by simp only [List.length_cons, List.length_nil, List.length_append, List.length_take, List.length_drop]; omega) (by decide) rfl (fun _ _ => (by repeat (first | exact At.head _ _ _ | apply At.tail)))) ?_
    rintro _ _ ⟨ad14, cp15, rfl, rfl⟩
    refine ⟨Fit.sub, ?_⟩
    refine D.r 8 rfl (Runs.assign rfl) ?_ (hJ := Fit.sub)
    refine D.done (by kernel_rfl) ?_
    refine V.then ?_
    refine W.sub (L' := [(4, _)]) (Sub.cons rfl Sub.nil) ?_
    refine W.ret ?_
    have hw := with_new ha (by omega : k ≤ es.length) hn (fun hlt => ⟨by first | assumption | omega, by first | exact c32 | omega⟩)
    have hE : ((List.take k es) ++ ([⟨e.u, e.v⟩] : List Pt)) ++ (List.drop k es) = (insB Pt.lt es e) := by first | exact hw.2 | simpa using hw.2
    exact V.ret1 rfl rfl (vc 150 (.slice ad14 (insB Pt.lt es e).length cp15) (insB Pt.lt es e) :: I) (by rw [← hE]; exact Fit.sub) ⟨ad14, cp15, by rw [← hE], rfl⟩
 ·refine D.po 5 rfl ?_
  refine D.po 6 rfl ?_
  refine D.po 7 rfl ?_
  refine D.po 8 rfl ?_
  refine D.po 9 rfl ?_
  refine D.po 10 rfl ?_
  refine D.r 11 rfl (Runs.pickf rfl rfl) ?_
  refine D.done (by kernel_rfl) ?_
  refine V.then ?_
  refine W.sub (L' := [(18, _), (0, _), (3, _), (5, _)]) (Sub.cons rfl (Sub.cons rfl (Sub.cons rfl (Sub.cons rfl Sub.nil)))) ?_
  refine W.no rfl ?_
  refine W.exit ?_
  refine V.then_exit ?_
  refine V.then_exit ?_
  refine V.block_hit ?_
  refine V.then ?_
  refine W.seq ?_
  refine W.seq ?_
  refine W.drawn mixed ?_
  refine A.hold (blk b1 [I64 (e.u), I64 (e.v)] 150 :: vc 150 (.slice a0 es.length c0) (es) :: I) 12 ?_
  refine D.r 0 rfl (Runs.move rfl) ?_
  refine D.r 1 rfl (Runs.move rfl) ?_
  refine D.r 2 rfl (Runs.lens Try.underlying97 rfl) ?_
  refine D.r 3 rfl (Runs.lss rfl rfl) ?_
  refine D.r 4 rfl (Runs.move rfl) ?_
  refine D.split (d := 25) rfl (fun g25 => ?_) (fun g25 => ?_)
  ·refine D.ro 5 rfl (Runs.move rfl) ?_
   refine D.ro 6 rfl (Runs.move rfl) ?_
   refine D.ro 7 rfl (Runs.idx (α := Pt) (xs := es) Try.underlying97 ty150 rfl rfl Sl.o (by omega) (by omega)) ?_
   refine D.ro 8 rfl (Runs.gets (α := Pt) (xs := es) ty150 rfl Sl.o (by omega) (by omega)) ?_
   refine D.ro 9 rfl (Runs.lds (vs := [_, _]) ty150) ?_
   refine D.ro 10 rfl (Runs.eqlT (α := Pt) (a := (at_ es ((k : Nat) : Int))) (b := e) eqt150 rfl rfl) ?_
   refine D.r 11 rfl (Runs.pickt rfl rfl) ?_
   refine D.done (by kernel_rfl) ?_
   refine V.then ?_
   refine W.sub (L' := [(32, _), (0, _), (3, _), (5, _)]) (Sub.cons rfl (Sub.cons rfl (Sub.cons rfl (Sub.cons rfl Sub.nil)))) ?_
   refine W.ite rfl (fun c32 => ?_) (fun c32 => ?_)
   ·refine W.sr ?_
    refine G.r (Runs.move rfl) ?_
    refine G.r (Runs.assign rfl) ?_
    refine G.nt ?_
    refine W.ret ?_
    refine V.then_ret ?_
    have hm : e ∈ es := by rw [← show at_ es ((k : Nat) : Int) = e from c32]; exact at_mem (by omega) (by omega)
    have hE : (insB Pt.lt es e) = es := insB_mem ha hm
    exact V.ret1 rfl rfl (vc 150 (.slice a0 (insB Pt.lt es e).length c0) (insB Pt.lt es e) :: I) (by rw [hE]; exact Fit.sub) ⟨a0, c0, by rw [hE], rfl⟩
   ·refine W.skip ?_
    refine V.then ?_
    refine W.sr ?_
    refine G.r (Runs.move rfl) ?_
    refine G.r (Runs.move rfl) ?_
    refine G.r (Runs.hi (α := Pt) (xs := es) (h := k) Try.underlying97 ty150 rfl rfl (by omega) Sl.o (by omega)) ?_
    refine G.e (Eff.clone (α := Pt) (ys := List.take k es) Try.underlying97 ty150 rfl rfl rfl (Sl.take Sl.o (by omega)) (by simp only [List.length_cons, List.length_nil, List.length_append, List.length_take, List.length_drop]; omega) (by decide) rfl) ?_
    rintro _ _ ⟨ad16, cp17, rfl, rfl⟩
    refine G.r (Runs.assign rfl) ?_
    refine G.nt ?_
    refine W.seq ?_
    refine W.drawn mixed ?_
    refine A.hold (blk b1 [I64 (e.u), I64 (e.v)] 150 :: vc 150 (.slice a0 es.length c0) (es) :: I) 9 ?_
    refine D.r 0 rfl (Runs.move rfl) ?_ (hJ := Fit.sub)
    refine D.r 1 rfl (Runs.lds (vs := [_, _]) ty150) ?_ (hJ := Fit.sub)
    refine D.r 4 rfl (Runs.move rfl) ?_ (hJ := Fit.sub)
    refine D.r 5 rfl (Runs.move rfl) ?_ (hJ := Fit.sub)
    refine D.r 6 rfl (Runs.lo (α := Pt) (xs := es) (l := k) Try.underlying97 ty150 rfl rfl (by omega) Sl.o (by omega)) ?_ (hJ := Fit.sub)
    refine D.step (rs := [2]) (by kernel_rfl) rfl rfl (all1 ?_)
    refine Step.eff rfl (Wanted.plain rfl) (Eff.bs (α := Pt) (cs := [_, _]) (xs := [⟨e.u, e.v⟩]) Try.underlying97 ty150 rfl rfl (by decide) (by decide) rfl rfl rfl rfl) ?_
    rintro _ _ ⟨ad18, rfl, rfl⟩
    refine ⟨Fit.sub, ?_⟩
    refine D.step (rs := [3]) (by kernel_rfl) rfl rfl (all1 ?_)
    refine Step.eff rfl (Wanted.plain rfl) (Eff.app (α := Pt) (e := 150) (xs := List.take k es) (ys := ([⟨e.u, e.v⟩] : List Pt)) Try.underlying97 ty150 rfl rfl rfl (by repeat (first | exact List.mem_cons_self | apply List.mem_cons_of_mem)) Sl.o (by simp only [List.length_cons, List.length_nil, List.length_append, List.length_take, List.length_drop]; omega) (by decide) rfl (fun _ _ => (by repeat (first | exact At.head _ _ _ | apply At.tail)))) ?_
    rintro _ _ ⟨ad19, cp20, rfl, rfl⟩
    refine ⟨Fit.sub, ?_⟩
    refine D.step (rs := [7]) (by kernel_rfl) rfl rfl (all1 ?_)
    refine Step.eff rfl (Wanted.plain rfl) (Eff.app (α := Pt) (e := 150) (xs := (List.take k es) ++ ([⟨e.u, e.v⟩] : List Pt)) (ys := List.drop k es) Try.underlying97 ty150 rfl rfl rfl (by repeat (first | exact List.mem_cons_self | apply List.mem_cons_of_mem)) (Sl.drop Sl.o (by omega)) (by simp only [List.length_cons, List.length_nil, List.length_append, List.length_take, List.length_drop]; omega) (by decide) rfl (fun _ _ => (by repeat (first | exact At.head _ _ _ | apply At.tail)))) ?_
    rintro _ _ ⟨ad21, cp22, rfl, rfl⟩
    refine ⟨Fit.sub, ?_⟩
    refine D.r 8 rfl (Runs.assign rfl) ?_ (hJ := Fit.sub)
    refine D.done (by kernel_rfl) ?_
    refine V.then ?_
    refine W.sub (L' := [(4, _)]) (Sub.cons rfl Sub.nil) ?_
    refine W.ret ?_
    have hw := with_new ha (by omega : k ≤ es.length) hn (fun hlt => ⟨by first | assumption | omega, by first | exact c32 | omega⟩)
    have hE : ((List.take k es) ++ ([⟨e.u, e.v⟩] : List Pt)) ++ (List.drop k es) = (insB Pt.lt es e) := by first | exact hw.2 | simpa using hw.2
    exact V.ret1 rfl rfl (vc 150 (.slice ad21 (insB Pt.lt es e).length cp22) (insB Pt.lt es e) :: I) (by rw [← hE]; exact Fit.sub) ⟨ad21, cp22, by rw [← hE], rfl⟩
  ·refine D.po 5 rfl ?_
   refine D.po 6 rfl ?_
   refine D.po 7 rfl ?_
   refine D.po 8 rfl ?_
   refine D.po 9 rfl ?_
   refine D.po 10 rfl ?_
   refine D.r 11 rfl (Runs.pickf rfl rfl) ?_
   refine D.done (by kernel_rfl) ?_
   refine V.then ?_
   refine W.sub (L' := [(32, _), (0, _), (3, _), (5, _)]) (Sub.cons rfl (Sub.cons rfl (Sub.cons rfl (Sub.cons rfl Sub.nil)))) ?_
   refine W.no rfl ?_
   refine W.skip ?_
   refine V.then ?_
   refine W.sr ?_
   refine G.r (Runs.move rfl) ?_
   refine G.r (Runs.move rfl) ?_
   refine G.r (Runs.hi (α := Pt) (xs := es) (h := k) Try.underlying97 ty150 rfl rfl (by omega) Sl.o (by omega)) ?_
   refine G.e (Eff.clone (α := Pt) (ys := List.take k es) Try.underlying97 ty150 rfl rfl rfl (Sl.take Sl.o (by omega)) (by simp only [List.length_cons, List.length_nil, List.length_append, List.length_take, List.length_drop]; omega) (by decide) rfl) ?_
   rintro _ _ ⟨ad23, cp24, rfl, rfl⟩
   refine G.r (Runs.assign rfl) ?_
   refine G.nt ?_
   refine W.seq ?_
   refine W.drawn mixed ?_
   refine A.hold (blk b1 [I64 (e.u), I64 (e.v)] 150 :: vc 150 (.slice a0 es.length c0) (es) :: I) 9 ?_
   refine D.r 0 rfl (Runs.move rfl) ?_ (hJ := Fit.sub)
   refine D.r 1 rfl (Runs.lds (vs := [_, _]) ty150) ?_ (hJ := Fit.sub)
   refine D.r 4 rfl (Runs.move rfl) ?_ (hJ := Fit.sub)
   refine D.r 5 rfl (Runs.move rfl) ?_ (hJ := Fit.sub)
   refine D.r 6 rfl (Runs.lo (α := Pt) (xs := es) (l := k) Try.underlying97 ty150 rfl rfl (by omega) Sl.o (by omega)) ?_ (hJ := Fit.sub)
   refine D.step (rs := [2]) (by kernel_rfl) rfl rfl (all1 ?_)
   refine Step.eff rfl (Wanted.plain rfl) (Eff.bs (α := Pt) (cs := [_, _]) (xs := [⟨e.u, e.v⟩]) Try.underlying97 ty150 rfl rfl (by decide) (by decide) rfl rfl rfl rfl) ?_
   rintro _ _ ⟨ad25, rfl, rfl⟩
   refine ⟨Fit.sub, ?_⟩
   refine D.step (rs := [3]) (by kernel_rfl) rfl rfl (all1 ?_)
   refine Step.eff rfl (Wanted.plain rfl) (Eff.app (α := Pt) (e := 150) (xs := List.take k es) (ys := ([⟨e.u, e.v⟩] : List Pt)) Try.underlying97 ty150 rfl rfl rfl (by repeat (first | exact List.mem_cons_self | apply List.mem_cons_of_mem)) Sl.o (by simp only [List.length_cons, List.length_nil, List.length_append, List.length_take, List.length_drop]; omega) (by decide) rfl (fun _ _ => (by repeat (first | exact At.head _ _ _ | apply At.tail)))) ?_
   rintro _ _ ⟨ad26, cp27, rfl, rfl⟩
   refine ⟨Fit.sub, ?_⟩
   refine D.step (rs := [7]) (by kernel_rfl) rfl rfl (all1 ?_)
   refine Step.eff rfl (Wanted.plain rfl) (Eff.app (α := Pt) (e := 150) (xs := (List.take k es) ++ ([⟨e.u, e.v⟩] : List Pt)) (ys := List.drop k es) Try.underlying97 ty150 rfl rfl rfl (by repeat (first | exact List.mem_cons_self | apply List.mem_cons_of_mem)) (Sl.drop Sl.o (by omega)) (by simp only [List.length_cons, List.length_nil, List.length_append, List.length_take, List.length_drop]; omega) (by decide) rfl (fun _ _ => (by repeat (first | exact At.head _ _ _ | apply At.tail)))) ?_
   rintro _ _ ⟨ad28, cp29, rfl, rfl⟩
   refine ⟨Fit.sub, ?_⟩
   refine D.r 8 rfl (Runs.assign rfl) ?_ (hJ := Fit.sub)
   refine D.done (by kernel_rfl) ?_
   refine V.then ?_
   refine W.sub (L' := [(4, _)]) (Sub.cons rfl Sub.nil) ?_
   refine W.ret ?_
   have hw := with_new ha (by omega : k ≤ es.length) hn (fun hlt => ⟨by first | assumption | omega, by first | exact c32 | omega⟩)
   have hE : ((List.take k es) ++ ([⟨e.u, e.v⟩] : List Pt)) ++ (List.drop k es) = (insB Pt.lt es e) := by first | exact hw.2 | simpa using hw.2
   exact V.ret1 rfl rfl (vc 150 (.slice ad28 (insB Pt.lt es e).length cp29) (insB Pt.lt es e) :: I) (by rw [← hE]; exact Fit.sub) ⟨ad28, cp29, by rw [← hE], rfl⟩

theorem With_at {κ : Ctx} {I : List Item} {F : Item → List Item} {a : Option Addr} {n c : Nat} {es : List Pt} (hat : AtF I (vc 150 (.slice a n c) es) F) (hn : n = es.length) (e : Pt) (ha : AscP es) (hb : es.length ≤ 10000000) :
    CallS Try.prog κ 142 [.slice a n c, .agg #[I64 e.u, I64 e.v]] I fun r J => ∃ y : Option Addr × Nat, r = .slice y.1 (insB Pt.lt es e).length y.2 ∧ J = [] ++ F (vc 150 (.slice y.1 (insB Pt.lt es e).length y.2) (insB Pt.lt es e)) :=
  CallS.at (Z := fun _ => []) (X := fun y : Option Addr × Nat => vc 150 (.slice y.1 (insB Pt.lt es e).length y.2) (insB Pt.lt es e)) (Post := fun r y => r = .slice y.1 (insB Pt.lt es e).length y.2) hat fun J _ _ => by subst hn; exact (With_own e ha hb).mono fun r J' ⟨a', c', h1, h2⟩ => ⟨(a', c'), h1, h2⟩

theorem Of03_ok {κ : Ctx} {I : List Item} {nd : Int} {v : Value} {l : List Pt} (hl : Sl κ I v l) (hb : l.length ≤ 1000000) :
    CallS Try.prog κ 76 [I64 (nd), v] I (fun r J => (ofE nd l ≠ 0 ∧ r = .tuple #[.agg #[I64 0, .slice none 0 0], I64 (ofE nd l)] ∧ I = J) ∨ (∃ a c, ofE nd l = 0 ∧ r = .tuple #[.agg #[I64 nd, .slice a (sortB Pt.lt (edgesL l)).length c], I64 0] ∧ J = vc 150 (.slice a (sortB Pt.lt (edgesL l)).length c) (sortB Pt.lt (edgesL l)) :: I)) := by
 refine CallS.pull hl.le fun hmax => ?_
 refine CallS.enter (L := [(0, I64 (nd)), (1, v)]) Try.func76 rfl rfl rfl rfl ?_
 refine W.sr ?_
 refine G.e (Eff.alloc ty99 rfl) ?_
 rintro _ _ ⟨b1, rfl, rfl⟩
 refine G.r (Runs.assign rfl) ?_
 refine G.nt ?_
 refine W.seq ?_
 refine W.sr ?_
 refine G.r (Runs.move rfl) ?_
 refine G.r (Runs.lss rfl rfl) ?_
 refine G.r (Runs.move rfl) ?_
 refine G.split (d := 11) rfl (fun g11 => ?_) (fun g11 => ?_)
 ·refine G.po ?_
  refine G.po ?_
  refine G.r (Runs.pickt rfl rfl) ?_
  refine G.nt ?_
  refine W.yes rfl ?_
  refine W.sr ?_
  refine G.r (Runs.build (cells := [_, _]) ty99 Try.underlying99 pl99 rfl rfl) ?_
  refine G.e (Eff.st (cs := [_, _]) (vs := [_, _]) (cs' := [_, _]) ty99) ?_
  rintro _ _ ⟨rfl, rfl⟩
  refine G.r (Runs.assign rfl) ?_
  refine G.nt ?_
  refine W.ret ?_
  refine V.then_ret ?_
  have hz : ofE nd l = 1 := by unfold ofE; rw [if_pos (by omega)]
  exact V.retc1 rfl ty99 rfl rfl (by repeat (first | exact List.mem_cons_self | apply List.mem_cons_of_mem)) rfl (I) Fit.m (.inl ⟨by rw [hz]; decide, by rw [hz], rfl⟩)
 ·refine G.ro (Runs.move rfl) ?_
  refine G.ro (Runs.gtr rfl rfl) ?_
  refine G.r (Runs.pickf rfl rfl) ?_
  refine G.nt ?_
  refine W.ite rfl (fun c14 => ?_) (fun c14 => ?_)
  ·refine W.sr ?_
   refine G.r (Runs.build (cells := [_, _]) ty99 Try.underlying99 pl99 rfl rfl) ?_
   refine G.e (Eff.st (cs := [_, _]) (vs := [_, _]) (cs' := [_, _]) ty99) ?_
   rintro _ _ ⟨rfl, rfl⟩
   refine G.r (Runs.assign rfl) ?_
   refine G.nt ?_
   refine W.ret ?_
   refine V.then_ret ?_
   have hz : ofE nd l = 1 := by unfold ofE; rw [if_pos (by omega)]
   exact V.retc1 rfl ty99 rfl rfl (by repeat (first | exact List.mem_cons_self | apply List.mem_cons_of_mem)) rfl (I) Fit.m (.inl ⟨by rw [hz]; decide, by rw [hz], rfl⟩)
  ·refine W.skip ?_
   refine V.then ?_
   refine W.sr ?_
   refine G.r (Runs.move rfl) ?_
   refine G.r (Runs.build (cells := [_, _]) ty99 Try.underlying99 pl99 rfl rfl) ?_
   refine G.e (Eff.alloc ty99 rfl) ?_
   rintro _ _ ⟨b2, rfl, rfl⟩
   refine G.e (Eff.st (cs := [_, _]) (vs := [_, _]) (cs' := [_, _]) ty99) ?_
   rintro _ _ ⟨rfl, rfl⟩
   refine G.nt ?_
   refine W.sub (L' := [(6, _), (4, _), (0, _), (1, _)]) (Sub.cons rfl (Sub.cons rfl (Sub.cons rfl (Sub.cons rfl Sub.nil)))) ?_
   refine W.seq ?_
   refine W.sr ?_
   refine G.r (Runs.move rfl) ?_
   refine G.r (Runs.lenT (α := Pt) (xs := l) Try.underlying97 rfl (Sl.f hl)) ?_
   refine G.r (Runs.move rfl) ?_
   refine G.nt ?_
   refine W.block ?_
   refine W.loop (σ := Nat × (Option Addr) × Nat × (List Pt)) (fun s => ([(0, I64 (nd)), (4, .pointer (some ⟨b1, 0, none⟩)), (6, .pointer (some ⟨b2, 0, none⟩)), (18, v), (19, I64 (((l.length : Nat) : Int))), (20, I64 (((s.1 : Nat) : Int)))] : Env)) (fun s => vc 150 (.slice s.2.1 s.2.2.2.length s.2.2.1) (s.2.2.2) :: blk b2 [I64 (nd), .slice s.2.1 s.2.2.2.length s.2.2.1] 99 :: blk b1 [I64 (0), .slice none 0 0] 99 :: I) (fun s => (s.1 ≤ l.length) ∧ (s.2.2.2 = sortB Pt.lt (edgesL (l.take s.1))) ∧ (∀ j, j < s.1 → endsP nd (at_ l (j : Int)).u (at_ l (j : Int)).v)) (fun s => l.length - s.1) (0, none, 0, []) (show ((0 : Nat) ≤ l.length) ∧ (([] : List Pt) = sortB Pt.lt (edgesL (l.take (0 : Nat)))) ∧ (∀ j, j < (0 : Nat) → endsP nd (at_ l (j : Int)).u (at_ l (j : Int)).v) from ⟨(by omega), rfl, all_zero⟩) (Sub.cons rfl (Sub.cons rfl (Sub.cons rfl (Sub.cons rfl (Sub.cons rfl (Sub.cons lookO Sub.nil)))))) (show Fit κ _ (vc 150 (.slice (none) ([]).length (0)) (([])) :: blk b2 [I64 (nd), .slice (none) ([]).length (0)] 99 :: blk b1 [I64 (0), .slice none 0 0] 99 :: I) from (Fit.nilvc _ _)) ?_
   rintro ⟨k, a, c, out⟩ hp
   obtain ⟨hk, ho, hgood⟩ : (k ≤ l.length) ∧ (out = sortB Pt.lt (edgesL (l.take k))) ∧ (∀ j, j < k → endsP nd (at_ l (j : Int)).u (at_ l (j : Int)).v) := hp
   show W Try.prog κ 43 _ _ ([(0, I64 (nd)), (4, .pointer (some ⟨b1, 0, none⟩)), (6, .pointer (some ⟨b2, 0, none⟩)), (18, v), (19, I64 (((l.length : Nat) : Int))), (20, I64 (((k : Nat) : Int)))] : Env) (vc 150 (.slice a out.length c) (out) :: blk b2 [I64 (nd), .slice a out.length c] 99 :: blk b1 [I64 (0), .slice none 0 0] 99 :: I)
   have hol : out.length ≤ l.length := by rw [ho]; refine Nat.le_trans (sortB_len _) ?_; rw [edgesL_len]; simp only [List.length_take]; omega
   refine W.sr ?_
   refine G.r (Runs.lss rfl rfl) ?_
   refine G.nt ?_
   refine W.seq ?_
   refine W.ite rfl (fun c21 => ?_) (fun c21 => ?_)
   ·refine W.skip ?_
    refine V.then ?_
    refine W.seq ?_
    refine W.block ?_
    refine W.sr ?_
    refine G.r (Runs.idx (α := Pt) (xs := l) Try.underlying97 ty150 rfl rfl (Sl.f hl) (by omega) (by omega)) ?_
    refine G.r (Runs.gets (α := Pt) (xs := l) ty150 rfl (Sl.f hl) (by omega) (by omega)) ?_
    refine G.e (Eff.alloc ty150 rfl) ?_
    rintro _ _ ⟨b3, rfl, rfl⟩
    refine G.e (Eff.st (cs := [_, _]) (vs := [_, _]) (cs' := [_, _]) ty150) ?_
    rintro _ _ ⟨rfl, rfl⟩
    refine G.nt ?_
    refine W.seq ?_
    refine W.sr ?_
    refine G.r (Runs.move rfl) ?_
    refine G.r (Runs.fieldAddr fld150_0 rfl) ?_
    refine G.r (Runs.ld ty3) ?_
    refine G.r (Runs.fieldAddr fld150_1 rfl) ?_
    refine G.r (Runs.ld ty3) ?_
    refine G.e (Eff.call call141 rfl rfl (Ends03_ok nd ((at_ l ((k : Nat) : Int)).u) ((at_ l ((k : Nat) : Int)).v))) ?_
    rintro _ _ ⟨_, _, ⟨rfl, rfl⟩, rfl, rfl⟩
    refine G.r (Runs.notd rfl) ?_
    refine G.nt ?_
    refine W.sub (L' := [(30, _), (8, _), (0, _), (4, _), (6, _), (18, _), (19, _), (20, _)]) (Sub.cons rfl (Sub.cons rfl (Sub.cons rfl (Sub.cons rfl (Sub.cons rfl (Sub.cons rfl (Sub.cons rfl (Sub.cons rfl Sub.nil)))))))) ?_
    refine W.ite rfl (fun c30 => ?_) (fun c30 => ?_)
    ·refine W.sr ?_
     refine G.r (Runs.build (cells := [_, _]) ty99 Try.underlying99 pl99 rfl rfl) ?_
     refine G.e (Eff.st (cs := [_, _]) (vs := [_, _]) (cs' := [_, _]) ty99) ?_
     rintro _ _ ⟨rfl, rfl⟩
     refine G.r (Runs.assign rfl) ?_
     refine G.nt ?_
     refine W.ret ?_
     refine V.then_ret ?_
     refine V.block_ret ?_
     refine V.then_ret ?_
     refine V.then_ret ?_
     refine V.block_ret ?_
     refine V.then_ret ?_
     have hz : ofE nd l = 6 := ofE_bad (by omega) (by omega) c30
     exact V.retc1 rfl ty99 rfl rfl (by repeat (first | exact List.mem_cons_self | apply List.mem_cons_of_mem)) rfl (I) Fit.m (.inl ⟨by rw [hz]; decide, by rw [hz], rfl⟩)
    ·refine W.skip ?_
     refine V.then ?_
     refine W.drawn mixed ?_
     refine A.hold (blk b3 [I64 ((at_ l ((k : Nat) : Int)).u), I64 ((at_ l ((k : Nat) : Int)).v)] 150 :: blk b2 [I64 (nd), .slice a out.length c] 99 :: blk b1 [I64 (0), .slice none 0 0] 99 :: I) 9 ?_
     refine D.r 0 rfl (Runs.fieldAddr fld99_1 rfl) ?_ (hJ := Fit.sub)
     refine D.r 1 rfl (Runs.ld ty97) ?_ (hJ := Fit.sub)
     refine D.r 2 rfl (Runs.fieldAddr fld150_0 rfl) ?_ (hJ := Fit.sub)
     refine D.r 3 rfl (Runs.ld ty3) ?_ (hJ := Fit.sub)
     refine D.r 4 rfl (Runs.fieldAddr fld150_1 rfl) ?_ (hJ := Fit.sub)
     refine D.r 5 rfl (Runs.ld ty3) ?_ (hJ := Fit.sub)
     refine D.step (rs := [6]) (by kernel_rfl) rfl rfl (all1 ?_)
     refine Step.eff rfl (Wanted.plain rfl) (Eff.call call143 rfl rfl (Edge03_ok ((at_ l ((k : Nat) : Int)).u) ((at_ l ((k : Nat) : Int)).v))) ?_
     rintro _ _ ⟨_, _, ⟨rfl, rfl⟩, rfl, rfl⟩
     refine ⟨Fit.sub, ?_⟩
     refine D.step (rs := [7]) (by kernel_rfl) rfl rfl (all1 ?_)
     refine Step.eff rfl (Wanted.plain rfl) (Eff.call call142 rfl rfl (With_at (by repeat (first | exact AtF.head _ _ | apply AtF.tail)) rfl (edgeP ((at_ l ((k : Nat) : Int)).u) ((at_ l ((k : Nat) : Int)).v)) (by rw [ho]; exact Pt.lin.sortB _) (by omega))) ?_
     rintro _ _ ⟨_, _, ⟨⟨ad4, cp5⟩, rfl, rfl⟩, rfl, rfl⟩
     refine ⟨Fit.sub, ?_⟩
     show D Try.prog κ _ _ _ _ _ _ _ ([(39, .slice ad4 (insB Pt.lt out (edgeP ((at_ l ((k : Nat) : Int)).u) ((at_ l ((k : Nat) : Int)).v))).length cp5), (38, .agg #[I64 ((edgeP ((at_ l ((k : Nat) : Int)).u) ((at_ l ((k : Nat) : Int)).v)).u), I64 ((edgeP ((at_ l ((k : Nat) : Int)).u) ((at_ l ((k : Nat) : Int)).v)).v)]), (37, I64 ((at_ l ((k : Nat) : Int)).v)), (36, .pointer (some ⟨b3, 1, none⟩)), (35, I64 ((at_ l ((k : Nat) : Int)).u)), (34, .pointer (some ⟨b3, 0, none⟩)), (33, .slice a out.length c), (32, .pointer (some ⟨b2, 1, none⟩)), (30, .bool (decide (¬ (endsP nd ((at_ l ((k : Nat) : Int)).u) ((at_ l ((k : Nat) : Int)).v))))), (8, .pointer (some ⟨b3, 0, none⟩)), (0, I64 (nd)), (4, .pointer (some ⟨b1, 0, none⟩)), (6, .pointer (some ⟨b2, 0, none⟩)), (18, v), (19, I64 (((l.length : Nat) : Int))), (20, I64 (((k : Nat) : Int)))] : Env) (blk b3 [I64 ((at_ l ((k : Nat) : Int)).u), I64 ((at_ l ((k : Nat) : Int)).v)] 150 :: vc 150 (.slice ad4 (insB Pt.lt out (edgeP ((at_ l ((k : Nat) : Int)).u) ((at_ l ((k : Nat) : Int)).v))).length cp5) (insB Pt.lt out (edgeP ((at_ l ((k : Nat) : Int)).u) ((at_ l ((k : Nat) : Int)).v))) :: blk b2 [I64 (nd), .slice a out.length c] 99 :: blk b1 [I64 (0), .slice none 0 0] 99 :: I)
     refine D.r 8 rfl (Runs.fieldAddr fld99_1 rfl) ?_ (hJ := Fit.sub)
     refine D.stop (by kernel_rfl) ?_
     refine A.eff (i := 9) (by kernel_rfl) rfl (Wanted.plain rfl) (Eff.st (cs := [_, _]) (vs := [_]) (cs' := [_, _]) ty97) ?_
     rintro _ _ ⟨rfl, rfl⟩
     refine A.done (by kernel_rfl) ?_
     refine V.block_normal ?_
     refine V.then ?_
     refine W.sub (L' := [(0, _), (4, _), (6, _), (18, _), (19, _), (20, _)]) (Sub.cons rfl (Sub.cons rfl (Sub.cons rfl (Sub.cons rfl (Sub.cons rfl (Sub.cons rfl Sub.nil)))))) ?_
     refine W.region ?_
     refine G.r (Runs.add rfl rfl (by unfold InR; omega)) ?_
     refine G.r (Runs.move rfl) ?_
     refine G.nil ?_
     exact V.next ((k + 1), (ad4), (cp5), (insB Pt.lt out (edgeP ((at_ l ((k : Nat) : Int)).u) ((at_ l ((k : Nat) : Int)).v)))) (show ((k + 1 : Nat) ≤ l.length) ∧ ((insB Pt.lt out (edgeP ((at_ l ((k : Nat) : Int)).u) ((at_ l ((k : Nat) : Int)).v)) : List Pt) = sortB Pt.lt (edgesL (l.take (k + 1 : Nat)))) ∧ (∀ j, j < (k + 1 : Nat) → endsP nd (at_ l (j : Int)).u (at_ l (j : Int)).v) from ⟨(by omega), (by rw [edgesL_take (by omega), ← insB_sortB, ← ho]), (all_succ hgood (Classical.not_not.1 c30))⟩) (show l.length - (k + 1 : Nat) < l.length - k from (by omega)) (Sub.cons rfl (Sub.cons rfl (Sub.cons rfl (Sub.cons rfl (Sub.cons rfl (Sub.cons lookO Sub.nil)))))) (show Fit κ _ (vc 150 (.slice (ad4) (insB Pt.lt out (edgeP ((at_ l ((k : Nat) : Int)).u) ((at_ l ((k : Nat) : Int)).v))).length (cp5)) ((insB Pt.lt out (edgeP ((at_ l ((k : Nat) : Int)).u) ((at_ l ((k : Nat) : Int)).v)))) :: blk b2 [I64 (nd), .slice (ad4) (insB Pt.lt out (edgeP ((at_ l ((k : Nat) : Int)).u) ((at_ l ((k : Nat) : Int)).v))).length (cp5)] 99 :: blk b1 [I64 (0), .slice none 0 0] 99 :: I) from Fit.sub)
   ·refine W.exit ?_
    refine V.then_exit ?_
    refine V.then_exit ?_
    refine V.block_hit ?_
    refine V.then ?_
    refine W.sr ?_
    refine G.r (Runs.lds (vs := [_, _]) ty99) ?_
    refine G.e (Eff.st (cs := [_, _]) (vs := [_, _]) (cs' := [_, _]) ty99) ?_
    rintro _ _ ⟨rfl, rfl⟩
    refine G.r (Runs.assign rfl) ?_
    refine G.nt ?_
    refine W.ret ?_
    have hk2 : l.take k = l := List.take_of_length_le (by omega)
    rw [hk2] at ho
    subst ho
    have hz : ofE nd l = 0 := ofE_good (by omega) (fun j hj => hgood j (by omega))
    exact V.retc1 rfl ty99 rfl rfl (by repeat (first | exact List.mem_cons_self | apply List.mem_cons_of_mem)) rfl (vc 150 (.slice a (sortB Pt.lt (edgesL l)).length c) (sortB Pt.lt (edgesL l)) :: I) Fit.sub (.inr ⟨a, c, hz, rfl, rfl⟩)

end Go.Sl
namespace Go.Sl
open Go.Proofs
set_option linter.unusedVariables false
set_option linter.unusedSimpArgs false
set_option maxRecDepth 4000
theorem Raw_base {κ : Ctx} {I : List Item} {b : Nat} {lv : Value} {ls : List Int} {i : Int} {n : Int} (hl : ∀ q, Sl κ (deck b lv q :: I) lv ls) (h0 : 0 ≤ i)  (hn : 0 ≤ n ∧ n ≤ 100) :
    CallS Try.prog κ 70 [.pointer (some ⟨b, 0, none⟩), I64 (n)] (blk b [lv, I64 (i)] 129 :: I) (fun r J => ∃ y : (Option Addr) × Nat × (List Pt) × Int, ((r = .slice y.1 y.2.2.1.length y.2.1 ∧ y.2.2.1.length ≤ 16) ∧ 0 ≤ y.2.2.2) ∧ J = [vc 150 (.slice y.1 y.2.2.1.length y.2.1) y.2.2.1] ++ deck b lv y.2.2.2 :: I) := by
 have hx1 : 1 ≤ (if (1 : Int) < n then n else 1) ∧ (if (1 : Int) < n then n else 1) ≤ 100 := by split <;> omega
 have hx2 : 1 ≤ (if (2 : Int) < n then n else 2) ∧ (if (2 : Int) < n then n else 2) ≤ 100 := by split <;> omega
 refine CallS.enter (L := [(0, .pointer (some ⟨b, 0, none⟩)), (1, I64 (n))]) Try.func70 rfl rfl rfl rfl ?_
 refine W.sr ?_
 refine G.r (Runs.assign rfl) ?_
 refine G.nt ?_
 refine W.sr ?_
 refine G.r (Runs.assign rfl) ?_
 refine G.nt ?_
 refine W.seq ?_
 refine W.sr ?_
 refine G.r (Runs.move rfl) ?_
 refine G.e (Eff.call call25 rfl rfl (Next_ok (by repeat (first | exact AtF.head _ _ | apply AtF.tail)) (Sl.fit (hl _) Fit.m) (by omega) (by omega))) ?_
 rintro _ _ ⟨_, _, ⟨x1, i2, rfl, hx1, hi2, rfl⟩, rfl, rfl⟩
 show G Try.prog κ _ _ _ _ ([(10, I64 (x1)), (9, .pointer (some ⟨b, 0, none⟩)), (5, .slice none 0 0), (4, .slice none 0 0), (0, .pointer (some ⟨b, 0, none⟩)), (1, I64 (n))] : Env) (blk b [lv, I64 (i2)] 129 :: I)
 refine G.r (Runs.assign rfl) ?_
 refine G.nt ?_
 refine W.block ?_
 refine W.loop (σ := Int × Int × (Option Addr) × Nat × (List Pt)) (fun s => ([(0, .pointer (some ⟨b, 0, none⟩)), (1, I64 (n)), (5, .slice s.2.2.1 s.2.2.2.2.length s.2.2.2.1), (6, I64 (s.1))] : Env)) (fun s => vc 150 (.slice s.2.2.1 s.2.2.2.2.length s.2.2.2.1) (s.2.2.2.2) :: blk b [lv, I64 (s.2.1)] 129 :: I) (fun s => (0 ≤ s.1 ∧ s.1 + s.2.2.2.2.length ≤ 16) ∧ (0 ≤ s.2.1)) (fun s => s.1.toNat) (x1, i2, none, 0, []) (show (0 ≤ (x1 : Int) ∧ (x1 : Int) + ([] : List Pt).length ≤ 16) ∧ (0 ≤ (i2 : Int)) from ⟨(by simp only [List.length_nil]; omega), (by omega)⟩) (Sub.cons rfl (Sub.cons rfl (Sub.cons (lookV rfl (by first | rfl | simp)) (Sub.cons lookO Sub.nil)))) (show Fit κ _ (vc 150 (.slice (none) ([]).length (0)) (([])) :: blk b [lv, I64 ((i2))] 129 :: I) from (Fit.nilvc _ _)) ?_
 rintro ⟨m, iqa, a, c, es⟩ hp
 obtain ⟨hmm, hiqa⟩ : (0 ≤ m ∧ m + es.length ≤ 16) ∧ (0 ≤ iqa) := hp
 show W Try.prog κ 51 _ _ ([(0, .pointer (some ⟨b, 0, none⟩)), (1, I64 (n)), (5, .slice a es.length c), (6, I64 (m))] : Env) (vc 150 (.slice a es.length c) (es) :: blk b [lv, I64 (iqa)] 129 :: I)
 refine W.seq ?_
 refine W.sr ?_
 refine G.r (Runs.move rfl) ?_
 refine G.r (Runs.gtr rfl rfl) ?_
 refine G.nt ?_
 refine W.ite rfl (fun c12 => ?_) (fun c12 => ?_)
 ·refine W.skip ?_
  refine V.then ?_
  refine W.seq ?_
  refine W.block ?_
  refine W.sr ?_
  refine G.r (Runs.move rfl) ?_
  refine G.r (Runs.move rfl) ?_
  refine G.r (Runs.max rfl rfl) ?_
  refine G.e (Eff.call call25 rfl rfl (Next_ok (by repeat (first | exact AtF.head _ _ | apply AtF.tail)) (Sl.fit (hl _) Fit.m) (by omega) (by omega))) ?_
  rintro _ _ ⟨_, _, ⟨x3, i4, rfl, hx3, hi4, rfl⟩, rfl, rfl⟩
  show G Try.prog κ _ _ _ _ ([(18, I64 (x3)), (17, I64 (if 1 < n then n else 1)), (16, I64 (n)), (15, .pointer (some ⟨b, 0, none⟩)), (12, .bool (decide (0 < m))), (11, I64 (m)), (0, .pointer (some ⟨b, 0, none⟩)), (1, I64 (n)), (5, .slice a es.length c), (6, I64 (m))] : Env) (vc 150 (.slice a es.length c) (es) :: blk b [lv, I64 (i4)] 129 :: I)
  refine G.r (Runs.move rfl) ?_
  refine G.r (Runs.move rfl) ?_
  refine G.r (Runs.max rfl rfl) ?_
  refine G.e (Eff.call call25 rfl rfl (Next_ok (by repeat (first | exact AtF.head _ _ | apply AtF.tail)) (Sl.fit (hl _) Fit.m) (by omega) (by omega))) ?_
  rintro _ _ ⟨_, _, ⟨x5, i6, rfl, hx5, hi6, rfl⟩, rfl, rfl⟩
  show G Try.prog κ _ _ _ _ ([(22, I64 (x5)), (21, I64 (if 1 < n then n else 1)), (20, I64 (n)), (19, .pointer (some ⟨b, 0, none⟩)), (18, I64 (x3)), (17, I64 (if 1 < n then n else 1)), (16, I64 (n)), (15, .pointer (some ⟨b, 0, none⟩)), (12, .bool (decide (0 < m))), (11, I64 (m)), (0, .pointer (some ⟨b, 0, none⟩)), (1, I64 (n)), (5, .slice a es.length c), (6, I64 (m))] : Env) (vc 150 (.slice a es.length c) (es) :: blk b [lv, I64 (i6)] 129 :: I)
  refine G.r (Runs.assign rfl) ?_
  refine G.r (Runs.assign rfl) ?_
  refine G.nt ?_
  refine W.sub (L' := [(8, _), (7, _), (0, _), (1, _), (5, _), (6, _)]) (Sub.cons rfl (Sub.cons rfl (Sub.cons rfl (Sub.cons rfl (Sub.cons rfl (Sub.cons rfl Sub.nil)))))) ?_
  refine W.seq ?_
  refine W.sr ?_
  refine G.r (Runs.move rfl) ?_
  refine G.r (Runs.move rfl) ?_
  refine G.r (Runs.eql rfl rfl) ?_
  refine G.r (Runs.move rfl) ?_
  refine G.split (d := 26) rfl (fun g26 => ?_) (fun g26 => ?_)
  ·refine G.ro (Runs.move rfl) ?_
   refine G.eff (Wanted.on rfl rfl rfl) (Eff.call call25 rfl rfl (Next_ok (by repeat (first | exact AtF.head _ _ | apply AtF.tail)) (Sl.fit (hl _) Fit.m) (by omega) (by omega))) ?_
   rintro _ _ ⟨_, _, ⟨x7, i8, rfl, hx7, hi8, rfl⟩, rfl, rfl⟩
   show G Try.prog κ _ _ _ _ ([(28, I64 (x7)), (27, .pointer (some ⟨b, 0, none⟩)), (26, .bool true), (26, .bool (decide (x3 = x5))), (25, .bool (decide (x3 = x5))), (24, I64 (x5)), (23, I64 (x3)), (8, I64 (x5)), (7, I64 (x3)), (0, .pointer (some ⟨b, 0, none⟩)), (1, I64 (n)), (5, .slice a es.length c), (6, I64 (m))] : Env) (vc 150 (.slice a es.length c) (es) :: blk b [lv, I64 (i8)] 129 :: I)
   refine G.ro (Runs.gtr rfl rfl) ?_
   refine G.r (Runs.pickt rfl rfl) ?_
   refine G.nt ?_
   refine W.sub (L' := [(30, _), (8, _), (7, _), (0, _), (1, _), (5, _), (6, _)]) (Sub.cons rfl (Sub.cons rfl (Sub.cons rfl (Sub.cons rfl (Sub.cons rfl (Sub.cons rfl (Sub.cons rfl Sub.nil))))))) ?_
   refine W.ite rfl (fun c30 => ?_) (fun c30 => ?_)
   ·refine W.region ?_
    refine G.r (Runs.move rfl) ?_
    refine G.r (Runs.add rfl rfl (by unfold InR; omega)) ?_
    refine G.r (Runs.move rfl) ?_
    refine G.r (Runs.max rfl rfl) ?_
    refine G.r (Runs.rem rfl rfl (by omega)) ?_
    refine G.r (Runs.assign rfl) ?_
    refine G.nt ?_
    refine W.seq ?_
    refine W.sr ?_
    refine G.r (Runs.move rfl) ?_
    refine G.e (Eff.call call25 rfl rfl (Next_ok (by repeat (first | exact AtF.head _ _ | apply AtF.tail)) (Sl.fit (hl _) Fit.m) (by omega) (by omega))) ?_
    rintro _ _ ⟨_, _, ⟨x9, i10, rfl, hx9, hi10, rfl⟩, rfl, rfl⟩
    show G Try.prog κ _ _ _ _ ([(37, I64 (x9)), (36, .pointer (some ⟨b, 0, none⟩)), (8, I64 (Int.tmod (x3 + 1) (if 2 < n then n else 2))), (35, I64 (Int.tmod (x3 + 1) (if 2 < n then n else 2))), (34, I64 (if 2 < n then n else 2)), (33, I64 (n)), (32, I64 (x3 + 1)), (31, I64 (x3)), (30, .bool (decide (0 < x7))), (8, I64 (x5)), (7, I64 (x3)), (0, .pointer (some ⟨b, 0, none⟩)), (1, I64 (n)), (5, .slice a es.length c), (6, I64 (m))] : Env) (vc 150 (.slice a es.length c) (es) :: blk b [lv, I64 (i10)] 129 :: I)
    refine G.r (Runs.eql rfl rfl) ?_
    refine G.nt ?_
    refine W.sub (L' := [(38, _), (8, _), (7, _), (0, _), (1, _), (5, _), (6, _)]) (Sub.cons rfl (Sub.cons rfl (Sub.cons rfl (Sub.cons rfl (Sub.cons rfl (Sub.cons rfl (Sub.cons rfl Sub.nil))))))) ?_
    refine W.ite rfl (fun c38 => ?_) (fun c38 => ?_)
    ·refine W.region ?_
     refine G.r (Runs.move rfl) ?_
     refine G.r (Runs.move rfl) ?_
     refine G.e (Eff.call call25 rfl rfl (Next_ok (by repeat (first | exact AtF.head _ _ | apply AtF.tail)) (Sl.fit (hl _) Fit.m) (by omega) (by omega))) ?_
     rintro _ _ ⟨_, _, ⟨x11, i12, rfl, hx11, hi12, rfl⟩, rfl, rfl⟩
     show G Try.prog κ _ _ _ _ ([(41, I64 (x11)), (40, .pointer (some ⟨b, 0, none⟩)), (39, I64 (n)), (38, .bool (decide (x9 = 39))), (8, I64 (Int.tmod (x3 + 1) (if 2 < n then n else 2))), (7, I64 (x3)), (0, .pointer (some ⟨b, 0, none⟩)), (1, I64 (n)), (5, .slice a es.length c), (6, I64 (m))] : Env) (vc 150 (.slice a es.length c) (es) :: blk b [lv, I64 (i12)] 129 :: I)
     refine G.r (Runs.add rfl rfl (by unfold InR; omega)) ?_
     refine G.r (Runs.sub rfl rfl (by unfold InR; omega)) ?_
     refine G.r (Runs.assign rfl) ?_
     refine G.nt ?_
     refine W.region ?_
     refine G.r (Runs.move rfl) ?_
     refine G.r (Runs.move rfl) ?_
     refine G.r (Runs.move rfl) ?_
     refine G.r (Runs.build (cells := [_, _]) ty150 Try.underlying150 pl150 rfl rfl) ?_
     refine G.e (Eff.bs (α := Pt) (cs := [_, _]) (xs := [⟨(n + x11) - 1, Int.tmod (x3 + 1) (if 2 < n then n else 2)⟩]) Try.underlying97 ty150 rfl rfl (by decide) (by decide) rfl rfl rfl rfl) ?_
     rintro _ _ ⟨ad13, rfl, rfl⟩
     refine G.e (Eff.app (α := Pt) (e := 150) (xs := es) (ys := ([⟨(n + x11) - 1, Int.tmod (x3 + 1) (if 2 < n then n else 2)⟩] : List Pt)) Try.underlying97 ty150 rfl rfl rfl (by repeat (first | exact List.mem_cons_self | apply List.mem_cons_of_mem)) Sl.o (by simp only [List.length_cons, List.length_nil]; omega) (by decide) rfl (fun _ _ => (by repeat (first | exact At.head _ _ _ | apply At.tail)))) ?_
     rintro _ _ ⟨ad14, cp15, rfl, rfl⟩
     refine G.r (Runs.assign rfl) ?_
     refine G.nil ?_
     refine V.block_normal ?_
     refine V.then ?_
     refine W.sub (L' := [(5, _), (0, _), (1, _), (6, _)]) (Sub.cons rfl (Sub.cons rfl (Sub.cons rfl (Sub.cons rfl Sub.nil)))) ?_
     refine W.region ?_
     refine G.r (Runs.move rfl) ?_
     refine G.r (Runs.sub rfl rfl (by unfold InR; omega)) ?_
     refine G.r (Runs.assign rfl) ?_
     refine G.nil ?_
     exact V.next ((m - 1), (i12), (ad14), (cp15), (es ++ ([⟨(n + x11) - 1, Int.tmod (x3 + 1) (if 2 < n then n else 2)⟩] : List Pt))) (show (0 ≤ (m - 1 : Int) ∧ (m - 1 : Int) + (es ++ ([⟨(n + x11) - 1, Int.tmod (x3 + 1) (if 2 < n then n else 2)⟩] : List Pt) : List Pt).length ≤ 16) ∧ (0 ≤ (i12 : Int)) from ⟨(by simp only [List.length_append, List.length_cons, List.length_nil]; omega), (by omega)⟩) (show (m - 1 : Int).toNat < m.toNat from (by omega)) (Sub.cons rfl (Sub.cons rfl (Sub.cons (lookV rfl (by first | rfl | simp)) (Sub.cons lookO Sub.nil)))) (show Fit κ _ (vc 150 (.slice (ad14) (es ++ ([⟨(n + x11) - 1, Int.tmod (x3 + 1) (if 2 < n then n else 2)⟩] : List Pt)).length (cp15)) ((es ++ ([⟨(n + x11) - 1, Int.tmod (x3 + 1) (if 2 < n then n else 2)⟩] : List Pt))) :: blk b [lv, I64 ((i12))] 129 :: I) from Fit.sub)
    ·refine W.skip ?_
     refine V.then ?_
     refine W.region ?_
     refine G.r (Runs.move rfl) ?_
     refine G.r (Runs.move rfl) ?_
     refine G.r (Runs.move rfl) ?_
     refine G.r (Runs.build (cells := [_, _]) ty150 Try.underlying150 pl150 rfl rfl) ?_
     refine G.e (Eff.bs (α := Pt) (cs := [_, _]) (xs := [⟨x3, Int.tmod (x3 + 1) (if 2 < n then n else 2)⟩]) Try.underlying97 ty150 rfl rfl (by decide) (by decide) rfl rfl rfl rfl) ?_
     rintro _ _ ⟨ad16, rfl, rfl⟩
     refine G.e (Eff.app (α := Pt) (e := 150) (xs := es) (ys := ([⟨x3, Int.tmod (x3 + 1) (if 2 < n then n else 2)⟩] : List Pt)) Try.underlying97 ty150 rfl rfl rfl (by repeat (first | exact List.mem_cons_self | apply List.mem_cons_of_mem)) Sl.o (by simp only [List.length_cons, List.length_nil]; omega) (by decide) rfl (fun _ _ => (by repeat (first | exact At.head _ _ _ | apply At.tail)))) ?_
     rintro _ _ ⟨ad17, cp18, rfl, rfl⟩
     refine G.r (Runs.assign rfl) ?_
     refine G.nil ?_
     refine V.block_normal ?_
     refine V.then ?_
     refine W.sub (L' := [(5, _), (0, _), (1, _), (6, _)]) (Sub.cons rfl (Sub.cons rfl (Sub.cons rfl (Sub.cons rfl Sub.nil)))) ?_
     refine W.region ?_
     refine G.r (Runs.move rfl) ?_
     refine G.r (Runs.sub rfl rfl (by unfold InR; omega)) ?_
     refine G.r (Runs.assign rfl) ?_
     refine G.nil ?_
     exact V.next ((m - 1), (i10), (ad17), (cp18), (es ++ ([⟨x3, Int.tmod (x3 + 1) (if 2 < n then n else 2)⟩] : List Pt))) (show (0 ≤ (m - 1 : Int) ∧ (m - 1 : Int) + (es ++ ([⟨x3, Int.tmod (x3 + 1) (if 2 < n then n else 2)⟩] : List Pt) : List Pt).length ≤ 16) ∧ (0 ≤ (i10 : Int)) from ⟨(by simp only [List.length_append, List.length_cons, List.length_nil]; omega), (by omega)⟩) (show (m - 1 : Int).toNat < m.toNat from (by omega)) (Sub.cons rfl (Sub.cons rfl (Sub.cons (lookV rfl (by first | rfl | simp)) (Sub.cons lookO Sub.nil)))) (show Fit κ _ (vc 150 (.slice (ad17) (es ++ ([⟨x3, Int.tmod (x3 + 1) (if 2 < n then n else 2)⟩] : List Pt)).length (cp18)) ((es ++ ([⟨x3, Int.tmod (x3 + 1) (if 2 < n then n else 2)⟩] : List Pt))) :: blk b [lv, I64 ((i10))] 129 :: I) from Fit.sub)
   ·refine W.skip ?_
    refine V.then ?_
    refine W.seq ?_
    refine W.sr ?_
    refine G.r (Runs.move rfl) ?_
    refine G.e (Eff.call call25 rfl rfl (Next_ok (by repeat (first | exact AtF.head _ _ | apply AtF.tail)) (Sl.fit (hl _) Fit.m) (by omega) (by omega))) ?_
    rintro _ _ ⟨_, _, ⟨x19, i20, rfl, hx19, hi20, rfl⟩, rfl, rfl⟩
    show G Try.prog κ _ _ _ _ ([(37, I64 (x19)), (36, .pointer (some ⟨b, 0, none⟩)), (30, .bool (decide (0 < x7))), (8, I64 (x5)), (7, I64 (x3)), (0, .pointer (some ⟨b, 0, none⟩)), (1, I64 (n)), (5, .slice a es.length c), (6, I64 (m))] : Env) (vc 150 (.slice a es.length c) (es) :: blk b [lv, I64 (i20)] 129 :: I)
    refine G.r (Runs.eql rfl rfl) ?_
    refine G.nt ?_
    refine W.ite rfl (fun c38 => ?_) (fun c38 => ?_)
    ·refine W.region ?_
     refine G.r (Runs.move rfl) ?_
     refine G.r (Runs.move rfl) ?_
     refine G.e (Eff.call call25 rfl rfl (Next_ok (by repeat (first | exact AtF.head _ _ | apply AtF.tail)) (Sl.fit (hl _) Fit.m) (by omega) (by omega))) ?_
     rintro _ _ ⟨_, _, ⟨x21, i22, rfl, hx21, hi22, rfl⟩, rfl, rfl⟩
     show G Try.prog κ _ _ _ _ ([(41, I64 (x21)), (40, .pointer (some ⟨b, 0, none⟩)), (39, I64 (n)), (38, .bool (decide (x19 = 39))), (37, I64 (x19)), (36, .pointer (some ⟨b, 0, none⟩)), (30, .bool (decide (0 < x7))), (8, I64 (x5)), (7, I64 (x3)), (0, .pointer (some ⟨b, 0, none⟩)), (1, I64 (n)), (5, .slice a es.length c), (6, I64 (m))] : Env) (vc 150 (.slice a es.length c) (es) :: blk b [lv, I64 (i22)] 129 :: I)
     refine G.r (Runs.add rfl rfl (by unfold InR; omega)) ?_
     refine G.r (Runs.sub rfl rfl (by unfold InR; omega)) ?_
     refine G.r (Runs.assign rfl) ?_
     refine G.nt ?_
     refine W.sub (L' := [(7, _), (8, _), (0, _), (1, _), (5, _), (6, _)]) (Sub.cons rfl (Sub.cons rfl (Sub.cons rfl (Sub.cons rfl (Sub.cons rfl (Sub.cons rfl Sub.nil)))))) ?_
     refine W.region ?_
     refine G.r (Runs.move rfl) ?_
     refine G.r (Runs.move rfl) ?_
     refine G.r (Runs.move rfl) ?_
     refine G.r (Runs.build (cells := [_, _]) ty150 Try.underlying150 pl150 rfl rfl) ?_
     refine G.e (Eff.bs (α := Pt) (cs := [_, _]) (xs := [⟨(n + x21) - 1, x5⟩]) Try.underlying97 ty150 rfl rfl (by decide) (by decide) rfl rfl rfl rfl) ?_
     rintro _ _ ⟨ad23, rfl, rfl⟩
     refine G.e (Eff.app (α := Pt) (e := 150) (xs := es) (ys := ([⟨(n + x21) - 1, x5⟩] : List Pt)) Try.underlying97 ty150 rfl rfl rfl (by repeat (first | exact List.mem_cons_self | apply List.mem_cons_of_mem)) Sl.o (by simp only [List.length_cons, List.length_nil]; omega) (by decide) rfl (fun _ _ => (by repeat (first | exact At.head _ _ _ | apply At.tail)))) ?_
     rintro _ _ ⟨ad24, cp25, rfl, rfl⟩
     refine G.r (Runs.assign rfl) ?_
     refine G.nil ?_
     refine V.block_normal ?_
     refine V.then ?_
     refine W.region ?_
     refine G.r (Runs.move rfl) ?_
     refine G.r (Runs.sub rfl rfl (by unfold InR; omega)) ?_
     refine G.r (Runs.assign rfl) ?_
     refine G.nil ?_
     exact V.next ((m - 1), (i22), (ad24), (cp25), (es ++ ([⟨(n + x21) - 1, x5⟩] : List Pt))) (show (0 ≤ (m - 1 : Int) ∧ (m - 1 : Int) + (es ++ ([⟨(n + x21) - 1, x5⟩] : List Pt) : List Pt).length ≤ 16) ∧ (0 ≤ (i22 : Int)) from ⟨(by simp only [List.length_append, List.length_cons, List.length_nil]; omega), (by omega)⟩) (show (m - 1 : Int).toNat < m.toNat from (by omega)) (Sub.cons rfl (Sub.cons rfl (Sub.cons (lookV rfl (by first | rfl | simp)) (Sub.cons lookO Sub.nil)))) (show Fit κ _ (vc 150 (.slice (ad24) (es ++ ([⟨(n + x21) - 1, x5⟩] : List Pt)).length (cp25)) ((es ++ ([⟨(n + x21) - 1, x5⟩] : List Pt))) :: blk b [lv, I64 ((i22))] 129 :: I) from Fit.sub)
    ·refine W.skip ?_
     refine V.then ?_
     refine W.region ?_
     refine G.r (Runs.move rfl) ?_
     refine G.r (Runs.move rfl) ?_
     refine G.r (Runs.move rfl) ?_
     refine G.r (Runs.build (cells := [_, _]) ty150 Try.underlying150 pl150 rfl rfl) ?_
     refine G.e (Eff.bs (α := Pt) (cs := [_, _]) (xs := [⟨x3, x5⟩]) Try.underlying97 ty150 rfl rfl (by decide) (by decide) rfl rfl rfl rfl) ?_
     rintro _ _ ⟨ad26, rfl, rfl⟩
     refine G.e (Eff.app (α := Pt) (e := 150) (xs := es) (ys := ([⟨x3, x5⟩] : List Pt)) Try.underlying97 ty150 rfl rfl rfl (by repeat (first | exact List.mem_cons_self | apply List.mem_cons_of_mem)) Sl.o (by simp only [List.length_cons, List.length_nil]; omega) (by decide) rfl (fun _ _ => (by repeat (first | exact At.head _ _ _ | apply At.tail)))) ?_
     rintro _ _ ⟨ad27, cp28, rfl, rfl⟩
     refine G.r (Runs.assign rfl) ?_
     refine G.nil ?_
     refine V.block_normal ?_
     refine V.then ?_
     refine W.sub (L' := [(5, _), (0, _), (1, _), (6, _)]) (Sub.cons rfl (Sub.cons rfl (Sub.cons rfl (Sub.cons rfl Sub.nil)))) ?_
     refine W.region ?_
     refine G.r (Runs.move rfl) ?_
     refine G.r (Runs.sub rfl rfl (by unfold InR; omega)) ?_
     refine G.r (Runs.assign rfl) ?_
     refine G.nil ?_
     exact V.next ((m - 1), (i20), (ad27), (cp28), (es ++ ([⟨x3, x5⟩] : List Pt))) (show (0 ≤ (m - 1 : Int) ∧ (m - 1 : Int) + (es ++ ([⟨x3, x5⟩] : List Pt) : List Pt).length ≤ 16) ∧ (0 ≤ (i20 : Int)) from ⟨(by simp only [List.length_append, List.length_cons, List.length_nil]; omega), (by omega)⟩) (show (m - 1 : Int).toNat < m.toNat from (by omega)) (Sub.cons rfl (Sub.cons rfl (Sub.cons (lookV rfl (by first | rfl | simp)) (Sub.cons lookO Sub.nil)))) (show Fit κ _ (vc 150 (.slice (ad27) (es ++ ([⟨x3, x5⟩] : List Pt)).length (cp28)) ((es ++ ([⟨x3, x5⟩] : List Pt))) :: blk b [lv, I64 ((i20))] 129 :: I) from Fit.sub)
  ·refine G.po ?_
   refine G.po ?_
   refine G.po ?_
   refine G.r (Runs.pickf rfl rfl) ?_
   refine G.nt ?_
   refine W.sub (L' := [(30, _), (8, _), (7, _), (0, _), (1, _), (5, _), (6, _)]) (Sub.cons rfl (Sub.cons rfl (Sub.cons rfl (Sub.cons rfl (Sub.cons rfl (Sub.cons rfl (Sub.cons rfl Sub.nil))))))) ?_
   refine W.no rfl ?_
   refine W.skip ?_
   refine V.then ?_
   refine W.seq ?_
   refine W.sr ?_
   refine G.r (Runs.move rfl) ?_
   refine G.e (Eff.call call25 rfl rfl (Next_ok (by repeat (first | exact AtF.head _ _ | apply AtF.tail)) (Sl.fit (hl _) Fit.m) (by omega) (by omega))) ?_
   rintro _ _ ⟨_, _, ⟨x29, i30, rfl, hx29, hi30, rfl⟩, rfl, rfl⟩
   show G Try.prog κ _ _ _ _ ([(37, I64 (x29)), (36, .pointer (some ⟨b, 0, none⟩)), (30, .bool false), (8, I64 (x5)), (7, I64 (x3)), (0, .pointer (some ⟨b, 0, none⟩)), (1, I64 (n)), (5, .slice a es.length c), (6, I64 (m))] : Env) (vc 150 (.slice a es.length c) (es) :: blk b [lv, I64 (i30)] 129 :: I)
   refine G.r (Runs.eql rfl rfl) ?_
   refine G.nt ?_
   refine W.ite rfl (fun c38 => ?_) (fun c38 => ?_)
   ·refine W.region ?_
    refine G.r (Runs.move rfl) ?_
    refine G.r (Runs.move rfl) ?_
    refine G.e (Eff.call call25 rfl rfl (Next_ok (by repeat (first | exact AtF.head _ _ | apply AtF.tail)) (Sl.fit (hl _) Fit.m) (by omega) (by omega))) ?_
    rintro _ _ ⟨_, _, ⟨x31, i32, rfl, hx31, hi32, rfl⟩, rfl, rfl⟩
    show G Try.prog κ _ _ _ _ ([(41, I64 (x31)), (40, .pointer (some ⟨b, 0, none⟩)), (39, I64 (n)), (38, .bool (decide (x29 = 39))), (37, I64 (x29)), (36, .pointer (some ⟨b, 0, none⟩)), (30, .bool false), (8, I64 (x5)), (7, I64 (x3)), (0, .pointer (some ⟨b, 0, none⟩)), (1, I64 (n)), (5, .slice a es.length c), (6, I64 (m))] : Env) (vc 150 (.slice a es.length c) (es) :: blk b [lv, I64 (i32)] 129 :: I)
    refine G.r (Runs.add rfl rfl (by unfold InR; omega)) ?_
    refine G.r (Runs.sub rfl rfl (by unfold InR; omega)) ?_
    refine G.r (Runs.assign rfl) ?_
    refine G.nt ?_
    refine W.sub (L' := [(7, _), (8, _), (0, _), (1, _), (5, _), (6, _)]) (Sub.cons rfl (Sub.cons rfl (Sub.cons rfl (Sub.cons rfl (Sub.cons rfl (Sub.cons rfl Sub.nil)))))) ?_
    refine W.region ?_
    refine G.r (Runs.move rfl) ?_
    refine G.r (Runs.move rfl) ?_
    refine G.r (Runs.move rfl) ?_
    refine G.r (Runs.build (cells := [_, _]) ty150 Try.underlying150 pl150 rfl rfl) ?_
    refine G.e (Eff.bs (α := Pt) (cs := [_, _]) (xs := [⟨(n + x31) - 1, x5⟩]) Try.underlying97 ty150 rfl rfl (by decide) (by decide) rfl rfl rfl rfl) ?_
    rintro _ _ ⟨ad33, rfl, rfl⟩
    refine G.e (Eff.app (α := Pt) (e := 150) (xs := es) (ys := ([⟨(n + x31) - 1, x5⟩] : List Pt)) Try.underlying97 ty150 rfl rfl rfl (by repeat (first | exact List.mem_cons_self | apply List.mem_cons_of_mem)) Sl.o (by simp only [List.length_cons, List.length_nil]; omega) (by decide) rfl (fun _ _ => (by repeat (first | exact At.head _ _ _ | apply At.tail)))) ?_
    rintro _ _ ⟨ad34, cp35, rfl, rfl⟩
    refine G.r (Runs.assign rfl) ?_
    refine G.nil ?_
    refine V.block_normal ?_
    refine V.then ?_
    refine W.region ?_
    refine G.r (Runs.move rfl) ?_
    refine G.r (Runs.sub rfl rfl (by unfold InR; omega)) ?_
    refine G.r (Runs.assign rfl) ?_
    refine G.nil ?_
    exact V.next ((m - 1), (i32), (ad34), (cp35), (es ++ ([⟨(n + x31) - 1, x5⟩] : List Pt))) (show (0 ≤ (m - 1 : Int) ∧ (m - 1 : Int) + (es ++ ([⟨(n + x31) - 1, x5⟩] : List Pt) : List Pt).length ≤ 16) ∧ (0 ≤ (i32 : Int)) from ⟨(by simp only [List.length_append, List.length_cons, List.length_nil]; omega), (by omega)⟩) (show (m - 1 : Int).toNat < m.toNat from (by omega)) (Sub.cons rfl (Sub.cons rfl (Sub.cons (lookV rfl (by first | rfl | simp)) (Sub.cons lookO Sub.nil)))) (show Fit κ _ (vc 150 (.slice (ad34) (es ++ ([⟨(n + x31) - 1, x5⟩] : List Pt)).length (cp35)) ((es ++ ([⟨(n + x31) - 1, x5⟩] : List Pt))) :: blk b [lv, I64 ((i32))] 129 :: I) from Fit.sub)
   ·refine W.skip ?_
    refine V.then ?_
    refine W.region ?_
    refine G.r (Runs.move rfl) ?_
    refine G.r (Runs.move rfl) ?_
    refine G.r (Runs.move rfl) ?_
    refine G.r (Runs.build (cells := [_, _]) ty150 Try.underlying150 pl150 rfl rfl) ?_
    refine G.e (Eff.bs (α := Pt) (cs := [_, _]) (xs := [⟨x3, x5⟩]) Try.underlying97 ty150 rfl rfl (by decide) (by decide) rfl rfl rfl rfl) ?_
    rintro _ _ ⟨ad36, rfl, rfl⟩
    refine G.e (Eff.app (α := Pt) (e := 150) (xs := es) (ys := ([⟨x3, x5⟩] : List Pt)) Try.underlying97 ty150 rfl rfl rfl (by repeat (first | exact List.mem_cons_self | apply List.mem_cons_of_mem)) Sl.o (by simp only [List.length_cons, List.length_nil]; omega) (by decide) rfl (fun _ _ => (by repeat (first | exact At.head _ _ _ | apply At.tail)))) ?_
    rintro _ _ ⟨ad37, cp38, rfl, rfl⟩
    refine G.r (Runs.assign rfl) ?_
    refine G.nil ?_
    refine V.block_normal ?_
    refine V.then ?_
    refine W.sub (L' := [(5, _), (0, _), (1, _), (6, _)]) (Sub.cons rfl (Sub.cons rfl (Sub.cons rfl (Sub.cons rfl Sub.nil)))) ?_
    refine W.region ?_
    refine G.r (Runs.move rfl) ?_
    refine G.r (Runs.sub rfl rfl (by unfold InR; omega)) ?_
    refine G.r (Runs.assign rfl) ?_
    refine G.nil ?_
    exact V.next ((m - 1), (i30), (ad37), (cp38), (es ++ ([⟨x3, x5⟩] : List Pt))) (show (0 ≤ (m - 1 : Int) ∧ (m - 1 : Int) + (es ++ ([⟨x3, x5⟩] : List Pt) : List Pt).length ≤ 16) ∧ (0 ≤ (i30 : Int)) from ⟨(by simp only [List.length_append, List.length_cons, List.length_nil]; omega), (by omega)⟩) (show (m - 1 : Int).toNat < m.toNat from (by omega)) (Sub.cons rfl (Sub.cons rfl (Sub.cons (lookV rfl (by first | rfl | simp)) (Sub.cons lookO Sub.nil)))) (show Fit κ _ (vc 150 (.slice (ad37) (es ++ ([⟨x3, x5⟩] : List Pt)).length (cp38)) ((es ++ ([⟨x3, x5⟩] : List Pt))) :: blk b [lv, I64 ((i30))] 129 :: I) from Fit.sub)
 ·refine W.exit ?_
  refine V.then_exit ?_
  refine V.then_exit ?_
  refine V.block_hit ?_
  refine V.then ?_
  refine W.sr ?_
  refine G.r (Runs.move rfl) ?_
  refine G.r (Runs.assign rfl) ?_
  refine G.nt ?_
  refine W.ret ?_
  exact V.ret1 rfl rfl (vc 150 (.slice a es.length c) (es) :: blk b [lv, I64 (iqa)] 129 :: I) Fit.sub ⟨(a, c, es, iqa), ⟨⟨rfl, by show es.length ≤ 16; omega⟩, hiqa⟩, rfl⟩

theorem Raw_at {κ : Ctx} {I : List Item} {F : Item → List Item} {b : Nat} {lv : Value} {ls : List Int} {i : Int} {n : Int} (hat : AtF I (deck b lv i) F) (hl : ∀ q, Sl κ (F (deck b lv q)) lv ls) (h0 : 0 ≤ i)  (hn : 0 ≤ n ∧ n ≤ 100) :
    CallS Try.prog κ 70 [.pointer (some ⟨b, 0, none⟩), I64 (n)] I fun r J => ∃ y : (Option Addr) × Nat × (List Pt) × Int, ((r = .slice y.1 y.2.2.1.length y.2.1 ∧ y.2.2.1.length ≤ 16) ∧ 0 ≤ y.2.2.2) ∧ J = [vc 150 (.slice y.1 y.2.2.1.length y.2.1) y.2.2.1] ++ F (deck b lv y.2.2.2) :=
  CallS.at (Post := fun r (y : (Option Addr) × Nat × (List Pt) × Int) => (r = .slice y.1 y.2.2.1.length y.2.1 ∧ y.2.2.1.length ≤ 16) ∧ 0 ≤ y.2.2.2) (Z := fun y : (Option Addr) × Nat × (List Pt) × Int => [vc 150 (.slice y.1 y.2.2.1.length y.2.1) y.2.2.1]) (X := fun y : (Option Addr) × Nat × (List Pt) × Int => deck b lv y.2.2.2) hat fun J _ hF => Raw_base (fun q => (hl q).fit (hF _)) h0  hn

end Go.Sl
