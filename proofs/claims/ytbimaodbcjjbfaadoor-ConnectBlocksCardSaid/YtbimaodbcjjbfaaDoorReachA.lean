/- A part of the proofs of statements of this seat: contracts of functions, and the plain laws that they lean on. No conditions. -/
import Derived.Test.YtbimaodbcjjbfaaDoorMaskB
import Derived.Test.YtbimaodbcjjbfaaDoorGraphH5
import Derived.Test.YtbimaodbcjjbfaaDoorGroups
import Derived.Test.YtbimaodbcjjbfaaDoorTake
import Derived.Test.YtbimaodbcjjbfaaDoorGraphL5
import Derived.Test.YtbimaodbcjjbfaaDoorLookA
import Derived.Test.YtbimaodbcjjbfaaDoorGraphK5
namespace Go.Sl
open Go.Proofs
set_option linter.unusedVariables false
set_option linter.unusedSimpArgs false
set_option maxRecDepth 4000
theorem all_rows {nd : Int} {es : List Pt} (h : 0 ≤ nd ∧ nd ≤ 64) (i : Nat) (hi : (allB nd).getLsbD i = true) : i < (rowsB nd es).length := by
  have h64 : i < 64 := Classical.byContradiction fun hn => by rw [BitVec.getLsbD_of_ge _ _ (by omega)] at hi; cases hi
  rw [getLsb_allB h.1 h.2 h64, decide_eq_true_eq] at hi
  rw [rowsB_len]; omega
theorem groupsL_pos {rows : List (BitVec 64)} {w left : BitVec 64} {n : Nat} (h : left ≠ 0#64) (hn : 0 < n) : groupsL rows w n left = reachB rows (left &&& (-left)) w :: groupsL rows w (n - 1) (left &&& ~~~(reachB rows (left &&& (-left)) w)) := by
  obtain ⟨k, rfl⟩ : ∃ k, n = k + 1 := ⟨n - 1, by omega⟩
  exact groupsL_succ h k

theorem MReach_ok {κ : Ctx} {I : List Item} {va : Value} {rows : List (BitVec 64)} (hl : Sl κ I va rows) (f w : BitVec 64) (hw : ∀ i : Nat, w.getLsbD i = true → i < rows.length) (hT : TabRd κ I 0 tzCells) :
    CallS Tryd.prog κ 74 [va, U64 (f), U64 (w)] I (fun r J => r = U64 (reachB rows f w) ∧ I = J) := by
 refine CallS.enter (L := [(0, va), (1, U64 (f)), (2, U64 (w))]) Tryd.func74 rfl rfl rfl rfl ?_
 refine W.sr ?_
 refine G.r (Runs.assign rfl) ?_
 refine G.nt ?_
 refine W.sr ?_
 refine G.r (Runs.move rfl) ?_
 refine G.r (Runs.move rfl) ?_
 refine G.r (Runs.andB (a := f) (b := w) rfl rfl) ?_
 refine G.r (Runs.assign rfl) ?_
 refine G.nt ?_
 refine W.seq ?_
 refine W.sr ?_
 refine G.r (Runs.move rfl) ?_
 refine G.r (Runs.assign rfl) ?_
 refine G.nt ?_
 refine W.block ?_
 refine W.loop (σ := (BitVec 64) × (BitVec 64)) (fun s => ([(0, va), (1, U64 (s.2)), (2, U64 (w)), (7, U64 (s.1))] : Env)) (fun s => I) (fun s => (ReachI rows f w s.1 s.2)) (fun s => reachM w s.1 s.2) (f &&& w, f &&& w) (show (ReachI rows f w (f &&& w : BitVec 64) (f &&& w : BitVec 64)) from .begin) (Sub.cons rfl (Sub.cons (lookV rfl (by first | rfl | simp)) (Sub.cons rfl (Sub.cons (lookV rfl (by first | rfl | simp)) Sub.nil)))) (show Fit κ _ (I) from Fit.sub) ?_
 rintro ⟨front, frm⟩ hp
 have hR : (ReachI rows f w front frm) := hp
 show W Tryd.prog κ 37 _ _ ([(0, va), (1, U64 (frm)), (2, U64 (w)), (7, U64 (front))] : Env) (I)
 refine W.seq ?_
 refine W.sr ?_
 refine G.r (Runs.move rfl) ?_
 refine G.r (Runs.neB (a := front) (b := 0#64) rfl rfl) ?_
 refine G.nt ?_
 refine W.ite rfl (fun c15 => ?_) (fun c15 => ?_)
 ·refine W.skip ?_
  refine V.then ?_
  refine W.block ?_
  refine W.sr ?_
  refine G.r (Runs.move rfl) ?_
  refine G.e (Eff.call call125 rfl rfl (Least_ok front (TabRd.fit hT Fit.m))) ?_
  rintro _ _ ⟨_, _, ⟨rfl, rfl⟩, rfl, rfl⟩
  refine G.r (Runs.assign rfl) ?_
  have htz := tzB_range c15
  have hbd := hw _ (hR.sub _ (hR.fsub _ htz.2.2))
  refine G.nt ?_
  refine W.sr ?_
  refine G.r (Runs.move rfl) ?_
  refine G.r (Runs.move rfl) ?_
  refine G.r (Runs.subB (a := front) (b := 1#64) rfl rfl) ?_
  refine G.r (Runs.andB (a := front) (b := front - (1#64)) rfl rfl) ?_
  refine G.r (Runs.assign rfl) ?_
  refine G.nt ?_
  refine W.sub (L' := [(7, _), (8, _), (0, _), (1, _), (2, _)]) (Sub.cons rfl (Sub.cons rfl (Sub.cons rfl (Sub.cons rfl (Sub.cons rfl Sub.nil))))) ?_
  refine W.sr ?_
  refine G.r (Runs.move rfl) ?_
  refine G.r (Runs.move rfl) ?_
  refine G.r (Runs.idx (α := (BitVec 64)) (xs := rows) Tryd.underlying106 ty99 rfl rfl (Sl.f hl) (by omega) (by omega)) ?_
  refine G.r (Runs.getf0 (α := (BitVec 64)) (xs := rows) (u := U64 ((at_ rows (tzB front)))) ty99 rfl (Sl.f hl) (by omega) (by omega) rfl) ?_
  refine G.r (Runs.move rfl) ?_
  refine G.r (Runs.andB (a := (at_ rows (tzB front))) (b := w) rfl rfl) ?_
  refine G.r (Runs.move rfl) ?_
  refine G.r (Runs.andNotB (a := (at_ rows (tzB front)) &&& w) (b := frm) rfl rfl) ?_
  refine G.r (Runs.assign rfl) ?_
  refine G.nt ?_
  refine W.sub (L' := [(9, _), (7, _), (0, _), (1, _), (2, _)]) (Sub.cons rfl (Sub.cons rfl (Sub.cons rfl (Sub.cons rfl (Sub.cons rfl Sub.nil))))) ?_
  refine W.sr ?_
  refine G.r (Runs.move rfl) ?_
  refine G.r (Runs.move rfl) ?_
  refine G.r (Runs.orB (a := frm) (b := ((at_ rows (tzB front)) &&& w) &&& ~~~frm) rfl rfl) ?_
  refine G.r (Runs.assign rfl) ?_
  refine G.nt ?_
  refine W.region ?_
  refine G.r (Runs.move rfl) ?_
  refine G.r (Runs.move rfl) ?_
  refine G.r (Runs.orB (a := front &&& (front - (1#64))) (b := ((at_ rows (tzB front)) &&& w) &&& ~~~frm) rfl rfl) ?_
  refine G.r (Runs.assign rfl) ?_
  refine G.nil ?_
  refine V.block_normal ?_
  exact V.next (((front &&& (front - (1#64))) ||| (((at_ rows (tzB front)) &&& w) &&& ~~~frm)), (frm ||| (((at_ rows (tzB front)) &&& w) &&& ~~~frm))) (show (ReachI rows f w ((front &&& (front - (1#64))) ||| (((at_ rows (tzB front)) &&& w) &&& ~~~frm) : BitVec 64) (frm ||| (((at_ rows (tzB front)) &&& w) &&& ~~~frm) : BitVec 64)) from (hR.step c15).1) (show reachM w ((front &&& (front - (1#64))) ||| (((at_ rows (tzB front)) &&& w) &&& ~~~frm) : BitVec 64) (frm ||| (((at_ rows (tzB front)) &&& w) &&& ~~~frm) : BitVec 64) < reachM w front frm from (hR.step c15).2) (Sub.cons rfl (Sub.cons (lookV rfl (by first | rfl | simp)) (Sub.cons rfl (Sub.cons (lookV rfl (by first | rfl | simp)) Sub.nil)))) (show Fit κ _ (I) from Fit.sub)
 ·refine W.exit ?_
  refine V.then_exit ?_
  refine V.then_exit ?_
  refine V.block_hit ?_
  refine V.then ?_
  refine W.sr ?_
  refine G.r (Runs.move rfl) ?_
  refine G.r (Runs.assign rfl) ?_
  refine G.nt ?_
  refine W.ret ?_
  have hz : front = 0#64 := Classical.not_not.1 c15
  subst hz
  exact V.ret1 rfl rfl (I) Fit.m ⟨by rw [hR.eq], rfl⟩

def compsG (nd : Int) (es : List Pt) : List (List Int) := if checkG nd es ≠ 0 then [] else (groupsB (rowsB nd es) (allB nd)).map listB

theorem Groups_ok {κ : Ctx} {I : List Item} {nd : Int} {va : Value} {es : List Pt} (hl : Sl κ I va es) (w : BitVec 64) (hw : ∀ i : Nat, w.getLsbD i = true → i < (rowsB nd es).length) (hT : TabRd κ I 0 tzCells) :
    CallS Tryd.prog κ 79 [.agg #[I64 (nd), va], U64 (w)] I (fun r J => ∃ a c rs, r = .slice a rs.length c ∧ rs.map RowG.xs = (groupsB (rowsB nd es) w).map listB ∧ J = vc 22 (.slice a rs.length c) rs :: (ownR 3 rs ++ I)) := by
 refine CallS.enter (L := [(0, .agg #[I64 (nd), va]), (1, U64 (w))]) Tryd.func79 rfl rfl rfl rfl ?_
 refine W.sr ?_
 refine G.e (Eff.box (cs := [_, _]) rfl rfl rfl) ?_
 rintro _ _ ⟨b1, rfl, rfl⟩
 refine G.r (Runs.assign rfl) ?_
 refine G.nt ?_
 refine W.sr ?_
 refine G.r (Runs.lds (vs := [_, _]) ty25) ?_
 refine G.e (Eff.call call75 rfl rfl (MRows_ok (nd := nd) (Sl.f hl))) ?_
 rintro _ _ ⟨_, _, ⟨ad2, cp3, rfl, rfl⟩, rfl, rfl⟩
 have hrwad2 := rowsB_len nd es
 refine G.r (Runs.assign rfl) ?_
 refine G.nt ?_
 refine W.sr ?_
 refine G.r (Runs.assign rfl) ?_
 refine G.nt ?_
 refine W.seq ?_
 refine W.sr ?_
 refine G.r (Runs.move rfl) ?_
 refine G.r (Runs.assign rfl) ?_
 refine G.nt ?_
 refine W.block ?_
 refine W.loop (σ := (BitVec 64) × (Option Addr) × Nat × (List (RowG Int)) × (List (BitVec 64)) × Nat) (fun s => ([(1, U64 (w)), (5, .slice ad2 (rowsB nd es).length cp3), (6, .slice s.2.1 s.2.2.2.1.length s.2.2.1), (7, U64 (s.1))] : Env)) (fun s => vc 22 (.slice s.2.1 s.2.2.2.1.length s.2.2.1) (s.2.2.2.1) :: vc 99 (.slice ad2 (rowsB nd es).length cp3) (rowsB nd es) :: blk b1 [I64 (nd), va] 25 :: (ownR 3 s.2.2.2.1 ++ I)) (fun s => (groupsB (rowsB nd es) w = s.2.2.2.2.1 ++ groupsL (rowsB nd es) w s.2.2.2.2.2 s.1) ∧ (s.2.2.2.1.map RowG.xs = s.2.2.2.2.1.map listB) ∧ ((listN s.1).length ≤ s.2.2.2.2.2 ∧ s.2.2.2.2.2 + s.2.2.2.2.1.length ≤ 64) ∧ (∀ i : Nat, s.1.getLsbD i = true → w.getLsbD i = true)) (fun s => s.2.2.2.2.2) (w, none, 0, [], [], 64) (show (groupsB (rowsB nd es) w = ([] : List (BitVec 64)) ++ groupsL (rowsB nd es) w (64 : Nat) (w : BitVec 64)) ∧ (([] : List (RowG Int)).map RowG.xs = ([] : List (BitVec 64)).map listB) ∧ ((listN (w : BitVec 64)).length ≤ (64 : Nat) ∧ (64 : Nat) + ([] : List (BitVec 64)).length ≤ 64) ∧ (∀ i : Nat, (w : BitVec 64).getLsbD i = true → w.getLsbD i = true) from ⟨rfl, rfl, ⟨listN_len _, by simp⟩, (fun _ h => h)⟩) (Sub.cons rfl (Sub.cons rfl (Sub.cons (lookV rfl (by first | rfl | simp)) (Sub.cons (lookV rfl (by first | rfl | simp)) Sub.nil)))) (show Fit κ _ (vc 22 (.slice (none) ([]).length (0)) (([])) :: vc 99 (.slice ad2 (rowsB nd es).length cp3) (rowsB nd es) :: blk b1 [I64 (nd), va] 25 :: (ownR 3 ([]) ++ I)) from (Fit.nilvc _ _)) ?_
 rintro ⟨left, a, c, rs, ms, n⟩ hp
 obtain ⟨hg, hm, hn, hs⟩ : (groupsB (rowsB nd es) w = ms ++ groupsL (rowsB nd es) w n left) ∧ (rs.map RowG.xs = ms.map listB) ∧ ((listN left).length ≤ n ∧ n + ms.length ≤ 64) ∧ (∀ i : Nat, left.getLsbD i = true → w.getLsbD i = true) := hp
 show W Tryd.prog κ 30 _ _ ([(1, U64 (w)), (5, .slice ad2 (rowsB nd es).length cp3), (6, .slice a rs.length c), (7, U64 (left))] : Env) (vc 22 (.slice a rs.length c) (rs) :: vc 99 (.slice ad2 (rowsB nd es).length cp3) (rowsB nd es) :: blk b1 [I64 (nd), va] 25 :: (ownR 3 rs ++ I))
 refine W.seq ?_
 refine W.sr ?_
 refine G.r (Runs.move rfl) ?_
 refine G.r (Runs.neB (a := left) (b := 0#64) rfl rfl) ?_
 refine G.nt ?_
 refine W.ite rfl (fun c13 => ?_) (fun c13 => ?_)
 ·refine W.skip ?_
  refine V.then ?_
  refine W.block ?_
  refine W.sr ?_
  refine G.r (Runs.move rfl) ?_
  refine G.r (Runs.move rfl) ?_
  refine G.r (Runs.move rfl) ?_
  refine G.r (Runs.negB (a := left) rfl) ?_
  refine G.r (Runs.andB (a := left) (b := -left) rfl rfl) ?_
  refine G.r (Runs.move rfl) ?_
  refine G.e (Eff.call call74 rfl rfl (MReach_ok Sl.o (left &&& (-left)) w hw (TabRd.fit hT Fit.m))) ?_
  rintro _ _ ⟨_, _, ⟨rfl, rfl⟩, rfl, rfl⟩
  refine G.r (Runs.assign rfl) ?_
  have hls := groups_less (rows := rowsB nd es) c13 hs
  refine G.nt ?_
  refine W.sub (L' := [(8, _), (1, _), (5, _), (6, _), (7, _)]) (Sub.cons rfl (Sub.cons rfl (Sub.cons rfl (Sub.cons rfl (Sub.cons rfl Sub.nil))))) ?_
  refine W.sr ?_
  refine G.r (Runs.move rfl) ?_
  refine G.r (Runs.move rfl) ?_
  refine G.e (Eff.call call69 rfl rfl (MList_ok (reachB (rowsB nd es) (left &&& (-left)) w) (TabRd.fit hT Fit.m))) ?_
  rintro _ _ ⟨_, _, ⟨ad4, cp5, rfl, rfl⟩, rfl, rfl⟩
  refine G.e (Eff.bs (α := (RowG Int)) (cs := [_]) (xs := [⟨ad4, cp5, listB (reachB (rowsB nd es) (left &&& (-left)) w)⟩]) Tryd.underlying50 ty22 rfl rfl (by decide) (by decide) rfl rfl rfl rfl) ?_
  rintro _ _ ⟨ad6, rfl, rfl⟩
  refine G.e (Eff.app (α := (RowG Int)) (e := 22) (xs := rs) (ys := ([⟨ad4, cp5, listB (reachB (rowsB nd es) (left &&& (-left)) w)⟩] : List (RowG Int))) Tryd.underlying50 ty22 rfl rfl rfl (by repeat (first | exact List.mem_cons_self | apply List.mem_cons_of_mem)) Sl.o (by simp only [List.length_cons, List.length_nil]; have := congrArg List.length hm; simp only [List.length_map] at this; omega) (by decide) rfl (fun _ _ => (by repeat (first | exact At.head _ _ _ | apply At.tail)))) ?_
  rintro _ _ ⟨ad7, cp8, rfl, rfl⟩
  refine G.r (Runs.assign rfl) ?_
  refine G.nt ?_
  refine W.region ?_
  refine G.r (Runs.move rfl) ?_
  refine G.r (Runs.move rfl) ?_
  refine G.r (Runs.andNotB (a := left) (b := reachB (rowsB nd es) (left &&& (-left)) w) rfl rfl) ?_
  refine G.r (Runs.assign rfl) ?_
  refine G.nil ?_
  refine V.block_normal ?_
  exact V.next ((left &&& ~~~(reachB (rowsB nd es) (left &&& (-left)) w)), (ad7), (cp8), (rs ++ [(⟨ad4, cp5, listB (reachB (rowsB nd es) (left &&& (-left)) w)⟩ : RowG Int)]), (ms ++ [reachB (rowsB nd es) (left &&& (-left)) w]), (n - 1)) (show (groupsB (rowsB nd es) w = (ms ++ [reachB (rowsB nd es) (left &&& (-left)) w] : List (BitVec 64)) ++ groupsL (rowsB nd es) w (n - 1 : Nat) (left &&& ~~~(reachB (rowsB nd es) (left &&& (-left)) w) : BitVec 64)) ∧ ((rs ++ [(⟨ad4, cp5, listB (reachB (rowsB nd es) (left &&& (-left)) w)⟩ : RowG Int)] : List (RowG Int)).map RowG.xs = (ms ++ [reachB (rowsB nd es) (left &&& (-left)) w] : List (BitVec 64)).map listB) ∧ ((listN (left &&& ~~~(reachB (rowsB nd es) (left &&& (-left)) w) : BitVec 64)).length ≤ (n - 1 : Nat) ∧ (n - 1 : Nat) + (ms ++ [reachB (rowsB nd es) (left &&& (-left)) w] : List (BitVec 64)).length ≤ 64) ∧ (∀ i : Nat, (left &&& ~~~(reachB (rowsB nd es) (left &&& (-left)) w) : BitVec 64).getLsbD i = true → w.getLsbD i = true) from ⟨(by rw [hg, groupsL_pos c13 (by omega), List.append_assoc]; rfl), (by rw [List.map_append, List.map_append, hm]; rfl), (by have hle := groups_less (rows := rowsB nd es) c13 hs; simp only [List.length_append, List.length_cons, List.length_nil]; omega), (fun i hi => hs i (getLsb_minus.1 hi).1)⟩) (show (n - 1 : Nat) < n from (by omega)) (Sub.cons rfl (Sub.cons rfl (Sub.cons (lookV rfl (by first | rfl | simp)) (Sub.cons (lookV rfl (by first | rfl | simp)) Sub.nil)))) (show Fit κ _ (vc 22 (.slice (ad7) (rs ++ [(⟨ad4, cp5, listB (reachB (rowsB nd es) (left &&& (-left)) w)⟩ : RowG Int)]).length (cp8)) ((rs ++ [(⟨ad4, cp5, listB (reachB (rowsB nd es) (left &&& (-left)) w)⟩ : RowG Int)])) :: vc 99 (.slice ad2 (rowsB nd es).length cp3) (rowsB nd es) :: blk b1 [I64 (nd), va] 25 :: (ownR 3 (rs ++ [(⟨ad4, cp5, listB (reachB (rowsB nd es) (left &&& (-left)) w)⟩ : RowG Int)]) ++ I)) from (Fit.trans (show Fit κ _ ([vc 22 (.slice ad7 (rs ++ [(⟨ad4, cp5, listB (reachB (rowsB nd es) (left &&& (-left)) w)⟩ : RowG Int)]).length cp8) (rs ++ [(⟨ad4, cp5, listB (reachB (rowsB nd es) (left &&& (-left)) w)⟩ : RowG Int)]), vc 99 (.slice ad2 (rowsB nd es).length cp3) (rowsB nd es), blk b1 [I64 (nd), va] 25] ++ vc 3 (.slice ad4 (listB (reachB (rowsB nd es) (left &&& (-left)) w)).length cp5) (listB (reachB (rowsB nd es) (left &&& (-left)) w)) :: (ownR 3 rs ++ I)) from Fit.s) (Fit.ownR_snoc (r := (⟨ad4, cp5, listB (reachB (rowsB nd es) (left &&& (-left)) w)⟩ : RowG Int)))))
 ·refine W.exit ?_
  refine V.then_exit ?_
  refine V.then_exit ?_
  refine V.block_hit ?_
  refine V.then ?_
  refine W.sr ?_
  refine G.r (Runs.move rfl) ?_
  refine G.r (Runs.assign rfl) ?_
  refine G.nt ?_
  refine W.ret ?_
  have hz : left = 0#64 := Classical.not_not.1 c13
  rw [hz, groupsL_zero, List.append_nil] at hg
  exact V.ret1 rfl rfl (vc 22 (.slice a rs.length c) rs :: (ownR 3 rs ++ I)) (by first | exact Fit.s | exact Fit.sub) ⟨a, c, rs, rfl, by rw [hm, hg], rfl⟩

theorem Components_ok {κ : Ctx} {I : List Item} {nd : Int} {va : Value} {es : List Pt} (hl : Sl κ I va es) (hT : TabRd κ I 0 tzCells) :
    CallS Tryd.prog κ 28 [.agg #[I64 (nd), va]] I (fun r J => ∃ a c rs, r = .tuple #[.slice a rs.length c, I64 (checkG nd es)] ∧ rs.map RowG.xs = compsG nd es ∧ J = vc 22 (.slice a rs.length c) rs :: (ownR 3 rs ++ I)) := by
 refine CallS.enter (L := [(0, .agg #[I64 (nd), va])]) Tryd.func28 rfl rfl rfl rfl ?_
 refine W.sr ?_
 refine G.e (Eff.box (cs := [_, _]) rfl rfl rfl) ?_
 rintro _ _ ⟨b1, rfl, rfl⟩
 refine G.r (Runs.assign rfl) ?_
 refine G.r (Runs.assign rfl) ?_
 refine G.nt ?_
 refine W.seq ?_
 refine W.sr ?_
 refine G.r (Runs.lds (vs := [_, _]) ty25) ?_
 refine G.e (Eff.call call66 rfl rfl (CheckGen_ok (Sl.f hl))) ?_
 rintro _ _ ⟨_, _, ⟨rfl, rfl⟩, rfl, rfl⟩
 refine G.r (Runs.assign rfl) ?_
 refine G.nt ?_
 refine W.sr ?_
 refine G.r (Runs.move rfl) ?_
 refine G.r (Runs.neq rfl rfl) ?_
 refine G.nt ?_
 refine W.ite rfl (fun c8 => ?_) (fun c8 => ?_)
 ·refine W.sr ?_
  refine G.r (Runs.move rfl) ?_
  refine G.r (Runs.assign rfl) ?_
  refine G.r (Runs.assign rfl) ?_
  refine G.nt ?_
  refine W.ret ?_
  refine V.then_ret ?_
  have hX : compsG nd es = [] := if_pos c8
  exact V.ret2 rfl rfl rfl (vc 22 (.slice none ([] : List (RowG Int)).length 0) ([] : List (RowG Int)) :: (ownR 3 ([] : List (RowG Int)) ++ I)) (Fit.trans (show Fit κ _ I from Fit.m) (Fit.nilvc (α := RowG Int) _ _)) ⟨none, 0, [], rfl, by rw [hX]; rfl, rfl⟩
 ·refine W.skip ?_
  refine V.then ?_
  refine W.seq ?_
  refine W.drawn mixed ?_
  refine A.hold (blk b1 [I64 (nd), va] 25 :: I) 7 ?_
  refine D.r 0 rfl (Runs.lds (vs := [_, _]) ty25) ?_ (hJ := Fit.sub)
  refine D.r 1 rfl (Runs.fieldAddr fld25_0 rfl) ?_ (hJ := Fit.sub)
  refine D.r 2 rfl (Runs.ld ty3) ?_ (hJ := Fit.sub)
  refine D.step (rs := [3]) (by kernel_rfl) rfl rfl (all1 ?_)
  refine Step.eff rfl (Wanted.plain rfl) (Eff.call call77 rfl rfl (MaskAll_ok nd)) ?_
  rintro _ _ ⟨_, _, ⟨rfl, rfl⟩, rfl, rfl⟩
  refine ⟨Fit.sub, ?_⟩
  refine D.step (rs := [4]) (by kernel_rfl) rfl rfl (all1 ?_)
  refine Step.eff rfl (Wanted.plain rfl) (Eff.call call79 rfl rfl (Groups_ok (nd := nd) (Sl.f hl) (allB nd) (all_rows (checkG_ok.1 (Classical.not_not.1 c8)).rng) (TabRd.fit hT Fit.m))) ?_
  rintro _ _ ⟨_, _, ⟨ad2, cp3, rs4, rfl, hrs4, rfl⟩, rfl, rfl⟩
  refine ⟨Fit.sub, ?_⟩
  refine D.fit (J := vc 22 (.slice ad2 rs4.length cp3) (rs4) :: blk b1 [I64 (nd), va] 25 :: (ownR 3 rs4 ++ I)) Fit.s ?_
  refine D.r 5 rfl (Runs.assign rfl) ?_ (hJ := Fit.sub)
  refine D.r 6 rfl (Runs.assign rfl) ?_ (hJ := Fit.sub)
  refine D.done (by kernel_rfl) ?_
  refine V.then ?_
  refine W.sub (L' := [(3, _), (2, _)]) (Sub.cons rfl (Sub.cons rfl Sub.nil)) ?_
  refine W.ret ?_
  have hz : checkG nd es = 0 := Classical.not_not.1 c8
  exact V.ret2 rfl rfl rfl (vc 22 (.slice ad2 rs4.length cp3) rs4 :: (ownR 3 rs4 ++ I)) (by first | exact Fit.s | exact Fit.sub) ⟨ad2, cp3, rs4, by rw [hz], by unfold compsG; rw [if_neg c8, hrs4], rfl⟩

end Go.Sl
