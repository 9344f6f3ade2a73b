/- A part of the proofs of statements of this seat: contracts of functions, and the plain laws that they lean on. No conditions. -/
import Derived.Test.YtbimaodbcjjbfaaDoorMaskB
import Derived.Test.YtbimaodbcjjbfaaDoorDfs9
import Derived.Test.YtbimaodbcjjbfaaDoorSortRows
import Derived.Test.YtbimaodbcjjbfaaDoorReach9
import Derived.Test.YtbimaodbcjjbfaaDoorGraphH5
import Derived.Test.YtbimaodbcjjbfaaDoorGraphM5
import Derived.Test.YtbimaodbcjjbfaaDoorGraphL5
import Derived.Test.YtbimaodbcjjbfaaDoorLookA
import Derived.Test.YtbimaodbcjjbfaaDoorGraphK5
import Derived.Test.YtbimaodbcjjbfaaDoorLookB
namespace Go.Sl
open Go.Proofs
set_option linter.unusedVariables false
set_option linter.unusedSimpArgs false
set_option maxRecDepth 4000
end Go.Sl
namespace Go.Sl
open Go.Proofs
set_option linter.unusedVariables false
set_option linter.unusedSimpArgs false
set_option maxRecDepth 4000
theorem Fit.into {κ : Ctx} {A R B I : List Item} : Fit κ (A ++ R ++ (B ++ I)) (A ++ (B ++ (R ++ I))) := by
  refine Fit.perm ?_
  rw [List.append_assoc]
  refine List.Perm.append_left A ?_
  rw [← List.append_assoc, ← List.append_assoc]
  exact List.Perm.append_right I List.perm_append_comm
theorem Fit.outof {κ : Ctx} {A R B I : List Item} : Fit κ (A ++ (B ++ (R ++ I))) (A ++ R ++ (B ++ I)) := by
  refine Fit.perm ?_
  rw [List.append_assoc]
  refine List.Perm.append_left A ?_
  rw [← List.append_assoc, ← List.append_assoc]
  exact List.Perm.append_right I List.perm_append_comm

end Go.Sl
namespace Go.Sl
open Go.Proofs
set_option linter.unusedVariables false
set_option linter.unusedSimpArgs false
set_option maxRecDepth 4000
theorem all_rows {nd : Int} {es : List Pt} (h : 0 ≤ nd ∧ nd ≤ 64) (i : Nat) (hi : (allB nd).getLsbD i = true) : i < (rowsB nd es).length := by
  have h64 : i < 64 := Classical.byContradiction fun hn => by rw [BitVec.getLsbD_of_ge _ _ (by omega)] at hi; cases hi
  rw [getLsb_allB h.1 h.2 h64, decide_eq_true_eq] at hi
  rw [rowsB_len]; omega
theorem groupsL_pos {rows : List (BitVec 64)} {w left : BitVec 64} {n : Nat} (h : left ≠ 0#64) (hn : 0 < n) : groupsL rows w n left = reachB rows (left &&& (-left)) w :: groupsL rows w (n - 1) (left &&& ~~~(reachB rows (left &&& (-left)) w)) := by
  obtain ⟨k, rfl⟩ : ∃ k, n = k + 1 := ⟨n - 1, by omega⟩
  exact groupsL_succ h k

theorem MReach_ok {κ : Ctx} {I : List Item} {va : Value} {rows : List (BitVec 64)} (hl : Sl κ I va rows) (f w : BitVec 64) (hw : ∀ i : Nat, w.getLsbD i = true → i < rows.length) (hT : TabRd κ I 0 tzCells) :
    CallS Tryd.prog κ 74 [va, U64 (f), U64 (w)] I (fun r J => r = U64 (reachB rows f w) ∧ I = J) := by
 refine CallS.enter (L := [(0, va), (1, U64 (f)), (2, U64 (w))]) Tryd.func74 rfl rfl rfl rfl ?_
 refine W.sr ?_
 refine G.r (Runs.assign rfl) ?_
 refine G.nt ?_
 refine W.sr ?_
 refine G.r (Runs.move rfl) ?_
 refine G.r (Runs.move rfl) ?_
 refine G.r (Runs.andB (a := f) (b := w) rfl rfl) ?_
 refine G.r (Runs.assign rfl) ?_
 refine G.nt ?_
 refine W.seq ?_
 refine W.sr ?_
 refine G.r (Runs.move rfl) ?_
 refine G.r (Runs.assign rfl) ?_
 refine G.nt ?_
 refine W.block ?_
 refine W.loop (σ := (BitVec 64) × (BitVec 64)) (fun s => ([(0, va), (1, U64 (s.2)), (2, U64 (w)), (7, U64 (s.1))] : Env)) (fun s => I) (fun s => (ReachI rows f w s.1 s.2)) (fun s => reachM w s.1 s.2) (f &&& w, f &&& w) (show (ReachI rows f w (f &&& w : BitVec 64) (f &&& w : BitVec 64)) from .begin) (Sub.cons rfl (Sub.cons (lookV rfl (by first | rfl | simp)) (Sub.cons rfl (Sub.cons (lookV rfl (by first | rfl | simp)) Sub.nil)))) (show Fit κ _ (I) from Fit.sub) ?_
 rintro ⟨front, frm⟩ hp
 have hR : (ReachI rows f w front frm) := hp
 show W Tryd.prog κ 37 _ _ ([(0, va), (1, U64 (frm)), (2, U64 (w)), (7, U64 (front))] : Env) (I)
 refine W.seq ?_
 refine W.sr ?_
 refine G.r (Runs.move rfl) ?_
 refine G.r (Runs.neB (a := front) (b := 0#64) rfl rfl) ?_
 refine G.nt ?_
 refine W.ite rfl (fun c15 => ?_) (fun c15 => ?_)
 ·refine W.skip ?_
  refine V.then ?_
  refine W.block ?_
  refine W.sr ?_
  refine G.r (Runs.move rfl) ?_
  refine G.e (Eff.call call125 rfl rfl (Least_ok front (TabRd.fit hT Fit.m))) ?_
  rintro _ _ ⟨_, _, ⟨rfl, rfl⟩, rfl, rfl⟩
  refine G.r (Runs.assign rfl) ?_
  have htz := tzB_range c15
  have hbd := hw _ (hR.sub _ (hR.fsub _ htz.2.2))
  refine G.nt ?_
  refine W.sr ?_
  refine G.r (Runs.move rfl) ?_
  refine G.r (Runs.move rfl) ?_
  refine G.r (Runs.subB (a := front) (b := 1#64) rfl rfl) ?_
  refine G.r (Runs.andB (a := front) (b := front - (1#64)) rfl rfl) ?_
  refine G.r (Runs.assign rfl) ?_
  refine G.nt ?_
  refine W.sub (L' := [(7, _), (8, _), (0, _), (1, _), (2, _)]) (Sub.cons rfl (Sub.cons rfl (Sub.cons rfl (Sub.cons rfl (Sub.cons rfl Sub.nil))))) ?_
  refine W.sr ?_
  refine G.r (Runs.move rfl) ?_
  refine G.r (Runs.move rfl) ?_
  refine G.r (Runs.idx (α := (BitVec 64)) (xs := rows) Tryd.underlying106 ty99 rfl rfl (Sl.f hl) (by omega) (by omega)) ?_
  refine G.r (Runs.getf0 (α := (BitVec 64)) (xs := rows) (u := U64 ((at_ rows (tzB front)))) ty99 rfl (Sl.f hl) (by omega) (by omega) rfl) ?_
  refine G.r (Runs.move rfl) ?_
  refine G.r (Runs.andB (a := (at_ rows (tzB front))) (b := w) rfl rfl) ?_
  refine G.r (Runs.move rfl) ?_
  refine G.r (Runs.andNotB (a := (at_ rows (tzB front)) &&& w) (b := frm) rfl rfl) ?_
  refine G.r (Runs.assign rfl) ?_
  refine G.nt ?_
  refine W.sub (L' := [(9, _), (7, _), (0, _), (1, _), (2, _)]) (Sub.cons rfl (Sub.cons rfl (Sub.cons rfl (Sub.cons rfl (Sub.cons rfl Sub.nil))))) ?_
  refine W.sr ?_
  refine G.r (Runs.move rfl) ?_
  refine G.r (Runs.move rfl) ?_
  refine G.r (Runs.orB (a := frm) (b := ((at_ rows (tzB front)) &&& w) &&& ~~~frm) rfl rfl) ?_
  refine G.r (Runs.assign rfl) ?_
  refine G.nt ?_
  refine W.region ?_
  refine G.r (Runs.move rfl) ?_
  refine G.r (Runs.move rfl) ?_
  refine G.r (Runs.orB (a := front &&& (front - (1#64))) (b := ((at_ rows (tzB front)) &&& w) &&& ~~~frm) rfl rfl) ?_
  refine G.r (Runs.assign rfl) ?_
  refine G.nil ?_
  refine V.block_normal ?_
  exact V.next (((front &&& (front - (1#64))) ||| (((at_ rows (tzB front)) &&& w) &&& ~~~frm)), (frm ||| (((at_ rows (tzB front)) &&& w) &&& ~~~frm))) (show (ReachI rows f w ((front &&& (front - (1#64))) ||| (((at_ rows (tzB front)) &&& w) &&& ~~~frm) : BitVec 64) (frm ||| (((at_ rows (tzB front)) &&& w) &&& ~~~frm) : BitVec 64)) from (hR.step c15).1) (show reachM w ((front &&& (front - (1#64))) ||| (((at_ rows (tzB front)) &&& w) &&& ~~~frm) : BitVec 64) (frm ||| (((at_ rows (tzB front)) &&& w) &&& ~~~frm) : BitVec 64) < reachM w front frm from (hR.step c15).2) (Sub.cons rfl (Sub.cons (lookV rfl (by first | rfl | simp)) (Sub.cons rfl (Sub.cons (lookV rfl (by first | rfl | simp)) Sub.nil)))) (show Fit κ _ (I) from Fit.sub)
 ·refine W.exit ?_
  refine V.then_exit ?_
  refine V.then_exit ?_
  refine V.block_hit ?_
  refine V.then ?_
  refine W.sr ?_
  refine G.r (Runs.move rfl) ?_
  refine G.r (Runs.assign rfl) ?_
  refine G.nt ?_
  refine W.ret ?_
  have hz : front = 0#64 := Classical.not_not.1 c15
  subst hz
  exact V.ret1 rfl rfl (I) Fit.m ⟨by rw [hR.eq], rfl⟩

def compsG (nd : Int) (es : List Pt) : List (List Int) := if checkG nd es ≠ 0 then [] else (groupsB (rowsB nd es) (allB nd)).map listB

theorem Groups_ok {κ : Ctx} {I : List Item} {nd : Int} {va : Value} {es : List Pt} (hl : Sl κ I va es) (w : BitVec 64) (hw : ∀ i : Nat, w.getLsbD i = true → i < (rowsB nd es).length) (hT : TabRd κ I 0 tzCells) :
    CallS Tryd.prog κ 79 [.agg #[I64 (nd), va], U64 (w)] I (fun r J => ∃ a c rs, r = .slice a rs.length c ∧ rs.map RowG.xs = (groupsB (rowsB nd es) w).map listB ∧ J = vc 22 (.slice a rs.length c) rs :: (ownR 3 rs ++ I)) := by
 refine CallS.enter (L := [(0, .agg #[I64 (nd), va]), (1, U64 (w))]) Tryd.func79 rfl rfl rfl rfl ?_
 refine W.sr ?_
 refine G.e (Eff.box (cs := [_, _]) rfl rfl rfl) ?_
 rintro _ _ ⟨b1, rfl, rfl⟩
 refine G.r (Runs.assign rfl) ?_
 refine G.nt ?_
 refine W.sr ?_
 refine G.r (Runs.lds (vs := [_, _]) ty25) ?_
 refine G.e (Eff.call call75 rfl rfl (MRows_ok (nd := nd) (Sl.f hl))) ?_
 rintro _ _ ⟨_, _, ⟨ad2, cp3, rfl, rfl⟩, rfl, rfl⟩
 have hrwad2 := rowsB_len nd es
 refine G.r (Runs.assign rfl) ?_
 refine G.nt ?_
 refine W.sr ?_
 refine G.r (Runs.assign rfl) ?_
 refine G.nt ?_
 refine W.seq ?_
 refine W.sr ?_
 refine G.r (Runs.move rfl) ?_
 refine G.r (Runs.assign rfl) ?_
 refine G.nt ?_
 refine W.block ?_
 refine W.loop (σ := (BitVec 64) × (Option Addr) × Nat × (List (RowG Int)) × (List (BitVec 64)) × Nat) (fun s => ([(1, U64 (w)), (5, .slice ad2 (rowsB nd es).length cp3), (6, .slice s.2.1 s.2.2.2.1.length s.2.2.1), (7, U64 (s.1))] : Env)) (fun s => vc 22 (.slice s.2.1 s.2.2.2.1.length s.2.2.1) (s.2.2.2.1) :: vc 99 (.slice ad2 (rowsB nd es).length cp3) (rowsB nd es) :: blk b1 [I64 (nd), va] 25 :: (ownR 3 s.2.2.2.1 ++ I)) (fun s => (groupsB (rowsB nd es) w = s.2.2.2.2.1 ++ groupsL (rowsB nd es) w s.2.2.2.2.2 s.1) ∧ (s.2.2.2.1.map RowG.xs = s.2.2.2.2.1.map listB) ∧ ((listN s.1).length ≤ s.2.2.2.2.2 ∧ s.2.2.2.2.2 + s.2.2.2.2.1.length ≤ 64) ∧ (∀ i : Nat, s.1.getLsbD i = true → w.getLsbD i = true)) (fun s => s.2.2.2.2.2) (w, none, 0, [], [], 64) (show (groupsB (rowsB nd es) w = ([] : List (BitVec 64)) ++ groupsL (rowsB nd es) w (64 : Nat) (w : BitVec 64)) ∧ (([] : List (RowG Int)).map RowG.xs = ([] : List (BitVec 64)).map listB) ∧ ((listN (w : BitVec 64)).length ≤ (64 : Nat) ∧ (64 : Nat) + ([] : List (BitVec 64)).length ≤ 64) ∧ (∀ i : Nat, (w : BitVec 64).getLsbD i = true → w.getLsbD i = true) from ⟨rfl, rfl, ⟨listN_len _, by simp⟩, (fun _ h => h)⟩) (Sub.cons rfl (Sub.cons rfl (Sub.cons (lookV rfl (by first | rfl | simp)) (Sub.cons (lookV rfl (by first | rfl | simp)) Sub.nil)))) (show Fit κ _ (vc 22 (.slice (none) ([]).length (0)) (([])) :: vc 99 (.slice ad2 (rowsB nd es).length cp3) (rowsB nd es) :: blk b1 [I64 (nd), va] 25 :: (ownR 3 ([]) ++ I)) from (Fit.nilvc _ _)) ?_
 rintro ⟨left, a, c, rs, ms, n⟩ hp
 obtain ⟨hg, hm, hn, hs⟩ : (groupsB (rowsB nd es) w = ms ++ groupsL (rowsB nd es) w n left) ∧ (rs.map RowG.xs = ms.map listB) ∧ ((listN left).length ≤ n ∧ n + ms.length ≤ 64) ∧ (∀ i : Nat, left.getLsbD i = true → w.getLsbD i = true) := hp
 show W Tryd.prog κ 30 _ _ ([(1, U64 (w)), (5, .slice ad2 (rowsB nd es).length cp3), (6, .slice a rs.length c), (7, U64 (left))] : Env) (vc 22 (.slice a rs.length c) (rs) :: vc 99 (.slice ad2 (rowsB nd es).length cp3) (rowsB nd es) :: blk b1 [I64 (nd), va] 25 :: (ownR 3 rs ++ I))
 refine W.seq ?_
 refine W.sr ?_
 refine G.r (Runs.move rfl) ?_
 refine G.r (Runs.neB (a := left) (b := 0#64) rfl rfl) ?_
 refine G.nt ?_
 refine W.ite rfl (fun c13 => ?_) (fun c13 => ?_)
 ·refine W.skip ?_
  refine V.then ?_
  refine W.block ?_
  refine W.sr ?_
  refine G.r (Runs.move rfl) ?_
  refine G.r (Runs.move rfl) ?_
  refine G.r (Runs.move rfl) ?_
  refine G.r (Runs.negB (a := left) rfl) ?_
  refine G.r (Runs.andB (a := left) (b := -left) rfl rfl) ?_
  refine G.r (Runs.move rfl) ?_
  refine G.e (Eff.call call74 rfl rfl (MReach_ok Sl.o (left &&& (-left)) w hw (TabRd.fit hT Fit.m))) ?_
  rintro _ _ ⟨_, _, ⟨rfl, rfl⟩, rfl, rfl⟩
  refine G.r (Runs.assign rfl) ?_
  have hls := groups_less (rows := rowsB nd es) c13 hs
  refine G.nt ?_
  refine W.sub (L' := [(8, _), (1, _), (5, _), (6, _), (7, _)]) (Sub.cons rfl (Sub.cons rfl (Sub.cons rfl (Sub.cons rfl (Sub.cons rfl Sub.nil))))) ?_
  refine W.sr ?_
  refine G.r (Runs.move rfl) ?_
  refine G.r (Runs.move rfl) ?_
  refine G.e (Eff.call call69 rfl rfl (MList_ok (reachB (rowsB nd es) (left &&& (-left)) w) (TabRd.fit hT Fit.m))) ?_
  rintro _ _ ⟨_, _, ⟨ad4, cp5, rfl, rfl⟩, rfl, rfl⟩
  refine G.e (Eff.bs (α := (RowG Int)) (cs := [_]) (xs := [⟨ad4, cp5, listB (reachB (rowsB nd es) (left &&& (-left)) w)⟩]) Tryd.underlying50 ty22 rfl rfl (by decide) (by decide) rfl rfl rfl rfl) ?_
  rintro _ _ ⟨ad6, rfl, rfl⟩
  refine G.e (Eff.app (α := (RowG Int)) (e := 22) (xs := rs) (ys := ([⟨ad4, cp5, listB (reachB (rowsB nd es) (left &&& (-left)) w)⟩] : List (RowG Int))) Tryd.underlying50 ty22 rfl rfl rfl (by repeat (first | exact List.mem_cons_self | apply List.mem_cons_of_mem)) Sl.o (by simp only [List.length_cons, List.length_nil]; have := congrArg List.length hm; simp only [List.length_map] at this; omega) (by decide) rfl (fun _ _ => (by repeat (first | exact At.head _ _ _ | apply At.tail)))) ?_
  rintro _ _ ⟨ad7, cp8, rfl, rfl⟩
  refine G.r (Runs.assign rfl) ?_
  refine G.nt ?_
  refine W.region ?_
  refine G.r (Runs.move rfl) ?_
  refine G.r (Runs.move rfl) ?_
  refine G.r (Runs.andNotB (a := left) (b := reachB (rowsB nd es) (left &&& (-left)) w) rfl rfl) ?_
  refine G.r (Runs.assign rfl) ?_
  refine G.nil ?_
  refine V.block_normal ?_
  exact V.next ((left &&& ~~~(reachB (rowsB nd es) (left &&& (-left)) w)), (ad7), (cp8), (rs ++ [(⟨ad4, cp5, listB (reachB (rowsB nd es) (left &&& (-left)) w)⟩ : RowG Int)]), (ms ++ [reachB (rowsB nd es) (left &&& (-left)) w]), (n - 1)) (show (groupsB (rowsB nd es) w = (ms ++ [reachB (rowsB nd es) (left &&& (-left)) w] : List (BitVec 64)) ++ groupsL (rowsB nd es) w (n - 1 : Nat) (left &&& ~~~(reachB (rowsB nd es) (left &&& (-left)) w) : BitVec 64)) ∧ ((rs ++ [(⟨ad4, cp5, listB (reachB (rowsB nd es) (left &&& (-left)) w)⟩ : RowG Int)] : List (RowG Int)).map RowG.xs = (ms ++ [reachB (rowsB nd es) (left &&& (-left)) w] : List (BitVec 64)).map listB) ∧ ((listN (left &&& ~~~(reachB (rowsB nd es) (left &&& (-left)) w) : BitVec 64)).length ≤ (n - 1 : Nat) ∧ (n - 1 : Nat) + (ms ++ [reachB (rowsB nd es) (left &&& (-left)) w] : List (BitVec 64)).length ≤ 64) ∧ (∀ i : Nat, (left &&& ~~~(reachB (rowsB nd es) (left &&& (-left)) w) : BitVec 64).getLsbD i = true → w.getLsbD i = true) from ⟨(by rw [hg, groupsL_pos c13 (by omega), List.append_assoc]; rfl), (by rw [List.map_append, List.map_append, hm]; rfl), (by have hle := groups_less (rows := rowsB nd es) c13 hs; simp only [List.length_append, List.length_cons, List.length_nil]; omega), (fun i hi => hs i (getLsb_minus.1 hi).1)⟩) (show (n - 1 : Nat) < n from (by omega)) (Sub.cons rfl (Sub.cons rfl (Sub.cons (lookV rfl (by first | rfl | simp)) (Sub.cons (lookV rfl (by first | rfl | simp)) Sub.nil)))) (show Fit κ _ (vc 22 (.slice (ad7) (rs ++ [(⟨ad4, cp5, listB (reachB (rowsB nd es) (left &&& (-left)) w)⟩ : RowG Int)]).length (cp8)) ((rs ++ [(⟨ad4, cp5, listB (reachB (rowsB nd es) (left &&& (-left)) w)⟩ : RowG Int)])) :: vc 99 (.slice ad2 (rowsB nd es).length cp3) (rowsB nd es) :: blk b1 [I64 (nd), va] 25 :: (ownR 3 (rs ++ [(⟨ad4, cp5, listB (reachB (rowsB nd es) (left &&& (-left)) w)⟩ : RowG Int)]) ++ I)) from (Fit.trans (show Fit κ _ ([vc 22 (.slice ad7 (rs ++ [(⟨ad4, cp5, listB (reachB (rowsB nd es) (left &&& (-left)) w)⟩ : RowG Int)]).length cp8) (rs ++ [(⟨ad4, cp5, listB (reachB (rowsB nd es) (left &&& (-left)) w)⟩ : RowG Int)]), vc 99 (.slice ad2 (rowsB nd es).length cp3) (rowsB nd es), blk b1 [I64 (nd), va] 25] ++ vc 3 (.slice ad4 (listB (reachB (rowsB nd es) (left &&& (-left)) w)).length cp5) (listB (reachB (rowsB nd es) (left &&& (-left)) w)) :: (ownR 3 rs ++ I)) from Fit.s) (Fit.ownR_snoc (r := (⟨ad4, cp5, listB (reachB (rowsB nd es) (left &&& (-left)) w)⟩ : RowG Int)))))
 ·refine W.exit ?_
  refine V.then_exit ?_
  refine V.then_exit ?_
  refine V.block_hit ?_
  refine V.then ?_
  refine W.sr ?_
  refine G.r (Runs.move rfl) ?_
  refine G.r (Runs.assign rfl) ?_
  refine G.nt ?_
  refine W.ret ?_
  have hz : left = 0#64 := Classical.not_not.1 c13
  rw [hz, groupsL_zero, List.append_nil] at hg
  exact V.ret1 rfl rfl (vc 22 (.slice a rs.length c) rs :: (ownR 3 rs ++ I)) (by first | exact Fit.s | exact Fit.sub) ⟨a, c, rs, rfl, by rw [hm, hg], rfl⟩

end Go.Sl
namespace Go.Sl
open Go.Proofs
set_option linter.unusedVariables false
set_option linter.unusedSimpArgs false
set_option maxRecDepth 4000
/-- The reference's search: what has been found, and how many of these have been looked at. -/
structure RR (rows : List (BitVec 64)) (f l out : List Int) (i : Nat) : Prop where
  nodup : out.Nodup
  inl : ∀ x ∈ out, x ∈ l
  start : ∀ x ∈ f, x ∈ l → x ∈ out
  rch : ∀ x ∈ out, x ∈ listB (reachB rows (maskB f) (maskB l))
  closed : ∀ j : Nat, j < i → ∀ y ∈ l, (at_ rows (at_ out (j : Int))).getLsbD y.toNat = true → y ∈ out
  ile : i ≤ out.length
theorem bit_maskB {l : List Int} {i : Nat} (hi : i < 64) : (maskB l).getLsbD i = true ↔ (i : Int) ∈ l := by
  unfold maskB; rw [getLsb_maskB hi]; simp
theorem RR.begin {rows : List (BitVec 64)} {f l : List Int} (hl : ∀ x ∈ l, 0 ≤ x ∧ x < 64) : RR rows f l (meetL f l) 0 := by
  refine ⟨((ofL_asc f).imp fun h => by omega : (ofL f).Nodup).filter _, fun x hx => (mem_meetL.1 hx).2, fun x h1 h2 => mem_meetL.2 ⟨h1, h2⟩, fun x hx => ?_, fun j hj => absurd hj (Nat.not_lt_zero j), Nat.zero_le _⟩
  obtain ⟨h1, h2⟩ := mem_meetL.1 hx
  have := hl x h2
  rw [mem_listB]
  refine ⟨this.1, (reachB_ok _ _ _).start _ ?_⟩
  rw [BitVec.getLsbD_and, Bool.and_eq_true, bit_maskB (by omega), bit_maskB (by omega), show ((x.toNat : Nat) : Int) = x by omega]
  exact ⟨h1, h2⟩
theorem RR.push {rows : List (BitVec 64)} {f l out : List Int} {i : Nat} (h : RR rows f l out i) (hl : ∀ x ∈ l, 0 ≤ x ∧ x < 64) (hi : i < out.length) {y : Int} (hy : y ∈ l) (hn : y ∉ out) (hr : (at_ rows (at_ out (i : Int))).getLsbD y.toNat = true) : RR rows f l (out ++ [y]) i := by
  have hyl := hl y hy
  refine ⟨?_, fun x hx => ?_, fun x h1 h2 => List.mem_append_left _ (h.start x h1 h2), fun x hx => ?_, fun j hj z hz hzr => ?_, by rw [List.length_append]; omega⟩
  · rw [List.nodup_append]
    refine ⟨h.nodup, by simp, fun a ha b hb => ?_⟩
    rw [List.mem_singleton] at hb; subst hb
    exact fun e => hn (e ▸ ha)
  · rcases List.mem_append.1 hx with h1 | h1
    · exact h.inl x h1
    · rw [List.mem_singleton] at h1; exact h1 ▸ hy
  · rcases List.mem_append.1 hx with h1 | h1
    · exact h.rch x h1
    · rw [List.mem_singleton] at h1; subst h1
      have hm : at_ out (i : Int) ∈ out := at_mem (by omega) (by omega)
      obtain ⟨h2, h3⟩ := mem_listB.1 (h.rch _ hm)
      rw [mem_listB]
      refine ⟨hyl.1, (reachB_ok _ _ _).closed _ _ h3 (by rw [show (((at_ out (i : Int)).toNat : Nat) : Int) = at_ out (i : Int) by omega]; exact hr) ?_⟩
      rw [bit_maskB (by omega), show ((x.toNat : Nat) : Int) = x by omega]; exact hy
  · have := h.ile
    rw [at_append_left _ _ _ (by omega)] at hzr
    exact List.mem_append_left _ (h.closed j hj z hz hzr)
theorem RR.next {rows : List (BitVec 64)} {f l out : List Int} {i : Nat} (h : RR rows f l out i) (hi : i < out.length) (hc : ∀ y ∈ l, (at_ rows (at_ out (i : Int))).getLsbD y.toNat = true → y ∈ out) : RR rows f l out (i + 1) :=
  ⟨h.nodup, h.inl, h.start, h.rch, fun j hj y hy hr => by
    rcases Nat.lt_or_ge j i with h1 | h1
    · exact h.closed j h1 y hy hr
    · have e : j = i := by omega
      subst e; exact hc y hy hr, by omega⟩
theorem RR.len {rows : List (BitVec 64)} {f l out : List Int} {i : Nat} (h : RR rows f l out i) (hl : ∀ x ∈ l, 0 ≤ x ∧ x < 64) : out.length ≤ 64 := by
  have : out.length ≤ (rangeI 64).length := List.Nodup.length_le_of_subset h.nodup fun x hx => mem_rangeI.2 (by have := hl x (h.inl x hx); omega)
  rw [show (rangeI 64).length = 64 by decide +kernel] at this
  exact this
theorem RR.ends {rows : List (BitVec 64)} {f l out : List Int} {i : Nat} (h : RR rows f l out i) (hl : ∀ x ∈ l, 0 ≤ x ∧ x < 64) (hi : out.length ≤ i) : ofL out = listB (reachB rows (maskB f) (maskB l)) := by
  refine intLin.uniq (ofL_asc _) (listB_asc _) fun x => ?_
  rw [mem_ofL]
  refine ⟨h.rch x, fun hx => ?_⟩
  obtain ⟨h0, hb⟩ := mem_listB.1 hx
  have key := (reachB_ok rows (maskB f) (maskB l)).least (fun j => j < 64 ∧ (j : Int) ∈ out) (fun j hj => ?_) (fun a b hab _ hr hw => ?_) x.toNat hb
  · rw [show ((x.toNat : Nat) : Int) = x by omega] at key; exact key.2
  · have h64 : j < 64 := Classical.byContradiction fun hn => by rw [BitVec.getLsbD_of_ge _ _ (by omega)] at hj; cases hj
    rw [BitVec.getLsbD_and, Bool.and_eq_true, bit_maskB h64, bit_maskB h64] at hj
    exact ⟨h64, h.start _ hj.1 hj.2⟩
  · have h64 : b < 64 := Classical.byContradiction fun hn => by rw [BitVec.getLsbD_of_ge _ _ (by omega)] at hw; cases hw
    rw [bit_maskB h64] at hw
    obtain ⟨j, hj, he⟩ := mem_at hab.2
    refine ⟨h64, h.closed j (by omega) (b : Int) hw ?_⟩
    rw [he, Int.toNat_natCast]; exact hr
/-- Neighbours as bits of the rows. -/
theorem mem_nbG {nd : Int} {es : List Pt} (hG : GrOk nd es) {v x : Int} (hv : 0 ≤ v ∧ v < nd) : x ∈ nbG nd es v ↔ 0 ≤ x ∧ (at_ (rowsB nd es) v).getLsbD x.toNat = true := by
  rw [← nb_eq, mem_listB]
  have hr := hG.rng
  have hl := hG.rows.len
  have : rowG nd es v = at_ (rowsB nd es) v := by
    unfold rowG
    rw [if_neg]
    rintro (h | h | h)
    · omega
    · omega
    · exact h (checkG_ok.2 hG)
  rw [this]
theorem nb_closed {nd : Int} {l out : List Int} {es' : List Pt} {v : Int} {k : Nat} (hG : GrOk nd es') (hv : 0 ≤ v ∧ v < nd) (hl : ∀ x ∈ l, 0 ≤ x ∧ x < 64) (hk : (nbG nd es' v).length ≤ k) (h : ∀ m : Nat, m < k → m < (nbG nd es' v).length → at_ (nbG nd es' v) (m : Int) ∈ l → at_ (nbG nd es' v) (m : Int) ∈ out) :
    ∀ y ∈ l, (at_ (rowsB nd es') v).getLsbD y.toNat = true → y ∈ out := fun y hy hr => by
  obtain ⟨m, hm, he⟩ := mem_at ((mem_nbG hG hv).2 ⟨(hl y hy).1, hr⟩)
  have := h m (by omega) hm
  rw [he] at this
  exact this hy

theorem Reach15_ok {κ : Ctx} {I : List Item} {nd : Int} {va vf vb : Value} {es : List Pt} {frm set : List Int} (hl : Sl κ I va es) (hf : Sl κ I vf frm) (hs : Sl κ I vb set) (hG : GrOk nd es) (hsn : ∀ x ∈ set, 0 ≤ x ∧ x < nd) (hb : es.length ≤ 1000000) (hfb : frm.length ≤ 1000000)  :
    CallS Tryd.prog κ 83 [.agg #[I64 (nd), va], vf, vb] I (fun r J => ∃ a c, r = .slice a (listB (reachB (rowsB nd es) (maskB frm) (maskB set))).length c ∧ J = vc 3 (.slice a (listB (reachB (rowsB nd es) (maskB frm) (maskB set))).length c) (listB (reachB (rowsB nd es) (maskB frm) (maskB set))) :: I) := by
 have hset : ∀ x ∈ set, 0 ≤ x ∧ x < 64 := fun x hx => by have := hsn x hx; have := hG.rng; omega
 refine CallS.enter (L := [(0, .agg #[I64 (nd), va]), (1, vf), (2, vb)]) Tryd.func83 rfl rfl rfl rfl ?_
 refine W.sr ?_
 refine G.e (Eff.box (cs := [_, _]) rfl rfl rfl) ?_
 rintro _ _ ⟨b1, rfl, rfl⟩
 refine G.r (Runs.assign rfl) ?_
 refine G.nt ?_
 refine W.sr ?_
 refine G.r (Runs.move rfl) ?_
 refine G.r (Runs.move rfl) ?_
 refine G.e (Eff.call call25 rfl rfl (Meet_ok (Sl.f hf) (Sl.f hs) (by omega))) ?_
 rintro _ _ ⟨_, _, ⟨ad2, cp3, rfl, rfl⟩, rfl, rfl⟩
 refine G.r (Runs.assign rfl) ?_
 refine G.nt ?_
 refine W.seq ?_
 refine W.sr ?_
 refine G.r (Runs.assign rfl) ?_
 refine G.nt ?_
 refine W.block ?_
 refine W.loop (σ := Nat × (Option Addr) × Nat × (List Int)) (fun s => ([(2, vb), (3, .pointer (some ⟨b1, 0, none⟩)), (7, .slice s.2.1 s.2.2.2.length s.2.2.1), (8, I64 (((s.1 : Nat) : Int)))] : Env)) (fun s => vc 3 (.slice s.2.1 s.2.2.2.length s.2.2.1) (s.2.2.2) :: blk b1 [I64 (nd), va] 25 :: I) (fun s => (RR (rowsB nd es) frm set s.2.2.2 s.1)) (fun s => 65 - s.1) (0, ad2, cp3, meetL frm set) (show (RR (rowsB nd es) frm set (meetL frm set : List Int) (0 : Nat)) from (.begin hset)) (Sub.cons rfl (Sub.cons rfl (Sub.cons (lookV rfl (by first | rfl | simp)) (Sub.cons lookO Sub.nil)))) (show Fit κ _ (vc 3 (.slice (ad2) (meetL frm set).length (cp3)) ((meetL frm set)) :: blk b1 [I64 (nd), va] 25 :: I) from (by first | exact Fit.s | exact Fit.sub)) ?_
 rintro ⟨i, a, c, out⟩ hp
 have hR : (RR (rowsB nd es) frm set out i) := hp
 show W Tryd.prog κ 47 _ _ ([(2, vb), (3, .pointer (some ⟨b1, 0, none⟩)), (7, .slice a out.length c), (8, I64 (((i : Nat) : Int)))] : Env) (vc 3 (.slice a out.length c) (out) :: blk b1 [I64 (nd), va] 25 :: I)
 have hol := hR.len hset
 have hile := hR.ile
 refine W.seq ?_
 refine W.sr ?_
 refine G.r (Runs.move rfl) ?_
 refine G.r (Runs.move rfl) ?_
 refine G.r (Runs.lens Tryd.underlying22 rfl) ?_
 refine G.r (Runs.lss rfl rfl) ?_
 refine G.nt ?_
 refine W.ite rfl (fun c17 => ?_) (fun c17 => ?_)
 ·refine W.skip ?_
  refine V.then ?_
  refine W.seq ?_
  refine W.block ?_
  refine W.seq ?_
  refine W.drawn mixed ?_
  refine A.hold (vc 3 (.slice a out.length c) (out) :: blk b1 [I64 (nd), va] 25 :: I) 8 ?_
  refine D.r 0 rfl (Runs.lds (vs := [_, _]) ty25) ?_ (hJ := Fit.sub)
  refine D.r 1 rfl (Runs.move rfl) ?_ (hJ := Fit.sub)
  refine D.r 2 rfl (Runs.move rfl) ?_ (hJ := Fit.sub)
  refine D.r 3 rfl (Runs.idx (α := Int) (xs := out) Tryd.underlying22 ty3 rfl rfl Sl.o (by omega) (by omega)) ?_ (hJ := Fit.sub)
  refine D.r 4 rfl (Runs.get (xs := out) ty3 rfl Sl.o (by omega) (by omega)) ?_ (hJ := Fit.sub)
  have hv := hsn _ (hR.inl _ (at_mem (xs := out) (i := (i : Int)) (by omega) (by omega)))
  refine D.r 7 rfl (Runs.move rfl) ?_ (hJ := Fit.sub)
  refine D.step (rs := [5]) (by kernel_rfl) rfl rfl (all1 ?_)
  refine Step.eff rfl (Wanted.plain rfl) (Eff.call call26 rfl rfl (Neigh03_ok (nd := nd) (Sl.f hl) (at_ out ((i : Nat) : Int)) (by omega))) ?_
  rintro _ _ ⟨_, _, ⟨ad4, cp5, rfl, rfl⟩, rfl, rfl⟩
  refine ⟨Fit.sub, ?_⟩
  have hnl25 := nbG_len nd es (at_ out ((i : Nat) : Int))
  refine D.r 6 rfl (Runs.lens Tryd.underlying22 rfl) ?_ (hJ := Fit.sub)
  refine D.done (by kernel_rfl) ?_
  refine V.then ?_
  refine W.sub (L' := [(26, _), (25, _), (27, _), (2, _), (3, _), (7, _), (8, _)]) (Sub.cons rfl (Sub.cons rfl (Sub.cons rfl (Sub.cons rfl (Sub.cons rfl (Sub.cons rfl (Sub.cons rfl Sub.nil))))))) ?_
  refine W.block ?_
  refine W.loop (σ := Nat × (Option Addr) × Nat × (List Int)) (fun s => ([(2, vb), (3, .pointer (some ⟨b1, 0, none⟩)), (7, .slice s.2.1 s.2.2.2.length s.2.2.1), (8, I64 (((i : Nat) : Int))), (25, .slice ad4 (nbG nd es (at_ out ((i : Nat) : Int))).length cp5), (26, I64 ((((nbG nd es (at_ out ((i : Nat) : Int))).length : Nat) : Int))), (27, I64 (((s.1 : Nat) : Int)))] : Env)) (fun s => vc 3 (.slice s.2.1 s.2.2.2.length s.2.2.1) (s.2.2.2) :: vc 3 (.slice ad4 (nbG nd es (at_ out ((i : Nat) : Int))).length cp5) (nbG nd es (at_ out ((i : Nat) : Int))) :: blk b1 [I64 (nd), va] 25 :: I) (fun s => (s.1 ≤ (nbG nd es (at_ out ((i : Nat) : Int))).length) ∧ (RR (rowsB nd es) frm set s.2.2.2 i) ∧ (at_ s.2.2.2 (i : Int) = (at_ out (i : Int))) ∧ (i < s.2.2.2.length) ∧ (∀ m : Nat, m < s.1 → m < (nbG nd es (at_ out ((i : Nat) : Int))).length → at_ (nbG nd es (at_ out ((i : Nat) : Int))) (m : Int) ∈ set → at_ (nbG nd es (at_ out ((i : Nat) : Int))) (m : Int) ∈ s.2.2.2)) (fun s => (nbG nd es (at_ out ((i : Nat) : Int))).length - s.1) (0, a, c, out) (show ((0 : Nat) ≤ (nbG nd es (at_ out ((i : Nat) : Int))).length) ∧ (RR (rowsB nd es) frm set (out : List Int) i) ∧ (at_ (out : List Int) (i : Int) = (at_ out (i : Int))) ∧ (i < (out : List Int).length) ∧ (∀ m : Nat, m < (0 : Nat) → m < (nbG nd es (at_ out ((i : Nat) : Int))).length → at_ (nbG nd es (at_ out ((i : Nat) : Int))) (m : Int) ∈ set → at_ (nbG nd es (at_ out ((i : Nat) : Int))) (m : Int) ∈ (out : List Int)) from ⟨(by omega), hR, rfl, (by omega), (fun m hm => absurd hm (Nat.not_lt_zero m))⟩) (Sub.cons rfl (Sub.cons rfl (Sub.cons (lookV rfl (by first | rfl | simp)) (Sub.cons rfl (Sub.cons rfl (Sub.cons rfl (Sub.cons lookO Sub.nil))))))) (show Fit κ _ (vc 3 (.slice (a) (out).length (c)) ((out)) :: vc 3 (.slice ad4 (nbG nd es (at_ out ((i : Nat) : Int))).length cp5) (nbG nd es (at_ out ((i : Nat) : Int))) :: blk b1 [I64 (nd), va] 25 :: I) from (by first | exact Fit.s | exact Fit.sub)) ?_
  rintro ⟨k, a1, c1, out1⟩ hp
  obtain ⟨hk, hR1, ho1, hil, hd⟩ : (k ≤ (nbG nd es (at_ out ((i : Nat) : Int))).length) ∧ (RR (rowsB nd es) frm set out1 i) ∧ (at_ out1 (i : Int) = (at_ out (i : Int))) ∧ (i < out1.length) ∧ (∀ m : Nat, m < k → m < (nbG nd es (at_ out ((i : Nat) : Int))).length → at_ (nbG nd es (at_ out ((i : Nat) : Int))) (m : Int) ∈ set → at_ (nbG nd es (at_ out ((i : Nat) : Int))) (m : Int) ∈ out1) := hp
  show W Tryd.prog κ 47 _ _ ([(2, vb), (3, .pointer (some ⟨b1, 0, none⟩)), (7, .slice a1 out1.length c1), (8, I64 (((i : Nat) : Int))), (25, .slice ad4 (nbG nd es (at_ out ((i : Nat) : Int))).length cp5), (26, I64 ((((nbG nd es (at_ out ((i : Nat) : Int))).length : Nat) : Int))), (27, I64 (((k : Nat) : Int)))] : Env) (vc 3 (.slice a1 out1.length c1) (out1) :: vc 3 (.slice ad4 (nbG nd es (at_ out ((i : Nat) : Int))).length cp5) (nbG nd es (at_ out ((i : Nat) : Int))) :: blk b1 [I64 (nd), va] 25 :: I)
  have hol1 := hR1.len hset
  refine W.sr ?_
  refine G.r (Runs.lss rfl rfl) ?_
  refine G.nt ?_
  refine W.seq ?_
  refine W.ite rfl (fun c28 => ?_) (fun c28 => ?_)
  ·refine W.skip ?_
   refine V.then ?_
   refine W.seq ?_
   refine W.block ?_
   refine W.sr ?_
   refine G.r (Runs.idx (α := Int) (xs := nbG nd es (at_ out ((i : Nat) : Int))) Tryd.underlying22 ty3 rfl rfl Sl.o (by omega) (by omega)) ?_
   refine G.r (Runs.get (xs := nbG nd es (at_ out ((i : Nat) : Int))) ty3 rfl Sl.o (by omega) (by omega)) ?_
   refine G.r (Runs.assign rfl) ?_
   refine G.nt ?_
   refine W.sr ?_
   refine G.r (Runs.move rfl) ?_
   refine G.r (Runs.move rfl) ?_
   refine G.e (Eff.call call19 rfl rfl (RHas_ok (Sl.f hs) (at_ (nbG nd es (at_ out ((i : Nat) : Int))) ((k : Nat) : Int)))) ?_
   rintro _ _ ⟨_, _, ⟨rfl, rfl⟩, rfl, rfl⟩
   refine G.r (Runs.move rfl) ?_
   refine G.split (d := 34) rfl (fun g34 => ?_) (fun g34 => ?_)
   ·refine G.ro (Runs.move rfl) ?_
    refine G.ro (Runs.move rfl) ?_
    refine G.eff (Wanted.on rfl rfl rfl) (Eff.call call19 rfl rfl (RHas_ok Sl.o (at_ (nbG nd es (at_ out ((i : Nat) : Int))) ((k : Nat) : Int)))) ?_
    rintro _ _ ⟨_, _, ⟨rfl, rfl⟩, rfl, rfl⟩
    refine G.ro (Runs.notd rfl) ?_
    refine G.r (Runs.pickt rfl rfl) ?_
    refine G.nt ?_
    refine W.sub (L' := [(39, _), (10, _), (2, _), (3, _), (7, _), (8, _), (25, _), (26, _), (27, _)]) (Sub.cons rfl (Sub.cons rfl (Sub.cons rfl (Sub.cons rfl (Sub.cons rfl (Sub.cons rfl (Sub.cons rfl (Sub.cons rfl (Sub.cons rfl Sub.nil))))))))) ?_
    refine W.ite rfl (fun c39 => ?_) (fun c39 => ?_)
    ·refine W.region ?_
     refine G.r (Runs.move rfl) ?_
     refine G.r (Runs.move rfl) ?_
     refine G.e (Eff.bs (α := Int) (cs := [_]) (xs := [at_ (nbG nd es (at_ out ((i : Nat) : Int))) ((k : Nat) : Int)]) Tryd.underlying22 ty3 rfl rfl (by decide) (by decide) rfl rfl rfl rfl) ?_
     rintro _ _ ⟨ad6, rfl, rfl⟩
     refine G.e (Eff.app (α := Int) (e := 3) (xs := out1) (ys := ([at_ (nbG nd es (at_ out ((i : Nat) : Int))) ((k : Nat) : Int)] : List Int)) Tryd.underlying22 ty3 rfl rfl rfl (by repeat (first | exact List.mem_cons_self | apply List.mem_cons_of_mem)) Sl.o (by simp only [List.length_cons, List.length_nil]; omega) (by decide) rfl (fun _ _ => (by repeat (first | exact At.head _ _ _ | apply At.tail)))) ?_
     rintro _ _ ⟨ad7, cp8, rfl, rfl⟩
     refine G.r (Runs.assign rfl) ?_
     refine G.nil ?_
     refine V.block_normal ?_
     refine V.then ?_
     refine W.sub (L' := [(7, _), (2, _), (3, _), (8, _), (25, _), (26, _), (27, _)]) (Sub.cons rfl (Sub.cons rfl (Sub.cons rfl (Sub.cons rfl (Sub.cons rfl (Sub.cons rfl (Sub.cons rfl Sub.nil))))))) ?_
     refine W.region ?_
     refine G.r (Runs.add rfl rfl (by unfold InR; omega)) ?_
     refine G.r (Runs.move rfl) ?_
     refine G.nil ?_
     exact V.next ((k + 1), (ad7), (cp8), (out1 ++ ([at_ (nbG nd es (at_ out ((i : Nat) : Int))) ((k : Nat) : Int)] : List Int))) (show ((k + 1 : Nat) ≤ (nbG nd es (at_ out ((i : Nat) : Int))).length) ∧ (RR (rowsB nd es) frm set (out1 ++ ([at_ (nbG nd es (at_ out ((i : Nat) : Int))) ((k : Nat) : Int)] : List Int) : List Int) i) ∧ (at_ (out1 ++ ([at_ (nbG nd es (at_ out ((i : Nat) : Int))) ((k : Nat) : Int)] : List Int) : List Int) (i : Int) = (at_ out (i : Int))) ∧ (i < (out1 ++ ([at_ (nbG nd es (at_ out ((i : Nat) : Int))) ((k : Nat) : Int)] : List Int) : List Int).length) ∧ (∀ m : Nat, m < (k + 1 : Nat) → m < (nbG nd es (at_ out ((i : Nat) : Int))).length → at_ (nbG nd es (at_ out ((i : Nat) : Int))) (m : Int) ∈ set → at_ (nbG nd es (at_ out ((i : Nat) : Int))) (m : Int) ∈ (out1 ++ ([at_ (nbG nd es (at_ out ((i : Nat) : Int))) ((k : Nat) : Int)] : List Int) : List Int)) from ⟨(by omega), (hR1.push hset (by omega) g34 c39 (by rw [ho1]; exact ((mem_nbG hG hv).1 (at_mem (by omega) (by omega))).2)), (by rw [at_append_left _ _ _ (by omega)]; exact ho1), (by rw [List.length_append]; omega), (fun m hm hm2 hml => (Nat.lt_or_ge m k).elim (fun h => List.mem_append_left _ (hd m h hm2 hml)) fun h => by rw [show m = k by omega]; exact List.mem_append_right _ List.mem_cons_self)⟩) (show (nbG nd es (at_ out ((i : Nat) : Int))).length - (k + 1 : Nat) < (nbG nd es (at_ out ((i : Nat) : Int))).length - k from (by omega)) (Sub.cons rfl (Sub.cons rfl (Sub.cons (lookV rfl (by first | rfl | simp)) (Sub.cons rfl (Sub.cons rfl (Sub.cons rfl (Sub.cons lookO Sub.nil))))))) (show Fit κ _ (vc 3 (.slice (ad7) (out1 ++ ([at_ (nbG nd es (at_ out ((i : Nat) : Int))) ((k : Nat) : Int)] : List Int)).length (cp8)) ((out1 ++ ([at_ (nbG nd es (at_ out ((i : Nat) : Int))) ((k : Nat) : Int)] : List Int))) :: vc 3 (.slice ad4 (nbG nd es (at_ out ((i : Nat) : Int))).length cp5) (nbG nd es (at_ out ((i : Nat) : Int))) :: blk b1 [I64 (nd), va] 25 :: I) from (by first | exact Fit.s | exact Fit.sub))
    ·refine W.skip ?_
     refine V.block_normal ?_
     refine V.then ?_
     refine W.region ?_
     refine G.r (Runs.add rfl rfl (by unfold InR; omega)) ?_
     refine G.r (Runs.move rfl) ?_
     refine G.nil ?_
     exact V.next ((k + 1), (a1), (c1), (out1)) (show ((k + 1 : Nat) ≤ (nbG nd es (at_ out ((i : Nat) : Int))).length) ∧ (RR (rowsB nd es) frm set (out1 : List Int) i) ∧ (at_ (out1 : List Int) (i : Int) = (at_ out (i : Int))) ∧ (i < (out1 : List Int).length) ∧ (∀ m : Nat, m < (k + 1 : Nat) → m < (nbG nd es (at_ out ((i : Nat) : Int))).length → at_ (nbG nd es (at_ out ((i : Nat) : Int))) (m : Int) ∈ set → at_ (nbG nd es (at_ out ((i : Nat) : Int))) (m : Int) ∈ (out1 : List Int)) from ⟨(by omega), (by omega), (by omega), (by omega), (fun m hm hm2 hml => (Nat.lt_or_ge m k).elim (fun h => hd m h hm2 hml) fun h => by rw [show m = k by omega] at hml ⊢; first | exact Classical.not_not.1 c39 | exact absurd hml g34)⟩) (show (nbG nd es (at_ out ((i : Nat) : Int))).length - (k + 1 : Nat) < (nbG nd es (at_ out ((i : Nat) : Int))).length - k from (by omega)) (Sub.cons rfl (Sub.cons rfl (Sub.cons (lookV rfl (by first | rfl | simp)) (Sub.cons rfl (Sub.cons rfl (Sub.cons rfl (Sub.cons lookO Sub.nil))))))) (show Fit κ _ (vc 3 (.slice (a1) (out1).length (c1)) ((out1)) :: vc 3 (.slice ad4 (nbG nd es (at_ out ((i : Nat) : Int))).length cp5) (nbG nd es (at_ out ((i : Nat) : Int))) :: blk b1 [I64 (nd), va] 25 :: I) from (by first | exact Fit.s | exact Fit.sub))
   ·refine G.po ?_
    refine G.po ?_
    refine G.po ?_
    refine G.po ?_
    refine G.r (Runs.pickf rfl rfl) ?_
    refine G.nt ?_
    refine W.sub (L' := [(39, _), (10, _), (2, _), (3, _), (7, _), (8, _), (25, _), (26, _), (27, _)]) (Sub.cons rfl (Sub.cons rfl (Sub.cons rfl (Sub.cons rfl (Sub.cons rfl (Sub.cons rfl (Sub.cons rfl (Sub.cons rfl (Sub.cons rfl Sub.nil))))))))) ?_
    refine W.no rfl ?_
    refine W.skip ?_
    refine V.block_normal ?_
    refine V.then ?_
    refine W.region ?_
    refine G.r (Runs.add rfl rfl (by unfold InR; omega)) ?_
    refine G.r (Runs.move rfl) ?_
    refine G.nil ?_
    exact V.next ((k + 1), (a1), (c1), (out1)) (show ((k + 1 : Nat) ≤ (nbG nd es (at_ out ((i : Nat) : Int))).length) ∧ (RR (rowsB nd es) frm set (out1 : List Int) i) ∧ (at_ (out1 : List Int) (i : Int) = (at_ out (i : Int))) ∧ (i < (out1 : List Int).length) ∧ (∀ m : Nat, m < (k + 1 : Nat) → m < (nbG nd es (at_ out ((i : Nat) : Int))).length → at_ (nbG nd es (at_ out ((i : Nat) : Int))) (m : Int) ∈ set → at_ (nbG nd es (at_ out ((i : Nat) : Int))) (m : Int) ∈ (out1 : List Int)) from ⟨(by omega), (by omega), (by omega), (by omega), (fun m hm hm2 hml => (Nat.lt_or_ge m k).elim (fun h => hd m h hm2 hml) fun h => by rw [show m = k by omega] at hml ⊢; first | exact Classical.not_not.1 c39 | exact absurd hml g34)⟩) (show (nbG nd es (at_ out ((i : Nat) : Int))).length - (k + 1 : Nat) < (nbG nd es (at_ out ((i : Nat) : Int))).length - k from (by omega)) (Sub.cons rfl (Sub.cons rfl (Sub.cons (lookV rfl (by first | rfl | simp)) (Sub.cons rfl (Sub.cons rfl (Sub.cons rfl (Sub.cons lookO Sub.nil))))))) (show Fit κ _ (vc 3 (.slice (a1) (out1).length (c1)) ((out1)) :: vc 3 (.slice ad4 (nbG nd es (at_ out ((i : Nat) : Int))).length cp5) (nbG nd es (at_ out ((i : Nat) : Int))) :: blk b1 [I64 (nd), va] 25 :: I) from (by first | exact Fit.s | exact Fit.sub))
  ·refine W.exit ?_
   refine V.then_exit ?_
   refine V.then_exit ?_
   refine V.block_hit ?_
   refine V.block_normal ?_
   refine V.then ?_
   refine W.region ?_
   refine G.r (Runs.move rfl) ?_
   refine G.r (Runs.add rfl rfl (by unfold InR; omega)) ?_
   refine G.r (Runs.assign rfl) ?_
   refine G.nil ?_
   exact V.next ((i + 1), (a1), (c1), (out1)) (show (RR (rowsB nd es) frm set (out1 : List Int) (i + 1 : Nat)) from (hR1.next hil (by rw [ho1]; exact nb_closed hG hv hset (by omega) hd))) (show 65 - (i + 1 : Nat) < 65 - i from (by omega)) (Sub.cons rfl (Sub.cons rfl (Sub.cons (lookV rfl (by first | rfl | simp)) (Sub.cons lookO Sub.nil)))) (show Fit κ _ (vc 3 (.slice (a1) (out1).length (c1)) ((out1)) :: blk b1 [I64 (nd), va] 25 :: I) from (by first | exact Fit.s | exact Fit.sub))
 ·refine W.exit ?_
  refine V.then_exit ?_
  refine V.then_exit ?_
  refine V.block_hit ?_
  refine V.then ?_
  refine W.sr ?_
  refine G.r (Runs.move rfl) ?_
  refine G.e (Eff.call call18 rfl rfl (Of_ok Sl.o (by omega))) ?_
  rintro _ _ ⟨_, _, ⟨ad9, cp10, rfl, rfl⟩, rfl, rfl⟩
  refine G.r (Runs.assign rfl) ?_
  refine G.nt ?_
  refine W.ret ?_
  have hX := hR.ends hset (by omega)
  exact V.ret1 rfl rfl (vc 3 (.slice ad9 (listB (reachB (rowsB nd es) (maskB frm) (maskB set))).length cp10) (listB (reachB (rowsB nd es) (maskB frm) (maskB set))) :: I) (by rw [← hX]; exact Fit.sub) ⟨ad9, cp10, by rw [← hX], rfl⟩

theorem mask_one (u : Int) : maskB [u] = bitB u := by unfold maskB; simp
theorem bit_one {u : Int} (h : 0 ≤ u ∧ u < 64) : bitB u = oneB u.toNat := by unfold bitB oneB; rw [if_neg (by omega)]
theorem rowsB_sym {nd : Int} {es : List Pt} (hG : GrOk nd es) : SymR (rowsB nd es) := by
  have key : ∀ i j : Nat, (at_ (rowsB nd es) (i : Int)).getLsbD j = true → (at_ (rowsB nd es) (j : Int)).getLsbD i = true := fun i j h => by
    have hl := hG.rows.len
    have hr := hG.rng
    have hj : j < 64 := Classical.byContradiction fun hn => by rw [BitVec.getLsbD_of_ge _ _ (by omega)] at h; cases h
    have hi : (i : Int) < nd := Classical.byContradiction fun hn => by
      rw [at_nat, List.getD_eq_getElem?_getD, List.getElem?_eq_none (by omega)] at h
      exact absurd h (by show ¬ (0#64).getLsbD j = true; simp)
    have e1 := hG.rows.bit (i : Int) (j : Int) (by omega) hi (by omega) (by omega)
    rw [Int.toNat_natCast, h] at e1
    have h2 := of_decide_eq_true e1.symm
    have hjn : (j : Int) < nd := by
      rcases h2 with h3 | h3
      · have := hG.edge _ h3; simp only at this; omega
      · have := hG.edge _ h3; simp only at this; omega
    have e2 := hG.rows.bit (j : Int) (i : Int) (by omega) hjn (by omega) (by omega)
    rw [Int.toNat_natCast] at e2
    rw [e2, decide_eq_true_eq]
    exact h2.symm
  intro i j
  rw [Bool.eq_iff_iff]
  exact ⟨key i j, key j i⟩

end Go.Sl
