/- A part of the proofs of statements of this seat: contracts of functions, and the plain laws that they lean on. No conditions. -/
import Derived.Test.YtbimaodbcjjbfaaDoorConnC
namespace Go.Sl
open Go.Proofs
set_option linter.unusedVariables false
set_option linter.unusedSimpArgs false
set_option maxRecDepth 4000
def blksG (nd : Int) (es : List Pt) : List (List Pt) := if checkG nd es ≠ 0 then [] else blkG nd es
def brL (bs : List (List Pt)) : List Pt := (bs.filter fun b => decide (b.length = 1)).map hd0
def bridgesG (nd : Int) (es : List Pt) : List Pt := if checkG nd es ≠ 0 then [] else brL (blkG nd es)
def nodesM (b : List Pt) : BitVec 64 := b.foldl (fun m e => m ||| (bitB e.u ||| bitB e.v)) 0#64
def jointM (bs : List (List Pt)) : BitVec 64 × BitVec 64 := bs.foldl (fun p b => (p.1 ||| nodesM b, p.2 ||| (p.1 &&& nodesM b))) (0#64, 0#64)
def jointsG (nd : Int) (es : List Pt) : List Int := if checkG nd es ≠ 0 then [] else listB (jointM (blkG nd es)).2
theorem nodesM_take {b : List Pt} {k : Nat} (h : k < b.length) : nodesM (b.take (k + 1)) = nodesM (b.take k) ||| (bitB (at_ b (k : Int)).u ||| bitB (at_ b (k : Int)).v) := by unfold nodesM; rw [take_at b k h, List.foldl_append]; rfl
theorem jointM_take {bs : List (List Pt)} {k : Nat} (h : k < bs.length) : jointM (bs.take (k + 1)) = ((jointM (bs.take k)).1 ||| nodesM (at_ bs (k : Int)), (jointM (bs.take k)).2 ||| ((jointM (bs.take k)).1 &&& nodesM (at_ bs (k : Int)))) := by unfold jointM; rw [take_at bs k h, List.foldl_append]; rfl
theorem brL_yes {bs : List (List Pt)} {k : Nat} (h : k < bs.length) (h1 : (at_ bs (k : Int)).length = 1) : brL (bs.take (k + 1)) = brL (bs.take k) ++ [hd0 (at_ bs (k : Int))] := by
  unfold brL; rw [take_at bs k h, List.filter_append, List.map_append]; simp [h1]
theorem brL_no {bs : List (List Pt)} {k : Nat} (h : k < bs.length) (h1 : ¬ (at_ bs (k : Int)).length = 1) : brL (bs.take (k + 1)) = brL (bs.take k) := by
  unfold brL; rw [take_at bs k h, List.filter_append, List.map_append]; simp [h1]
theorem at_xs {α : Type} [Enc α] {rs : List (RowG α)} {bs : List (List α)} (h : rs.map RowG.xs = bs) {k : Nat} (hk : k < rs.length) : at_ bs (k : Int) = (at_ rs (k : Int)).xs := by
  rw [← h, at_nat, at_nat, List.getD_eq_getElem?_getD, List.getD_eq_getElem?_getD, List.getElem?_map, List.getElem?_eq_getElem hk]; rfl
theorem len_xs {α : Type} [Enc α] {rs : List (RowG α)} {bs : List (List α)} (h : rs.map RowG.xs = bs) : bs.length = rs.length := by rw [← h, List.length_map]
theorem brL_len (bs : List (List Pt)) : (brL bs).length ≤ bs.length := by unfold brL; rw [List.length_map]; exact List.length_filter_le _ _

theorem BlksC_ok {κ : Ctx} {I : List Item} {nd : Int} {va : Value} {es : List Pt} (hl : Sl κ I va es) (hT : TabRd κ I 0 tzCells) :
    CallS Tryd.prog κ 14 [.agg #[I64 (nd), va]] I (fun r J => ∃ a c rs, r = .tuple #[.slice a rs.length c, I64 (checkG nd es)] ∧ rs.map RowG.xs = blksG nd es ∧ rs.length ≤ 4300 ∧ J = vc 23 (.slice a rs.length c) rs :: (ownR 38 rs ++ I)) := by
 refine CallS.enter (L := [(0, .agg #[I64 (nd), va])]) Tryd.func14 rfl rfl rfl rfl ?_
 refine W.sr ?_
 refine G.e (Eff.box (cs := [_, _]) rfl rfl rfl) ?_
 rintro _ _ ⟨b1, rfl, rfl⟩
 refine G.r (Runs.assign rfl) ?_
 refine G.r (Runs.assign rfl) ?_
 refine G.nt ?_
 refine W.seq ?_
 refine W.sr ?_
 refine G.r (Runs.lds (vs := [_, _]) ty25) ?_
 refine G.e (Eff.call call66 rfl rfl (CheckGen_ok (Sl.f hl))) ?_
 rintro _ _ ⟨_, _, ⟨rfl, rfl⟩, rfl, rfl⟩
 refine G.r (Runs.assign rfl) ?_
 refine G.nt ?_
 refine W.sr ?_
 refine G.r (Runs.move rfl) ?_
 refine G.r (Runs.neq rfl rfl) ?_
 refine G.nt ?_
 refine W.ite rfl (fun c8 => ?_) (fun c8 => ?_)
 ·refine W.sr ?_
  refine G.r (Runs.move rfl) ?_
  refine G.r (Runs.assign rfl) ?_
  refine G.r (Runs.assign rfl) ?_
  refine G.nt ?_
  refine W.ret ?_
  refine V.then_ret ?_
  have hX : blksG nd es = [] := if_pos c8
  exact V.ret2 rfl rfl rfl (vc 23 (.slice none ([] : List (RowG Pt)).length 0) ([] : List (RowG Pt)) :: (ownR 38 ([] : List (RowG Pt)) ++ I)) (Fit.trans (show Fit κ _ I from Fit.m) (Fit.nilvc (α := RowG Pt) _ _)) ⟨none, 0, [], rfl, by rw [hX]; rfl, by simp, rfl⟩
 ·refine W.skip ?_
  refine V.then ?_
  refine W.sr ?_
  refine G.r (Runs.lds (vs := [_, _]) ty25) ?_
  refine G.e (Eff.call call67 rfl rfl (blocks_ok (nd := nd) (Sl.f hl) (checkG_ok.1 (Classical.not_not.1 c8)) (TabRd.fit hT Fit.m))) ?_
  rintro _ _ ⟨_, _, ⟨ad2, cp3, rs4, rfl, hrs4, hbrs4, rfl⟩, rfl, rfl⟩
  refine G.fit (J := vc 23 (.slice ad2 rs4.length cp3) (rs4) :: blk b1 [I64 (nd), va] 25 :: (ownR 38 rs4 ++ I)) Fit.s ?_
  refine G.r (Runs.assign rfl) ?_
  refine G.r (Runs.assign rfl) ?_
  refine G.nt ?_
  refine W.ret ?_
  have hz : checkG nd es = 0 := Classical.not_not.1 c8
  exact V.ret2 rfl rfl rfl (vc 23 (.slice ad2 rs4.length cp3) rs4 :: (ownR 38 rs4 ++ I)) (by first | exact Fit.s | exact Fit.sub) ⟨ad2, cp3, rs4, by rw [hz], by unfold blksG; rw [if_neg c8, hrs4], hbrs4, rfl⟩

theorem Bridges_ok {κ : Ctx} {I : List Item} {nd : Int} {va : Value} {es : List Pt} (hl : Sl κ I va es) (hT : TabRd κ I 0 tzCells) :
    CallS Tryd.prog κ 15 [.agg #[I64 (nd), va]] I (fun r J => ∃ a c, r = .tuple #[.slice a (bridgesG nd es).length c, I64 (checkG nd es)] ∧ J = vc 38 (.slice a (bridgesG nd es).length c) (bridgesG nd es) :: I) := by
 refine CallS.enter (L := [(0, .agg #[I64 (nd), va])]) Tryd.func15 rfl rfl rfl rfl ?_
 refine W.sr ?_
 refine G.e (Eff.box (cs := [_, _]) rfl rfl rfl) ?_
 rintro _ _ ⟨b1, rfl, rfl⟩
 refine G.r (Runs.assign rfl) ?_
 refine G.r (Runs.assign rfl) ?_
 refine G.nt ?_
 refine W.seq ?_
 refine W.sr ?_
 refine G.r (Runs.lds (vs := [_, _]) ty25) ?_
 refine G.e (Eff.call call66 rfl rfl (CheckGen_ok (Sl.f hl))) ?_
 rintro _ _ ⟨_, _, ⟨rfl, rfl⟩, rfl, rfl⟩
 refine G.r (Runs.assign rfl) ?_
 refine G.nt ?_
 refine W.sr ?_
 refine G.r (Runs.move rfl) ?_
 refine G.r (Runs.neq rfl rfl) ?_
 refine G.nt ?_
 refine W.ite rfl (fun c11 => ?_) (fun c11 => ?_)
 ·refine W.sr ?_
  refine G.r (Runs.move rfl) ?_
  refine G.r (Runs.assign rfl) ?_
  refine G.r (Runs.assign rfl) ?_
  refine G.nt ?_
  refine W.ret ?_
  refine V.then_ret ?_
  have hX : (bridgesG nd es) = [] := if_pos c11
  exact V.ret2 rfl rfl rfl (vc 38 (.slice none (bridgesG nd es).length 0) (bridgesG nd es) :: I) (by rw [hX]; exact Fit.trans (show Fit κ _ I from Fit.m) (Fit.nilvc (α := Pt) _ _)) ⟨none, 0, by rw [hX]; rfl, rfl⟩
 ·refine W.skip ?_
  refine V.then ?_
  refine W.sr ?_
  refine G.r (Runs.assign rfl) ?_
  refine G.nt ?_
  refine W.seq ?_
  refine W.sr ?_
  refine G.r (Runs.lds (vs := [_, _]) ty25) ?_
  refine G.e (Eff.call call67 rfl rfl (blocks_ok (nd := nd) (Sl.f hl) (checkG_ok.1 (Classical.not_not.1 c11)) (TabRd.fit hT Fit.m))) ?_
  rintro _ _ ⟨_, _, ⟨ad2, cp3, rs4, rfl, hrs4, hbrs4, rfl⟩, rfl, rfl⟩
  refine G.fit (J := vc 23 (.slice ad2 rs4.length cp3) (rs4) :: blk b1 [I64 (nd), va] 25 :: (ownR 38 rs4 ++ I)) Fit.s ?_
  refine G.r (Runs.lens Tryd.underlying29 rfl) ?_
  refine G.r (Runs.move rfl) ?_
  refine G.nt ?_
  refine W.sub (L' := [(16, _), (15, _), (14, _), (5, _)]) (Sub.cons rfl (Sub.cons rfl (Sub.cons rfl (Sub.cons rfl Sub.nil)))) ?_
  refine W.block ?_
  refine W.loop (σ := Nat × (Option Addr) × Nat × (List Pt)) (fun s => ([(5, .slice s.2.1 s.2.2.2.length s.2.2.1), (14, .slice ad2 rs4.length cp3), (15, I64 (((rs4.length : Nat) : Int))), (16, I64 (((s.1 : Nat) : Int)))] : Env)) (fun s => vc 38 (.slice s.2.1 s.2.2.2.length s.2.2.1) (s.2.2.2) :: vc 23 (.slice ad2 rs4.length cp3) (rs4) :: blk b1 [I64 (nd), va] 25 :: (ownR 38 rs4 ++ I)) (fun s => (s.1 ≤ rs4.length) ∧ (s.2.2.2 = brL ((blkG nd es).take s.1))) (fun s => rs4.length - s.1) (0, none, 0, []) (show ((0 : Nat) ≤ rs4.length) ∧ (([] : List Pt) = brL ((blkG nd es).take (0 : Nat))) from ⟨(by omega), rfl⟩) (Sub.cons (lookV rfl (by first | rfl | simp)) (Sub.cons rfl (Sub.cons rfl (Sub.cons lookO Sub.nil)))) (show Fit κ _ (vc 38 (.slice (none) ([]).length (0)) (([])) :: vc 23 (.slice ad2 rs4.length cp3) (rs4) :: blk b1 [I64 (nd), va] 25 :: (ownR 38 rs4 ++ I)) from (Fit.nilvc _ _)) ?_
  rintro ⟨k, a, c, out⟩ hp
  obtain ⟨hk, ho⟩ : (k ≤ rs4.length) ∧ (out = brL ((blkG nd es).take k)) := hp
  show W Tryd.prog κ 31 _ _ ([(5, .slice a out.length c), (14, .slice ad2 rs4.length cp3), (15, I64 (((rs4.length : Nat) : Int))), (16, I64 (((k : Nat) : Int)))] : Env) (vc 38 (.slice a out.length c) (out) :: vc 23 (.slice ad2 rs4.length cp3) (rs4) :: blk b1 [I64 (nd), va] 25 :: (ownR 38 rs4 ++ I))
  refine W.pull (Sl.le (Sl.vec (xs := rs4) (by repeat (first | exact List.mem_cons_self | apply List.mem_cons_of_mem)))) fun hmx => ?_
  have hol : out.length ≤ rs4.length := by rw [ho]; refine Nat.le_trans (brL_len _) ?_; rw [List.length_take, len_xs hrs4]; omega
  refine W.sr ?_
  refine G.r (Runs.lss rfl rfl) ?_
  refine G.nt ?_
  refine W.seq ?_
  refine W.ite rfl (fun c17 => ?_) (fun c17 => ?_)
  ·refine W.skip ?_
   refine V.then ?_
   refine W.seq ?_
   refine W.block ?_
   refine W.sr ?_
   refine G.r (Runs.idx (α := (RowG Pt)) (xs := rs4) Tryd.underlying29 ty23 rfl rfl Sl.o (by omega) (by omega)) ?_
   refine G.r (Runs.getf0 (α := (RowG Pt)) (xs := rs4) (u := .slice (at_ rs4 ((k : Nat) : Int)).a (at_ rs4 ((k : Nat) : Int)).xs.length (at_ rs4 ((k : Nat) : Int)).c) ty23 rfl Sl.o (by omega) (by omega) rfl) ?_
   refine G.r (Runs.assign rfl) ?_
   refine G.nt ?_
   refine W.sr ?_
   refine G.r (Runs.move rfl) ?_
   refine G.r (Runs.lens Tryd.underlying23 rfl) ?_
   refine G.r (Runs.eql rfl rfl) ?_
   refine G.nt ?_
   refine W.ite rfl (fun c22 => ?_) (fun c22 => ?_)
   ·refine W.region ?_
    refine G.r (Runs.move rfl) ?_
    refine G.r (Runs.move rfl) ?_
    refine G.r (Runs.idx (α := Pt) (xs := (at_ rs4 ((k : Nat) : Int)).xs) Tryd.underlying23 ty38 rfl rfl (HeldAll.at (ownR_in (e := 38) (rs := rs4) (fun x hx => by repeat (first | exact List.mem_append_left _ hx | apply List.mem_append_right | apply List.mem_cons_of_mem))) (i := ((k : Nat) : Int)) (by omega) (by omega)) (by omega) (by omega)) ?_
    refine G.r (Runs.gets (α := Pt) (xs := (at_ rs4 ((k : Nat) : Int)).xs) ty38 rfl (HeldAll.at (ownR_in (e := 38) (rs := rs4) (fun x hx => by repeat (first | exact List.mem_append_left _ hx | apply List.mem_append_right | apply List.mem_cons_of_mem))) (i := ((k : Nat) : Int)) (by omega) (by omega)) (by omega) (by omega)) ?_
    refine G.e (Eff.bs (α := Pt) (cs := [_, _]) (xs := [⟨(at_ ((at_ rs4 ((k : Nat) : Int)).xs) 0).u, (at_ ((at_ rs4 ((k : Nat) : Int)).xs) 0).v⟩]) Tryd.underlying23 ty38 rfl rfl (by decide) (by decide) rfl rfl rfl rfl) ?_
    rintro _ _ ⟨ad5, rfl, rfl⟩
    refine G.e (Eff.app (α := Pt) (e := 38) (xs := out) (ys := ([⟨(at_ ((at_ rs4 ((k : Nat) : Int)).xs) 0).u, (at_ ((at_ rs4 ((k : Nat) : Int)).xs) 0).v⟩] : List Pt)) Tryd.underlying23 ty38 rfl rfl rfl (by repeat (first | exact List.mem_cons_self | apply List.mem_cons_of_mem)) Sl.o (by simp only [List.length_cons, List.length_nil]; omega) (by decide) rfl (fun _ _ => (by repeat (first | exact At.head _ _ _ | apply At.tail)))) ?_
    rintro _ _ ⟨ad6, cp7, rfl, rfl⟩
    refine G.r (Runs.assign rfl) ?_
    refine G.nil ?_
    refine V.block_normal ?_
    refine V.then ?_
    refine W.sub (L' := [(5, _), (14, _), (15, _), (16, _)]) (Sub.cons rfl (Sub.cons rfl (Sub.cons rfl (Sub.cons rfl Sub.nil)))) ?_
    refine W.region ?_
    refine G.r (Runs.add rfl rfl (by unfold InR; omega)) ?_
    refine G.r (Runs.move rfl) ?_
    refine G.nil ?_
    exact V.next ((k + 1), (ad6), (cp7), (out ++ ([⟨(at_ ((at_ rs4 ((k : Nat) : Int)).xs) 0).u, (at_ ((at_ rs4 ((k : Nat) : Int)).xs) 0).v⟩] : List Pt))) (show ((k + 1 : Nat) ≤ rs4.length) ∧ ((out ++ ([⟨(at_ ((at_ rs4 ((k : Nat) : Int)).xs) 0).u, (at_ ((at_ rs4 ((k : Nat) : Int)).xs) 0).v⟩] : List Pt) : List Pt) = brL ((blkG nd es).take (k + 1 : Nat))) from ⟨(by omega), (by first | rw [brL_yes (by rw [len_xs hrs4]; omega) (by rw [at_xs hrs4 (by omega)]; omega), ← ho, at_xs hrs4 (by omega)]; rfl | rw [brL_no (by rw [len_xs hrs4]; omega) (by rw [at_xs hrs4 (by omega)]; omega), ← ho])⟩) (show rs4.length - (k + 1 : Nat) < rs4.length - k from (by omega)) (Sub.cons (lookV rfl (by first | rfl | simp)) (Sub.cons rfl (Sub.cons rfl (Sub.cons lookO Sub.nil)))) (show Fit κ _ (vc 38 (.slice (ad6) (out ++ ([⟨(at_ ((at_ rs4 ((k : Nat) : Int)).xs) 0).u, (at_ ((at_ rs4 ((k : Nat) : Int)).xs) 0).v⟩] : List Pt)).length (cp7)) ((out ++ ([⟨(at_ ((at_ rs4 ((k : Nat) : Int)).xs) 0).u, (at_ ((at_ rs4 ((k : Nat) : Int)).xs) 0).v⟩] : List Pt))) :: vc 23 (.slice ad2 rs4.length cp3) (rs4) :: blk b1 [I64 (nd), va] 25 :: (ownR 38 rs4 ++ I)) from Fit.sub)
   ·refine W.skip ?_
    refine V.block_normal ?_
    refine V.then ?_
    refine W.region ?_
    refine G.r (Runs.add rfl rfl (by unfold InR; omega)) ?_
    refine G.r (Runs.move rfl) ?_
    refine G.nil ?_
    exact V.next ((k + 1), (a), (c), (out)) (show ((k + 1 : Nat) ≤ rs4.length) ∧ ((out : List Pt) = brL ((blkG nd es).take (k + 1 : Nat))) from ⟨(by omega), (by first | rw [brL_yes (by rw [len_xs hrs4]; omega) (by rw [at_xs hrs4 (by omega)]; omega), ← ho, at_xs hrs4 (by omega)]; rfl | rw [brL_no (by rw [len_xs hrs4]; omega) (by rw [at_xs hrs4 (by omega)]; omega), ← ho])⟩) (show rs4.length - (k + 1 : Nat) < rs4.length - k from (by omega)) (Sub.cons (lookV rfl (by first | rfl | simp)) (Sub.cons rfl (Sub.cons rfl (Sub.cons lookO Sub.nil)))) (show Fit κ _ (vc 38 (.slice (a) (out).length (c)) ((out)) :: vc 23 (.slice ad2 rs4.length cp3) (rs4) :: blk b1 [I64 (nd), va] 25 :: (ownR 38 rs4 ++ I)) from Fit.sub)
  ·refine W.exit ?_
   refine V.then_exit ?_
   refine V.then_exit ?_
   refine V.block_hit ?_
   refine V.then ?_
   refine W.sr ?_
   refine G.r (Runs.move rfl) ?_
   refine G.r (Runs.assign rfl) ?_
   refine G.r (Runs.assign rfl) ?_
   refine G.nt ?_
   refine W.ret ?_
   have hz : checkG nd es = 0 := Classical.not_not.1 c11
   have hX : (bridgesG nd es) = out := by unfold bridgesG; rw [if_neg c11, ho, List.take_of_length_le (by rw [len_xs hrs4]; omega)]
   exact V.ret2 rfl rfl rfl (vc 38 (.slice a (bridgesG nd es).length c) (bridgesG nd es) :: I) (by rw [hX]; first | exact Fit.sub | exact Fit.s) ⟨a, c, by rw [hX, hz], rfl⟩

theorem Joints_ok {κ : Ctx} {I : List Item} {nd : Int} {va : Value} {es : List Pt} (hl : Sl κ I va es) (hT : TabRd κ I 0 tzCells) :
    CallS Tryd.prog κ 16 [.agg #[I64 (nd), va]] I (fun r J => ∃ a c, r = .tuple #[.slice a (jointsG nd es).length c, I64 (checkG nd es)] ∧ J = vc 3 (.slice a (jointsG nd es).length c) (jointsG nd es) :: I) := by
 refine CallS.enter (L := [(0, .agg #[I64 (nd), va])]) Tryd.func16 rfl rfl rfl rfl ?_
 refine W.sr ?_
 refine G.e (Eff.box (cs := [_, _]) rfl rfl rfl) ?_
 rintro _ _ ⟨b1, rfl, rfl⟩
 refine G.r (Runs.assign rfl) ?_
 refine G.r (Runs.assign rfl) ?_
 refine G.nt ?_
 refine W.seq ?_
 refine W.sr ?_
 refine G.r (Runs.lds (vs := [_, _]) ty25) ?_
 refine G.e (Eff.call call66 rfl rfl (CheckGen_ok (Sl.f hl))) ?_
 rintro _ _ ⟨_, _, ⟨rfl, rfl⟩, rfl, rfl⟩
 refine G.r (Runs.assign rfl) ?_
 refine G.nt ?_
 refine W.sr ?_
 refine G.r (Runs.move rfl) ?_
 refine G.r (Runs.neq rfl rfl) ?_
 refine G.nt ?_
 refine W.ite rfl (fun c15 => ?_) (fun c15 => ?_)
 ·refine W.sr ?_
  refine G.r (Runs.move rfl) ?_
  refine G.r (Runs.assign rfl) ?_
  refine G.r (Runs.assign rfl) ?_
  refine G.nt ?_
  refine W.ret ?_
  refine V.then_ret ?_
  have hX : (jointsG nd es) = [] := if_pos c15
  exact V.ret2 rfl rfl rfl (vc 3 (.slice none (jointsG nd es).length 0) (jointsG nd es) :: I) (by rw [hX]; exact Fit.trans (show Fit κ _ I from Fit.m) (Fit.nilvc (α := Int) _ _)) ⟨none, 0, by rw [hX]; rfl, rfl⟩
 ·refine W.skip ?_
  refine V.then ?_
  refine W.sr ?_
  refine G.r (Runs.assign rfl) ?_
  refine G.r (Runs.assign rfl) ?_
  refine G.nt ?_
  refine W.seq ?_
  refine W.sr ?_
  refine G.r (Runs.lds (vs := [_, _]) ty25) ?_
  refine G.e (Eff.call call67 rfl rfl (blocks_ok (nd := nd) (Sl.f hl) (checkG_ok.1 (Classical.not_not.1 c15)) (TabRd.fit hT Fit.m))) ?_
  rintro _ _ ⟨_, _, ⟨ad2, cp3, rs4, rfl, hrs4, hbrs4, rfl⟩, rfl, rfl⟩
  refine G.fit (J := vc 23 (.slice ad2 rs4.length cp3) (rs4) :: blk b1 [I64 (nd), va] 25 :: (ownR 38 rs4 ++ I)) Fit.s ?_
  refine G.r (Runs.lens Tryd.underlying29 rfl) ?_
  refine G.r (Runs.move rfl) ?_
  refine G.nt ?_
  refine W.sub (L' := [(20, _), (19, _), (18, _), (6, _), (5, _)]) (Sub.cons rfl (Sub.cons rfl (Sub.cons rfl (Sub.cons rfl (Sub.cons rfl Sub.nil))))) ?_
  refine W.block ?_
  refine W.loop (σ := Nat × (BitVec 64) × (BitVec 64)) (fun s => ([(5, U64 (s.2.1)), (6, U64 (s.2.2)), (18, .slice ad2 rs4.length cp3), (19, I64 (((rs4.length : Nat) : Int))), (20, I64 (((s.1 : Nat) : Int)))] : Env)) (fun s => vc 23 (.slice ad2 rs4.length cp3) (rs4) :: blk b1 [I64 (nd), va] 25 :: (ownR 38 rs4 ++ I)) (fun s => (s.1 ≤ rs4.length) ∧ ((s.2.1, s.2.2) = jointM ((blkG nd es).take s.1))) (fun s => rs4.length - s.1) (0, 0#64, 0#64) (show ((0 : Nat) ≤ rs4.length) ∧ (((0#64 : BitVec 64), (0#64 : BitVec 64)) = jointM ((blkG nd es).take (0 : Nat))) from ⟨(by omega), rfl⟩) (Sub.cons (lookV rfl (by first | rfl | simp)) (Sub.cons (lookV rfl (by first | rfl | simp)) (Sub.cons rfl (Sub.cons rfl (Sub.cons lookO Sub.nil))))) (show Fit κ _ (vc 23 (.slice ad2 rs4.length cp3) (rs4) :: blk b1 [I64 (nd), va] 25 :: (ownR 38 rs4 ++ I)) from Fit.sub) ?_
  rintro ⟨k, o1, o2⟩ hp
  obtain ⟨hk, ho⟩ : (k ≤ rs4.length) ∧ ((o1, o2) = jointM ((blkG nd es).take k)) := hp
  show W Tryd.prog κ 51 _ _ ([(5, U64 (o1)), (6, U64 (o2)), (18, .slice ad2 rs4.length cp3), (19, I64 (((rs4.length : Nat) : Int))), (20, I64 (((k : Nat) : Int)))] : Env) (vc 23 (.slice ad2 rs4.length cp3) (rs4) :: blk b1 [I64 (nd), va] 25 :: (ownR 38 rs4 ++ I))
  refine W.pull (Sl.le (Sl.vec (xs := rs4) (by repeat (first | exact List.mem_cons_self | apply List.mem_cons_of_mem)))) fun hmx => ?_
  refine W.sr ?_
  refine G.r (Runs.lss rfl rfl) ?_
  refine G.nt ?_
  refine W.seq ?_
  refine W.ite rfl (fun c21 => ?_) (fun c21 => ?_)
  ·refine W.skip ?_
   refine V.then ?_
   refine W.seq ?_
   refine W.block ?_
   refine W.sr ?_
   refine G.r (Runs.idx (α := (RowG Pt)) (xs := rs4) Tryd.underlying29 ty23 rfl rfl Sl.o (by omega) (by omega)) ?_
   refine G.r (Runs.getf0 (α := (RowG Pt)) (xs := rs4) (u := .slice (at_ rs4 ((k : Nat) : Int)).a (at_ rs4 ((k : Nat) : Int)).xs.length (at_ rs4 ((k : Nat) : Int)).c) ty23 rfl Sl.o (by omega) (by omega) rfl) ?_
   refine G.r (Runs.assign rfl) ?_
   refine G.nt ?_
   refine W.sr ?_
   refine G.r (Runs.assign rfl) ?_
   refine G.nt ?_
   refine W.seq ?_
   refine W.sr ?_
   refine G.r (Runs.move rfl) ?_
   refine G.r (Runs.lens Tryd.underlying23 rfl) ?_
   refine G.r (Runs.move rfl) ?_
   refine G.nt ?_
   refine W.block ?_
   refine W.loop (σ := Nat × (BitVec 64)) (fun s => ([(5, U64 (o1)), (6, U64 (o2)), (9, U64 (s.2)), (18, .slice ad2 rs4.length cp3), (19, I64 (((rs4.length : Nat) : Int))), (20, I64 (((k : Nat) : Int))), (24, .slice (at_ rs4 ((k : Nat) : Int)).a (at_ rs4 ((k : Nat) : Int)).xs.length (at_ rs4 ((k : Nat) : Int)).c), (25, I64 ((((at_ rs4 ((k : Nat) : Int)).xs.length : Nat) : Int))), (26, I64 (((s.1 : Nat) : Int)))] : Env)) (fun s => vc 23 (.slice ad2 rs4.length cp3) (rs4) :: blk b1 [I64 (nd), va] 25 :: (ownR 38 rs4 ++ I)) (fun s => (s.1 ≤ (at_ rs4 ((k : Nat) : Int)).xs.length) ∧ (s.2 = nodesM ((at_ rs4 ((k : Nat) : Int)).xs.take s.1))) (fun s => (at_ rs4 ((k : Nat) : Int)).xs.length - s.1) (0, 0#64) (show ((0 : Nat) ≤ (at_ rs4 ((k : Nat) : Int)).xs.length) ∧ ((0#64 : BitVec 64) = nodesM ((at_ rs4 ((k : Nat) : Int)).xs.take (0 : Nat))) from ⟨(by omega), rfl⟩) (Sub.cons rfl (Sub.cons rfl (Sub.cons (lookV rfl (by first | rfl | simp)) (Sub.cons rfl (Sub.cons rfl (Sub.cons rfl (Sub.cons rfl (Sub.cons rfl (Sub.cons lookO Sub.nil))))))))) (show Fit κ _ (vc 23 (.slice ad2 rs4.length cp3) (rs4) :: blk b1 [I64 (nd), va] 25 :: (ownR 38 rs4 ++ I)) from Fit.sub) ?_
   rintro ⟨j, m⟩ hp
   obtain ⟨hj, hm⟩ : (j ≤ (at_ rs4 ((k : Nat) : Int)).xs.length) ∧ (m = nodesM ((at_ rs4 ((k : Nat) : Int)).xs.take j)) := hp
   show W Tryd.prog κ 51 _ _ ([(5, U64 (o1)), (6, U64 (o2)), (9, U64 (m)), (18, .slice ad2 rs4.length cp3), (19, I64 (((rs4.length : Nat) : Int))), (20, I64 (((k : Nat) : Int))), (24, .slice (at_ rs4 ((k : Nat) : Int)).a (at_ rs4 ((k : Nat) : Int)).xs.length (at_ rs4 ((k : Nat) : Int)).c), (25, I64 ((((at_ rs4 ((k : Nat) : Int)).xs.length : Nat) : Int))), (26, I64 (((j : Nat) : Int)))] : Env) (vc 23 (.slice ad2 rs4.length cp3) (rs4) :: blk b1 [I64 (nd), va] 25 :: (ownR 38 rs4 ++ I))
   refine W.pull (Sl.le (HeldAll.at (ownR_in (e := 38) (rs := rs4) (fun x hx => by repeat (first | exact List.mem_append_left _ hx | apply List.mem_append_right | apply List.mem_cons_of_mem))) (i := ((k : Nat) : Int)) (by omega) (by omega))) fun hmx2 => ?_
   refine W.sr ?_
   refine G.r (Runs.lss rfl rfl) ?_
   refine G.nt ?_
   refine W.seq ?_
   refine W.ite rfl (fun c27 => ?_) (fun c27 => ?_)
   ·refine W.skip ?_
    refine V.then ?_
    refine W.seq ?_
    refine W.block ?_
    refine W.sr ?_
    refine G.r (Runs.idx (α := Pt) (xs := (at_ rs4 ((k : Nat) : Int)).xs) Tryd.underlying23 ty38 rfl rfl (HeldAll.at (ownR_in (e := 38) (rs := rs4) (fun x hx => by repeat (first | exact List.mem_append_left _ hx | apply List.mem_append_right | apply List.mem_cons_of_mem))) (i := ((k : Nat) : Int)) (by omega) (by omega)) (by omega) (by omega)) ?_
    refine G.r (Runs.gets (α := Pt) (xs := (at_ rs4 ((k : Nat) : Int)).xs) ty38 rfl (HeldAll.at (ownR_in (e := 38) (rs := rs4) (fun x hx => by repeat (first | exact List.mem_append_left _ hx | apply List.mem_append_right | apply List.mem_cons_of_mem))) (i := ((k : Nat) : Int)) (by omega) (by omega)) (by omega) (by omega)) ?_
    refine G.e (Eff.alloc ty38 rfl) ?_
    rintro _ _ ⟨b5, rfl, rfl⟩
    refine G.e (Eff.st (cs := [_, _]) (vs := [_, _]) (cs' := [_, _]) ty38) ?_
    rintro _ _ ⟨rfl, rfl⟩
    refine G.nt ?_
    refine W.drawn mixed ?_
    refine A.hold (blk b5 [I64 ((at_ ((at_ rs4 ((k : Nat) : Int)).xs) ((j : Nat) : Int)).u), I64 ((at_ ((at_ rs4 ((k : Nat) : Int)).xs) ((j : Nat) : Int)).v)] 38 :: vc 23 (.slice ad2 rs4.length cp3) (rs4) :: blk b1 [I64 (nd), va] 25 :: (ownR 38 rs4 ++ I)) 10 ?_
    refine D.r 0 rfl (Runs.move rfl) ?_ (hJ := Fit.sub)
    refine D.r 1 rfl (Runs.fieldAddr fld38_0 rfl) ?_ (hJ := Fit.sub)
    refine D.r 2 rfl (Runs.ld ty3) ?_ (hJ := Fit.sub)
    refine D.r 4 rfl (Runs.fieldAddr fld38_1 rfl) ?_ (hJ := Fit.sub)
    refine D.r 5 rfl (Runs.ld ty3) ?_ (hJ := Fit.sub)
    refine D.step (rs := [3]) (by kernel_rfl) rfl rfl (all1 ?_)
    refine Step.eff rfl (Wanted.plain rfl) (Eff.call call68 rfl rfl (Bit_ok ((at_ ((at_ rs4 ((k : Nat) : Int)).xs) ((j : Nat) : Int)).u))) ?_
    rintro _ _ ⟨_, _, ⟨rfl, rfl⟩, rfl, rfl⟩
    refine ⟨Fit.sub, ?_⟩
    refine D.step (rs := [6]) (by kernel_rfl) rfl rfl (all1 ?_)
    refine Step.eff rfl (Wanted.plain rfl) (Eff.call call68 rfl rfl (Bit_ok ((at_ ((at_ rs4 ((k : Nat) : Int)).xs) ((j : Nat) : Int)).v))) ?_
    rintro _ _ ⟨_, _, ⟨rfl, rfl⟩, rfl, rfl⟩
    refine ⟨Fit.sub, ?_⟩
    refine D.r 7 rfl (Runs.orB (a := bitB ((at_ ((at_ rs4 ((k : Nat) : Int)).xs) ((j : Nat) : Int)).u)) (b := bitB ((at_ ((at_ rs4 ((k : Nat) : Int)).xs) ((j : Nat) : Int)).v)) rfl rfl) ?_ (hJ := Fit.sub)
    refine D.r 8 rfl (Runs.orB (a := m) (b := (bitB ((at_ ((at_ rs4 ((k : Nat) : Int)).xs) ((j : Nat) : Int)).u)) ||| (bitB ((at_ ((at_ rs4 ((k : Nat) : Int)).xs) ((j : Nat) : Int)).v))) rfl rfl) ?_ (hJ := Fit.sub)
    refine D.r 9 rfl (Runs.assign rfl) ?_ (hJ := Fit.sub)
    refine D.done (by kernel_rfl) ?_
    refine V.block_normal ?_
    refine V.then ?_
    refine W.sub (L' := [(9, _), (5, _), (6, _), (18, _), (19, _), (20, _), (24, _), (25, _), (26, _)]) (Sub.cons rfl (Sub.cons rfl (Sub.cons rfl (Sub.cons rfl (Sub.cons rfl (Sub.cons rfl (Sub.cons rfl (Sub.cons rfl (Sub.cons rfl Sub.nil))))))))) ?_
    refine W.region ?_
    refine G.r (Runs.add rfl rfl (by unfold InR; omega)) ?_
    refine G.r (Runs.move rfl) ?_
    refine G.nil ?_
    exact V.next ((j + 1), (m ||| ((bitB ((at_ ((at_ rs4 ((k : Nat) : Int)).xs) ((j : Nat) : Int)).u)) ||| (bitB ((at_ ((at_ rs4 ((k : Nat) : Int)).xs) ((j : Nat) : Int)).v))))) (show ((j + 1 : Nat) ≤ (at_ rs4 ((k : Nat) : Int)).xs.length) ∧ ((m ||| ((bitB ((at_ ((at_ rs4 ((k : Nat) : Int)).xs) ((j : Nat) : Int)).u)) ||| (bitB ((at_ ((at_ rs4 ((k : Nat) : Int)).xs) ((j : Nat) : Int)).v))) : BitVec 64) = nodesM ((at_ rs4 ((k : Nat) : Int)).xs.take (j + 1 : Nat))) from ⟨(by omega), (by rw [nodesM_take (by omega), ← hm])⟩) (show (at_ rs4 ((k : Nat) : Int)).xs.length - (j + 1 : Nat) < (at_ rs4 ((k : Nat) : Int)).xs.length - j from (by omega)) (Sub.cons rfl (Sub.cons rfl (Sub.cons (lookV rfl (by first | rfl | simp)) (Sub.cons rfl (Sub.cons rfl (Sub.cons rfl (Sub.cons rfl (Sub.cons rfl (Sub.cons lookO Sub.nil))))))))) (show Fit κ _ (vc 23 (.slice ad2 rs4.length cp3) (rs4) :: blk b1 [I64 (nd), va] 25 :: (ownR 38 rs4 ++ I)) from Fit.sub)
   ·refine W.exit ?_
    refine V.then_exit ?_
    refine V.then_exit ?_
    refine V.block_hit ?_
    refine V.then ?_
    refine W.sr ?_
    refine G.r (Runs.move rfl) ?_
    have hmf : m = nodesM (at_ rs4 ((k : Nat) : Int)).xs := by rw [hm, List.take_of_length_le (by omega)]
    refine G.r (Runs.move rfl) ?_
    refine G.r (Runs.move rfl) ?_
    refine G.r (Runs.andB (a := o1) (b := m) rfl rfl) ?_
    refine G.r (Runs.orB (a := o2) (b := o1 &&& m) rfl rfl) ?_
    refine G.r (Runs.assign rfl) ?_
    refine G.nt ?_
    refine W.sub (L' := [(6, _), (5, _), (9, _), (18, _), (19, _), (20, _)]) (Sub.cons rfl (Sub.cons rfl (Sub.cons rfl (Sub.cons rfl (Sub.cons rfl (Sub.cons rfl Sub.nil)))))) ?_
    refine W.region ?_
    refine G.r (Runs.move rfl) ?_
    refine G.r (Runs.move rfl) ?_
    refine G.r (Runs.orB (a := o1) (b := m) rfl rfl) ?_
    refine G.r (Runs.assign rfl) ?_
    refine G.nil ?_
    refine V.block_normal ?_
    refine V.then ?_
    refine W.region ?_
    refine G.r (Runs.add rfl rfl (by unfold InR; omega)) ?_
    refine G.r (Runs.move rfl) ?_
    refine G.nil ?_
    exact V.next ((k + 1), (o1 ||| m), (o2 ||| (o1 &&& m))) (show ((k + 1 : Nat) ≤ rs4.length) ∧ (((o1 ||| m : BitVec 64), (o2 ||| (o1 &&& m) : BitVec 64)) = jointM ((blkG nd es).take (k + 1 : Nat))) from ⟨(by omega), (by rw [jointM_take (by rw [len_xs hrs4]; omega), ← ho, at_xs hrs4 (by omega), ← hmf])⟩) (show rs4.length - (k + 1 : Nat) < rs4.length - k from (by omega)) (Sub.cons (lookV rfl (by first | rfl | simp)) (Sub.cons (lookV rfl (by first | rfl | simp)) (Sub.cons rfl (Sub.cons rfl (Sub.cons lookO Sub.nil))))) (show Fit κ _ (vc 23 (.slice ad2 rs4.length cp3) (rs4) :: blk b1 [I64 (nd), va] 25 :: (ownR 38 rs4 ++ I)) from Fit.sub)
  ·refine W.exit ?_
   refine V.then_exit ?_
   refine V.then_exit ?_
   refine V.block_hit ?_
   refine V.then ?_
   refine W.sr ?_
   refine G.r (Runs.move rfl) ?_
   refine G.e (Eff.call call69 rfl rfl (MList_ok o2 (TabRd.fit hT Fit.m))) ?_
   rintro _ _ ⟨_, _, ⟨ad6, cp7, rfl, rfl⟩, rfl, rfl⟩
   refine G.r (Runs.assign rfl) ?_
   refine G.r (Runs.assign rfl) ?_
   refine G.nt ?_
   refine W.ret ?_
   have hz : checkG nd es = 0 := Classical.not_not.1 c15
   have hX : (jointsG nd es) = listB o2 := by unfold jointsG; rw [if_neg c15]; rw [List.take_of_length_le (by rw [len_xs hrs4]; omega)] at ho; rw [← ho]
   exact V.ret2 rfl rfl rfl (vc 3 (.slice ad6 (jointsG nd es).length cp7) (jointsG nd es) :: I) (by rw [hX]; first | exact Fit.sub | exact Fit.s) ⟨ad6, cp7, by rw [hX, hz], rfl⟩

end Go.Sl
