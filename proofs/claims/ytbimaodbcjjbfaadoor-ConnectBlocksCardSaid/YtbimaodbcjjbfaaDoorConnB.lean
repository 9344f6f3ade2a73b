/- A part of the proofs of statements of this seat: contracts of functions, and the plain laws that they lean on. No conditions. -/
import Derived.Test.YtbimaodbcjjbfaaDoorConnA
import Derived.Test.YtbimaodbcjjbfaaDoorDfs3
namespace Go.Sl
open Go.Proofs
set_option linter.unusedVariables false
set_option linter.unusedSimpArgs false
set_option maxRecDepth 4000
theorem Fit.into {κ : Ctx} {A R B I : List Item} : Fit κ (A ++ R ++ (B ++ I)) (A ++ (B ++ (R ++ I))) := by
  refine Fit.perm ?_
  rw [List.append_assoc]
  refine List.Perm.append_left A ?_
  rw [← List.append_assoc, ← List.append_assoc]
  exact List.Perm.append_right I List.perm_append_comm
theorem Fit.outof {κ : Ctx} {A R B I : List Item} : Fit κ (A ++ (B ++ (R ++ I))) (A ++ R ++ (B ++ I)) := by
  refine Fit.perm ?_
  rw [List.append_assoc]
  refine List.Perm.append_left A ?_
  rw [← List.append_assoc, ← List.append_assoc]
  exact List.Perm.append_right I List.perm_append_comm

theorem top_snoc {w : List Vis} {t : Vis} : at_ (w ++ [t]) ((((w ++ [t]).length : Nat) : Int) - 1) = t := by
  rw [show (((w ++ [t]).length : Nat) : Int) - 1 = (w.length : Int) by simp]; exact at_last w t

set_option maxHeartbeats 4000000 in
theorem SRun_ok {κ : Ctx} {I : List Item} {b : Nat} {ra na qa wa ea oa : Option Addr} {rc nc qc wc ec oc : Nat} {rows : List (BitVec 64)} {S : Srch} {rs : List (RowG Pt)} {root : Int} (hok : DfsOk rows S) (hS : S.way = []) (hroot : 0 ≤ root ∧ root < rows.length) (h0 : at_ S.num root = 0) (hrs : rs.map RowG.xs = S.out) {M : Nat} (hM : M ≤ 90000) (hb0 : S.edges.length + mea S ≤ M ∧ rs.length + mea S ≤ M) (hT : TabRd κ I 0 tzCells) :
    CallS Tryd.prog κ 120 [.pointer (some ⟨b, 0, none⟩), I64 (root)] (blk b [.slice ra rows.length rc, .slice na S.num.length nc, .slice qa S.low.length qc, .slice wa S.way.length wc, .slice ea S.edges.length ec, .slice oa rs.length oc, I64 (S.cd)] 155 :: vc 99 (.slice ra rows.length rc) (rows) :: vc 3 (.slice na S.num.length nc) (S.num) :: vc 3 (.slice qa S.low.length qc) (S.low) :: vc 183 (.slice wa S.way.length wc) (S.way) :: vc 38 (.slice ea S.edges.length ec) (S.edges) :: vc 23 (.slice oa rs.length oc) (rs) :: (ownR 38 rs ++ I)) (fun r J => ∃ T wa' wc' ea' ec' oa' oc' rs', r = .tuple #[] ∧ (EndsAt rows (S.enter rows root (-1)) T ∧ DfsOk rows T ∧ rs'.map RowG.xs = T.out ∧ T.edges.length + mea T ≤ M ∧ rs'.length + mea T ≤ M) ∧ J = blk b [.slice ra rows.length rc, .slice na T.num.length nc, .slice qa T.low.length qc, .slice wa' T.way.length wc', .slice ea' T.edges.length ec', .slice oa' rs'.length oc', I64 (T.cd)] 155 :: vc 99 (.slice ra rows.length rc) (rows) :: vc 3 (.slice na T.num.length nc) (T.num) :: vc 3 (.slice qa T.low.length qc) (T.low) :: vc 183 (.slice wa' T.way.length wc') (T.way) :: vc 38 (.slice ea' T.edges.length ec') (T.edges) :: vc 23 (.slice oa' rs'.length oc') (rs') :: (ownR 38 rs' ++ I)) := by
 have hnl0 := hok.nl
 have hll0 := hok.ll
 have hcd0 := hok.cd_le
 have hw0 : S.way.length = 0 := by rw [hS]; rfl
 refine CallS.enter (L := [(0, .pointer (some ⟨b, 0, none⟩)), (1, I64 (root))]) Tryd.func120 rfl rfl rfl rfl ?_
 refine W.scope (σ := Srch × (Option Addr) × Nat × (Option Addr) × Nat × (Option Addr) × Nat × (List (RowG Pt))) (fun s => ([(0, .pointer (some ⟨b, 0, none⟩))] : Env)) (fun s => blk b [.slice ra rows.length rc, .slice na s.1.num.length nc, .slice qa s.1.low.length qc, .slice s.2.1 s.1.way.length s.2.2.1, .slice s.2.2.2.1 s.1.edges.length s.2.2.2.2.1, .slice s.2.2.2.2.2.1 s.2.2.2.2.2.2.2.length s.2.2.2.2.2.2.1, I64 (s.1.cd)] 155 :: vc 99 (.slice ra rows.length rc) (rows) :: vc 3 (.slice na s.1.num.length nc) (s.1.num) :: vc 3 (.slice qa s.1.low.length qc) (s.1.low) :: vc 183 (.slice s.2.1 s.1.way.length s.2.2.1) (s.1.way) :: vc 38 (.slice s.2.2.2.1 s.1.edges.length s.2.2.2.2.1) (s.1.edges) :: vc 23 (.slice s.2.2.2.2.2.1 s.2.2.2.2.2.2.2.length s.2.2.2.2.2.2.1) (s.2.2.2.2.2.2.2) :: (ownR 38 s.2.2.2.2.2.2.2 ++ I)) (fun s => (Gone rows (S.enter rows root (-1)) s.1) ∧ (DfsOk rows s.1) ∧ (s.1.way ≠ []) ∧ (s.2.2.2.2.2.2.2.map RowG.xs = s.1.out) ∧ (s.1.edges.length + mea s.1 ≤ M ∧ s.2.2.2.2.2.2.2.length + mea s.1 ≤ M)) (fun s => mea s.1) rfl ?_ ?_
 ·refine W.region ?_
  refine G.r (Runs.move rfl) ?_
  refine G.r (Runs.move rfl) ?_
  refine G.e (Eff.call call148 rfl rfl (CallS.fit (show Fit κ _ (blk b [.slice ra rows.length rc, .slice na S.num.length nc, .slice qa S.low.length qc, .slice wa S.way.length wc, .slice ea S.edges.length ec, .slice oa rs.length oc, I64 (S.cd)] 155 :: vc 99 (.slice ra rows.length rc) (rows) :: vc 3 (.slice na S.num.length nc) (S.num) :: vc 3 (.slice qa S.low.length qc) (S.low) :: vc 183 (.slice wa S.way.length wc) (S.way) :: vc 38 (.slice ea S.edges.length ec) (S.edges) :: vc 23 (.slice oa rs.length oc) (rs) :: (ownR 38 rs ++ I)) from Fit.s) (SEnter_ok root (-1) (by omega) (by omega) (by omega) (by omega) (by omega)))) ?_
  rintro _ _ ⟨_, _, ⟨wa1, wc2, rfl, rfl⟩, rfl, rfl⟩
  show G Tryd.prog κ _ _ _ _ ([(10, .tuple #[]), (9, I64 (root)), (8, .pointer (some ⟨b, 0, none⟩)), (0, .pointer (some ⟨b, 0, none⟩)), (1, I64 (root))] : Env) (blk b [.slice ra rows.length rc, .slice na (List.set S.num root.toNat (S.cd + 1)).length nc, .slice qa (List.set S.low root.toNat (S.cd + 1)).length qc, .slice wa1 (S.way ++ [(⟨root, (-1), at_ rows root⟩ : Vis)]).length wc2, .slice ea S.edges.length ec, .slice oa rs.length oc, I64 (S.cd + 1)] 155 :: vc 99 (.slice ra rows.length rc) (rows) :: vc 3 (.slice na (List.set S.num root.toNat (S.cd + 1)).length nc) (List.set S.num root.toNat (S.cd + 1)) :: vc 3 (.slice qa (List.set S.low root.toNat (S.cd + 1)).length qc) (List.set S.low root.toNat (S.cd + 1)) :: vc 183 (.slice wa1 (S.way ++ [(⟨root, (-1), at_ rows root⟩ : Vis)]).length wc2) (S.way ++ [(⟨root, (-1), at_ rows root⟩ : Vis)]) :: vc 38 (.slice ea S.edges.length ec) (S.edges) :: vc 23 (.slice oa rs.length oc) (rs) :: (ownR 38 rs ++ I))
  refine G.nil ?_
  exact V.mid (((S.enter rows root (-1))), (wa1), (wc2), (ea), (ec), (oa), (oc), (rs)) (show (Gone rows (S.enter rows root (-1)) ((S.enter rows root (-1)) : Srch)) ∧ (DfsOk rows ((S.enter rows root (-1)) : Srch)) ∧ (((S.enter rows root (-1)) : Srch).way ≠ []) ∧ ((rs : List (RowG Pt)).map RowG.xs = ((S.enter rows root (-1)) : Srch).out) ∧ (((S.enter rows root (-1)) : Srch).edges.length + mea ((S.enter rows root (-1)) : Srch) ≤ M ∧ (rs : List (RowG Pt)).length + mea ((S.enter rows root (-1)) : Srch) ≤ M) from ⟨Gone.start, (hok.start hS hroot h0), (by simp [Srch.enter]), hrs, (by have := hok.mea_start2 hS root (-1) hroot h0; exact ⟨by show S.edges.length + _ ≤ _; omega, by omega⟩)⟩) (Sub.cons rfl Sub.nil) (show Fit κ _ (blk b [.slice ra rows.length rc, .slice na ((S.enter rows root (-1))).num.length nc, .slice qa ((S.enter rows root (-1))).low.length qc, .slice (wa1) ((S.enter rows root (-1))).way.length (wc2), .slice (ea) ((S.enter rows root (-1))).edges.length (ec), .slice (oa) (rs).length (oc), I64 (((S.enter rows root (-1))).cd)] 155 :: vc 99 (.slice ra rows.length rc) (rows) :: vc 3 (.slice na ((S.enter rows root (-1))).num.length nc) (((S.enter rows root (-1))).num) :: vc 3 (.slice qa ((S.enter rows root (-1))).low.length qc) (((S.enter rows root (-1))).low) :: vc 183 (.slice (wa1) ((S.enter rows root (-1))).way.length (wc2)) (((S.enter rows root (-1))).way) :: vc 38 (.slice (ea) ((S.enter rows root (-1))).edges.length (ec)) (((S.enter rows root (-1))).edges) :: vc 23 (.slice (oa) (rs).length (oc)) ((rs)) :: (ownR 38 (rs) ++ I)) from Fit.s)
 ·rintro ⟨S1, wa1, wc1, ea1, ec1, oa1, oc1, rs1⟩ hp
  obtain ⟨hgo, hok1, hne, hrs1, hbd⟩ : (Gone rows (S.enter rows root (-1)) S1) ∧ (DfsOk rows S1) ∧ (S1.way ≠ []) ∧ (rs1.map RowG.xs = S1.out) ∧ (S1.edges.length + mea S1 ≤ M ∧ rs1.length + mea S1 ≤ M) := hp
  show W Tryd.prog κ 187 _ _ ([(0, .pointer (some ⟨b, 0, none⟩))] : Env) (blk b [.slice ra rows.length rc, .slice na S1.num.length nc, .slice qa S1.low.length qc, .slice wa1 S1.way.length wc1, .slice ea1 S1.edges.length ec1, .slice oa1 rs1.length oc1, I64 (S1.cd)] 155 :: vc 99 (.slice ra rows.length rc) (rows) :: vc 3 (.slice na S1.num.length nc) (S1.num) :: vc 3 (.slice qa S1.low.length qc) (S1.low) :: vc 183 (.slice wa1 S1.way.length wc1) (S1.way) :: vc 38 (.slice ea1 S1.edges.length ec1) (S1.edges) :: vc 23 (.slice oa1 rs1.length oc1) (rs1) :: (ownR 38 rs1 ++ I))
  refine W.pull (p := 0 < S1.way.length → wa1 ≠ none) (vc.isSome (by repeat (first | exact List.mem_cons_self | apply List.mem_cons_of_mem))) fun hsw => ?_
  obtain ⟨t, ht⟩ : ∃ t, at_ S1.way ((((S1.way.length : Nat) : Int)) - 1) = t := ⟨_, rfl⟩
  have hwe : S1.way = S1.ini ++ [t] := by rw [← ht]; exact Srch.way_eq hne
  have htm : t ∈ S1.way := by rw [hwe]; exact List.mem_append_right _ List.mem_cons_self
  have hwt := hok1.way t htm
  have hst : stepF rows S1 = stepT rows S1 S1.ini t := by unfold stepF; rw [show S1.top = t from ht]
  have hwl : 0 < S1.way.length := List.length_pos_iff.2 hne
  have hnl := hok1.nl
  have hll := hok1.ll
  have hcd := hok1.cd_le
  have hwm := way_le_mea S1
  have hbit : t.left ≠ 0#64 → 0 ≤ tzB t.left ∧ tzB t.left < rows.length := hok1.bit htm
  refine W.seq ?_
  refine W.drawn mixed ?_
  refine A.hold (blk b [.slice ra rows.length rc, .slice na S1.num.length nc, .slice qa S1.low.length qc, .slice wa1 S1.way.length wc1, .slice ea1 S1.edges.length ec1, .slice oa1 rs1.length oc1, I64 (S1.cd)] 155 :: vc 99 (.slice ra rows.length rc) (rows) :: vc 3 (.slice na S1.num.length nc) (S1.num) :: vc 3 (.slice qa S1.low.length qc) (S1.low) :: vc 183 (.slice wa1 S1.way.length wc1) (S1.way) :: vc 38 (.slice ea1 S1.edges.length ec1) (S1.edges) :: vc 23 (.slice oa1 rs1.length oc1) (rs1) :: (ownR 38 rs1 ++ I)) 12 ?_
  refine D.r 0 rfl (Runs.move rfl) ?_ (hJ := Fit.sub)
  refine D.r 1 rfl (Runs.nilCheck rfl) ?_ (hJ := Fit.sub)
  refine D.r 2 rfl (Runs.fieldAddr fld155_3 rfl) ?_ (hJ := Fit.sub)
  refine D.r 3 rfl (Runs.ld ty153) ?_ (hJ := Fit.sub)
  refine D.r 4 rfl (Runs.move rfl) ?_ (hJ := Fit.sub)
  refine D.r 5 rfl (Runs.nilCheck rfl) ?_ (hJ := Fit.sub)
  refine D.r 6 rfl (Runs.fieldAddr fld155_3 rfl) ?_ (hJ := Fit.sub)
  refine D.r 7 rfl (Runs.ld ty153) ?_ (hJ := Fit.sub)
  refine D.r 8 rfl (Runs.lens Tryd.underlying153 rfl) ?_ (hJ := Fit.sub)
  refine D.r 9 rfl (Runs.sub rfl rfl (by unfold InR; omega)) ?_ (hJ := Fit.sub)
  refine D.r 10 rfl (Runs.idx (α := Vis) (xs := S1.way) Tryd.underlying153 ty183 rfl rfl Sl.o (by omega) (by first | omega | (simp only [List.length_set]; omega))) ?_ (hJ := Fit.sub)
  refine D.r 11 rfl (Runs.assign rfl) ?_ (hJ := Fit.sub)
  refine D.done (by kernel_rfl) ?_
  refine V.then ?_
  refine W.sr ?_
  refine G.r (Runs.move rfl) ?_
  refine G.r (Runs.nilE rfl (hsw hwl)) ?_
  refine G.r (Runs.fld (α := Vis) (xs := S1.way) fld183_0 rfl Sl.o (by first | omega | (simp only [List.length_set]; omega))) ?_
  refine G.r (Runs.cast (congrArg (fun x : Vis => I64 x.node) ht) (Runs.getf (α := Vis) (xs := S1.way) (u := I64 ((at_ S1.way (((S1.way.length : Nat) : Int) - 1)).node)) ty3 rfl Sl.o (by omega) (by first | omega | (simp only [List.length_set]; omega)) rfl)) ?_
  refine G.r (Runs.assign rfl) ?_
  refine G.nt ?_
  refine W.sub (L' := [(5, _), (4, _), (0, _)]) (Sub.cons rfl (Sub.cons rfl (Sub.cons rfl Sub.nil))) ?_
  refine W.seq ?_
  refine W.sr ?_
  refine G.r (Runs.move rfl) ?_
  refine G.r (Runs.nilE rfl (hsw hwl)) ?_
  refine G.r (Runs.fld (α := Vis) (xs := S1.way) fld183_2 rfl Sl.o (by first | omega | (simp only [List.length_set]; omega))) ?_
  refine G.r (Runs.cast (congrArg (fun x : Vis => U64 x.left) ht) (Runs.getf (α := Vis) (xs := S1.way) (u := U64 ((at_ S1.way (((S1.way.length : Nat) : Int) - 1)).left)) ty99 rfl Sl.o (by omega) (by first | omega | (simp only [List.length_set]; omega)) rfl)) ?_
  refine G.r (Runs.neB (a := t.left) (b := 0#64) rfl rfl) ?_
  refine G.nt ?_
  refine W.ite rfl (fun c30 => ?_) (fun c30 => ?_)
  ·refine W.sr ?_
   refine G.r (Runs.move rfl) ?_
   refine G.r (Runs.nilE rfl (hsw hwl)) ?_
   refine G.r (Runs.fld (α := Vis) (xs := S1.way) fld183_2 rfl Sl.o (by first | omega | (simp only [List.length_set]; omega))) ?_
   refine G.r (Runs.cast (congrArg (fun x : Vis => U64 x.left) ht) (Runs.getf (α := Vis) (xs := S1.way) (u := U64 ((at_ S1.way (((S1.way.length : Nat) : Int) - 1)).left)) ty99 rfl Sl.o (by omega) (by first | omega | (simp only [List.length_set]; omega)) rfl)) ?_
   refine G.e (Eff.call call125 rfl rfl (Least_ok t.left (TabRd.fit hT Fit.m))) ?_
   rintro _ _ ⟨_, _, ⟨rfl, rfl⟩, rfl, rfl⟩
   refine G.r (Runs.assign rfl) ?_
   have hbit2 := hbit c30
   refine G.nt ?_
   refine W.sub (L' := [(6, _), (5, _), (4, _), (0, _)]) (Sub.cons rfl (Sub.cons rfl (Sub.cons rfl (Sub.cons rfl Sub.nil)))) ?_
   refine W.seq ?_
   refine W.drawn mixed ?_
   refine A.hold (blk b [.slice ra rows.length rc, .slice na S1.num.length nc, .slice qa S1.low.length qc, .slice wa1 S1.way.length wc1, .slice ea1 S1.edges.length ec1, .slice oa1 rs1.length oc1, I64 (S1.cd)] 155 :: vc 99 (.slice ra rows.length rc) (rows) :: vc 3 (.slice na S1.num.length nc) (S1.num) :: vc 3 (.slice qa S1.low.length qc) (S1.low) :: vc 183 (.slice wa1 S1.way.length wc1) (S1.way) :: vc 38 (.slice ea1 S1.edges.length ec1) (S1.edges) :: vc 23 (.slice oa1 rs1.length oc1) (rs1) :: (ownR 38 rs1 ++ I)) 12 ?_
   refine D.r 0 rfl (Runs.move rfl) ?_ (hJ := Fit.sub)
   refine D.r 1 rfl (Runs.nilE rfl (hsw hwl)) ?_ (hJ := Fit.sub)
   refine D.r 2 rfl (Runs.fld (α := Vis) (xs := S1.way) fld183_2 rfl Sl.o (by first | omega | (simp only [List.length_set]; omega))) ?_ (hJ := Fit.sub)
   refine D.r 3 rfl (Runs.cast (congrArg (fun x : Vis => U64 x.left) ht) (Runs.getf (α := Vis) (xs := S1.way) (u := U64 ((at_ S1.way (((S1.way.length : Nat) : Int) - 1)).left)) ty99 rfl Sl.o (by omega) (by first | omega | (simp only [List.length_set]; omega)) rfl)) ?_ (hJ := Fit.sub)
   refine D.r 4 rfl (Runs.move rfl) ?_ (hJ := Fit.sub)
   refine D.r 5 rfl (Runs.nilE rfl (hsw hwl)) ?_ (hJ := Fit.sub)
   refine D.r 6 rfl (Runs.fld (α := Vis) (xs := S1.way) fld183_2 rfl Sl.o (by first | omega | (simp only [List.length_set]; omega))) ?_ (hJ := Fit.sub)
   refine D.r 7 rfl (Runs.cast (congrArg (fun x : Vis => U64 x.left) ht) (Runs.getf (α := Vis) (xs := S1.way) (u := U64 ((at_ S1.way (((S1.way.length : Nat) : Int) - 1)).left)) ty99 rfl Sl.o (by omega) (by first | omega | (simp only [List.length_set]; omega)) rfl)) ?_ (hJ := Fit.sub)
   refine D.r 8 rfl (Runs.subB (a := t.left) (b := 1#64) rfl rfl) ?_ (hJ := Fit.sub)
   refine D.r 9 rfl (Runs.andB (a := t.left) (b := t.left - (1#64)) rfl rfl) ?_ (hJ := Fit.sub)
   refine D.step (rs := [10]) (by kernel_rfl) rfl rfl (all1 ?_)
   refine Step.read rfl (Wanted.plain rfl) rfl rfl (Runs.nilE rfl (hsw hwl)) Fit.sub ?_
   refine D.r 11 rfl (Runs.fld (α := Vis) (xs := S1.way) fld183_2 rfl Sl.o (by first | omega | (simp only [List.length_set]; omega))) ?_ (hJ := Fit.sub)
   refine D.stop (by kernel_rfl) ?_
   refine A.eff (i := 12) (by kernel_rfl) rfl (Wanted.plain rfl) (Eff.setf (α := Vis) (xs := S1.way) (e := 183) (new := { at_ S1.way (((S1.way.length : Nat) : Int) - 1) with left := t.left &&& (t.left - (1#64)) }) (j := 2) ty99 rfl rfl rfl rfl (by decide) rfl (by omega) (by first | omega | (simp only [List.length_set]; omega)) (by repeat (first | exact At.head _ _ _ | apply At.tail))) ?_
   rintro _ _ ⟨rfl, rfl⟩
   refine A.done (by kernel_rfl) ?_
   refine V.then ?_
   refine W.sub (L' := [(6, _), (5, _), (4, _), (0, _)]) (Sub.cons rfl (Sub.cons rfl (Sub.cons rfl (Sub.cons rfl Sub.nil)))) ?_
   refine W.seq ?_
   refine W.sr ?_
   refine G.r (Runs.move rfl) ?_
   obtain ⟨W2, hW2⟩ : ∃ W2 : List Vis, List.set S1.way (((S1.way.length : Nat) : Int) - 1).toNat ({ at_ S1.way (((S1.way.length : Nat) : Int) - 1) with left := t.left &&& (t.left - (1#64)) }) = W2 := ⟨_, rfl⟩
   rw [hW2]
   have hWl : S1.way.length = W2.length := by rw [← hW2, List.length_set]
   have hWe : W2 = S1.ini ++ [({ t with left := t.left &&& (t.left - 1#64) } : Vis)] := by rw [← hW2, ht, show ((((S1.way.length : Nat) : Int)) - 1).toNat = S1.way.length - 1 by omega]; exact way_set hne
   have ht2 : at_ W2 ((((W2.length : Nat) : Int)) - 1) = ({ t with left := t.left &&& (t.left - 1#64) } : Vis) := by rw [hWe]; exact top_snoc
   rw [hWl]
   refine G.r (Runs.move rfl) ?_
   refine G.r (Runs.nilE rfl (hsw hwl)) ?_
   refine G.r (Runs.fld (α := Vis) (xs := W2) fld183_1 rfl Sl.o (by first | omega | (simp only [List.length_set]; omega))) ?_
   refine G.r (Runs.cast (congrArg (fun x : Vis => I64 x.src) ht2) (Runs.getf (α := Vis) (xs := W2) (u := I64 ((at_ W2 (((W2.length : Nat) : Int) - 1)).src)) ty3 rfl Sl.o (by omega) (by first | omega | (simp only [List.length_set]; omega)) rfl)) ?_
   refine G.r (Runs.eql rfl rfl) ?_
   refine G.nt ?_
   refine W.ite rfl (fun c53 => ?_) (fun c53 => ?_)
   ·refine W.goto ?_
    refine V.then_goto ?_
    refine V.then_goto ?_
    have hst2 : stepF rows S1 = (⟨S1.num, S1.low, W2, S1.edges, S1.out, S1.cd⟩ : Srch) := by rw [hst]; unfold stepT; rw [if_pos c30, if_pos c53]; first | (rw [hWe]; done) | (rw [hWe]; rfl)
    have hgo2 := hgo.step hne
    have hok2 := hok1.step hne
    have hle2 := stepT_len rows S1 S1.ini t
    rw [← hst] at hle2
    rw [hst2] at hgo2 hok2 hle2
    dsimp only at hle2
    have hm2 := hok2.2
    exact V.jump (((⟨S1.num, S1.low, W2, S1.edges, S1.out, S1.cd⟩ : Srch)), (wa1), (wc1), (ea1), (ec1), (oa1), (oc1), (rs1)) (show (Gone rows (S.enter rows root (-1)) ((⟨S1.num, S1.low, W2, S1.edges, S1.out, S1.cd⟩ : Srch) : Srch)) ∧ (DfsOk rows ((⟨S1.num, S1.low, W2, S1.edges, S1.out, S1.cd⟩ : Srch) : Srch)) ∧ (((⟨S1.num, S1.low, W2, S1.edges, S1.out, S1.cd⟩ : Srch) : Srch).way ≠ []) ∧ ((rs1 : List (RowG Pt)).map RowG.xs = ((⟨S1.num, S1.low, W2, S1.edges, S1.out, S1.cd⟩ : Srch) : Srch).out) ∧ (((⟨S1.num, S1.low, W2, S1.edges, S1.out, S1.cd⟩ : Srch) : Srch).edges.length + mea ((⟨S1.num, S1.low, W2, S1.edges, S1.out, S1.cd⟩ : Srch) : Srch) ≤ M ∧ (rs1 : List (RowG Pt)).length + mea ((⟨S1.num, S1.low, W2, S1.edges, S1.out, S1.cd⟩ : Srch) : Srch) ≤ M) from ⟨hgo2, hok2.1, (by first | (rw [hWe]; simp; done) | (simp; done) | exact hok1.more hwe (by omega) | assumption), hrs1, (by dsimp only; first | omega | (simp only [List.length_append, List.length_cons, List.length_nil]; omega))⟩) (show mea ((⟨S1.num, S1.low, W2, S1.edges, S1.out, S1.cd⟩ : Srch) : Srch) < mea S1 from hm2) (Sub.cons rfl Sub.nil) (show Fit κ _ (blk b [.slice ra rows.length rc, .slice na ((⟨S1.num, S1.low, W2, S1.edges, S1.out, S1.cd⟩ : Srch)).num.length nc, .slice qa ((⟨S1.num, S1.low, W2, S1.edges, S1.out, S1.cd⟩ : Srch)).low.length qc, .slice (wa1) ((⟨S1.num, S1.low, W2, S1.edges, S1.out, S1.cd⟩ : Srch)).way.length (wc1), .slice (ea1) ((⟨S1.num, S1.low, W2, S1.edges, S1.out, S1.cd⟩ : Srch)).edges.length (ec1), .slice (oa1) (rs1).length (oc1), I64 (((⟨S1.num, S1.low, W2, S1.edges, S1.out, S1.cd⟩ : Srch)).cd)] 155 :: vc 99 (.slice ra rows.length rc) (rows) :: vc 3 (.slice na ((⟨S1.num, S1.low, W2, S1.edges, S1.out, S1.cd⟩ : Srch)).num.length nc) (((⟨S1.num, S1.low, W2, S1.edges, S1.out, S1.cd⟩ : Srch)).num) :: vc 3 (.slice qa ((⟨S1.num, S1.low, W2, S1.edges, S1.out, S1.cd⟩ : Srch)).low.length qc) (((⟨S1.num, S1.low, W2, S1.edges, S1.out, S1.cd⟩ : Srch)).low) :: vc 183 (.slice (wa1) ((⟨S1.num, S1.low, W2, S1.edges, S1.out, S1.cd⟩ : Srch)).way.length (wc1)) (((⟨S1.num, S1.low, W2, S1.edges, S1.out, S1.cd⟩ : Srch)).way) :: vc 38 (.slice (ea1) ((⟨S1.num, S1.low, W2, S1.edges, S1.out, S1.cd⟩ : Srch)).edges.length (ec1)) (((⟨S1.num, S1.low, W2, S1.edges, S1.out, S1.cd⟩ : Srch)).edges) :: vc 23 (.slice (oa1) (rs1).length (oc1)) ((rs1)) :: (ownR 38 (rs1) ++ I)) from Fit.s)
   ·refine W.skip ?_
    refine V.then ?_
    refine W.seq ?_
    refine W.sr ?_
    refine G.r (Runs.move rfl) ?_
    refine G.r (Runs.nilCheck rfl) ?_
    refine G.r (Runs.fieldAddr fld155_1 rfl) ?_
    refine G.r (Runs.ld ty22) ?_
    refine G.r (Runs.move rfl) ?_
    refine G.r (Runs.idx (α := Int) (xs := S1.num) Tryd.underlying22 ty3 rfl rfl Sl.o (by omega) (by first | omega | (simp only [List.length_set]; omega))) ?_
    refine G.r (Runs.get (xs := S1.num) ty3 rfl Sl.o (by omega) (by first | omega | (simp only [List.length_set]; omega))) ?_
    refine G.r (Runs.eql rfl rfl) ?_
    refine G.nt ?_
    refine W.sub (L' := [(61, _), (6, _), (5, _), (0, _)]) (Sub.cons rfl (Sub.cons rfl (Sub.cons rfl (Sub.cons rfl Sub.nil)))) ?_
    refine W.ite rfl (fun c61 => ?_) (fun c61 => ?_)
    ·refine W.sr ?_
     refine G.r (Runs.move rfl) ?_
     refine G.r (Runs.move rfl) ?_
     refine G.r (Runs.nilCheck rfl) ?_
     refine G.r (Runs.fieldAddr fld155_4 rfl) ?_
     refine G.r (Runs.ld ty23) ?_
     refine G.r (Runs.move rfl) ?_
     refine G.r (Runs.move rfl) ?_
     refine G.r (Runs.build (cells := [_, _]) ty38 Tryd.underlying38 pl38 rfl rfl) ?_
     refine G.e (Eff.bs (α := Pt) (cs := [_, _]) (xs := [⟨t.node, tzB t.left⟩]) Tryd.underlying23 ty38 rfl rfl (by decide) (by decide) rfl rfl rfl rfl) ?_
     rintro _ _ ⟨ad3, rfl, rfl⟩
     refine G.e (Eff.app (α := Pt) (e := 38) (xs := S1.edges) (ys := ([⟨t.node, tzB t.left⟩] : List Pt)) Tryd.underlying23 ty38 rfl rfl rfl (by repeat (first | exact List.mem_cons_self | apply List.mem_cons_of_mem)) Sl.o (by simp only [List.length_cons, List.length_nil]; omega) (by decide) rfl (fun _ _ => (by repeat (first | exact At.head _ _ _ | apply At.tail)))) ?_
     rintro _ _ ⟨ad4, cp5, rfl, rfl⟩
     refine G.r (Runs.nilCheck rfl) ?_
     refine G.r (Runs.fieldAddr fld155_4 rfl) ?_
     refine G.e (Eff.st (cs := [_, _, _, _, _, _, _]) (vs := [_]) (cs' := [_, _, _, _, _, _, _]) ty23) ?_
     rintro _ _ ⟨rfl, rfl⟩
     refine G.nt ?_
     refine W.sub (L' := [(6, _), (5, _), (0, _)]) (Sub.cons rfl (Sub.cons rfl (Sub.cons rfl Sub.nil))) ?_
     refine W.region ?_
     refine G.r (Runs.move rfl) ?_
     refine G.r (Runs.move rfl) ?_
     refine G.r (Runs.move rfl) ?_
     refine G.e (Eff.call call148 rfl rfl (CallS.fit (show Fit κ _ (blk b [.slice ra rows.length rc, .slice na S1.num.length nc, .slice qa S1.low.length qc, .slice wa1 W2.length wc1, .slice ad4 (S1.edges ++ ([⟨t.node, tzB t.left⟩] : List Pt)).length cp5, .slice oa1 rs1.length oc1, I64 (S1.cd)] 155 :: vc 99 (.slice ra rows.length rc) (rows) :: vc 3 (.slice na S1.num.length nc) (S1.num) :: vc 3 (.slice qa S1.low.length qc) (S1.low) :: vc 183 (.slice wa1 W2.length wc1) (W2) :: vc 38 (.slice ad3 1 1) (([⟨t.node, tzB t.left⟩] : List Pt)) :: vc 38 (.slice ad4 (S1.edges ++ ([⟨t.node, tzB t.left⟩] : List Pt)).length cp5) (S1.edges ++ ([⟨t.node, tzB t.left⟩] : List Pt)) :: vc 23 (.slice oa1 rs1.length oc1) (rs1) :: (ownR 38 rs1 ++ I)) from Fit.s) (SEnter_ok (tzB t.left) t.node (by omega) (by omega) (by omega) (by omega) (by omega)))) ?_
     rintro _ _ ⟨_, _, ⟨wa6, wc7, rfl, rfl⟩, rfl, rfl⟩
     show G Tryd.prog κ _ _ _ _ ([(77, .tuple #[]), (76, I64 (t.node)), (75, I64 (tzB t.left)), (74, .pointer (some ⟨b, 0, none⟩)), (6, I64 (tzB t.left)), (5, I64 (t.node)), (0, .pointer (some ⟨b, 0, none⟩))] : Env) (blk b [.slice ra rows.length rc, .slice na (List.set S1.num (tzB t.left).toNat (S1.cd + 1)).length nc, .slice qa (List.set S1.low (tzB t.left).toNat (S1.cd + 1)).length qc, .slice wa6 (W2 ++ [(⟨(tzB t.left), t.node, at_ rows (tzB t.left)⟩ : Vis)]).length wc7, .slice ad4 (S1.edges ++ ([⟨t.node, tzB t.left⟩] : List Pt)).length cp5, .slice oa1 rs1.length oc1, I64 (S1.cd + 1)] 155 :: vc 99 (.slice ra rows.length rc) (rows) :: vc 3 (.slice na (List.set S1.num (tzB t.left).toNat (S1.cd + 1)).length nc) (List.set S1.num (tzB t.left).toNat (S1.cd + 1)) :: vc 3 (.slice qa (List.set S1.low (tzB t.left).toNat (S1.cd + 1)).length qc) (List.set S1.low (tzB t.left).toNat (S1.cd + 1)) :: vc 183 (.slice wa6 (W2 ++ [(⟨(tzB t.left), t.node, at_ rows (tzB t.left)⟩ : Vis)]).length wc7) (W2 ++ [(⟨(tzB t.left), t.node, at_ rows (tzB t.left)⟩ : Vis)]) :: vc 38 (.slice ad3 1 1) (([⟨t.node, tzB t.left⟩] : List Pt)) :: vc 38 (.slice ad4 (S1.edges ++ ([⟨t.node, tzB t.left⟩] : List Pt)).length cp5) (S1.edges ++ ([⟨t.node, tzB t.left⟩] : List Pt)) :: vc 23 (.slice oa1 rs1.length oc1) (rs1) :: (ownR 38 rs1 ++ I))
     refine G.nt ?_
     refine W.goto ?_
     refine V.then_goto ?_
     have hst2 : stepF rows S1 = (⟨List.set S1.num (tzB t.left).toNat (S1.cd + 1), List.set S1.low (tzB t.left).toNat (S1.cd + 1), W2 ++ [(⟨(tzB t.left), t.node, at_ rows (tzB t.left)⟩ : Vis)], S1.edges ++ ([⟨t.node, tzB t.left⟩] : List Pt), S1.out, S1.cd + 1⟩ : Srch) := by rw [hst]; unfold stepT; rw [if_pos c30, if_neg c53, if_pos c61]; first | (rw [hWe]; done) | (rw [hWe]; rfl)
     have hgo2 := hgo.step hne
     have hok2 := hok1.step hne
     have hle2 := stepT_len rows S1 S1.ini t
     rw [← hst] at hle2
     rw [hst2] at hgo2 hok2 hle2
     dsimp only at hle2
     have hm2 := hok2.2
     exact V.jump (((⟨List.set S1.num (tzB t.left).toNat (S1.cd + 1), List.set S1.low (tzB t.left).toNat (S1.cd + 1), W2 ++ [(⟨(tzB t.left), t.node, at_ rows (tzB t.left)⟩ : Vis)], S1.edges ++ ([⟨t.node, tzB t.left⟩] : List Pt), S1.out, S1.cd + 1⟩ : Srch)), (wa6), (wc7), (ad4), (cp5), (oa1), (oc1), (rs1)) (show (Gone rows (S.enter rows root (-1)) ((⟨List.set S1.num (tzB t.left).toNat (S1.cd + 1), List.set S1.low (tzB t.left).toNat (S1.cd + 1), W2 ++ [(⟨(tzB t.left), t.node, at_ rows (tzB t.left)⟩ : Vis)], S1.edges ++ ([⟨t.node, tzB t.left⟩] : List Pt), S1.out, S1.cd + 1⟩ : Srch) : Srch)) ∧ (DfsOk rows ((⟨List.set S1.num (tzB t.left).toNat (S1.cd + 1), List.set S1.low (tzB t.left).toNat (S1.cd + 1), W2 ++ [(⟨(tzB t.left), t.node, at_ rows (tzB t.left)⟩ : Vis)], S1.edges ++ ([⟨t.node, tzB t.left⟩] : List Pt), S1.out, S1.cd + 1⟩ : Srch) : Srch)) ∧ (((⟨List.set S1.num (tzB t.left).toNat (S1.cd + 1), List.set S1.low (tzB t.left).toNat (S1.cd + 1), W2 ++ [(⟨(tzB t.left), t.node, at_ rows (tzB t.left)⟩ : Vis)], S1.edges ++ ([⟨t.node, tzB t.left⟩] : List Pt), S1.out, S1.cd + 1⟩ : Srch) : Srch).way ≠ []) ∧ ((rs1 : List (RowG Pt)).map RowG.xs = ((⟨List.set S1.num (tzB t.left).toNat (S1.cd + 1), List.set S1.low (tzB t.left).toNat (S1.cd + 1), W2 ++ [(⟨(tzB t.left), t.node, at_ rows (tzB t.left)⟩ : Vis)], S1.edges ++ ([⟨t.node, tzB t.left⟩] : List Pt), S1.out, S1.cd + 1⟩ : Srch) : Srch).out) ∧ (((⟨List.set S1.num (tzB t.left).toNat (S1.cd + 1), List.set S1.low (tzB t.left).toNat (S1.cd + 1), W2 ++ [(⟨(tzB t.left), t.node, at_ rows (tzB t.left)⟩ : Vis)], S1.edges ++ ([⟨t.node, tzB t.left⟩] : List Pt), S1.out, S1.cd + 1⟩ : Srch) : Srch).edges.length + mea ((⟨List.set S1.num (tzB t.left).toNat (S1.cd + 1), List.set S1.low (tzB t.left).toNat (S1.cd + 1), W2 ++ [(⟨(tzB t.left), t.node, at_ rows (tzB t.left)⟩ : Vis)], S1.edges ++ ([⟨t.node, tzB t.left⟩] : List Pt), S1.out, S1.cd + 1⟩ : Srch) : Srch) ≤ M ∧ (rs1 : List (RowG Pt)).length + mea ((⟨List.set S1.num (tzB t.left).toNat (S1.cd + 1), List.set S1.low (tzB t.left).toNat (S1.cd + 1), W2 ++ [(⟨(tzB t.left), t.node, at_ rows (tzB t.left)⟩ : Vis)], S1.edges ++ ([⟨t.node, tzB t.left⟩] : List Pt), S1.out, S1.cd + 1⟩ : Srch) : Srch) ≤ M) from ⟨hgo2, hok2.1, (by first | (rw [hWe]; simp; done) | (simp; done) | exact hok1.more hwe (by omega) | assumption), hrs1, (by dsimp only; first | omega | (simp only [List.length_append, List.length_cons, List.length_nil]; omega))⟩) (show mea ((⟨List.set S1.num (tzB t.left).toNat (S1.cd + 1), List.set S1.low (tzB t.left).toNat (S1.cd + 1), W2 ++ [(⟨(tzB t.left), t.node, at_ rows (tzB t.left)⟩ : Vis)], S1.edges ++ ([⟨t.node, tzB t.left⟩] : List Pt), S1.out, S1.cd + 1⟩ : Srch) : Srch) < mea S1 from hm2) (Sub.cons rfl Sub.nil) (show Fit κ _ (blk b [.slice ra rows.length rc, .slice na ((⟨List.set S1.num (tzB t.left).toNat (S1.cd + 1), List.set S1.low (tzB t.left).toNat (S1.cd + 1), W2 ++ [(⟨(tzB t.left), t.node, at_ rows (tzB t.left)⟩ : Vis)], S1.edges ++ ([⟨t.node, tzB t.left⟩] : List Pt), S1.out, S1.cd + 1⟩ : Srch)).num.length nc, .slice qa ((⟨List.set S1.num (tzB t.left).toNat (S1.cd + 1), List.set S1.low (tzB t.left).toNat (S1.cd + 1), W2 ++ [(⟨(tzB t.left), t.node, at_ rows (tzB t.left)⟩ : Vis)], S1.edges ++ ([⟨t.node, tzB t.left⟩] : List Pt), S1.out, S1.cd + 1⟩ : Srch)).low.length qc, .slice (wa6) ((⟨List.set S1.num (tzB t.left).toNat (S1.cd + 1), List.set S1.low (tzB t.left).toNat (S1.cd + 1), W2 ++ [(⟨(tzB t.left), t.node, at_ rows (tzB t.left)⟩ : Vis)], S1.edges ++ ([⟨t.node, tzB t.left⟩] : List Pt), S1.out, S1.cd + 1⟩ : Srch)).way.length (wc7), .slice (ad4) ((⟨List.set S1.num (tzB t.left).toNat (S1.cd + 1), List.set S1.low (tzB t.left).toNat (S1.cd + 1), W2 ++ [(⟨(tzB t.left), t.node, at_ rows (tzB t.left)⟩ : Vis)], S1.edges ++ ([⟨t.node, tzB t.left⟩] : List Pt), S1.out, S1.cd + 1⟩ : Srch)).edges.length (cp5), .slice (oa1) (rs1).length (oc1), I64 (((⟨List.set S1.num (tzB t.left).toNat (S1.cd + 1), List.set S1.low (tzB t.left).toNat (S1.cd + 1), W2 ++ [(⟨(tzB t.left), t.node, at_ rows (tzB t.left)⟩ : Vis)], S1.edges ++ ([⟨t.node, tzB t.left⟩] : List Pt), S1.out, S1.cd + 1⟩ : Srch)).cd)] 155 :: vc 99 (.slice ra rows.length rc) (rows) :: vc 3 (.slice na ((⟨List.set S1.num (tzB t.left).toNat (S1.cd + 1), List.set S1.low (tzB t.left).toNat (S1.cd + 1), W2 ++ [(⟨(tzB t.left), t.node, at_ rows (tzB t.left)⟩ : Vis)], S1.edges ++ ([⟨t.node, tzB t.left⟩] : List Pt), S1.out, S1.cd + 1⟩ : Srch)).num.length nc) (((⟨List.set S1.num (tzB t.left).toNat (S1.cd + 1), List.set S1.low (tzB t.left).toNat (S1.cd + 1), W2 ++ [(⟨(tzB t.left), t.node, at_ rows (tzB t.left)⟩ : Vis)], S1.edges ++ ([⟨t.node, tzB t.left⟩] : List Pt), S1.out, S1.cd + 1⟩ : Srch)).num) :: vc 3 (.slice qa ((⟨List.set S1.num (tzB t.left).toNat (S1.cd + 1), List.set S1.low (tzB t.left).toNat (S1.cd + 1), W2 ++ [(⟨(tzB t.left), t.node, at_ rows (tzB t.left)⟩ : Vis)], S1.edges ++ ([⟨t.node, tzB t.left⟩] : List Pt), S1.out, S1.cd + 1⟩ : Srch)).low.length qc) (((⟨List.set S1.num (tzB t.left).toNat (S1.cd + 1), List.set S1.low (tzB t.left).toNat (S1.cd + 1), W2 ++ [(⟨(tzB t.left), t.node, at_ rows (tzB t.left)⟩ : Vis)], S1.edges ++ ([⟨t.node, tzB t.left⟩] : List Pt), S1.out, S1.cd + 1⟩ : Srch)).low) :: vc 183 (.slice (wa6) ((⟨List.set S1.num (tzB t.left).toNat (S1.cd + 1), List.set S1.low (tzB t.left).toNat (S1.cd + 1), W2 ++ [(⟨(tzB t.left), t.node, at_ rows (tzB t.left)⟩ : Vis)], S1.edges ++ ([⟨t.node, tzB t.left⟩] : List Pt), S1.out, S1.cd + 1⟩ : Srch)).way.length (wc7)) (((⟨List.set S1.num (tzB t.left).toNat (S1.cd + 1), List.set S1.low (tzB t.left).toNat (S1.cd + 1), W2 ++ [(⟨(tzB t.left), t.node, at_ rows (tzB t.left)⟩ : Vis)], S1.edges ++ ([⟨t.node, tzB t.left⟩] : List Pt), S1.out, S1.cd + 1⟩ : Srch)).way) :: vc 38 (.slice (ad4) ((⟨List.set S1.num (tzB t.left).toNat (S1.cd + 1), List.set S1.low (tzB t.left).toNat (S1.cd + 1), W2 ++ [(⟨(tzB t.left), t.node, at_ rows (tzB t.left)⟩ : Vis)], S1.edges ++ ([⟨t.node, tzB t.left⟩] : List Pt), S1.out, S1.cd + 1⟩ : Srch)).edges.length (cp5)) (((⟨List.set S1.num (tzB t.left).toNat (S1.cd + 1), List.set S1.low (tzB t.left).toNat (S1.cd + 1), W2 ++ [(⟨(tzB t.left), t.node, at_ rows (tzB t.left)⟩ : Vis)], S1.edges ++ ([⟨t.node, tzB t.left⟩] : List Pt), S1.out, S1.cd + 1⟩ : Srch)).edges) :: vc 23 (.slice (oa1) (rs1).length (oc1)) ((rs1)) :: (ownR 38 (rs1) ++ I)) from Fit.s)
    ·refine W.seq ?_
     refine W.drawn mixed ?_
     refine A.hold (blk b [.slice ra rows.length rc, .slice na S1.num.length nc, .slice qa S1.low.length qc, .slice wa1 W2.length wc1, .slice ea1 S1.edges.length ec1, .slice oa1 rs1.length oc1, I64 (S1.cd)] 155 :: vc 99 (.slice ra rows.length rc) (rows) :: vc 3 (.slice na S1.num.length nc) (S1.num) :: vc 3 (.slice qa S1.low.length qc) (S1.low) :: vc 183 (.slice wa1 W2.length wc1) (W2) :: vc 38 (.slice ea1 S1.edges.length ec1) (S1.edges) :: vc 23 (.slice oa1 rs1.length oc1) (rs1) :: (ownR 38 rs1 ++ I)) 15 ?_
     refine D.r 0 rfl (Runs.move rfl) ?_ (hJ := Fit.sub)
     refine D.r 1 rfl (Runs.nilCheck rfl) ?_ (hJ := Fit.sub)
     refine D.r 2 rfl (Runs.fieldAddr fld155_1 rfl) ?_ (hJ := Fit.sub)
     refine D.r 3 rfl (Runs.ld ty22) ?_ (hJ := Fit.sub)
     refine D.r 4 rfl (Runs.move rfl) ?_ (hJ := Fit.sub)
     refine D.r 5 rfl (Runs.idx (α := Int) (xs := S1.num) Tryd.underlying22 ty3 rfl rfl Sl.o (by omega) (by first | omega | (simp only [List.length_set]; omega))) ?_ (hJ := Fit.sub)
     refine D.r 6 rfl (Runs.get (xs := S1.num) ty3 rfl Sl.o (by omega) (by first | omega | (simp only [List.length_set]; omega))) ?_ (hJ := Fit.sub)
     refine D.r 7 rfl (Runs.move rfl) ?_ (hJ := Fit.sub)
     refine D.r 8 rfl (Runs.nilCheck rfl) ?_ (hJ := Fit.sub)
     refine D.r 9 rfl (Runs.fieldAddr fld155_1 rfl) ?_ (hJ := Fit.sub)
     refine D.r 10 rfl (Runs.ld ty22) ?_ (hJ := Fit.sub)
     refine D.r 11 rfl (Runs.move rfl) ?_ (hJ := Fit.sub)
     refine D.r 12 rfl (Runs.idx (α := Int) (xs := S1.num) Tryd.underlying22 ty3 rfl rfl Sl.o (by omega) (by first | omega | (simp only [List.length_set]; omega))) ?_ (hJ := Fit.sub)
     refine D.r 13 rfl (Runs.get (xs := S1.num) ty3 rfl Sl.o (by omega) (by first | omega | (simp only [List.length_set]; omega))) ?_ (hJ := Fit.sub)
     refine D.r 14 rfl (Runs.lss rfl rfl) ?_ (hJ := Fit.sub)
     refine D.done (by kernel_rfl) ?_
     refine V.then ?_
     refine W.sub (L' := [(92, _), (6, _), (5, _), (0, _)]) (Sub.cons rfl (Sub.cons rfl (Sub.cons rfl (Sub.cons rfl Sub.nil)))) ?_
     refine W.ite rfl (fun c92 => ?_) (fun c92 => ?_)
     ·refine W.sr ?_
      refine G.r (Runs.move rfl) ?_
      refine G.r (Runs.move rfl) ?_
      refine G.r (Runs.nilCheck rfl) ?_
      refine G.r (Runs.fieldAddr fld155_4 rfl) ?_
      refine G.r (Runs.ld ty23) ?_
      refine G.r (Runs.move rfl) ?_
      refine G.r (Runs.move rfl) ?_
      refine G.r (Runs.build (cells := [_, _]) ty38 Tryd.underlying38 pl38 rfl rfl) ?_
      refine G.e (Eff.bs (α := Pt) (cs := [_, _]) (xs := [⟨t.node, tzB t.left⟩]) Tryd.underlying23 ty38 rfl rfl (by decide) (by decide) rfl rfl rfl rfl) ?_
      rintro _ _ ⟨ad8, rfl, rfl⟩
      refine G.e (Eff.app (α := Pt) (e := 38) (xs := S1.edges) (ys := ([⟨t.node, tzB t.left⟩] : List Pt)) Tryd.underlying23 ty38 rfl rfl rfl (by repeat (first | exact List.mem_cons_self | apply List.mem_cons_of_mem)) Sl.o (by simp only [List.length_cons, List.length_nil]; omega) (by decide) rfl (fun _ _ => (by repeat (first | exact At.head _ _ _ | apply At.tail)))) ?_
      rintro _ _ ⟨ad9, cp10, rfl, rfl⟩
      refine G.r (Runs.nilCheck rfl) ?_
      refine G.r (Runs.fieldAddr fld155_4 rfl) ?_
      refine G.e (Eff.st (cs := [_, _, _, _, _, _, _]) (vs := [_]) (cs' := [_, _, _, _, _, _, _]) ty23) ?_
      rintro _ _ ⟨rfl, rfl⟩
      refine G.nt ?_
      refine W.sub (L' := [(6, _), (5, _), (0, _)]) (Sub.cons rfl (Sub.cons rfl (Sub.cons rfl Sub.nil))) ?_
      refine W.drawn mixed ?_
      refine A.hold (vc 38 (.slice ad8 1 1) (([⟨t.node, tzB t.left⟩] : List Pt)) :: blk b [.slice ra rows.length rc, .slice na S1.num.length nc, .slice qa S1.low.length qc, .slice wa1 W2.length wc1, .slice ad9 (S1.edges ++ ([⟨t.node, tzB t.left⟩] : List Pt)).length cp10, .slice oa1 rs1.length oc1, I64 (S1.cd)] 155 :: vc 99 (.slice ra rows.length rc) (rows) :: vc 3 (.slice na S1.num.length nc) (S1.num) :: vc 3 (.slice qa S1.low.length qc) (S1.low) :: vc 183 (.slice wa1 W2.length wc1) (W2) :: vc 38 (.slice ad9 (S1.edges ++ ([⟨t.node, tzB t.left⟩] : List Pt)).length cp10) (S1.edges ++ ([⟨t.node, tzB t.left⟩] : List Pt)) :: vc 23 (.slice oa1 rs1.length oc1) (rs1) :: (ownR 38 rs1 ++ I)) 21 ?_
      refine D.r 0 rfl (Runs.move rfl) ?_ (hJ := Fit.sub)
      refine D.r 1 rfl (Runs.nilCheck rfl) ?_ (hJ := Fit.sub)
      refine D.r 2 rfl (Runs.fieldAddr fld155_2 rfl) ?_ (hJ := Fit.sub)
      refine D.r 3 rfl (Runs.ld ty22) ?_ (hJ := Fit.sub)
      refine D.r 4 rfl (Runs.move rfl) ?_ (hJ := Fit.sub)
      refine D.r 5 rfl (Runs.move rfl) ?_ (hJ := Fit.sub)
      refine D.r 6 rfl (Runs.nilCheck rfl) ?_ (hJ := Fit.sub)
      refine D.r 7 rfl (Runs.fieldAddr fld155_2 rfl) ?_ (hJ := Fit.sub)
      refine D.r 8 rfl (Runs.ld ty22) ?_ (hJ := Fit.sub)
      refine D.r 9 rfl (Runs.move rfl) ?_ (hJ := Fit.sub)
      refine D.r 10 rfl (Runs.idx (α := Int) (xs := S1.low) Tryd.underlying22 ty3 rfl rfl Sl.o (by omega) (by first | omega | (simp only [List.length_set]; omega))) ?_ (hJ := Fit.sub)
      refine D.r 11 rfl (Runs.get (xs := S1.low) ty3 rfl Sl.o (by omega) (by first | omega | (simp only [List.length_set]; omega))) ?_ (hJ := Fit.sub)
      refine D.r 12 rfl (Runs.move rfl) ?_ (hJ := Fit.sub)
      refine D.r 13 rfl (Runs.nilCheck rfl) ?_ (hJ := Fit.sub)
      refine D.r 14 rfl (Runs.fieldAddr fld155_1 rfl) ?_ (hJ := Fit.sub)
      refine D.r 15 rfl (Runs.ld ty22) ?_ (hJ := Fit.sub)
      refine D.r 16 rfl (Runs.move rfl) ?_ (hJ := Fit.sub)
      refine D.r 17 rfl (Runs.idx (α := Int) (xs := S1.num) Tryd.underlying22 ty3 rfl rfl Sl.o (by omega) (by first | omega | (simp only [List.length_set]; omega))) ?_ (hJ := Fit.sub)
      refine D.r 18 rfl (Runs.get (xs := S1.num) ty3 rfl Sl.o (by omega) (by first | omega | (simp only [List.length_set]; omega))) ?_ (hJ := Fit.sub)
      refine D.r 19 rfl (Runs.min rfl rfl) ?_ (hJ := Fit.sub)
      refine D.r 20 rfl (Runs.idx (α := Int) (xs := S1.low) Tryd.underlying22 ty3 rfl rfl Sl.o (by omega) (by first | omega | (simp only [List.length_set]; omega))) ?_ (hJ := Fit.sub)
      refine D.stop (by kernel_rfl) ?_
      refine A.eff (i := 21) (by kernel_rfl) rfl (Wanted.plain rfl) (Eff.set (α := Int) (xs := S1.low) (e := 3) (new := if (at_ S1.num (tzB t.left)) < (at_ S1.low t.node) then (at_ S1.num (tzB t.left)) else (at_ S1.low t.node)) ty3 rfl rfl rfl (by omega) (by first | omega | (simp only [List.length_set]; omega)) (by repeat (first | exact At.head _ _ _ | apply At.tail))) ?_
      rintro _ _ ⟨rfl, rfl⟩
      refine A.done (by kernel_rfl) ?_
      refine V.then ?_
      refine W.sub (L' := [(0, _)]) (Sub.cons rfl Sub.nil) ?_
      refine W.goto ?_
      refine V.then_goto ?_
      have hst2 : stepF rows S1 = (⟨S1.num, List.set S1.low (t.node).toNat (if (at_ S1.num (tzB t.left)) < (at_ S1.low t.node) then (at_ S1.num (tzB t.left)) else (at_ S1.low t.node)), W2, S1.edges ++ ([⟨t.node, tzB t.left⟩] : List Pt), S1.out, S1.cd⟩ : Srch) := by rw [hst]; unfold stepT; rw [if_pos c30, if_neg c53, if_neg c61, if_pos c92]; first | (rw [hWe]; done) | (rw [hWe]; rfl)
      have hgo2 := hgo.step hne
      have hok2 := hok1.step hne
      have hle2 := stepT_len rows S1 S1.ini t
      rw [← hst] at hle2
      rw [hst2] at hgo2 hok2 hle2
      dsimp only at hle2
      have hm2 := hok2.2
      have hql : (List.set S1.low (t.node).toNat (if (at_ S1.num (tzB t.left)) < (at_ S1.low t.node) then (at_ S1.num (tzB t.left)) else (at_ S1.low t.node))).length = S1.low.length := List.length_set
      rw [← hql]
      exact V.jump (((⟨S1.num, List.set S1.low (t.node).toNat (if (at_ S1.num (tzB t.left)) < (at_ S1.low t.node) then (at_ S1.num (tzB t.left)) else (at_ S1.low t.node)), W2, S1.edges ++ ([⟨t.node, tzB t.left⟩] : List Pt), S1.out, S1.cd⟩ : Srch)), (wa1), (wc1), (ad9), (cp10), (oa1), (oc1), (rs1)) (show (Gone rows (S.enter rows root (-1)) ((⟨S1.num, List.set S1.low (t.node).toNat (if (at_ S1.num (tzB t.left)) < (at_ S1.low t.node) then (at_ S1.num (tzB t.left)) else (at_ S1.low t.node)), W2, S1.edges ++ ([⟨t.node, tzB t.left⟩] : List Pt), S1.out, S1.cd⟩ : Srch) : Srch)) ∧ (DfsOk rows ((⟨S1.num, List.set S1.low (t.node).toNat (if (at_ S1.num (tzB t.left)) < (at_ S1.low t.node) then (at_ S1.num (tzB t.left)) else (at_ S1.low t.node)), W2, S1.edges ++ ([⟨t.node, tzB t.left⟩] : List Pt), S1.out, S1.cd⟩ : Srch) : Srch)) ∧ (((⟨S1.num, List.set S1.low (t.node).toNat (if (at_ S1.num (tzB t.left)) < (at_ S1.low t.node) then (at_ S1.num (tzB t.left)) else (at_ S1.low t.node)), W2, S1.edges ++ ([⟨t.node, tzB t.left⟩] : List Pt), S1.out, S1.cd⟩ : Srch) : Srch).way ≠ []) ∧ ((rs1 : List (RowG Pt)).map RowG.xs = ((⟨S1.num, List.set S1.low (t.node).toNat (if (at_ S1.num (tzB t.left)) < (at_ S1.low t.node) then (at_ S1.num (tzB t.left)) else (at_ S1.low t.node)), W2, S1.edges ++ ([⟨t.node, tzB t.left⟩] : List Pt), S1.out, S1.cd⟩ : Srch) : Srch).out) ∧ (((⟨S1.num, List.set S1.low (t.node).toNat (if (at_ S1.num (tzB t.left)) < (at_ S1.low t.node) then (at_ S1.num (tzB t.left)) else (at_ S1.low t.node)), W2, S1.edges ++ ([⟨t.node, tzB t.left⟩] : List Pt), S1.out, S1.cd⟩ : Srch) : Srch).edges.length + mea ((⟨S1.num, List.set S1.low (t.node).toNat (if (at_ S1.num (tzB t.left)) < (at_ S1.low t.node) then (at_ S1.num (tzB t.left)) else (at_ S1.low t.node)), W2, S1.edges ++ ([⟨t.node, tzB t.left⟩] : List Pt), S1.out, S1.cd⟩ : Srch) : Srch) ≤ M ∧ (rs1 : List (RowG Pt)).length + mea ((⟨S1.num, List.set S1.low (t.node).toNat (if (at_ S1.num (tzB t.left)) < (at_ S1.low t.node) then (at_ S1.num (tzB t.left)) else (at_ S1.low t.node)), W2, S1.edges ++ ([⟨t.node, tzB t.left⟩] : List Pt), S1.out, S1.cd⟩ : Srch) : Srch) ≤ M) from ⟨hgo2, hok2.1, (by first | (rw [hWe]; simp; done) | (simp; done) | exact hok1.more hwe (by omega) | assumption), hrs1, (by dsimp only; first | omega | (simp only [List.length_append, List.length_cons, List.length_nil]; omega))⟩) (show mea ((⟨S1.num, List.set S1.low (t.node).toNat (if (at_ S1.num (tzB t.left)) < (at_ S1.low t.node) then (at_ S1.num (tzB t.left)) else (at_ S1.low t.node)), W2, S1.edges ++ ([⟨t.node, tzB t.left⟩] : List Pt), S1.out, S1.cd⟩ : Srch) : Srch) < mea S1 from hm2) (Sub.cons rfl Sub.nil) (show Fit κ _ (blk b [.slice ra rows.length rc, .slice na ((⟨S1.num, List.set S1.low (t.node).toNat (if (at_ S1.num (tzB t.left)) < (at_ S1.low t.node) then (at_ S1.num (tzB t.left)) else (at_ S1.low t.node)), W2, S1.edges ++ ([⟨t.node, tzB t.left⟩] : List Pt), S1.out, S1.cd⟩ : Srch)).num.length nc, .slice qa ((⟨S1.num, List.set S1.low (t.node).toNat (if (at_ S1.num (tzB t.left)) < (at_ S1.low t.node) then (at_ S1.num (tzB t.left)) else (at_ S1.low t.node)), W2, S1.edges ++ ([⟨t.node, tzB t.left⟩] : List Pt), S1.out, S1.cd⟩ : Srch)).low.length qc, .slice (wa1) ((⟨S1.num, List.set S1.low (t.node).toNat (if (at_ S1.num (tzB t.left)) < (at_ S1.low t.node) then (at_ S1.num (tzB t.left)) else (at_ S1.low t.node)), W2, S1.edges ++ ([⟨t.node, tzB t.left⟩] : List Pt), S1.out, S1.cd⟩ : Srch)).way.length (wc1), .slice (ad9) ((⟨S1.num, List.set S1.low (t.node).toNat (if (at_ S1.num (tzB t.left)) < (at_ S1.low t.node) then (at_ S1.num (tzB t.left)) else (at_ S1.low t.node)), W2, S1.edges ++ ([⟨t.node, tzB t.left⟩] : List Pt), S1.out, S1.cd⟩ : Srch)).edges.length (cp10), .slice (oa1) (rs1).length (oc1), I64 (((⟨S1.num, List.set S1.low (t.node).toNat (if (at_ S1.num (tzB t.left)) < (at_ S1.low t.node) then (at_ S1.num (tzB t.left)) else (at_ S1.low t.node)), W2, S1.edges ++ ([⟨t.node, tzB t.left⟩] : List Pt), S1.out, S1.cd⟩ : Srch)).cd)] 155 :: vc 99 (.slice ra rows.length rc) (rows) :: vc 3 (.slice na ((⟨S1.num, List.set S1.low (t.node).toNat (if (at_ S1.num (tzB t.left)) < (at_ S1.low t.node) then (at_ S1.num (tzB t.left)) else (at_ S1.low t.node)), W2, S1.edges ++ ([⟨t.node, tzB t.left⟩] : List Pt), S1.out, S1.cd⟩ : Srch)).num.length nc) (((⟨S1.num, List.set S1.low (t.node).toNat (if (at_ S1.num (tzB t.left)) < (at_ S1.low t.node) then (at_ S1.num (tzB t.left)) else (at_ S1.low t.node)), W2, S1.edges ++ ([⟨t.node, tzB t.left⟩] : List Pt), S1.out, S1.cd⟩ : Srch)).num) :: vc 3 (.slice qa ((⟨S1.num, List.set S1.low (t.node).toNat (if (at_ S1.num (tzB t.left)) < (at_ S1.low t.node) then (at_ S1.num (tzB t.left)) else (at_ S1.low t.node)), W2, S1.edges ++ ([⟨t.node, tzB t.left⟩] : List Pt), S1.out, S1.cd⟩ : Srch)).low.length qc) (((⟨S1.num, List.set S1.low (t.node).toNat (if (at_ S1.num (tzB t.left)) < (at_ S1.low t.node) then (at_ S1.num (tzB t.left)) else (at_ S1.low t.node)), W2, S1.edges ++ ([⟨t.node, tzB t.left⟩] : List Pt), S1.out, S1.cd⟩ : Srch)).low) :: vc 183 (.slice (wa1) ((⟨S1.num, List.set S1.low (t.node).toNat (if (at_ S1.num (tzB t.left)) < (at_ S1.low t.node) then (at_ S1.num (tzB t.left)) else (at_ S1.low t.node)), W2, S1.edges ++ ([⟨t.node, tzB t.left⟩] : List Pt), S1.out, S1.cd⟩ : Srch)).way.length (wc1)) (((⟨S1.num, List.set S1.low (t.node).toNat (if (at_ S1.num (tzB t.left)) < (at_ S1.low t.node) then (at_ S1.num (tzB t.left)) else (at_ S1.low t.node)), W2, S1.edges ++ ([⟨t.node, tzB t.left⟩] : List Pt), S1.out, S1.cd⟩ : Srch)).way) :: vc 38 (.slice (ad9) ((⟨S1.num, List.set S1.low (t.node).toNat (if (at_ S1.num (tzB t.left)) < (at_ S1.low t.node) then (at_ S1.num (tzB t.left)) else (at_ S1.low t.node)), W2, S1.edges ++ ([⟨t.node, tzB t.left⟩] : List Pt), S1.out, S1.cd⟩ : Srch)).edges.length (cp10)) (((⟨S1.num, List.set S1.low (t.node).toNat (if (at_ S1.num (tzB t.left)) < (at_ S1.low t.node) then (at_ S1.num (tzB t.left)) else (at_ S1.low t.node)), W2, S1.edges ++ ([⟨t.node, tzB t.left⟩] : List Pt), S1.out, S1.cd⟩ : Srch)).edges) :: vc 23 (.slice (oa1) (rs1).length (oc1)) ((rs1)) :: (ownR 38 (rs1) ++ I)) from Fit.s)
     ·refine W.skip ?_
      refine V.then ?_
      refine W.goto ?_
      refine V.then_goto ?_
      have hst2 : stepF rows S1 = (⟨S1.num, S1.low, W2, S1.edges, S1.out, S1.cd⟩ : Srch) := by rw [hst]; unfold stepT; rw [if_pos c30, if_neg c53, if_neg c61, if_neg c92]; first | (rw [hWe]; done) | (rw [hWe]; rfl)
      have hgo2 := hgo.step hne
      have hok2 := hok1.step hne
      have hle2 := stepT_len rows S1 S1.ini t
      rw [← hst] at hle2
      rw [hst2] at hgo2 hok2 hle2
      dsimp only at hle2
      have hm2 := hok2.2
      exact V.jump (((⟨S1.num, S1.low, W2, S1.edges, S1.out, S1.cd⟩ : Srch)), (wa1), (wc1), (ea1), (ec1), (oa1), (oc1), (rs1)) (show (Gone rows (S.enter rows root (-1)) ((⟨S1.num, S1.low, W2, S1.edges, S1.out, S1.cd⟩ : Srch) : Srch)) ∧ (DfsOk rows ((⟨S1.num, S1.low, W2, S1.edges, S1.out, S1.cd⟩ : Srch) : Srch)) ∧ (((⟨S1.num, S1.low, W2, S1.edges, S1.out, S1.cd⟩ : Srch) : Srch).way ≠ []) ∧ ((rs1 : List (RowG Pt)).map RowG.xs = ((⟨S1.num, S1.low, W2, S1.edges, S1.out, S1.cd⟩ : Srch) : Srch).out) ∧ (((⟨S1.num, S1.low, W2, S1.edges, S1.out, S1.cd⟩ : Srch) : Srch).edges.length + mea ((⟨S1.num, S1.low, W2, S1.edges, S1.out, S1.cd⟩ : Srch) : Srch) ≤ M ∧ (rs1 : List (RowG Pt)).length + mea ((⟨S1.num, S1.low, W2, S1.edges, S1.out, S1.cd⟩ : Srch) : Srch) ≤ M) from ⟨hgo2, hok2.1, (by first | (rw [hWe]; simp; done) | (simp; done) | exact hok1.more hwe (by omega) | assumption), hrs1, (by dsimp only; first | omega | (simp only [List.length_append, List.length_cons, List.length_nil]; omega))⟩) (show mea ((⟨S1.num, S1.low, W2, S1.edges, S1.out, S1.cd⟩ : Srch) : Srch) < mea S1 from hm2) (Sub.cons rfl Sub.nil) (show Fit κ _ (blk b [.slice ra rows.length rc, .slice na ((⟨S1.num, S1.low, W2, S1.edges, S1.out, S1.cd⟩ : Srch)).num.length nc, .slice qa ((⟨S1.num, S1.low, W2, S1.edges, S1.out, S1.cd⟩ : Srch)).low.length qc, .slice (wa1) ((⟨S1.num, S1.low, W2, S1.edges, S1.out, S1.cd⟩ : Srch)).way.length (wc1), .slice (ea1) ((⟨S1.num, S1.low, W2, S1.edges, S1.out, S1.cd⟩ : Srch)).edges.length (ec1), .slice (oa1) (rs1).length (oc1), I64 (((⟨S1.num, S1.low, W2, S1.edges, S1.out, S1.cd⟩ : Srch)).cd)] 155 :: vc 99 (.slice ra rows.length rc) (rows) :: vc 3 (.slice na ((⟨S1.num, S1.low, W2, S1.edges, S1.out, S1.cd⟩ : Srch)).num.length nc) (((⟨S1.num, S1.low, W2, S1.edges, S1.out, S1.cd⟩ : Srch)).num) :: vc 3 (.slice qa ((⟨S1.num, S1.low, W2, S1.edges, S1.out, S1.cd⟩ : Srch)).low.length qc) (((⟨S1.num, S1.low, W2, S1.edges, S1.out, S1.cd⟩ : Srch)).low) :: vc 183 (.slice (wa1) ((⟨S1.num, S1.low, W2, S1.edges, S1.out, S1.cd⟩ : Srch)).way.length (wc1)) (((⟨S1.num, S1.low, W2, S1.edges, S1.out, S1.cd⟩ : Srch)).way) :: vc 38 (.slice (ea1) ((⟨S1.num, S1.low, W2, S1.edges, S1.out, S1.cd⟩ : Srch)).edges.length (ec1)) (((⟨S1.num, S1.low, W2, S1.edges, S1.out, S1.cd⟩ : Srch)).edges) :: vc 23 (.slice (oa1) (rs1).length (oc1)) ((rs1)) :: (ownR 38 (rs1) ++ I)) from Fit.s)
  ·refine W.skip ?_
   refine V.then ?_
   refine W.sr ?_
   refine G.r (Runs.move rfl) ?_
   refine G.r (Runs.nilE rfl (hsw hwl)) ?_
   refine G.r (Runs.fld (α := Vis) (xs := S1.way) fld183_1 rfl Sl.o (by first | omega | (simp only [List.length_set]; omega))) ?_
   refine G.r (Runs.cast (congrArg (fun x : Vis => I64 x.src) ht) (Runs.getf (α := Vis) (xs := S1.way) (u := I64 ((at_ S1.way (((S1.way.length : Nat) : Int) - 1)).src)) ty3 rfl Sl.o (by omega) (by first | omega | (simp only [List.length_set]; omega)) rfl)) ?_
   refine G.r (Runs.assign rfl) ?_
   refine G.nt ?_
   refine W.seq ?_
   refine W.drawn mixed ?_
   refine A.hold (blk b [.slice ra rows.length rc, .slice na S1.num.length nc, .slice qa S1.low.length qc, .slice wa1 S1.way.length wc1, .slice ea1 S1.edges.length ec1, .slice oa1 rs1.length oc1, I64 (S1.cd)] 155 :: vc 99 (.slice ra rows.length rc) (rows) :: vc 3 (.slice na S1.num.length nc) (S1.num) :: vc 3 (.slice qa S1.low.length qc) (S1.low) :: vc 183 (.slice wa1 S1.way.length wc1) (S1.way) :: vc 38 (.slice ea1 S1.edges.length ec1) (S1.edges) :: vc 23 (.slice oa1 rs1.length oc1) (rs1) :: (ownR 38 rs1 ++ I)) 14 ?_
   refine D.r 0 rfl (Runs.move rfl) ?_ (hJ := Fit.sub)
   refine D.r 1 rfl (Runs.move rfl) ?_ (hJ := Fit.sub)
   refine D.r 2 rfl (Runs.nilCheck rfl) ?_ (hJ := Fit.sub)
   refine D.r 3 rfl (Runs.fieldAddr fld155_3 rfl) ?_ (hJ := Fit.sub)
   refine D.r 4 rfl (Runs.ld ty153) ?_ (hJ := Fit.sub)
   refine D.r 5 rfl (Runs.move rfl) ?_ (hJ := Fit.sub)
   refine D.r 6 rfl (Runs.nilCheck rfl) ?_ (hJ := Fit.sub)
   refine D.r 7 rfl (Runs.fieldAddr fld155_3 rfl) ?_ (hJ := Fit.sub)
   refine D.r 8 rfl (Runs.ld ty153) ?_ (hJ := Fit.sub)
   refine D.r 9 rfl (Runs.lens Tryd.underlying153 rfl) ?_ (hJ := Fit.sub)
   refine D.r 10 rfl (Runs.sub rfl rfl (by unfold InR; omega)) ?_ (hJ := Fit.sub)
   refine D.r 11 rfl (Runs.hi (α := Vis) (xs := S1.way) (h := (S1.way.length - 1)) Tryd.underlying153 ty183 rfl rfl (by omega) Sl.o (by omega)) ?_ (hJ := Fit.sub)
   refine D.step (rs := [12]) (by kernel_rfl) rfl rfl (all1 ?_)
   refine Step.read rfl (Wanted.plain rfl) rfl rfl (Runs.nilCheck rfl) Fit.sub ?_
   refine D.r 13 rfl (Runs.fieldAddr fld155_3 rfl) ?_ (hJ := Fit.sub)
   refine D.stop (by kernel_rfl) ?_
   refine A.eff (i := 14) (by kernel_rfl) rfl (Wanted.plain rfl) (Eff.st (cs := [_, _, _, _, _, _, _]) (vs := [_]) (cs' := [_, _, _, _, _, _, _]) ty153) ?_
   rintro _ _ ⟨rfl, rfl⟩
   refine A.done (by kernel_rfl) ?_
   refine V.then ?_
   refine W.sub (L' := [(7, _), (5, _), (0, _)]) (Sub.cons rfl (Sub.cons rfl (Sub.cons rfl Sub.nil))) ?_
   refine W.sr ?_
   refine G.r (Runs.move rfl) ?_
   refine G.r (Runs.geq rfl rfl) ?_
   refine G.fit (J := vc 183 (.slice wa1 (List.take (S1.way.length - 1) S1.way).length wc1) (List.take (S1.way.length - 1) S1.way) :: blk b [.slice ra rows.length rc, .slice na S1.num.length nc, .slice qa S1.low.length qc, .slice wa1 (List.take (S1.way.length - 1) S1.way).length wc1, .slice ea1 S1.edges.length ec1, .slice oa1 rs1.length oc1, I64 (S1.cd)] 155 :: vc 99 (.slice ra rows.length rc) (rows) :: vc 3 (.slice na S1.num.length nc) (S1.num) :: vc 3 (.slice qa S1.low.length qc) (S1.low) :: vc 38 (.slice ea1 S1.edges.length ec1) (S1.edges) :: vc 23 (.slice oa1 rs1.length oc1) (rs1) :: (ownR 38 rs1 ++ I)) (Fit.trans (show Fit κ _ (vc 183 (.slice wa1 S1.way.length wc1) (S1.way) :: blk b [.slice ra rows.length rc, .slice na S1.num.length nc, .slice qa S1.low.length qc, .slice wa1 (List.take (S1.way.length - 1) S1.way).length wc1, .slice ea1 S1.edges.length ec1, .slice oa1 rs1.length oc1, I64 (S1.cd)] 155 :: vc 99 (.slice ra rows.length rc) (rows) :: vc 3 (.slice na S1.num.length nc) (S1.num) :: vc 3 (.slice qa S1.low.length qc) (S1.low) :: vc 38 (.slice ea1 S1.edges.length ec1) (S1.edges) :: vc 23 (.slice oa1 rs1.length oc1) (rs1) :: (ownR 38 rs1 ++ I)) from Fit.s) (Fit.takevc rfl)) ?_
   refine G.nt ?_
   refine W.ite rfl (fun c145 => ?_) (fun c145 => ?_)
   ·refine W.seq ?_
    refine W.drawn mixed ?_
    refine A.hold (vc 183 (.slice wa1 (List.take (S1.way.length - 1) S1.way).length wc1) (List.take (S1.way.length - 1) S1.way) :: blk b [.slice ra rows.length rc, .slice na S1.num.length nc, .slice qa S1.low.length qc, .slice wa1 (List.take (S1.way.length - 1) S1.way).length wc1, .slice ea1 S1.edges.length ec1, .slice oa1 rs1.length oc1, I64 (S1.cd)] 155 :: vc 99 (.slice ra rows.length rc) (rows) :: vc 3 (.slice na S1.num.length nc) (S1.num) :: vc 3 (.slice qa S1.low.length qc) (S1.low) :: vc 38 (.slice ea1 S1.edges.length ec1) (S1.edges) :: vc 23 (.slice oa1 rs1.length oc1) (rs1) :: (ownR 38 rs1 ++ I)) 21 ?_
    refine D.r 0 rfl (Runs.move rfl) ?_ (hJ := Fit.sub)
    refine D.r 1 rfl (Runs.nilCheck rfl) ?_ (hJ := Fit.sub)
    refine D.r 2 rfl (Runs.fieldAddr fld155_2 rfl) ?_ (hJ := Fit.sub)
    refine D.r 3 rfl (Runs.ld ty22) ?_ (hJ := Fit.sub)
    refine D.r 4 rfl (Runs.move rfl) ?_ (hJ := Fit.sub)
    refine D.r 5 rfl (Runs.move rfl) ?_ (hJ := Fit.sub)
    refine D.r 6 rfl (Runs.nilCheck rfl) ?_ (hJ := Fit.sub)
    refine D.r 7 rfl (Runs.fieldAddr fld155_2 rfl) ?_ (hJ := Fit.sub)
    refine D.r 8 rfl (Runs.ld ty22) ?_ (hJ := Fit.sub)
    refine D.r 9 rfl (Runs.move rfl) ?_ (hJ := Fit.sub)
    refine D.r 10 rfl (Runs.idx (α := Int) (xs := S1.low) Tryd.underlying22 ty3 rfl rfl Sl.o (by omega) (by first | omega | (simp only [List.length_set]; omega))) ?_ (hJ := Fit.sub)
    refine D.r 11 rfl (Runs.get (xs := S1.low) ty3 rfl Sl.o (by omega) (by first | omega | (simp only [List.length_set]; omega))) ?_ (hJ := Fit.sub)
    refine D.r 12 rfl (Runs.move rfl) ?_ (hJ := Fit.sub)
    refine D.r 13 rfl (Runs.nilCheck rfl) ?_ (hJ := Fit.sub)
    refine D.r 14 rfl (Runs.fieldAddr fld155_2 rfl) ?_ (hJ := Fit.sub)
    refine D.r 15 rfl (Runs.ld ty22) ?_ (hJ := Fit.sub)
    refine D.r 16 rfl (Runs.move rfl) ?_ (hJ := Fit.sub)
    refine D.r 17 rfl (Runs.idx (α := Int) (xs := S1.low) Tryd.underlying22 ty3 rfl rfl Sl.o (by omega) (by first | omega | (simp only [List.length_set]; omega))) ?_ (hJ := Fit.sub)
    refine D.r 18 rfl (Runs.get (xs := S1.low) ty3 rfl Sl.o (by omega) (by first | omega | (simp only [List.length_set]; omega))) ?_ (hJ := Fit.sub)
    refine D.r 19 rfl (Runs.min rfl rfl) ?_ (hJ := Fit.sub)
    refine D.r 20 rfl (Runs.idx (α := Int) (xs := S1.low) Tryd.underlying22 ty3 rfl rfl Sl.o (by omega) (by first | omega | (simp only [List.length_set]; omega))) ?_ (hJ := Fit.sub)
    refine D.stop (by kernel_rfl) ?_
    refine A.eff (i := 21) (by kernel_rfl) rfl (Wanted.plain rfl) (Eff.set (α := Int) (xs := S1.low) (e := 3) (new := if (at_ S1.low t.node) < (at_ S1.low t.src) then (at_ S1.low t.node) else (at_ S1.low t.src)) ty3 rfl rfl rfl (by omega) (by first | omega | (simp only [List.length_set]; omega)) (by repeat (first | exact At.head _ _ _ | apply At.tail))) ?_
    rintro _ _ ⟨rfl, rfl⟩
    refine A.done (by kernel_rfl) ?_
    refine V.then ?_
    refine W.sub (L' := [(7, _), (5, _), (0, _)]) (Sub.cons rfl (Sub.cons rfl (Sub.cons rfl Sub.nil))) ?_
    refine W.seq ?_
    refine W.seq ?_
    refine W.drawn mixed ?_
    refine A.hold (vc 183 (.slice wa1 (List.take (S1.way.length - 1) S1.way).length wc1) (List.take (S1.way.length - 1) S1.way) :: blk b [.slice ra rows.length rc, .slice na S1.num.length nc, .slice qa S1.low.length qc, .slice wa1 (List.take (S1.way.length - 1) S1.way).length wc1, .slice ea1 S1.edges.length ec1, .slice oa1 rs1.length oc1, I64 (S1.cd)] 155 :: vc 99 (.slice ra rows.length rc) (rows) :: vc 3 (.slice na S1.num.length nc) (S1.num) :: vc 3 (.slice qa S1.low.length qc) (List.set S1.low (t.src).toNat (if (at_ S1.low t.node) < (at_ S1.low t.src) then (at_ S1.low t.node) else (at_ S1.low t.src))) :: vc 38 (.slice ea1 S1.edges.length ec1) (S1.edges) :: vc 23 (.slice oa1 rs1.length oc1) (rs1) :: (ownR 38 rs1 ++ I)) 15 ?_
    refine D.r 0 rfl (Runs.move rfl) ?_ (hJ := Fit.sub)
    refine D.r 1 rfl (Runs.nilCheck rfl) ?_ (hJ := Fit.sub)
    refine D.r 2 rfl (Runs.fieldAddr fld155_2 rfl) ?_ (hJ := Fit.sub)
    refine D.r 3 rfl (Runs.ld ty22) ?_ (hJ := Fit.sub)
    refine D.r 4 rfl (Runs.move rfl) ?_ (hJ := Fit.sub)
    refine D.r 5 rfl (Runs.idx (α := Int) (xs := List.set S1.low (t.src).toNat (if (at_ S1.low t.node) < (at_ S1.low t.src) then (at_ S1.low t.node) else (at_ S1.low t.src))) Tryd.underlying22 ty3 rfl rfl Sl.o (by omega) (by first | omega | (simp only [List.length_set]; omega))) ?_ (hJ := Fit.sub)
    refine D.r 6 rfl (Runs.get (xs := List.set S1.low (t.src).toNat (if (at_ S1.low t.node) < (at_ S1.low t.src) then (at_ S1.low t.node) else (at_ S1.low t.src))) ty3 rfl Sl.o (by omega) (by first | omega | (simp only [List.length_set]; omega))) ?_ (hJ := Fit.sub)
    refine D.r 7 rfl (Runs.move rfl) ?_ (hJ := Fit.sub)
    refine D.r 8 rfl (Runs.nilCheck rfl) ?_ (hJ := Fit.sub)
    refine D.r 9 rfl (Runs.fieldAddr fld155_1 rfl) ?_ (hJ := Fit.sub)
    refine D.r 10 rfl (Runs.ld ty22) ?_ (hJ := Fit.sub)
    refine D.r 11 rfl (Runs.move rfl) ?_ (hJ := Fit.sub)
    refine D.r 12 rfl (Runs.idx (α := Int) (xs := S1.num) Tryd.underlying22 ty3 rfl rfl Sl.o (by omega) (by first | omega | (simp only [List.length_set]; omega))) ?_ (hJ := Fit.sub)
    refine D.r 13 rfl (Runs.get (xs := S1.num) ty3 rfl Sl.o (by omega) (by first | omega | (simp only [List.length_set]; omega))) ?_ (hJ := Fit.sub)
    refine D.r 14 rfl (Runs.geq rfl rfl) ?_ (hJ := Fit.sub)
    refine D.done (by kernel_rfl) ?_
    refine V.then ?_
    refine W.sub (L' := [(181, _), (7, _), (5, _), (0, _)]) (Sub.cons rfl (Sub.cons rfl (Sub.cons rfl (Sub.cons rfl Sub.nil)))) ?_
    refine W.ite rfl (fun c181 => ?_) (fun c181 => ?_)
    ·refine W.region ?_
     refine G.r (Runs.move rfl) ?_
     refine G.r (Runs.move rfl) ?_
     refine G.r (Runs.move rfl) ?_
     refine G.r (Runs.build (cells := [_, _]) ty38 Tryd.underlying38 pl38 rfl rfl) ?_
     refine G.e (Eff.call call149 rfl rfl (CallS.fit (show Fit κ _ (blk b [.slice ra rows.length rc, .slice na S1.num.length nc, .slice qa S1.low.length qc, .slice wa1 (List.take (S1.way.length - 1) S1.way).length wc1, .slice ea1 S1.edges.length ec1, .slice oa1 rs1.length oc1, I64 (S1.cd)] 155 :: vc 38 (.slice ea1 S1.edges.length ec1) (S1.edges) :: vc 23 (.slice oa1 rs1.length oc1) (rs1) :: (ownR 38 rs1 ++ (vc 183 (.slice wa1 (List.take (S1.way.length - 1) S1.way).length wc1) (List.take (S1.way.length - 1) S1.way) :: vc 99 (.slice ra rows.length rc) (rows) :: vc 3 (.slice na S1.num.length nc) (S1.num) :: vc 3 (.slice qa S1.low.length qc) (List.set S1.low (t.src).toNat (if (at_ S1.low t.node) < (at_ S1.low t.src) then (at_ S1.low t.node) else (at_ S1.low t.src))) :: I))) from (Fit.trans (show Fit κ _ (blk b [.slice ra rows.length rc, .slice na S1.num.length nc, .slice qa S1.low.length qc, .slice wa1 (List.take (S1.way.length - 1) S1.way).length wc1, .slice ea1 S1.edges.length ec1, .slice oa1 rs1.length oc1, I64 (S1.cd)] 155 :: vc 38 (.slice ea1 S1.edges.length ec1) (S1.edges) :: vc 23 (.slice oa1 rs1.length oc1) (rs1) :: vc 183 (.slice wa1 (List.take (S1.way.length - 1) S1.way).length wc1) (List.take (S1.way.length - 1) S1.way) :: vc 99 (.slice ra rows.length rc) (rows) :: vc 3 (.slice na S1.num.length nc) (S1.num) :: vc 3 (.slice qa S1.low.length qc) (List.set S1.low (t.src).toNat (if (at_ S1.low t.node) < (at_ S1.low t.src) then (at_ S1.low t.node) else (at_ S1.low t.src))) :: (ownR 38 rs1 ++ I)) from Fit.s) (by have hfi := Fit.into (κ := κ) (A := [blk b [.slice ra rows.length rc, .slice na S1.num.length nc, .slice qa S1.low.length qc, .slice wa1 (List.take (S1.way.length - 1) S1.way).length wc1, .slice ea1 S1.edges.length ec1, .slice oa1 rs1.length oc1, I64 (S1.cd)] 155, vc 38 (.slice ea1 S1.edges.length ec1) (S1.edges), vc 23 (.slice oa1 rs1.length oc1) (rs1)]) (R := [vc 183 (.slice wa1 (List.take (S1.way.length - 1) S1.way).length wc1) (List.take (S1.way.length - 1) S1.way), vc 99 (.slice ra rows.length rc) (rows), vc 3 (.slice na S1.num.length nc) (S1.num), vc 3 (.slice qa S1.low.length qc) (List.set S1.low (t.src).toNat (if (at_ S1.low t.node) < (at_ S1.low t.src) then (at_ S1.low t.node) else (at_ S1.low t.src)))]) (B := ownR 38 rs1) (I := I); simp only [List.cons_append, List.nil_append] at hfi; exact hfi))) (SPop_ok (I := vc 183 (.slice wa1 (List.take (S1.way.length - 1) S1.way).length wc1) (List.take (S1.way.length - 1) S1.way) :: vc 99 (.slice ra rows.length rc) (rows) :: vc 3 (.slice na S1.num.length nc) (S1.num) :: vc 3 (.slice qa S1.low.length qc) (List.set S1.low (t.src).toNat (if (at_ S1.low t.node) < (at_ S1.low t.src) then (at_ S1.low t.node) else (at_ S1.low t.src))) :: I) (rs := rs1) (edges := S1.edges) (e := (⟨t.src, t.node⟩ : Pt)) (hok1.tedge hwe (by omega)) (by omega) (by omega)))) ?_
     rintro _ _ ⟨_, _, ⟨oa11, oc12, row13, rfl, hrow13, rfl⟩, rfl, rfl⟩
     refine G.fit (J := blk b [.slice ra rows.length rc, .slice na S1.num.length nc, .slice qa S1.low.length qc, .slice wa1 (List.take (S1.way.length - 1) S1.way).length wc1, .slice ea1 (List.take (S1.edges.idxOf (⟨t.src, t.node⟩ : Pt)) S1.edges).length ec1, .slice oa11 (rs1 ++ [row13]).length oc12, I64 (S1.cd)] 155 :: vc 38 (.slice ea1 (List.take (S1.edges.idxOf (⟨t.src, t.node⟩ : Pt)) S1.edges).length ec1) (List.take (S1.edges.idxOf (⟨t.src, t.node⟩ : Pt)) S1.edges) :: vc 23 (.slice oa11 (rs1 ++ [row13]).length oc12) (rs1 ++ [row13]) :: vc 183 (.slice wa1 (List.take (S1.way.length - 1) S1.way).length wc1) (List.take (S1.way.length - 1) S1.way) :: vc 99 (.slice ra rows.length rc) (rows) :: vc 3 (.slice na S1.num.length nc) (S1.num) :: vc 3 (.slice qa S1.low.length qc) (List.set S1.low (t.src).toNat (if (at_ S1.low t.node) < (at_ S1.low t.src) then (at_ S1.low t.node) else (at_ S1.low t.src))) :: (ownR 38 (rs1 ++ [row13]) ++ I)) (by have hfo := Fit.outof (κ := κ) (A := [blk b [.slice ra rows.length rc, .slice na S1.num.length nc, .slice qa S1.low.length qc, .slice wa1 (List.take (S1.way.length - 1) S1.way).length wc1, .slice ea1 (List.take (S1.edges.idxOf (⟨t.src, t.node⟩ : Pt)) S1.edges).length ec1, .slice oa11 (rs1 ++ [row13]).length oc12, I64 (S1.cd)] 155, vc 38 (.slice ea1 (List.take (S1.edges.idxOf (⟨t.src, t.node⟩ : Pt)) S1.edges).length ec1) (List.take (S1.edges.idxOf (⟨t.src, t.node⟩ : Pt)) S1.edges), vc 23 (.slice oa11 (rs1 ++ [row13]).length oc12) (rs1 ++ [row13])]) (R := [vc 183 (.slice wa1 (List.take (S1.way.length - 1) S1.way).length wc1) (List.take (S1.way.length - 1) S1.way), vc 99 (.slice ra rows.length rc) (rows), vc 3 (.slice na S1.num.length nc) (S1.num), vc 3 (.slice qa S1.low.length qc) (List.set S1.low (t.src).toNat (if (at_ S1.low t.node) < (at_ S1.low t.src) then (at_ S1.low t.node) else (at_ S1.low t.src)))]) (B := ownR 38 (rs1 ++ [row13])) (I := I); simp only [List.cons_append, List.nil_append] at hfo; exact hfo) ?_
     refine G.nt ?_
     refine W.goto ?_
     have hst2 : stepF rows S1 = (⟨S1.num, List.set S1.low (t.src).toNat (if (at_ S1.low t.node) < (at_ S1.low t.src) then (at_ S1.low t.node) else (at_ S1.low t.src)), List.take (S1.way.length - 1) S1.way, List.take (S1.edges.idxOf (⟨t.src, t.node⟩ : Pt)) S1.edges, S1.out ++ [sortD ((List.drop (S1.edges.idxOf (⟨t.src, t.node⟩ : Pt)) S1.edges).map normE)], S1.cd⟩ : Srch) := by rw [hst]; unfold stepT; rw [if_neg c30, if_neg (by omega), if_pos (show (at_ S1.num t.src ≤ at_ (S1.low.set t.src.toNat (minI (at_ S1.low t.src) (at_ S1.low t.node))) t.node) from c181)]; first | done | rfl
     have hgo2 := hgo.step hne
     have hok2 := hok1.step hne
     have hle2 := stepT_len rows S1 S1.ini t
     rw [← hst] at hle2
     rw [hst2] at hgo2 hok2 hle2
     dsimp only at hle2
     have hm2 := hok2.2
     have hrs2 : (rs1 ++ [row13]).map RowG.xs = S1.out ++ [sortD ((List.drop (S1.edges.idxOf (⟨t.src, t.node⟩ : Pt)) S1.edges).map normE)] := by rw [List.map_append, hrs1, List.map_singleton, hrow13]
     have hql : (List.set S1.low (t.src).toNat (if (at_ S1.low t.node) < (at_ S1.low t.src) then (at_ S1.low t.node) else (at_ S1.low t.src))).length = S1.low.length := List.length_set
     rw [← hql]
     exact V.jump (((⟨S1.num, List.set S1.low (t.src).toNat (if (at_ S1.low t.node) < (at_ S1.low t.src) then (at_ S1.low t.node) else (at_ S1.low t.src)), List.take (S1.way.length - 1) S1.way, List.take (S1.edges.idxOf (⟨t.src, t.node⟩ : Pt)) S1.edges, S1.out ++ [sortD ((List.drop (S1.edges.idxOf (⟨t.src, t.node⟩ : Pt)) S1.edges).map normE)], S1.cd⟩ : Srch)), (wa1), (wc1), (ea1), (ec1), (oa11), (oc12), (rs1 ++ [row13])) (show (Gone rows (S.enter rows root (-1)) ((⟨S1.num, List.set S1.low (t.src).toNat (if (at_ S1.low t.node) < (at_ S1.low t.src) then (at_ S1.low t.node) else (at_ S1.low t.src)), List.take (S1.way.length - 1) S1.way, List.take (S1.edges.idxOf (⟨t.src, t.node⟩ : Pt)) S1.edges, S1.out ++ [sortD ((List.drop (S1.edges.idxOf (⟨t.src, t.node⟩ : Pt)) S1.edges).map normE)], S1.cd⟩ : Srch) : Srch)) ∧ (DfsOk rows ((⟨S1.num, List.set S1.low (t.src).toNat (if (at_ S1.low t.node) < (at_ S1.low t.src) then (at_ S1.low t.node) else (at_ S1.low t.src)), List.take (S1.way.length - 1) S1.way, List.take (S1.edges.idxOf (⟨t.src, t.node⟩ : Pt)) S1.edges, S1.out ++ [sortD ((List.drop (S1.edges.idxOf (⟨t.src, t.node⟩ : Pt)) S1.edges).map normE)], S1.cd⟩ : Srch) : Srch)) ∧ (((⟨S1.num, List.set S1.low (t.src).toNat (if (at_ S1.low t.node) < (at_ S1.low t.src) then (at_ S1.low t.node) else (at_ S1.low t.src)), List.take (S1.way.length - 1) S1.way, List.take (S1.edges.idxOf (⟨t.src, t.node⟩ : Pt)) S1.edges, S1.out ++ [sortD ((List.drop (S1.edges.idxOf (⟨t.src, t.node⟩ : Pt)) S1.edges).map normE)], S1.cd⟩ : Srch) : Srch).way ≠ []) ∧ ((rs1 ++ [row13] : List (RowG Pt)).map RowG.xs = ((⟨S1.num, List.set S1.low (t.src).toNat (if (at_ S1.low t.node) < (at_ S1.low t.src) then (at_ S1.low t.node) else (at_ S1.low t.src)), List.take (S1.way.length - 1) S1.way, List.take (S1.edges.idxOf (⟨t.src, t.node⟩ : Pt)) S1.edges, S1.out ++ [sortD ((List.drop (S1.edges.idxOf (⟨t.src, t.node⟩ : Pt)) S1.edges).map normE)], S1.cd⟩ : Srch) : Srch).out) ∧ (((⟨S1.num, List.set S1.low (t.src).toNat (if (at_ S1.low t.node) < (at_ S1.low t.src) then (at_ S1.low t.node) else (at_ S1.low t.src)), List.take (S1.way.length - 1) S1.way, List.take (S1.edges.idxOf (⟨t.src, t.node⟩ : Pt)) S1.edges, S1.out ++ [sortD ((List.drop (S1.edges.idxOf (⟨t.src, t.node⟩ : Pt)) S1.edges).map normE)], S1.cd⟩ : Srch) : Srch).edges.length + mea ((⟨S1.num, List.set S1.low (t.src).toNat (if (at_ S1.low t.node) < (at_ S1.low t.src) then (at_ S1.low t.node) else (at_ S1.low t.src)), List.take (S1.way.length - 1) S1.way, List.take (S1.edges.idxOf (⟨t.src, t.node⟩ : Pt)) S1.edges, S1.out ++ [sortD ((List.drop (S1.edges.idxOf (⟨t.src, t.node⟩ : Pt)) S1.edges).map normE)], S1.cd⟩ : Srch) : Srch) ≤ M ∧ (rs1 ++ [row13] : List (RowG Pt)).length + mea ((⟨S1.num, List.set S1.low (t.src).toNat (if (at_ S1.low t.node) < (at_ S1.low t.src) then (at_ S1.low t.node) else (at_ S1.low t.src)), List.take (S1.way.length - 1) S1.way, List.take (S1.edges.idxOf (⟨t.src, t.node⟩ : Pt)) S1.edges, S1.out ++ [sortD ((List.drop (S1.edges.idxOf (⟨t.src, t.node⟩ : Pt)) S1.edges).map normE)], S1.cd⟩ : Srch) : Srch) ≤ M) from ⟨hgo2, hok2.1, (by first | (rw [hWe]; simp; done) | (simp; done) | exact hok1.more hwe (by omega) | assumption), hrs2, (by dsimp only; first | omega | (simp only [List.length_append, List.length_cons, List.length_nil]; omega))⟩) (show mea ((⟨S1.num, List.set S1.low (t.src).toNat (if (at_ S1.low t.node) < (at_ S1.low t.src) then (at_ S1.low t.node) else (at_ S1.low t.src)), List.take (S1.way.length - 1) S1.way, List.take (S1.edges.idxOf (⟨t.src, t.node⟩ : Pt)) S1.edges, S1.out ++ [sortD ((List.drop (S1.edges.idxOf (⟨t.src, t.node⟩ : Pt)) S1.edges).map normE)], S1.cd⟩ : Srch) : Srch) < mea S1 from hm2) (Sub.cons rfl Sub.nil) (show Fit κ _ (blk b [.slice ra rows.length rc, .slice na ((⟨S1.num, List.set S1.low (t.src).toNat (if (at_ S1.low t.node) < (at_ S1.low t.src) then (at_ S1.low t.node) else (at_ S1.low t.src)), List.take (S1.way.length - 1) S1.way, List.take (S1.edges.idxOf (⟨t.src, t.node⟩ : Pt)) S1.edges, S1.out ++ [sortD ((List.drop (S1.edges.idxOf (⟨t.src, t.node⟩ : Pt)) S1.edges).map normE)], S1.cd⟩ : Srch)).num.length nc, .slice qa ((⟨S1.num, List.set S1.low (t.src).toNat (if (at_ S1.low t.node) < (at_ S1.low t.src) then (at_ S1.low t.node) else (at_ S1.low t.src)), List.take (S1.way.length - 1) S1.way, List.take (S1.edges.idxOf (⟨t.src, t.node⟩ : Pt)) S1.edges, S1.out ++ [sortD ((List.drop (S1.edges.idxOf (⟨t.src, t.node⟩ : Pt)) S1.edges).map normE)], S1.cd⟩ : Srch)).low.length qc, .slice (wa1) ((⟨S1.num, List.set S1.low (t.src).toNat (if (at_ S1.low t.node) < (at_ S1.low t.src) then (at_ S1.low t.node) else (at_ S1.low t.src)), List.take (S1.way.length - 1) S1.way, List.take (S1.edges.idxOf (⟨t.src, t.node⟩ : Pt)) S1.edges, S1.out ++ [sortD ((List.drop (S1.edges.idxOf (⟨t.src, t.node⟩ : Pt)) S1.edges).map normE)], S1.cd⟩ : Srch)).way.length (wc1), .slice (ea1) ((⟨S1.num, List.set S1.low (t.src).toNat (if (at_ S1.low t.node) < (at_ S1.low t.src) then (at_ S1.low t.node) else (at_ S1.low t.src)), List.take (S1.way.length - 1) S1.way, List.take (S1.edges.idxOf (⟨t.src, t.node⟩ : Pt)) S1.edges, S1.out ++ [sortD ((List.drop (S1.edges.idxOf (⟨t.src, t.node⟩ : Pt)) S1.edges).map normE)], S1.cd⟩ : Srch)).edges.length (ec1), .slice (oa11) (rs1 ++ [row13]).length (oc12), I64 (((⟨S1.num, List.set S1.low (t.src).toNat (if (at_ S1.low t.node) < (at_ S1.low t.src) then (at_ S1.low t.node) else (at_ S1.low t.src)), List.take (S1.way.length - 1) S1.way, List.take (S1.edges.idxOf (⟨t.src, t.node⟩ : Pt)) S1.edges, S1.out ++ [sortD ((List.drop (S1.edges.idxOf (⟨t.src, t.node⟩ : Pt)) S1.edges).map normE)], S1.cd⟩ : Srch)).cd)] 155 :: vc 99 (.slice ra rows.length rc) (rows) :: vc 3 (.slice na ((⟨S1.num, List.set S1.low (t.src).toNat (if (at_ S1.low t.node) < (at_ S1.low t.src) then (at_ S1.low t.node) else (at_ S1.low t.src)), List.take (S1.way.length - 1) S1.way, List.take (S1.edges.idxOf (⟨t.src, t.node⟩ : Pt)) S1.edges, S1.out ++ [sortD ((List.drop (S1.edges.idxOf (⟨t.src, t.node⟩ : Pt)) S1.edges).map normE)], S1.cd⟩ : Srch)).num.length nc) (((⟨S1.num, List.set S1.low (t.src).toNat (if (at_ S1.low t.node) < (at_ S1.low t.src) then (at_ S1.low t.node) else (at_ S1.low t.src)), List.take (S1.way.length - 1) S1.way, List.take (S1.edges.idxOf (⟨t.src, t.node⟩ : Pt)) S1.edges, S1.out ++ [sortD ((List.drop (S1.edges.idxOf (⟨t.src, t.node⟩ : Pt)) S1.edges).map normE)], S1.cd⟩ : Srch)).num) :: vc 3 (.slice qa ((⟨S1.num, List.set S1.low (t.src).toNat (if (at_ S1.low t.node) < (at_ S1.low t.src) then (at_ S1.low t.node) else (at_ S1.low t.src)), List.take (S1.way.length - 1) S1.way, List.take (S1.edges.idxOf (⟨t.src, t.node⟩ : Pt)) S1.edges, S1.out ++ [sortD ((List.drop (S1.edges.idxOf (⟨t.src, t.node⟩ : Pt)) S1.edges).map normE)], S1.cd⟩ : Srch)).low.length qc) (((⟨S1.num, List.set S1.low (t.src).toNat (if (at_ S1.low t.node) < (at_ S1.low t.src) then (at_ S1.low t.node) else (at_ S1.low t.src)), List.take (S1.way.length - 1) S1.way, List.take (S1.edges.idxOf (⟨t.src, t.node⟩ : Pt)) S1.edges, S1.out ++ [sortD ((List.drop (S1.edges.idxOf (⟨t.src, t.node⟩ : Pt)) S1.edges).map normE)], S1.cd⟩ : Srch)).low) :: vc 183 (.slice (wa1) ((⟨S1.num, List.set S1.low (t.src).toNat (if (at_ S1.low t.node) < (at_ S1.low t.src) then (at_ S1.low t.node) else (at_ S1.low t.src)), List.take (S1.way.length - 1) S1.way, List.take (S1.edges.idxOf (⟨t.src, t.node⟩ : Pt)) S1.edges, S1.out ++ [sortD ((List.drop (S1.edges.idxOf (⟨t.src, t.node⟩ : Pt)) S1.edges).map normE)], S1.cd⟩ : Srch)).way.length (wc1)) (((⟨S1.num, List.set S1.low (t.src).toNat (if (at_ S1.low t.node) < (at_ S1.low t.src) then (at_ S1.low t.node) else (at_ S1.low t.src)), List.take (S1.way.length - 1) S1.way, List.take (S1.edges.idxOf (⟨t.src, t.node⟩ : Pt)) S1.edges, S1.out ++ [sortD ((List.drop (S1.edges.idxOf (⟨t.src, t.node⟩ : Pt)) S1.edges).map normE)], S1.cd⟩ : Srch)).way) :: vc 38 (.slice (ea1) ((⟨S1.num, List.set S1.low (t.src).toNat (if (at_ S1.low t.node) < (at_ S1.low t.src) then (at_ S1.low t.node) else (at_ S1.low t.src)), List.take (S1.way.length - 1) S1.way, List.take (S1.edges.idxOf (⟨t.src, t.node⟩ : Pt)) S1.edges, S1.out ++ [sortD ((List.drop (S1.edges.idxOf (⟨t.src, t.node⟩ : Pt)) S1.edges).map normE)], S1.cd⟩ : Srch)).edges.length (ec1)) (((⟨S1.num, List.set S1.low (t.src).toNat (if (at_ S1.low t.node) < (at_ S1.low t.src) then (at_ S1.low t.node) else (at_ S1.low t.src)), List.take (S1.way.length - 1) S1.way, List.take (S1.edges.idxOf (⟨t.src, t.node⟩ : Pt)) S1.edges, S1.out ++ [sortD ((List.drop (S1.edges.idxOf (⟨t.src, t.node⟩ : Pt)) S1.edges).map normE)], S1.cd⟩ : Srch)).edges) :: vc 23 (.slice (oa11) (rs1 ++ [row13]).length (oc12)) ((rs1 ++ [row13])) :: (ownR 38 (rs1 ++ [row13]) ++ I)) from Fit.s)
    ·refine W.skip ?_
     refine V.then ?_
     refine W.goto ?_
     have hst2 : stepF rows S1 = (⟨S1.num, List.set S1.low (t.src).toNat (if (at_ S1.low t.node) < (at_ S1.low t.src) then (at_ S1.low t.node) else (at_ S1.low t.src)), List.take (S1.way.length - 1) S1.way, S1.edges, S1.out, S1.cd⟩ : Srch) := by rw [hst]; unfold stepT; rw [if_neg c30, if_neg (by omega), if_neg (show ¬ (at_ S1.num t.src ≤ at_ (S1.low.set t.src.toNat (minI (at_ S1.low t.src) (at_ S1.low t.node))) t.node) from c181)]; first | done | rfl
     have hgo2 := hgo.step hne
     have hok2 := hok1.step hne
     have hle2 := stepT_len rows S1 S1.ini t
     rw [← hst] at hle2
     rw [hst2] at hgo2 hok2 hle2
     dsimp only at hle2
     have hm2 := hok2.2
     have hql : (List.set S1.low (t.src).toNat (if (at_ S1.low t.node) < (at_ S1.low t.src) then (at_ S1.low t.node) else (at_ S1.low t.src))).length = S1.low.length := List.length_set
     rw [← hql]
     exact V.jump (((⟨S1.num, List.set S1.low (t.src).toNat (if (at_ S1.low t.node) < (at_ S1.low t.src) then (at_ S1.low t.node) else (at_ S1.low t.src)), List.take (S1.way.length - 1) S1.way, S1.edges, S1.out, S1.cd⟩ : Srch)), (wa1), (wc1), (ea1), (ec1), (oa1), (oc1), (rs1)) (show (Gone rows (S.enter rows root (-1)) ((⟨S1.num, List.set S1.low (t.src).toNat (if (at_ S1.low t.node) < (at_ S1.low t.src) then (at_ S1.low t.node) else (at_ S1.low t.src)), List.take (S1.way.length - 1) S1.way, S1.edges, S1.out, S1.cd⟩ : Srch) : Srch)) ∧ (DfsOk rows ((⟨S1.num, List.set S1.low (t.src).toNat (if (at_ S1.low t.node) < (at_ S1.low t.src) then (at_ S1.low t.node) else (at_ S1.low t.src)), List.take (S1.way.length - 1) S1.way, S1.edges, S1.out, S1.cd⟩ : Srch) : Srch)) ∧ (((⟨S1.num, List.set S1.low (t.src).toNat (if (at_ S1.low t.node) < (at_ S1.low t.src) then (at_ S1.low t.node) else (at_ S1.low t.src)), List.take (S1.way.length - 1) S1.way, S1.edges, S1.out, S1.cd⟩ : Srch) : Srch).way ≠ []) ∧ ((rs1 : List (RowG Pt)).map RowG.xs = ((⟨S1.num, List.set S1.low (t.src).toNat (if (at_ S1.low t.node) < (at_ S1.low t.src) then (at_ S1.low t.node) else (at_ S1.low t.src)), List.take (S1.way.length - 1) S1.way, S1.edges, S1.out, S1.cd⟩ : Srch) : Srch).out) ∧ (((⟨S1.num, List.set S1.low (t.src).toNat (if (at_ S1.low t.node) < (at_ S1.low t.src) then (at_ S1.low t.node) else (at_ S1.low t.src)), List.take (S1.way.length - 1) S1.way, S1.edges, S1.out, S1.cd⟩ : Srch) : Srch).edges.length + mea ((⟨S1.num, List.set S1.low (t.src).toNat (if (at_ S1.low t.node) < (at_ S1.low t.src) then (at_ S1.low t.node) else (at_ S1.low t.src)), List.take (S1.way.length - 1) S1.way, S1.edges, S1.out, S1.cd⟩ : Srch) : Srch) ≤ M ∧ (rs1 : List (RowG Pt)).length + mea ((⟨S1.num, List.set S1.low (t.src).toNat (if (at_ S1.low t.node) < (at_ S1.low t.src) then (at_ S1.low t.node) else (at_ S1.low t.src)), List.take (S1.way.length - 1) S1.way, S1.edges, S1.out, S1.cd⟩ : Srch) : Srch) ≤ M) from ⟨hgo2, hok2.1, (by first | (rw [hWe]; simp; done) | (simp; done) | exact hok1.more hwe (by omega) | assumption), hrs1, (by dsimp only; first | omega | (simp only [List.length_append, List.length_cons, List.length_nil]; omega))⟩) (show mea ((⟨S1.num, List.set S1.low (t.src).toNat (if (at_ S1.low t.node) < (at_ S1.low t.src) then (at_ S1.low t.node) else (at_ S1.low t.src)), List.take (S1.way.length - 1) S1.way, S1.edges, S1.out, S1.cd⟩ : Srch) : Srch) < mea S1 from hm2) (Sub.cons rfl Sub.nil) (show Fit κ _ (blk b [.slice ra rows.length rc, .slice na ((⟨S1.num, List.set S1.low (t.src).toNat (if (at_ S1.low t.node) < (at_ S1.low t.src) then (at_ S1.low t.node) else (at_ S1.low t.src)), List.take (S1.way.length - 1) S1.way, S1.edges, S1.out, S1.cd⟩ : Srch)).num.length nc, .slice qa ((⟨S1.num, List.set S1.low (t.src).toNat (if (at_ S1.low t.node) < (at_ S1.low t.src) then (at_ S1.low t.node) else (at_ S1.low t.src)), List.take (S1.way.length - 1) S1.way, S1.edges, S1.out, S1.cd⟩ : Srch)).low.length qc, .slice (wa1) ((⟨S1.num, List.set S1.low (t.src).toNat (if (at_ S1.low t.node) < (at_ S1.low t.src) then (at_ S1.low t.node) else (at_ S1.low t.src)), List.take (S1.way.length - 1) S1.way, S1.edges, S1.out, S1.cd⟩ : Srch)).way.length (wc1), .slice (ea1) ((⟨S1.num, List.set S1.low (t.src).toNat (if (at_ S1.low t.node) < (at_ S1.low t.src) then (at_ S1.low t.node) else (at_ S1.low t.src)), List.take (S1.way.length - 1) S1.way, S1.edges, S1.out, S1.cd⟩ : Srch)).edges.length (ec1), .slice (oa1) (rs1).length (oc1), I64 (((⟨S1.num, List.set S1.low (t.src).toNat (if (at_ S1.low t.node) < (at_ S1.low t.src) then (at_ S1.low t.node) else (at_ S1.low t.src)), List.take (S1.way.length - 1) S1.way, S1.edges, S1.out, S1.cd⟩ : Srch)).cd)] 155 :: vc 99 (.slice ra rows.length rc) (rows) :: vc 3 (.slice na ((⟨S1.num, List.set S1.low (t.src).toNat (if (at_ S1.low t.node) < (at_ S1.low t.src) then (at_ S1.low t.node) else (at_ S1.low t.src)), List.take (S1.way.length - 1) S1.way, S1.edges, S1.out, S1.cd⟩ : Srch)).num.length nc) (((⟨S1.num, List.set S1.low (t.src).toNat (if (at_ S1.low t.node) < (at_ S1.low t.src) then (at_ S1.low t.node) else (at_ S1.low t.src)), List.take (S1.way.length - 1) S1.way, S1.edges, S1.out, S1.cd⟩ : Srch)).num) :: vc 3 (.slice qa ((⟨S1.num, List.set S1.low (t.src).toNat (if (at_ S1.low t.node) < (at_ S1.low t.src) then (at_ S1.low t.node) else (at_ S1.low t.src)), List.take (S1.way.length - 1) S1.way, S1.edges, S1.out, S1.cd⟩ : Srch)).low.length qc) (((⟨S1.num, List.set S1.low (t.src).toNat (if (at_ S1.low t.node) < (at_ S1.low t.src) then (at_ S1.low t.node) else (at_ S1.low t.src)), List.take (S1.way.length - 1) S1.way, S1.edges, S1.out, S1.cd⟩ : Srch)).low) :: vc 183 (.slice (wa1) ((⟨S1.num, List.set S1.low (t.src).toNat (if (at_ S1.low t.node) < (at_ S1.low t.src) then (at_ S1.low t.node) else (at_ S1.low t.src)), List.take (S1.way.length - 1) S1.way, S1.edges, S1.out, S1.cd⟩ : Srch)).way.length (wc1)) (((⟨S1.num, List.set S1.low (t.src).toNat (if (at_ S1.low t.node) < (at_ S1.low t.src) then (at_ S1.low t.node) else (at_ S1.low t.src)), List.take (S1.way.length - 1) S1.way, S1.edges, S1.out, S1.cd⟩ : Srch)).way) :: vc 38 (.slice (ea1) ((⟨S1.num, List.set S1.low (t.src).toNat (if (at_ S1.low t.node) < (at_ S1.low t.src) then (at_ S1.low t.node) else (at_ S1.low t.src)), List.take (S1.way.length - 1) S1.way, S1.edges, S1.out, S1.cd⟩ : Srch)).edges.length (ec1)) (((⟨S1.num, List.set S1.low (t.src).toNat (if (at_ S1.low t.node) < (at_ S1.low t.src) then (at_ S1.low t.node) else (at_ S1.low t.src)), List.take (S1.way.length - 1) S1.way, S1.edges, S1.out, S1.cd⟩ : Srch)).edges) :: vc 23 (.slice (oa1) (rs1).length (oc1)) ((rs1)) :: (ownR 38 (rs1) ++ I)) from Fit.s)
   ·refine W.skip ?_
    refine V.jump_normal ?_
    have hini := hok1.last hwe (by omega)
    have hst2 : stepF rows S1 = { S1 with way := S1.ini } := by rw [hst]; unfold stepT; rw [if_neg c30, if_pos (by omega)]
    have hgo2 := hgo.step hne
    have hok2 := hok1.step hne
    rw [hst2] at hgo2 hok2
    exact V.end0 rfl (blk b [.slice ra rows.length rc, .slice na ({ S1 with way := S1.ini } : Srch).num.length nc, .slice qa ({ S1 with way := S1.ini } : Srch).low.length qc, .slice wa1 ({ S1 with way := S1.ini } : Srch).way.length wc1, .slice ea1 ({ S1 with way := S1.ini } : Srch).edges.length ec1, .slice oa1 rs1.length oc1, I64 (({ S1 with way := S1.ini } : Srch).cd)] 155 :: vc 99 (.slice ra rows.length rc) (rows) :: vc 3 (.slice na ({ S1 with way := S1.ini } : Srch).num.length nc) (({ S1 with way := S1.ini } : Srch).num) :: vc 3 (.slice qa ({ S1 with way := S1.ini } : Srch).low.length qc) (({ S1 with way := S1.ini } : Srch).low) :: vc 183 (.slice wa1 ({ S1 with way := S1.ini } : Srch).way.length wc1) (({ S1 with way := S1.ini } : Srch).way) :: vc 38 (.slice ea1 ({ S1 with way := S1.ini } : Srch).edges.length ec1) (({ S1 with way := S1.ini } : Srch).edges) :: vc 23 (.slice oa1 rs1.length oc1) (rs1) :: (ownR 38 rs1 ++ I)) Fit.s ⟨{ S1 with way := S1.ini }, wa1, wc1, ea1, ec1, oa1, oc1, rs1, rfl, ⟨hgo2.ends hini, hok2.1, hrs1, (by have := hok2.2; show S1.edges.length + _ ≤ _; omega), (by have := hok2.2; omega)⟩, rfl⟩

end Go.Sl
