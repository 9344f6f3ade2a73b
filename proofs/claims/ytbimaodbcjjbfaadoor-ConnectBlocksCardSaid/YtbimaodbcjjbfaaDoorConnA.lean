/- A part of the proofs of statements of this seat: contracts of functions, and the plain laws that they lean on. No conditions. -/
import Derived.Test.YtbimaodbcjjbfaaDoorMaskB
import Derived.Test.YtbimaodbcjjbfaaDoorDfs2
import Derived.Test.YtbimaodbcjjbfaaDoorSortRows
import Derived.Test.YtbimaodbcjjbfaaDoorJump
import Derived.Test.YtbimaodbcjjbfaaDoorGraphH5
import Derived.Test.YtbimaodbcjjbfaaDoorGraphM5
import Derived.Test.YtbimaodbcjjbfaaDoorTake
namespace Go.Sl
open Go.Proofs
set_option linter.unusedVariables false
set_option linter.unusedSimpArgs false
set_option maxRecDepth 4000
theorem idx_hit {xs : List Pt} {e : Pt} {k : Nat} (hk : k < xs.length) (hn : ∀ j, j < k → e ≠ at_ xs (j : Int)) (he : e = at_ xs (k : Int)) : xs.idxOf e = k := by
  have hm : e ∈ xs := he ▸ at_mem (by omega) (by omega)
  have hl := List.idxOf_lt_length_of_mem hm
  have hg : at_ xs ((xs.idxOf e : Nat) : Int) = e := by rw [at_nat, List.getD_eq_getElem?_getD, List.getElem?_eq_getElem hl]; exact List.getElem_idxOf hl
  refine Nat.le_antisymm ?_ (Nat.not_lt.1 fun h => hn _ h hg.symm)
  refine Nat.not_lt.1 fun h => ?_
  have := List.not_of_lt_findIdx (p := fun x => x == e) (xs := xs) h
  rw [at_eq (by omega) (by omega)] at he
  simp [he] at this

theorem IndexE_ok {κ : Ctx} {I : List Item} {v : Value} {xs : List Pt} (hl : Sl κ I v xs) {e : Pt} (he : e ∈ xs) :
    CallS Tryd.prog κ 174 [v, .agg #[I64 (e.u), I64 (e.v)]] I (fun r J => r = I64 ((xs.idxOf e : Nat) : Int) ∧ I = J) := by
 refine CallS.pull hl.le fun hmax => ?_
 refine CallS.enter (L := [(0, v), (1, .agg #[I64 (e.u), I64 (e.v)])]) Tryd.func174 rfl rfl rfl rfl ?_
 refine W.sr ?_
 refine G.e (Eff.box (cs := [_, _]) rfl rfl rfl) ?_
 rintro _ _ ⟨b1, rfl, rfl⟩
 refine G.r (Runs.assign rfl) ?_
 refine G.nt ?_
 refine W.seq ?_
 refine W.sr ?_
 refine G.r (Runs.move rfl) ?_
 refine G.r (Runs.lenT (α := Pt) (xs := xs) Tryd.underlying23 rfl (Sl.f hl)) ?_
 refine G.r (Runs.move rfl) ?_
 refine G.nt ?_
 refine W.block ?_
 refine W.loop (σ := Nat) (fun s => ([(0, v), (3, .pointer (some ⟨b1, 0, none⟩)), (7, I64 (((xs.length : Nat) : Int))), (8, I64 (((s : Nat) : Int)))] : Env)) (fun s => blk b1 [I64 (e.u), I64 (e.v)] 38 :: I) (fun s => (s ≤ xs.length) ∧ (∀ j, j < s → e ≠ at_ xs (j : Int))) (fun s => xs.length - s) (0) (show ((0 : Nat) ≤ xs.length) ∧ (∀ j, j < (0 : Nat) → e ≠ at_ xs (j : Int)) from ⟨(by omega), all_zero⟩) (Sub.cons rfl (Sub.cons rfl (Sub.cons rfl (Sub.cons lookO Sub.nil)))) (show Fit κ _ (blk b1 [I64 (e.u), I64 (e.v)] 38 :: I) from Fit.sub) ?_
 rintro k hp
 obtain ⟨hk, hn⟩ : (k ≤ xs.length) ∧ (∀ j, j < k → e ≠ at_ xs (j : Int)) := hp
 show W Tryd.prog κ 19 _ _ ([(0, v), (3, .pointer (some ⟨b1, 0, none⟩)), (7, I64 (((xs.length : Nat) : Int))), (8, I64 (((k : Nat) : Int)))] : Env) (blk b1 [I64 (e.u), I64 (e.v)] 38 :: I)
 refine W.sr ?_
 refine G.r (Runs.lss rfl rfl) ?_
 refine G.nt ?_
 refine W.seq ?_
 refine W.ite rfl (fun c9 => ?_) (fun c9 => ?_)
 ·refine W.skip ?_
  refine V.then ?_
  refine W.seq ?_
  refine W.block ?_
  refine W.sr ?_
  refine G.r (Runs.move rfl) ?_
  refine G.r (Runs.assign rfl) ?_
  refine G.nt ?_
  refine W.seq ?_
  refine W.drawn mixed ?_
  refine A.hold (blk b1 [I64 (e.u), I64 (e.v)] 38 :: I) 6 ?_
  refine D.r 0 rfl (Runs.lds (vs := [_, _]) ty38) ?_ (hJ := Fit.sub)
  refine D.r 1 rfl (Runs.move rfl) ?_ (hJ := Fit.sub)
  refine D.r 2 rfl (Runs.move rfl) ?_ (hJ := Fit.sub)
  refine D.r 3 rfl (Runs.idx (α := Pt) (xs := xs) Tryd.underlying23 ty38 rfl rfl (Sl.f hl) (by omega) (by omega)) ?_ (hJ := Fit.sub)
  refine D.r 4 rfl (Runs.gets (α := Pt) (xs := xs) ty38 rfl (Sl.f hl) (by omega) (by omega)) ?_ (hJ := Fit.sub)
  refine D.r 5 rfl (Runs.eqlT (α := Pt) (a := e) (b := (at_ xs ((k : Nat) : Int))) eqt38 rfl rfl) ?_ (hJ := Fit.sub)
  refine D.done (by kernel_rfl) ?_
  refine V.then ?_
  refine W.ite rfl (fun c16 => ?_) (fun c16 => ?_)
  ·refine W.sr ?_
   refine G.r (Runs.move rfl) ?_
   refine G.r (Runs.assign rfl) ?_
   refine G.nt ?_
   refine W.sub (L' := [(4, _)]) (Sub.cons rfl Sub.nil) ?_
   refine W.ret ?_
   refine V.block_ret ?_
   refine V.then_ret ?_
   refine V.then_ret ?_
   refine V.block_ret ?_
   refine V.then_ret ?_
   have hx := idx_hit (by omega) hn c16
   exact V.ret1 rfl rfl (I) Fit.m ⟨by rw [hx], rfl⟩
  ·refine W.skip ?_
   refine V.block_normal ?_
   refine V.then ?_
   refine W.region ?_
   refine G.r (Runs.add rfl rfl (by unfold InR; omega)) ?_
   refine G.r (Runs.move rfl) ?_
   refine G.nil ?_
   exact V.next ((k + 1)) (show ((k + 1 : Nat) ≤ xs.length) ∧ (∀ j, j < (k + 1 : Nat) → e ≠ at_ xs (j : Int)) from ⟨(by omega), (all_succ hn c16)⟩) (show xs.length - (k + 1 : Nat) < xs.length - k from (by omega)) (Sub.cons rfl (Sub.cons rfl (Sub.cons rfl (Sub.cons lookO Sub.nil)))) (show Fit κ _ (blk b1 [I64 (e.u), I64 (e.v)] 38 :: I) from Fit.sub)
 ·refine W.exit ?_
  refine V.then_exit ?_
  refine V.then_exit ?_
  refine V.block_hit ?_
  refine V.then ?_
  refine W.sr ?_
  refine G.r (Runs.assign rfl) ?_
  refine G.nt ?_
  refine W.ret ?_
  exact absurd he (fun hm => by obtain ⟨j, hj, hje⟩ := mem_at hm; exact hn j (by omega) hje.symm)

theorem SEnter_ok {κ : Ctx} {I : List Item} {b : Nat} {ra na qa wa : Option Addr} {rc nc qc wc : Nat} {ed ou : Value} {rows : List (BitVec 64)} {num low : List Int} {way : List Vis} {cd : Int} (f g : Int) (hf : 0 ≤ f ∧ f < rows.length) (hn : num.length = rows.length) (hq : low.length = rows.length) (hc : 0 ≤ cd ∧ cd ≤ 1000) (hw : way.length ≤ 100000) :
    CallS Tryd.prog κ 148 [.pointer (some ⟨b, 0, none⟩), I64 (f), I64 (g)] (blk b [.slice ra rows.length rc, .slice na num.length nc, .slice qa low.length qc, .slice wa way.length wc, ed, ou, I64 (cd)] 155 :: vc 99 (.slice ra rows.length rc) (rows) :: vc 3 (.slice na num.length nc) (num) :: vc 3 (.slice qa low.length qc) (low) :: vc 183 (.slice wa way.length wc) (way) :: I) (fun r J => ∃ wa' wc', r = .tuple #[] ∧ J = blk b [.slice ra rows.length rc, .slice na (num.set f.toNat (cd + 1)).length nc, .slice qa (low.set f.toNat (cd + 1)).length qc, .slice wa' (way ++ [(⟨f, g, at_ rows f⟩ : Vis)]).length wc', ed, ou, I64 ((cd + 1))] 155 :: vc 99 (.slice ra rows.length rc) (rows) :: vc 3 (.slice na (num.set f.toNat (cd + 1)).length nc) ((num.set f.toNat (cd + 1))) :: vc 3 (.slice qa (low.set f.toNat (cd + 1)).length qc) ((low.set f.toNat (cd + 1))) :: vc 183 (.slice wa' (way ++ [(⟨f, g, at_ rows f⟩ : Vis)]).length wc') ((way ++ [(⟨f, g, at_ rows f⟩ : Vis)])) :: I) := by
 refine CallS.pull (p := 0 < num.length → na ≠ none) (vc.isSome (by repeat (first | exact List.mem_cons_self | apply List.mem_cons_of_mem))) fun hsn => ?_
 refine CallS.pull (p := 0 < low.length → qa ≠ none) (vc.isSome (by repeat (first | exact List.mem_cons_self | apply List.mem_cons_of_mem))) fun hsl => ?_
 refine CallS.enter (L := [(0, .pointer (some ⟨b, 0, none⟩)), (1, I64 (f)), (2, I64 (g))]) Tryd.func148 rfl rfl rfl rfl ?_
 refine W.sr ?_
 refine G.r (Runs.move rfl) ?_
 refine G.r (Runs.nilCheck rfl) ?_
 refine G.r (Runs.fieldAddr fld155_6 rfl) ?_
 refine G.r (Runs.ld ty3) ?_
 refine G.r (Runs.add rfl rfl (by unfold InR; omega)) ?_
 refine G.r (Runs.nilCheck rfl) ?_
 refine G.r (Runs.fieldAddr fld155_6 rfl) ?_
 refine G.e (Eff.st (cs := [_, _, _, _, _, _, _]) (vs := [_]) (cs' := [_, _, _, _, _, _, _]) ty3) ?_
 rintro _ _ ⟨rfl, rfl⟩
 refine G.nt ?_
 refine W.seq ?_
 refine W.drawn mixed ?_
 refine A.hold (blk b [.slice ra rows.length rc, .slice na num.length nc, .slice qa low.length qc, .slice wa way.length wc, ed, ou, I64 (cd + 1)] 155 :: vc 99 (.slice ra rows.length rc) (rows) :: vc 183 (.slice wa way.length wc) (way) :: I) 22 ?_
 refine D.r 0 rfl (Runs.move rfl) ?_ (hJ := Fit.sub)
 refine D.r 1 rfl (Runs.nilCheck rfl) ?_ (hJ := Fit.sub)
 refine D.r 2 rfl (Runs.fieldAddr fld155_1 rfl) ?_ (hJ := Fit.sub)
 refine D.r 3 rfl (Runs.ld ty22) ?_ (hJ := Fit.sub)
 refine D.r 4 rfl (Runs.move rfl) ?_ (hJ := Fit.sub)
 refine D.r 5 rfl (Runs.move rfl) ?_ (hJ := Fit.sub)
 refine D.r 6 rfl (Runs.nilCheck rfl) ?_ (hJ := Fit.sub)
 refine D.r 7 rfl (Runs.fieldAddr fld155_2 rfl) ?_ (hJ := Fit.sub)
 refine D.r 8 rfl (Runs.ld ty22) ?_ (hJ := Fit.sub)
 refine D.r 9 rfl (Runs.move rfl) ?_ (hJ := Fit.sub)
 refine D.r 10 rfl (Runs.move rfl) ?_ (hJ := Fit.sub)
 refine D.r 11 rfl (Runs.nilCheck rfl) ?_ (hJ := Fit.sub)
 refine D.r 12 rfl (Runs.fieldAddr fld155_6 rfl) ?_ (hJ := Fit.sub)
 refine D.r 13 rfl (Runs.ld ty3) ?_ (hJ := Fit.sub)
 refine D.r 14 rfl (Runs.move rfl) ?_ (hJ := Fit.sub)
 refine D.r 15 rfl (Runs.nilCheck rfl) ?_ (hJ := Fit.sub)
 refine D.r 16 rfl (Runs.fieldAddr fld155_6 rfl) ?_ (hJ := Fit.sub)
 refine D.r 17 rfl (Runs.ld ty3) ?_ (hJ := Fit.sub)
 refine D.r 18 rfl (Runs.idxs Int Tryd.underlying22 ty3 rfl rfl (hsn (by omega)) (by omega) (by omega)) ?_ (hJ := Fit.sub)
 refine D.step (rs := [19]) (by kernel_rfl) rfl rfl (all1 ?_)
 refine Step.eff rfl (Wanted.plain rfl) (Eff.set (α := Int) (xs := num) (e := 3) (new := cd + 1) ty3 rfl rfl rfl (by omega) (by first | omega | (simp only [List.length_set]; omega)) (by repeat (first | exact At.head _ _ _ | apply At.tail))) ?_
 rintro _ _ ⟨rfl, rfl⟩
 refine ⟨Fit.sub, ?_⟩
 refine D.r 20 rfl (Runs.idxs Int Tryd.underlying22 ty3 rfl rfl (hsl (by omega)) (by omega) (by omega)) ?_ (hJ := Fit.sub)
 refine D.step (rs := [21]) (by kernel_rfl) rfl rfl (all1 ?_)
 refine Step.eff rfl (Wanted.plain rfl) (Eff.set (α := Int) (xs := low) (e := 3) (new := cd + 1) ty3 rfl rfl rfl (by omega) (by first | omega | (simp only [List.length_set]; omega)) (by repeat (first | exact At.head _ _ _ | apply At.tail))) ?_
 rintro _ _ ⟨rfl, rfl⟩
 refine ⟨Fit.sub, ?_⟩
 refine D.done (by kernel_rfl) ?_
 refine V.then ?_
 refine W.sub (L' := [(0, _), (1, _), (2, _)]) (Sub.cons rfl (Sub.cons rfl (Sub.cons rfl Sub.nil))) ?_
 refine W.drawn mixed ?_
 refine A.hold (blk b [.slice ra rows.length rc, .slice na num.length nc, .slice qa low.length qc, .slice wa way.length wc, ed, ou, I64 (cd + 1)] 155 :: vc 99 (.slice ra rows.length rc) (rows) :: vc 3 (.slice na num.length nc) (List.set num (f).toNat (cd + 1)) :: vc 3 (.slice qa low.length qc) (List.set low (f).toNat (cd + 1)) :: I) 19 ?_
 refine D.r 0 rfl (Runs.move rfl) ?_ (hJ := Fit.sub)
 refine D.r 1 rfl (Runs.move rfl) ?_ (hJ := Fit.sub)
 refine D.r 2 rfl (Runs.nilCheck rfl) ?_ (hJ := Fit.sub)
 refine D.r 3 rfl (Runs.fieldAddr fld155_3 rfl) ?_ (hJ := Fit.sub)
 refine D.r 4 rfl (Runs.ld ty153) ?_ (hJ := Fit.sub)
 refine D.r 5 rfl (Runs.move rfl) ?_ (hJ := Fit.sub)
 refine D.r 6 rfl (Runs.move rfl) ?_ (hJ := Fit.sub)
 refine D.r 7 rfl (Runs.move rfl) ?_ (hJ := Fit.sub)
 refine D.r 8 rfl (Runs.nilCheck rfl) ?_ (hJ := Fit.sub)
 refine D.r 9 rfl (Runs.fieldAddr fld155_0 rfl) ?_ (hJ := Fit.sub)
 refine D.r 10 rfl (Runs.ld ty106) ?_ (hJ := Fit.sub)
 refine D.r 11 rfl (Runs.move rfl) ?_ (hJ := Fit.sub)
 refine D.r 12 rfl (Runs.idx (α := (BitVec 64)) (xs := rows) Tryd.underlying106 ty99 rfl rfl Sl.o (by omega) (by first | omega | (simp only [List.length_set]; omega))) ?_ (hJ := Fit.sub)
 refine D.r 13 rfl (Runs.getf0 (α := (BitVec 64)) (xs := rows) (u := U64 ((at_ rows f))) ty99 rfl Sl.o (by omega) (by first | omega | (simp only [List.length_set]; omega)) rfl) ?_ (hJ := Fit.sub)
 refine D.r 14 rfl (Runs.build (cells := [_, _, _]) ty183 Tryd.underlying183 pl183 rfl rfl) ?_ (hJ := Fit.sub)
 refine D.step (rs := [15]) (by kernel_rfl) rfl rfl (all1 ?_)
 refine Step.eff rfl (Wanted.plain rfl) (Eff.bs (α := Vis) (cs := [_, _, _]) (xs := [⟨f, g, (at_ rows f)⟩]) Tryd.underlying153 ty183 rfl rfl (by decide) (by decide) rfl rfl rfl rfl) ?_
 rintro _ _ ⟨ad1, rfl, rfl⟩
 refine ⟨Fit.sub, ?_⟩
 refine D.step (rs := [16]) (by kernel_rfl) rfl rfl (all1 ?_)
 refine Step.eff rfl (Wanted.plain rfl) (Eff.app (α := Vis) (e := 183) (xs := way) (ys := ([⟨f, g, (at_ rows f)⟩] : List Vis)) Tryd.underlying153 ty183 rfl rfl rfl (by repeat (first | exact List.mem_cons_self | apply List.mem_cons_of_mem)) Sl.o (by simp only [List.length_cons, List.length_nil]; omega) (by decide) rfl (fun _ _ => (by repeat (first | exact At.head _ _ _ | apply At.tail)))) ?_
 rintro _ _ ⟨ad2, cp3, rfl, rfl⟩
 refine ⟨Fit.sub, ?_⟩
 refine D.step (rs := [17]) (by kernel_rfl) rfl rfl (all1 ?_)
 refine Step.read rfl (Wanted.plain rfl) rfl rfl (Runs.nilCheck rfl) Fit.sub ?_
 refine D.r 18 rfl (Runs.fieldAddr fld155_3 rfl) ?_ (hJ := Fit.sub)
 refine D.stop (by kernel_rfl) ?_
 refine A.eff (i := 19) (by kernel_rfl) rfl (Wanted.plain rfl) (Eff.st (cs := [_, _, _, _, _, _, _]) (vs := [_]) (cs' := [_, _, _, _, _, _, _]) ty153) ?_
 rintro _ _ ⟨rfl, rfl⟩
 refine A.done (by kernel_rfl) ?_
 exact V.end0 rfl (blk b [.slice ra rows.length rc, .slice na (num.set f.toNat (cd + 1)).length nc, .slice qa (low.set f.toNat (cd + 1)).length qc, .slice ad2 (way ++ [(⟨f, g, at_ rows f⟩ : Vis)]).length cp3, ed, ou, I64 ((cd + 1))] 155 :: vc 99 (.slice ra rows.length rc) (rows) :: vc 3 (.slice na (num.set f.toNat (cd + 1)).length nc) ((num.set f.toNat (cd + 1))) :: vc 3 (.slice qa (low.set f.toNat (cd + 1)).length qc) ((low.set f.toNat (cd + 1))) :: vc 183 (.slice ad2 (way ++ [(⟨f, g, at_ rows f⟩ : Vis)]).length cp3) ((way ++ [(⟨f, g, at_ rows f⟩ : Vis)])) :: I) (by simp only [List.length_set]; exact Fit.s) ⟨ad2, cp3, rfl, rfl⟩

theorem norm_step {D B : List Pt} {k : Nat} (hk : k < D.length) (hB : B = (D.take k).map normE ++ D.drop k) : B.set k (normE (at_ D (k : Int))) = (D.take (k + 1)).map normE ++ D.drop (k + 1) := by
  have hl : ((D.take k).map normE).length = k := by simp; omega
  rw [hB, List.set_append_right _ _ (by omega), hl, Nat.sub_self, take_at D k hk, List.map_append, List.append_assoc]
  have hd : D.drop k = at_ D (k : Int) :: D.drop (k + 1) := by
    rw [at_nat, List.getD_eq_getElem?_getD, List.getElem?_eq_getElem hk]; exact List.drop_eq_getElem_cons hk
  rw [hd]; rfl
theorem norm_at {D B : List Pt} {k : Nat} (hk : k < D.length) (hB : B = (D.take k).map normE ++ D.drop k) : at_ B (k : Int) = at_ D (k : Int) := by
  have hl : ((D.take k).map normE).length = k := by simp; omega
  rw [hB, at_nat, at_nat, List.getD_eq_getElem?_getD, List.getD_eq_getElem?_getD, List.getElem?_append_right (by omega), hl, Nat.sub_self, List.getElem?_drop]; rfl
theorem norm_len {D B : List Pt} {k : Nat} (hk : k ≤ D.length) (hB : B = (D.take k).map normE ++ D.drop k) : B.length = D.length := by
  rw [hB]; simp; omega

theorem SPop_ok {κ : Ctx} {I : List Item} {b : Nat} {s0 s1 s2 s3 : Value} {ea oa : Option Addr} {ec oc : Nat} {edges : List Pt} {rs : List (RowG Pt)} {cd : Int} {e : Pt} (he : e ∈ edges) (hb : edges.length ≤ 100000) (hr : rs.length ≤ 100000) :
    CallS Tryd.prog κ 149 [.pointer (some ⟨b, 0, none⟩), .agg #[I64 (e.u), I64 (e.v)]] (blk b [s0, s1, s2, s3, .slice ea edges.length ec, .slice oa rs.length oc, I64 (cd)] 155 :: vc 38 (.slice ea edges.length ec) (edges) :: vc 23 (.slice oa rs.length oc) (rs) :: (ownR 38 rs ++ I)) (fun r J => ∃ oa' oc' row, r = .tuple #[] ∧ row.xs = (sortD ((List.drop (edges.idxOf e) edges).map normE)) ∧ J = blk b [s0, s1, s2, s3, .slice ea (edges.take (edges.idxOf e)).length ec, .slice oa' (rs ++ [row]).length oc', I64 cd] 155 :: vc 38 (.slice ea (edges.take (edges.idxOf e)).length ec) (edges.take (edges.idxOf e)) :: vc 23 (.slice oa' (rs ++ [row]).length oc') (rs ++ [row]) :: (ownR 38 (rs ++ [row]) ++ I)) := by
 refine CallS.enter (L := [(0, .pointer (some ⟨b, 0, none⟩)), (1, .agg #[I64 (e.u), I64 (e.v)])]) Tryd.func149 rfl rfl rfl rfl ?_
 refine W.sr ?_
 refine G.e (Eff.box (cs := [_, _]) rfl rfl rfl) ?_
 rintro _ _ ⟨b1, rfl, rfl⟩
 refine G.nt ?_
 refine W.seq ?_
 refine W.drawn mixed ?_
 refine A.hold (blk b1 [I64 (e.u), I64 (e.v)] 38 :: blk b [s0, s1, s2, s3, .slice ea edges.length ec, .slice oa rs.length oc, I64 (cd)] 155 :: vc 38 (.slice ea edges.length ec) (edges) :: vc 23 (.slice oa rs.length oc) (rs) :: (ownR 38 rs ++ I)) 7 ?_
 refine D.r 0 rfl (Runs.move rfl) ?_ (hJ := Fit.sub)
 refine D.r 1 rfl (Runs.nilCheck rfl) ?_ (hJ := Fit.sub)
 refine D.r 2 rfl (Runs.fieldAddr fld155_4 rfl) ?_ (hJ := Fit.sub)
 refine D.r 3 rfl (Runs.ld ty23) ?_ (hJ := Fit.sub)
 refine D.r 4 rfl (Runs.lds (vs := [_, _]) ty38) ?_ (hJ := Fit.sub)
 refine D.step (rs := [5]) (by kernel_rfl) rfl rfl (all1 ?_)
 refine Step.eff rfl (Wanted.plain rfl) (Eff.call call174 rfl rfl (IndexE_ok Sl.o (e := e) he)) ?_
 rintro _ _ ⟨_, _, ⟨rfl, rfl⟩, rfl, rfl⟩
 refine ⟨Fit.sub, ?_⟩
 refine D.r 6 rfl (Runs.assign rfl) ?_ (hJ := Fit.sub)
 have hil := List.idxOf_lt_length_of_mem he
 have hdl : (List.drop (edges.idxOf e) edges).length ≤ edges.length := by rw [List.length_drop]; omega
 refine D.done (by kernel_rfl) ?_
 refine V.then ?_
 refine W.sr ?_
 refine G.r (Runs.move rfl) ?_
 refine G.r (Runs.nilCheck rfl) ?_
 refine G.r (Runs.fieldAddr fld155_4 rfl) ?_
 refine G.r (Runs.ld ty23) ?_
 refine G.r (Runs.move rfl) ?_
 refine G.r (Runs.lo (α := Pt) (xs := edges) (l := (edges.idxOf e)) Tryd.underlying23 ty38 rfl rfl (by omega) Sl.o (by omega)) ?_
 refine G.e (Eff.call call175 rfl rfl (CloneE (xs := List.drop (edges.idxOf e) edges) (Sl.drop Sl.o (by omega)) (by omega))) ?_
 rintro _ _ ⟨_, _, ⟨ad2, cp3, rfl, rfl⟩, rfl, rfl⟩
 refine G.r (Runs.assign rfl) ?_
 refine G.nt ?_
 refine W.sub (L' := [(5, _), (4, _), (0, _)]) (Sub.cons rfl (Sub.cons rfl (Sub.cons rfl Sub.nil))) ?_
 refine W.sr ?_
 refine G.r (Runs.move rfl) ?_
 refine G.r (Runs.move rfl) ?_
 refine G.r (Runs.nilCheck rfl) ?_
 refine G.r (Runs.fieldAddr fld155_4 rfl) ?_
 refine G.r (Runs.ld ty23) ?_
 refine G.r (Runs.move rfl) ?_
 refine G.r (Runs.hi (α := Pt) (xs := edges) (h := (edges.idxOf e)) Tryd.underlying23 ty38 rfl rfl (by omega) Sl.o (by omega)) ?_
 refine G.r (Runs.nilCheck rfl) ?_
 refine G.r (Runs.fieldAddr fld155_4 rfl) ?_
 refine G.e (Eff.st (cs := [_, _, _, _, _, _, _]) (vs := [_]) (cs' := [_, _, _, _, _, _, _]) ty23) ?_
 rintro _ _ ⟨rfl, rfl⟩
 refine G.nt ?_
 refine W.seq ?_
 refine W.sr ?_
 refine G.r (Runs.move rfl) ?_
 refine G.r (Runs.lens Tryd.underlying23 rfl) ?_
 refine G.r (Runs.move rfl) ?_
 refine G.nt ?_
 refine W.sub (L' := [(32, _), (31, _), (30, _), (5, _), (0, _)]) (Sub.cons rfl (Sub.cons rfl (Sub.cons rfl (Sub.cons rfl (Sub.cons rfl Sub.nil))))) ?_
 refine W.block ?_
 refine W.loop (σ := Nat × (List Pt)) (fun s => ([(0, .pointer (some ⟨b, 0, none⟩)), (5, .slice ad2 (List.drop (edges.idxOf e) edges).length cp3), (30, .slice ad2 (List.drop (edges.idxOf e) edges).length cp3), (31, I64 ((((List.drop (edges.idxOf e) edges).length : Nat) : Int))), (32, I64 (((s.1 : Nat) : Int)))] : Env)) (fun s => vc 38 (.slice ad2 (List.drop (edges.idxOf e) edges).length cp3) (s.2) :: blk b1 [I64 (e.u), I64 (e.v)] 38 :: blk b [s0, s1, s2, s3, .slice ea (List.take (edges.idxOf e) edges).length ec, .slice oa rs.length oc, I64 (cd)] 155 :: vc 38 (.slice ea edges.length ec) (edges) :: vc 23 (.slice oa rs.length oc) (rs) :: (ownR 38 rs ++ I)) (fun s => (s.1 ≤ (List.drop (edges.idxOf e) edges).length) ∧ (s.2 = ((List.drop (edges.idxOf e) edges).take s.1).map normE ++ (List.drop (edges.idxOf e) edges).drop s.1)) (fun s => (List.drop (edges.idxOf e) edges).length - s.1) (0, (List.drop (edges.idxOf e) edges)) (show ((0 : Nat) ≤ (List.drop (edges.idxOf e) edges).length) ∧ (((List.drop (edges.idxOf e) edges) : List Pt) = ((List.drop (edges.idxOf e) edges).take (0 : Nat)).map normE ++ (List.drop (edges.idxOf e) edges).drop (0 : Nat)) from ⟨(by omega), (by simp)⟩) (Sub.cons rfl (Sub.cons rfl (Sub.cons rfl (Sub.cons rfl (Sub.cons lookO Sub.nil))))) (show Fit κ _ (vc 38 (.slice ad2 (List.drop (edges.idxOf e) edges).length cp3) (((List.drop (edges.idxOf e) edges))) :: blk b1 [I64 (e.u), I64 (e.v)] 38 :: blk b [s0, s1, s2, s3, .slice ea (List.take (edges.idxOf e) edges).length ec, .slice oa rs.length oc, I64 (cd)] 155 :: vc 38 (.slice ea edges.length ec) (edges) :: vc 23 (.slice oa rs.length oc) (rs) :: (ownR 38 rs ++ I)) from Fit.sub) ?_
 rintro ⟨k, B⟩ hp
 obtain ⟨hk, hB⟩ : (k ≤ (List.drop (edges.idxOf e) edges).length) ∧ (B = ((List.drop (edges.idxOf e) edges).take k).map normE ++ (List.drop (edges.idxOf e) edges).drop k) := hp
 show W Tryd.prog κ 64 _ _ ([(0, .pointer (some ⟨b, 0, none⟩)), (5, .slice ad2 (List.drop (edges.idxOf e) edges).length cp3), (30, .slice ad2 (List.drop (edges.idxOf e) edges).length cp3), (31, I64 ((((List.drop (edges.idxOf e) edges).length : Nat) : Int))), (32, I64 (((k : Nat) : Int)))] : Env) (vc 38 (.slice ad2 (List.drop (edges.idxOf e) edges).length cp3) (B) :: blk b1 [I64 (e.u), I64 (e.v)] 38 :: blk b [s0, s1, s2, s3, .slice ea (List.take (edges.idxOf e) edges).length ec, .slice oa rs.length oc, I64 (cd)] 155 :: vc 38 (.slice ea edges.length ec) (edges) :: vc 23 (.slice oa rs.length oc) (rs) :: (ownR 38 rs ++ I))
 have hBl := norm_len (by omega) hB
 have hBk : k < (List.drop (edges.idxOf e) edges).length → at_ B (k : Int) = at_ (List.drop (edges.idxOf e) edges) (k : Int) := fun h => norm_at h hB
 refine W.sr ?_
 refine G.r (Runs.lss rfl rfl) ?_
 refine G.nt ?_
 refine W.seq ?_
 refine W.ite rfl (fun c33 => ?_) (fun c33 => ?_)
 ·refine W.skip ?_
  refine V.then ?_
  refine W.seq ?_
  refine W.block ?_
  refine W.sr ?_
  refine G.r (Runs.move rfl) ?_
  refine G.r (Runs.idx (α := Pt) (xs := B) Tryd.underlying23 ty38 rfl rfl Sl.o (by omega) (by first | omega | (simp only [List.length_set]; omega))) ?_
  refine G.r (Runs.gets (α := Pt) (xs := B) ty38 rfl Sl.o (by omega) (by first | omega | (simp only [List.length_set]; omega))) ?_
  refine G.e (Eff.alloc ty38 rfl) ?_
  rintro _ _ ⟨b4, rfl, rfl⟩
  refine G.r (Runs.assign rfl) ?_
  refine G.e (Eff.st (cs := [_, _]) (vs := [_, _]) (cs' := [_, _]) ty38) ?_
  rintro _ _ ⟨rfl, rfl⟩
  refine G.nt ?_
  refine W.region ?_
  refine G.r (Runs.move rfl) ?_
  refine G.r (Runs.move rfl) ?_
  refine G.r (Runs.fieldAddr fld38_0 rfl) ?_
  refine G.r (Runs.ld ty3) ?_
  refine G.r (Runs.fieldAddr fld38_1 rfl) ?_
  refine G.r (Runs.ld ty3) ?_
  refine G.r (Runs.min rfl rfl) ?_
  refine G.r (Runs.fieldAddr fld38_0 rfl) ?_
  refine G.r (Runs.ld ty3) ?_
  refine G.r (Runs.fieldAddr fld38_1 rfl) ?_
  refine G.r (Runs.ld ty3) ?_
  refine G.r (Runs.max rfl rfl) ?_
  refine G.r (Runs.build (cells := [_, _]) ty38 Tryd.underlying38 pl38 rfl rfl) ?_
  refine G.r (Runs.idx (α := Pt) (xs := B) Tryd.underlying23 ty38 rfl rfl Sl.o (by omega) (by first | omega | (simp only [List.length_set]; omega))) ?_
  refine G.e (Eff.set (α := Pt) (xs := B) (e := 38) (new := ⟨if ((at_ B ((k : Nat) : Int)).v) < ((at_ B ((k : Nat) : Int)).u) then ((at_ B ((k : Nat) : Int)).v) else ((at_ B ((k : Nat) : Int)).u), if ((at_ B ((k : Nat) : Int)).u) < ((at_ B ((k : Nat) : Int)).v) then ((at_ B ((k : Nat) : Int)).v) else ((at_ B ((k : Nat) : Int)).u)⟩) ty38 rfl rfl rfl (by omega) (by first | omega | (simp only [List.length_set]; omega)) (by repeat (first | exact At.head _ _ _ | apply At.tail))) ?_
  rintro _ _ ⟨rfl, rfl⟩
  refine G.nil ?_
  refine V.block_normal ?_
  refine V.then ?_
  refine W.sub (L' := [(0, _), (5, _), (30, _), (31, _), (32, _)]) (Sub.cons rfl (Sub.cons rfl (Sub.cons rfl (Sub.cons rfl (Sub.cons rfl Sub.nil))))) ?_
  refine W.region ?_
  refine G.r (Runs.add rfl rfl (by unfold InR; omega)) ?_
  refine G.r (Runs.move rfl) ?_
  refine G.nil ?_
  have hset : List.set B (((k : Nat) : Int)).toNat (⟨if ((at_ B ((k : Nat) : Int)).v) < ((at_ B ((k : Nat) : Int)).u) then ((at_ B ((k : Nat) : Int)).v) else ((at_ B ((k : Nat) : Int)).u), if ((at_ B ((k : Nat) : Int)).u) < ((at_ B ((k : Nat) : Int)).v) then ((at_ B ((k : Nat) : Int)).v) else ((at_ B ((k : Nat) : Int)).u)⟩) = B.set k (normE (at_ (List.drop (edges.idxOf e) edges) (k : Int))) := by rw [hBk (by omega)]; rfl
  rw [hset]
  exact V.next ((k + 1), (B.set k (normE (at_ (List.drop (edges.idxOf e) edges) (k : Int))))) (show ((k + 1 : Nat) ≤ (List.drop (edges.idxOf e) edges).length) ∧ ((B.set k (normE (at_ (List.drop (edges.idxOf e) edges) (k : Int))) : List Pt) = ((List.drop (edges.idxOf e) edges).take (k + 1 : Nat)).map normE ++ (List.drop (edges.idxOf e) edges).drop (k + 1 : Nat)) from ⟨(by omega), (norm_step (by omega) hB)⟩) (show (List.drop (edges.idxOf e) edges).length - (k + 1 : Nat) < (List.drop (edges.idxOf e) edges).length - k from (by omega)) (Sub.cons rfl (Sub.cons rfl (Sub.cons rfl (Sub.cons rfl (Sub.cons lookO Sub.nil))))) (show Fit κ _ (vc 38 (.slice ad2 (List.drop (edges.idxOf e) edges).length cp3) ((B.set k (normE (at_ (List.drop (edges.idxOf e) edges) (k : Int))))) :: blk b1 [I64 (e.u), I64 (e.v)] 38 :: blk b [s0, s1, s2, s3, .slice ea (List.take (edges.idxOf e) edges).length ec, .slice oa rs.length oc, I64 (cd)] 155 :: vc 38 (.slice ea edges.length ec) (edges) :: vc 23 (.slice oa rs.length oc) (rs) :: (ownR 38 rs ++ I)) from Fit.sub)
 ·refine W.exit ?_
  refine V.then_exit ?_
  refine V.then_exit ?_
  refine V.block_hit ?_
  refine V.then ?_
  refine W.sr ?_
  refine G.r (Runs.move rfl) ?_
  refine G.e (Eff.call call176 rfl rfl (SortE_at (by repeat (first | exact AtF.head _ _ | apply AtF.tail)) hBl (by omega))) ?_
  rintro _ _ ⟨_, _, ⟨ys5, ⟨rfl, hsys5, hlys5⟩, rfl⟩, rfl, rfl⟩
  show G Tryd.prog κ _ _ _ _ ([(53, .tuple #[]), (52, .slice ad2 (List.drop (edges.idxOf e) edges).length cp3), (33, .bool (decide (((k : Nat) : Int) < (((List.drop (edges.idxOf e) edges).length : Nat) : Int)))), (0, .pointer (some ⟨b, 0, none⟩)), (5, .slice ad2 (List.drop (edges.idxOf e) edges).length cp3), (30, .slice ad2 (List.drop (edges.idxOf e) edges).length cp3), (31, I64 ((((List.drop (edges.idxOf e) edges).length : Nat) : Int))), (32, I64 (((k : Nat) : Int)))] : Env) (vc 38 (.slice ad2 (List.drop (edges.idxOf e) edges).length cp3) (ys5) :: blk b1 [I64 (e.u), I64 (e.v)] 38 :: blk b [s0, s1, s2, s3, .slice ea (List.take (edges.idxOf e) edges).length ec, .slice oa rs.length oc, I64 (cd)] 155 :: vc 38 (.slice ea edges.length ec) (edges) :: vc 23 (.slice oa rs.length oc) (rs) :: (ownR 38 rs ++ I))
  have hkk : (List.drop (edges.idxOf e) edges).length ≤ k := by omega
  have hBm : B = (List.drop (edges.idxOf e) edges).map normE := by rw [hB, List.take_of_length_le hkk, List.drop_of_length_le hkk, List.append_nil]
  have hys : ys5 = (sortD ((List.drop (edges.idxOf e) edges).map normE)) := by rw [sortD_of hsys5, hBm]
  have hyl := hlys5
  subst hys
  rw [← hyl]
  refine G.nt ?_
  refine W.region ?_
  refine G.r (Runs.move rfl) ?_
  refine G.r (Runs.move rfl) ?_
  refine G.r (Runs.nilCheck rfl) ?_
  refine G.r (Runs.fieldAddr fld155_5 rfl) ?_
  refine G.r (Runs.ld ty29) ?_
  refine G.r (Runs.move rfl) ?_
  refine G.e (Eff.bs (α := (RowG Pt)) (cs := [_]) (xs := [⟨ad2, cp3, (sortD ((List.drop (edges.idxOf e) edges).map normE))⟩]) Tryd.underlying29 ty23 rfl rfl (by decide) (by decide) rfl rfl rfl rfl) ?_
  rintro _ _ ⟨ad6, rfl, rfl⟩
  refine G.e (Eff.app (α := (RowG Pt)) (e := 23) (xs := rs) (ys := ([⟨ad2, cp3, (sortD ((List.drop (edges.idxOf e) edges).map normE))⟩] : List (RowG Pt))) Tryd.underlying29 ty23 rfl rfl rfl (by repeat (first | exact List.mem_cons_self | apply List.mem_cons_of_mem)) Sl.o (by simp only [List.length_cons, List.length_nil]; omega) (by decide) rfl (fun _ _ => (by repeat (first | exact At.head _ _ _ | apply At.tail)))) ?_
  rintro _ _ ⟨ad7, cp8, rfl, rfl⟩
  refine G.r (Runs.nilCheck rfl) ?_
  refine G.r (Runs.fieldAddr fld155_5 rfl) ?_
  refine G.e (Eff.st (cs := [_, _, _, _, _, _, _]) (vs := [_]) (cs' := [_, _, _, _, _, _, _]) ty29) ?_
  rintro _ _ ⟨rfl, rfl⟩
  refine G.nil ?_
  exact V.end0 rfl (blk b [s0, s1, s2, s3, .slice ea (edges.take (edges.idxOf e)).length ec, .slice ad7 (rs ++ [(⟨ad2, cp3, (sortD ((List.drop (edges.idxOf e) edges).map normE))⟩ : RowG Pt)]).length cp8, I64 cd] 155 :: vc 38 (.slice ea (edges.take (edges.idxOf e)).length ec) (edges.take (edges.idxOf e)) :: vc 23 (.slice ad7 (rs ++ [(⟨ad2, cp3, (sortD ((List.drop (edges.idxOf e) edges).map normE))⟩ : RowG Pt)]).length cp8) (rs ++ [(⟨ad2, cp3, (sortD ((List.drop (edges.idxOf e) edges).map normE))⟩ : RowG Pt)]) :: (ownR 38 (rs ++ [(⟨ad2, cp3, (sortD ((List.drop (edges.idxOf e) edges).map normE))⟩ : RowG Pt)]) ++ I)) (Fit.trans (show Fit κ _ (vc 38 (.slice ea edges.length ec) edges :: blk b [s0, s1, s2, s3, .slice ea (edges.take (edges.idxOf e)).length ec, .slice ad7 (rs ++ [(⟨ad2, cp3, (sortD ((List.drop (edges.idxOf e) edges).map normE))⟩ : RowG Pt)]).length cp8, I64 cd] 155 :: vc 23 (.slice ad7 (rs ++ [(⟨ad2, cp3, (sortD ((List.drop (edges.idxOf e) edges).map normE))⟩ : RowG Pt)]).length cp8) (rs ++ [(⟨ad2, cp3, (sortD ((List.drop (edges.idxOf e) edges).map normE))⟩ : RowG Pt)]) :: vc 38 (.slice ad2 (sortD ((List.drop (edges.idxOf e) edges).map normE)).length cp3) (sortD ((List.drop (edges.idxOf e) edges).map normE)) :: (ownR 38 rs ++ I)) from Fit.s) (Fit.trans (Fit.takevc rfl) (Fit.trans (show Fit κ _ ([blk b [s0, s1, s2, s3, .slice ea (edges.take (edges.idxOf e)).length ec, .slice ad7 (rs ++ [(⟨ad2, cp3, (sortD ((List.drop (edges.idxOf e) edges).map normE))⟩ : RowG Pt)]).length cp8, I64 cd] 155, vc 38 (.slice ea (edges.take (edges.idxOf e)).length ec) (edges.take (edges.idxOf e)), vc 23 (.slice ad7 (rs ++ [(⟨ad2, cp3, (sortD ((List.drop (edges.idxOf e) edges).map normE))⟩ : RowG Pt)]).length cp8) (rs ++ [(⟨ad2, cp3, (sortD ((List.drop (edges.idxOf e) edges).map normE))⟩ : RowG Pt)])] ++ vc 38 (.slice ad2 (sortD ((List.drop (edges.idxOf e) edges).map normE)).length cp3) (sortD ((List.drop (edges.idxOf e) edges).map normE)) :: (ownR 38 rs ++ I)) from Fit.s) (Fit.ownR_snoc (r := (⟨ad2, cp3, (sortD ((List.drop (edges.idxOf e) edges).map normE))⟩ : RowG Pt)))))) ⟨ad7, cp8, (⟨ad2, cp3, (sortD ((List.drop (edges.idxOf e) edges).map normE))⟩ : RowG Pt), rfl, rfl, rfl⟩

end Go.Sl
