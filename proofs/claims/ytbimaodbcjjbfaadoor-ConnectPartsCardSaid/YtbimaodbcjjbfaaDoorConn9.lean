/- A part of the proofs of statements of this seat: contracts of functions, and the plain laws that they lean on. No conditions. -/
import Derived.Test.YtbimaodbcjjbfaaDoorMaskB
import Derived.Test.YtbimaodbcjjbfaaDoorDfs9
import Derived.Test.YtbimaodbcjjbfaaDoorSortRows
import Derived.Test.YtbimaodbcjjbfaaDoorReach9
import Derived.Test.YtbimaodbcjjbfaaDoorGraphH5
import Derived.Test.YtbimaodbcjjbfaaDoorGraphM5
import Derived.Test.YtbimaodbcjjbfaaDoorGraphL5
import Derived.Test.YtbimaodbcjjbfaaDoorLookA
import Derived.Test.YtbimaodbcjjbfaaDoorGraphK5
import Derived.Test.YtbimaodbcjjbfaaDoorLookB
namespace Go.Sl
open Go.Proofs
set_option linter.unusedVariables false
set_option linter.unusedSimpArgs false
set_option maxRecDepth 4000
theorem idx_hit {xs : List Pt} {e : Pt} {k : Nat} (hk : k < xs.length) (hn : ∀ j, j < k → e ≠ at_ xs (j : Int)) (he : e = at_ xs (k : Int)) : xs.idxOf e = k := by
  have hm : e ∈ xs := he ▸ at_mem (by omega) (by omega)
  have hl := List.idxOf_lt_length_of_mem hm
  have hg : at_ xs ((xs.idxOf e : Nat) : Int) = e := by rw [at_nat, List.getD_eq_getElem?_getD, List.getElem?_eq_getElem hl]; exact List.getElem_idxOf hl
  refine Nat.le_antisymm ?_ (Nat.not_lt.1 fun h => hn _ h hg.symm)
  refine Nat.not_lt.1 fun h => ?_
  have := List.not_of_lt_findIdx (p := fun x => x == e) (xs := xs) h
  rw [at_eq (by omega) (by omega)] at he
  simp [he] at this

theorem IndexE_ok {κ : Ctx} {I : List Item} {v : Value} {xs : List Pt} (hl : Sl κ I v xs) {e : Pt} (he : e ∈ xs) :
    CallS Tryd.prog κ 174 [v, .agg #[I64 (e.u), I64 (e.v)]] I (fun r J => r = I64 ((xs.idxOf e : Nat) : Int) ∧ I = J) := by
 refine CallS.pull hl.le fun hmax => ?_
 refine CallS.enter (L := [(0, v), (1, .agg #[I64 (e.u), I64 (e.v)])]) Tryd.func174 rfl rfl rfl rfl ?_
 refine W.sr ?_
 refine G.e (Eff.box (cs := [_, _]) rfl rfl rfl) ?_
 rintro _ _ ⟨b1, rfl, rfl⟩
 refine G.r (Runs.assign rfl) ?_
 refine G.nt ?_
 refine W.seq ?_
 refine W.sr ?_
 refine G.r (Runs.move rfl) ?_
 refine G.r (Runs.lenT (α := Pt) (xs := xs) Tryd.underlying23 rfl (Sl.f hl)) ?_
 refine G.r (Runs.move rfl) ?_
 refine G.nt ?_
 refine W.block ?_
 refine W.loop (σ := Nat) (fun s => ([(0, v), (3, .pointer (some ⟨b1, 0, none⟩)), (7, I64 (((xs.length : Nat) : Int))), (8, I64 (((s : Nat) : Int)))] : Env)) (fun s => blk b1 [I64 (e.u), I64 (e.v)] 38 :: I) (fun s => (s ≤ xs.length) ∧ (∀ j, j < s → e ≠ at_ xs (j : Int))) (fun s => xs.length - s) (0) (show ((0 : Nat) ≤ xs.length) ∧ (∀ j, j < (0 : Nat) → e ≠ at_ xs (j : Int)) from ⟨(by omega), all_zero⟩) (Sub.cons rfl (Sub.cons rfl (Sub.cons rfl (Sub.cons lookO Sub.nil)))) (show Fit κ _ (blk b1 [I64 (e.u), I64 (e.v)] 38 :: I) from Fit.sub) ?_
 rintro k hp
 obtain ⟨hk, hn⟩ : (k ≤ xs.length) ∧ (∀ j, j < k → e ≠ at_ xs (j : Int)) := hp
 show W Tryd.prog κ 19 _ _ ([(0, v), (3, .pointer (some ⟨b1, 0, none⟩)), (7, I64 (((xs.length : Nat) : Int))), (8, I64 (((k : Nat) : Int)))] : Env) (blk b1 [I64 (e.u), I64 (e.v)] 38 :: I)
 refine W.sr ?_
 refine G.r (Runs.lss rfl rfl) ?_
 refine G.nt ?_
 refine W.seq ?_
 refine W.ite rfl (fun c9 => ?_) (fun c9 => ?_)
 ·refine W.skip ?_
  refine V.then ?_
  refine W.seq ?_
  refine W.block ?_
  refine W.sr ?_
  refine G.r (Runs.move rfl) ?_
  refine G.r (Runs.assign rfl) ?_
  refine G.nt ?_
  refine W.seq ?_
  refine W.drawn mixed ?_
  refine A.hold (blk b1 [I64 (e.u), I64 (e.v)] 38 :: I) 6 ?_
  refine D.r 0 rfl (Runs.lds (vs := [_, _]) ty38) ?_ (hJ := Fit.sub)
  refine D.r 1 rfl (Runs.move rfl) ?_ (hJ := Fit.sub)
  refine D.r 2 rfl (Runs.move rfl) ?_ (hJ := Fit.sub)
  refine D.r 3 rfl (Runs.idx (α := Pt) (xs := xs) Tryd.underlying23 ty38 rfl rfl (Sl.f hl) (by omega) (by omega)) ?_ (hJ := Fit.sub)
  refine D.r 4 rfl (Runs.gets (α := Pt) (xs := xs) ty38 rfl (Sl.f hl) (by omega) (by omega)) ?_ (hJ := Fit.sub)
  refine D.r 5 rfl (Runs.eqlT (α := Pt) (a := e) (b := (at_ xs ((k : Nat) : Int))) eqt38 rfl rfl) ?_ (hJ := Fit.sub)
  refine D.done (by kernel_rfl) ?_
  refine V.then ?_
  refine W.ite rfl (fun c16 => ?_) (fun c16 => ?_)
  ·refine W.sr ?_
   refine G.r (Runs.move rfl) ?_
   refine G.r (Runs.assign rfl) ?_
   refine G.nt ?_
   refine W.sub (L' := [(4, _)]) (Sub.cons rfl Sub.nil) ?_
   refine W.ret ?_
   refine V.block_ret ?_
   refine V.then_ret ?_
   refine V.then_ret ?_
   refine V.block_ret ?_
   refine V.then_ret ?_
   have hx := idx_hit (by omega) hn c16
   exact V.ret1 rfl rfl (I) Fit.m ⟨by rw [hx], rfl⟩
  ·refine W.skip ?_
   refine V.block_normal ?_
   refine V.then ?_
   refine W.region ?_
   refine G.r (Runs.add rfl rfl (by unfold InR; omega)) ?_
   refine G.r (Runs.move rfl) ?_
   refine G.nil ?_
   exact V.next ((k + 1)) (show ((k + 1 : Nat) ≤ xs.length) ∧ (∀ j, j < (k + 1 : Nat) → e ≠ at_ xs (j : Int)) from ⟨(by omega), (all_succ hn c16)⟩) (show xs.length - (k + 1 : Nat) < xs.length - k from (by omega)) (Sub.cons rfl (Sub.cons rfl (Sub.cons rfl (Sub.cons lookO Sub.nil)))) (show Fit κ _ (blk b1 [I64 (e.u), I64 (e.v)] 38 :: I) from Fit.sub)
 ·refine W.exit ?_
  refine V.then_exit ?_
  refine V.then_exit ?_
  refine V.block_hit ?_
  refine V.then ?_
  refine W.sr ?_
  refine G.r (Runs.assign rfl) ?_
  refine G.nt ?_
  refine W.ret ?_
  exact absurd he (fun hm => by obtain ⟨j, hj, hje⟩ := mem_at hm; exact hn j (by omega) hje.symm)

theorem SEnter_ok {κ : Ctx} {I : List Item} {b : Nat} {ra na qa wa : Option Addr} {rc nc qc wc : Nat} {ed ou : Value} {rows : List (BitVec 64)} {num low : List Int} {way : List Vis} {cd : Int} (f g : Int) (hf : 0 ≤ f ∧ f < rows.length) (hn : num.length = rows.length) (hq : low.length = rows.length) (hc : 0 ≤ cd ∧ cd ≤ 1000) (hw : way.length ≤ 100000) :
    CallS Tryd.prog κ 148 [.pointer (some ⟨b, 0, none⟩), I64 (f), I64 (g)] (blk b [.slice ra rows.length rc, .slice na num.length nc, .slice qa low.length qc, .slice wa way.length wc, ed, ou, I64 (cd)] 155 :: vc 99 (.slice ra rows.length rc) (rows) :: vc 3 (.slice na num.length nc) (num) :: vc 3 (.slice qa low.length qc) (low) :: vc 183 (.slice wa way.length wc) (way) :: I) (fun r J => ∃ wa' wc', r = .tuple #[] ∧ J = blk b [.slice ra rows.length rc, .slice na (num.set f.toNat (cd + 1)).length nc, .slice qa (low.set f.toNat (cd + 1)).length qc, .slice wa' (way ++ [(⟨f, g, at_ rows f⟩ : Vis)]).length wc', ed, ou, I64 ((cd + 1))] 155 :: vc 99 (.slice ra rows.length rc) (rows) :: vc 3 (.slice na (num.set f.toNat (cd + 1)).length nc) ((num.set f.toNat (cd + 1))) :: vc 3 (.slice qa (low.set f.toNat (cd + 1)).length qc) ((low.set f.toNat (cd + 1))) :: vc 183 (.slice wa' (way ++ [(⟨f, g, at_ rows f⟩ : Vis)]).length wc') ((way ++ [(⟨f, g, at_ rows f⟩ : Vis)])) :: I) := by
 refine CallS.pull (p := 0 < num.length → na ≠ none) (vc.isSome (by repeat (first | exact List.mem_cons_self | apply List.mem_cons_of_mem))) fun hsn => ?_
 refine CallS.pull (p := 0 < low.length → qa ≠ none) (vc.isSome (by repeat (first | exact List.mem_cons_self | apply List.mem_cons_of_mem))) fun hsl => ?_
 refine CallS.enter (L := [(0, .pointer (some ⟨b, 0, none⟩)), (1, I64 (f)), (2, I64 (g))]) Tryd.func148 rfl rfl rfl rfl ?_
 refine W.sr ?_
 refine G.r (Runs.move rfl) ?_
 refine G.r (Runs.nilCheck rfl) ?_
 refine G.r (Runs.fieldAddr fld155_6 rfl) ?_
 refine G.r (Runs.ld ty3) ?_
 refine G.r (Runs.add rfl rfl (by unfold InR; omega)) ?_
 refine G.r (Runs.nilCheck rfl) ?_
 refine G.r (Runs.fieldAddr fld155_6 rfl) ?_
 refine G.e (Eff.st (cs := [_, _, _, _, _, _, _]) (vs := [_]) (cs' := [_, _, _, _, _, _, _]) ty3) ?_
 rintro _ _ ⟨rfl, rfl⟩
 refine G.nt ?_
 refine W.seq ?_
 refine W.drawn mixed ?_
 refine A.hold (blk b [.slice ra rows.length rc, .slice na num.length nc, .slice qa low.length qc, .slice wa way.length wc, ed, ou, I64 (cd + 1)] 155 :: vc 99 (.slice ra rows.length rc) (rows) :: vc 183 (.slice wa way.length wc) (way) :: I) 22 ?_
 refine D.r 0 rfl (Runs.move rfl) ?_ (hJ := Fit.sub)
 refine D.r 1 rfl (Runs.nilCheck rfl) ?_ (hJ := Fit.sub)
 refine D.r 2 rfl (Runs.fieldAddr fld155_1 rfl) ?_ (hJ := Fit.sub)
 refine D.r 3 rfl (Runs.ld ty22) ?_ (hJ := Fit.sub)
 refine D.r 4 rfl (Runs.move rfl) ?_ (hJ := Fit.sub)
 refine D.r 5 rfl (Runs.move rfl) ?_ (hJ := Fit.sub)
 refine D.r 6 rfl (Runs.nilCheck rfl) ?_ (hJ := Fit.sub)
 refine D.r 7 rfl (Runs.fieldAddr fld155_2 rfl) ?_ (hJ := Fit.sub)
 refine D.r 8 rfl (Runs.ld ty22) ?_ (hJ := Fit.sub)
 refine D.r 9 rfl (Runs.move rfl) ?_ (hJ := Fit.sub)
 refine D.r 10 rfl (Runs.move rfl) ?_ (hJ := Fit.sub)
 refine D.r 11 rfl (Runs.nilCheck rfl) ?_ (hJ := Fit.sub)
 refine D.r 12 rfl (Runs.fieldAddr fld155_6 rfl) ?_ (hJ := Fit.sub)
 refine D.r 13 rfl (Runs.ld ty3) ?_ (hJ := Fit.sub)
 refine D.r 14 rfl (Runs.move rfl) ?_ (hJ := Fit.sub)
 refine D.r 15 rfl (Runs.nilCheck rfl) ?_ (hJ := Fit.sub)
 refine D.r 16 rfl (Runs.fieldAddr fld155_6 rfl) ?_ (hJ := Fit.sub)
 refine D.r 17 rfl (Runs.ld ty3) ?_ (hJ := Fit.sub)
 refine D.r 18 rfl (Runs.idxs Int Tryd.underlying22 ty3 rfl rfl (hsn (by omega)) (by omega) (by omega)) ?_ (hJ := Fit.sub)
 refine D.step (rs := [19]) (by kernel_rfl) rfl rfl (all1 ?_)
 refine Step.eff rfl (Wanted.plain rfl) (Eff.set (α := Int) (xs := num) (e := 3) (new := cd + 1) ty3 rfl rfl rfl (by omega) (by first | omega | (simp only [List.length_set]; omega)) (by repeat (first | exact At.head _ _ _ | apply At.tail))) ?_
 rintro _ _ ⟨rfl, rfl⟩
 refine ⟨Fit.sub, ?_⟩
 refine D.r 20 rfl (Runs.idxs Int Tryd.underlying22 ty3 rfl rfl (hsl (by omega)) (by omega) (by omega)) ?_ (hJ := Fit.sub)
 refine D.step (rs := [21]) (by kernel_rfl) rfl rfl (all1 ?_)
 refine Step.eff rfl (Wanted.plain rfl) (Eff.set (α := Int) (xs := low) (e := 3) (new := cd + 1) ty3 rfl rfl rfl (by omega) (by first | omega | (simp only [List.length_set]; omega)) (by repeat (first | exact At.head _ _ _ | apply At.tail))) ?_
 rintro _ _ ⟨rfl, rfl⟩
 refine ⟨Fit.sub, ?_⟩
 refine D.done (by kernel_rfl) ?_
 refine V.then ?_
 refine W.sub (L' := [(0, _), (1, _), (2, _)]) (Sub.cons rfl (Sub.cons rfl (Sub.cons rfl Sub.nil))) ?_
 refine W.drawn mixed ?_
 refine A.hold (blk b [.slice ra rows.length rc, .slice na num.length nc, .slice qa low.length qc, .slice wa way.length wc, ed, ou, I64 (cd + 1)] 155 :: vc 99 (.slice ra rows.length rc) (rows) :: vc 3 (.slice na num.length nc) (List.set num (f).toNat (cd + 1)) :: vc 3 (.slice qa low.length qc) (List.set low (f).toNat (cd + 1)) :: I) 19 ?_
 refine D.r 0 rfl (Runs.move rfl) ?_ (hJ := Fit.sub)
 refine D.r 1 rfl (Runs.move rfl) ?_ (hJ := Fit.sub)
 refine D.r 2 rfl (Runs.nilCheck rfl) ?_ (hJ := Fit.sub)
 refine D.r 3 rfl (Runs.fieldAddr fld155_3 rfl) ?_ (hJ := Fit.sub)
 refine D.r 4 rfl (Runs.ld ty153) ?_ (hJ := Fit.sub)
 refine D.r 5 rfl (Runs.move rfl) ?_ (hJ := Fit.sub)
 refine D.r 6 rfl (Runs.move rfl) ?_ (hJ := Fit.sub)
 refine D.r 7 rfl (Runs.move rfl) ?_ (hJ := Fit.sub)
 refine D.r 8 rfl (Runs.nilCheck rfl) ?_ (hJ := Fit.sub)
 refine D.r 9 rfl (Runs.fieldAddr fld155_0 rfl) ?_ (hJ := Fit.sub)
 refine D.r 10 rfl (Runs.ld ty106) ?_ (hJ := Fit.sub)
 refine D.r 11 rfl (Runs.move rfl) ?_ (hJ := Fit.sub)
 refine D.r 12 rfl (Runs.idx (α := (BitVec 64)) (xs := rows) Tryd.underlying106 ty99 rfl rfl Sl.o (by omega) (by first | omega | (simp only [List.length_set]; omega))) ?_ (hJ := Fit.sub)
 refine D.r 13 rfl (Runs.getf0 (α := (BitVec 64)) (xs := rows) (u := U64 ((at_ rows f))) ty99 rfl Sl.o (by omega) (by first | omega | (simp only [List.length_set]; omega)) rfl) ?_ (hJ := Fit.sub)
 refine D.r 14 rfl (Runs.build (cells := [_, _, _]) ty183 Tryd.underlying183 pl183 rfl rfl) ?_ (hJ := Fit.sub)
 refine D.step (rs := [15]) (by kernel_rfl) rfl rfl (all1 ?_)
 refine Step.eff rfl (Wanted.plain rfl) (Eff.bs (α := Vis) (cs := [_, _, _]) (xs := [⟨f, g, (at_ rows f)⟩]) Tryd.underlying153 ty183 rfl rfl (by decide) (by decide) rfl rfl rfl rfl) ?_
 rintro _ _ ⟨ad1, rfl, rfl⟩
 refine ⟨Fit.sub, ?_⟩
 refine D.step (rs := [16]) (by kernel_rfl) rfl rfl (all1 ?_)
 refine Step.eff rfl (Wanted.plain rfl) (Eff.app (α := Vis) (e := 183) (xs := way) (ys := ([⟨f, g, (at_ rows f)⟩] : List Vis)) Tryd.underlying153 ty183 rfl rfl rfl (by repeat (first | exact List.mem_cons_self | apply List.mem_cons_of_mem)) Sl.o (by simp only [List.length_cons, List.length_nil]; omega) (by decide) rfl (fun _ _ => (by repeat (first | exact At.head _ _ _ | apply At.tail)))) ?_
 rintro _ _ ⟨ad2, cp3, rfl, rfl⟩
 refine ⟨Fit.sub, ?_⟩
 refine D.step (rs := [17]) (by kernel_rfl) rfl rfl (all1 ?_)
 refine Step.read rfl (Wanted.plain rfl) rfl rfl (Runs.nilCheck rfl) Fit.sub ?_
 refine D.r 18 rfl (Runs.fieldAddr fld155_3 rfl) ?_ (hJ := Fit.sub)
 refine D.stop (by kernel_rfl) ?_
 refine A.eff (i := 19) (by kernel_rfl) rfl (Wanted.plain rfl) (Eff.st (cs := [_, _, _, _, _, _, _]) (vs := [_]) (cs' := [_, _, _, _, _, _, _]) ty153) ?_
 rintro _ _ ⟨rfl, rfl⟩
 refine A.done (by kernel_rfl) ?_
 exact V.end0 rfl (blk b [.slice ra rows.length rc, .slice na (num.set f.toNat (cd + 1)).length nc, .slice qa (low.set f.toNat (cd + 1)).length qc, .slice ad2 (way ++ [(⟨f, g, at_ rows f⟩ : Vis)]).length cp3, ed, ou, I64 ((cd + 1))] 155 :: vc 99 (.slice ra rows.length rc) (rows) :: vc 3 (.slice na (num.set f.toNat (cd + 1)).length nc) ((num.set f.toNat (cd + 1))) :: vc 3 (.slice qa (low.set f.toNat (cd + 1)).length qc) ((low.set f.toNat (cd + 1))) :: vc 183 (.slice ad2 (way ++ [(⟨f, g, at_ rows f⟩ : Vis)]).length cp3) ((way ++ [(⟨f, g, at_ rows f⟩ : Vis)])) :: I) (by simp only [List.length_set]; exact Fit.s) ⟨ad2, cp3, rfl, rfl⟩

theorem norm_step {D B : List Pt} {k : Nat} (hk : k < D.length) (hB : B = (D.take k).map normE ++ D.drop k) : B.set k (normE (at_ D (k : Int))) = (D.take (k + 1)).map normE ++ D.drop (k + 1) := by
  have hl : ((D.take k).map normE).length = k := by simp; omega
  rw [hB, List.set_append_right _ _ (by omega), hl, Nat.sub_self, take_at D k hk, List.map_append, List.append_assoc]
  have hd : D.drop k = at_ D (k : Int) :: D.drop (k + 1) := by
    rw [at_nat, List.getD_eq_getElem?_getD, List.getElem?_eq_getElem hk]; exact List.drop_eq_getElem_cons hk
  rw [hd]; rfl
theorem norm_at {D B : List Pt} {k : Nat} (hk : k < D.length) (hB : B = (D.take k).map normE ++ D.drop k) : at_ B (k : Int) = at_ D (k : Int) := by
  have hl : ((D.take k).map normE).length = k := by simp; omega
  rw [hB, at_nat, at_nat, List.getD_eq_getElem?_getD, List.getD_eq_getElem?_getD, List.getElem?_append_right (by omega), hl, Nat.sub_self, List.getElem?_drop]; rfl
theorem norm_len {D B : List Pt} {k : Nat} (hk : k ≤ D.length) (hB : B = (D.take k).map normE ++ D.drop k) : B.length = D.length := by
  rw [hB]; simp; omega

theorem SPop_ok {κ : Ctx} {I : List Item} {b : Nat} {s0 s1 s2 s3 : Value} {ea oa : Option Addr} {ec oc : Nat} {edges : List Pt} {rs : List (RowG Pt)} {cd : Int} {e : Pt} (he : e ∈ edges) (hb : edges.length ≤ 100000) (hr : rs.length ≤ 100000) :
    CallS Tryd.prog κ 149 [.pointer (some ⟨b, 0, none⟩), .agg #[I64 (e.u), I64 (e.v)]] (blk b [s0, s1, s2, s3, .slice ea edges.length ec, .slice oa rs.length oc, I64 (cd)] 155 :: vc 38 (.slice ea edges.length ec) (edges) :: vc 23 (.slice oa rs.length oc) (rs) :: (ownR 38 rs ++ I)) (fun r J => ∃ oa' oc' row, r = .tuple #[] ∧ row.xs = (sortD ((List.drop (edges.idxOf e) edges).map normE)) ∧ J = blk b [s0, s1, s2, s3, .slice ea (edges.take (edges.idxOf e)).length ec, .slice oa' (rs ++ [row]).length oc', I64 cd] 155 :: vc 38 (.slice ea (edges.take (edges.idxOf e)).length ec) (edges.take (edges.idxOf e)) :: vc 23 (.slice oa' (rs ++ [row]).length oc') (rs ++ [row]) :: (ownR 38 (rs ++ [row]) ++ I)) := by
 refine CallS.enter (L := [(0, .pointer (some ⟨b, 0, none⟩)), (1, .agg #[I64 (e.u), I64 (e.v)])]) Tryd.func149 rfl rfl rfl rfl ?_
 refine W.sr ?_
 refine G.e (Eff.box (cs := [_, _]) rfl rfl rfl) ?_
 rintro _ _ ⟨b1, rfl, rfl⟩
 refine G.nt ?_
 refine W.seq ?_
 refine W.drawn mixed ?_
 refine A.hold (blk b1 [I64 (e.u), I64 (e.v)] 38 :: blk b [s0, s1, s2, s3, .slice ea edges.length ec, .slice oa rs.length oc, I64 (cd)] 155 :: vc 38 (.slice ea edges.length ec) (edges) :: vc 23 (.slice oa rs.length oc) (rs) :: (ownR 38 rs ++ I)) 7 ?_
 refine D.r 0 rfl (Runs.move rfl) ?_ (hJ := Fit.sub)
 refine D.r 1 rfl (Runs.nilCheck rfl) ?_ (hJ := Fit.sub)
 refine D.r 2 rfl (Runs.fieldAddr fld155_4 rfl) ?_ (hJ := Fit.sub)
 refine D.r 3 rfl (Runs.ld ty23) ?_ (hJ := Fit.sub)
 refine D.r 4 rfl (Runs.lds (vs := [_, _]) ty38) ?_ (hJ := Fit.sub)
 refine D.step (rs := [5]) (by kernel_rfl) rfl rfl (all1 ?_)
 refine Step.eff rfl (Wanted.plain rfl) (Eff.call call174 rfl rfl (IndexE_ok Sl.o (e := e) he)) ?_
 rintro _ _ ⟨_, _, ⟨rfl, rfl⟩, rfl, rfl⟩
 refine ⟨Fit.sub, ?_⟩
 refine D.r 6 rfl (Runs.assign rfl) ?_ (hJ := Fit.sub)
 have hil := List.idxOf_lt_length_of_mem he
 have hdl : (List.drop (edges.idxOf e) edges).length ≤ edges.length := by rw [List.length_drop]; omega
 refine D.done (by kernel_rfl) ?_
 refine V.then ?_
 refine W.sr ?_
 refine G.r (Runs.move rfl) ?_
 refine G.r (Runs.nilCheck rfl) ?_
 refine G.r (Runs.fieldAddr fld155_4 rfl) ?_
 refine G.r (Runs.ld ty23) ?_
 refine G.r (Runs.move rfl) ?_
 refine G.r (Runs.lo (α := Pt) (xs := edges) (l := (edges.idxOf e)) Tryd.underlying23 ty38 rfl rfl (by omega) Sl.o (by omega)) ?_
 refine G.e (Eff.call call175 rfl rfl (CloneE (xs := List.drop (edges.idxOf e) edges) (Sl.drop Sl.o (by omega)) (by omega))) ?_
 rintro _ _ ⟨_, _, ⟨ad2, cp3, rfl, rfl⟩, rfl, rfl⟩
 refine G.r (Runs.assign rfl) ?_
 refine G.nt ?_
 refine W.sub (L' := [(5, _), (4, _), (0, _)]) (Sub.cons rfl (Sub.cons rfl (Sub.cons rfl Sub.nil))) ?_
 refine W.sr ?_
 refine G.r (Runs.move rfl) ?_
 refine G.r (Runs.move rfl) ?_
 refine G.r (Runs.nilCheck rfl) ?_
 refine G.r (Runs.fieldAddr fld155_4 rfl) ?_
 refine G.r (Runs.ld ty23) ?_
 refine G.r (Runs.move rfl) ?_
 refine G.r (Runs.hi (α := Pt) (xs := edges) (h := (edges.idxOf e)) Tryd.underlying23 ty38 rfl rfl (by omega) Sl.o (by omega)) ?_
 refine G.r (Runs.nilCheck rfl) ?_
 refine G.r (Runs.fieldAddr fld155_4 rfl) ?_
 refine G.e (Eff.st (cs := [_, _, _, _, _, _, _]) (vs := [_]) (cs' := [_, _, _, _, _, _, _]) ty23) ?_
 rintro _ _ ⟨rfl, rfl⟩
 refine G.nt ?_
 refine W.seq ?_
 refine W.sr ?_
 refine G.r (Runs.move rfl) ?_
 refine G.r (Runs.lens Tryd.underlying23 rfl) ?_
 refine G.r (Runs.move rfl) ?_
 refine G.nt ?_
 refine W.sub (L' := [(32, _), (31, _), (30, _), (5, _), (0, _)]) (Sub.cons rfl (Sub.cons rfl (Sub.cons rfl (Sub.cons rfl (Sub.cons rfl Sub.nil))))) ?_
 refine W.block ?_
 refine W.loop (σ := Nat × (List Pt)) (fun s => ([(0, .pointer (some ⟨b, 0, none⟩)), (5, .slice ad2 (List.drop (edges.idxOf e) edges).length cp3), (30, .slice ad2 (List.drop (edges.idxOf e) edges).length cp3), (31, I64 ((((List.drop (edges.idxOf e) edges).length : Nat) : Int))), (32, I64 (((s.1 : Nat) : Int)))] : Env)) (fun s => vc 38 (.slice ad2 (List.drop (edges.idxOf e) edges).length cp3) (s.2) :: blk b1 [I64 (e.u), I64 (e.v)] 38 :: blk b [s0, s1, s2, s3, .slice ea (List.take (edges.idxOf e) edges).length ec, .slice oa rs.length oc, I64 (cd)] 155 :: vc 38 (.slice ea edges.length ec) (edges) :: vc 23 (.slice oa rs.length oc) (rs) :: (ownR 38 rs ++ I)) (fun s => (s.1 ≤ (List.drop (edges.idxOf e) edges).length) ∧ (s.2 = ((List.drop (edges.idxOf e) edges).take s.1).map normE ++ (List.drop (edges.idxOf e) edges).drop s.1)) (fun s => (List.drop (edges.idxOf e) edges).length - s.1) (0, (List.drop (edges.idxOf e) edges)) (show ((0 : Nat) ≤ (List.drop (edges.idxOf e) edges).length) ∧ (((List.drop (edges.idxOf e) edges) : List Pt) = ((List.drop (edges.idxOf e) edges).take (0 : Nat)).map normE ++ (List.drop (edges.idxOf e) edges).drop (0 : Nat)) from ⟨(by omega), (by simp)⟩) (Sub.cons rfl (Sub.cons rfl (Sub.cons rfl (Sub.cons rfl (Sub.cons lookO Sub.nil))))) (show Fit κ _ (vc 38 (.slice ad2 (List.drop (edges.idxOf e) edges).length cp3) (((List.drop (edges.idxOf e) edges))) :: blk b1 [I64 (e.u), I64 (e.v)] 38 :: blk b [s0, s1, s2, s3, .slice ea (List.take (edges.idxOf e) edges).length ec, .slice oa rs.length oc, I64 (cd)] 155 :: vc 38 (.slice ea edges.length ec) (edges) :: vc 23 (.slice oa rs.length oc) (rs) :: (ownR 38 rs ++ I)) from Fit.sub) ?_
 rintro ⟨k, B⟩ hp
 obtain ⟨hk, hB⟩ : (k ≤ (List.drop (edges.idxOf e) edges).length) ∧ (B = ((List.drop (edges.idxOf e) edges).take k).map normE ++ (List.drop (edges.idxOf e) edges).drop k) := hp
 show W Tryd.prog κ 64 _ _ ([(0, .pointer (some ⟨b, 0, none⟩)), (5, .slice ad2 (List.drop (edges.idxOf e) edges).length cp3), (30, .slice ad2 (List.drop (edges.idxOf e) edges).length cp3), (31, I64 ((((List.drop (edges.idxOf e) edges).length : Nat) : Int))), (32, I64 (((k : Nat) : Int)))] : Env) (vc 38 (.slice ad2 (List.drop (edges.idxOf e) edges).length cp3) (B) :: blk b1 [I64 (e.u), I64 (e.v)] 38 :: blk b [s0, s1, s2, s3, .slice ea (List.take (edges.idxOf e) edges).length ec, .slice oa rs.length oc, I64 (cd)] 155 :: vc 38 (.slice ea edges.length ec) (edges) :: vc 23 (.slice oa rs.length oc) (rs) :: (ownR 38 rs ++ I))
 have hBl := norm_len (by omega) hB
 have hBk : k < (List.drop (edges.idxOf e) edges).length → at_ B (k : Int) = at_ (List.drop (edges.idxOf e) edges) (k : Int) := fun h => norm_at h hB
 refine W.sr ?_
 refine G.r (Runs.lss rfl rfl) ?_
 refine G.nt ?_
 refine W.seq ?_
 refine W.ite rfl (fun c33 => ?_) (fun c33 => ?_)
 ·refine W.skip ?_
  refine V.then ?_
  refine W.seq ?_
  refine W.block ?_
  refine W.sr ?_
  refine G.r (Runs.move rfl) ?_
  refine G.r (Runs.idx (α := Pt) (xs := B) Tryd.underlying23 ty38 rfl rfl Sl.o (by omega) (by first | omega | (simp only [List.length_set]; omega))) ?_
  refine G.r (Runs.gets (α := Pt) (xs := B) ty38 rfl Sl.o (by omega) (by first | omega | (simp only [List.length_set]; omega))) ?_
  refine G.e (Eff.alloc ty38 rfl) ?_
  rintro _ _ ⟨b4, rfl, rfl⟩
  refine G.r (Runs.assign rfl) ?_
  refine G.e (Eff.st (cs := [_, _]) (vs := [_, _]) (cs' := [_, _]) ty38) ?_
  rintro _ _ ⟨rfl, rfl⟩
  refine G.nt ?_
  refine W.region ?_
  refine G.r (Runs.move rfl) ?_
  refine G.r (Runs.move rfl) ?_
  refine G.r (Runs.fieldAddr fld38_0 rfl) ?_
  refine G.r (Runs.ld ty3) ?_
  refine G.r (Runs.fieldAddr fld38_1 rfl) ?_
  refine G.r (Runs.ld ty3) ?_
  refine G.r (Runs.min rfl rfl) ?_
  refine G.r (Runs.fieldAddr fld38_0 rfl) ?_
  refine G.r (Runs.ld ty3) ?_
  refine G.r (Runs.fieldAddr fld38_1 rfl) ?_
  refine G.r (Runs.ld ty3) ?_
  refine G.r (Runs.max rfl rfl) ?_
  refine G.r (Runs.build (cells := [_, _]) ty38 Tryd.underlying38 pl38 rfl rfl) ?_
  refine G.r (Runs.idx (α := Pt) (xs := B) Tryd.underlying23 ty38 rfl rfl Sl.o (by omega) (by first | omega | (simp only [List.length_set]; omega))) ?_
  refine G.e (Eff.set (α := Pt) (xs := B) (e := 38) (new := ⟨if ((at_ B ((k : Nat) : Int)).v) < ((at_ B ((k : Nat) : Int)).u) then ((at_ B ((k : Nat) : Int)).v) else ((at_ B ((k : Nat) : Int)).u), if ((at_ B ((k : Nat) : Int)).u) < ((at_ B ((k : Nat) : Int)).v) then ((at_ B ((k : Nat) : Int)).v) else ((at_ B ((k : Nat) : Int)).u)⟩) ty38 rfl rfl rfl (by omega) (by first | omega | (simp only [List.length_set]; omega)) (by repeat (first | exact At.head _ _ _ | apply At.tail))) ?_
  rintro _ _ ⟨rfl, rfl⟩
  refine G.nil ?_
  refine V.block_normal ?_
  refine V.then ?_
  refine W.sub (L' := [(0, _), (5, _), (30, _), (31, _), (32, _)]) (Sub.cons rfl (Sub.cons rfl (Sub.cons rfl (Sub.cons rfl (Sub.cons rfl Sub.nil))))) ?_
  refine W.region ?_
  refine G.r (Runs.add rfl rfl (by unfold InR; omega)) ?_
  refine G.r (Runs.move rfl) ?_
  refine G.nil ?_
  have hset : List.set B (((k : Nat) : Int)).toNat (⟨if ((at_ B ((k : Nat) : Int)).v) < ((at_ B ((k : Nat) : Int)).u) then ((at_ B ((k : Nat) : Int)).v) else ((at_ B ((k : Nat) : Int)).u), if ((at_ B ((k : Nat) : Int)).u) < ((at_ B ((k : Nat) : Int)).v) then ((at_ B ((k : Nat) : Int)).v) else ((at_ B ((k : Nat) : Int)).u)⟩) = B.set k (normE (at_ (List.drop (edges.idxOf e) edges) (k : Int))) := by rw [hBk (by omega)]; rfl
  rw [hset]
  exact V.next ((k + 1), (B.set k (normE (at_ (List.drop (edges.idxOf e) edges) (k : Int))))) (show ((k + 1 : Nat) ≤ (List.drop (edges.idxOf e) edges).length) ∧ ((B.set k (normE (at_ (List.drop (edges.idxOf e) edges) (k : Int))) : List Pt) = ((List.drop (edges.idxOf e) edges).take (k + 1 : Nat)).map normE ++ (List.drop (edges.idxOf e) edges).drop (k + 1 : Nat)) from ⟨(by omega), (norm_step (by omega) hB)⟩) (show (List.drop (edges.idxOf e) edges).length - (k + 1 : Nat) < (List.drop (edges.idxOf e) edges).length - k from (by omega)) (Sub.cons rfl (Sub.cons rfl (Sub.cons rfl (Sub.cons rfl (Sub.cons lookO Sub.nil))))) (show Fit κ _ (vc 38 (.slice ad2 (List.drop (edges.idxOf e) edges).length cp3) ((B.set k (normE (at_ (List.drop (edges.idxOf e) edges) (k : Int))))) :: blk b1 [I64 (e.u), I64 (e.v)] 38 :: blk b [s0, s1, s2, s3, .slice ea (List.take (edges.idxOf e) edges).length ec, .slice oa rs.length oc, I64 (cd)] 155 :: vc 38 (.slice ea edges.length ec) (edges) :: vc 23 (.slice oa rs.length oc) (rs) :: (ownR 38 rs ++ I)) from Fit.sub)
 ·refine W.exit ?_
  refine V.then_exit ?_
  refine V.then_exit ?_
  refine V.block_hit ?_
  refine V.then ?_
  refine W.sr ?_
  refine G.r (Runs.move rfl) ?_
  refine G.e (Eff.call call176 rfl rfl (SortE_at (by repeat (first | exact AtF.head _ _ | apply AtF.tail)) hBl (by omega))) ?_
  rintro _ _ ⟨_, _, ⟨ys5, ⟨rfl, hsys5, hlys5⟩, rfl⟩, rfl, rfl⟩
  show G Tryd.prog κ _ _ _ _ ([(53, .tuple #[]), (52, .slice ad2 (List.drop (edges.idxOf e) edges).length cp3), (33, .bool (decide (((k : Nat) : Int) < (((List.drop (edges.idxOf e) edges).length : Nat) : Int)))), (0, .pointer (some ⟨b, 0, none⟩)), (5, .slice ad2 (List.drop (edges.idxOf e) edges).length cp3), (30, .slice ad2 (List.drop (edges.idxOf e) edges).length cp3), (31, I64 ((((List.drop (edges.idxOf e) edges).length : Nat) : Int))), (32, I64 (((k : Nat) : Int)))] : Env) (vc 38 (.slice ad2 (List.drop (edges.idxOf e) edges).length cp3) (ys5) :: blk b1 [I64 (e.u), I64 (e.v)] 38 :: blk b [s0, s1, s2, s3, .slice ea (List.take (edges.idxOf e) edges).length ec, .slice oa rs.length oc, I64 (cd)] 155 :: vc 38 (.slice ea edges.length ec) (edges) :: vc 23 (.slice oa rs.length oc) (rs) :: (ownR 38 rs ++ I))
  have hkk : (List.drop (edges.idxOf e) edges).length ≤ k := by omega
  have hBm : B = (List.drop (edges.idxOf e) edges).map normE := by rw [hB, List.take_of_length_le hkk, List.drop_of_length_le hkk, List.append_nil]
  have hys : ys5 = (sortD ((List.drop (edges.idxOf e) edges).map normE)) := by rw [sortD_of hsys5, hBm]
  have hyl := hlys5
  subst hys
  rw [← hyl]
  refine G.nt ?_
  refine W.region ?_
  refine G.r (Runs.move rfl) ?_
  refine G.r (Runs.move rfl) ?_
  refine G.r (Runs.nilCheck rfl) ?_
  refine G.r (Runs.fieldAddr fld155_5 rfl) ?_
  refine G.r (Runs.ld ty29) ?_
  refine G.r (Runs.move rfl) ?_
  refine G.e (Eff.bs (α := (RowG Pt)) (cs := [_]) (xs := [⟨ad2, cp3, (sortD ((List.drop (edges.idxOf e) edges).map normE))⟩]) Tryd.underlying29 ty23 rfl rfl (by decide) (by decide) rfl rfl rfl rfl) ?_
  rintro _ _ ⟨ad6, rfl, rfl⟩
  refine G.e (Eff.app (α := (RowG Pt)) (e := 23) (xs := rs) (ys := ([⟨ad2, cp3, (sortD ((List.drop (edges.idxOf e) edges).map normE))⟩] : List (RowG Pt))) Tryd.underlying29 ty23 rfl rfl rfl (by repeat (first | exact List.mem_cons_self | apply List.mem_cons_of_mem)) Sl.o (by simp only [List.length_cons, List.length_nil]; omega) (by decide) rfl (fun _ _ => (by repeat (first | exact At.head _ _ _ | apply At.tail)))) ?_
  rintro _ _ ⟨ad7, cp8, rfl, rfl⟩
  refine G.r (Runs.nilCheck rfl) ?_
  refine G.r (Runs.fieldAddr fld155_5 rfl) ?_
  refine G.e (Eff.st (cs := [_, _, _, _, _, _, _]) (vs := [_]) (cs' := [_, _, _, _, _, _, _]) ty29) ?_
  rintro _ _ ⟨rfl, rfl⟩
  refine G.nil ?_
  exact V.end0 rfl (blk b [s0, s1, s2, s3, .slice ea (edges.take (edges.idxOf e)).length ec, .slice ad7 (rs ++ [(⟨ad2, cp3, (sortD ((List.drop (edges.idxOf e) edges).map normE))⟩ : RowG Pt)]).length cp8, I64 cd] 155 :: vc 38 (.slice ea (edges.take (edges.idxOf e)).length ec) (edges.take (edges.idxOf e)) :: vc 23 (.slice ad7 (rs ++ [(⟨ad2, cp3, (sortD ((List.drop (edges.idxOf e) edges).map normE))⟩ : RowG Pt)]).length cp8) (rs ++ [(⟨ad2, cp3, (sortD ((List.drop (edges.idxOf e) edges).map normE))⟩ : RowG Pt)]) :: (ownR 38 (rs ++ [(⟨ad2, cp3, (sortD ((List.drop (edges.idxOf e) edges).map normE))⟩ : RowG Pt)]) ++ I)) (Fit.trans (show Fit κ _ (vc 38 (.slice ea edges.length ec) edges :: blk b [s0, s1, s2, s3, .slice ea (edges.take (edges.idxOf e)).length ec, .slice ad7 (rs ++ [(⟨ad2, cp3, (sortD ((List.drop (edges.idxOf e) edges).map normE))⟩ : RowG Pt)]).length cp8, I64 cd] 155 :: vc 23 (.slice ad7 (rs ++ [(⟨ad2, cp3, (sortD ((List.drop (edges.idxOf e) edges).map normE))⟩ : RowG Pt)]).length cp8) (rs ++ [(⟨ad2, cp3, (sortD ((List.drop (edges.idxOf e) edges).map normE))⟩ : RowG Pt)]) :: vc 38 (.slice ad2 (sortD ((List.drop (edges.idxOf e) edges).map normE)).length cp3) (sortD ((List.drop (edges.idxOf e) edges).map normE)) :: (ownR 38 rs ++ I)) from Fit.s) (Fit.trans (Fit.takevc rfl) (Fit.trans (show Fit κ _ ([blk b [s0, s1, s2, s3, .slice ea (edges.take (edges.idxOf e)).length ec, .slice ad7 (rs ++ [(⟨ad2, cp3, (sortD ((List.drop (edges.idxOf e) edges).map normE))⟩ : RowG Pt)]).length cp8, I64 cd] 155, vc 38 (.slice ea (edges.take (edges.idxOf e)).length ec) (edges.take (edges.idxOf e)), vc 23 (.slice ad7 (rs ++ [(⟨ad2, cp3, (sortD ((List.drop (edges.idxOf e) edges).map normE))⟩ : RowG Pt)]).length cp8) (rs ++ [(⟨ad2, cp3, (sortD ((List.drop (edges.idxOf e) edges).map normE))⟩ : RowG Pt)])] ++ vc 38 (.slice ad2 (sortD ((List.drop (edges.idxOf e) edges).map normE)).length cp3) (sortD ((List.drop (edges.idxOf e) edges).map normE)) :: (ownR 38 rs ++ I)) from Fit.s) (Fit.ownR_snoc (r := (⟨ad2, cp3, (sortD ((List.drop (edges.idxOf e) edges).map normE))⟩ : RowG Pt)))))) ⟨ad7, cp8, (⟨ad2, cp3, (sortD ((List.drop (edges.idxOf e) edges).map normE))⟩ : RowG Pt), rfl, rfl, rfl⟩

end Go.Sl
namespace Go.Sl
open Go.Proofs
set_option linter.unusedVariables false
set_option linter.unusedSimpArgs false
set_option maxRecDepth 4000
theorem Fit.into {κ : Ctx} {A R B I : List Item} : Fit κ (A ++ R ++ (B ++ I)) (A ++ (B ++ (R ++ I))) := by
  refine Fit.perm ?_
  rw [List.append_assoc]
  refine List.Perm.append_left A ?_
  rw [← List.append_assoc, ← List.append_assoc]
  exact List.Perm.append_right I List.perm_append_comm
theorem Fit.outof {κ : Ctx} {A R B I : List Item} : Fit κ (A ++ (B ++ (R ++ I))) (A ++ R ++ (B ++ I)) := by
  refine Fit.perm ?_
  rw [List.append_assoc]
  refine List.Perm.append_left A ?_
  rw [← List.append_assoc, ← List.append_assoc]
  exact List.Perm.append_right I List.perm_append_comm

theorem top_snoc {w : List Vis} {t : Vis} : at_ (w ++ [t]) ((((w ++ [t]).length : Nat) : Int) - 1) = t := by
  rw [show (((w ++ [t]).length : Nat) : Int) - 1 = (w.length : Int) by simp]; exact at_last w t

set_option maxHeartbeats 4000000 in
theorem SRun_ok {κ : Ctx} {I : List Item} {b : Nat} {ra na qa wa ea oa : Option Addr} {rc nc qc wc ec oc : Nat} {rows : List (BitVec 64)} {S : Srch} {rs : List (RowG Pt)} {root : Int} (hok : DfsOk rows S) (hS : S.way = []) (hroot : 0 ≤ root ∧ root < rows.length) (h0 : at_ S.num root = 0) (hrs : rs.map RowG.xs = S.out) {M : Nat} (hM : M ≤ 90000) (hb0 : S.edges.length + mea S ≤ M ∧ rs.length + mea S ≤ M) (hT : TabRd κ I 0 tzCells) :
    CallS Tryd.prog κ 120 [.pointer (some ⟨b, 0, none⟩), I64 (root)] (blk b [.slice ra rows.length rc, .slice na S.num.length nc, .slice qa S.low.length qc, .slice wa S.way.length wc, .slice ea S.edges.length ec, .slice oa rs.length oc, I64 (S.cd)] 155 :: vc 99 (.slice ra rows.length rc) (rows) :: vc 3 (.slice na S.num.length nc) (S.num) :: vc 3 (.slice qa S.low.length qc) (S.low) :: vc 183 (.slice wa S.way.length wc) (S.way) :: vc 38 (.slice ea S.edges.length ec) (S.edges) :: vc 23 (.slice oa rs.length oc) (rs) :: (ownR 38 rs ++ I)) (fun r J => ∃ T wa' wc' ea' ec' oa' oc' rs', r = .tuple #[] ∧ (EndsAt rows (S.enter rows root (-1)) T ∧ DfsOk rows T ∧ rs'.map RowG.xs = T.out ∧ T.edges.length + mea T ≤ M ∧ rs'.length + mea T ≤ M) ∧ J = blk b [.slice ra rows.length rc, .slice na T.num.length nc, .slice qa T.low.length qc, .slice wa' T.way.length wc', .slice ea' T.edges.length ec', .slice oa' rs'.length oc', I64 (T.cd)] 155 :: vc 99 (.slice ra rows.length rc) (rows) :: vc 3 (.slice na T.num.length nc) (T.num) :: vc 3 (.slice qa T.low.length qc) (T.low) :: vc 183 (.slice wa' T.way.length wc') (T.way) :: vc 38 (.slice ea' T.edges.length ec') (T.edges) :: vc 23 (.slice oa' rs'.length oc') (rs') :: (ownR 38 rs' ++ I)) := by
 have hnl0 := hok.nl
 have hll0 := hok.ll
 have hcd0 := hok.cd_le
 have hw0 : S.way.length = 0 := by rw [hS]; rfl
 refine CallS.enter (L := [(0, .pointer (some ⟨b, 0, none⟩)), (1, I64 (root))]) Tryd.func120 rfl rfl rfl rfl ?_
 refine W.scope (σ := Srch × (Option Addr) × Nat × (Option Addr) × Nat × (Option Addr) × Nat × (List (RowG Pt))) (fun s => ([(0, .pointer (some ⟨b, 0, none⟩))] : Env)) (fun s => blk b [.slice ra rows.length rc, .slice na s.1.num.length nc, .slice qa s.1.low.length qc, .slice s.2.1 s.1.way.length s.2.2.1, .slice s.2.2.2.1 s.1.edges.length s.2.2.2.2.1, .slice s.2.2.2.2.2.1 s.2.2.2.2.2.2.2.length s.2.2.2.2.2.2.1, I64 (s.1.cd)] 155 :: vc 99 (.slice ra rows.length rc) (rows) :: vc 3 (.slice na s.1.num.length nc) (s.1.num) :: vc 3 (.slice qa s.1.low.length qc) (s.1.low) :: vc 183 (.slice s.2.1 s.1.way.length s.2.2.1) (s.1.way) :: vc 38 (.slice s.2.2.2.1 s.1.edges.length s.2.2.2.2.1) (s.1.edges) :: vc 23 (.slice s.2.2.2.2.2.1 s.2.2.2.2.2.2.2.length s.2.2.2.2.2.2.1) (s.2.2.2.2.2.2.2) :: (ownR 38 s.2.2.2.2.2.2.2 ++ I)) (fun s => (Gone rows (S.enter rows root (-1)) s.1) ∧ (DfsOk rows s.1) ∧ (s.1.way ≠ []) ∧ (s.2.2.2.2.2.2.2.map RowG.xs = s.1.out) ∧ (s.1.edges.length + mea s.1 ≤ M ∧ s.2.2.2.2.2.2.2.length + mea s.1 ≤ M)) (fun s => mea s.1) rfl ?_ ?_
 ·refine W.region ?_
  refine G.r (Runs.move rfl) ?_
  refine G.r (Runs.move rfl) ?_
  refine G.e (Eff.call call148 rfl rfl (CallS.fit (show Fit κ _ (blk b [.slice ra rows.length rc, .slice na S.num.length nc, .slice qa S.low.length qc, .slice wa S.way.length wc, .slice ea S.edges.length ec, .slice oa rs.length oc, I64 (S.cd)] 155 :: vc 99 (.slice ra rows.length rc) (rows) :: vc 3 (.slice na S.num.length nc) (S.num) :: vc 3 (.slice qa S.low.length qc) (S.low) :: vc 183 (.slice wa S.way.length wc) (S.way) :: vc 38 (.slice ea S.edges.length ec) (S.edges) :: vc 23 (.slice oa rs.length oc) (rs) :: (ownR 38 rs ++ I)) from Fit.s) (SEnter_ok root (-1) (by omega) (by omega) (by omega) (by omega) (by omega)))) ?_
  rintro _ _ ⟨_, _, ⟨wa1, wc2, rfl, rfl⟩, rfl, rfl⟩
  show G Tryd.prog κ _ _ _ _ ([(10, .tuple #[]), (9, I64 (root)), (8, .pointer (some ⟨b, 0, none⟩)), (0, .pointer (some ⟨b, 0, none⟩)), (1, I64 (root))] : Env) (blk b [.slice ra rows.length rc, .slice na (List.set S.num root.toNat (S.cd + 1)).length nc, .slice qa (List.set S.low root.toNat (S.cd + 1)).length qc, .slice wa1 (S.way ++ [(⟨root, (-1), at_ rows root⟩ : Vis)]).length wc2, .slice ea S.edges.length ec, .slice oa rs.length oc, I64 (S.cd + 1)] 155 :: vc 99 (.slice ra rows.length rc) (rows) :: vc 3 (.slice na (List.set S.num root.toNat (S.cd + 1)).length nc) (List.set S.num root.toNat (S.cd + 1)) :: vc 3 (.slice qa (List.set S.low root.toNat (S.cd + 1)).length qc) (List.set S.low root.toNat (S.cd + 1)) :: vc 183 (.slice wa1 (S.way ++ [(⟨root, (-1), at_ rows root⟩ : Vis)]).length wc2) (S.way ++ [(⟨root, (-1), at_ rows root⟩ : Vis)]) :: vc 38 (.slice ea S.edges.length ec) (S.edges) :: vc 23 (.slice oa rs.length oc) (rs) :: (ownR 38 rs ++ I))
  refine G.nil ?_
  exact V.mid (((S.enter rows root (-1))), (wa1), (wc2), (ea), (ec), (oa), (oc), (rs)) (show (Gone rows (S.enter rows root (-1)) ((S.enter rows root (-1)) : Srch)) ∧ (DfsOk rows ((S.enter rows root (-1)) : Srch)) ∧ (((S.enter rows root (-1)) : Srch).way ≠ []) ∧ ((rs : List (RowG Pt)).map RowG.xs = ((S.enter rows root (-1)) : Srch).out) ∧ (((S.enter rows root (-1)) : Srch).edges.length + mea ((S.enter rows root (-1)) : Srch) ≤ M ∧ (rs : List (RowG Pt)).length + mea ((S.enter rows root (-1)) : Srch) ≤ M) from ⟨Gone.start, (hok.start hS hroot h0), (by simp [Srch.enter]), hrs, (by have := hok.mea_start2 hS root (-1) hroot h0; exact ⟨by show S.edges.length + _ ≤ _; omega, by omega⟩)⟩) (Sub.cons rfl Sub.nil) (show Fit κ _ (blk b [.slice ra rows.length rc, .slice na ((S.enter rows root (-1))).num.length nc, .slice qa ((S.enter rows root (-1))).low.length qc, .slice (wa1) ((S.enter rows root (-1))).way.length (wc2), .slice (ea) ((S.enter rows root (-1))).edges.length (ec), .slice (oa) (rs).length (oc), I64 (((S.enter rows root (-1))).cd)] 155 :: vc 99 (.slice ra rows.length rc) (rows) :: vc 3 (.slice na ((S.enter rows root (-1))).num.length nc) (((S.enter rows root (-1))).num) :: vc 3 (.slice qa ((S.enter rows root (-1))).low.length qc) (((S.enter rows root (-1))).low) :: vc 183 (.slice (wa1) ((S.enter rows root (-1))).way.length (wc2)) (((S.enter rows root (-1))).way) :: vc 38 (.slice (ea) ((S.enter rows root (-1))).edges.length (ec)) (((S.enter rows root (-1))).edges) :: vc 23 (.slice (oa) (rs).length (oc)) ((rs)) :: (ownR 38 (rs) ++ I)) from Fit.s)
 ·rintro ⟨S1, wa1, wc1, ea1, ec1, oa1, oc1, rs1⟩ hp
  obtain ⟨hgo, hok1, hne, hrs1, hbd⟩ : (Gone rows (S.enter rows root (-1)) S1) ∧ (DfsOk rows S1) ∧ (S1.way ≠ []) ∧ (rs1.map RowG.xs = S1.out) ∧ (S1.edges.length + mea S1 ≤ M ∧ rs1.length + mea S1 ≤ M) := hp
  show W Tryd.prog κ 187 _ _ ([(0, .pointer (some ⟨b, 0, none⟩))] : Env) (blk b [.slice ra rows.length rc, .slice na S1.num.length nc, .slice qa S1.low.length qc, .slice wa1 S1.way.length wc1, .slice ea1 S1.edges.length ec1, .slice oa1 rs1.length oc1, I64 (S1.cd)] 155 :: vc 99 (.slice ra rows.length rc) (rows) :: vc 3 (.slice na S1.num.length nc) (S1.num) :: vc 3 (.slice qa S1.low.length qc) (S1.low) :: vc 183 (.slice wa1 S1.way.length wc1) (S1.way) :: vc 38 (.slice ea1 S1.edges.length ec1) (S1.edges) :: vc 23 (.slice oa1 rs1.length oc1) (rs1) :: (ownR 38 rs1 ++ I))
  refine W.pull (p := 0 < S1.way.length → wa1 ≠ none) (vc.isSome (by repeat (first | exact List.mem_cons_self | apply List.mem_cons_of_mem))) fun hsw => ?_
  obtain ⟨t, ht⟩ : ∃ t, at_ S1.way ((((S1.way.length : Nat) : Int)) - 1) = t := ⟨_, rfl⟩
  have hwe : S1.way = S1.ini ++ [t] := by rw [← ht]; exact Srch.way_eq hne
  have htm : t ∈ S1.way := by rw [hwe]; exact List.mem_append_right _ List.mem_cons_self
  have hwt := hok1.way t htm
  have hst : stepF rows S1 = stepT rows S1 S1.ini t := by unfold stepF; rw [show S1.top = t from ht]
  have hwl : 0 < S1.way.length := List.length_pos_iff.2 hne
  have hnl := hok1.nl
  have hll := hok1.ll
  have hcd := hok1.cd_le
  have hwm := way_le_mea S1
  have hbit : t.left ≠ 0#64 → 0 ≤ tzB t.left ∧ tzB t.left < rows.length := hok1.bit htm
  refine W.seq ?_
  refine W.drawn mixed ?_
  refine A.hold (blk b [.slice ra rows.length rc, .slice na S1.num.length nc, .slice qa S1.low.length qc, .slice wa1 S1.way.length wc1, .slice ea1 S1.edges.length ec1, .slice oa1 rs1.length oc1, I64 (S1.cd)] 155 :: vc 99 (.slice ra rows.length rc) (rows) :: vc 3 (.slice na S1.num.length nc) (S1.num) :: vc 3 (.slice qa S1.low.length qc) (S1.low) :: vc 183 (.slice wa1 S1.way.length wc1) (S1.way) :: vc 38 (.slice ea1 S1.edges.length ec1) (S1.edges) :: vc 23 (.slice oa1 rs1.length oc1) (rs1) :: (ownR 38 rs1 ++ I)) 12 ?_
  refine D.r 0 rfl (Runs.move rfl) ?_ (hJ := Fit.sub)
  refine D.r 1 rfl (Runs.nilCheck rfl) ?_ (hJ := Fit.sub)
  refine D.r 2 rfl (Runs.fieldAddr fld155_3 rfl) ?_ (hJ := Fit.sub)
  refine D.r 3 rfl (Runs.ld ty153) ?_ (hJ := Fit.sub)
  refine D.r 4 rfl (Runs.move rfl) ?_ (hJ := Fit.sub)
  refine D.r 5 rfl (Runs.nilCheck rfl) ?_ (hJ := Fit.sub)
  refine D.r 6 rfl (Runs.fieldAddr fld155_3 rfl) ?_ (hJ := Fit.sub)
  refine D.r 7 rfl (Runs.ld ty153) ?_ (hJ := Fit.sub)
  refine D.r 8 rfl (Runs.lens Tryd.underlying153 rfl) ?_ (hJ := Fit.sub)
  refine D.r 9 rfl (Runs.sub rfl rfl (by unfold InR; omega)) ?_ (hJ := Fit.sub)
  refine D.r 10 rfl (Runs.idx (α := Vis) (xs := S1.way) Tryd.underlying153 ty183 rfl rfl Sl.o (by omega) (by first | omega | (simp only [List.length_set]; omega))) ?_ (hJ := Fit.sub)
  refine D.r 11 rfl (Runs.assign rfl) ?_ (hJ := Fit.sub)
  refine D.done (by kernel_rfl) ?_
  refine V.then ?_
  refine W.sr ?_
  refine G.r (Runs.move rfl) ?_
  refine G.r (Runs.nilE rfl (hsw hwl)) ?_
  refine G.r (Runs.fld (α := Vis) (xs := S1.way) fld183_0 rfl Sl.o (by first | omega | (simp only [List.length_set]; omega))) ?_
  refine G.r (Runs.cast (congrArg (fun x : Vis => I64 x.node) ht) (Runs.getf (α := Vis) (xs := S1.way) (u := I64 ((at_ S1.way (((S1.way.length : Nat) : Int) - 1)).node)) ty3 rfl Sl.o (by omega) (by first | omega | (simp only [List.length_set]; omega)) rfl)) ?_
  refine G.r (Runs.assign rfl) ?_
  refine G.nt ?_
  refine W.sub (L' := [(5, _), (4, _), (0, _)]) (Sub.cons rfl (Sub.cons rfl (Sub.cons rfl Sub.nil))) ?_
  refine W.seq ?_
  refine W.sr ?_
  refine G.r (Runs.move rfl) ?_
  refine G.r (Runs.nilE rfl (hsw hwl)) ?_
  refine G.r (Runs.fld (α := Vis) (xs := S1.way) fld183_2 rfl Sl.o (by first | omega | (simp only [List.length_set]; omega))) ?_
  refine G.r (Runs.cast (congrArg (fun x : Vis => U64 x.left) ht) (Runs.getf (α := Vis) (xs := S1.way) (u := U64 ((at_ S1.way (((S1.way.length : Nat) : Int) - 1)).left)) ty99 rfl Sl.o (by omega) (by first | omega | (simp only [List.length_set]; omega)) rfl)) ?_
  refine G.r (Runs.neB (a := t.left) (b := 0#64) rfl rfl) ?_
  refine G.nt ?_
  refine W.ite rfl (fun c30 => ?_) (fun c30 => ?_)
  ·refine W.sr ?_
   refine G.r (Runs.move rfl) ?_
   refine G.r (Runs.nilE rfl (hsw hwl)) ?_
   refine G.r (Runs.fld (α := Vis) (xs := S1.way) fld183_2 rfl Sl.o (by first | omega | (simp only [List.length_set]; omega))) ?_
   refine G.r (Runs.cast (congrArg (fun x : Vis => U64 x.left) ht) (Runs.getf (α := Vis) (xs := S1.way) (u := U64 ((at_ S1.way (((S1.way.length : Nat) : Int) - 1)).left)) ty99 rfl Sl.o (by omega) (by first | omega | (simp only [List.length_set]; omega)) rfl)) ?_
   refine G.e (Eff.call call125 rfl rfl (Least_ok t.left (TabRd.fit hT Fit.m))) ?_
   rintro _ _ ⟨_, _, ⟨rfl, rfl⟩, rfl, rfl⟩
   refine G.r (Runs.assign rfl) ?_
   have hbit2 := hbit c30
   refine G.nt ?_
   refine W.sub (L' := [(6, _), (5, _), (4, _), (0, _)]) (Sub.cons rfl (Sub.cons rfl (Sub.cons rfl (Sub.cons rfl Sub.nil)))) ?_
   refine W.seq ?_
   refine W.drawn mixed ?_
   refine A.hold (blk b [.slice ra rows.length rc, .slice na S1.num.length nc, .slice qa S1.low.length qc, .slice wa1 S1.way.length wc1, .slice ea1 S1.edges.length ec1, .slice oa1 rs1.length oc1, I64 (S1.cd)] 155 :: vc 99 (.slice ra rows.length rc) (rows) :: vc 3 (.slice na S1.num.length nc) (S1.num) :: vc 3 (.slice qa S1.low.length qc) (S1.low) :: vc 183 (.slice wa1 S1.way.length wc1) (S1.way) :: vc 38 (.slice ea1 S1.edges.length ec1) (S1.edges) :: vc 23 (.slice oa1 rs1.length oc1) (rs1) :: (ownR 38 rs1 ++ I)) 12 ?_
   refine D.r 0 rfl (Runs.move rfl) ?_ (hJ := Fit.sub)
   refine D.r 1 rfl (Runs.nilE rfl (hsw hwl)) ?_ (hJ := Fit.sub)
   refine D.r 2 rfl (Runs.fld (α := Vis) (xs := S1.way) fld183_2 rfl Sl.o (by first | omega | (simp only [List.length_set]; omega))) ?_ (hJ := Fit.sub)
   refine D.r 3 rfl (Runs.cast (congrArg (fun x : Vis => U64 x.left) ht) (Runs.getf (α := Vis) (xs := S1.way) (u := U64 ((at_ S1.way (((S1.way.length : Nat) : Int) - 1)).left)) ty99 rfl Sl.o (by omega) (by first | omega | (simp only [List.length_set]; omega)) rfl)) ?_ (hJ := Fit.sub)
   refine D.r 4 rfl (Runs.move rfl) ?_ (hJ := Fit.sub)
   refine D.r 5 rfl (Runs.nilE rfl (hsw hwl)) ?_ (hJ := Fit.sub)
   refine D.r 6 rfl (Runs.fld (α := Vis) (xs := S1.way) fld183_2 rfl Sl.o (by first | omega | (simp only [List.length_set]; omega))) ?_ (hJ := Fit.sub)
   refine D.r 7 rfl (Runs.cast (congrArg (fun x : Vis => U64 x.left) ht) (Runs.getf (α := Vis) (xs := S1.way) (u := U64 ((at_ S1.way (((S1.way.length : Nat) : Int) - 1)).left)) ty99 rfl Sl.o (by omega) (by first | omega | (simp only [List.length_set]; omega)) rfl)) ?_ (hJ := Fit.sub)
   refine D.r 8 rfl (Runs.subB (a := t.left) (b := 1#64) rfl rfl) ?_ (hJ := Fit.sub)
   refine D.r 9 rfl (Runs.andB (a := t.left) (b := t.left - (1#64)) rfl rfl) ?_ (hJ := Fit.sub)
   refine D.step (rs := [10]) (by kernel_rfl) rfl rfl (all1 ?_)
   refine Step.read rfl (Wanted.plain rfl) rfl rfl (Runs.nilE rfl (hsw hwl)) Fit.sub ?_
   refine D.r 11 rfl (Runs.fld (α := Vis) (xs := S1.way) fld183_2 rfl Sl.o (by first | omega | (simp only [List.length_set]; omega))) ?_ (hJ := Fit.sub)
   refine D.stop (by kernel_rfl) ?_
   refine A.eff (i := 12) (by kernel_rfl) rfl (Wanted.plain rfl) (Eff.setf (α := Vis) (xs := S1.way) (e := 183) (new := { at_ S1.way (((S1.way.length : Nat) : Int) - 1) with left := t.left &&& (t.left - (1#64)) }) (j := 2) ty99 rfl rfl rfl rfl (by decide) rfl (by omega) (by first | omega | (simp only [List.length_set]; omega)) (by repeat (first | exact At.head _ _ _ | apply At.tail))) ?_
   rintro _ _ ⟨rfl, rfl⟩
   refine A.done (by kernel_rfl) ?_
   refine V.then ?_
   refine W.sub (L' := [(6, _), (5, _), (4, _), (0, _)]) (Sub.cons rfl (Sub.cons rfl (Sub.cons rfl (Sub.cons rfl Sub.nil)))) ?_
   refine W.seq ?_
   refine W.sr ?_
   refine G.r (Runs.move rfl) ?_
   obtain ⟨W2, hW2⟩ : ∃ W2 : List Vis, List.set S1.way (((S1.way.length : Nat) : Int) - 1).toNat ({ at_ S1.way (((S1.way.length : Nat) : Int) - 1) with left := t.left &&& (t.left - (1#64)) }) = W2 := ⟨_, rfl⟩
   rw [hW2]
   have hWl : S1.way.length = W2.length := by rw [← hW2, List.length_set]
   have hWe : W2 = S1.ini ++ [({ t with left := t.left &&& (t.left - 1#64) } : Vis)] := by rw [← hW2, ht, show ((((S1.way.length : Nat) : Int)) - 1).toNat = S1.way.length - 1 by omega]; exact way_set hne
   have ht2 : at_ W2 ((((W2.length : Nat) : Int)) - 1) = ({ t with left := t.left &&& (t.left - 1#64) } : Vis) := by rw [hWe]; exact top_snoc
   rw [hWl]
   refine G.r (Runs.move rfl) ?_
   refine G.r (Runs.nilE rfl (hsw hwl)) ?_
   refine G.r (Runs.fld (α := Vis) (xs := W2) fld183_1 rfl Sl.o (by first | omega | (simp only [List.length_set]; omega))) ?_
   refine G.r (Runs.cast (congrArg (fun x : Vis => I64 x.src) ht2) (Runs.getf (α := Vis) (xs := W2) (u := I64 ((at_ W2 (((W2.length : Nat) : Int) - 1)).src)) ty3 rfl Sl.o (by omega) (by first | omega | (simp only [List.length_set]; omega)) rfl)) ?_
   refine G.r (Runs.eql rfl rfl) ?_
   refine G.nt ?_
   refine W.ite rfl (fun c53 => ?_) (fun c53 => ?_)
   ·refine W.goto ?_
    refine V.then_goto ?_
    refine V.then_goto ?_
    have hst2 : stepF rows S1 = (⟨S1.num, S1.low, W2, S1.edges, S1.out, S1.cd⟩ : Srch) := by rw [hst]; unfold stepT; rw [if_pos c30, if_pos c53]; first | (rw [hWe]; done) | (rw [hWe]; rfl)
    have hgo2 := hgo.step hne
    have hok2 := hok1.step hne
    have hle2 := stepT_len rows S1 S1.ini t
    rw [← hst] at hle2
    rw [hst2] at hgo2 hok2 hle2
    dsimp only at hle2
    have hm2 := hok2.2
    exact V.jump (((⟨S1.num, S1.low, W2, S1.edges, S1.out, S1.cd⟩ : Srch)), (wa1), (wc1), (ea1), (ec1), (oa1), (oc1), (rs1)) (show (Gone rows (S.enter rows root (-1)) ((⟨S1.num, S1.low, W2, S1.edges, S1.out, S1.cd⟩ : Srch) : Srch)) ∧ (DfsOk rows ((⟨S1.num, S1.low, W2, S1.edges, S1.out, S1.cd⟩ : Srch) : Srch)) ∧ (((⟨S1.num, S1.low, W2, S1.edges, S1.out, S1.cd⟩ : Srch) : Srch).way ≠ []) ∧ ((rs1 : List (RowG Pt)).map RowG.xs = ((⟨S1.num, S1.low, W2, S1.edges, S1.out, S1.cd⟩ : Srch) : Srch).out) ∧ (((⟨S1.num, S1.low, W2, S1.edges, S1.out, S1.cd⟩ : Srch) : Srch).edges.length + mea ((⟨S1.num, S1.low, W2, S1.edges, S1.out, S1.cd⟩ : Srch) : Srch) ≤ M ∧ (rs1 : List (RowG Pt)).length + mea ((⟨S1.num, S1.low, W2, S1.edges, S1.out, S1.cd⟩ : Srch) : Srch) ≤ M) from ⟨hgo2, hok2.1, (by first | (rw [hWe]; simp; done) | (simp; done) | exact hok1.more hwe (by omega) | assumption), hrs1, (by dsimp only; first | omega | (simp only [List.length_append, List.length_cons, List.length_nil]; omega))⟩) (show mea ((⟨S1.num, S1.low, W2, S1.edges, S1.out, S1.cd⟩ : Srch) : Srch) < mea S1 from hm2) (Sub.cons rfl Sub.nil) (show Fit κ _ (blk b [.slice ra rows.length rc, .slice na ((⟨S1.num, S1.low, W2, S1.edges, S1.out, S1.cd⟩ : Srch)).num.length nc, .slice qa ((⟨S1.num, S1.low, W2, S1.edges, S1.out, S1.cd⟩ : Srch)).low.length qc, .slice (wa1) ((⟨S1.num, S1.low, W2, S1.edges, S1.out, S1.cd⟩ : Srch)).way.length (wc1), .slice (ea1) ((⟨S1.num, S1.low, W2, S1.edges, S1.out, S1.cd⟩ : Srch)).edges.length (ec1), .slice (oa1) (rs1).length (oc1), I64 (((⟨S1.num, S1.low, W2, S1.edges, S1.out, S1.cd⟩ : Srch)).cd)] 155 :: vc 99 (.slice ra rows.length rc) (rows) :: vc 3 (.slice na ((⟨S1.num, S1.low, W2, S1.edges, S1.out, S1.cd⟩ : Srch)).num.length nc) (((⟨S1.num, S1.low, W2, S1.edges, S1.out, S1.cd⟩ : Srch)).num) :: vc 3 (.slice qa ((⟨S1.num, S1.low, W2, S1.edges, S1.out, S1.cd⟩ : Srch)).low.length qc) (((⟨S1.num, S1.low, W2, S1.edges, S1.out, S1.cd⟩ : Srch)).low) :: vc 183 (.slice (wa1) ((⟨S1.num, S1.low, W2, S1.edges, S1.out, S1.cd⟩ : Srch)).way.length (wc1)) (((⟨S1.num, S1.low, W2, S1.edges, S1.out, S1.cd⟩ : Srch)).way) :: vc 38 (.slice (ea1) ((⟨S1.num, S1.low, W2, S1.edges, S1.out, S1.cd⟩ : Srch)).edges.length (ec1)) (((⟨S1.num, S1.low, W2, S1.edges, S1.out, S1.cd⟩ : Srch)).edges) :: vc 23 (.slice (oa1) (rs1).length (oc1)) ((rs1)) :: (ownR 38 (rs1) ++ I)) from Fit.s)
   ·refine W.skip ?_
    refine V.then ?_
    refine W.seq ?_
    refine W.sr ?_
    refine G.r (Runs.move rfl) ?_
    refine G.r (Runs.nilCheck rfl) ?_
    refine G.r (Runs.fieldAddr fld155_1 rfl) ?_
    refine G.r (Runs.ld ty22) ?_
    refine G.r (Runs.move rfl) ?_
    refine G.r (Runs.idx (α := Int) (xs := S1.num) Tryd.underlying22 ty3 rfl rfl Sl.o (by omega) (by first | omega | (simp only [List.length_set]; omega))) ?_
    refine G.r (Runs.get (xs := S1.num) ty3 rfl Sl.o (by omega) (by first | omega | (simp only [List.length_set]; omega))) ?_
    refine G.r (Runs.eql rfl rfl) ?_
    refine G.nt ?_
    refine W.sub (L' := [(61, _), (6, _), (5, _), (0, _)]) (Sub.cons rfl (Sub.cons rfl (Sub.cons rfl (Sub.cons rfl Sub.nil)))) ?_
    refine W.ite rfl (fun c61 => ?_) (fun c61 => ?_)
    ·refine W.sr ?_
     refine G.r (Runs.move rfl) ?_
     refine G.r (Runs.move rfl) ?_
     refine G.r (Runs.nilCheck rfl) ?_
     refine G.r (Runs.fieldAddr fld155_4 rfl) ?_
     refine G.r (Runs.ld ty23) ?_
     refine G.r (Runs.move rfl) ?_
     refine G.r (Runs.move rfl) ?_
     refine G.r (Runs.build (cells := [_, _]) ty38 Tryd.underlying38 pl38 rfl rfl) ?_
     refine G.e (Eff.bs (α := Pt) (cs := [_, _]) (xs := [⟨t.node, tzB t.left⟩]) Tryd.underlying23 ty38 rfl rfl (by decide) (by decide) rfl rfl rfl rfl) ?_
     rintro _ _ ⟨ad3, rfl, rfl⟩
     refine G.e (Eff.app (α := Pt) (e := 38) (xs := S1.edges) (ys := ([⟨t.node, tzB t.left⟩] : List Pt)) Tryd.underlying23 ty38 rfl rfl rfl (by repeat (first | exact List.mem_cons_self | apply List.mem_cons_of_mem)) Sl.o (by simp only [List.length_cons, List.length_nil]; omega) (by decide) rfl (fun _ _ => (by repeat (first | exact At.head _ _ _ | apply At.tail)))) ?_
     rintro _ _ ⟨ad4, cp5, rfl, rfl⟩
     refine G.r (Runs.nilCheck rfl) ?_
     refine G.r (Runs.fieldAddr fld155_4 rfl) ?_
     refine G.e (Eff.st (cs := [_, _, _, _, _, _, _]) (vs := [_]) (cs' := [_, _, _, _, _, _, _]) ty23) ?_
     rintro _ _ ⟨rfl, rfl⟩
     refine G.nt ?_
     refine W.sub (L' := [(6, _), (5, _), (0, _)]) (Sub.cons rfl (Sub.cons rfl (Sub.cons rfl Sub.nil))) ?_
     refine W.region ?_
     refine G.r (Runs.move rfl) ?_
     refine G.r (Runs.move rfl) ?_
     refine G.r (Runs.move rfl) ?_
     refine G.e (Eff.call call148 rfl rfl (CallS.fit (show Fit κ _ (blk b [.slice ra rows.length rc, .slice na S1.num.length nc, .slice qa S1.low.length qc, .slice wa1 W2.length wc1, .slice ad4 (S1.edges ++ ([⟨t.node, tzB t.left⟩] : List Pt)).length cp5, .slice oa1 rs1.length oc1, I64 (S1.cd)] 155 :: vc 99 (.slice ra rows.length rc) (rows) :: vc 3 (.slice na S1.num.length nc) (S1.num) :: vc 3 (.slice qa S1.low.length qc) (S1.low) :: vc 183 (.slice wa1 W2.length wc1) (W2) :: vc 38 (.slice ad3 1 1) (([⟨t.node, tzB t.left⟩] : List Pt)) :: vc 38 (.slice ad4 (S1.edges ++ ([⟨t.node, tzB t.left⟩] : List Pt)).length cp5) (S1.edges ++ ([⟨t.node, tzB t.left⟩] : List Pt)) :: vc 23 (.slice oa1 rs1.length oc1) (rs1) :: (ownR 38 rs1 ++ I)) from Fit.s) (SEnter_ok (tzB t.left) t.node (by omega) (by omega) (by omega) (by omega) (by omega)))) ?_
     rintro _ _ ⟨_, _, ⟨wa6, wc7, rfl, rfl⟩, rfl, rfl⟩
     show G Tryd.prog κ _ _ _ _ ([(77, .tuple #[]), (76, I64 (t.node)), (75, I64 (tzB t.left)), (74, .pointer (some ⟨b, 0, none⟩)), (6, I64 (tzB t.left)), (5, I64 (t.node)), (0, .pointer (some ⟨b, 0, none⟩))] : Env) (blk b [.slice ra rows.length rc, .slice na (List.set S1.num (tzB t.left).toNat (S1.cd + 1)).length nc, .slice qa (List.set S1.low (tzB t.left).toNat (S1.cd + 1)).length qc, .slice wa6 (W2 ++ [(⟨(tzB t.left), t.node, at_ rows (tzB t.left)⟩ : Vis)]).length wc7, .slice ad4 (S1.edges ++ ([⟨t.node, tzB t.left⟩] : List Pt)).length cp5, .slice oa1 rs1.length oc1, I64 (S1.cd + 1)] 155 :: vc 99 (.slice ra rows.length rc) (rows) :: vc 3 (.slice na (List.set S1.num (tzB t.left).toNat (S1.cd + 1)).length nc) (List.set S1.num (tzB t.left).toNat (S1.cd + 1)) :: vc 3 (.slice qa (List.set S1.low (tzB t.left).toNat (S1.cd + 1)).length qc) (List.set S1.low (tzB t.left).toNat (S1.cd + 1)) :: vc 183 (.slice wa6 (W2 ++ [(⟨(tzB t.left), t.node, at_ rows (tzB t.left)⟩ : Vis)]).length wc7) (W2 ++ [(⟨(tzB t.left), t.node, at_ rows (tzB t.left)⟩ : Vis)]) :: vc 38 (.slice ad3 1 1) (([⟨t.node, tzB t.left⟩] : List Pt)) :: vc 38 (.slice ad4 (S1.edges ++ ([⟨t.node, tzB t.left⟩] : List Pt)).length cp5) (S1.edges ++ ([⟨t.node, tzB t.left⟩] : List Pt)) :: vc 23 (.slice oa1 rs1.length oc1) (rs1) :: (ownR 38 rs1 ++ I))
     refine G.nt ?_
     refine W.goto ?_
     refine V.then_goto ?_
     have hst2 : stepF rows S1 = (⟨List.set S1.num (tzB t.left).toNat (S1.cd + 1), List.set S1.low (tzB t.left).toNat (S1.cd + 1), W2 ++ [(⟨(tzB t.left), t.node, at_ rows (tzB t.left)⟩ : Vis)], S1.edges ++ ([⟨t.node, tzB t.left⟩] : List Pt), S1.out, S1.cd + 1⟩ : Srch) := by rw [hst]; unfold stepT; rw [if_pos c30, if_neg c53, if_pos c61]; first | (rw [hWe]; done) | (rw [hWe]; rfl)
     have hgo2 := hgo.step hne
     have hok2 := hok1.step hne
     have hle2 := stepT_len rows S1 S1.ini t
     rw [← hst] at hle2
     rw [hst2] at hgo2 hok2 hle2
     dsimp only at hle2
     have hm2 := hok2.2
     exact V.jump (((⟨List.set S1.num (tzB t.left).toNat (S1.cd + 1), List.set S1.low (tzB t.left).toNat (S1.cd + 1), W2 ++ [(⟨(tzB t.left), t.node, at_ rows (tzB t.left)⟩ : Vis)], S1.edges ++ ([⟨t.node, tzB t.left⟩] : List Pt), S1.out, S1.cd + 1⟩ : Srch)), (wa6), (wc7), (ad4), (cp5), (oa1), (oc1), (rs1)) (show (Gone rows (S.enter rows root (-1)) ((⟨List.set S1.num (tzB t.left).toNat (S1.cd + 1), List.set S1.low (tzB t.left).toNat (S1.cd + 1), W2 ++ [(⟨(tzB t.left), t.node, at_ rows (tzB t.left)⟩ : Vis)], S1.edges ++ ([⟨t.node, tzB t.left⟩] : List Pt), S1.out, S1.cd + 1⟩ : Srch) : Srch)) ∧ (DfsOk rows ((⟨List.set S1.num (tzB t.left).toNat (S1.cd + 1), List.set S1.low (tzB t.left).toNat (S1.cd + 1), W2 ++ [(⟨(tzB t.left), t.node, at_ rows (tzB t.left)⟩ : Vis)], S1.edges ++ ([⟨t.node, tzB t.left⟩] : List Pt), S1.out, S1.cd + 1⟩ : Srch) : Srch)) ∧ (((⟨List.set S1.num (tzB t.left).toNat (S1.cd + 1), List.set S1.low (tzB t.left).toNat (S1.cd + 1), W2 ++ [(⟨(tzB t.left), t.node, at_ rows (tzB t.left)⟩ : Vis)], S1.edges ++ ([⟨t.node, tzB t.left⟩] : List Pt), S1.out, S1.cd + 1⟩ : Srch) : Srch).way ≠ []) ∧ ((rs1 : List (RowG Pt)).map RowG.xs = ((⟨List.set S1.num (tzB t.left).toNat (S1.cd + 1), List.set S1.low (tzB t.left).toNat (S1.cd + 1), W2 ++ [(⟨(tzB t.left), t.node, at_ rows (tzB t.left)⟩ : Vis)], S1.edges ++ ([⟨t.node, tzB t.left⟩] : List Pt), S1.out, S1.cd + 1⟩ : Srch) : Srch).out) ∧ (((⟨List.set S1.num (tzB t.left).toNat (S1.cd + 1), List.set S1.low (tzB t.left).toNat (S1.cd + 1), W2 ++ [(⟨(tzB t.left), t.node, at_ rows (tzB t.left)⟩ : Vis)], S1.edges ++ ([⟨t.node, tzB t.left⟩] : List Pt), S1.out, S1.cd + 1⟩ : Srch) : Srch).edges.length + mea ((⟨List.set S1.num (tzB t.left).toNat (S1.cd + 1), List.set S1.low (tzB t.left).toNat (S1.cd + 1), W2 ++ [(⟨(tzB t.left), t.node, at_ rows (tzB t.left)⟩ : Vis)], S1.edges ++ ([⟨t.node, tzB t.left⟩] : List Pt), S1.out, S1.cd + 1⟩ : Srch) : Srch) ≤ M ∧ (rs1 : List (RowG Pt)).length + mea ((⟨List.set S1.num (tzB t.left).toNat (S1.cd + 1), List.set S1.low (tzB t.left).toNat (S1.cd + 1), W2 ++ [(⟨(tzB t.left), t.node, at_ rows (tzB t.left)⟩ : Vis)], S1.edges ++ ([⟨t.node, tzB t.left⟩] : List Pt), S1.out, S1.cd + 1⟩ : Srch) : Srch) ≤ M) from ⟨hgo2, hok2.1, (by first | (rw [hWe]; simp; done) | (simp; done) | exact hok1.more hwe (by omega) | assumption), hrs1, (by dsimp only; first | omega | (simp only [List.length_append, List.length_cons, List.length_nil]; omega))⟩) (show mea ((⟨List.set S1.num (tzB t.left).toNat (S1.cd + 1), List.set S1.low (tzB t.left).toNat (S1.cd + 1), W2 ++ [(⟨(tzB t.left), t.node, at_ rows (tzB t.left)⟩ : Vis)], S1.edges ++ ([⟨t.node, tzB t.left⟩] : List Pt), S1.out, S1.cd + 1⟩ : Srch) : Srch) < mea S1 from hm2) (Sub.cons rfl Sub.nil) (show Fit κ _ (blk b [.slice ra rows.length rc, .slice na ((⟨List.set S1.num (tzB t.left).toNat (S1.cd + 1), List.set S1.low (tzB t.left).toNat (S1.cd + 1), W2 ++ [(⟨(tzB t.left), t.node, at_ rows (tzB t.left)⟩ : Vis)], S1.edges ++ ([⟨t.node, tzB t.left⟩] : List Pt), S1.out, S1.cd + 1⟩ : Srch)).num.length nc, .slice qa ((⟨List.set S1.num (tzB t.left).toNat (S1.cd + 1), List.set S1.low (tzB t.left).toNat (S1.cd + 1), W2 ++ [(⟨(tzB t.left), t.node, at_ rows (tzB t.left)⟩ : Vis)], S1.edges ++ ([⟨t.node, tzB t.left⟩] : List Pt), S1.out, S1.cd + 1⟩ : Srch)).low.length qc, .slice (wa6) ((⟨List.set S1.num (tzB t.left).toNat (S1.cd + 1), List.set S1.low (tzB t.left).toNat (S1.cd + 1), W2 ++ [(⟨(tzB t.left), t.node, at_ rows (tzB t.left)⟩ : Vis)], S1.edges ++ ([⟨t.node, tzB t.left⟩] : List Pt), S1.out, S1.cd + 1⟩ : Srch)).way.length (wc7), .slice (ad4) ((⟨List.set S1.num (tzB t.left).toNat (S1.cd + 1), List.set S1.low (tzB t.left).toNat (S1.cd + 1), W2 ++ [(⟨(tzB t.left), t.node, at_ rows (tzB t.left)⟩ : Vis)], S1.edges ++ ([⟨t.node, tzB t.left⟩] : List Pt), S1.out, S1.cd + 1⟩ : Srch)).edges.length (cp5), .slice (oa1) (rs1).length (oc1), I64 (((⟨List.set S1.num (tzB t.left).toNat (S1.cd + 1), List.set S1.low (tzB t.left).toNat (S1.cd + 1), W2 ++ [(⟨(tzB t.left), t.node, at_ rows (tzB t.left)⟩ : Vis)], S1.edges ++ ([⟨t.node, tzB t.left⟩] : List Pt), S1.out, S1.cd + 1⟩ : Srch)).cd)] 155 :: vc 99 (.slice ra rows.length rc) (rows) :: vc 3 (.slice na ((⟨List.set S1.num (tzB t.left).toNat (S1.cd + 1), List.set S1.low (tzB t.left).toNat (S1.cd + 1), W2 ++ [(⟨(tzB t.left), t.node, at_ rows (tzB t.left)⟩ : Vis)], S1.edges ++ ([⟨t.node, tzB t.left⟩] : List Pt), S1.out, S1.cd + 1⟩ : Srch)).num.length nc) (((⟨List.set S1.num (tzB t.left).toNat (S1.cd + 1), List.set S1.low (tzB t.left).toNat (S1.cd + 1), W2 ++ [(⟨(tzB t.left), t.node, at_ rows (tzB t.left)⟩ : Vis)], S1.edges ++ ([⟨t.node, tzB t.left⟩] : List Pt), S1.out, S1.cd + 1⟩ : Srch)).num) :: vc 3 (.slice qa ((⟨List.set S1.num (tzB t.left).toNat (S1.cd + 1), List.set S1.low (tzB t.left).toNat (S1.cd + 1), W2 ++ [(⟨(tzB t.left), t.node, at_ rows (tzB t.left)⟩ : Vis)], S1.edges ++ ([⟨t.node, tzB t.left⟩] : List Pt), S1.out, S1.cd + 1⟩ : Srch)).low.length qc) (((⟨List.set S1.num (tzB t.left).toNat (S1.cd + 1), List.set S1.low (tzB t.left).toNat (S1.cd + 1), W2 ++ [(⟨(tzB t.left), t.node, at_ rows (tzB t.left)⟩ : Vis)], S1.edges ++ ([⟨t.node, tzB t.left⟩] : List Pt), S1.out, S1.cd + 1⟩ : Srch)).low) :: vc 183 (.slice (wa6) ((⟨List.set S1.num (tzB t.left).toNat (S1.cd + 1), List.set S1.low (tzB t.left).toNat (S1.cd + 1), W2 ++ [(⟨(tzB t.left), t.node, at_ rows (tzB t.left)⟩ : Vis)], S1.edges ++ ([⟨t.node, tzB t.left⟩] : List Pt), S1.out, S1.cd + 1⟩ : Srch)).way.length (wc7)) (((⟨List.set S1.num (tzB t.left).toNat (S1.cd + 1), List.set S1.low (tzB t.left).toNat (S1.cd + 1), W2 ++ [(⟨(tzB t.left), t.node, at_ rows (tzB t.left)⟩ : Vis)], S1.edges ++ ([⟨t.node, tzB t.left⟩] : List Pt), S1.out, S1.cd + 1⟩ : Srch)).way) :: vc 38 (.slice (ad4) ((⟨List.set S1.num (tzB t.left).toNat (S1.cd + 1), List.set S1.low (tzB t.left).toNat (S1.cd + 1), W2 ++ [(⟨(tzB t.left), t.node, at_ rows (tzB t.left)⟩ : Vis)], S1.edges ++ ([⟨t.node, tzB t.left⟩] : List Pt), S1.out, S1.cd + 1⟩ : Srch)).edges.length (cp5)) (((⟨List.set S1.num (tzB t.left).toNat (S1.cd + 1), List.set S1.low (tzB t.left).toNat (S1.cd + 1), W2 ++ [(⟨(tzB t.left), t.node, at_ rows (tzB t.left)⟩ : Vis)], S1.edges ++ ([⟨t.node, tzB t.left⟩] : List Pt), S1.out, S1.cd + 1⟩ : Srch)).edges) :: vc 23 (.slice (oa1) (rs1).length (oc1)) ((rs1)) :: (ownR 38 (rs1) ++ I)) from Fit.s)
    ·refine W.seq ?_
     refine W.drawn mixed ?_
     refine A.hold (blk b [.slice ra rows.length rc, .slice na S1.num.length nc, .slice qa S1.low.length qc, .slice wa1 W2.length wc1, .slice ea1 S1.edges.length ec1, .slice oa1 rs1.length oc1, I64 (S1.cd)] 155 :: vc 99 (.slice ra rows.length rc) (rows) :: vc 3 (.slice na S1.num.length nc) (S1.num) :: vc 3 (.slice qa S1.low.length qc) (S1.low) :: vc 183 (.slice wa1 W2.length wc1) (W2) :: vc 38 (.slice ea1 S1.edges.length ec1) (S1.edges) :: vc 23 (.slice oa1 rs1.length oc1) (rs1) :: (ownR 38 rs1 ++ I)) 15 ?_
     refine D.r 0 rfl (Runs.move rfl) ?_ (hJ := Fit.sub)
     refine D.r 1 rfl (Runs.nilCheck rfl) ?_ (hJ := Fit.sub)
     refine D.r 2 rfl (Runs.fieldAddr fld155_1 rfl) ?_ (hJ := Fit.sub)
     refine D.r 3 rfl (Runs.ld ty22) ?_ (hJ := Fit.sub)
     refine D.r 4 rfl (Runs.move rfl) ?_ (hJ := Fit.sub)
     refine D.r 5 rfl (Runs.idx (α := Int) (xs := S1.num) Tryd.underlying22 ty3 rfl rfl Sl.o (by omega) (by first | omega | (simp only [List.length_set]; omega))) ?_ (hJ := Fit.sub)
     refine D.r 6 rfl (Runs.get (xs := S1.num) ty3 rfl Sl.o (by omega) (by first | omega | (simp only [List.length_set]; omega))) ?_ (hJ := Fit.sub)
     refine D.r 7 rfl (Runs.move rfl) ?_ (hJ := Fit.sub)
     refine D.r 8 rfl (Runs.nilCheck rfl) ?_ (hJ := Fit.sub)
     refine D.r 9 rfl (Runs.fieldAddr fld155_1 rfl) ?_ (hJ := Fit.sub)
     refine D.r 10 rfl (Runs.ld ty22) ?_ (hJ := Fit.sub)
     refine D.r 11 rfl (Runs.move rfl) ?_ (hJ := Fit.sub)
     refine D.r 12 rfl (Runs.idx (α := Int) (xs := S1.num) Tryd.underlying22 ty3 rfl rfl Sl.o (by omega) (by first | omega | (simp only [List.length_set]; omega))) ?_ (hJ := Fit.sub)
     refine D.r 13 rfl (Runs.get (xs := S1.num) ty3 rfl Sl.o (by omega) (by first | omega | (simp only [List.length_set]; omega))) ?_ (hJ := Fit.sub)
     refine D.r 14 rfl (Runs.lss rfl rfl) ?_ (hJ := Fit.sub)
     refine D.done (by kernel_rfl) ?_
     refine V.then ?_
     refine W.sub (L' := [(92, _), (6, _), (5, _), (0, _)]) (Sub.cons rfl (Sub.cons rfl (Sub.cons rfl (Sub.cons rfl Sub.nil)))) ?_
     refine W.ite rfl (fun c92 => ?_) (fun c92 => ?_)
     ·refine W.sr ?_
      refine G.r (Runs.move rfl) ?_
      refine G.r (Runs.move rfl) ?_
      refine G.r (Runs.nilCheck rfl) ?_
      refine G.r (Runs.fieldAddr fld155_4 rfl) ?_
      refine G.r (Runs.ld ty23) ?_
      refine G.r (Runs.move rfl) ?_
      refine G.r (Runs.move rfl) ?_
      refine G.r (Runs.build (cells := [_, _]) ty38 Tryd.underlying38 pl38 rfl rfl) ?_
      refine G.e (Eff.bs (α := Pt) (cs := [_, _]) (xs := [⟨t.node, tzB t.left⟩]) Tryd.underlying23 ty38 rfl rfl (by decide) (by decide) rfl rfl rfl rfl) ?_
      rintro _ _ ⟨ad8, rfl, rfl⟩
      refine G.e (Eff.app (α := Pt) (e := 38) (xs := S1.edges) (ys := ([⟨t.node, tzB t.left⟩] : List Pt)) Tryd.underlying23 ty38 rfl rfl rfl (by repeat (first | exact List.mem_cons_self | apply List.mem_cons_of_mem)) Sl.o (by simp only [List.length_cons, List.length_nil]; omega) (by decide) rfl (fun _ _ => (by repeat (first | exact At.head _ _ _ | apply At.tail)))) ?_
      rintro _ _ ⟨ad9, cp10, rfl, rfl⟩
      refine G.r (Runs.nilCheck rfl) ?_
      refine G.r (Runs.fieldAddr fld155_4 rfl) ?_
      refine G.e (Eff.st (cs := [_, _, _, _, _, _, _]) (vs := [_]) (cs' := [_, _, _, _, _, _, _]) ty23) ?_
      rintro _ _ ⟨rfl, rfl⟩
      refine G.nt ?_
      refine W.sub (L' := [(6, _), (5, _), (0, _)]) (Sub.cons rfl (Sub.cons rfl (Sub.cons rfl Sub.nil))) ?_
      refine W.drawn mixed ?_
      refine A.hold (vc 38 (.slice ad8 1 1) (([⟨t.node, tzB t.left⟩] : List Pt)) :: blk b [.slice ra rows.length rc, .slice na S1.num.length nc, .slice qa S1.low.length qc, .slice wa1 W2.length wc1, .slice ad9 (S1.edges ++ ([⟨t.node, tzB t.left⟩] : List Pt)).length cp10, .slice oa1 rs1.length oc1, I64 (S1.cd)] 155 :: vc 99 (.slice ra rows.length rc) (rows) :: vc 3 (.slice na S1.num.length nc) (S1.num) :: vc 3 (.slice qa S1.low.length qc) (S1.low) :: vc 183 (.slice wa1 W2.length wc1) (W2) :: vc 38 (.slice ad9 (S1.edges ++ ([⟨t.node, tzB t.left⟩] : List Pt)).length cp10) (S1.edges ++ ([⟨t.node, tzB t.left⟩] : List Pt)) :: vc 23 (.slice oa1 rs1.length oc1) (rs1) :: (ownR 38 rs1 ++ I)) 21 ?_
      refine D.r 0 rfl (Runs.move rfl) ?_ (hJ := Fit.sub)
      refine D.r 1 rfl (Runs.nilCheck rfl) ?_ (hJ := Fit.sub)
      refine D.r 2 rfl (Runs.fieldAddr fld155_2 rfl) ?_ (hJ := Fit.sub)
      refine D.r 3 rfl (Runs.ld ty22) ?_ (hJ := Fit.sub)
      refine D.r 4 rfl (Runs.move rfl) ?_ (hJ := Fit.sub)
      refine D.r 5 rfl (Runs.move rfl) ?_ (hJ := Fit.sub)
      refine D.r 6 rfl (Runs.nilCheck rfl) ?_ (hJ := Fit.sub)
      refine D.r 7 rfl (Runs.fieldAddr fld155_2 rfl) ?_ (hJ := Fit.sub)
      refine D.r 8 rfl (Runs.ld ty22) ?_ (hJ := Fit.sub)
      refine D.r 9 rfl (Runs.move rfl) ?_ (hJ := Fit.sub)
      refine D.r 10 rfl (Runs.idx (α := Int) (xs := S1.low) Tryd.underlying22 ty3 rfl rfl Sl.o (by omega) (by first | omega | (simp only [List.length_set]; omega))) ?_ (hJ := Fit.sub)
      refine D.r 11 rfl (Runs.get (xs := S1.low) ty3 rfl Sl.o (by omega) (by first | omega | (simp only [List.length_set]; omega))) ?_ (hJ := Fit.sub)
      refine D.r 12 rfl (Runs.move rfl) ?_ (hJ := Fit.sub)
      refine D.r 13 rfl (Runs.nilCheck rfl) ?_ (hJ := Fit.sub)
      refine D.r 14 rfl (Runs.fieldAddr fld155_1 rfl) ?_ (hJ := Fit.sub)
      refine D.r 15 rfl (Runs.ld ty22) ?_ (hJ := Fit.sub)
      refine D.r 16 rfl (Runs.move rfl) ?_ (hJ := Fit.sub)
      refine D.r 17 rfl (Runs.idx (α := Int) (xs := S1.num) Tryd.underlying22 ty3 rfl rfl Sl.o (by omega) (by first | omega | (simp only [List.length_set]; omega))) ?_ (hJ := Fit.sub)
      refine D.r 18 rfl (Runs.get (xs := S1.num) ty3 rfl Sl.o (by omega) (by first | omega | (simp only [List.length_set]; omega))) ?_ (hJ := Fit.sub)
      refine D.r 19 rfl (Runs.min rfl rfl) ?_ (hJ := Fit.sub)
      refine D.r 20 rfl (Runs.idx (α := Int) (xs := S1.low) Tryd.underlying22 ty3 rfl rfl Sl.o (by omega) (by first | omega | (simp only [List.length_set]; omega))) ?_ (hJ := Fit.sub)
      refine D.stop (by kernel_rfl) ?_
      refine A.eff (i := 21) (by kernel_rfl) rfl (Wanted.plain rfl) (Eff.set (α := Int) (xs := S1.low) (e := 3) (new := if (at_ S1.num (tzB t.left)) < (at_ S1.low t.node) then (at_ S1.num (tzB t.left)) else (at_ S1.low t.node)) ty3 rfl rfl rfl (by omega) (by first | omega | (simp only [List.length_set]; omega)) (by repeat (first | exact At.head _ _ _ | apply At.tail))) ?_
      rintro _ _ ⟨rfl, rfl⟩
      refine A.done (by kernel_rfl) ?_
      refine V.then ?_
      refine W.sub (L' := [(0, _)]) (Sub.cons rfl Sub.nil) ?_
      refine W.goto ?_
      refine V.then_goto ?_
      have hst2 : stepF rows S1 = (⟨S1.num, List.set S1.low (t.node).toNat (if (at_ S1.num (tzB t.left)) < (at_ S1.low t.node) then (at_ S1.num (tzB t.left)) else (at_ S1.low t.node)), W2, S1.edges ++ ([⟨t.node, tzB t.left⟩] : List Pt), S1.out, S1.cd⟩ : Srch) := by rw [hst]; unfold stepT; rw [if_pos c30, if_neg c53, if_neg c61, if_pos c92]; first | (rw [hWe]; done) | (rw [hWe]; rfl)
      have hgo2 := hgo.step hne
      have hok2 := hok1.step hne
      have hle2 := stepT_len rows S1 S1.ini t
      rw [← hst] at hle2
      rw [hst2] at hgo2 hok2 hle2
      dsimp only at hle2
      have hm2 := hok2.2
      have hql : (List.set S1.low (t.node).toNat (if (at_ S1.num (tzB t.left)) < (at_ S1.low t.node) then (at_ S1.num (tzB t.left)) else (at_ S1.low t.node))).length = S1.low.length := List.length_set
      rw [← hql]
      exact V.jump (((⟨S1.num, List.set S1.low (t.node).toNat (if (at_ S1.num (tzB t.left)) < (at_ S1.low t.node) then (at_ S1.num (tzB t.left)) else (at_ S1.low t.node)), W2, S1.edges ++ ([⟨t.node, tzB t.left⟩] : List Pt), S1.out, S1.cd⟩ : Srch)), (wa1), (wc1), (ad9), (cp10), (oa1), (oc1), (rs1)) (show (Gone rows (S.enter rows root (-1)) ((⟨S1.num, List.set S1.low (t.node).toNat (if (at_ S1.num (tzB t.left)) < (at_ S1.low t.node) then (at_ S1.num (tzB t.left)) else (at_ S1.low t.node)), W2, S1.edges ++ ([⟨t.node, tzB t.left⟩] : List Pt), S1.out, S1.cd⟩ : Srch) : Srch)) ∧ (DfsOk rows ((⟨S1.num, List.set S1.low (t.node).toNat (if (at_ S1.num (tzB t.left)) < (at_ S1.low t.node) then (at_ S1.num (tzB t.left)) else (at_ S1.low t.node)), W2, S1.edges ++ ([⟨t.node, tzB t.left⟩] : List Pt), S1.out, S1.cd⟩ : Srch) : Srch)) ∧ (((⟨S1.num, List.set S1.low (t.node).toNat (if (at_ S1.num (tzB t.left)) < (at_ S1.low t.node) then (at_ S1.num (tzB t.left)) else (at_ S1.low t.node)), W2, S1.edges ++ ([⟨t.node, tzB t.left⟩] : List Pt), S1.out, S1.cd⟩ : Srch) : Srch).way ≠ []) ∧ ((rs1 : List (RowG Pt)).map RowG.xs = ((⟨S1.num, List.set S1.low (t.node).toNat (if (at_ S1.num (tzB t.left)) < (at_ S1.low t.node) then (at_ S1.num (tzB t.left)) else (at_ S1.low t.node)), W2, S1.edges ++ ([⟨t.node, tzB t.left⟩] : List Pt), S1.out, S1.cd⟩ : Srch) : Srch).out) ∧ (((⟨S1.num, List.set S1.low (t.node).toNat (if (at_ S1.num (tzB t.left)) < (at_ S1.low t.node) then (at_ S1.num (tzB t.left)) else (at_ S1.low t.node)), W2, S1.edges ++ ([⟨t.node, tzB t.left⟩] : List Pt), S1.out, S1.cd⟩ : Srch) : Srch).edges.length + mea ((⟨S1.num, List.set S1.low (t.node).toNat (if (at_ S1.num (tzB t.left)) < (at_ S1.low t.node) then (at_ S1.num (tzB t.left)) else (at_ S1.low t.node)), W2, S1.edges ++ ([⟨t.node, tzB t.left⟩] : List Pt), S1.out, S1.cd⟩ : Srch) : Srch) ≤ M ∧ (rs1 : List (RowG Pt)).length + mea ((⟨S1.num, List.set S1.low (t.node).toNat (if (at_ S1.num (tzB t.left)) < (at_ S1.low t.node) then (at_ S1.num (tzB t.left)) else (at_ S1.low t.node)), W2, S1.edges ++ ([⟨t.node, tzB t.left⟩] : List Pt), S1.out, S1.cd⟩ : Srch) : Srch) ≤ M) from ⟨hgo2, hok2.1, (by first | (rw [hWe]; simp; done) | (simp; done) | exact hok1.more hwe (by omega) | assumption), hrs1, (by dsimp only; first | omega | (simp only [List.length_append, List.length_cons, List.length_nil]; omega))⟩) (show mea ((⟨S1.num, List.set S1.low (t.node).toNat (if (at_ S1.num (tzB t.left)) < (at_ S1.low t.node) then (at_ S1.num (tzB t.left)) else (at_ S1.low t.node)), W2, S1.edges ++ ([⟨t.node, tzB t.left⟩] : List Pt), S1.out, S1.cd⟩ : Srch) : Srch) < mea S1 from hm2) (Sub.cons rfl Sub.nil) (show Fit κ _ (blk b [.slice ra rows.length rc, .slice na ((⟨S1.num, List.set S1.low (t.node).toNat (if (at_ S1.num (tzB t.left)) < (at_ S1.low t.node) then (at_ S1.num (tzB t.left)) else (at_ S1.low t.node)), W2, S1.edges ++ ([⟨t.node, tzB t.left⟩] : List Pt), S1.out, S1.cd⟩ : Srch)).num.length nc, .slice qa ((⟨S1.num, List.set S1.low (t.node).toNat (if (at_ S1.num (tzB t.left)) < (at_ S1.low t.node) then (at_ S1.num (tzB t.left)) else (at_ S1.low t.node)), W2, S1.edges ++ ([⟨t.node, tzB t.left⟩] : List Pt), S1.out, S1.cd⟩ : Srch)).low.length qc, .slice (wa1) ((⟨S1.num, List.set S1.low (t.node).toNat (if (at_ S1.num (tzB t.left)) < (at_ S1.low t.node) then (at_ S1.num (tzB t.left)) else (at_ S1.low t.node)), W2, S1.edges ++ ([⟨t.node, tzB t.left⟩] : List Pt), S1.out, S1.cd⟩ : Srch)).way.length (wc1), .slice (ad9) ((⟨S1.num, List.set S1.low (t.node).toNat (if (at_ S1.num (tzB t.left)) < (at_ S1.low t.node) then (at_ S1.num (tzB t.left)) else (at_ S1.low t.node)), W2, S1.edges ++ ([⟨t.node, tzB t.left⟩] : List Pt), S1.out, S1.cd⟩ : Srch)).edges.length (cp10), .slice (oa1) (rs1).length (oc1), I64 (((⟨S1.num, List.set S1.low (t.node).toNat (if (at_ S1.num (tzB t.left)) < (at_ S1.low t.node) then (at_ S1.num (tzB t.left)) else (at_ S1.low t.node)), W2, S1.edges ++ ([⟨t.node, tzB t.left⟩] : List Pt), S1.out, S1.cd⟩ : Srch)).cd)] 155 :: vc 99 (.slice ra rows.length rc) (rows) :: vc 3 (.slice na ((⟨S1.num, List.set S1.low (t.node).toNat (if (at_ S1.num (tzB t.left)) < (at_ S1.low t.node) then (at_ S1.num (tzB t.left)) else (at_ S1.low t.node)), W2, S1.edges ++ ([⟨t.node, tzB t.left⟩] : List Pt), S1.out, S1.cd⟩ : Srch)).num.length nc) (((⟨S1.num, List.set S1.low (t.node).toNat (if (at_ S1.num (tzB t.left)) < (at_ S1.low t.node) then (at_ S1.num (tzB t.left)) else (at_ S1.low t.node)), W2, S1.edges ++ ([⟨t.node, tzB t.left⟩] : List Pt), S1.out, S1.cd⟩ : Srch)).num) :: vc 3 (.slice qa ((⟨S1.num, List.set S1.low (t.node).toNat (if (at_ S1.num (tzB t.left)) < (at_ S1.low t.node) then (at_ S1.num (tzB t.left)) else (at_ S1.low t.node)), W2, S1.edges ++ ([⟨t.node, tzB t.left⟩] : List Pt), S1.out, S1.cd⟩ : Srch)).low.length qc) (((⟨S1.num, List.set S1.low (t.node).toNat (if (at_ S1.num (tzB t.left)) < (at_ S1.low t.node) then (at_ S1.num (tzB t.left)) else (at_ S1.low t.node)), W2, S1.edges ++ ([⟨t.node, tzB t.left⟩] : List Pt), S1.out, S1.cd⟩ : Srch)).low) :: vc 183 (.slice (wa1) ((⟨S1.num, List.set S1.low (t.node).toNat (if (at_ S1.num (tzB t.left)) < (at_ S1.low t.node) then (at_ S1.num (tzB t.left)) else (at_ S1.low t.node)), W2, S1.edges ++ ([⟨t.node, tzB t.left⟩] : List Pt), S1.out, S1.cd⟩ : Srch)).way.length (wc1)) (((⟨S1.num, List.set S1.low (t.node).toNat (if (at_ S1.num (tzB t.left)) < (at_ S1.low t.node) then (at_ S1.num (tzB t.left)) else (at_ S1.low t.node)), W2, S1.edges ++ ([⟨t.node, tzB t.left⟩] : List Pt), S1.out, S1.cd⟩ : Srch)).way) :: vc 38 (.slice (ad9) ((⟨S1.num, List.set S1.low (t.node).toNat (if (at_ S1.num (tzB t.left)) < (at_ S1.low t.node) then (at_ S1.num (tzB t.left)) else (at_ S1.low t.node)), W2, S1.edges ++ ([⟨t.node, tzB t.left⟩] : List Pt), S1.out, S1.cd⟩ : Srch)).edges.length (cp10)) (((⟨S1.num, List.set S1.low (t.node).toNat (if (at_ S1.num (tzB t.left)) < (at_ S1.low t.node) then (at_ S1.num (tzB t.left)) else (at_ S1.low t.node)), W2, S1.edges ++ ([⟨t.node, tzB t.left⟩] : List Pt), S1.out, S1.cd⟩ : Srch)).edges) :: vc 23 (.slice (oa1) (rs1).length (oc1)) ((rs1)) :: (ownR 38 (rs1) ++ I)) from Fit.s)
     ·refine W.skip ?_
      refine V.then ?_
      refine W.goto ?_
      refine V.then_goto ?_
      have hst2 : stepF rows S1 = (⟨S1.num, S1.low, W2, S1.edges, S1.out, S1.cd⟩ : Srch) := by rw [hst]; unfold stepT; rw [if_pos c30, if_neg c53, if_neg c61, if_neg c92]; first | (rw [hWe]; done) | (rw [hWe]; rfl)
      have hgo2 := hgo.step hne
      have hok2 := hok1.step hne
      have hle2 := stepT_len rows S1 S1.ini t
      rw [← hst] at hle2
      rw [hst2] at hgo2 hok2 hle2
      dsimp only at hle2
      have hm2 := hok2.2
      exact V.jump (((⟨S1.num, S1.low, W2, S1.edges, S1.out, S1.cd⟩ : Srch)), (wa1), (wc1), (ea1), (ec1), (oa1), (oc1), (rs1)) (show (Gone rows (S.enter rows root (-1)) ((⟨S1.num, S1.low, W2, S1.edges, S1.out, S1.cd⟩ : Srch) : Srch)) ∧ (DfsOk rows ((⟨S1.num, S1.low, W2, S1.edges, S1.out, S1.cd⟩ : Srch) : Srch)) ∧ (((⟨S1.num, S1.low, W2, S1.edges, S1.out, S1.cd⟩ : Srch) : Srch).way ≠ []) ∧ ((rs1 : List (RowG Pt)).map RowG.xs = ((⟨S1.num, S1.low, W2, S1.edges, S1.out, S1.cd⟩ : Srch) : Srch).out) ∧ (((⟨S1.num, S1.low, W2, S1.edges, S1.out, S1.cd⟩ : Srch) : Srch).edges.length + mea ((⟨S1.num, S1.low, W2, S1.edges, S1.out, S1.cd⟩ : Srch) : Srch) ≤ M ∧ (rs1 : List (RowG Pt)).length + mea ((⟨S1.num, S1.low, W2, S1.edges, S1.out, S1.cd⟩ : Srch) : Srch) ≤ M) from ⟨hgo2, hok2.1, (by first | (rw [hWe]; simp; done) | (simp; done) | exact hok1.more hwe (by omega) | assumption), hrs1, (by dsimp only; first | omega | (simp only [List.length_append, List.length_cons, List.length_nil]; omega))⟩) (show mea ((⟨S1.num, S1.low, W2, S1.edges, S1.out, S1.cd⟩ : Srch) : Srch) < mea S1 from hm2) (Sub.cons rfl Sub.nil) (show Fit κ _ (blk b [.slice ra rows.length rc, .slice na ((⟨S1.num, S1.low, W2, S1.edges, S1.out, S1.cd⟩ : Srch)).num.length nc, .slice qa ((⟨S1.num, S1.low, W2, S1.edges, S1.out, S1.cd⟩ : Srch)).low.length qc, .slice (wa1) ((⟨S1.num, S1.low, W2, S1.edges, S1.out, S1.cd⟩ : Srch)).way.length (wc1), .slice (ea1) ((⟨S1.num, S1.low, W2, S1.edges, S1.out, S1.cd⟩ : Srch)).edges.length (ec1), .slice (oa1) (rs1).length (oc1), I64 (((⟨S1.num, S1.low, W2, S1.edges, S1.out, S1.cd⟩ : Srch)).cd)] 155 :: vc 99 (.slice ra rows.length rc) (rows) :: vc 3 (.slice na ((⟨S1.num, S1.low, W2, S1.edges, S1.out, S1.cd⟩ : Srch)).num.length nc) (((⟨S1.num, S1.low, W2, S1.edges, S1.out, S1.cd⟩ : Srch)).num) :: vc 3 (.slice qa ((⟨S1.num, S1.low, W2, S1.edges, S1.out, S1.cd⟩ : Srch)).low.length qc) (((⟨S1.num, S1.low, W2, S1.edges, S1.out, S1.cd⟩ : Srch)).low) :: vc 183 (.slice (wa1) ((⟨S1.num, S1.low, W2, S1.edges, S1.out, S1.cd⟩ : Srch)).way.length (wc1)) (((⟨S1.num, S1.low, W2, S1.edges, S1.out, S1.cd⟩ : Srch)).way) :: vc 38 (.slice (ea1) ((⟨S1.num, S1.low, W2, S1.edges, S1.out, S1.cd⟩ : Srch)).edges.length (ec1)) (((⟨S1.num, S1.low, W2, S1.edges, S1.out, S1.cd⟩ : Srch)).edges) :: vc 23 (.slice (oa1) (rs1).length (oc1)) ((rs1)) :: (ownR 38 (rs1) ++ I)) from Fit.s)
  ·refine W.skip ?_
   refine V.then ?_
   refine W.sr ?_
   refine G.r (Runs.move rfl) ?_
   refine G.r (Runs.nilE rfl (hsw hwl)) ?_
   refine G.r (Runs.fld (α := Vis) (xs := S1.way) fld183_1 rfl Sl.o (by first | omega | (simp only [List.length_set]; omega))) ?_
   refine G.r (Runs.cast (congrArg (fun x : Vis => I64 x.src) ht) (Runs.getf (α := Vis) (xs := S1.way) (u := I64 ((at_ S1.way (((S1.way.length : Nat) : Int) - 1)).src)) ty3 rfl Sl.o (by omega) (by first | omega | (simp only [List.length_set]; omega)) rfl)) ?_
   refine G.r (Runs.assign rfl) ?_
   refine G.nt ?_
   refine W.seq ?_
   refine W.drawn mixed ?_
   refine A.hold (blk b [.slice ra rows.length rc, .slice na S1.num.length nc, .slice qa S1.low.length qc, .slice wa1 S1.way.length wc1, .slice ea1 S1.edges.length ec1, .slice oa1 rs1.length oc1, I64 (S1.cd)] 155 :: vc 99 (.slice ra rows.length rc) (rows) :: vc 3 (.slice na S1.num.length nc) (S1.num) :: vc 3 (.slice qa S1.low.length qc) (S1.low) :: vc 183 (.slice wa1 S1.way.length wc1) (S1.way) :: vc 38 (.slice ea1 S1.edges.length ec1) (S1.edges) :: vc 23 (.slice oa1 rs1.length oc1) (rs1) :: (ownR 38 rs1 ++ I)) 14 ?_
   refine D.r 0 rfl (Runs.move rfl) ?_ (hJ := Fit.sub)
   refine D.r 1 rfl (Runs.move rfl) ?_ (hJ := Fit.sub)
   refine D.r 2 rfl (Runs.nilCheck rfl) ?_ (hJ := Fit.sub)
   refine D.r 3 rfl (Runs.fieldAddr fld155_3 rfl) ?_ (hJ := Fit.sub)
   refine D.r 4 rfl (Runs.ld ty153) ?_ (hJ := Fit.sub)
   refine D.r 5 rfl (Runs.move rfl) ?_ (hJ := Fit.sub)
   refine D.r 6 rfl (Runs.nilCheck rfl) ?_ (hJ := Fit.sub)
   refine D.r 7 rfl (Runs.fieldAddr fld155_3 rfl) ?_ (hJ := Fit.sub)
   refine D.r 8 rfl (Runs.ld ty153) ?_ (hJ := Fit.sub)
   refine D.r 9 rfl (Runs.lens Tryd.underlying153 rfl) ?_ (hJ := Fit.sub)
   refine D.r 10 rfl (Runs.sub rfl rfl (by unfold InR; omega)) ?_ (hJ := Fit.sub)
   refine D.r 11 rfl (Runs.hi (α := Vis) (xs := S1.way) (h := (S1.way.length - 1)) Tryd.underlying153 ty183 rfl rfl (by omega) Sl.o (by omega)) ?_ (hJ := Fit.sub)
   refine D.step (rs := [12]) (by kernel_rfl) rfl rfl (all1 ?_)
   refine Step.read rfl (Wanted.plain rfl) rfl rfl (Runs.nilCheck rfl) Fit.sub ?_
   refine D.r 13 rfl (Runs.fieldAddr fld155_3 rfl) ?_ (hJ := Fit.sub)
   refine D.stop (by kernel_rfl) ?_
   refine A.eff (i := 14) (by kernel_rfl) rfl (Wanted.plain rfl) (Eff.st (cs := [_, _, _, _, _, _, _]) (vs := [_]) (cs' := [_, _, _, _, _, _, _]) ty153) ?_
   rintro _ _ ⟨rfl, rfl⟩
   refine A.done (by kernel_rfl) ?_
   refine V.then ?_
   refine W.sub (L' := [(7, _), (5, _), (0, _)]) (Sub.cons rfl (Sub.cons rfl (Sub.cons rfl Sub.nil))) ?_
   refine W.sr ?_
   refine G.r (Runs.move rfl) ?_
   refine G.r (Runs.geq rfl rfl) ?_
   refine G.fit (J := vc 183 (.slice wa1 (List.take (S1.way.length - 1) S1.way).length wc1) (List.take (S1.way.length - 1) S1.way) :: blk b [.slice ra rows.length rc, .slice na S1.num.length nc, .slice qa S1.low.length qc, .slice wa1 (List.take (S1.way.length - 1) S1.way).length wc1, .slice ea1 S1.edges.length ec1, .slice oa1 rs1.length oc1, I64 (S1.cd)] 155 :: vc 99 (.slice ra rows.length rc) (rows) :: vc 3 (.slice na S1.num.length nc) (S1.num) :: vc 3 (.slice qa S1.low.length qc) (S1.low) :: vc 38 (.slice ea1 S1.edges.length ec1) (S1.edges) :: vc 23 (.slice oa1 rs1.length oc1) (rs1) :: (ownR 38 rs1 ++ I)) (Fit.trans (show Fit κ _ (vc 183 (.slice wa1 S1.way.length wc1) (S1.way) :: blk b [.slice ra rows.length rc, .slice na S1.num.length nc, .slice qa S1.low.length qc, .slice wa1 (List.take (S1.way.length - 1) S1.way).length wc1, .slice ea1 S1.edges.length ec1, .slice oa1 rs1.length oc1, I64 (S1.cd)] 155 :: vc 99 (.slice ra rows.length rc) (rows) :: vc 3 (.slice na S1.num.length nc) (S1.num) :: vc 3 (.slice qa S1.low.length qc) (S1.low) :: vc 38 (.slice ea1 S1.edges.length ec1) (S1.edges) :: vc 23 (.slice oa1 rs1.length oc1) (rs1) :: (ownR 38 rs1 ++ I)) from Fit.s) (Fit.takevc rfl)) ?_
   refine G.nt ?_
   refine W.ite rfl (fun c145 => ?_) (fun c145 => ?_)
   ·refine W.seq ?_
    refine W.drawn mixed ?_
    refine A.hold (vc 183 (.slice wa1 (List.take (S1.way.length - 1) S1.way).length wc1) (List.take (S1.way.length - 1) S1.way) :: blk b [.slice ra rows.length rc, .slice na S1.num.length nc, .slice qa S1.low.length qc, .slice wa1 (List.take (S1.way.length - 1) S1.way).length wc1, .slice ea1 S1.edges.length ec1, .slice oa1 rs1.length oc1, I64 (S1.cd)] 155 :: vc 99 (.slice ra rows.length rc) (rows) :: vc 3 (.slice na S1.num.length nc) (S1.num) :: vc 3 (.slice qa S1.low.length qc) (S1.low) :: vc 38 (.slice ea1 S1.edges.length ec1) (S1.edges) :: vc 23 (.slice oa1 rs1.length oc1) (rs1) :: (ownR 38 rs1 ++ I)) 21 ?_
    refine D.r 0 rfl (Runs.move rfl) ?_ (hJ := Fit.sub)
    refine D.r 1 rfl (Runs.nilCheck rfl) ?_ (hJ := Fit.sub)
    refine D.r 2 rfl (Runs.fieldAddr fld155_2 rfl) ?_ (hJ := Fit.sub)
    refine D.r 3 rfl (Runs.ld ty22) ?_ (hJ := Fit.sub)
    refine D.r 4 rfl (Runs.move rfl) ?_ (hJ := Fit.sub)
    refine D.r 5 rfl (Runs.move rfl) ?_ (hJ := Fit.sub)
    refine D.r 6 rfl (Runs.nilCheck rfl) ?_ (hJ := Fit.sub)
    refine D.r 7 rfl (Runs.fieldAddr fld155_2 rfl) ?_ (hJ := Fit.sub)
    refine D.r 8 rfl (Runs.ld ty22) ?_ (hJ := Fit.sub)
    refine D.r 9 rfl (Runs.move rfl) ?_ (hJ := Fit.sub)
    refine D.r 10 rfl (Runs.idx (α := Int) (xs := S1.low) Tryd.underlying22 ty3 rfl rfl Sl.o (by omega) (by first | omega | (simp only [List.length_set]; omega))) ?_ (hJ := Fit.sub)
    refine D.r 11 rfl (Runs.get (xs := S1.low) ty3 rfl Sl.o (by omega) (by first | omega | (simp only [List.length_set]; omega))) ?_ (hJ := Fit.sub)
    refine D.r 12 rfl (Runs.move rfl) ?_ (hJ := Fit.sub)
    refine D.r 13 rfl (Runs.nilCheck rfl) ?_ (hJ := Fit.sub)
    refine D.r 14 rfl (Runs.fieldAddr fld155_2 rfl) ?_ (hJ := Fit.sub)
    refine D.r 15 rfl (Runs.ld ty22) ?_ (hJ := Fit.sub)
    refine D.r 16 rfl (Runs.move rfl) ?_ (hJ := Fit.sub)
    refine D.r 17 rfl (Runs.idx (α := Int) (xs := S1.low) Tryd.underlying22 ty3 rfl rfl Sl.o (by omega) (by first | omega | (simp only [List.length_set]; omega))) ?_ (hJ := Fit.sub)
    refine D.r 18 rfl (Runs.get (xs := S1.low) ty3 rfl Sl.o (by omega) (by first | omega | (simp only [List.length_set]; omega))) ?_ (hJ := Fit.sub)
    refine D.r 19 rfl (Runs.min rfl rfl) ?_ (hJ := Fit.sub)
    refine D.r 20 rfl (Runs.idx (α := Int) (xs := S1.low) Tryd.underlying22 ty3 rfl rfl Sl.o (by omega) (by first | omega | (simp only [List.length_set]; omega))) ?_ (hJ := Fit.sub)
    refine D.stop (by kernel_rfl) ?_
    refine A.eff (i := 21) (by kernel_rfl) rfl (Wanted.plain rfl) (Eff.set (α := Int) (xs := S1.low) (e := 3) (new := if (at_ S1.low t.node) < (at_ S1.low t.src) then (at_ S1.low t.node) else (at_ S1.low t.src)) ty3 rfl rfl rfl (by omega) (by first | omega | (simp only [List.length_set]; omega)) (by repeat (first | exact At.head _ _ _ | apply At.tail))) ?_
    rintro _ _ ⟨rfl, rfl⟩
    refine A.done (by kernel_rfl) ?_
    refine V.then ?_
    refine W.sub (L' := [(7, _), (5, _), (0, _)]) (Sub.cons rfl (Sub.cons rfl (Sub.cons rfl Sub.nil))) ?_
    refine W.seq ?_
    refine W.seq ?_
    refine W.drawn mixed ?_
    refine A.hold (vc 183 (.slice wa1 (List.take (S1.way.length - 1) S1.way).length wc1) (List.take (S1.way.length - 1) S1.way) :: blk b [.slice ra rows.length rc, .slice na S1.num.length nc, .slice qa S1.low.length qc, .slice wa1 (List.take (S1.way.length - 1) S1.way).length wc1, .slice ea1 S1.edges.length ec1, .slice oa1 rs1.length oc1, I64 (S1.cd)] 155 :: vc 99 (.slice ra rows.length rc) (rows) :: vc 3 (.slice na S1.num.length nc) (S1.num) :: vc 3 (.slice qa S1.low.length qc) (List.set S1.low (t.src).toNat (if (at_ S1.low t.node) < (at_ S1.low t.src) then (at_ S1.low t.node) else (at_ S1.low t.src))) :: vc 38 (.slice ea1 S1.edges.length ec1) (S1.edges) :: vc 23 (.slice oa1 rs1.length oc1) (rs1) :: (ownR 38 rs1 ++ I)) 15 ?_
    refine D.r 0 rfl (Runs.move rfl) ?_ (hJ := Fit.sub)
    refine D.r 1 rfl (Runs.nilCheck rfl) ?_ (hJ := Fit.sub)
    refine D.r 2 rfl (Runs.fieldAddr fld155_2 rfl) ?_ (hJ := Fit.sub)
    refine D.r 3 rfl (Runs.ld ty22) ?_ (hJ := Fit.sub)
    refine D.r 4 rfl (Runs.move rfl) ?_ (hJ := Fit.sub)
    refine D.r 5 rfl (Runs.idx (α := Int) (xs := List.set S1.low (t.src).toNat (if (at_ S1.low t.node) < (at_ S1.low t.src) then (at_ S1.low t.node) else (at_ S1.low t.src))) Tryd.underlying22 ty3 rfl rfl Sl.o (by omega) (by first | omega | (simp only [List.length_set]; omega))) ?_ (hJ := Fit.sub)
    refine D.r 6 rfl (Runs.get (xs := List.set S1.low (t.src).toNat (if (at_ S1.low t.node) < (at_ S1.low t.src) then (at_ S1.low t.node) else (at_ S1.low t.src))) ty3 rfl Sl.o (by omega) (by first | omega | (simp only [List.length_set]; omega))) ?_ (hJ := Fit.sub)
    refine D.r 7 rfl (Runs.move rfl) ?_ (hJ := Fit.sub)
    refine D.r 8 rfl (Runs.nilCheck rfl) ?_ (hJ := Fit.sub)
    refine D.r 9 rfl (Runs.fieldAddr fld155_1 rfl) ?_ (hJ := Fit.sub)
    refine D.r 10 rfl (Runs.ld ty22) ?_ (hJ := Fit.sub)
    refine D.r 11 rfl (Runs.move rfl) ?_ (hJ := Fit.sub)
    refine D.r 12 rfl (Runs.idx (α := Int) (xs := S1.num) Tryd.underlying22 ty3 rfl rfl Sl.o (by omega) (by first | omega | (simp only [List.length_set]; omega))) ?_ (hJ := Fit.sub)
    refine D.r 13 rfl (Runs.get (xs := S1.num) ty3 rfl Sl.o (by omega) (by first | omega | (simp only [List.length_set]; omega))) ?_ (hJ := Fit.sub)
    refine D.r 14 rfl (Runs.geq rfl rfl) ?_ (hJ := Fit.sub)
    refine D.done (by kernel_rfl) ?_
    refine V.then ?_
    refine W.sub (L' := [(181, _), (7, _), (5, _), (0, _)]) (Sub.cons rfl (Sub.cons rfl (Sub.cons rfl (Sub.cons rfl Sub.nil)))) ?_
    refine W.ite rfl (fun c181 => ?_) (fun c181 => ?_)
    ·refine W.region ?_
     refine G.r (Runs.move rfl) ?_
     refine G.r (Runs.move rfl) ?_
     refine G.r (Runs.move rfl) ?_
     refine G.r (Runs.build (cells := [_, _]) ty38 Tryd.underlying38 pl38 rfl rfl) ?_
     refine G.e (Eff.call call149 rfl rfl (CallS.fit (show Fit κ _ (blk b [.slice ra rows.length rc, .slice na S1.num.length nc, .slice qa S1.low.length qc, .slice wa1 (List.take (S1.way.length - 1) S1.way).length wc1, .slice ea1 S1.edges.length ec1, .slice oa1 rs1.length oc1, I64 (S1.cd)] 155 :: vc 38 (.slice ea1 S1.edges.length ec1) (S1.edges) :: vc 23 (.slice oa1 rs1.length oc1) (rs1) :: (ownR 38 rs1 ++ (vc 183 (.slice wa1 (List.take (S1.way.length - 1) S1.way).length wc1) (List.take (S1.way.length - 1) S1.way) :: vc 99 (.slice ra rows.length rc) (rows) :: vc 3 (.slice na S1.num.length nc) (S1.num) :: vc 3 (.slice qa S1.low.length qc) (List.set S1.low (t.src).toNat (if (at_ S1.low t.node) < (at_ S1.low t.src) then (at_ S1.low t.node) else (at_ S1.low t.src))) :: I))) from (Fit.trans (show Fit κ _ (blk b [.slice ra rows.length rc, .slice na S1.num.length nc, .slice qa S1.low.length qc, .slice wa1 (List.take (S1.way.length - 1) S1.way).length wc1, .slice ea1 S1.edges.length ec1, .slice oa1 rs1.length oc1, I64 (S1.cd)] 155 :: vc 38 (.slice ea1 S1.edges.length ec1) (S1.edges) :: vc 23 (.slice oa1 rs1.length oc1) (rs1) :: vc 183 (.slice wa1 (List.take (S1.way.length - 1) S1.way).length wc1) (List.take (S1.way.length - 1) S1.way) :: vc 99 (.slice ra rows.length rc) (rows) :: vc 3 (.slice na S1.num.length nc) (S1.num) :: vc 3 (.slice qa S1.low.length qc) (List.set S1.low (t.src).toNat (if (at_ S1.low t.node) < (at_ S1.low t.src) then (at_ S1.low t.node) else (at_ S1.low t.src))) :: (ownR 38 rs1 ++ I)) from Fit.s) (by have hfi := Fit.into (κ := κ) (A := [blk b [.slice ra rows.length rc, .slice na S1.num.length nc, .slice qa S1.low.length qc, .slice wa1 (List.take (S1.way.length - 1) S1.way).length wc1, .slice ea1 S1.edges.length ec1, .slice oa1 rs1.length oc1, I64 (S1.cd)] 155, vc 38 (.slice ea1 S1.edges.length ec1) (S1.edges), vc 23 (.slice oa1 rs1.length oc1) (rs1)]) (R := [vc 183 (.slice wa1 (List.take (S1.way.length - 1) S1.way).length wc1) (List.take (S1.way.length - 1) S1.way), vc 99 (.slice ra rows.length rc) (rows), vc 3 (.slice na S1.num.length nc) (S1.num), vc 3 (.slice qa S1.low.length qc) (List.set S1.low (t.src).toNat (if (at_ S1.low t.node) < (at_ S1.low t.src) then (at_ S1.low t.node) else (at_ S1.low t.src)))]) (B := ownR 38 rs1) (I := I); simp only [List.cons_append, List.nil_append] at hfi; exact hfi))) (SPop_ok (I := vc 183 (.slice wa1 (List.take (S1.way.length - 1) S1.way).length wc1) (List.take (S1.way.length - 1) S1.way) :: vc 99 (.slice ra rows.length rc) (rows) :: vc 3 (.slice na S1.num.length nc) (S1.num) :: vc 3 (.slice qa S1.low.length qc) (List.set S1.low (t.src).toNat (if (at_ S1.low t.node) < (at_ S1.low t.src) then (at_ S1.low t.node) else (at_ S1.low t.src))) :: I) (rs := rs1) (edges := S1.edges) (e := (⟨t.src, t.node⟩ : Pt)) (hok1.tedge hwe (by omega)) (by omega) (by omega)))) ?_
     rintro _ _ ⟨_, _, ⟨oa11, oc12, row13, rfl, hrow13, rfl⟩, rfl, rfl⟩
     refine G.fit (J := blk b [.slice ra rows.length rc, .slice na S1.num.length nc, .slice qa S1.low.length qc, .slice wa1 (List.take (S1.way.length - 1) S1.way).length wc1, .slice ea1 (List.take (S1.edges.idxOf (⟨t.src, t.node⟩ : Pt)) S1.edges).length ec1, .slice oa11 (rs1 ++ [row13]).length oc12, I64 (S1.cd)] 155 :: vc 38 (.slice ea1 (List.take (S1.edges.idxOf (⟨t.src, t.node⟩ : Pt)) S1.edges).length ec1) (List.take (S1.edges.idxOf (⟨t.src, t.node⟩ : Pt)) S1.edges) :: vc 23 (.slice oa11 (rs1 ++ [row13]).length oc12) (rs1 ++ [row13]) :: vc 183 (.slice wa1 (List.take (S1.way.length - 1) S1.way).length wc1) (List.take (S1.way.length - 1) S1.way) :: vc 99 (.slice ra rows.length rc) (rows) :: vc 3 (.slice na S1.num.length nc) (S1.num) :: vc 3 (.slice qa S1.low.length qc) (List.set S1.low (t.src).toNat (if (at_ S1.low t.node) < (at_ S1.low t.src) then (at_ S1.low t.node) else (at_ S1.low t.src))) :: (ownR 38 (rs1 ++ [row13]) ++ I)) (by have hfo := Fit.outof (κ := κ) (A := [blk b [.slice ra rows.length rc, .slice na S1.num.length nc, .slice qa S1.low.length qc, .slice wa1 (List.take (S1.way.length - 1) S1.way).length wc1, .slice ea1 (List.take (S1.edges.idxOf (⟨t.src, t.node⟩ : Pt)) S1.edges).length ec1, .slice oa11 (rs1 ++ [row13]).length oc12, I64 (S1.cd)] 155, vc 38 (.slice ea1 (List.take (S1.edges.idxOf (⟨t.src, t.node⟩ : Pt)) S1.edges).length ec1) (List.take (S1.edges.idxOf (⟨t.src, t.node⟩ : Pt)) S1.edges), vc 23 (.slice oa11 (rs1 ++ [row13]).length oc12) (rs1 ++ [row13])]) (R := [vc 183 (.slice wa1 (List.take (S1.way.length - 1) S1.way).length wc1) (List.take (S1.way.length - 1) S1.way), vc 99 (.slice ra rows.length rc) (rows), vc 3 (.slice na S1.num.length nc) (S1.num), vc 3 (.slice qa S1.low.length qc) (List.set S1.low (t.src).toNat (if (at_ S1.low t.node) < (at_ S1.low t.src) then (at_ S1.low t.node) else (at_ S1.low t.src)))]) (B := ownR 38 (rs1 ++ [row13])) (I := I); simp only [List.cons_append, List.nil_append] at hfo; exact hfo) ?_
     refine G.nt ?_
     refine W.goto ?_
     have hst2 : stepF rows S1 = (⟨S1.num, List.set S1.low (t.src).toNat (if (at_ S1.low t.node) < (at_ S1.low t.src) then (at_ S1.low t.node) else (at_ S1.low t.src)), List.take (S1.way.length - 1) S1.way, List.take (S1.edges.idxOf (⟨t.src, t.node⟩ : Pt)) S1.edges, S1.out ++ [sortD ((List.drop (S1.edges.idxOf (⟨t.src, t.node⟩ : Pt)) S1.edges).map normE)], S1.cd⟩ : Srch) := by rw [hst]; unfold stepT; rw [if_neg c30, if_neg (by omega), if_pos (show (at_ S1.num t.src ≤ at_ (S1.low.set t.src.toNat (minI (at_ S1.low t.src) (at_ S1.low t.node))) t.node) from c181)]; first | done | rfl
     have hgo2 := hgo.step hne
     have hok2 := hok1.step hne
     have hle2 := stepT_len rows S1 S1.ini t
     rw [← hst] at hle2
     rw [hst2] at hgo2 hok2 hle2
     dsimp only at hle2
     have hm2 := hok2.2
     have hrs2 : (rs1 ++ [row13]).map RowG.xs = S1.out ++ [sortD ((List.drop (S1.edges.idxOf (⟨t.src, t.node⟩ : Pt)) S1.edges).map normE)] := by rw [List.map_append, hrs1, List.map_singleton, hrow13]
     have hql : (List.set S1.low (t.src).toNat (if (at_ S1.low t.node) < (at_ S1.low t.src) then (at_ S1.low t.node) else (at_ S1.low t.src))).length = S1.low.length := List.length_set
     rw [← hql]
     exact V.jump (((⟨S1.num, List.set S1.low (t.src).toNat (if (at_ S1.low t.node) < (at_ S1.low t.src) then (at_ S1.low t.node) else (at_ S1.low t.src)), List.take (S1.way.length - 1) S1.way, List.take (S1.edges.idxOf (⟨t.src, t.node⟩ : Pt)) S1.edges, S1.out ++ [sortD ((List.drop (S1.edges.idxOf (⟨t.src, t.node⟩ : Pt)) S1.edges).map normE)], S1.cd⟩ : Srch)), (wa1), (wc1), (ea1), (ec1), (oa11), (oc12), (rs1 ++ [row13])) (show (Gone rows (S.enter rows root (-1)) ((⟨S1.num, List.set S1.low (t.src).toNat (if (at_ S1.low t.node) < (at_ S1.low t.src) then (at_ S1.low t.node) else (at_ S1.low t.src)), List.take (S1.way.length - 1) S1.way, List.take (S1.edges.idxOf (⟨t.src, t.node⟩ : Pt)) S1.edges, S1.out ++ [sortD ((List.drop (S1.edges.idxOf (⟨t.src, t.node⟩ : Pt)) S1.edges).map normE)], S1.cd⟩ : Srch) : Srch)) ∧ (DfsOk rows ((⟨S1.num, List.set S1.low (t.src).toNat (if (at_ S1.low t.node) < (at_ S1.low t.src) then (at_ S1.low t.node) else (at_ S1.low t.src)), List.take (S1.way.length - 1) S1.way, List.take (S1.edges.idxOf (⟨t.src, t.node⟩ : Pt)) S1.edges, S1.out ++ [sortD ((List.drop (S1.edges.idxOf (⟨t.src, t.node⟩ : Pt)) S1.edges).map normE)], S1.cd⟩ : Srch) : Srch)) ∧ (((⟨S1.num, List.set S1.low (t.src).toNat (if (at_ S1.low t.node) < (at_ S1.low t.src) then (at_ S1.low t.node) else (at_ S1.low t.src)), List.take (S1.way.length - 1) S1.way, List.take (S1.edges.idxOf (⟨t.src, t.node⟩ : Pt)) S1.edges, S1.out ++ [sortD ((List.drop (S1.edges.idxOf (⟨t.src, t.node⟩ : Pt)) S1.edges).map normE)], S1.cd⟩ : Srch) : Srch).way ≠ []) ∧ ((rs1 ++ [row13] : List (RowG Pt)).map RowG.xs = ((⟨S1.num, List.set S1.low (t.src).toNat (if (at_ S1.low t.node) < (at_ S1.low t.src) then (at_ S1.low t.node) else (at_ S1.low t.src)), List.take (S1.way.length - 1) S1.way, List.take (S1.edges.idxOf (⟨t.src, t.node⟩ : Pt)) S1.edges, S1.out ++ [sortD ((List.drop (S1.edges.idxOf (⟨t.src, t.node⟩ : Pt)) S1.edges).map normE)], S1.cd⟩ : Srch) : Srch).out) ∧ (((⟨S1.num, List.set S1.low (t.src).toNat (if (at_ S1.low t.node) < (at_ S1.low t.src) then (at_ S1.low t.node) else (at_ S1.low t.src)), List.take (S1.way.length - 1) S1.way, List.take (S1.edges.idxOf (⟨t.src, t.node⟩ : Pt)) S1.edges, S1.out ++ [sortD ((List.drop (S1.edges.idxOf (⟨t.src, t.node⟩ : Pt)) S1.edges).map normE)], S1.cd⟩ : Srch) : Srch).edges.length + mea ((⟨S1.num, List.set S1.low (t.src).toNat (if (at_ S1.low t.node) < (at_ S1.low t.src) then (at_ S1.low t.node) else (at_ S1.low t.src)), List.take (S1.way.length - 1) S1.way, List.take (S1.edges.idxOf (⟨t.src, t.node⟩ : Pt)) S1.edges, S1.out ++ [sortD ((List.drop (S1.edges.idxOf (⟨t.src, t.node⟩ : Pt)) S1.edges).map normE)], S1.cd⟩ : Srch) : Srch) ≤ M ∧ (rs1 ++ [row13] : List (RowG Pt)).length + mea ((⟨S1.num, List.set S1.low (t.src).toNat (if (at_ S1.low t.node) < (at_ S1.low t.src) then (at_ S1.low t.node) else (at_ S1.low t.src)), List.take (S1.way.length - 1) S1.way, List.take (S1.edges.idxOf (⟨t.src, t.node⟩ : Pt)) S1.edges, S1.out ++ [sortD ((List.drop (S1.edges.idxOf (⟨t.src, t.node⟩ : Pt)) S1.edges).map normE)], S1.cd⟩ : Srch) : Srch) ≤ M) from ⟨hgo2, hok2.1, (by first | (rw [hWe]; simp; done) | (simp; done) | exact hok1.more hwe (by omega) | assumption), hrs2, (by dsimp only; first | omega | (simp only [List.length_append, List.length_cons, List.length_nil]; omega))⟩) (show mea ((⟨S1.num, List.set S1.low (t.src).toNat (if (at_ S1.low t.node) < (at_ S1.low t.src) then (at_ S1.low t.node) else (at_ S1.low t.src)), List.take (S1.way.length - 1) S1.way, List.take (S1.edges.idxOf (⟨t.src, t.node⟩ : Pt)) S1.edges, S1.out ++ [sortD ((List.drop (S1.edges.idxOf (⟨t.src, t.node⟩ : Pt)) S1.edges).map normE)], S1.cd⟩ : Srch) : Srch) < mea S1 from hm2) (Sub.cons rfl Sub.nil) (show Fit κ _ (blk b [.slice ra rows.length rc, .slice na ((⟨S1.num, List.set S1.low (t.src).toNat (if (at_ S1.low t.node) < (at_ S1.low t.src) then (at_ S1.low t.node) else (at_ S1.low t.src)), List.take (S1.way.length - 1) S1.way, List.take (S1.edges.idxOf (⟨t.src, t.node⟩ : Pt)) S1.edges, S1.out ++ [sortD ((List.drop (S1.edges.idxOf (⟨t.src, t.node⟩ : Pt)) S1.edges).map normE)], S1.cd⟩ : Srch)).num.length nc, .slice qa ((⟨S1.num, List.set S1.low (t.src).toNat (if (at_ S1.low t.node) < (at_ S1.low t.src) then (at_ S1.low t.node) else (at_ S1.low t.src)), List.take (S1.way.length - 1) S1.way, List.take (S1.edges.idxOf (⟨t.src, t.node⟩ : Pt)) S1.edges, S1.out ++ [sortD ((List.drop (S1.edges.idxOf (⟨t.src, t.node⟩ : Pt)) S1.edges).map normE)], S1.cd⟩ : Srch)).low.length qc, .slice (wa1) ((⟨S1.num, List.set S1.low (t.src).toNat (if (at_ S1.low t.node) < (at_ S1.low t.src) then (at_ S1.low t.node) else (at_ S1.low t.src)), List.take (S1.way.length - 1) S1.way, List.take (S1.edges.idxOf (⟨t.src, t.node⟩ : Pt)) S1.edges, S1.out ++ [sortD ((List.drop (S1.edges.idxOf (⟨t.src, t.node⟩ : Pt)) S1.edges).map normE)], S1.cd⟩ : Srch)).way.length (wc1), .slice (ea1) ((⟨S1.num, List.set S1.low (t.src).toNat (if (at_ S1.low t.node) < (at_ S1.low t.src) then (at_ S1.low t.node) else (at_ S1.low t.src)), List.take (S1.way.length - 1) S1.way, List.take (S1.edges.idxOf (⟨t.src, t.node⟩ : Pt)) S1.edges, S1.out ++ [sortD ((List.drop (S1.edges.idxOf (⟨t.src, t.node⟩ : Pt)) S1.edges).map normE)], S1.cd⟩ : Srch)).edges.length (ec1), .slice (oa11) (rs1 ++ [row13]).length (oc12), I64 (((⟨S1.num, List.set S1.low (t.src).toNat (if (at_ S1.low t.node) < (at_ S1.low t.src) then (at_ S1.low t.node) else (at_ S1.low t.src)), List.take (S1.way.length - 1) S1.way, List.take (S1.edges.idxOf (⟨t.src, t.node⟩ : Pt)) S1.edges, S1.out ++ [sortD ((List.drop (S1.edges.idxOf (⟨t.src, t.node⟩ : Pt)) S1.edges).map normE)], S1.cd⟩ : Srch)).cd)] 155 :: vc 99 (.slice ra rows.length rc) (rows) :: vc 3 (.slice na ((⟨S1.num, List.set S1.low (t.src).toNat (if (at_ S1.low t.node) < (at_ S1.low t.src) then (at_ S1.low t.node) else (at_ S1.low t.src)), List.take (S1.way.length - 1) S1.way, List.take (S1.edges.idxOf (⟨t.src, t.node⟩ : Pt)) S1.edges, S1.out ++ [sortD ((List.drop (S1.edges.idxOf (⟨t.src, t.node⟩ : Pt)) S1.edges).map normE)], S1.cd⟩ : Srch)).num.length nc) (((⟨S1.num, List.set S1.low (t.src).toNat (if (at_ S1.low t.node) < (at_ S1.low t.src) then (at_ S1.low t.node) else (at_ S1.low t.src)), List.take (S1.way.length - 1) S1.way, List.take (S1.edges.idxOf (⟨t.src, t.node⟩ : Pt)) S1.edges, S1.out ++ [sortD ((List.drop (S1.edges.idxOf (⟨t.src, t.node⟩ : Pt)) S1.edges).map normE)], S1.cd⟩ : Srch)).num) :: vc 3 (.slice qa ((⟨S1.num, List.set S1.low (t.src).toNat (if (at_ S1.low t.node) < (at_ S1.low t.src) then (at_ S1.low t.node) else (at_ S1.low t.src)), List.take (S1.way.length - 1) S1.way, List.take (S1.edges.idxOf (⟨t.src, t.node⟩ : Pt)) S1.edges, S1.out ++ [sortD ((List.drop (S1.edges.idxOf (⟨t.src, t.node⟩ : Pt)) S1.edges).map normE)], S1.cd⟩ : Srch)).low.length qc) (((⟨S1.num, List.set S1.low (t.src).toNat (if (at_ S1.low t.node) < (at_ S1.low t.src) then (at_ S1.low t.node) else (at_ S1.low t.src)), List.take (S1.way.length - 1) S1.way, List.take (S1.edges.idxOf (⟨t.src, t.node⟩ : Pt)) S1.edges, S1.out ++ [sortD ((List.drop (S1.edges.idxOf (⟨t.src, t.node⟩ : Pt)) S1.edges).map normE)], S1.cd⟩ : Srch)).low) :: vc 183 (.slice (wa1) ((⟨S1.num, List.set S1.low (t.src).toNat (if (at_ S1.low t.node) < (at_ S1.low t.src) then (at_ S1.low t.node) else (at_ S1.low t.src)), List.take (S1.way.length - 1) S1.way, List.take (S1.edges.idxOf (⟨t.src, t.node⟩ : Pt)) S1.edges, S1.out ++ [sortD ((List.drop (S1.edges.idxOf (⟨t.src, t.node⟩ : Pt)) S1.edges).map normE)], S1.cd⟩ : Srch)).way.length (wc1)) (((⟨S1.num, List.set S1.low (t.src).toNat (if (at_ S1.low t.node) < (at_ S1.low t.src) then (at_ S1.low t.node) else (at_ S1.low t.src)), List.take (S1.way.length - 1) S1.way, List.take (S1.edges.idxOf (⟨t.src, t.node⟩ : Pt)) S1.edges, S1.out ++ [sortD ((List.drop (S1.edges.idxOf (⟨t.src, t.node⟩ : Pt)) S1.edges).map normE)], S1.cd⟩ : Srch)).way) :: vc 38 (.slice (ea1) ((⟨S1.num, List.set S1.low (t.src).toNat (if (at_ S1.low t.node) < (at_ S1.low t.src) then (at_ S1.low t.node) else (at_ S1.low t.src)), List.take (S1.way.length - 1) S1.way, List.take (S1.edges.idxOf (⟨t.src, t.node⟩ : Pt)) S1.edges, S1.out ++ [sortD ((List.drop (S1.edges.idxOf (⟨t.src, t.node⟩ : Pt)) S1.edges).map normE)], S1.cd⟩ : Srch)).edges.length (ec1)) (((⟨S1.num, List.set S1.low (t.src).toNat (if (at_ S1.low t.node) < (at_ S1.low t.src) then (at_ S1.low t.node) else (at_ S1.low t.src)), List.take (S1.way.length - 1) S1.way, List.take (S1.edges.idxOf (⟨t.src, t.node⟩ : Pt)) S1.edges, S1.out ++ [sortD ((List.drop (S1.edges.idxOf (⟨t.src, t.node⟩ : Pt)) S1.edges).map normE)], S1.cd⟩ : Srch)).edges) :: vc 23 (.slice (oa11) (rs1 ++ [row13]).length (oc12)) ((rs1 ++ [row13])) :: (ownR 38 (rs1 ++ [row13]) ++ I)) from Fit.s)
    ·refine W.skip ?_
     refine V.then ?_
     refine W.goto ?_
     have hst2 : stepF rows S1 = (⟨S1.num, List.set S1.low (t.src).toNat (if (at_ S1.low t.node) < (at_ S1.low t.src) then (at_ S1.low t.node) else (at_ S1.low t.src)), List.take (S1.way.length - 1) S1.way, S1.edges, S1.out, S1.cd⟩ : Srch) := by rw [hst]; unfold stepT; rw [if_neg c30, if_neg (by omega), if_neg (show ¬ (at_ S1.num t.src ≤ at_ (S1.low.set t.src.toNat (minI (at_ S1.low t.src) (at_ S1.low t.node))) t.node) from c181)]; first | done | rfl
     have hgo2 := hgo.step hne
     have hok2 := hok1.step hne
     have hle2 := stepT_len rows S1 S1.ini t
     rw [← hst] at hle2
     rw [hst2] at hgo2 hok2 hle2
     dsimp only at hle2
     have hm2 := hok2.2
     have hql : (List.set S1.low (t.src).toNat (if (at_ S1.low t.node) < (at_ S1.low t.src) then (at_ S1.low t.node) else (at_ S1.low t.src))).length = S1.low.length := List.length_set
     rw [← hql]
     exact V.jump (((⟨S1.num, List.set S1.low (t.src).toNat (if (at_ S1.low t.node) < (at_ S1.low t.src) then (at_ S1.low t.node) else (at_ S1.low t.src)), List.take (S1.way.length - 1) S1.way, S1.edges, S1.out, S1.cd⟩ : Srch)), (wa1), (wc1), (ea1), (ec1), (oa1), (oc1), (rs1)) (show (Gone rows (S.enter rows root (-1)) ((⟨S1.num, List.set S1.low (t.src).toNat (if (at_ S1.low t.node) < (at_ S1.low t.src) then (at_ S1.low t.node) else (at_ S1.low t.src)), List.take (S1.way.length - 1) S1.way, S1.edges, S1.out, S1.cd⟩ : Srch) : Srch)) ∧ (DfsOk rows ((⟨S1.num, List.set S1.low (t.src).toNat (if (at_ S1.low t.node) < (at_ S1.low t.src) then (at_ S1.low t.node) else (at_ S1.low t.src)), List.take (S1.way.length - 1) S1.way, S1.edges, S1.out, S1.cd⟩ : Srch) : Srch)) ∧ (((⟨S1.num, List.set S1.low (t.src).toNat (if (at_ S1.low t.node) < (at_ S1.low t.src) then (at_ S1.low t.node) else (at_ S1.low t.src)), List.take (S1.way.length - 1) S1.way, S1.edges, S1.out, S1.cd⟩ : Srch) : Srch).way ≠ []) ∧ ((rs1 : List (RowG Pt)).map RowG.xs = ((⟨S1.num, List.set S1.low (t.src).toNat (if (at_ S1.low t.node) < (at_ S1.low t.src) then (at_ S1.low t.node) else (at_ S1.low t.src)), List.take (S1.way.length - 1) S1.way, S1.edges, S1.out, S1.cd⟩ : Srch) : Srch).out) ∧ (((⟨S1.num, List.set S1.low (t.src).toNat (if (at_ S1.low t.node) < (at_ S1.low t.src) then (at_ S1.low t.node) else (at_ S1.low t.src)), List.take (S1.way.length - 1) S1.way, S1.edges, S1.out, S1.cd⟩ : Srch) : Srch).edges.length + mea ((⟨S1.num, List.set S1.low (t.src).toNat (if (at_ S1.low t.node) < (at_ S1.low t.src) then (at_ S1.low t.node) else (at_ S1.low t.src)), List.take (S1.way.length - 1) S1.way, S1.edges, S1.out, S1.cd⟩ : Srch) : Srch) ≤ M ∧ (rs1 : List (RowG Pt)).length + mea ((⟨S1.num, List.set S1.low (t.src).toNat (if (at_ S1.low t.node) < (at_ S1.low t.src) then (at_ S1.low t.node) else (at_ S1.low t.src)), List.take (S1.way.length - 1) S1.way, S1.edges, S1.out, S1.cd⟩ : Srch) : Srch) ≤ M) from ⟨hgo2, hok2.1, (by first | (rw [hWe]; simp; done) | (simp; done) | exact hok1.more hwe (by omega) | assumption), hrs1, (by dsimp only; first | omega | (simp only [List.length_append, List.length_cons, List.length_nil]; omega))⟩) (show mea ((⟨S1.num, List.set S1.low (t.src).toNat (if (at_ S1.low t.node) < (at_ S1.low t.src) then (at_ S1.low t.node) else (at_ S1.low t.src)), List.take (S1.way.length - 1) S1.way, S1.edges, S1.out, S1.cd⟩ : Srch) : Srch) < mea S1 from hm2) (Sub.cons rfl Sub.nil) (show Fit κ _ (blk b [.slice ra rows.length rc, .slice na ((⟨S1.num, List.set S1.low (t.src).toNat (if (at_ S1.low t.node) < (at_ S1.low t.src) then (at_ S1.low t.node) else (at_ S1.low t.src)), List.take (S1.way.length - 1) S1.way, S1.edges, S1.out, S1.cd⟩ : Srch)).num.length nc, .slice qa ((⟨S1.num, List.set S1.low (t.src).toNat (if (at_ S1.low t.node) < (at_ S1.low t.src) then (at_ S1.low t.node) else (at_ S1.low t.src)), List.take (S1.way.length - 1) S1.way, S1.edges, S1.out, S1.cd⟩ : Srch)).low.length qc, .slice (wa1) ((⟨S1.num, List.set S1.low (t.src).toNat (if (at_ S1.low t.node) < (at_ S1.low t.src) then (at_ S1.low t.node) else (at_ S1.low t.src)), List.take (S1.way.length - 1) S1.way, S1.edges, S1.out, S1.cd⟩ : Srch)).way.length (wc1), .slice (ea1) ((⟨S1.num, List.set S1.low (t.src).toNat (if (at_ S1.low t.node) < (at_ S1.low t.src) then (at_ S1.low t.node) else (at_ S1.low t.src)), List.take (S1.way.length - 1) S1.way, S1.edges, S1.out, S1.cd⟩ : Srch)).edges.length (ec1), .slice (oa1) (rs1).length (oc1), I64 (((⟨S1.num, List.set S1.low (t.src).toNat (if (at_ S1.low t.node) < (at_ S1.low t.src) then (at_ S1.low t.node) else (at_ S1.low t.src)), List.take (S1.way.length - 1) S1.way, S1.edges, S1.out, S1.cd⟩ : Srch)).cd)] 155 :: vc 99 (.slice ra rows.length rc) (rows) :: vc 3 (.slice na ((⟨S1.num, List.set S1.low (t.src).toNat (if (at_ S1.low t.node) < (at_ S1.low t.src) then (at_ S1.low t.node) else (at_ S1.low t.src)), List.take (S1.way.length - 1) S1.way, S1.edges, S1.out, S1.cd⟩ : Srch)).num.length nc) (((⟨S1.num, List.set S1.low (t.src).toNat (if (at_ S1.low t.node) < (at_ S1.low t.src) then (at_ S1.low t.node) else (at_ S1.low t.src)), List.take (S1.way.length - 1) S1.way, S1.edges, S1.out, S1.cd⟩ : Srch)).num) :: vc 3 (.slice qa ((⟨S1.num, List.set S1.low (t.src).toNat (if (at_ S1.low t.node) < (at_ S1.low t.src) then (at_ S1.low t.node) else (at_ S1.low t.src)), List.take (S1.way.length - 1) S1.way, S1.edges, S1.out, S1.cd⟩ : Srch)).low.length qc) (((⟨S1.num, List.set S1.low (t.src).toNat (if (at_ S1.low t.node) < (at_ S1.low t.src) then (at_ S1.low t.node) else (at_ S1.low t.src)), List.take (S1.way.length - 1) S1.way, S1.edges, S1.out, S1.cd⟩ : Srch)).low) :: vc 183 (.slice (wa1) ((⟨S1.num, List.set S1.low (t.src).toNat (if (at_ S1.low t.node) < (at_ S1.low t.src) then (at_ S1.low t.node) else (at_ S1.low t.src)), List.take (S1.way.length - 1) S1.way, S1.edges, S1.out, S1.cd⟩ : Srch)).way.length (wc1)) (((⟨S1.num, List.set S1.low (t.src).toNat (if (at_ S1.low t.node) < (at_ S1.low t.src) then (at_ S1.low t.node) else (at_ S1.low t.src)), List.take (S1.way.length - 1) S1.way, S1.edges, S1.out, S1.cd⟩ : Srch)).way) :: vc 38 (.slice (ea1) ((⟨S1.num, List.set S1.low (t.src).toNat (if (at_ S1.low t.node) < (at_ S1.low t.src) then (at_ S1.low t.node) else (at_ S1.low t.src)), List.take (S1.way.length - 1) S1.way, S1.edges, S1.out, S1.cd⟩ : Srch)).edges.length (ec1)) (((⟨S1.num, List.set S1.low (t.src).toNat (if (at_ S1.low t.node) < (at_ S1.low t.src) then (at_ S1.low t.node) else (at_ S1.low t.src)), List.take (S1.way.length - 1) S1.way, S1.edges, S1.out, S1.cd⟩ : Srch)).edges) :: vc 23 (.slice (oa1) (rs1).length (oc1)) ((rs1)) :: (ownR 38 (rs1) ++ I)) from Fit.s)
   ·refine W.skip ?_
    refine V.jump_normal ?_
    have hini := hok1.last hwe (by omega)
    have hst2 : stepF rows S1 = { S1 with way := S1.ini } := by rw [hst]; unfold stepT; rw [if_neg c30, if_pos (by omega)]
    have hgo2 := hgo.step hne
    have hok2 := hok1.step hne
    rw [hst2] at hgo2 hok2
    exact V.end0 rfl (blk b [.slice ra rows.length rc, .slice na ({ S1 with way := S1.ini } : Srch).num.length nc, .slice qa ({ S1 with way := S1.ini } : Srch).low.length qc, .slice wa1 ({ S1 with way := S1.ini } : Srch).way.length wc1, .slice ea1 ({ S1 with way := S1.ini } : Srch).edges.length ec1, .slice oa1 rs1.length oc1, I64 (({ S1 with way := S1.ini } : Srch).cd)] 155 :: vc 99 (.slice ra rows.length rc) (rows) :: vc 3 (.slice na ({ S1 with way := S1.ini } : Srch).num.length nc) (({ S1 with way := S1.ini } : Srch).num) :: vc 3 (.slice qa ({ S1 with way := S1.ini } : Srch).low.length qc) (({ S1 with way := S1.ini } : Srch).low) :: vc 183 (.slice wa1 ({ S1 with way := S1.ini } : Srch).way.length wc1) (({ S1 with way := S1.ini } : Srch).way) :: vc 38 (.slice ea1 ({ S1 with way := S1.ini } : Srch).edges.length ec1) (({ S1 with way := S1.ini } : Srch).edges) :: vc 23 (.slice oa1 rs1.length oc1) (rs1) :: (ownR 38 rs1 ++ I)) Fit.s ⟨{ S1 with way := S1.ini }, wa1, wc1, ea1, ec1, oa1, oc1, rs1, rfl, ⟨hgo2.ends hini, hok2.1, hrs1, (by have := hok2.2; show S1.edges.length + _ ≤ _; omega), (by have := hok2.2; omega)⟩, rfl⟩

end Go.Sl
namespace Go.Sl
open Go.Proofs
set_option linter.unusedVariables false
set_option linter.unusedSimpArgs false
set_option maxRecDepth 4000
theorem all_rows {nd : Int} {es : List Pt} (h : 0 ≤ nd ∧ nd ≤ 64) (i : Nat) (hi : (allB nd).getLsbD i = true) : i < (rowsB nd es).length := by
  have h64 : i < 64 := Classical.byContradiction fun hn => by rw [BitVec.getLsbD_of_ge _ _ (by omega)] at hi; cases hi
  rw [getLsb_allB h.1 h.2 h64, decide_eq_true_eq] at hi
  rw [rowsB_len]; omega
theorem and_all_rows {nd : Int} {es : List Pt} (m : BitVec 64) (h : 0 ≤ nd ∧ nd ≤ 64) (i : Nat) (hi : (m &&& allB nd).getLsbD i = true) : i < (rowsB nd es).length := by
  rw [BitVec.getLsbD_and, Bool.and_eq_true] at hi; exact all_rows h i hi.2
theorem groupsL_pos {rows : List (BitVec 64)} {w left : BitVec 64} {n : Nat} (h : left ≠ 0#64) (hn : 0 < n) : groupsL rows w n left = reachB rows (left &&& (-left)) w :: groupsL rows w (n - 1) (left &&& ~~~(reachB rows (left &&& (-left)) w)) := by
  obtain ⟨k, rfl⟩ : ∃ k, n = k + 1 := ⟨n - 1, by omega⟩
  exact groupsL_succ h k

theorem MReach_ok {κ : Ctx} {I : List Item} {va : Value} {rows : List (BitVec 64)} (hl : Sl κ I va rows) (f w : BitVec 64) (hw : ∀ i : Nat, w.getLsbD i = true → i < rows.length) (hT : TabRd κ I 0 tzCells) :
    CallS Tryd.prog κ 74 [va, U64 (f), U64 (w)] I (fun r J => r = U64 (reachB rows f w) ∧ I = J) := by
 refine CallS.enter (L := [(0, va), (1, U64 (f)), (2, U64 (w))]) Tryd.func74 rfl rfl rfl rfl ?_
 refine W.sr ?_
 refine G.r (Runs.assign rfl) ?_
 refine G.nt ?_
 refine W.sr ?_
 refine G.r (Runs.move rfl) ?_
 refine G.r (Runs.move rfl) ?_
 refine G.r (Runs.andB (a := f) (b := w) rfl rfl) ?_
 refine G.r (Runs.assign rfl) ?_
 refine G.nt ?_
 refine W.seq ?_
 refine W.sr ?_
 refine G.r (Runs.move rfl) ?_
 refine G.r (Runs.assign rfl) ?_
 refine G.nt ?_
 refine W.block ?_
 refine W.loop (σ := (BitVec 64) × (BitVec 64)) (fun s => ([(0, va), (1, U64 (s.2)), (2, U64 (w)), (7, U64 (s.1))] : Env)) (fun s => I) (fun s => (ReachI rows f w s.1 s.2)) (fun s => reachM w s.1 s.2) (f &&& w, f &&& w) (show (ReachI rows f w (f &&& w : BitVec 64) (f &&& w : BitVec 64)) from .begin) (Sub.cons rfl (Sub.cons (lookV rfl (by first | rfl | simp)) (Sub.cons rfl (Sub.cons (lookV rfl (by first | rfl | simp)) Sub.nil)))) (show Fit κ _ (I) from Fit.sub) ?_
 rintro ⟨front, frm⟩ hp
 have hR : (ReachI rows f w front frm) := hp
 show W Tryd.prog κ 37 _ _ ([(0, va), (1, U64 (frm)), (2, U64 (w)), (7, U64 (front))] : Env) (I)
 refine W.seq ?_
 refine W.sr ?_
 refine G.r (Runs.move rfl) ?_
 refine G.r (Runs.neB (a := front) (b := 0#64) rfl rfl) ?_
 refine G.nt ?_
 refine W.ite rfl (fun c15 => ?_) (fun c15 => ?_)
 ·refine W.skip ?_
  refine V.then ?_
  refine W.block ?_
  refine W.sr ?_
  refine G.r (Runs.move rfl) ?_
  refine G.e (Eff.call call125 rfl rfl (Least_ok front (TabRd.fit hT Fit.m))) ?_
  rintro _ _ ⟨_, _, ⟨rfl, rfl⟩, rfl, rfl⟩
  refine G.r (Runs.assign rfl) ?_
  have htz := tzB_range c15
  have hbd := hw _ (hR.sub _ (hR.fsub _ htz.2.2))
  refine G.nt ?_
  refine W.sr ?_
  refine G.r (Runs.move rfl) ?_
  refine G.r (Runs.move rfl) ?_
  refine G.r (Runs.subB (a := front) (b := 1#64) rfl rfl) ?_
  refine G.r (Runs.andB (a := front) (b := front - (1#64)) rfl rfl) ?_
  refine G.r (Runs.assign rfl) ?_
  refine G.nt ?_
  refine W.sub (L' := [(7, _), (8, _), (0, _), (1, _), (2, _)]) (Sub.cons rfl (Sub.cons rfl (Sub.cons rfl (Sub.cons rfl (Sub.cons rfl Sub.nil))))) ?_
  refine W.sr ?_
  refine G.r (Runs.move rfl) ?_
  refine G.r (Runs.move rfl) ?_
  refine G.r (Runs.idx (α := (BitVec 64)) (xs := rows) Tryd.underlying106 ty99 rfl rfl (Sl.f hl) (by omega) (by omega)) ?_
  refine G.r (Runs.getf0 (α := (BitVec 64)) (xs := rows) (u := U64 ((at_ rows (tzB front)))) ty99 rfl (Sl.f hl) (by omega) (by omega) rfl) ?_
  refine G.r (Runs.move rfl) ?_
  refine G.r (Runs.andB (a := (at_ rows (tzB front))) (b := w) rfl rfl) ?_
  refine G.r (Runs.move rfl) ?_
  refine G.r (Runs.andNotB (a := (at_ rows (tzB front)) &&& w) (b := frm) rfl rfl) ?_
  refine G.r (Runs.assign rfl) ?_
  refine G.nt ?_
  refine W.sub (L' := [(9, _), (7, _), (0, _), (1, _), (2, _)]) (Sub.cons rfl (Sub.cons rfl (Sub.cons rfl (Sub.cons rfl (Sub.cons rfl Sub.nil))))) ?_
  refine W.sr ?_
  refine G.r (Runs.move rfl) ?_
  refine G.r (Runs.move rfl) ?_
  refine G.r (Runs.orB (a := frm) (b := ((at_ rows (tzB front)) &&& w) &&& ~~~frm) rfl rfl) ?_
  refine G.r (Runs.assign rfl) ?_
  refine G.nt ?_
  refine W.region ?_
  refine G.r (Runs.move rfl) ?_
  refine G.r (Runs.move rfl) ?_
  refine G.r (Runs.orB (a := front &&& (front - (1#64))) (b := ((at_ rows (tzB front)) &&& w) &&& ~~~frm) rfl rfl) ?_
  refine G.r (Runs.assign rfl) ?_
  refine G.nil ?_
  refine V.block_normal ?_
  exact V.next (((front &&& (front - (1#64))) ||| (((at_ rows (tzB front)) &&& w) &&& ~~~frm)), (frm ||| (((at_ rows (tzB front)) &&& w) &&& ~~~frm))) (show (ReachI rows f w ((front &&& (front - (1#64))) ||| (((at_ rows (tzB front)) &&& w) &&& ~~~frm) : BitVec 64) (frm ||| (((at_ rows (tzB front)) &&& w) &&& ~~~frm) : BitVec 64)) from (hR.step c15).1) (show reachM w ((front &&& (front - (1#64))) ||| (((at_ rows (tzB front)) &&& w) &&& ~~~frm) : BitVec 64) (frm ||| (((at_ rows (tzB front)) &&& w) &&& ~~~frm) : BitVec 64) < reachM w front frm from (hR.step c15).2) (Sub.cons rfl (Sub.cons (lookV rfl (by first | rfl | simp)) (Sub.cons rfl (Sub.cons (lookV rfl (by first | rfl | simp)) Sub.nil)))) (show Fit κ _ (I) from Fit.sub)
 ·refine W.exit ?_
  refine V.then_exit ?_
  refine V.then_exit ?_
  refine V.block_hit ?_
  refine V.then ?_
  refine W.sr ?_
  refine G.r (Runs.move rfl) ?_
  refine G.r (Runs.assign rfl) ?_
  refine G.nt ?_
  refine W.ret ?_
  have hz : front = 0#64 := Classical.not_not.1 c15
  subst hz
  exact V.ret1 rfl rfl (I) Fit.m ⟨by rw [hR.eq], rfl⟩

/-- All nodes of a list lie in one group. -/
def togB (nd : Int) (es : List Pt) (set : List Int) : Bool := if set.length < 2 then true else decide (maskB set &&& ~~~(reachB (rowsB nd es) (bitB (at_ set 0)) (allB nd)) = 0#64)
def sameE (nd : Int) (es : List Pt) (u v : Int) : Int := if checkG nd es ≠ 0 then checkG nd es else if u < 0 ∨ v < 0 ∨ nd ≤ u ∨ nd ≤ v then 6 else 0
def sameG (nd : Int) (es : List Pt) (u v : Int) : Bool := if sameE nd es u v ≠ 0 then false else togB nd es [u, v]
def rchG (nd : Int) (es : List Pt) (frm set : List Int) : List Int := if checkG nd es ≠ 0 then [] else listB (reachB (rowsB nd es) (maskB frm) (maskB set &&& allB nd))
def compsG (nd : Int) (es : List Pt) : List (List Int) := if checkG nd es ≠ 0 then [] else (groupsB (rowsB nd es) (allB nd)).map listB

theorem Together_ok {κ : Ctx} {I : List Item} {nd : Int} {va vb : Value} {es : List Pt} {set : List Int} (hl : Sl κ I va es) (hs : Sl κ I vb set) (hG : GrOk nd es) (hT : TabRd κ I 0 tzCells) :
    CallS Tryd.prog κ 80 [.agg #[I64 (nd), va], vb] I (fun r J => r = .bool (togB nd es set) ∧ I = J) := by
 refine CallS.enter (L := [(0, .agg #[I64 (nd), va]), (1, vb)]) Tryd.func80 rfl rfl rfl rfl ?_
 refine W.sr ?_
 refine G.e (Eff.box (cs := [_, _]) rfl rfl rfl) ?_
 rintro _ _ ⟨b1, rfl, rfl⟩
 refine G.r (Runs.assign rfl) ?_
 refine G.nt ?_
 refine W.seq ?_
 refine W.sr ?_
 refine G.r (Runs.move rfl) ?_
 refine G.r (Runs.lenT (α := Int) (xs := set) Tryd.underlying22 rfl (Sl.f hs)) ?_
 refine G.r (Runs.lss rfl rfl) ?_
 refine G.nt ?_
 refine W.ite rfl (fun c8 => ?_) (fun c8 => ?_)
 ·refine W.sr ?_
  refine G.r (Runs.assign rfl) ?_
  refine G.nt ?_
  refine W.ret ?_
  refine V.then_ret ?_
  exact V.ret1 rfl rfl (I) Fit.m ⟨by unfold togB; rw [if_pos (by omega)], rfl⟩
 ·refine W.skip ?_
  refine V.then ?_
  refine W.sr ?_
  refine G.r (Runs.move rfl) ?_
  refine G.e (Eff.call call76 rfl rfl (MaskOf_ok (Sl.f hs))) ?_
  rintro _ _ ⟨_, _, ⟨rfl, rfl⟩, rfl, rfl⟩
  refine G.r (Runs.assign rfl) ?_
  refine G.nt ?_
  refine W.seq ?_
  refine W.drawn mixed ?_
  refine A.hold (blk b1 [I64 (nd), va] 25 :: I) 14 ?_
  refine D.r 0 rfl (Runs.move rfl) ?_ (hJ := Fit.sub)
  refine D.r 1 rfl (Runs.lds (vs := [_, _]) ty25) ?_ (hJ := Fit.sub)
  refine D.r 3 rfl (Runs.move rfl) ?_ (hJ := Fit.sub)
  refine D.r 4 rfl (Runs.idx (α := Int) (xs := set) Tryd.underlying22 ty3 rfl rfl (Sl.f hs) (by omega) (by omega)) ?_ (hJ := Fit.sub)
  refine D.r 5 rfl (Runs.get (xs := set) ty3 rfl (Sl.f hs) (by omega) (by omega)) ?_ (hJ := Fit.sub)
  refine D.r 7 rfl (Runs.fieldAddr fld25_0 rfl) ?_ (hJ := Fit.sub)
  refine D.r 8 rfl (Runs.ld ty3) ?_ (hJ := Fit.sub)
  refine D.step (rs := [2]) (by kernel_rfl) rfl rfl (all1 ?_)
  refine Step.eff rfl (Wanted.plain rfl) (Eff.call call75 rfl rfl (MRows_ok (nd := nd) (Sl.f hl))) ?_
  rintro _ _ ⟨_, _, ⟨ad2, cp3, rfl, rfl⟩, rfl, rfl⟩
  refine ⟨Fit.sub, ?_⟩
  have hrwad2 := rowsB_len nd es
  refine D.step (rs := [6]) (by kernel_rfl) rfl rfl (all1 ?_)
  refine Step.eff rfl (Wanted.plain rfl) (Eff.call call68 rfl rfl (Bit_ok (at_ set 0))) ?_
  rintro _ _ ⟨_, _, ⟨rfl, rfl⟩, rfl, rfl⟩
  refine ⟨Fit.sub, ?_⟩
  refine D.step (rs := [9]) (by kernel_rfl) rfl rfl (all1 ?_)
  refine Step.eff rfl (Wanted.plain rfl) (Eff.call call77 rfl rfl (MaskAll_ok nd)) ?_
  rintro _ _ ⟨_, _, ⟨rfl, rfl⟩, rfl, rfl⟩
  refine ⟨Fit.sub, ?_⟩
  refine D.step (rs := [10]) (by kernel_rfl) rfl rfl (all1 ?_)
  refine Step.eff rfl (Wanted.plain rfl) (Eff.call call74 rfl rfl (MReach_ok Sl.o (bitB (at_ set 0)) (allB nd) (all_rows hG.rng) (TabRd.fit hT Fit.m))) ?_
  rintro _ _ ⟨_, _, ⟨rfl, rfl⟩, rfl, rfl⟩
  refine ⟨Fit.sub, ?_⟩
  refine D.r 11 rfl (Runs.andNotB (a := maskB set) (b := reachB (rowsB nd es) (bitB (at_ set 0)) (allB nd)) rfl rfl) ?_ (hJ := Fit.sub)
  refine D.r 12 rfl (Runs.eqB (a := (maskB set) &&& ~~~(reachB (rowsB nd es) (bitB (at_ set 0)) (allB nd))) (b := 0#64) rfl rfl) ?_ (hJ := Fit.sub)
  refine D.r 13 rfl (Runs.assign rfl) ?_ (hJ := Fit.sub)
  refine D.done (by kernel_rfl) ?_
  refine V.then ?_
  refine W.sub (L' := [(4, _)]) (Sub.cons rfl Sub.nil) ?_
  refine W.ret ?_
  exact V.ret1 rfl rfl (I) Fit.m ⟨by unfold togB; rw [if_neg (by omega)], rfl⟩

theorem SameC_ok {κ : Ctx} {I : List Item} {nd : Int} {va : Value} {es : List Pt} (hl : Sl κ I va es) (u v : Int) (hT : TabRd κ I 0 tzCells) :
    CallS Tryd.prog κ 30 [.agg #[I64 (nd), va], I64 (u), I64 (v)] I (fun r J => r = .tuple #[.bool (sameG nd es u v), I64 (sameE nd es u v)] ∧ I = J) := by
 refine CallS.enter (L := [(0, .agg #[I64 (nd), va]), (1, I64 (u)), (2, I64 (v))]) Tryd.func30 rfl rfl rfl rfl ?_
 refine W.sr ?_
 refine G.e (Eff.box (cs := [_, _]) rfl rfl rfl) ?_
 rintro _ _ ⟨b1, rfl, rfl⟩
 refine G.r (Runs.assign rfl) ?_
 refine G.r (Runs.assign rfl) ?_
 refine G.nt ?_
 refine W.seq ?_
 refine W.sr ?_
 refine G.r (Runs.lds (vs := [_, _]) ty25) ?_
 refine G.e (Eff.call call66 rfl rfl (CheckGen_ok (Sl.f hl))) ?_
 rintro _ _ ⟨_, _, ⟨rfl, rfl⟩, rfl, rfl⟩
 refine G.r (Runs.assign rfl) ?_
 refine G.nt ?_
 refine W.sr ?_
 refine G.r (Runs.move rfl) ?_
 refine G.r (Runs.neq rfl rfl) ?_
 refine G.nt ?_
 refine W.ite rfl (fun c12 => ?_) (fun c12 => ?_)
 ·refine W.sr ?_
  refine G.r (Runs.move rfl) ?_
  refine G.r (Runs.assign rfl) ?_
  refine G.r (Runs.assign rfl) ?_
  refine G.nt ?_
  refine W.sub (L' := [(7, _), (6, _)]) (Sub.cons rfl (Sub.cons rfl Sub.nil)) ?_
  refine W.ret ?_
  refine V.then_ret ?_
  have hE : sameE nd es u v = checkG nd es := by unfold sameE; rw [if_pos c12]
  have hS : sameG nd es u v = false := by unfold sameG; rw [if_pos (by rw [hE]; exact c12)]
  exact V.ret2 rfl rfl rfl (I) Fit.m ⟨by rw [hE, hS], rfl⟩
 ·refine W.skip ?_
  refine V.then ?_
  refine W.seq ?_
  refine W.sr ?_
  refine G.r (Runs.move rfl) ?_
  refine G.r (Runs.move rfl) ?_
  refine G.r (Runs.min rfl rfl) ?_
  refine G.r (Runs.lss rfl rfl) ?_
  refine G.r (Runs.move rfl) ?_
  refine G.split (d := 18) rfl (fun g18 => ?_) (fun g18 => ?_)
  ·refine G.po ?_
   refine G.po ?_
   refine G.po ?_
   refine G.po ?_
   refine G.po ?_
   refine G.po ?_
   refine G.r (Runs.pickt rfl rfl) ?_
   refine G.nt ?_
   refine W.sub (L' := [(25, _), (3, _), (1, _), (2, _)]) (Sub.cons rfl (Sub.cons rfl (Sub.cons rfl (Sub.cons rfl Sub.nil)))) ?_
   refine W.yes rfl ?_
   refine W.sr ?_
   refine G.r (Runs.assign rfl) ?_
   refine G.r (Runs.assign rfl) ?_
   refine G.nt ?_
   refine W.ret ?_
   refine V.then_ret ?_
   have hE : sameE nd es u v = 6 := by unfold sameE; rw [if_neg c12, if_pos (by omega)]
   have hS : sameG nd es u v = false := by unfold sameG; rw [if_pos (by rw [hE]; decide)]
   exact V.ret2 rfl rfl rfl (I) Fit.m ⟨by rw [hE, hS], rfl⟩
  ·refine G.ro (Runs.move rfl) ?_
   refine G.ro (Runs.move rfl) ?_
   refine G.ro (Runs.max rfl rfl) ?_
   refine G.ro (Runs.fieldAddr fld25_0 rfl) ?_
   refine G.ro (Runs.ld ty3) ?_
   refine G.ro (Runs.geq rfl rfl) ?_
   refine G.r (Runs.pickf rfl rfl) ?_
   refine G.nt ?_
   refine W.sub (L' := [(25, _), (3, _), (1, _), (2, _)]) (Sub.cons rfl (Sub.cons rfl (Sub.cons rfl (Sub.cons rfl Sub.nil)))) ?_
   refine W.ite rfl (fun c25 => ?_) (fun c25 => ?_)
   ·refine W.sr ?_
    refine G.r (Runs.assign rfl) ?_
    refine G.r (Runs.assign rfl) ?_
    refine G.nt ?_
    refine W.ret ?_
    refine V.then_ret ?_
    have hE : sameE nd es u v = 6 := by unfold sameE; rw [if_neg c12, if_pos (by omega)]
    have hS : sameG nd es u v = false := by unfold sameG; rw [if_pos (by rw [hE]; decide)]
    exact V.ret2 rfl rfl rfl (I) Fit.m ⟨by rw [hE, hS], rfl⟩
   ·refine W.skip ?_
    refine V.then ?_
    refine W.sr ?_
    refine G.r (Runs.lds (vs := [_, _]) ty25) ?_
    refine G.r (Runs.move rfl) ?_
    refine G.r (Runs.move rfl) ?_
    refine G.e (Eff.bs (α := Int) (cs := [_, _]) (xs := [u, v]) Tryd.underlying22 ty3 rfl rfl (by decide) (by decide) rfl rfl rfl rfl) ?_
    rintro _ _ ⟨ad2, rfl, rfl⟩
    refine G.e (Eff.call call80 rfl rfl (Together_ok (nd := nd) (Sl.f hl) Sl.o (checkG_ok.1 (Classical.not_not.1 c12)) (TabRd.fit hT Fit.m))) ?_
    rintro _ _ ⟨_, _, ⟨rfl, rfl⟩, rfl, rfl⟩
    refine G.r (Runs.assign rfl) ?_
    refine G.r (Runs.assign rfl) ?_
    refine G.nt ?_
    refine W.ret ?_
    have hE : sameE nd es u v = 0 := by unfold sameE; rw [if_neg c12, if_neg (by omega)]
    have hS : sameG nd es u v = togB nd es [u, v] := by unfold sameG; rw [if_neg (by rw [hE]; decide)]
    exact V.ret2 rfl rfl rfl (I) Fit.m ⟨by rw [hE, hS], rfl⟩

theorem CReach_ok {κ : Ctx} {I : List Item} {nd : Int} {va vb vd : Value} {es : List Pt} {frm set : List Int} (hl : Sl κ I va es) (hf : Sl κ I vb frm) (hs : Sl κ I vd set) (hT : TabRd κ I 0 tzCells) :
    CallS Tryd.prog κ 23 [.agg #[I64 (nd), va], vb, vd] I (fun r J => ∃ a c, r = .tuple #[.slice a (rchG nd es frm set).length c, I64 (checkG nd es)] ∧ J = vc 3 (.slice a (rchG nd es frm set).length c) (rchG nd es frm set) :: I) := by
 refine CallS.enter (L := [(0, .agg #[I64 (nd), va]), (1, vb), (2, vd)]) Tryd.func23 rfl rfl rfl rfl ?_
 refine W.sr ?_
 refine G.e (Eff.box (cs := [_, _]) rfl rfl rfl) ?_
 rintro _ _ ⟨b1, rfl, rfl⟩
 refine G.r (Runs.assign rfl) ?_
 refine G.r (Runs.assign rfl) ?_
 refine G.nt ?_
 refine W.seq ?_
 refine W.sr ?_
 refine G.r (Runs.lds (vs := [_, _]) ty25) ?_
 refine G.e (Eff.call call66 rfl rfl (CheckGen_ok (Sl.f hl))) ?_
 rintro _ _ ⟨_, _, ⟨rfl, rfl⟩, rfl, rfl⟩
 refine G.r (Runs.assign rfl) ?_
 refine G.nt ?_
 refine W.sr ?_
 refine G.r (Runs.move rfl) ?_
 refine G.r (Runs.neq rfl rfl) ?_
 refine G.nt ?_
 refine W.ite rfl (fun c12 => ?_) (fun c12 => ?_)
 ·refine W.sr ?_
  refine G.r (Runs.move rfl) ?_
  refine G.r (Runs.assign rfl) ?_
  refine G.r (Runs.assign rfl) ?_
  refine G.nt ?_
  refine W.sub (L' := [(7, _), (6, _)]) (Sub.cons rfl (Sub.cons rfl Sub.nil)) ?_
  refine W.ret ?_
  refine V.then_ret ?_
  have hX : (rchG nd es frm set) = [] := if_pos c12
  exact V.ret2 rfl rfl rfl (vc 3 (.slice none (rchG nd es frm set).length 0) (rchG nd es frm set) :: I) (by rw [hX]; exact Fit.trans (show Fit κ _ I from Fit.m) (Fit.nilvc (α := Int) _ _)) ⟨none, 0, by rw [hX]; rfl, rfl⟩
 ·refine W.skip ?_
  refine V.then ?_
  refine W.seq ?_
  refine W.drawn mixed ?_
  refine A.hold (blk b1 [I64 (nd), va] 25 :: I) 14 ?_
  refine D.r 0 rfl (Runs.lds (vs := [_, _]) ty25) ?_ (hJ := Fit.sub)
  refine D.r 2 rfl (Runs.move rfl) ?_ (hJ := Fit.sub)
  refine D.r 4 rfl (Runs.move rfl) ?_ (hJ := Fit.sub)
  refine D.r 6 rfl (Runs.fieldAddr fld25_0 rfl) ?_ (hJ := Fit.sub)
  refine D.r 7 rfl (Runs.ld ty3) ?_ (hJ := Fit.sub)
  refine D.step (rs := [1]) (by kernel_rfl) rfl rfl (all1 ?_)
  refine Step.eff rfl (Wanted.plain rfl) (Eff.call call75 rfl rfl (MRows_ok (nd := nd) (Sl.f hl))) ?_
  rintro _ _ ⟨_, _, ⟨ad2, cp3, rfl, rfl⟩, rfl, rfl⟩
  refine ⟨Fit.sub, ?_⟩
  have hrwad2 := rowsB_len nd es
  refine D.step (rs := [3]) (by kernel_rfl) rfl rfl (all1 ?_)
  refine Step.eff rfl (Wanted.plain rfl) (Eff.call call76 rfl rfl (MaskOf_ok (Sl.f hf))) ?_
  rintro _ _ ⟨_, _, ⟨rfl, rfl⟩, rfl, rfl⟩
  refine ⟨Fit.sub, ?_⟩
  refine D.step (rs := [5]) (by kernel_rfl) rfl rfl (all1 ?_)
  refine Step.eff rfl (Wanted.plain rfl) (Eff.call call76 rfl rfl (MaskOf_ok (Sl.f hs))) ?_
  rintro _ _ ⟨_, _, ⟨rfl, rfl⟩, rfl, rfl⟩
  refine ⟨Fit.sub, ?_⟩
  refine D.step (rs := [8]) (by kernel_rfl) rfl rfl (all1 ?_)
  refine Step.eff rfl (Wanted.plain rfl) (Eff.call call77 rfl rfl (MaskAll_ok nd)) ?_
  rintro _ _ ⟨_, _, ⟨rfl, rfl⟩, rfl, rfl⟩
  refine ⟨Fit.sub, ?_⟩
  refine D.r 9 rfl (Runs.andB (a := maskB set) (b := allB nd) rfl rfl) ?_ (hJ := Fit.sub)
  refine D.step (rs := [10]) (by kernel_rfl) rfl rfl (all1 ?_)
  refine Step.eff rfl (Wanted.plain rfl) (Eff.call call74 rfl rfl (MReach_ok Sl.o (maskB frm) ((maskB set) &&& (allB nd)) (and_all_rows _ (checkG_ok.1 (Classical.not_not.1 c12)).rng) (TabRd.fit hT Fit.m))) ?_
  rintro _ _ ⟨_, _, ⟨rfl, rfl⟩, rfl, rfl⟩
  refine ⟨Fit.sub, ?_⟩
  refine D.step (rs := [11]) (by kernel_rfl) rfl rfl (all1 ?_)
  refine Step.eff rfl (Wanted.plain rfl) (Eff.call call69 rfl rfl (MList_ok (reachB (rowsB nd es) (maskB frm) ((maskB set) &&& (allB nd))) (TabRd.fit hT Fit.m))) ?_
  rintro _ _ ⟨_, _, ⟨ad4, cp5, rfl, rfl⟩, rfl, rfl⟩
  refine ⟨Fit.sub, ?_⟩
  refine D.r 12 rfl (Runs.assign rfl) ?_ (hJ := Fit.sub)
  refine D.r 13 rfl (Runs.assign rfl) ?_ (hJ := Fit.sub)
  refine D.done (by kernel_rfl) ?_
  refine V.then ?_
  refine W.sub (L' := [(7, _), (6, _)]) (Sub.cons rfl (Sub.cons rfl Sub.nil)) ?_
  refine W.ret ?_
  have hX : (rchG nd es frm set) = _ := if_neg c12
  have hz : checkG nd es = 0 := Classical.not_not.1 c12
  exact V.ret2 rfl rfl rfl (vc 3 (.slice ad4 (rchG nd es frm set).length cp5) (rchG nd es frm set) :: I) (by rw [hX]; exact Fit.sub) ⟨ad4, cp5, by rw [hX, hz], rfl⟩

theorem Groups_ok {κ : Ctx} {I : List Item} {nd : Int} {va : Value} {es : List Pt} (hl : Sl κ I va es) (w : BitVec 64) (hw : ∀ i : Nat, w.getLsbD i = true → i < (rowsB nd es).length) (hT : TabRd κ I 0 tzCells) :
    CallS Tryd.prog κ 79 [.agg #[I64 (nd), va], U64 (w)] I (fun r J => ∃ a c rs, r = .slice a rs.length c ∧ rs.map RowG.xs = (groupsB (rowsB nd es) w).map listB ∧ J = vc 22 (.slice a rs.length c) rs :: (ownR 3 rs ++ I)) := by
 refine CallS.enter (L := [(0, .agg #[I64 (nd), va]), (1, U64 (w))]) Tryd.func79 rfl rfl rfl rfl ?_
 refine W.sr ?_
 refine G.e (Eff.box (cs := [_, _]) rfl rfl rfl) ?_
 rintro _ _ ⟨b1, rfl, rfl⟩
 refine G.r (Runs.assign rfl) ?_
 refine G.nt ?_
 refine W.sr ?_
 refine G.r (Runs.lds (vs := [_, _]) ty25) ?_
 refine G.e (Eff.call call75 rfl rfl (MRows_ok (nd := nd) (Sl.f hl))) ?_
 rintro _ _ ⟨_, _, ⟨ad2, cp3, rfl, rfl⟩, rfl, rfl⟩
 have hrwad2 := rowsB_len nd es
 refine G.r (Runs.assign rfl) ?_
 refine G.nt ?_
 refine W.sr ?_
 refine G.r (Runs.assign rfl) ?_
 refine G.nt ?_
 refine W.seq ?_
 refine W.sr ?_
 refine G.r (Runs.move rfl) ?_
 refine G.r (Runs.assign rfl) ?_
 refine G.nt ?_
 refine W.block ?_
 refine W.loop (σ := (BitVec 64) × (Option Addr) × Nat × (List (RowG Int)) × (List (BitVec 64)) × Nat) (fun s => ([(1, U64 (w)), (5, .slice ad2 (rowsB nd es).length cp3), (6, .slice s.2.1 s.2.2.2.1.length s.2.2.1), (7, U64 (s.1))] : Env)) (fun s => vc 22 (.slice s.2.1 s.2.2.2.1.length s.2.2.1) (s.2.2.2.1) :: vc 99 (.slice ad2 (rowsB nd es).length cp3) (rowsB nd es) :: blk b1 [I64 (nd), va] 25 :: (ownR 3 s.2.2.2.1 ++ I)) (fun s => (groupsB (rowsB nd es) w = s.2.2.2.2.1 ++ groupsL (rowsB nd es) w s.2.2.2.2.2 s.1) ∧ (s.2.2.2.1.map RowG.xs = s.2.2.2.2.1.map listB) ∧ ((listN s.1).length ≤ s.2.2.2.2.2 ∧ s.2.2.2.2.2 + s.2.2.2.2.1.length ≤ 64) ∧ (∀ i : Nat, s.1.getLsbD i = true → w.getLsbD i = true)) (fun s => s.2.2.2.2.2) (w, none, 0, [], [], 64) (show (groupsB (rowsB nd es) w = ([] : List (BitVec 64)) ++ groupsL (rowsB nd es) w (64 : Nat) (w : BitVec 64)) ∧ (([] : List (RowG Int)).map RowG.xs = ([] : List (BitVec 64)).map listB) ∧ ((listN (w : BitVec 64)).length ≤ (64 : Nat) ∧ (64 : Nat) + ([] : List (BitVec 64)).length ≤ 64) ∧ (∀ i : Nat, (w : BitVec 64).getLsbD i = true → w.getLsbD i = true) from ⟨rfl, rfl, ⟨listN_len _, by simp⟩, (fun _ h => h)⟩) (Sub.cons rfl (Sub.cons rfl (Sub.cons (lookV rfl (by first | rfl | simp)) (Sub.cons (lookV rfl (by first | rfl | simp)) Sub.nil)))) (show Fit κ _ (vc 22 (.slice (none) ([]).length (0)) (([])) :: vc 99 (.slice ad2 (rowsB nd es).length cp3) (rowsB nd es) :: blk b1 [I64 (nd), va] 25 :: (ownR 3 ([]) ++ I)) from (Fit.nilvc _ _)) ?_
 rintro ⟨left, a, c, rs, ms, n⟩ hp
 obtain ⟨hg, hm, hn, hs⟩ : (groupsB (rowsB nd es) w = ms ++ groupsL (rowsB nd es) w n left) ∧ (rs.map RowG.xs = ms.map listB) ∧ ((listN left).length ≤ n ∧ n + ms.length ≤ 64) ∧ (∀ i : Nat, left.getLsbD i = true → w.getLsbD i = true) := hp
 show W Tryd.prog κ 30 _ _ ([(1, U64 (w)), (5, .slice ad2 (rowsB nd es).length cp3), (6, .slice a rs.length c), (7, U64 (left))] : Env) (vc 22 (.slice a rs.length c) (rs) :: vc 99 (.slice ad2 (rowsB nd es).length cp3) (rowsB nd es) :: blk b1 [I64 (nd), va] 25 :: (ownR 3 rs ++ I))
 refine W.seq ?_
 refine W.sr ?_
 refine G.r (Runs.move rfl) ?_
 refine G.r (Runs.neB (a := left) (b := 0#64) rfl rfl) ?_
 refine G.nt ?_
 refine W.ite rfl (fun c13 => ?_) (fun c13 => ?_)
 ·refine W.skip ?_
  refine V.then ?_
  refine W.block ?_
  refine W.sr ?_
  refine G.r (Runs.move rfl) ?_
  refine G.r (Runs.move rfl) ?_
  refine G.r (Runs.move rfl) ?_
  refine G.r (Runs.negB (a := left) rfl) ?_
  refine G.r (Runs.andB (a := left) (b := -left) rfl rfl) ?_
  refine G.r (Runs.move rfl) ?_
  refine G.e (Eff.call call74 rfl rfl (MReach_ok Sl.o (left &&& (-left)) w hw (TabRd.fit hT Fit.m))) ?_
  rintro _ _ ⟨_, _, ⟨rfl, rfl⟩, rfl, rfl⟩
  refine G.r (Runs.assign rfl) ?_
  have hls := groups_less (rows := rowsB nd es) c13 hs
  refine G.nt ?_
  refine W.sub (L' := [(8, _), (1, _), (5, _), (6, _), (7, _)]) (Sub.cons rfl (Sub.cons rfl (Sub.cons rfl (Sub.cons rfl (Sub.cons rfl Sub.nil))))) ?_
  refine W.sr ?_
  refine G.r (Runs.move rfl) ?_
  refine G.r (Runs.move rfl) ?_
  refine G.e (Eff.call call69 rfl rfl (MList_ok (reachB (rowsB nd es) (left &&& (-left)) w) (TabRd.fit hT Fit.m))) ?_
  rintro _ _ ⟨_, _, ⟨ad4, cp5, rfl, rfl⟩, rfl, rfl⟩
  refine G.e (Eff.bs (α := (RowG Int)) (cs := [_]) (xs := [⟨ad4, cp5, listB (reachB (rowsB nd es) (left &&& (-left)) w)⟩]) Tryd.underlying50 ty22 rfl rfl (by decide) (by decide) rfl rfl rfl rfl) ?_
  rintro _ _ ⟨ad6, rfl, rfl⟩
  refine G.e (Eff.app (α := (RowG Int)) (e := 22) (xs := rs) (ys := ([⟨ad4, cp5, listB (reachB (rowsB nd es) (left &&& (-left)) w)⟩] : List (RowG Int))) Tryd.underlying50 ty22 rfl rfl rfl (by repeat (first | exact List.mem_cons_self | apply List.mem_cons_of_mem)) Sl.o (by simp only [List.length_cons, List.length_nil]; have := congrArg List.length hm; simp only [List.length_map] at this; omega) (by decide) rfl (fun _ _ => (by repeat (first | exact At.head _ _ _ | apply At.tail)))) ?_
  rintro _ _ ⟨ad7, cp8, rfl, rfl⟩
  refine G.r (Runs.assign rfl) ?_
  refine G.nt ?_
  refine W.region ?_
  refine G.r (Runs.move rfl) ?_
  refine G.r (Runs.move rfl) ?_
  refine G.r (Runs.andNotB (a := left) (b := reachB (rowsB nd es) (left &&& (-left)) w) rfl rfl) ?_
  refine G.r (Runs.assign rfl) ?_
  refine G.nil ?_
  refine V.block_normal ?_
  exact V.next ((left &&& ~~~(reachB (rowsB nd es) (left &&& (-left)) w)), (ad7), (cp8), (rs ++ [(⟨ad4, cp5, listB (reachB (rowsB nd es) (left &&& (-left)) w)⟩ : RowG Int)]), (ms ++ [reachB (rowsB nd es) (left &&& (-left)) w]), (n - 1)) (show (groupsB (rowsB nd es) w = (ms ++ [reachB (rowsB nd es) (left &&& (-left)) w] : List (BitVec 64)) ++ groupsL (rowsB nd es) w (n - 1 : Nat) (left &&& ~~~(reachB (rowsB nd es) (left &&& (-left)) w) : BitVec 64)) ∧ ((rs ++ [(⟨ad4, cp5, listB (reachB (rowsB nd es) (left &&& (-left)) w)⟩ : RowG Int)] : List (RowG Int)).map RowG.xs = (ms ++ [reachB (rowsB nd es) (left &&& (-left)) w] : List (BitVec 64)).map listB) ∧ ((listN (left &&& ~~~(reachB (rowsB nd es) (left &&& (-left)) w) : BitVec 64)).length ≤ (n - 1 : Nat) ∧ (n - 1 : Nat) + (ms ++ [reachB (rowsB nd es) (left &&& (-left)) w] : List (BitVec 64)).length ≤ 64) ∧ (∀ i : Nat, (left &&& ~~~(reachB (rowsB nd es) (left &&& (-left)) w) : BitVec 64).getLsbD i = true → w.getLsbD i = true) from ⟨(by rw [hg, groupsL_pos c13 (by omega), List.append_assoc]; rfl), (by rw [List.map_append, List.map_append, hm]; rfl), (by have hle := groups_less (rows := rowsB nd es) c13 hs; simp only [List.length_append, List.length_cons, List.length_nil]; omega), (fun i hi => hs i (getLsb_minus.1 hi).1)⟩) (show (n - 1 : Nat) < n from (by omega)) (Sub.cons rfl (Sub.cons rfl (Sub.cons (lookV rfl (by first | rfl | simp)) (Sub.cons (lookV rfl (by first | rfl | simp)) Sub.nil)))) (show Fit κ _ (vc 22 (.slice (ad7) (rs ++ [(⟨ad4, cp5, listB (reachB (rowsB nd es) (left &&& (-left)) w)⟩ : RowG Int)]).length (cp8)) ((rs ++ [(⟨ad4, cp5, listB (reachB (rowsB nd es) (left &&& (-left)) w)⟩ : RowG Int)])) :: vc 99 (.slice ad2 (rowsB nd es).length cp3) (rowsB nd es) :: blk b1 [I64 (nd), va] 25 :: (ownR 3 (rs ++ [(⟨ad4, cp5, listB (reachB (rowsB nd es) (left &&& (-left)) w)⟩ : RowG Int)]) ++ I)) from (Fit.trans (show Fit κ _ ([vc 22 (.slice ad7 (rs ++ [(⟨ad4, cp5, listB (reachB (rowsB nd es) (left &&& (-left)) w)⟩ : RowG Int)]).length cp8) (rs ++ [(⟨ad4, cp5, listB (reachB (rowsB nd es) (left &&& (-left)) w)⟩ : RowG Int)]), vc 99 (.slice ad2 (rowsB nd es).length cp3) (rowsB nd es), blk b1 [I64 (nd), va] 25] ++ vc 3 (.slice ad4 (listB (reachB (rowsB nd es) (left &&& (-left)) w)).length cp5) (listB (reachB (rowsB nd es) (left &&& (-left)) w)) :: (ownR 3 rs ++ I)) from Fit.s) (Fit.ownR_snoc (r := (⟨ad4, cp5, listB (reachB (rowsB nd es) (left &&& (-left)) w)⟩ : RowG Int)))))
 ·refine W.exit ?_
  refine V.then_exit ?_
  refine V.then_exit ?_
  refine V.block_hit ?_
  refine V.then ?_
  refine W.sr ?_
  refine G.r (Runs.move rfl) ?_
  refine G.r (Runs.assign rfl) ?_
  refine G.nt ?_
  refine W.ret ?_
  have hz : left = 0#64 := Classical.not_not.1 c13
  rw [hz, groupsL_zero, List.append_nil] at hg
  exact V.ret1 rfl rfl (vc 22 (.slice a rs.length c) rs :: (ownR 3 rs ++ I)) (by first | exact Fit.s | exact Fit.sub) ⟨a, c, rs, rfl, by rw [hm, hg], rfl⟩

theorem Components_ok {κ : Ctx} {I : List Item} {nd : Int} {va : Value} {es : List Pt} (hl : Sl κ I va es) (hT : TabRd κ I 0 tzCells) :
    CallS Tryd.prog κ 28 [.agg #[I64 (nd), va]] I (fun r J => ∃ a c rs, r = .tuple #[.slice a rs.length c, I64 (checkG nd es)] ∧ rs.map RowG.xs = compsG nd es ∧ J = vc 22 (.slice a rs.length c) rs :: (ownR 3 rs ++ I)) := by
 refine CallS.enter (L := [(0, .agg #[I64 (nd), va])]) Tryd.func28 rfl rfl rfl rfl ?_
 refine W.sr ?_
 refine G.e (Eff.box (cs := [_, _]) rfl rfl rfl) ?_
 rintro _ _ ⟨b1, rfl, rfl⟩
 refine G.r (Runs.assign rfl) ?_
 refine G.r (Runs.assign rfl) ?_
 refine G.nt ?_
 refine W.seq ?_
 refine W.sr ?_
 refine G.r (Runs.lds (vs := [_, _]) ty25) ?_
 refine G.e (Eff.call call66 rfl rfl (CheckGen_ok (Sl.f hl))) ?_
 rintro _ _ ⟨_, _, ⟨rfl, rfl⟩, rfl, rfl⟩
 refine G.r (Runs.assign rfl) ?_
 refine G.nt ?_
 refine W.sr ?_
 refine G.r (Runs.move rfl) ?_
 refine G.r (Runs.neq rfl rfl) ?_
 refine G.nt ?_
 refine W.ite rfl (fun c8 => ?_) (fun c8 => ?_)
 ·refine W.sr ?_
  refine G.r (Runs.move rfl) ?_
  refine G.r (Runs.assign rfl) ?_
  refine G.r (Runs.assign rfl) ?_
  refine G.nt ?_
  refine W.ret ?_
  refine V.then_ret ?_
  have hX : compsG nd es = [] := if_pos c8
  exact V.ret2 rfl rfl rfl (vc 22 (.slice none ([] : List (RowG Int)).length 0) ([] : List (RowG Int)) :: (ownR 3 ([] : List (RowG Int)) ++ I)) (Fit.trans (show Fit κ _ I from Fit.m) (Fit.nilvc (α := RowG Int) _ _)) ⟨none, 0, [], rfl, by rw [hX]; rfl, rfl⟩
 ·refine W.skip ?_
  refine V.then ?_
  refine W.seq ?_
  refine W.drawn mixed ?_
  refine A.hold (blk b1 [I64 (nd), va] 25 :: I) 7 ?_
  refine D.r 0 rfl (Runs.lds (vs := [_, _]) ty25) ?_ (hJ := Fit.sub)
  refine D.r 1 rfl (Runs.fieldAddr fld25_0 rfl) ?_ (hJ := Fit.sub)
  refine D.r 2 rfl (Runs.ld ty3) ?_ (hJ := Fit.sub)
  refine D.step (rs := [3]) (by kernel_rfl) rfl rfl (all1 ?_)
  refine Step.eff rfl (Wanted.plain rfl) (Eff.call call77 rfl rfl (MaskAll_ok nd)) ?_
  rintro _ _ ⟨_, _, ⟨rfl, rfl⟩, rfl, rfl⟩
  refine ⟨Fit.sub, ?_⟩
  refine D.step (rs := [4]) (by kernel_rfl) rfl rfl (all1 ?_)
  refine Step.eff rfl (Wanted.plain rfl) (Eff.call call79 rfl rfl (Groups_ok (nd := nd) (Sl.f hl) (allB nd) (all_rows (checkG_ok.1 (Classical.not_not.1 c8)).rng) (TabRd.fit hT Fit.m))) ?_
  rintro _ _ ⟨_, _, ⟨ad2, cp3, rs4, rfl, hrs4, rfl⟩, rfl, rfl⟩
  refine ⟨Fit.sub, ?_⟩
  refine D.fit (J := vc 22 (.slice ad2 rs4.length cp3) (rs4) :: blk b1 [I64 (nd), va] 25 :: (ownR 3 rs4 ++ I)) Fit.s ?_
  refine D.r 5 rfl (Runs.assign rfl) ?_ (hJ := Fit.sub)
  refine D.r 6 rfl (Runs.assign rfl) ?_ (hJ := Fit.sub)
  refine D.done (by kernel_rfl) ?_
  refine V.then ?_
  refine W.sub (L' := [(3, _), (2, _)]) (Sub.cons rfl (Sub.cons rfl Sub.nil)) ?_
  refine W.ret ?_
  have hz : checkG nd es = 0 := Classical.not_not.1 c8
  exact V.ret2 rfl rfl rfl (vc 22 (.slice ad2 rs4.length cp3) rs4 :: (ownR 3 rs4 ++ I)) (by first | exact Fit.s | exact Fit.sub) ⟨ad2, cp3, rs4, by rw [hz], by unfold compsG; rw [if_neg c8, hrs4], rfl⟩

end Go.Sl
namespace Go.Sl
open Go.Proofs
set_option linter.unusedVariables false
set_option linter.unusedSimpArgs false
set_option maxRecDepth 4000
/-- The reference's search: what has been found, and how many of these have been looked at. -/
structure RR (rows : List (BitVec 64)) (f l out : List Int) (i : Nat) : Prop where
  nodup : out.Nodup
  inl : ∀ x ∈ out, x ∈ l
  start : ∀ x ∈ f, x ∈ l → x ∈ out
  rch : ∀ x ∈ out, x ∈ listB (reachB rows (maskB f) (maskB l))
  closed : ∀ j : Nat, j < i → ∀ y ∈ l, (at_ rows (at_ out (j : Int))).getLsbD y.toNat = true → y ∈ out
  ile : i ≤ out.length
theorem bit_maskB {l : List Int} {i : Nat} (hi : i < 64) : (maskB l).getLsbD i = true ↔ (i : Int) ∈ l := by
  unfold maskB; rw [getLsb_maskB hi]; simp
theorem RR.begin {rows : List (BitVec 64)} {f l : List Int} (hl : ∀ x ∈ l, 0 ≤ x ∧ x < 64) : RR rows f l (meetL f l) 0 := by
  refine ⟨((ofL_asc f).imp fun h => by omega : (ofL f).Nodup).filter _, fun x hx => (mem_meetL.1 hx).2, fun x h1 h2 => mem_meetL.2 ⟨h1, h2⟩, fun x hx => ?_, fun j hj => absurd hj (Nat.not_lt_zero j), Nat.zero_le _⟩
  obtain ⟨h1, h2⟩ := mem_meetL.1 hx
  have := hl x h2
  rw [mem_listB]
  refine ⟨this.1, (reachB_ok _ _ _).start _ ?_⟩
  rw [BitVec.getLsbD_and, Bool.and_eq_true, bit_maskB (by omega), bit_maskB (by omega), show ((x.toNat : Nat) : Int) = x by omega]
  exact ⟨h1, h2⟩
theorem RR.push {rows : List (BitVec 64)} {f l out : List Int} {i : Nat} (h : RR rows f l out i) (hl : ∀ x ∈ l, 0 ≤ x ∧ x < 64) (hi : i < out.length) {y : Int} (hy : y ∈ l) (hn : y ∉ out) (hr : (at_ rows (at_ out (i : Int))).getLsbD y.toNat = true) : RR rows f l (out ++ [y]) i := by
  have hyl := hl y hy
  refine ⟨?_, fun x hx => ?_, fun x h1 h2 => List.mem_append_left _ (h.start x h1 h2), fun x hx => ?_, fun j hj z hz hzr => ?_, by rw [List.length_append]; omega⟩
  · rw [List.nodup_append]
    refine ⟨h.nodup, by simp, fun a ha b hb => ?_⟩
    rw [List.mem_singleton] at hb; subst hb
    exact fun e => hn (e ▸ ha)
  · rcases List.mem_append.1 hx with h1 | h1
    · exact h.inl x h1
    · rw [List.mem_singleton] at h1; exact h1 ▸ hy
  · rcases List.mem_append.1 hx with h1 | h1
    · exact h.rch x h1
    · rw [List.mem_singleton] at h1; subst h1
      have hm : at_ out (i : Int) ∈ out := at_mem (by omega) (by omega)
      obtain ⟨h2, h3⟩ := mem_listB.1 (h.rch _ hm)
      rw [mem_listB]
      refine ⟨hyl.1, (reachB_ok _ _ _).closed _ _ h3 (by rw [show (((at_ out (i : Int)).toNat : Nat) : Int) = at_ out (i : Int) by omega]; exact hr) ?_⟩
      rw [bit_maskB (by omega), show ((x.toNat : Nat) : Int) = x by omega]; exact hy
  · have := h.ile
    rw [at_append_left _ _ _ (by omega)] at hzr
    exact List.mem_append_left _ (h.closed j hj z hz hzr)
theorem RR.next {rows : List (BitVec 64)} {f l out : List Int} {i : Nat} (h : RR rows f l out i) (hi : i < out.length) (hc : ∀ y ∈ l, (at_ rows (at_ out (i : Int))).getLsbD y.toNat = true → y ∈ out) : RR rows f l out (i + 1) :=
  ⟨h.nodup, h.inl, h.start, h.rch, fun j hj y hy hr => by
    rcases Nat.lt_or_ge j i with h1 | h1
    · exact h.closed j h1 y hy hr
    · have e : j = i := by omega
      subst e; exact hc y hy hr, by omega⟩
theorem RR.len {rows : List (BitVec 64)} {f l out : List Int} {i : Nat} (h : RR rows f l out i) (hl : ∀ x ∈ l, 0 ≤ x ∧ x < 64) : out.length ≤ 64 := by
  have : out.length ≤ (rangeI 64).length := List.Nodup.length_le_of_subset h.nodup fun x hx => mem_rangeI.2 (by have := hl x (h.inl x hx); omega)
  rw [show (rangeI 64).length = 64 by decide +kernel] at this
  exact this
theorem RR.ends {rows : List (BitVec 64)} {f l out : List Int} {i : Nat} (h : RR rows f l out i) (hl : ∀ x ∈ l, 0 ≤ x ∧ x < 64) (hi : out.length ≤ i) : ofL out = listB (reachB rows (maskB f) (maskB l)) := by
  refine intLin.uniq (ofL_asc _) (listB_asc _) fun x => ?_
  rw [mem_ofL]
  refine ⟨h.rch x, fun hx => ?_⟩
  obtain ⟨h0, hb⟩ := mem_listB.1 hx
  have key := (reachB_ok rows (maskB f) (maskB l)).least (fun j => j < 64 ∧ (j : Int) ∈ out) (fun j hj => ?_) (fun a b hab _ hr hw => ?_) x.toNat hb
  · rw [show ((x.toNat : Nat) : Int) = x by omega] at key; exact key.2
  · have h64 : j < 64 := Classical.byContradiction fun hn => by rw [BitVec.getLsbD_of_ge _ _ (by omega)] at hj; cases hj
    rw [BitVec.getLsbD_and, Bool.and_eq_true, bit_maskB h64, bit_maskB h64] at hj
    exact ⟨h64, h.start _ hj.1 hj.2⟩
  · have h64 : b < 64 := Classical.byContradiction fun hn => by rw [BitVec.getLsbD_of_ge _ _ (by omega)] at hw; cases hw
    rw [bit_maskB h64] at hw
    obtain ⟨j, hj, he⟩ := mem_at hab.2
    refine ⟨h64, h.closed j (by omega) (b : Int) hw ?_⟩
    rw [he, Int.toNat_natCast]; exact hr
/-- Neighbours as bits of the rows. -/
theorem mem_nbG {nd : Int} {es : List Pt} (hG : GrOk nd es) {v x : Int} (hv : 0 ≤ v ∧ v < nd) : x ∈ nbG nd es v ↔ 0 ≤ x ∧ (at_ (rowsB nd es) v).getLsbD x.toNat = true := by
  rw [← nb_eq, mem_listB]
  have hr := hG.rng
  have hl := hG.rows.len
  have : rowG nd es v = at_ (rowsB nd es) v := by
    unfold rowG
    rw [if_neg]
    rintro (h | h | h)
    · omega
    · omega
    · exact h (checkG_ok.2 hG)
  rw [this]
theorem nb_closed {nd : Int} {l out : List Int} {es' : List Pt} {v : Int} {k : Nat} (hG : GrOk nd es') (hv : 0 ≤ v ∧ v < nd) (hl : ∀ x ∈ l, 0 ≤ x ∧ x < 64) (hk : (nbG nd es' v).length ≤ k) (h : ∀ m : Nat, m < k → m < (nbG nd es' v).length → at_ (nbG nd es' v) (m : Int) ∈ l → at_ (nbG nd es' v) (m : Int) ∈ out) :
    ∀ y ∈ l, (at_ (rowsB nd es') v).getLsbD y.toNat = true → y ∈ out := fun y hy hr => by
  obtain ⟨m, hm, he⟩ := mem_at ((mem_nbG hG hv).2 ⟨(hl y hy).1, hr⟩)
  have := h m (by omega) hm
  rw [he] at this
  exact this hy

theorem Reach15_ok {κ : Ctx} {I : List Item} {nd : Int} {va vf vb : Value} {es : List Pt} {frm set : List Int} (hl : Sl κ I va es) (hf : Sl κ I vf frm) (hs : Sl κ I vb set) (hG : GrOk nd es) (hsn : ∀ x ∈ set, 0 ≤ x ∧ x < nd) (hb : es.length ≤ 1000000) (hfb : frm.length ≤ 1000000)  :
    CallS Tryd.prog κ 83 [.agg #[I64 (nd), va], vf, vb] I (fun r J => ∃ a c, r = .slice a (listB (reachB (rowsB nd es) (maskB frm) (maskB set))).length c ∧ J = vc 3 (.slice a (listB (reachB (rowsB nd es) (maskB frm) (maskB set))).length c) (listB (reachB (rowsB nd es) (maskB frm) (maskB set))) :: I) := by
 have hset : ∀ x ∈ set, 0 ≤ x ∧ x < 64 := fun x hx => by have := hsn x hx; have := hG.rng; omega
 refine CallS.enter (L := [(0, .agg #[I64 (nd), va]), (1, vf), (2, vb)]) Tryd.func83 rfl rfl rfl rfl ?_
 refine W.sr ?_
 refine G.e (Eff.box (cs := [_, _]) rfl rfl rfl) ?_
 rintro _ _ ⟨b1, rfl, rfl⟩
 refine G.r (Runs.assign rfl) ?_
 refine G.nt ?_
 refine W.sr ?_
 refine G.r (Runs.move rfl) ?_
 refine G.r (Runs.move rfl) ?_
 refine G.e (Eff.call call25 rfl rfl (Meet_ok (Sl.f hf) (Sl.f hs) (by omega))) ?_
 rintro _ _ ⟨_, _, ⟨ad2, cp3, rfl, rfl⟩, rfl, rfl⟩
 refine G.r (Runs.assign rfl) ?_
 refine G.nt ?_
 refine W.seq ?_
 refine W.sr ?_
 refine G.r (Runs.assign rfl) ?_
 refine G.nt ?_
 refine W.block ?_
 refine W.loop (σ := Nat × (Option Addr) × Nat × (List Int)) (fun s => ([(2, vb), (3, .pointer (some ⟨b1, 0, none⟩)), (7, .slice s.2.1 s.2.2.2.length s.2.2.1), (8, I64 (((s.1 : Nat) : Int)))] : Env)) (fun s => vc 3 (.slice s.2.1 s.2.2.2.length s.2.2.1) (s.2.2.2) :: blk b1 [I64 (nd), va] 25 :: I) (fun s => (RR (rowsB nd es) frm set s.2.2.2 s.1)) (fun s => 65 - s.1) (0, ad2, cp3, meetL frm set) (show (RR (rowsB nd es) frm set (meetL frm set : List Int) (0 : Nat)) from (.begin hset)) (Sub.cons rfl (Sub.cons rfl (Sub.cons (lookV rfl (by first | rfl | simp)) (Sub.cons lookO Sub.nil)))) (show Fit κ _ (vc 3 (.slice (ad2) (meetL frm set).length (cp3)) ((meetL frm set)) :: blk b1 [I64 (nd), va] 25 :: I) from (by first | exact Fit.s | exact Fit.sub)) ?_
 rintro ⟨i, a, c, out⟩ hp
 have hR : (RR (rowsB nd es) frm set out i) := hp
 show W Tryd.prog κ 47 _ _ ([(2, vb), (3, .pointer (some ⟨b1, 0, none⟩)), (7, .slice a out.length c), (8, I64 (((i : Nat) : Int)))] : Env) (vc 3 (.slice a out.length c) (out) :: blk b1 [I64 (nd), va] 25 :: I)
 have hol := hR.len hset
 have hile := hR.ile
 refine W.seq ?_
 refine W.sr ?_
 refine G.r (Runs.move rfl) ?_
 refine G.r (Runs.move rfl) ?_
 refine G.r (Runs.lens Tryd.underlying22 rfl) ?_
 refine G.r (Runs.lss rfl rfl) ?_
 refine G.nt ?_
 refine W.ite rfl (fun c17 => ?_) (fun c17 => ?_)
 ·refine W.skip ?_
  refine V.then ?_
  refine W.seq ?_
  refine W.block ?_
  refine W.seq ?_
  refine W.drawn mixed ?_
  refine A.hold (vc 3 (.slice a out.length c) (out) :: blk b1 [I64 (nd), va] 25 :: I) 8 ?_
  refine D.r 0 rfl (Runs.lds (vs := [_, _]) ty25) ?_ (hJ := Fit.sub)
  refine D.r 1 rfl (Runs.move rfl) ?_ (hJ := Fit.sub)
  refine D.r 2 rfl (Runs.move rfl) ?_ (hJ := Fit.sub)
  refine D.r 3 rfl (Runs.idx (α := Int) (xs := out) Tryd.underlying22 ty3 rfl rfl Sl.o (by omega) (by omega)) ?_ (hJ := Fit.sub)
  refine D.r 4 rfl (Runs.get (xs := out) ty3 rfl Sl.o (by omega) (by omega)) ?_ (hJ := Fit.sub)
  have hv := hsn _ (hR.inl _ (at_mem (xs := out) (i := (i : Int)) (by omega) (by omega)))
  refine D.r 7 rfl (Runs.move rfl) ?_ (hJ := Fit.sub)
  refine D.step (rs := [5]) (by kernel_rfl) rfl rfl (all1 ?_)
  refine Step.eff rfl (Wanted.plain rfl) (Eff.call call26 rfl rfl (Neigh03_ok (nd := nd) (Sl.f hl) (at_ out ((i : Nat) : Int)) (by omega))) ?_
  rintro _ _ ⟨_, _, ⟨ad4, cp5, rfl, rfl⟩, rfl, rfl⟩
  refine ⟨Fit.sub, ?_⟩
  have hnl25 := nbG_len nd es (at_ out ((i : Nat) : Int))
  refine D.r 6 rfl (Runs.lens Tryd.underlying22 rfl) ?_ (hJ := Fit.sub)
  refine D.done (by kernel_rfl) ?_
  refine V.then ?_
  refine W.sub (L' := [(26, _), (25, _), (27, _), (2, _), (3, _), (7, _), (8, _)]) (Sub.cons rfl (Sub.cons rfl (Sub.cons rfl (Sub.cons rfl (Sub.cons rfl (Sub.cons rfl (Sub.cons rfl Sub.nil))))))) ?_
  refine W.block ?_
  refine W.loop (σ := Nat × (Option Addr) × Nat × (List Int)) (fun s => ([(2, vb), (3, .pointer (some ⟨b1, 0, none⟩)), (7, .slice s.2.1 s.2.2.2.length s.2.2.1), (8, I64 (((i : Nat) : Int))), (25, .slice ad4 (nbG nd es (at_ out ((i : Nat) : Int))).length cp5), (26, I64 ((((nbG nd es (at_ out ((i : Nat) : Int))).length : Nat) : Int))), (27, I64 (((s.1 : Nat) : Int)))] : Env)) (fun s => vc 3 (.slice s.2.1 s.2.2.2.length s.2.2.1) (s.2.2.2) :: vc 3 (.slice ad4 (nbG nd es (at_ out ((i : Nat) : Int))).length cp5) (nbG nd es (at_ out ((i : Nat) : Int))) :: blk b1 [I64 (nd), va] 25 :: I) (fun s => (s.1 ≤ (nbG nd es (at_ out ((i : Nat) : Int))).length) ∧ (RR (rowsB nd es) frm set s.2.2.2 i) ∧ (at_ s.2.2.2 (i : Int) = (at_ out (i : Int))) ∧ (i < s.2.2.2.length) ∧ (∀ m : Nat, m < s.1 → m < (nbG nd es (at_ out ((i : Nat) : Int))).length → at_ (nbG nd es (at_ out ((i : Nat) : Int))) (m : Int) ∈ set → at_ (nbG nd es (at_ out ((i : Nat) : Int))) (m : Int) ∈ s.2.2.2)) (fun s => (nbG nd es (at_ out ((i : Nat) : Int))).length - s.1) (0, a, c, out) (show ((0 : Nat) ≤ (nbG nd es (at_ out ((i : Nat) : Int))).length) ∧ (RR (rowsB nd es) frm set (out : List Int) i) ∧ (at_ (out : List Int) (i : Int) = (at_ out (i : Int))) ∧ (i < (out : List Int).length) ∧ (∀ m : Nat, m < (0 : Nat) → m < (nbG nd es (at_ out ((i : Nat) : Int))).length → at_ (nbG nd es (at_ out ((i : Nat) : Int))) (m : Int) ∈ set → at_ (nbG nd es (at_ out ((i : Nat) : Int))) (m : Int) ∈ (out : List Int)) from ⟨(by omega), hR, rfl, (by omega), (fun m hm => absurd hm (Nat.not_lt_zero m))⟩) (Sub.cons rfl (Sub.cons rfl (Sub.cons (lookV rfl (by first | rfl | simp)) (Sub.cons rfl (Sub.cons rfl (Sub.cons rfl (Sub.cons lookO Sub.nil))))))) (show Fit κ _ (vc 3 (.slice (a) (out).length (c)) ((out)) :: vc 3 (.slice ad4 (nbG nd es (at_ out ((i : Nat) : Int))).length cp5) (nbG nd es (at_ out ((i : Nat) : Int))) :: blk b1 [I64 (nd), va] 25 :: I) from (by first | exact Fit.s | exact Fit.sub)) ?_
  rintro ⟨k, a1, c1, out1⟩ hp
  obtain ⟨hk, hR1, ho1, hil, hd⟩ : (k ≤ (nbG nd es (at_ out ((i : Nat) : Int))).length) ∧ (RR (rowsB nd es) frm set out1 i) ∧ (at_ out1 (i : Int) = (at_ out (i : Int))) ∧ (i < out1.length) ∧ (∀ m : Nat, m < k → m < (nbG nd es (at_ out ((i : Nat) : Int))).length → at_ (nbG nd es (at_ out ((i : Nat) : Int))) (m : Int) ∈ set → at_ (nbG nd es (at_ out ((i : Nat) : Int))) (m : Int) ∈ out1) := hp
  show W Tryd.prog κ 47 _ _ ([(2, vb), (3, .pointer (some ⟨b1, 0, none⟩)), (7, .slice a1 out1.length c1), (8, I64 (((i : Nat) : Int))), (25, .slice ad4 (nbG nd es (at_ out ((i : Nat) : Int))).length cp5), (26, I64 ((((nbG nd es (at_ out ((i : Nat) : Int))).length : Nat) : Int))), (27, I64 (((k : Nat) : Int)))] : Env) (vc 3 (.slice a1 out1.length c1) (out1) :: vc 3 (.slice ad4 (nbG nd es (at_ out ((i : Nat) : Int))).length cp5) (nbG nd es (at_ out ((i : Nat) : Int))) :: blk b1 [I64 (nd), va] 25 :: I)
  have hol1 := hR1.len hset
  refine W.sr ?_
  refine G.r (Runs.lss rfl rfl) ?_
  refine G.nt ?_
  refine W.seq ?_
  refine W.ite rfl (fun c28 => ?_) (fun c28 => ?_)
  ·refine W.skip ?_
   refine V.then ?_
   refine W.seq ?_
   refine W.block ?_
   refine W.sr ?_
   refine G.r (Runs.idx (α := Int) (xs := nbG nd es (at_ out ((i : Nat) : Int))) Tryd.underlying22 ty3 rfl rfl Sl.o (by omega) (by omega)) ?_
   refine G.r (Runs.get (xs := nbG nd es (at_ out ((i : Nat) : Int))) ty3 rfl Sl.o (by omega) (by omega)) ?_
   refine G.r (Runs.assign rfl) ?_
   refine G.nt ?_
   refine W.sr ?_
   refine G.r (Runs.move rfl) ?_
   refine G.r (Runs.move rfl) ?_
   refine G.e (Eff.call call19 rfl rfl (RHas_ok (Sl.f hs) (at_ (nbG nd es (at_ out ((i : Nat) : Int))) ((k : Nat) : Int)))) ?_
   rintro _ _ ⟨_, _, ⟨rfl, rfl⟩, rfl, rfl⟩
   refine G.r (Runs.move rfl) ?_
   refine G.split (d := 34) rfl (fun g34 => ?_) (fun g34 => ?_)
   ·refine G.ro (Runs.move rfl) ?_
    refine G.ro (Runs.move rfl) ?_
    refine G.eff (Wanted.on rfl rfl rfl) (Eff.call call19 rfl rfl (RHas_ok Sl.o (at_ (nbG nd es (at_ out ((i : Nat) : Int))) ((k : Nat) : Int)))) ?_
    rintro _ _ ⟨_, _, ⟨rfl, rfl⟩, rfl, rfl⟩
    refine G.ro (Runs.notd rfl) ?_
    refine G.r (Runs.pickt rfl rfl) ?_
    refine G.nt ?_
    refine W.sub (L' := [(39, _), (10, _), (2, _), (3, _), (7, _), (8, _), (25, _), (26, _), (27, _)]) (Sub.cons rfl (Sub.cons rfl (Sub.cons rfl (Sub.cons rfl (Sub.cons rfl (Sub.cons rfl (Sub.cons rfl (Sub.cons rfl (Sub.cons rfl Sub.nil))))))))) ?_
    refine W.ite rfl (fun c39 => ?_) (fun c39 => ?_)
    ·refine W.region ?_
     refine G.r (Runs.move rfl) ?_
     refine G.r (Runs.move rfl) ?_
     refine G.e (Eff.bs (α := Int) (cs := [_]) (xs := [at_ (nbG nd es (at_ out ((i : Nat) : Int))) ((k : Nat) : Int)]) Tryd.underlying22 ty3 rfl rfl (by decide) (by decide) rfl rfl rfl rfl) ?_
     rintro _ _ ⟨ad6, rfl, rfl⟩
     refine G.e (Eff.app (α := Int) (e := 3) (xs := out1) (ys := ([at_ (nbG nd es (at_ out ((i : Nat) : Int))) ((k : Nat) : Int)] : List Int)) Tryd.underlying22 ty3 rfl rfl rfl (by repeat (first | exact List.mem_cons_self | apply List.mem_cons_of_mem)) Sl.o (by simp only [List.length_cons, List.length_nil]; omega) (by decide) rfl (fun _ _ => (by repeat (first | exact At.head _ _ _ | apply At.tail)))) ?_
     rintro _ _ ⟨ad7, cp8, rfl, rfl⟩
     refine G.r (Runs.assign rfl) ?_
     refine G.nil ?_
     refine V.block_normal ?_
     refine V.then ?_
     refine W.sub (L' := [(7, _), (2, _), (3, _), (8, _), (25, _), (26, _), (27, _)]) (Sub.cons rfl (Sub.cons rfl (Sub.cons rfl (Sub.cons rfl (Sub.cons rfl (Sub.cons rfl (Sub.cons rfl Sub.nil))))))) ?_
     refine W.region ?_
     refine G.r (Runs.add rfl rfl (by unfold InR; omega)) ?_
     refine G.r (Runs.move rfl) ?_
     refine G.nil ?_
     exact V.next ((k + 1), (ad7), (cp8), (out1 ++ ([at_ (nbG nd es (at_ out ((i : Nat) : Int))) ((k : Nat) : Int)] : List Int))) (show ((k + 1 : Nat) ≤ (nbG nd es (at_ out ((i : Nat) : Int))).length) ∧ (RR (rowsB nd es) frm set (out1 ++ ([at_ (nbG nd es (at_ out ((i : Nat) : Int))) ((k : Nat) : Int)] : List Int) : List Int) i) ∧ (at_ (out1 ++ ([at_ (nbG nd es (at_ out ((i : Nat) : Int))) ((k : Nat) : Int)] : List Int) : List Int) (i : Int) = (at_ out (i : Int))) ∧ (i < (out1 ++ ([at_ (nbG nd es (at_ out ((i : Nat) : Int))) ((k : Nat) : Int)] : List Int) : List Int).length) ∧ (∀ m : Nat, m < (k + 1 : Nat) → m < (nbG nd es (at_ out ((i : Nat) : Int))).length → at_ (nbG nd es (at_ out ((i : Nat) : Int))) (m : Int) ∈ set → at_ (nbG nd es (at_ out ((i : Nat) : Int))) (m : Int) ∈ (out1 ++ ([at_ (nbG nd es (at_ out ((i : Nat) : Int))) ((k : Nat) : Int)] : List Int) : List Int)) from ⟨(by omega), (hR1.push hset (by omega) g34 c39 (by rw [ho1]; exact ((mem_nbG hG hv).1 (at_mem (by omega) (by omega))).2)), (by rw [at_append_left _ _ _ (by omega)]; exact ho1), (by rw [List.length_append]; omega), (fun m hm hm2 hml => (Nat.lt_or_ge m k).elim (fun h => List.mem_append_left _ (hd m h hm2 hml)) fun h => by rw [show m = k by omega]; exact List.mem_append_right _ List.mem_cons_self)⟩) (show (nbG nd es (at_ out ((i : Nat) : Int))).length - (k + 1 : Nat) < (nbG nd es (at_ out ((i : Nat) : Int))).length - k from (by omega)) (Sub.cons rfl (Sub.cons rfl (Sub.cons (lookV rfl (by first | rfl | simp)) (Sub.cons rfl (Sub.cons rfl (Sub.cons rfl (Sub.cons lookO Sub.nil))))))) (show Fit κ _ (vc 3 (.slice (ad7) (out1 ++ ([at_ (nbG nd es (at_ out ((i : Nat) : Int))) ((k : Nat) : Int)] : List Int)).length (cp8)) ((out1 ++ ([at_ (nbG nd es (at_ out ((i : Nat) : Int))) ((k : Nat) : Int)] : List Int))) :: vc 3 (.slice ad4 (nbG nd es (at_ out ((i : Nat) : Int))).length cp5) (nbG nd es (at_ out ((i : Nat) : Int))) :: blk b1 [I64 (nd), va] 25 :: I) from (by first | exact Fit.s | exact Fit.sub))
    ·refine W.skip ?_
     refine V.block_normal ?_
     refine V.then ?_
     refine W.region ?_
     refine G.r (Runs.add rfl rfl (by unfold InR; omega)) ?_
     refine G.r (Runs.move rfl) ?_
     refine G.nil ?_
     exact V.next ((k + 1), (a1), (c1), (out1)) (show ((k + 1 : Nat) ≤ (nbG nd es (at_ out ((i : Nat) : Int))).length) ∧ (RR (rowsB nd es) frm set (out1 : List Int) i) ∧ (at_ (out1 : List Int) (i : Int) = (at_ out (i : Int))) ∧ (i < (out1 : List Int).length) ∧ (∀ m : Nat, m < (k + 1 : Nat) → m < (nbG nd es (at_ out ((i : Nat) : Int))).length → at_ (nbG nd es (at_ out ((i : Nat) : Int))) (m : Int) ∈ set → at_ (nbG nd es (at_ out ((i : Nat) : Int))) (m : Int) ∈ (out1 : List Int)) from ⟨(by omega), (by omega), (by omega), (by omega), (fun m hm hm2 hml => (Nat.lt_or_ge m k).elim (fun h => hd m h hm2 hml) fun h => by rw [show m = k by omega] at hml ⊢; first | exact Classical.not_not.1 c39 | exact absurd hml g34)⟩) (show (nbG nd es (at_ out ((i : Nat) : Int))).length - (k + 1 : Nat) < (nbG nd es (at_ out ((i : Nat) : Int))).length - k from (by omega)) (Sub.cons rfl (Sub.cons rfl (Sub.cons (lookV rfl (by first | rfl | simp)) (Sub.cons rfl (Sub.cons rfl (Sub.cons rfl (Sub.cons lookO Sub.nil))))))) (show Fit κ _ (vc 3 (.slice (a1) (out1).length (c1)) ((out1)) :: vc 3 (.slice ad4 (nbG nd es (at_ out ((i : Nat) : Int))).length cp5) (nbG nd es (at_ out ((i : Nat) : Int))) :: blk b1 [I64 (nd), va] 25 :: I) from (by first | exact Fit.s | exact Fit.sub))
   ·refine G.po ?_
    refine G.po ?_
    refine G.po ?_
    refine G.po ?_
    refine G.r (Runs.pickf rfl rfl) ?_
    refine G.nt ?_
    refine W.sub (L' := [(39, _), (10, _), (2, _), (3, _), (7, _), (8, _), (25, _), (26, _), (27, _)]) (Sub.cons rfl (Sub.cons rfl (Sub.cons rfl (Sub.cons rfl (Sub.cons rfl (Sub.cons rfl (Sub.cons rfl (Sub.cons rfl (Sub.cons rfl Sub.nil))))))))) ?_
    refine W.no rfl ?_
    refine W.skip ?_
    refine V.block_normal ?_
    refine V.then ?_
    refine W.region ?_
    refine G.r (Runs.add rfl rfl (by unfold InR; omega)) ?_
    refine G.r (Runs.move rfl) ?_
    refine G.nil ?_
    exact V.next ((k + 1), (a1), (c1), (out1)) (show ((k + 1 : Nat) ≤ (nbG nd es (at_ out ((i : Nat) : Int))).length) ∧ (RR (rowsB nd es) frm set (out1 : List Int) i) ∧ (at_ (out1 : List Int) (i : Int) = (at_ out (i : Int))) ∧ (i < (out1 : List Int).length) ∧ (∀ m : Nat, m < (k + 1 : Nat) → m < (nbG nd es (at_ out ((i : Nat) : Int))).length → at_ (nbG nd es (at_ out ((i : Nat) : Int))) (m : Int) ∈ set → at_ (nbG nd es (at_ out ((i : Nat) : Int))) (m : Int) ∈ (out1 : List Int)) from ⟨(by omega), (by omega), (by omega), (by omega), (fun m hm hm2 hml => (Nat.lt_or_ge m k).elim (fun h => hd m h hm2 hml) fun h => by rw [show m = k by omega] at hml ⊢; first | exact Classical.not_not.1 c39 | exact absurd hml g34)⟩) (show (nbG nd es (at_ out ((i : Nat) : Int))).length - (k + 1 : Nat) < (nbG nd es (at_ out ((i : Nat) : Int))).length - k from (by omega)) (Sub.cons rfl (Sub.cons rfl (Sub.cons (lookV rfl (by first | rfl | simp)) (Sub.cons rfl (Sub.cons rfl (Sub.cons rfl (Sub.cons lookO Sub.nil))))))) (show Fit κ _ (vc 3 (.slice (a1) (out1).length (c1)) ((out1)) :: vc 3 (.slice ad4 (nbG nd es (at_ out ((i : Nat) : Int))).length cp5) (nbG nd es (at_ out ((i : Nat) : Int))) :: blk b1 [I64 (nd), va] 25 :: I) from (by first | exact Fit.s | exact Fit.sub))
  ·refine W.exit ?_
   refine V.then_exit ?_
   refine V.then_exit ?_
   refine V.block_hit ?_
   refine V.block_normal ?_
   refine V.then ?_
   refine W.region ?_
   refine G.r (Runs.move rfl) ?_
   refine G.r (Runs.add rfl rfl (by unfold InR; omega)) ?_
   refine G.r (Runs.assign rfl) ?_
   refine G.nil ?_
   exact V.next ((i + 1), (a1), (c1), (out1)) (show (RR (rowsB nd es) frm set (out1 : List Int) (i + 1 : Nat)) from (hR1.next hil (by rw [ho1]; exact nb_closed hG hv hset (by omega) hd))) (show 65 - (i + 1 : Nat) < 65 - i from (by omega)) (Sub.cons rfl (Sub.cons rfl (Sub.cons (lookV rfl (by first | rfl | simp)) (Sub.cons lookO Sub.nil)))) (show Fit κ _ (vc 3 (.slice (a1) (out1).length (c1)) ((out1)) :: blk b1 [I64 (nd), va] 25 :: I) from (by first | exact Fit.s | exact Fit.sub))
 ·refine W.exit ?_
  refine V.then_exit ?_
  refine V.then_exit ?_
  refine V.block_hit ?_
  refine V.then ?_
  refine W.sr ?_
  refine G.r (Runs.move rfl) ?_
  refine G.e (Eff.call call18 rfl rfl (Of_ok Sl.o (by omega))) ?_
  rintro _ _ ⟨_, _, ⟨ad9, cp10, rfl, rfl⟩, rfl, rfl⟩
  refine G.r (Runs.assign rfl) ?_
  refine G.nt ?_
  refine W.ret ?_
  have hX := hR.ends hset (by omega)
  exact V.ret1 rfl rfl (vc 3 (.slice ad9 (listB (reachB (rowsB nd es) (maskB frm) (maskB set))).length cp10) (listB (reachB (rowsB nd es) (maskB frm) (maskB set))) :: I) (by rw [← hX]; exact Fit.sub) ⟨ad9, cp10, by rw [← hX], rfl⟩

theorem mask_range {nd : Int} (h : 0 ≤ nd ∧ nd ≤ 64) : maskB (rangeI nd) = allB nd := by
  refine BitVec.eq_of_getLsbD_eq fun i hi => ?_
  rw [getLsb_allB h.1 h.2 hi, Bool.eq_iff_iff, bit_maskB hi, mem_rangeI, decide_eq_true_eq]; omega
theorem mask_one (u : Int) : maskB [u] = bitB u := by unfold maskB; simp
theorem bit_one {u : Int} (h : 0 ≤ u ∧ u < 64) : bitB u = oneB u.toNat := by unfold bitB oneB; rw [if_neg (by omega)]
theorem tog_eq {nd u v : Int} {es : List Pt} (h : 0 ≤ nd ∧ nd ≤ 64) (hu : 0 ≤ u ∧ u < nd) (hv : 0 ≤ v ∧ v < nd) : togB nd es [u, v] = decide (Conn (rowsB nd es) (allB nd) u.toNat v.toNat) := by
  unfold togB
  rw [if_neg (by simp), show at_ [u, v] 0 = u from rfl, decide_eq_decide, bit_one (by omega)]
  have hwu : (allB nd).getLsbD u.toNat = true := by rw [getLsb_allB h.1 h.2 (by omega), decide_eq_true_eq]; omega
  have hru := Conn.refl (rows := rowsB nd es) hwu
  constructor
  · intro e
    refine ⟨by omega, ?_⟩
    have := congrArg (fun b => BitVec.getLsbD b v.toNat) e
    simp only [BitVec.getLsbD_zero] at this
    rw [← Bool.not_eq_true, getLsb_minus] at this
    rw [← Bool.not_eq_false]
    exact fun hh => this ⟨(bit_maskB (by omega)).2 (by simp; omega), hh⟩
  · intro hc
    refine BitVec.eq_of_getLsbD_eq fun i hi => ?_
    rw [BitVec.getLsbD_zero, ← Bool.not_eq_true, getLsb_minus, bit_maskB hi]
    rintro ⟨h1, h2⟩
    simp only [List.mem_cons, List.not_mem_nil, or_false] at h1
    rcases h1 with h1 | h1
    · rw [show i = u.toNat by omega, hru.2] at h2; cases h2
    · rw [show i = v.toNat by omega, hc.2] at h2; cases h2
theorem same_eq {nd u v : Int} {es : List Pt} (h : 0 ≤ nd ∧ nd ≤ 64) (hu : 0 ≤ u ∧ u < nd) (hv : 0 ≤ v ∧ v < nd) : decide (v ∈ listB (reachB (rowsB nd es) (maskB [u]) (maskB (rangeI nd)))) = togB nd es [u, v] := by
  rw [tog_eq h hu hv, decide_eq_decide, mask_range h, mask_one, bit_one (by omega), mem_listB]
  exact ⟨fun h => ⟨by omega, h.2⟩, fun h => ⟨by omega, h.2⟩⟩
theorem rowsB_sym {nd : Int} {es : List Pt} (hG : GrOk nd es) : SymR (rowsB nd es) := by
  have key : ∀ i j : Nat, (at_ (rowsB nd es) (i : Int)).getLsbD j = true → (at_ (rowsB nd es) (j : Int)).getLsbD i = true := fun i j h => by
    have hl := hG.rows.len
    have hr := hG.rng
    have hj : j < 64 := Classical.byContradiction fun hn => by rw [BitVec.getLsbD_of_ge _ _ (by omega)] at h; cases h
    have hi : (i : Int) < nd := Classical.byContradiction fun hn => by
      rw [at_nat, List.getD_eq_getElem?_getD, List.getElem?_eq_none (by omega)] at h
      exact absurd h (by show ¬ (0#64).getLsbD j = true; simp)
    have e1 := hG.rows.bit (i : Int) (j : Int) (by omega) hi (by omega) (by omega)
    rw [Int.toNat_natCast, h] at e1
    have h2 := of_decide_eq_true e1.symm
    have hjn : (j : Int) < nd := by
      rcases h2 with h3 | h3
      · have := hG.edge _ h3; simp only at this; omega
      · have := hG.edge _ h3; simp only at this; omega
    have e2 := hG.rows.bit (j : Int) (i : Int) (by omega) hjn (by omega) (by omega)
    rw [Int.toNat_natCast] at e2
    rw [e2, decide_eq_true_eq]
    exact h2.symm
  intro i j
  rw [Bool.eq_iff_iff]
  exact ⟨key i j, key j i⟩

theorem Same15_ok {κ : Ctx} {I : List Item} {nd : Int} {va : Value} {es : List Pt} (hl : Sl κ I va es) (u v : Int) (hb : es.length ≤ 1000000)  :
    CallS Tryd.prog κ 32 [.agg #[I64 (nd), va], I64 (u), I64 (v)] I (fun r J => r = .tuple #[.bool (sameG nd es u v), I64 (sameE nd es u v)] ∧ I = J) := by
 refine CallS.enter (L := [(0, .agg #[I64 (nd), va]), (1, I64 (u)), (2, I64 (v))]) Tryd.func32 rfl rfl rfl rfl ?_
 refine W.sr ?_
 refine G.e (Eff.box (cs := [_, _]) rfl rfl rfl) ?_
 rintro _ _ ⟨b1, rfl, rfl⟩
 refine G.r (Runs.assign rfl) ?_
 refine G.r (Runs.assign rfl) ?_
 refine G.nt ?_
 refine W.seq ?_
 refine W.sr ?_
 refine G.r (Runs.lds (vs := [_, _]) ty25) ?_
 refine G.e (Eff.call call70 rfl rfl (Check03G_ok (nd := nd) (Sl.f hl))) ?_
 rintro _ _ ⟨_, _, ⟨rfl, rfl⟩, rfl, rfl⟩
 refine G.r (Runs.assign rfl) ?_
 refine G.nt ?_
 refine W.sr ?_
 refine G.r (Runs.move rfl) ?_
 refine G.r (Runs.neq rfl rfl) ?_
 refine G.nt ?_
 refine W.ite rfl (fun c12 => ?_) (fun c12 => ?_)
 ·refine W.sr ?_
  refine G.r (Runs.move rfl) ?_
  refine G.r (Runs.assign rfl) ?_
  refine G.r (Runs.assign rfl) ?_
  refine G.nt ?_
  refine W.sub (L' := [(7, _), (6, _)]) (Sub.cons rfl (Sub.cons rfl Sub.nil)) ?_
  refine W.ret ?_
  refine V.then_ret ?_
  have hE : sameE nd es u v = checkG nd es := by unfold sameE; rw [if_pos c12]
  have hS : sameG nd es u v = false := by unfold sameG; rw [if_pos (by rw [hE]; exact c12)]
  exact V.ret2 rfl rfl rfl (I) Fit.m ⟨by rw [hE, hS], rfl⟩
 ·refine W.skip ?_
  refine V.then ?_
  refine W.seq ?_
  refine W.sr ?_
  refine G.r (Runs.move rfl) ?_
  refine G.r (Runs.lss rfl rfl) ?_
  refine G.r (Runs.move rfl) ?_
  refine G.split (d := 16) rfl (fun g16 => ?_) (fun g16 => ?_)
  ·refine G.po ?_
   refine G.po ?_
   refine G.r (Runs.pickt rfl rfl) ?_
   refine G.r (Runs.move rfl) ?_
   refine G.po ?_
   refine G.po ?_
   refine G.po ?_
   refine G.po ?_
   refine G.r (Runs.pickt rfl rfl) ?_
   refine G.r (Runs.move rfl) ?_
   refine G.po ?_
   refine G.po ?_
   refine G.po ?_
   refine G.po ?_
   refine G.r (Runs.pickt rfl rfl) ?_
   refine G.nt ?_
   refine W.sub (L' := [(31, _), (3, _), (1, _), (2, _)]) (Sub.cons rfl (Sub.cons rfl (Sub.cons rfl (Sub.cons rfl Sub.nil)))) ?_
   refine W.yes rfl ?_
   refine W.sr ?_
   refine G.r (Runs.assign rfl) ?_
   refine G.r (Runs.assign rfl) ?_
   refine G.nt ?_
   refine W.ret ?_
   refine V.then_ret ?_
   have hE : sameE nd es u v = 6 := by unfold sameE; rw [if_neg c12, if_pos (by omega)]
   have hS : sameG nd es u v = false := by unfold sameG; rw [if_pos (by rw [hE]; decide)]
   exact V.ret2 rfl rfl rfl (I) Fit.m ⟨by rw [hE, hS], rfl⟩
  ·refine G.ro (Runs.move rfl) ?_
   refine G.ro (Runs.lss rfl rfl) ?_
   refine G.r (Runs.pickf rfl rfl) ?_
   refine G.r (Runs.move rfl) ?_
   refine G.split (d := 20) rfl (fun g20 => ?_) (fun g20 => ?_)
   ·refine G.po ?_
    refine G.po ?_
    refine G.po ?_
    refine G.po ?_
    refine G.r (Runs.pickt rfl rfl) ?_
    refine G.r (Runs.move rfl) ?_
    refine G.po ?_
    refine G.po ?_
    refine G.po ?_
    refine G.po ?_
    refine G.r (Runs.pickt rfl rfl) ?_
    refine G.nt ?_
    refine W.sub (L' := [(31, _), (3, _), (1, _), (2, _)]) (Sub.cons rfl (Sub.cons rfl (Sub.cons rfl (Sub.cons rfl Sub.nil)))) ?_
    refine W.yes rfl ?_
    refine W.sr ?_
    refine G.r (Runs.assign rfl) ?_
    refine G.r (Runs.assign rfl) ?_
    refine G.nt ?_
    refine W.ret ?_
    refine V.then_ret ?_
    have hE : sameE nd es u v = 6 := by unfold sameE; rw [if_neg c12, if_pos (by omega)]
    have hS : sameG nd es u v = false := by unfold sameG; rw [if_pos (by rw [hE]; decide)]
    exact V.ret2 rfl rfl rfl (I) Fit.m ⟨by rw [hE, hS], rfl⟩
   ·refine G.ro (Runs.move rfl) ?_
    refine G.ro (Runs.fieldAddr fld25_0 rfl) ?_
    refine G.ro (Runs.ld ty3) ?_
    refine G.ro (Runs.geq rfl rfl) ?_
    refine G.r (Runs.pickf rfl rfl) ?_
    refine G.r (Runs.move rfl) ?_
    refine G.split (d := 26) rfl (fun g26 => ?_) (fun g26 => ?_)
    ·refine G.po ?_
     refine G.po ?_
     refine G.po ?_
     refine G.po ?_
     refine G.r (Runs.pickt rfl rfl) ?_
     refine G.nt ?_
     refine W.sub (L' := [(31, _), (3, _), (1, _), (2, _)]) (Sub.cons rfl (Sub.cons rfl (Sub.cons rfl (Sub.cons rfl Sub.nil)))) ?_
     refine W.yes rfl ?_
     refine W.sr ?_
     refine G.r (Runs.assign rfl) ?_
     refine G.r (Runs.assign rfl) ?_
     refine G.nt ?_
     refine W.ret ?_
     refine V.then_ret ?_
     have hE : sameE nd es u v = 6 := by unfold sameE; rw [if_neg c12, if_pos (by omega)]
     have hS : sameG nd es u v = false := by unfold sameG; rw [if_pos (by rw [hE]; decide)]
     exact V.ret2 rfl rfl rfl (I) Fit.m ⟨by rw [hE, hS], rfl⟩
    ·refine G.ro (Runs.move rfl) ?_
     refine G.ro (Runs.fieldAddr fld25_0 rfl) ?_
     refine G.ro (Runs.ld ty3) ?_
     refine G.ro (Runs.geq rfl rfl) ?_
     refine G.r (Runs.pickf rfl rfl) ?_
     refine G.nt ?_
     refine W.sub (L' := [(31, _), (3, _), (1, _), (2, _)]) (Sub.cons rfl (Sub.cons rfl (Sub.cons rfl (Sub.cons rfl Sub.nil)))) ?_
     refine W.ite rfl (fun c31 => ?_) (fun c31 => ?_)
     ·refine W.sr ?_
      refine G.r (Runs.assign rfl) ?_
      refine G.r (Runs.assign rfl) ?_
      refine G.nt ?_
      refine W.ret ?_
      refine V.then_ret ?_
      have hE : sameE nd es u v = 6 := by unfold sameE; rw [if_neg c12, if_pos (by omega)]
      have hS : sameG nd es u v = false := by unfold sameG; rw [if_pos (by rw [hE]; decide)]
      exact V.ret2 rfl rfl rfl (I) Fit.m ⟨by rw [hE, hS], rfl⟩
     ·refine W.skip ?_
      refine V.then ?_
      refine W.seq ?_
      refine W.drawn mixed ?_
      refine A.hold (blk b1 [I64 (nd), va] 25 :: I) 11 ?_
      refine D.r 0 rfl (Runs.lds (vs := [_, _]) ty25) ?_ (hJ := Fit.sub)
      refine D.r 1 rfl (Runs.move rfl) ?_ (hJ := Fit.sub)
      refine D.r 3 rfl (Runs.fieldAddr fld25_0 rfl) ?_ (hJ := Fit.sub)
      refine D.r 4 rfl (Runs.ld ty3) ?_ (hJ := Fit.sub)
      refine D.r 7 rfl (Runs.move rfl) ?_ (hJ := Fit.sub)
      refine D.step (rs := [2, 5]) (by kernel_rfl) rfl rfl (all2 ?_ (all1 ?_))
      ·refine Step.eff rfl (Wanted.plain rfl) (Eff.bs (α := Int) (cs := [_]) (xs := [u]) Tryd.underlying22 ty3 rfl rfl (by decide) (by decide) rfl rfl rfl rfl) ?_
       rintro _ _ ⟨ad2, rfl, rfl⟩
       refine ⟨Fit.sub, ?_⟩
       refine D.step (rs := [5]) (by kernel_rfl) rfl rfl (all1 ?_)
       refine Step.eff rfl (Wanted.plain rfl) (Eff.call call29 rfl rfl (Range_ok nd)) ?_
       rintro _ _ ⟨_, _, ⟨ad3, cp4, rfl, rfl⟩, rfl, rfl⟩
       refine ⟨Fit.sub, ?_⟩
       refine D.step (rs := [6]) (by kernel_rfl) rfl rfl (all1 ?_)
       refine Step.eff rfl (Wanted.plain rfl) (Eff.call call83 rfl rfl (Reach15_ok (nd := nd) (Sl.f hl) Sl.o Sl.o (checkG_ok.1 (Classical.not_not.1 c12)) (fun x hx => by have := mem_rangeI.1 hx; omega) (by omega) (by simp))) ?_
       rintro _ _ ⟨_, _, ⟨ad5, cp6, rfl, rfl⟩, rfl, rfl⟩
       refine ⟨Fit.sub, ?_⟩
       refine D.step (rs := [8]) (by kernel_rfl) rfl rfl (all1 ?_)
       refine Step.eff rfl (Wanted.plain rfl) (Eff.call call19 rfl rfl (RHas_ok Sl.o v)) ?_
       rintro _ _ ⟨_, _, ⟨rfl, rfl⟩, rfl, rfl⟩
       refine ⟨Fit.sub, ?_⟩
       refine D.r 9 rfl (Runs.assign rfl) ?_ (hJ := Fit.sub)
       refine D.r 10 rfl (Runs.assign rfl) ?_ (hJ := Fit.sub)
       refine D.done (by kernel_rfl) ?_
       refine V.then ?_
       refine W.sub (L' := [(7, _), (6, _)]) (Sub.cons rfl (Sub.cons rfl Sub.nil)) ?_
       refine W.ret ?_
       have hE : sameE nd es u v = 0 := by unfold sameE; rw [if_neg c12, if_neg (by omega)]
       have hS : sameG nd es u v = togB nd es [u, v] := by unfold sameG; rw [if_neg (by rw [hE]; decide)]
       have hT := same_eq (es := es) (checkG_ok.1 (Classical.not_not.1 c12)).rng (u := u) (v := v) (by omega) (by omega)
       exact V.ret2 rfl rfl rfl (I) Fit.m ⟨by rw [hE, hS, ← hT], rfl⟩
      ·refine Step.eff rfl (Wanted.plain rfl) (Eff.call call29 rfl rfl (Range_ok nd)) ?_
       rintro _ _ ⟨_, _, ⟨ad7, cp8, rfl, rfl⟩, rfl, rfl⟩
       refine ⟨Fit.sub, ?_⟩
       refine D.step (rs := [2]) (by kernel_rfl) rfl rfl (all1 ?_)
       refine Step.eff rfl (Wanted.plain rfl) (Eff.bs (α := Int) (cs := [_]) (xs := [u]) Tryd.underlying22 ty3 rfl rfl (by decide) (by decide) rfl rfl rfl rfl) ?_
       rintro _ _ ⟨ad9, rfl, rfl⟩
       refine ⟨Fit.sub, ?_⟩
       refine D.step (rs := [6]) (by kernel_rfl) rfl rfl (all1 ?_)
       refine Step.eff rfl (Wanted.plain rfl) (Eff.call call83 rfl rfl (Reach15_ok (nd := nd) (Sl.f hl) Sl.o Sl.o (checkG_ok.1 (Classical.not_not.1 c12)) (fun x hx => by have := mem_rangeI.1 hx; omega) (by omega) (by simp))) ?_
       rintro _ _ ⟨_, _, ⟨ad10, cp11, rfl, rfl⟩, rfl, rfl⟩
       refine ⟨Fit.sub, ?_⟩
       refine D.step (rs := [8]) (by kernel_rfl) rfl rfl (all1 ?_)
       refine Step.eff rfl (Wanted.plain rfl) (Eff.call call19 rfl rfl (RHas_ok Sl.o v)) ?_
       rintro _ _ ⟨_, _, ⟨rfl, rfl⟩, rfl, rfl⟩
       refine ⟨Fit.sub, ?_⟩
       refine D.r 9 rfl (Runs.assign rfl) ?_ (hJ := Fit.sub)
       refine D.r 10 rfl (Runs.assign rfl) ?_ (hJ := Fit.sub)
       refine D.done (by kernel_rfl) ?_
       refine V.then ?_
       refine W.sub (L' := [(7, _), (6, _)]) (Sub.cons rfl (Sub.cons rfl Sub.nil)) ?_
       refine W.ret ?_
       have hE : sameE nd es u v = 0 := by unfold sameE; rw [if_neg c12, if_neg (by omega)]
       have hS : sameG nd es u v = togB nd es [u, v] := by unfold sameG; rw [if_neg (by rw [hE]; decide)]
       have hT := same_eq (es := es) (checkG_ok.1 (Classical.not_not.1 c12)).rng (u := u) (v := v) (by omega) (by omega)
       exact V.ret2 rfl rfl rfl (I) Fit.m ⟨by rw [hE, hS, ← hT], rfl⟩

end Go.Sl
