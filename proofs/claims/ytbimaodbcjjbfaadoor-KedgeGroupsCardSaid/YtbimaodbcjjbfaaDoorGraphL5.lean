/- A part of the proofs of statements of this seat: contracts of functions, and the plain laws that they lean on. No conditions. -/
import Derived.Test.YtbimaodbcjjbfaaDoorRunsD5
import Derived.Test.YtbimaodbcjjbfaaDoorSets
import Derived.Test.YtbimaodbcjjbfaaDoorGraphH5
import Derived.KernelRfl
/- Graphs as rows of bits: the plain laws. No Go. No conditions. -/
namespace Go.Sl
set_option linter.unusedVariables false
set_option linter.unusedSectionVars false
set_option maxRecDepth 10000
instance : Enc (BitVec 64) := ⟨fun b => [U64 b], 1, by omega, fun _ => rfl, fun _ u h => by simp at h; subst h; rfl⟩
/-- An edge more, both ways. -/
def addRow (rows : List (BitVec 64)) (e : Pt) : List (BitVec 64) :=
  if 0 ≤ e.u ∧ e.u < e.v ∧ e.v < rows.length then
    (rows.set e.u.toNat (at_ rows e.u ||| 1#64 <<< e.v.toNat)).set e.v.toNat (at_ (rows.set e.u.toNat (at_ rows e.u ||| 1#64 <<< e.v.toNat)) e.v ||| 1#64 <<< e.u.toNat)
  else rows
def rows0 (nd : Int) : List (BitVec 64) := List.replicate (min (max nd 0) 64).toNat 0#64
def rowsB (nd : Int) (es : List Pt) : List (BitVec 64) := es.foldl addRow (rows0 nd)
theorem addRow_len (rows : List (BitVec 64)) (e : Pt) : (addRow rows e).length = rows.length := by
  unfold addRow; split <;> simp
theorem rowsB_take {nd : Int} {es : List Pt} {k : Nat} (h : k < es.length) : rowsB nd (es.take (k + 1)) = addRow (rowsB nd (es.take k)) (at_ es (k : Int)) := by
  unfold rowsB; rw [take_at es k h, List.foldl_append]; rfl
theorem rowsB_len (nd : Int) (es : List Pt) : (rowsB nd es).length = (min (max nd 0) 64).toNat := by
  unfold rowsB
  have : ∀ (es : List Pt) (r : List (BitVec 64)), (es.foldl addRow r).length = r.length := fun es => by
    induction es with
    | nil => intro r; rfl
    | cons e es ih => intro r; rw [List.foldl_cons, ih, addRow_len]
  rw [this]; simp [rows0]
theorem at_rep64 (n : Nat) (i : Int) : at_ (List.replicate n (0#64)) i = 0#64 := by
  unfold at_
  rw [List.getD_eq_getElem?_getD, List.getElem?_replicate]
  split <;> rfl
/-- Which bits are set. -/
structure RowsOk (nd : Int) (es : List Pt) (rows : List (BitVec 64)) : Prop where
  len : (rows.length : Int) = nd
  bit : ∀ v w : Int, 0 ≤ v → v < nd → 0 ≤ w → w < 64 → ((at_ rows v).getLsbD w.toNat = decide ((⟨v, w⟩ : Pt) ∈ es ∨ (⟨w, v⟩ : Pt) ∈ es))
theorem RowsOk.start {nd : Int} (h : 0 ≤ nd ∧ nd ≤ 64) : RowsOk nd [] (rows0 nd) :=
  ⟨by unfold rows0; simp; omega, fun v w _ _ _ _ => by unfold rows0; rw [at_rep64]; simp⟩
theorem addRow_at {rows : List (BitVec 64)} {e : Pt} (h : 0 ≤ e.u ∧ e.u < e.v ∧ e.v < rows.length) (j : Int) (h0 : 0 ≤ j) (h1 : j < rows.length) :
    at_ (addRow rows e) j = if e.v = j then at_ rows e.v ||| 1#64 <<< e.u.toNat else if e.u = j then at_ rows e.u ||| 1#64 <<< e.v.toNat else at_ rows j := by
  unfold addRow
  rw [if_pos h, at_set _ e.v j _ (by omega) h0 (by rw [List.length_set]; omega)]
  by_cases hv : e.v = j
  · rw [if_pos hv, if_pos hv, at_set _ e.u e.v _ (by omega) (by omega) (by omega), if_neg (by omega)]
  · rw [if_neg hv, if_neg hv, at_set _ e.u j _ (by omega) h0 (by omega)]
theorem getLsb_shl (a i : Nat) (hi : i < 64) : (1#64 <<< a).getLsbD i = decide (a = i) := by
  show (BitVec.twoPow 64 a).getLsbD i = _
  rw [BitVec.getLsbD_twoPow]
  by_cases h : a = i
  · subst h; simp [hi]
  · simp [h]
theorem RowsOk.push {nd : Int} {es : List Pt} {rows : List (BitVec 64)} {e : Pt} (h : RowsOk nd es rows) (he : 0 ≤ e.u ∧ e.u < e.v ∧ e.v < nd) (hn : nd ≤ 64) : RowsOk nd (es ++ [e]) (addRow rows e) := by
  have hl := h.len
  refine ⟨by rw [addRow_len]; exact hl, fun v w v0 v1 w0 w1 => ?_⟩
  rw [addRow_at (by omega) v v0 (by omega)]
  have hb := h.bit v w v0 v1 w0 w1
  have hext : ∀ a b : Int, ((⟨a, b⟩ : Pt) = e) ↔ (a = e.u ∧ b = e.v) := fun a b => by rw [Pt.ext_iff']
  simp only [List.mem_append, List.mem_singleton, hext]
  by_cases hv : e.v = v
  · rw [if_pos hv, BitVec.getLsbD_or, getLsb_shl _ _ (by omega), hv, hb]
    have e1 : (e.u.toNat = w.toNat) ↔ (w = e.u ∧ v = e.v) := by omega
    have e2 : ¬ (v = e.u ∧ w = e.v) := by omega
    rw [decide_eq_decide.2 e1]
    rw [← Bool.decide_or, decide_eq_decide]
    constructor
    · rintro ((a | b) | c)
      · exact .inl (.inl a)
      · exact .inr (.inl b)
      · exact .inr (.inr ⟨c.1, rfl⟩)
    · rintro ((a | c) | (b | c))
      · exact .inl (.inl a)
      · exact absurd c (fun c => by omega)
      · exact .inl (.inr b)
      · exact .inr ⟨c.1, hv.symm⟩
  · rw [if_neg hv]
    by_cases hu : e.u = v
    · rw [if_pos hu, BitVec.getLsbD_or, getLsb_shl _ _ (by omega), hu, hb]
      have e1 : (e.v.toNat = w.toNat) ↔ (v = e.u ∧ w = e.v) := by omega
      have e2 : ¬ (w = e.u ∧ v = e.v) := by omega
      rw [decide_eq_decide.2 e1]
      rw [← Bool.decide_or, decide_eq_decide]
      constructor
      · rintro ((a | b) | c)
        · exact .inl (.inl a)
        · exact .inr (.inl b)
        · exact .inl (.inr ⟨rfl, c.2⟩)
      · rintro ((a | c) | (b | c))
        · exact .inl (.inl a)
        · exact .inr ⟨hu.symm, c.2⟩
        · exact .inl (.inr b)
        · exact absurd c (fun c => by omega)
    · rw [if_neg hu, hb]
      have e1 : ¬ (v = e.u ∧ w = e.v) := by omega
      have e2 : ¬ (w = e.u ∧ v = e.v) := by omega
      simp [e1, e2]
theorem rowsB_ok {nd : Int} {es : List Pt} (h : GrOk nd es) : ∀ k, k ≤ es.length → RowsOk nd (es.take k) (rowsB nd (es.take k))
  | 0, _ => by simpa [rowsB] using RowsOk.start h.rng
  | k + 1, hk => by
    rw [rowsB_take (by omega), take_at es k (by omega)]
    exact (rowsB_ok h k (by omega)).push (h.at (by omega)) h.rng.2
theorem GrOk.rows {nd : Int} {es : List Pt} (h : GrOk nd es) : RowsOk nd es (rowsB nd es) := by
  have := rowsB_ok h es.length (Nat.le_refl _)
  rwa [List.take_length] at this
end Go.Sl
namespace Go.Sl
open Go.Proofs
set_option linter.unusedVariables false
set_option linter.unusedSimpArgs false
set_option maxRecDepth 4000
theorem RowsOk.small {nd : Int} {es : List Pt} {rows : List (BitVec 64)} (h : RowsOk nd es rows) (hG : ∀ e ∈ es, 0 ≤ e.u ∧ e.u < e.v ∧ e.v < nd) (hn : nd ≤ 9) {v : Int} (h0 : 0 ≤ v) (h1 : v < nd) : (at_ rows v).toNat < 512 := by
  refine Nat.lt_pow_two_of_testBit (n := 9) _ fun i hi => ?_
  by_cases h64 : i < 64
  · have := h.bit v (i : Int) h0 h1 (by omega) (by omega)
    rw [Int.toNat_natCast] at this
    rw [← BitVec.getLsbD, this, decide_eq_false]
    rintro (hh | hh)
    · have := hG _ hh; simp only at this; omega
    · have := hG _ hh; simp only at this; omega
  · rw [← BitVec.getLsbD]; exact BitVec.getLsbD_of_ge _ _ (by omega)
theorem addRow_no {rows : List (BitVec 64)} {e : Pt} (h : ¬ (0 ≤ e.u ∧ e.u < e.v ∧ e.v < rows.length)) : addRow rows e = rows := by unfold addRow; rw [if_neg h]

theorem MRows_ok {κ : Ctx} {I : List Item} {nd : Int} {v : Value} {es : List Pt} (hl : Sl κ I v es) :
    CallS Tryd.prog κ 75 [.agg #[I64 (nd), v]] I (fun r J => ∃ a c, r = .slice a (rowsB nd es).length c ∧ J = vc 99 (.slice a (rowsB nd es).length c) (rowsB nd es) :: I) := by
 refine CallS.pull hl.le fun hmax => ?_
 refine CallS.enter (L := [(0, .agg #[I64 (nd), v])]) Tryd.func75 rfl rfl rfl rfl ?_
 refine W.sr ?_
 refine G.e (Eff.box (cs := [_, _]) rfl rfl rfl) ?_
 rintro _ _ ⟨b1, rfl, rfl⟩
 refine G.r (Runs.assign rfl) ?_
 refine G.nt ?_
 refine W.sr ?_
 refine G.r (Runs.fieldAddr fld25_0 rfl) ?_
 refine G.r (Runs.ld ty3) ?_
 refine G.r (Runs.max rfl rfl) ?_
 refine G.r (Runs.min rfl rfl) ?_
 refine G.e (Eff.make (α := (BitVec 64)) (n := (min (max nd 0) 64).toNat) Tryd.underlying106 ty99 rfl rfl rfl (by omega) (by omega) (by decide) rfl) ?_
 rintro _ _ ⟨ad2, cp3, rfl, rfl⟩
 refine G.r (Runs.assign rfl) ?_
 have hrep : (List.replicate (min (max nd 0) 64).toNat (default : (BitVec 64))).length = (min (max nd 0) 64).toNat := List.length_replicate
 refine G.nt ?_
 refine W.seq ?_
 refine W.sr ?_
 refine G.r (Runs.fieldAddr fld25_1 rfl) ?_
 refine G.r (Runs.ld ty23) ?_
 refine G.r (Runs.lenT (α := Pt) (xs := es) Tryd.underlying23 rfl (Sl.f hl)) ?_
 refine G.r (Runs.move rfl) ?_
 refine G.nt ?_
 refine W.block ?_
 refine W.loop (σ := Nat × (List (BitVec 64))) (fun s => ([(3, .slice ad2 (List.replicate ((min (max nd 0) 64).toNat) (default : (BitVec 64))).length cp3), (12, v), (13, I64 (((es.length : Nat) : Int))), (14, I64 (((s.1 : Nat) : Int)))] : Env)) (fun s => vc 99 (.slice ad2 (List.replicate ((min (max nd 0) 64).toNat) (default : (BitVec 64))).length cp3) (s.2) :: blk b1 [I64 (nd), v] 25 :: I) (fun s => (s.1 ≤ es.length) ∧ (s.2 = rowsB nd (es.take s.1)) ∧ (s.2.length = (min (max nd 0) 64).toNat)) (fun s => es.length - s.1) (0, List.replicate (min (max nd 0) 64).toNat (default : (BitVec 64))) (show ((0 : Nat) ≤ es.length) ∧ ((List.replicate (min (max nd 0) 64).toNat (default : (BitVec 64)) : List (BitVec 64)) = rowsB nd (es.take (0 : Nat))) ∧ ((List.replicate (min (max nd 0) 64).toNat (default : (BitVec 64)) : List (BitVec 64)).length = (min (max nd 0) 64).toNat) from ⟨(by omega), rfl, (by simp)⟩) (Sub.cons rfl (Sub.cons rfl (Sub.cons rfl (Sub.cons lookO Sub.nil)))) (show Fit κ _ (vc 99 (.slice ad2 (List.replicate ((min (max nd 0) 64).toNat) (default : (BitVec 64))).length cp3) ((List.replicate (min (max nd 0) 64).toNat (default : (BitVec 64)))) :: blk b1 [I64 (nd), v] 25 :: I) from Fit.sub) ?_
 rintro ⟨k, rows⟩ hp
 obtain ⟨hk, hr, hrl⟩ : (k ≤ es.length) ∧ (rows = rowsB nd (es.take k)) ∧ (rows.length = (min (max nd 0) 64).toNat) := hp
 show W Tryd.prog κ 57 _ _ ([(3, .slice ad2 (List.replicate ((min (max nd 0) 64).toNat) (default : (BitVec 64))).length cp3), (12, v), (13, I64 (((es.length : Nat) : Int))), (14, I64 (((k : Nat) : Int)))] : Env) (vc 99 (.slice ad2 (List.replicate ((min (max nd 0) 64).toNat) (default : (BitVec 64))).length cp3) (rows) :: blk b1 [I64 (nd), v] 25 :: I)
 refine W.sr ?_
 refine G.r (Runs.lss rfl rfl) ?_
 refine G.nt ?_
 refine W.seq ?_
 refine W.ite rfl (fun c15 => ?_) (fun c15 => ?_)
 ·refine W.skip ?_
  refine V.then ?_
  refine W.seq ?_
  refine W.block ?_
  refine W.sr ?_
  refine G.r (Runs.idx (α := Pt) (xs := es) Tryd.underlying23 ty38 rfl rfl (Sl.f hl) (by omega) (by first | omega | (simp only [List.length_set]; omega))) ?_
  refine G.r (Runs.gets (α := Pt) (xs := es) ty38 rfl (Sl.f hl) (by omega) (by first | omega | (simp only [List.length_set]; omega))) ?_
  refine G.e (Eff.alloc ty38 rfl) ?_
  rintro _ _ ⟨b4, rfl, rfl⟩
  refine G.e (Eff.st (cs := [_, _]) (vs := [_, _]) (cs' := [_, _]) ty38) ?_
  rintro _ _ ⟨rfl, rfl⟩
  refine G.nt ?_
  refine W.sr ?_
  refine G.r (Runs.fieldAddr fld38_0 rfl) ?_
  refine G.r (Runs.ld ty3) ?_
  refine G.r (Runs.geq rfl rfl) ?_
  refine G.r (Runs.move rfl) ?_
  refine G.split (d := 21) rfl (fun g21 => ?_) (fun g21 => ?_)
  ·refine G.ro (Runs.fieldAddr fld38_0 rfl) ?_
   refine G.ro (Runs.ld ty3) ?_
   refine G.ro (Runs.fieldAddr fld38_1 rfl) ?_
   refine G.ro (Runs.ld ty3) ?_
   refine G.ro (Runs.lss rfl rfl) ?_
   refine G.r (Runs.pickt rfl rfl) ?_
   refine G.r (Runs.move rfl) ?_
   refine G.split (d := 28) rfl (fun g28 => ?_) (fun g28 => ?_)
   ·refine G.ro (Runs.fieldAddr fld38_1 rfl) ?_
    refine G.ro (Runs.ld ty3) ?_
    refine G.ro (Runs.move rfl) ?_
    refine G.ro (Runs.lens Tryd.underlying106 rfl) ?_
    refine G.ro (Runs.lss rfl rfl) ?_
    refine G.r (Runs.pickt rfl rfl) ?_
    refine G.nt ?_
    refine W.sub (L' := [(34, _), (5, _), (3, _), (12, _), (13, _), (14, _)]) (Sub.cons rfl (Sub.cons rfl (Sub.cons rfl (Sub.cons rfl (Sub.cons rfl (Sub.cons rfl Sub.nil)))))) ?_
    refine W.ite rfl (fun c34 => ?_) (fun c34 => ?_)
    ·refine W.seq ?_
     refine W.drawn mixed ?_
     refine A.hold (blk b4 [I64 ((at_ es ((k : Nat) : Int)).u), I64 ((at_ es ((k : Nat) : Int)).v)] 38 :: vc 99 (.slice ad2 (List.replicate ((min (max nd 0) 64).toNat) (default : (BitVec 64))).length cp3) (rows) :: blk b1 [I64 (nd), v] 25 :: I) 10 ?_
     refine D.r 0 rfl (Runs.move rfl) ?_
     refine D.r 1 rfl (Runs.fieldAddr fld38_0 rfl) ?_
     refine D.r 2 rfl (Runs.ld ty3) ?_
     refine D.r 3 rfl (Runs.idx (α := (BitVec 64)) (xs := rows) Tryd.underlying106 ty99 rfl rfl Sl.o (by omega) (by first | omega | (simp only [List.length_set]; omega))) ?_
     refine D.r 4 rfl (Runs.getf0 (α := (BitVec 64)) (xs := rows) (u := U64 ((at_ rows ((at_ es ((k : Nat) : Int)).u)))) ty99 rfl Sl.o (by omega) (by first | omega | (simp only [List.length_set]; omega)) rfl) ?_
     refine D.r 5 rfl (Runs.fieldAddr fld38_1 rfl) ?_
     refine D.r 6 rfl (Runs.ld ty3) ?_
     refine D.r 7 rfl (Runs.shlB (a := 1#64) rfl rfl (by omega) (by omega)) ?_
     refine D.r 8 rfl (Runs.orB (a := (at_ rows ((at_ es ((k : Nat) : Int)).u))) (b := (1#64) <<< ((at_ es ((k : Nat) : Int)).v).toNat) rfl rfl) ?_
     refine D.r 9 rfl (Runs.idx (α := (BitVec 64)) (xs := rows) Tryd.underlying106 ty99 rfl rfl Sl.o (by omega) (by first | omega | (simp only [List.length_set]; omega))) ?_
     refine D.stop (by kernel_rfl) ?_
     refine A.eff (i := 10) (by kernel_rfl) rfl (Wanted.plain rfl) (Eff.set (α := (BitVec 64)) (xs := rows) (e := 99) (new := (at_ rows ((at_ es ((k : Nat) : Int)).u)) ||| ((1#64) <<< ((at_ es ((k : Nat) : Int)).v).toNat)) ty99 rfl rfl rfl (by omega) (by first | omega | (simp only [List.length_set]; omega)) (by repeat (first | exact At.head _ _ _ | apply At.tail))) ?_
     rintro _ _ ⟨rfl, rfl⟩
     refine A.done (by kernel_rfl) ?_
     refine V.then ?_
     refine W.sub (L' := [(5, _), (3, _), (12, _), (13, _), (14, _)]) (Sub.cons rfl (Sub.cons rfl (Sub.cons rfl (Sub.cons rfl (Sub.cons rfl Sub.nil))))) ?_
     refine W.drawn mixed ?_
     refine A.hold (blk b4 [I64 ((at_ es ((k : Nat) : Int)).u), I64 ((at_ es ((k : Nat) : Int)).v)] 38 :: vc 99 (.slice ad2 (List.replicate ((min (max nd 0) 64).toNat) (default : (BitVec 64))).length cp3) (List.set rows ((at_ es ((k : Nat) : Int)).u).toNat ((at_ rows ((at_ es ((k : Nat) : Int)).u)) ||| ((1#64) <<< ((at_ es ((k : Nat) : Int)).v).toNat))) :: blk b1 [I64 (nd), v] 25 :: I) 10 ?_
     refine D.r 0 rfl (Runs.move rfl) ?_
     refine D.r 1 rfl (Runs.fieldAddr fld38_1 rfl) ?_
     refine D.r 2 rfl (Runs.ld ty3) ?_
     refine D.r 3 rfl (Runs.idx (α := (BitVec 64)) (xs := List.set rows ((at_ es ((k : Nat) : Int)).u).toNat ((at_ rows ((at_ es ((k : Nat) : Int)).u)) ||| ((1#64) <<< ((at_ es ((k : Nat) : Int)).v).toNat))) Tryd.underlying106 ty99 rfl rfl Sl.o (by omega) (by first | omega | (simp only [List.length_set]; omega))) ?_
     refine D.r 4 rfl (Runs.getf0 (α := (BitVec 64)) (xs := List.set rows ((at_ es ((k : Nat) : Int)).u).toNat ((at_ rows ((at_ es ((k : Nat) : Int)).u)) ||| ((1#64) <<< ((at_ es ((k : Nat) : Int)).v).toNat))) (u := U64 ((at_ (List.set rows ((at_ es ((k : Nat) : Int)).u).toNat ((at_ rows ((at_ es ((k : Nat) : Int)).u)) ||| ((1#64) <<< ((at_ es ((k : Nat) : Int)).v).toNat))) ((at_ es ((k : Nat) : Int)).v)))) ty99 rfl Sl.o (by omega) (by first | omega | (simp only [List.length_set]; omega)) rfl) ?_
     refine D.r 5 rfl (Runs.fieldAddr fld38_0 rfl) ?_
     refine D.r 6 rfl (Runs.ld ty3) ?_
     refine D.r 7 rfl (Runs.shlB (a := 1#64) rfl rfl (by omega) (by omega)) ?_
     refine D.r 8 rfl (Runs.orB (a := (at_ (List.set rows ((at_ es ((k : Nat) : Int)).u).toNat ((at_ rows ((at_ es ((k : Nat) : Int)).u)) ||| ((1#64) <<< ((at_ es ((k : Nat) : Int)).v).toNat))) ((at_ es ((k : Nat) : Int)).v))) (b := (1#64) <<< ((at_ es ((k : Nat) : Int)).u).toNat) rfl rfl) ?_
     refine D.r 9 rfl (Runs.idx (α := (BitVec 64)) (xs := List.set rows ((at_ es ((k : Nat) : Int)).u).toNat ((at_ rows ((at_ es ((k : Nat) : Int)).u)) ||| ((1#64) <<< ((at_ es ((k : Nat) : Int)).v).toNat))) Tryd.underlying106 ty99 rfl rfl Sl.o (by omega) (by first | omega | (simp only [List.length_set]; omega))) ?_
     refine D.stop (by kernel_rfl) ?_
     refine A.eff (i := 10) (by kernel_rfl) rfl (Wanted.plain rfl) (Eff.set (α := (BitVec 64)) (xs := List.set rows ((at_ es ((k : Nat) : Int)).u).toNat ((at_ rows ((at_ es ((k : Nat) : Int)).u)) ||| ((1#64) <<< ((at_ es ((k : Nat) : Int)).v).toNat))) (e := 99) (new := (at_ (List.set rows ((at_ es ((k : Nat) : Int)).u).toNat ((at_ rows ((at_ es ((k : Nat) : Int)).u)) ||| ((1#64) <<< ((at_ es ((k : Nat) : Int)).v).toNat))) ((at_ es ((k : Nat) : Int)).v)) ||| ((1#64) <<< ((at_ es ((k : Nat) : Int)).u).toNat)) ty99 rfl rfl rfl (by omega) (by first | omega | (simp only [List.length_set]; omega)) (by repeat (first | exact At.head _ _ _ | apply At.tail))) ?_
     rintro _ _ ⟨rfl, rfl⟩
     refine A.done (by kernel_rfl) ?_
     refine V.block_normal ?_
     refine V.then ?_
     refine W.sub (L' := [(3, _), (12, _), (13, _), (14, _)]) (Sub.cons rfl (Sub.cons rfl (Sub.cons rfl (Sub.cons rfl Sub.nil)))) ?_
     refine W.region ?_
     refine G.r (Runs.add rfl rfl (by unfold InR; omega)) ?_
     refine G.r (Runs.move rfl) ?_
     refine G.nil ?_
     have hset : List.set (List.set rows ((at_ es ((k : Nat) : Int)).u).toNat ((at_ rows ((at_ es ((k : Nat) : Int)).u)) ||| ((1#64) <<< ((at_ es ((k : Nat) : Int)).v).toNat))) ((at_ es ((k : Nat) : Int)).v).toNat ((at_ (List.set rows ((at_ es ((k : Nat) : Int)).u).toNat ((at_ rows ((at_ es ((k : Nat) : Int)).u)) ||| ((1#64) <<< ((at_ es ((k : Nat) : Int)).v).toNat))) ((at_ es ((k : Nat) : Int)).v)) ||| ((1#64) <<< ((at_ es ((k : Nat) : Int)).u).toNat)) = addRow rows (at_ es ((k : Nat) : Int)) := by unfold addRow; rw [if_pos (by omega)]
     rw [hset]
     exact V.next ((k + 1), (addRow rows (at_ es ((k : Nat) : Int)))) (show ((k + 1 : Nat) ≤ es.length) ∧ ((addRow rows (at_ es ((k : Nat) : Int)) : List (BitVec 64)) = rowsB nd (es.take (k + 1 : Nat))) ∧ ((addRow rows (at_ es ((k : Nat) : Int)) : List (BitVec 64)).length = (min (max nd 0) 64).toNat) from ⟨(by omega), (by rw [rowsB_take (by omega), ← hr]; first | done | exact hset), (by first | exact hrl | (rw [addRow_len]; exact hrl))⟩) (show es.length - (k + 1 : Nat) < es.length - k from (by omega)) (Sub.cons rfl (Sub.cons rfl (Sub.cons rfl (Sub.cons lookO Sub.nil)))) (show Fit κ _ (vc 99 (.slice ad2 (List.replicate ((min (max nd 0) 64).toNat) (default : (BitVec 64))).length cp3) ((addRow rows (at_ es ((k : Nat) : Int)))) :: blk b1 [I64 (nd), v] 25 :: I) from Fit.sub)
    ·refine W.skip ?_
     refine V.block_normal ?_
     refine V.then ?_
     refine W.region ?_
     refine G.r (Runs.add rfl rfl (by unfold InR; omega)) ?_
     refine G.r (Runs.move rfl) ?_
     refine G.nil ?_
     have hset : rows = addRow rows (at_ es ((k : Nat) : Int)) := (addRow_no (by omega)).symm
     exact V.next ((k + 1), (rows)) (show ((k + 1 : Nat) ≤ es.length) ∧ ((rows : List (BitVec 64)) = rowsB nd (es.take (k + 1 : Nat))) ∧ ((rows : List (BitVec 64)).length = (min (max nd 0) 64).toNat) from ⟨(by omega), (by rw [rowsB_take (by omega), ← hr]; first | done | exact hset), (by first | exact hrl | (rw [addRow_len]; exact hrl))⟩) (show es.length - (k + 1 : Nat) < es.length - k from (by omega)) (Sub.cons rfl (Sub.cons rfl (Sub.cons rfl (Sub.cons lookO Sub.nil)))) (show Fit κ _ (vc 99 (.slice ad2 (List.replicate ((min (max nd 0) 64).toNat) (default : (BitVec 64))).length cp3) ((rows)) :: blk b1 [I64 (nd), v] 25 :: I) from Fit.sub)
   ·refine G.po ?_
    refine G.po ?_
    refine G.po ?_
    refine G.po ?_
    refine G.po ?_
    refine G.r (Runs.pickf rfl rfl) ?_
    refine G.nt ?_
    refine W.sub (L' := [(34, _), (5, _), (3, _), (12, _), (13, _), (14, _)]) (Sub.cons rfl (Sub.cons rfl (Sub.cons rfl (Sub.cons rfl (Sub.cons rfl (Sub.cons rfl Sub.nil)))))) ?_
    refine W.no rfl ?_
    refine W.skip ?_
    refine V.block_normal ?_
    refine V.then ?_
    refine W.region ?_
    refine G.r (Runs.add rfl rfl (by unfold InR; omega)) ?_
    refine G.r (Runs.move rfl) ?_
    refine G.nil ?_
    have hset : rows = addRow rows (at_ es ((k : Nat) : Int)) := (addRow_no (by omega)).symm
    exact V.next ((k + 1), (rows)) (show ((k + 1 : Nat) ≤ es.length) ∧ ((rows : List (BitVec 64)) = rowsB nd (es.take (k + 1 : Nat))) ∧ ((rows : List (BitVec 64)).length = (min (max nd 0) 64).toNat) from ⟨(by omega), (by rw [rowsB_take (by omega), ← hr]; first | done | exact hset), (by first | exact hrl | (rw [addRow_len]; exact hrl))⟩) (show es.length - (k + 1 : Nat) < es.length - k from (by omega)) (Sub.cons rfl (Sub.cons rfl (Sub.cons rfl (Sub.cons lookO Sub.nil)))) (show Fit κ _ (vc 99 (.slice ad2 (List.replicate ((min (max nd 0) 64).toNat) (default : (BitVec 64))).length cp3) ((rows)) :: blk b1 [I64 (nd), v] 25 :: I) from Fit.sub)
  ·refine G.po ?_
   refine G.po ?_
   refine G.po ?_
   refine G.po ?_
   refine G.po ?_
   refine G.r (Runs.pickf rfl rfl) ?_
   refine G.r (Runs.move rfl) ?_
   refine G.po ?_
   refine G.po ?_
   refine G.po ?_
   refine G.po ?_
   refine G.po ?_
   refine G.r (Runs.pickf rfl rfl) ?_
   refine G.nt ?_
   refine W.sub (L' := [(34, _), (5, _), (3, _), (12, _), (13, _), (14, _)]) (Sub.cons rfl (Sub.cons rfl (Sub.cons rfl (Sub.cons rfl (Sub.cons rfl (Sub.cons rfl Sub.nil)))))) ?_
   refine W.no rfl ?_
   refine W.skip ?_
   refine V.block_normal ?_
   refine V.then ?_
   refine W.region ?_
   refine G.r (Runs.add rfl rfl (by unfold InR; omega)) ?_
   refine G.r (Runs.move rfl) ?_
   refine G.nil ?_
   have hset : rows = addRow rows (at_ es ((k : Nat) : Int)) := (addRow_no (by omega)).symm
   exact V.next ((k + 1), (rows)) (show ((k + 1 : Nat) ≤ es.length) ∧ ((rows : List (BitVec 64)) = rowsB nd (es.take (k + 1 : Nat))) ∧ ((rows : List (BitVec 64)).length = (min (max nd 0) 64).toNat) from ⟨(by omega), (by rw [rowsB_take (by omega), ← hr]; first | done | exact hset), (by first | exact hrl | (rw [addRow_len]; exact hrl))⟩) (show es.length - (k + 1 : Nat) < es.length - k from (by omega)) (Sub.cons rfl (Sub.cons rfl (Sub.cons rfl (Sub.cons lookO Sub.nil)))) (show Fit κ _ (vc 99 (.slice ad2 (List.replicate ((min (max nd 0) 64).toNat) (default : (BitVec 64))).length cp3) ((rows)) :: blk b1 [I64 (nd), v] 25 :: I) from Fit.sub)
 ·refine W.exit ?_
  refine V.then_exit ?_
  refine V.then_exit ?_
  refine V.block_hit ?_
  refine V.then ?_
  refine W.sr ?_
  refine G.r (Runs.move rfl) ?_
  refine G.r (Runs.assign rfl) ?_
  refine G.nt ?_
  refine W.ret ?_
  rw [List.take_of_length_le (by omega)] at hr
  subst hr
  have hle : (rowsB nd es).length = (List.replicate (min (max nd 0) 64).toNat (default : (BitVec 64))).length := by omega
  exact V.ret1 rfl rfl (vc 99 (.slice ad2 (rowsB nd es).length cp3) (rowsB nd es) :: I) (by rw [hle]; exact Fit.sub) ⟨_, _, by rw [hle], rfl⟩

end Go.Sl
