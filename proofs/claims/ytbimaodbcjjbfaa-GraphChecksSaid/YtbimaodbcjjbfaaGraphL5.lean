/- A part of the proofs of statements of this seat: contracts of functions, and the plain laws that they lean on. No conditions. -/
import Derived.Test.YtbimaodbcjjbfaaRunsD5
import Derived.Test.YtbimaodbcjjbfaaSets
import Derived.Test.YtbimaodbcjjbfaaGraphH5
import Derived.KernelRfl
/- Graphs as rows of bits: the plain laws. No Go. No conditions. -/
namespace Go.Sl
set_option linter.unusedVariables false
set_option linter.unusedSectionVars false
set_option maxRecDepth 10000
instance : Enc (BitVec 64) := ⟨fun b => [U64 b], 1, by omega, fun _ => rfl, fun _ u h => by simp at h; subst h; rfl⟩
/-- An edge more, both ways. -/
def addRow (rows : List (BitVec 64)) (e : Pt) : List (BitVec 64) :=
  if 0 ≤ e.u ∧ e.u < e.v ∧ e.v < rows.length then
    (rows.set e.u.toNat (at_ rows e.u ||| 1#64 <<< e.v.toNat)).set e.v.toNat (at_ (rows.set e.u.toNat (at_ rows e.u ||| 1#64 <<< e.v.toNat)) e.v ||| 1#64 <<< e.u.toNat)
  else rows
def rows0 (nd : Int) : List (BitVec 64) := List.replicate (min (max nd 0) 64).toNat 0#64
def rowsB (nd : Int) (es : List Pt) : List (BitVec 64) := es.foldl addRow (rows0 nd)
theorem addRow_len (rows : List (BitVec 64)) (e : Pt) : (addRow rows e).length = rows.length := by
  unfold addRow; split <;> simp
theorem rowsB_take {nd : Int} {es : List Pt} {k : Nat} (h : k < es.length) : rowsB nd (es.take (k + 1)) = addRow (rowsB nd (es.take k)) (at_ es (k : Int)) := by
  unfold rowsB; rw [take_at es k h, List.foldl_append]; rfl
theorem rowsB_len (nd : Int) (es : List Pt) : (rowsB nd es).length = (min (max nd 0) 64).toNat := by
  unfold rowsB
  have : ∀ (es : List Pt) (r : List (BitVec 64)), (es.foldl addRow r).length = r.length := fun es => by
    induction es with
    | nil => intro r; rfl
    | cons e es ih => intro r; rw [List.foldl_cons, ih, addRow_len]
  rw [this]; simp [rows0]
theorem at_rep64 (n : Nat) (i : Int) : at_ (List.replicate n (0#64)) i = 0#64 := by
  unfold at_
  rw [List.getD_eq_getElem?_getD, List.getElem?_replicate]
  split <;> rfl
/-- Which bits are set. -/
structure RowsOk (nd : Int) (es : List Pt) (rows : List (BitVec 64)) : Prop where
  len : (rows.length : Int) = nd
  bit : ∀ v w : Int, 0 ≤ v → v < nd → 0 ≤ w → w < 64 → ((at_ rows v).getLsbD w.toNat = decide ((⟨v, w⟩ : Pt) ∈ es ∨ (⟨w, v⟩ : Pt) ∈ es))
theorem RowsOk.start {nd : Int} (h : 0 ≤ nd ∧ nd ≤ 64) : RowsOk nd [] (rows0 nd) :=
  ⟨by unfold rows0; simp; omega, fun v w _ _ _ _ => by unfold rows0; rw [at_rep64]; simp⟩
theorem addRow_at {rows : List (BitVec 64)} {e : Pt} (h : 0 ≤ e.u ∧ e.u < e.v ∧ e.v < rows.length) (j : Int) (h0 : 0 ≤ j) (h1 : j < rows.length) :
    at_ (addRow rows e) j = if e.v = j then at_ rows e.v ||| 1#64 <<< e.u.toNat else if e.u = j then at_ rows e.u ||| 1#64 <<< e.v.toNat else at_ rows j := by
  unfold addRow
  rw [if_pos h, at_set _ e.v j _ (by omega) h0 (by rw [List.length_set]; omega)]
  by_cases hv : e.v = j
  · rw [if_pos hv, if_pos hv, at_set _ e.u e.v _ (by omega) (by omega) (by omega), if_neg (by omega)]
  · rw [if_neg hv, if_neg hv, at_set _ e.u j _ (by omega) h0 (by omega)]
theorem getLsb_shl (a i : Nat) (hi : i < 64) : (1#64 <<< a).getLsbD i = decide (a = i) := by
  show (BitVec.twoPow 64 a).getLsbD i = _
  rw [BitVec.getLsbD_twoPow]
  by_cases h : a = i
  · subst h; simp [hi]
  · simp [h]
theorem RowsOk.push {nd : Int} {es : List Pt} {rows : List (BitVec 64)} {e : Pt} (h : RowsOk nd es rows) (he : 0 ≤ e.u ∧ e.u < e.v ∧ e.v < nd) (hn : nd ≤ 64) : RowsOk nd (es ++ [e]) (addRow rows e) := by
  have hl := h.len
  refine ⟨by rw [addRow_len]; exact hl, fun v w v0 v1 w0 w1 => ?_⟩
  rw [addRow_at (by omega) v v0 (by omega)]
  have hb := h.bit v w v0 v1 w0 w1
  have hext : ∀ a b : Int, ((⟨a, b⟩ : Pt) = e) ↔ (a = e.u ∧ b = e.v) := fun a b => by rw [Pt.ext_iff']
  simp only [List.mem_append, List.mem_singleton, hext]
  by_cases hv : e.v = v
  · rw [if_pos hv, BitVec.getLsbD_or, getLsb_shl _ _ (by omega), hv, hb]
    have e1 : (e.u.toNat = w.toNat) ↔ (w = e.u ∧ v = e.v) := by omega
    have e2 : ¬ (v = e.u ∧ w = e.v) := by omega
    rw [decide_eq_decide.2 e1]
    rw [← Bool.decide_or, decide_eq_decide]
    constructor
    · rintro ((a | b) | c)
      · exact .inl (.inl a)
      · exact .inr (.inl b)
      · exact .inr (.inr ⟨c.1, rfl⟩)
    · rintro ((a | c) | (b | c))
      · exact .inl (.inl a)
      · exact absurd c (fun c => by omega)
      · exact .inl (.inr b)
      · exact .inr ⟨c.1, hv.symm⟩
  · rw [if_neg hv]
    by_cases hu : e.u = v
    · rw [if_pos hu, BitVec.getLsbD_or, getLsb_shl _ _ (by omega), hu, hb]
      have e1 : (e.v.toNat = w.toNat) ↔ (v = e.u ∧ w = e.v) := by omega
      have e2 : ¬ (w = e.u ∧ v = e.v) := by omega
      rw [decide_eq_decide.2 e1]
      rw [← Bool.decide_or, decide_eq_decide]
      constructor
      · rintro ((a | b) | c)
        · exact .inl (.inl a)
        · exact .inr (.inl b)
        · exact .inl (.inr ⟨rfl, c.2⟩)
      · rintro ((a | c) | (b | c))
        · exact .inl (.inl a)
        · exact .inr ⟨hu.symm, c.2⟩
        · exact .inl (.inr b)
        · exact absurd c (fun c => by omega)
    · rw [if_neg hu, hb]
      have e1 : ¬ (v = e.u ∧ w = e.v) := by omega
      have e2 : ¬ (w = e.u ∧ v = e.v) := by omega
      simp [e1, e2]
theorem rowsB_ok {nd : Int} {es : List Pt} (h : GrOk nd es) : ∀ k, k ≤ es.length → RowsOk nd (es.take k) (rowsB nd (es.take k))
  | 0, _ => by simpa [rowsB] using RowsOk.start h.rng
  | k + 1, hk => by
    rw [rowsB_take (by omega), take_at es k (by omega)]
    exact (rowsB_ok h k (by omega)).push (h.at (by omega)) h.rng.2
theorem GrOk.rows {nd : Int} {es : List Pt} (h : GrOk nd es) : RowsOk nd es (rowsB nd es) := by
  have := rowsB_ok h es.length (Nat.le_refl _)
  rwa [List.take_length] at this
end Go.Sl
namespace Go.Sl
open Go.Proofs
set_option linter.unusedVariables false
set_option linter.unusedSimpArgs false
set_option maxRecDepth 4000
theorem ones_tab : ∀ n : Fin 512, ∀ i : Fin 9, (BitVec.ofNat 64 n.val).getLsbD i.val = false → onesB (BitVec.ofNat 64 n.val ||| 1#64 <<< i.val) = onesB (BitVec.ofNat 64 n.val) + 1 := by decide +kernel
theorem ones_set {m : BitVec 64} {i : Nat} (hm : m.toNat < 512) (hi : i < 9) (hb : m.getLsbD i = false) : onesB (m ||| 1#64 <<< i) = onesB m + 1 := by
  have e : BitVec.ofNat 64 m.toNat = m := by simp
  have := ones_tab ⟨m.toNat, hm⟩ ⟨i, hi⟩ (by rw [show (⟨m.toNat, hm⟩ : Fin 512).val = m.toNat from rfl, e]; exact hb)
  simp only [e] at this
  exact this
theorem RowsOk.small {nd : Int} {es : List Pt} {rows : List (BitVec 64)} (h : RowsOk nd es rows) (hG : ∀ e ∈ es, 0 ≤ e.u ∧ e.u < e.v ∧ e.v < nd) (hn : nd ≤ 9) {v : Int} (h0 : 0 ≤ v) (h1 : v < nd) : (at_ rows v).toNat < 512 := by
  refine Nat.lt_pow_two_of_testBit (n := 9) _ fun i hi => ?_
  by_cases h64 : i < 64
  · have := h.bit v (i : Int) h0 h1 (by omega) (by omega)
    rw [Int.toNat_natCast] at this
    rw [← BitVec.getLsbD, this, decide_eq_false]
    rintro (hh | hh)
    · have := hG _ hh; simp only at this; omega
    · have := hG _ hh; simp only at this; omega
  · rw [← BitVec.getLsbD]; exact BitVec.getLsbD_of_ge _ _ (by omega)
theorem rows_step {nd : Int} {es : List Pt} {rows : List (BitVec 64)} {e : Pt} (h : RowsOk nd es rows) (hG : ∀ e ∈ es, 0 ≤ e.u ∧ e.u < e.v ∧ e.v < nd) (he : 0 ≤ e.u ∧ e.u < e.v ∧ e.v < nd) (hn : nd ≤ 9) (hne : e ∉ es) :
    (sumN nd.toNat fun j => onesB (at_ (addRow rows e) (j : Int))) = (sumN nd.toNat fun j => onesB (at_ rows (j : Int))) + 2 := by
  have hl := h.len
  have hat := fun (j : Int) (a : 0 ≤ j) (b : j < nd) => addRow_at (rows := rows) (e := e) (by omega) j a (by omega)
  have hbu : (at_ rows e.u).getLsbD e.v.toNat = false := by
    rw [h.bit e.u e.v (by omega) (by omega) (by omega) (by omega), decide_eq_false]
    rintro (hh | hh)
    · exact hne hh
    · have := hG _ hh; simp only at this; omega
  have hbv : (at_ rows e.v).getLsbD e.u.toNat = false := by
    rw [h.bit e.v e.u (by omega) (by omega) (by omega) (by omega), decide_eq_false]
    rintro (hh | hh)
    · have := hG _ hh; simp only at this; omega
    · exact hne hh
  have hu1 := ones_set (h.small hG hn (v := e.u) (by omega) (by omega)) (i := e.v.toNat) (by omega) hbu
  have hv1 := ones_set (h.small hG hn (v := e.v) (by omega) (by omega)) (i := e.u.toNat) (by omega) hbv
  have s1 := sumN_upd (m := nd.toNat) (k := e.u.toNat) (by omega) (g := fun j => onesB (at_ rows (j : Int))) (h := fun j => if j = e.u.toNat then onesB (at_ rows e.u) + 1 else onesB (at_ rows (j : Int))) (fun j hj hje => if_neg hje)
  have s2 := sumN_upd (m := nd.toNat) (k := e.v.toNat) (by omega) (g := fun j => if j = e.u.toNat then onesB (at_ rows e.u) + 1 else onesB (at_ rows (j : Int))) (h := fun j => onesB (at_ (addRow rows e) (j : Int))) (fun j hj hje => by
    show onesB (at_ (addRow rows e) (j : Int)) = if j = e.u.toNat then onesB (at_ rows e.u) + 1 else onesB (at_ rows (j : Int))
    rw [hat (j : Int) (by omega) (by omega), if_neg (by omega)]
    by_cases hju : j = e.u.toNat
    · rw [if_pos hju, if_pos (by omega), hu1]
    · rw [if_neg hju, if_neg (by omega)])
  rw [if_pos rfl, show ((e.u.toNat : Nat) : Int) = e.u by omega] at s1
  rw [if_neg (by omega), show ((e.v.toNat : Nat) : Int) = e.v by omega, hat e.v (by omega) (by omega), if_pos rfl, hv1] at s2
  omega
theorem rows_sum' {nd : Int} {es : List Pt} (h : GrOk nd es) (hn : nd ≤ 9) : ∀ k, k ≤ es.length → (sumN nd.toNat fun j => onesB (at_ (rowsB nd (es.take k)) (j : Int))) = 2 * (k : Int)
  | 0, _ => by
    rw [sumN_eq_zero _ fun k hk => by show onesB (at_ (rows0 nd) (k : Int)) = 0; unfold rows0; rw [at_rep64]; decide +kernel]; rfl
  | k + 1, hk => by
    have hne : at_ es (k : Int) ∉ es.take k := fun hm => by
      obtain ⟨j, hj, he⟩ := mem_at hm
      rw [List.length_take] at hj
      have ee : at_ (es.take k) (j : Int) = at_ es (j : Int) := by rw [at_nat, at_nat, List.getD_eq_getElem?_getD, List.getD_eq_getElem?_getD, List.getElem?_take, if_pos (by omega)]
      rw [ee] at he
      have := asc_at h.asc (i := j) (j := k) (by omega) (by omega)
      rw [he] at this
      exact Pt.lin.irr _ this
    rw [rowsB_take (by omega), rows_step (rowsB_ok h k (by omega)) (fun e he => h.edge e (List.mem_of_mem_take he)) (h.at (by omega)) hn hne, rows_sum' h hn k (by omega)]
    push_cast; omega
theorem rows_sum {nd : Int} {es : List Pt} (h : GrOk nd es) (hn : nd ≤ 9) : (sumN nd.toNat fun j => onesB (at_ (rowsB nd es) (j : Int))) = 2 * (es.length : Int) := by
  have := rows_sum' h hn es.length (Nat.le_refl _)
  rwa [List.take_length] at this
theorem addRow_no {rows : List (BitVec 64)} {e : Pt} (h : ¬ (0 ≤ e.u ∧ e.u < e.v ∧ e.v < rows.length)) : addRow rows e = rows := by unfold addRow; rw [if_neg h]

theorem MRows_ok {κ : Ctx} {I : List Item} {nd : Int} {v : Value} {es : List Pt} (hl : Sl κ I v es) :
    CallS Try.prog κ 210 [.agg #[I64 (nd), v]] I (fun r J => ∃ a c, r = .slice a (rowsB nd es).length c ∧ J = vc 209 (.slice a (rowsB nd es).length c) (rowsB nd es) :: I) := by
 refine CallS.pull hl.le fun hmax => ?_
 refine CallS.enter (L := [(0, .agg #[I64 (nd), v])]) Try.func210 rfl rfl rfl rfl ?_
 refine W.sr ?_
 refine G.e (Eff.box (cs := [_, _]) rfl rfl rfl) ?_
 rintro _ _ ⟨b1, rfl, rfl⟩
 refine G.r (Runs.assign rfl) ?_
 refine G.nt ?_
 refine W.sr ?_
 refine G.r (Runs.fieldAddr fld99_0 rfl) ?_
 refine G.r (Runs.ld ty3) ?_
 refine G.r (Runs.max rfl rfl) ?_
 refine G.r (Runs.min rfl rfl) ?_
 refine G.e (Eff.make (α := (BitVec 64)) (n := (min (max nd 0) 64).toNat) Try.underlying237 ty209 rfl rfl rfl (by omega) (by omega) (by decide) rfl) ?_
 rintro _ _ ⟨ad2, cp3, rfl, rfl⟩
 refine G.r (Runs.assign rfl) ?_
 have hrep : (List.replicate (min (max nd 0) 64).toNat (default : (BitVec 64))).length = (min (max nd 0) 64).toNat := List.length_replicate
 refine G.nt ?_
 refine W.seq ?_
 refine W.sr ?_
 refine G.r (Runs.fieldAddr fld99_1 rfl) ?_
 refine G.r (Runs.ld ty97) ?_
 refine G.r (Runs.lenT (α := Pt) (xs := es) Try.underlying97 rfl (Sl.f hl)) ?_
 refine G.r (Runs.move rfl) ?_
 refine G.nt ?_
 refine W.block ?_
 refine W.loop (σ := Nat × (List (BitVec 64))) (fun s => ([(3, .slice ad2 (List.replicate ((min (max nd 0) 64).toNat) (default : (BitVec 64))).length cp3), (12, v), (13, I64 (((es.length : Nat) : Int))), (14, I64 (((s.1 : Nat) : Int)))] : Env)) (fun s => vc 209 (.slice ad2 (List.replicate ((min (max nd 0) 64).toNat) (default : (BitVec 64))).length cp3) (s.2) :: blk b1 [I64 (nd), v] 99 :: I) (fun s => (s.1 ≤ es.length) ∧ (s.2 = rowsB nd (es.take s.1)) ∧ (s.2.length = (min (max nd 0) 64).toNat)) (fun s => es.length - s.1) (0, List.replicate (min (max nd 0) 64).toNat (default : (BitVec 64))) (show ((0 : Nat) ≤ es.length) ∧ ((List.replicate (min (max nd 0) 64).toNat (default : (BitVec 64)) : List (BitVec 64)) = rowsB nd (es.take (0 : Nat))) ∧ ((List.replicate (min (max nd 0) 64).toNat (default : (BitVec 64)) : List (BitVec 64)).length = (min (max nd 0) 64).toNat) from ⟨(by omega), rfl, (by simp)⟩) (Sub.cons rfl (Sub.cons rfl (Sub.cons rfl (Sub.cons lookO Sub.nil)))) (show Fit κ _ (vc 209 (.slice ad2 (List.replicate ((min (max nd 0) 64).toNat) (default : (BitVec 64))).length cp3) ((List.replicate (min (max nd 0) 64).toNat (default : (BitVec 64)))) :: blk b1 [I64 (nd), v] 99 :: I) from Fit.sub) ?_
 rintro ⟨k, rows⟩ hp
 obtain ⟨hk, hr, hrl⟩ : (k ≤ es.length) ∧ (rows = rowsB nd (es.take k)) ∧ (rows.length = (min (max nd 0) 64).toNat) := hp
 show W Try.prog κ 57 _ _ ([(3, .slice ad2 (List.replicate ((min (max nd 0) 64).toNat) (default : (BitVec 64))).length cp3), (12, v), (13, I64 (((es.length : Nat) : Int))), (14, I64 (((k : Nat) : Int)))] : Env) (vc 209 (.slice ad2 (List.replicate ((min (max nd 0) 64).toNat) (default : (BitVec 64))).length cp3) (rows) :: blk b1 [I64 (nd), v] 99 :: I)
 refine W.sr ?_
 refine G.r (Runs.lss rfl rfl) ?_
 refine G.nt ?_
 refine W.seq ?_
 refine W.ite rfl (fun c15 => ?_) (fun c15 => ?_)
 ·refine W.skip ?_
  refine V.then ?_
  refine W.seq ?_
  refine W.block ?_
  refine W.sr ?_
  refine G.r (Runs.idx (α := Pt) (xs := es) Try.underlying97 ty150 rfl rfl (Sl.f hl) (by omega) (by first | omega | (simp only [List.length_set]; omega))) ?_
  refine G.r (Runs.gets (α := Pt) (xs := es) ty150 rfl (Sl.f hl) (by omega) (by first | omega | (simp only [List.length_set]; omega))) ?_
  refine G.e (Eff.alloc ty150 rfl) ?_
  rintro _ _ ⟨b4, rfl, rfl⟩
  refine G.e (Eff.st (cs := [_, _]) (vs := [_, _]) (cs' := [_, _]) ty150) ?_
  rintro _ _ ⟨rfl, rfl⟩
  refine G.nt ?_
  refine W.sr ?_
  refine G.r (Runs.fieldAddr fld150_0 rfl) ?_
  refine G.r (Runs.ld ty3) ?_
  refine G.r (Runs.geq rfl rfl) ?_
  refine G.r (Runs.move rfl) ?_
  refine G.split (d := 21) rfl (fun g21 => ?_) (fun g21 => ?_)
  ·refine G.ro (Runs.fieldAddr fld150_0 rfl) ?_
   refine G.ro (Runs.ld ty3) ?_
   refine G.ro (Runs.fieldAddr fld150_1 rfl) ?_
   refine G.ro (Runs.ld ty3) ?_
   refine G.ro (Runs.lss rfl rfl) ?_
   refine G.r (Runs.pickt rfl rfl) ?_
   refine G.r (Runs.move rfl) ?_
   refine G.split (d := 28) rfl (fun g28 => ?_) (fun g28 => ?_)
   ·refine G.ro (Runs.fieldAddr fld150_1 rfl) ?_
    refine G.ro (Runs.ld ty3) ?_
    refine G.ro (Runs.move rfl) ?_
    refine G.ro (Runs.lens Try.underlying237 rfl) ?_
    refine G.ro (Runs.lss rfl rfl) ?_
    refine G.r (Runs.pickt rfl rfl) ?_
    refine G.nt ?_
    refine W.sub (L' := [(34, _), (5, _), (3, _), (12, _), (13, _), (14, _)]) (Sub.cons rfl (Sub.cons rfl (Sub.cons rfl (Sub.cons rfl (Sub.cons rfl (Sub.cons rfl Sub.nil)))))) ?_
    refine W.ite rfl (fun c34 => ?_) (fun c34 => ?_)
    ·refine W.seq ?_
     refine W.drawn mixed ?_
     refine A.hold (blk b4 [I64 ((at_ es ((k : Nat) : Int)).u), I64 ((at_ es ((k : Nat) : Int)).v)] 150 :: vc 209 (.slice ad2 (List.replicate ((min (max nd 0) 64).toNat) (default : (BitVec 64))).length cp3) (rows) :: blk b1 [I64 (nd), v] 99 :: I) 10 ?_
     refine D.r 0 rfl (Runs.move rfl) ?_
     refine D.r 1 rfl (Runs.fieldAddr fld150_0 rfl) ?_
     refine D.r 2 rfl (Runs.ld ty3) ?_
     refine D.r 3 rfl (Runs.idx (α := (BitVec 64)) (xs := rows) Try.underlying237 ty209 rfl rfl Sl.o (by omega) (by first | omega | (simp only [List.length_set]; omega))) ?_
     refine D.r 4 rfl (Runs.getf0 (α := (BitVec 64)) (xs := rows) (u := U64 ((at_ rows ((at_ es ((k : Nat) : Int)).u)))) ty209 rfl Sl.o (by omega) (by first | omega | (simp only [List.length_set]; omega)) rfl) ?_
     refine D.r 5 rfl (Runs.fieldAddr fld150_1 rfl) ?_
     refine D.r 6 rfl (Runs.ld ty3) ?_
     refine D.r 7 rfl (Runs.shlB (a := 1#64) rfl rfl (by omega) (by omega)) ?_
     refine D.r 8 rfl (Runs.orB (a := (at_ rows ((at_ es ((k : Nat) : Int)).u))) (b := (1#64) <<< ((at_ es ((k : Nat) : Int)).v).toNat) rfl rfl) ?_
     refine D.r 9 rfl (Runs.idx (α := (BitVec 64)) (xs := rows) Try.underlying237 ty209 rfl rfl Sl.o (by omega) (by first | omega | (simp only [List.length_set]; omega))) ?_
     refine D.stop (by kernel_rfl) ?_
     refine A.eff (i := 10) (by kernel_rfl) rfl (Wanted.plain rfl) (Eff.set (α := (BitVec 64)) (xs := rows) (e := 209) (new := (at_ rows ((at_ es ((k : Nat) : Int)).u)) ||| ((1#64) <<< ((at_ es ((k : Nat) : Int)).v).toNat)) ty209 rfl rfl rfl (by omega) (by first | omega | (simp only [List.length_set]; omega)) (by repeat (first | exact At.head _ _ _ | apply At.tail))) ?_
     rintro _ _ ⟨rfl, rfl⟩
     refine A.done (by kernel_rfl) ?_
     refine V.then ?_
     refine W.sub (L' := [(5, _), (3, _), (12, _), (13, _), (14, _)]) (Sub.cons rfl (Sub.cons rfl (Sub.cons rfl (Sub.cons rfl (Sub.cons rfl Sub.nil))))) ?_
     refine W.drawn mixed ?_
     refine A.hold (blk b4 [I64 ((at_ es ((k : Nat) : Int)).u), I64 ((at_ es ((k : Nat) : Int)).v)] 150 :: vc 209 (.slice ad2 (List.replicate ((min (max nd 0) 64).toNat) (default : (BitVec 64))).length cp3) (List.set rows ((at_ es ((k : Nat) : Int)).u).toNat ((at_ rows ((at_ es ((k : Nat) : Int)).u)) ||| ((1#64) <<< ((at_ es ((k : Nat) : Int)).v).toNat))) :: blk b1 [I64 (nd), v] 99 :: I) 10 ?_
     refine D.r 0 rfl (Runs.move rfl) ?_
     refine D.r 1 rfl (Runs.fieldAddr fld150_1 rfl) ?_
     refine D.r 2 rfl (Runs.ld ty3) ?_
     refine D.r 3 rfl (Runs.idx (α := (BitVec 64)) (xs := List.set rows ((at_ es ((k : Nat) : Int)).u).toNat ((at_ rows ((at_ es ((k : Nat) : Int)).u)) ||| ((1#64) <<< ((at_ es ((k : Nat) : Int)).v).toNat))) Try.underlying237 ty209 rfl rfl Sl.o (by omega) (by first | omega | (simp only [List.length_set]; omega))) ?_
     refine D.r 4 rfl (Runs.getf0 (α := (BitVec 64)) (xs := List.set rows ((at_ es ((k : Nat) : Int)).u).toNat ((at_ rows ((at_ es ((k : Nat) : Int)).u)) ||| ((1#64) <<< ((at_ es ((k : Nat) : Int)).v).toNat))) (u := U64 ((at_ (List.set rows ((at_ es ((k : Nat) : Int)).u).toNat ((at_ rows ((at_ es ((k : Nat) : Int)).u)) ||| ((1#64) <<< ((at_ es ((k : Nat) : Int)).v).toNat))) ((at_ es ((k : Nat) : Int)).v)))) ty209 rfl Sl.o (by omega) (by first | omega | (simp only [List.length_set]; omega)) rfl) ?_
     refine D.r 5 rfl (Runs.fieldAddr fld150_0 rfl) ?_
     refine D.r 6 rfl (Runs.ld ty3) ?_
     refine D.r 7 rfl (Runs.shlB (a := 1#64) rfl rfl (by omega) (by omega)) ?_
     refine D.r 8 rfl (Runs.orB (a := (at_ (List.set rows ((at_ es ((k : Nat) : Int)).u).toNat ((at_ rows ((at_ es ((k : Nat) : Int)).u)) ||| ((1#64) <<< ((at_ es ((k : Nat) : Int)).v).toNat))) ((at_ es ((k : Nat) : Int)).v))) (b := (1#64) <<< ((at_ es ((k : Nat) : Int)).u).toNat) rfl rfl) ?_
     refine D.r 9 rfl (Runs.idx (α := (BitVec 64)) (xs := List.set rows ((at_ es ((k : Nat) : Int)).u).toNat ((at_ rows ((at_ es ((k : Nat) : Int)).u)) ||| ((1#64) <<< ((at_ es ((k : Nat) : Int)).v).toNat))) Try.underlying237 ty209 rfl rfl Sl.o (by omega) (by first | omega | (simp only [List.length_set]; omega))) ?_
     refine D.stop (by kernel_rfl) ?_
     refine A.eff (i := 10) (by kernel_rfl) rfl (Wanted.plain rfl) (Eff.set (α := (BitVec 64)) (xs := List.set rows ((at_ es ((k : Nat) : Int)).u).toNat ((at_ rows ((at_ es ((k : Nat) : Int)).u)) ||| ((1#64) <<< ((at_ es ((k : Nat) : Int)).v).toNat))) (e := 209) (new := (at_ (List.set rows ((at_ es ((k : Nat) : Int)).u).toNat ((at_ rows ((at_ es ((k : Nat) : Int)).u)) ||| ((1#64) <<< ((at_ es ((k : Nat) : Int)).v).toNat))) ((at_ es ((k : Nat) : Int)).v)) ||| ((1#64) <<< ((at_ es ((k : Nat) : Int)).u).toNat)) ty209 rfl rfl rfl (by omega) (by first | omega | (simp only [List.length_set]; omega)) (by repeat (first | exact At.head _ _ _ | apply At.tail))) ?_
     rintro _ _ ⟨rfl, rfl⟩
     refine A.done (by kernel_rfl) ?_
     refine V.block_normal ?_
     refine V.then ?_
     refine W.sub (L' := [(3, _), (12, _), (13, _), (14, _)]) (Sub.cons rfl (Sub.cons rfl (Sub.cons rfl (Sub.cons rfl Sub.nil)))) ?_
     refine W.region ?_
     refine G.r (Runs.add rfl rfl (by unfold InR; omega)) ?_
     refine G.r (Runs.move rfl) ?_
     refine G.nil ?_
     have hset : List.set (List.set rows ((at_ es ((k : Nat) : Int)).u).toNat ((at_ rows ((at_ es ((k : Nat) : Int)).u)) ||| ((1#64) <<< ((at_ es ((k : Nat) : Int)).v).toNat))) ((at_ es ((k : Nat) : Int)).v).toNat ((at_ (List.set rows ((at_ es ((k : Nat) : Int)).u).toNat ((at_ rows ((at_ es ((k : Nat) : Int)).u)) ||| ((1#64) <<< ((at_ es ((k : Nat) : Int)).v).toNat))) ((at_ es ((k : Nat) : Int)).v)) ||| ((1#64) <<< ((at_ es ((k : Nat) : Int)).u).toNat)) = addRow rows (at_ es ((k : Nat) : Int)) := by unfold addRow; rw [if_pos (by omega)]
     rw [hset]
     exact V.next ((k + 1), (addRow rows (at_ es ((k : Nat) : Int)))) (show ((k + 1 : Nat) ≤ es.length) ∧ ((addRow rows (at_ es ((k : Nat) : Int)) : List (BitVec 64)) = rowsB nd (es.take (k + 1 : Nat))) ∧ ((addRow rows (at_ es ((k : Nat) : Int)) : List (BitVec 64)).length = (min (max nd 0) 64).toNat) from ⟨(by omega), (by rw [rowsB_take (by omega), ← hr]; first | done | exact hset), (by first | exact hrl | (rw [addRow_len]; exact hrl))⟩) (show es.length - (k + 1 : Nat) < es.length - k from (by omega)) (Sub.cons rfl (Sub.cons rfl (Sub.cons rfl (Sub.cons lookO Sub.nil)))) (show Fit κ _ (vc 209 (.slice ad2 (List.replicate ((min (max nd 0) 64).toNat) (default : (BitVec 64))).length cp3) ((addRow rows (at_ es ((k : Nat) : Int)))) :: blk b1 [I64 (nd), v] 99 :: I) from Fit.sub)
    ·refine W.skip ?_
     refine V.block_normal ?_
     refine V.then ?_
     refine W.region ?_
     refine G.r (Runs.add rfl rfl (by unfold InR; omega)) ?_
     refine G.r (Runs.move rfl) ?_
     refine G.nil ?_
     have hset : rows = addRow rows (at_ es ((k : Nat) : Int)) := (addRow_no (by omega)).symm
     exact V.next ((k + 1), (rows)) (show ((k + 1 : Nat) ≤ es.length) ∧ ((rows : List (BitVec 64)) = rowsB nd (es.take (k + 1 : Nat))) ∧ ((rows : List (BitVec 64)).length = (min (max nd 0) 64).toNat) from ⟨(by omega), (by rw [rowsB_take (by omega), ← hr]; first | done | exact hset), (by first | exact hrl | (rw [addRow_len]; exact hrl))⟩) (show es.length - (k + 1 : Nat) < es.length - k from (by omega)) (Sub.cons rfl (Sub.cons rfl (Sub.cons rfl (Sub.cons lookO Sub.nil)))) (show Fit κ _ (vc 209 (.slice ad2 (List.replicate ((min (max nd 0) 64).toNat) (default : (BitVec 64))).length cp3) ((rows)) :: blk b1 [I64 (nd), v] 99 :: I) from Fit.sub)
   ·refine G.po ?_
    refine G.po ?_
    refine G.po ?_
    refine G.po ?_
    refine G.po ?_
    refine G.r (Runs.pickf rfl rfl) ?_
    refine G.nt ?_
    refine W.sub (L' := [(34, _), (5, _), (3, _), (12, _), (13, _), (14, _)]) (Sub.cons rfl (Sub.cons rfl (Sub.cons rfl (Sub.cons rfl (Sub.cons rfl (Sub.cons rfl Sub.nil)))))) ?_
    refine W.no rfl ?_
    refine W.skip ?_
    refine V.block_normal ?_
    refine V.then ?_
    refine W.region ?_
    refine G.r (Runs.add rfl rfl (by unfold InR; omega)) ?_
    refine G.r (Runs.move rfl) ?_
    refine G.nil ?_
    have hset : rows = addRow rows (at_ es ((k : Nat) : Int)) := (addRow_no (by omega)).symm
    exact V.next ((k + 1), (rows)) (show ((k + 1 : Nat) ≤ es.length) ∧ ((rows : List (BitVec 64)) = rowsB nd (es.take (k + 1 : Nat))) ∧ ((rows : List (BitVec 64)).length = (min (max nd 0) 64).toNat) from ⟨(by omega), (by rw [rowsB_take (by omega), ← hr]; first | done | exact hset), (by first | exact hrl | (rw [addRow_len]; exact hrl))⟩) (show es.length - (k + 1 : Nat) < es.length - k from (by omega)) (Sub.cons rfl (Sub.cons rfl (Sub.cons rfl (Sub.cons lookO Sub.nil)))) (show Fit κ _ (vc 209 (.slice ad2 (List.replicate ((min (max nd 0) 64).toNat) (default : (BitVec 64))).length cp3) ((rows)) :: blk b1 [I64 (nd), v] 99 :: I) from Fit.sub)
  ·refine G.po ?_
   refine G.po ?_
   refine G.po ?_
   refine G.po ?_
   refine G.po ?_
   refine G.r (Runs.pickf rfl rfl) ?_
   refine G.r (Runs.move rfl) ?_
   refine G.po ?_
   refine G.po ?_
   refine G.po ?_
   refine G.po ?_
   refine G.po ?_
   refine G.r (Runs.pickf rfl rfl) ?_
   refine G.nt ?_
   refine W.sub (L' := [(34, _), (5, _), (3, _), (12, _), (13, _), (14, _)]) (Sub.cons rfl (Sub.cons rfl (Sub.cons rfl (Sub.cons rfl (Sub.cons rfl (Sub.cons rfl Sub.nil)))))) ?_
   refine W.no rfl ?_
   refine W.skip ?_
   refine V.block_normal ?_
   refine V.then ?_
   refine W.region ?_
   refine G.r (Runs.add rfl rfl (by unfold InR; omega)) ?_
   refine G.r (Runs.move rfl) ?_
   refine G.nil ?_
   have hset : rows = addRow rows (at_ es ((k : Nat) : Int)) := (addRow_no (by omega)).symm
   exact V.next ((k + 1), (rows)) (show ((k + 1 : Nat) ≤ es.length) ∧ ((rows : List (BitVec 64)) = rowsB nd (es.take (k + 1 : Nat))) ∧ ((rows : List (BitVec 64)).length = (min (max nd 0) 64).toNat) from ⟨(by omega), (by rw [rowsB_take (by omega), ← hr]; first | done | exact hset), (by first | exact hrl | (rw [addRow_len]; exact hrl))⟩) (show es.length - (k + 1 : Nat) < es.length - k from (by omega)) (Sub.cons rfl (Sub.cons rfl (Sub.cons rfl (Sub.cons lookO Sub.nil)))) (show Fit κ _ (vc 209 (.slice ad2 (List.replicate ((min (max nd 0) 64).toNat) (default : (BitVec 64))).length cp3) ((rows)) :: blk b1 [I64 (nd), v] 99 :: I) from Fit.sub)
 ·refine W.exit ?_
  refine V.then_exit ?_
  refine V.then_exit ?_
  refine V.block_hit ?_
  refine V.then ?_
  refine W.sr ?_
  refine G.r (Runs.move rfl) ?_
  refine G.r (Runs.assign rfl) ?_
  refine G.nt ?_
  refine W.ret ?_
  rw [List.take_of_length_le (by omega)] at hr
  subst hr
  have hle : (rowsB nd es).length = (List.replicate (min (max nd 0) 64).toNat (default : (BitVec 64))).length := by omega
  exact V.ret1 rfl rfl (vc 209 (.slice ad2 (rowsB nd es).length cp3) (rowsB nd es) :: I) (by rw [hle]; exact Fit.sub) ⟨_, _, by rw [hle], rfl⟩

theorem GRow_ok {κ : Ctx} {I : List Item} {nd : Int} {va : Value} {es : List Pt} (hl : Sl κ I va es) (hG : GrOk nd es) {v : Int} (hv : 0 ≤ v ∧ v < nd) :
    CallS Try.prog κ 163 [.agg #[I64 (nd), va], I64 (v)] I (fun r J => r = U64 (at_ (rowsB nd es) v) ∧ I = J) := by
 have hrng := hG.rng
 refine CallS.enter (L := [(0, .agg #[I64 (nd), va]), (1, I64 (v))]) Try.func163 rfl rfl rfl rfl ?_
 refine W.sr ?_
 refine G.e (Eff.box (cs := [_, _]) rfl rfl rfl) ?_
 rintro _ _ ⟨b1, rfl, rfl⟩
 refine G.r (Runs.assign rfl) ?_
 refine G.nt ?_
 refine W.sr ?_
 refine G.r (Runs.lds (vs := [_, _]) ty99) ?_
 refine G.e (Eff.call call210 rfl rfl (MRows_ok (nd := nd) (Sl.f hl))) ?_
 rintro _ _ ⟨_, _, ⟨ad2, cp3, rfl, rfl⟩, rfl, rfl⟩
 have hrwad2 := rowsB_len nd es
 refine G.r (Runs.assign rfl) ?_
 refine G.nt ?_
 refine W.seq ?_
 refine W.sr ?_
 refine G.r (Runs.move rfl) ?_
 refine G.r (Runs.lss rfl rfl) ?_
 refine G.r (Runs.move rfl) ?_
 refine G.split (d := 10) rfl (fun g10 => ?_) (fun g10 => ?_)
 ·exact absurd hv (by omega)
 ·refine G.ro (Runs.move rfl) ?_
  refine G.ro (Runs.move rfl) ?_
  refine G.ro (Runs.lens Try.underlying237 rfl) ?_
  refine G.ro (Runs.geq rfl rfl) ?_
  refine G.r (Runs.pickf rfl rfl) ?_
  refine G.r (Runs.move rfl) ?_
  refine G.split (d := 16) rfl (fun g16 => ?_) (fun g16 => ?_)
  ·exact absurd hv (by have := hG.rng; omega)
  ·refine G.ro (Runs.lds (vs := [_, _]) ty99) ?_
   refine G.eff (Wanted.on rfl rfl rfl) (Eff.call call72 rfl rfl (CheckG_ok (Sl.f hl) hG)) ?_
   rintro _ _ ⟨_, _, ⟨rfl, rfl⟩, rfl, rfl⟩
   refine G.ro (Runs.neq rfl rfl) ?_
   refine G.r (Runs.pickf rfl rfl) ?_
   refine G.nt ?_
   refine W.sub (L' := [(20, _), (5, _), (1, _)]) (Sub.cons rfl (Sub.cons rfl (Sub.cons rfl Sub.nil))) ?_
   refine W.ite rfl (fun c20 => ?_) (fun c20 => ?_)
   ·exact absurd rfl c20
   ·refine W.skip ?_
    refine V.then ?_
    refine W.sr ?_
    refine G.r (Runs.move rfl) ?_
    refine G.r (Runs.move rfl) ?_
    refine G.r (Runs.idx (α := (BitVec 64)) (xs := rowsB nd es) Try.underlying237 ty209 rfl rfl Sl.o (by omega) (by omega)) ?_
    refine G.r (Runs.getf0 (α := (BitVec 64)) (xs := rowsB nd es) (u := U64 ((at_ (rowsB nd es) v))) ty209 rfl Sl.o (by omega) (by omega) rfl) ?_
    refine G.r (Runs.assign rfl) ?_
    refine G.nt ?_
    refine W.ret ?_
    exact V.ret1 rfl rfl (I) Fit.m ⟨rfl, rfl⟩

theorem Degree_ok {κ : Ctx} {I : List Item} {nd : Int} {va : Value} {es : List Pt} (hl : Sl κ I va es) (hG : GrOk nd es) {v : Int} (hv : 0 ≤ v ∧ v < nd) :
    CallS Try.prog κ 92 [.agg #[I64 (nd), va], I64 (v)] I (fun r J => r = I64 (onesB (at_ (rowsB nd es) v)) ∧ I = J) := by
 refine CallS.enter (L := [(0, .agg #[I64 (nd), va]), (1, I64 (v))]) Try.func92 rfl rfl rfl rfl ?_
 refine W.sr ?_
 refine G.e (Eff.box (cs := [_, _]) rfl rfl rfl) ?_
 rintro _ _ ⟨b1, rfl, rfl⟩
 refine G.r (Runs.assign rfl) ?_
 refine G.nt ?_
 refine W.sr ?_
 refine G.r (Runs.lds (vs := [_, _]) ty99) ?_
 refine G.r (Runs.move rfl) ?_
 refine G.e (Eff.call call163 rfl rfl (GRow_ok (nd := nd) (Sl.f hl) hG (by omega))) ?_
 rintro _ _ ⟨_, _, ⟨rfl, rfl⟩, rfl, rfl⟩
 refine G.e (Eff.call call162 rfl rfl (MCount_ok (at_ (rowsB nd es) v))) ?_
 rintro _ _ ⟨_, _, ⟨rfl, rfl⟩, rfl, rfl⟩
 refine G.r (Runs.assign rfl) ?_
 refine G.nt ?_
 refine W.ret ?_
 exact V.ret1 rfl rfl (I) Fit.m ⟨rfl, rfl⟩

theorem DeleteE_at {κ : Ctx} {I : List Item} {F : Item → List Item} {a : Option Addr} {n c i j : Nat} {xs : List Pt} (hat : AtF I (vc 150 (.slice a n c) xs) F) (hn : n = xs.length) (hij : i < j) (hj : j ≤ xs.length) (hsz : xs.length ≤ 1000000000) :
    CallS Try.prog κ 161 [.slice a n c, I64 ((i : Nat) : Int), I64 ((j : Nat) : Int)] I fun r J => ∃ ys : List Pt, (r = .slice a (List.take i xs ++ List.drop j xs).length c ∧ ys = (List.take i xs ++ List.drop j xs)) ∧ J = [] ++ F (vc 150 (.slice a ys.length c) ys) :=
  CallS.at (Z := fun _ => []) (X := fun ys : List Pt => vc 150 (.slice a ys.length c) ys) (Post := fun r ys => r = .slice a (List.take i xs ++ List.drop j xs).length c ∧ ys = (List.take i xs ++ List.drop j xs)) hat fun J _ _ => by subst hn; exact (DeleteE_ok hij hj hsz).mono fun r J' h => ⟨_, ⟨h.1, rfl⟩, h.2.symm⟩

theorem RemG_ok {κ : Ctx} {I : List Item} {nd : Int} {a0 : Option Addr} {c0 : Nat} {es : List Pt} (hl : Sl κ I (.slice a0 es.length c0) es) (u v : Int) (hb : es.length ≤ 10000000) :
    CallS Try.prog κ 90 [.agg #[I64 (nd), .slice a0 es.length c0], I64 (u), I64 (v)] I (fun r J => (remG nd es u v ≠ 0 ∧ r = .tuple #[.agg #[I64 0, .slice none 0 0], I64 (remG nd es u v)] ∧ I = J) ∨ (∃ a c, remG nd es u v = 0 ∧ r = .tuple #[.agg #[I64 nd, .slice a (without es (edgeP u v)).length c], I64 0] ∧ J = vc 150 (.slice a (without es (edgeP u v)).length c) (without es (edgeP u v)) :: I)) := by
 refine CallS.enter (L := [(0, .agg #[I64 (nd), .slice a0 es.length c0]), (1, I64 (u)), (2, I64 (v))]) Try.func90 rfl rfl rfl rfl ?_
 refine W.sr ?_
 refine G.e (Eff.box (cs := [_, _]) rfl rfl rfl) ?_
 rintro _ _ ⟨b1, rfl, rfl⟩
 refine G.e (Eff.alloc ty99 rfl) ?_
 rintro _ _ ⟨b2, rfl, rfl⟩
 refine G.r (Runs.assign rfl) ?_
 refine G.nt ?_
 refine W.seq ?_
 refine W.sr ?_
 refine G.r (Runs.lds (vs := [_, _]) ty99) ?_
 refine G.r (Runs.move rfl) ?_
 refine G.r (Runs.move rfl) ?_
 refine G.e (Eff.call call149 rfl rfl (Change_ok (Sl.f hl) u v)) ?_
 rintro _ _ ⟨_, _, ⟨rfl, rfl⟩, rfl, rfl⟩
 refine G.r (Runs.assign rfl) ?_
 refine G.nt ?_
 refine W.sr ?_
 refine G.r (Runs.move rfl) ?_
 refine G.r (Runs.neq rfl rfl) ?_
 refine G.nt ?_
 refine W.ite rfl (fun c16 => ?_) (fun c16 => ?_)
 ·refine W.sr ?_
  refine G.r (Runs.build (cells := [_, _]) ty99 Try.underlying99 pl99 rfl rfl) ?_
  refine G.r (Runs.move rfl) ?_
  refine G.e (Eff.st (cs := [_, _]) (vs := [_, _]) (cs' := [_, _]) ty99) ?_
  rintro _ _ ⟨rfl, rfl⟩
  refine G.r (Runs.assign rfl) ?_
  refine G.nt ?_
  refine W.sub (L' := [(7, _), (6, _)]) (Sub.cons rfl (Sub.cons rfl Sub.nil)) ?_
  refine W.ret ?_
  refine V.then_ret ?_
  have hz : remG nd es u v = changeG nd es u v := by unfold remG; rw [if_pos (by omega)]
  exact V.retc1 rfl ty99 rfl rfl (by repeat (first | exact List.mem_cons_self | apply List.mem_cons_of_mem)) rfl (I) Fit.m (.inl ⟨by rw [hz]; omega, by rw [hz], rfl⟩)
 ·refine W.skip ?_
  refine V.then ?_
  refine W.sr ?_
  refine G.r (Runs.lds (vs := [_, _]) ty99) ?_
  refine G.r (Runs.move rfl) ?_
  refine G.r (Runs.move rfl) ?_
  refine G.e (Eff.call call150 rfl rfl (Place_ok (Sl.f hl) u v (by omega))) ?_
  rintro _ _ ⟨_, _, ⟨i3, q4, rfl, hi3, rfl⟩, rfl, rfl⟩
  have hG := (changeG_zero.1 (by omega : changeG nd es u v = 0)).1
  have hile := hi3.le
  refine G.r (Runs.move rfl) ?_
  refine G.r (Runs.extract rfl rfl) ?_
  refine G.r (Runs.extract rfl rfl) ?_
  refine G.r (Runs.assign rfl) ?_
  refine G.r (Runs.assign rfl) ?_
  refine G.nt ?_
  refine W.sub (L' := [(10, _), (9, _), (6, _), (3, _)]) (Sub.cons rfl (Sub.cons rfl (Sub.cons rfl (Sub.cons rfl Sub.nil)))) ?_
  refine W.seq ?_
  refine W.sr ?_
  refine G.r (Runs.move rfl) ?_
  refine G.r (Runs.notd rfl) ?_
  refine G.nt ?_
  refine W.ite rfl (fun c27 => ?_) (fun c27 => ?_)
  ·refine W.sr ?_
   refine G.r (Runs.build (cells := [_, _]) ty99 Try.underlying99 pl99 rfl rfl) ?_
   refine G.e (Eff.st (cs := [_, _]) (vs := [_, _]) (cs' := [_, _]) ty99) ?_
   rintro _ _ ⟨rfl, rfl⟩
   refine G.r (Runs.assign rfl) ?_
   refine G.nt ?_
   refine W.ret ?_
   refine V.then_ret ?_
   have hz : remG nd es u v = 7 := by unfold remG; rw [if_neg (by omega), if_neg (fun hm => c27 ((hi3.mem hG.asc).2 hm))]
   exact V.retc1 rfl ty99 rfl rfl (by repeat (first | exact List.mem_cons_self | apply List.mem_cons_of_mem)) rfl (I) Fit.m (.inl ⟨by rw [hz]; decide, by rw [hz], rfl⟩)
  ·refine W.skip ?_
   refine V.then ?_
   refine W.seq ?_
   refine W.drawn mixed ?_
   refine A.hold (blk b2 [I64 (0), .slice none 0 0] 99 :: blk b1 [I64 (nd), .slice a0 es.length c0] 99 :: I) 10 ?_
   refine D.r 0 rfl (Runs.fieldAddr fld99_0 rfl) ?_ (hJ := Fit.sub)
   refine D.r 1 rfl (Runs.ld ty3) ?_ (hJ := Fit.sub)
   refine D.r 2 rfl (Runs.fieldAddr fld99_1 rfl) ?_ (hJ := Fit.sub)
   refine D.r 3 rfl (Runs.ld ty97) ?_ (hJ := Fit.sub)
   refine D.r 5 rfl (Runs.move rfl) ?_ (hJ := Fit.sub)
   refine D.r 6 rfl (Runs.move rfl) ?_ (hJ := Fit.sub)
   refine D.r 7 rfl (Runs.add rfl rfl (by unfold InR; omega)) ?_ (hJ := Fit.sub)
   refine D.step (rs := [4]) (by kernel_rfl) rfl rfl (all1 ?_)
   refine Step.eff rfl (Wanted.plain rfl) (Eff.call call152 rfl rfl (CloneE (xs := es) (Sl.f hl) (by omega))) ?_
   rintro _ _ ⟨_, _, ⟨ad5, cp6, rfl, rfl⟩, rfl, rfl⟩
   refine ⟨Fit.sub, ?_⟩
   refine D.step (rs := [8]) (by kernel_rfl) rfl rfl (all1 ?_)
   refine Step.eff rfl (Wanted.plain rfl) (Eff.call call161 rfl rfl (DeleteE_at (i := i3) (j := (i3 + 1)) (by repeat (first | exact AtF.head _ _ | apply AtF.tail)) rfl (by omega) (by omega) (by omega))) ?_
   rintro _ _ ⟨_, _, ⟨_, ⟨rfl, rfl⟩, rfl⟩, rfl, rfl⟩
   refine ⟨Fit.sub, ?_⟩
   show D Try.prog κ _ _ _ _ _ _ _ ([(37, .slice ad5 (List.take i3 es ++ List.drop (i3 + 1) es).length cp6), (33, .slice ad5 es.length cp6), (36, I64 (((i3 : Nat) : Int) + 1)), (35, I64 (((i3 : Nat) : Int))), (34, I64 (((i3 : Nat) : Int))), (32, .slice a0 es.length c0), (31, .pointer (some ⟨b1, 1, none⟩)), (30, I64 (nd)), (29, .pointer (some ⟨b1, 0, none⟩)), (27, .bool (decide (¬ (i3 < es.length ∧ at_ es ((i3 : Nat) : Int) = edgeP u v)))), (26, .bool (decide (i3 < es.length ∧ at_ es ((i3 : Nat) : Int) = edgeP u v))), (10, .bool (decide (i3 < es.length ∧ at_ es ((i3 : Nat) : Int) = edgeP u v))), (9, I64 (((i3 : Nat) : Int))), (6, .pointer (some ⟨b2, 0, none⟩)), (3, .pointer (some ⟨b1, 0, none⟩))] : Env) (vc 150 (.slice ad5 (List.take i3 es ++ List.drop (i3 + 1) es).length cp6) (List.take i3 es ++ List.drop (i3 + 1) es) :: blk b2 [I64 (0), .slice none 0 0] 99 :: blk b1 [I64 (nd), .slice a0 es.length c0] 99 :: I)
   refine D.r 9 rfl (Runs.build (cells := [_, _]) ty99 Try.underlying99 pl99 rfl rfl) ?_ (hJ := Fit.sub)
   refine D.stop (by kernel_rfl) ?_
   refine A.eff (i := 10) (by kernel_rfl) rfl (Wanted.plain rfl) (Eff.st (cs := [_, _]) (vs := [_, _]) (cs' := [_, _]) ty99) ?_
   rintro _ _ ⟨rfl, rfl⟩
   refine A.read (i := 11) (by kernel_rfl) rfl (Wanted.plain rfl) rfl rfl (Runs.assign rfl) ?_
   refine A.done (by kernel_rfl) ?_
   refine V.then ?_
   refine W.sub (L' := [(7, _), (6, _)]) (Sub.cons rfl (Sub.cons rfl Sub.nil)) ?_
   refine W.ret ?_
   have hz : remG nd es u v = 0 := by unfold remG; rw [if_neg (by omega), if_pos ((hi3.mem hG.asc).1 (Classical.not_not.1 c27))]
   have hE : List.take i3 es ++ List.drop (i3 + 1) es = (without es (edgeP u v)) := hi3.del hG.asc ((hi3.mem hG.asc).1 (Classical.not_not.1 c27))
   exact V.retc1 rfl ty99 rfl rfl (by repeat (first | exact List.mem_cons_self | apply List.mem_cons_of_mem)) rfl (vc 150 (.slice ad5 (without es (edgeP u v)).length cp6) (without es (edgeP u v)) :: I) (by rw [← hE]; exact Fit.sub) (.inr ⟨ad5, cp6, hz, by rw [← hE]; rfl, rfl⟩)

end Go.Sl
