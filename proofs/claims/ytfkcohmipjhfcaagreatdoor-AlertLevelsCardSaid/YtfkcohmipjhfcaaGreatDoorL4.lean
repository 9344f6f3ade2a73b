/- A part of the proofs of statements of this seat: contracts of functions, and the plain laws that they lean on. No conditions. -/
import Derived.Test.YtfkcohmipjhfcaaGreatDoorL3
set_option linter.unusedVariables false
set_option linter.unusedSimpArgs false
set_option linter.unusedSectionVars false
namespace Go.Sl
section
variable {P : Program}
end
theorem u64_nat {n : Int} (h0 : 0 ≤ n) (h1 : n < 18446744073709551616) : ∃ b : BitVec 64, n = (b.toNat : Int) :=
 ⟨BitVec.ofNat 64 n.toNat, by rw [BitVec.toNat_ofNat]; omega⟩
section
variable {P : Program} {κ : Ctx} {N : Frm} {L : Env} {J : List Item} {d : Option Tmp} {ty : TypeId} {ps : String} {af : Array Edge} {gd : Option (Nat × Bool)} {x y : Operand} {T U : TypeId} {k' : IntKind}
theorem Runs.shrU {m n : Int} (hx : evalO L x = some (.int .u64 m)) (hy : evalO L y = some (.int k' n)) (h0 : 0 ≤ n) (h1 : n < 64) : Runs P κ N ⟨d, .binOp .shr T x y U, ty, ps, af, gd⟩ L J (.int .u64 (m / 2 ^ n.toNat)) := by
 have h := Runs.shrw (P := P) (κ := κ) (N := N) (J := J) (d := d) (ty := ty) (ps := ps) (af := af) (gd := gd) (T := T) (U := U) hx hy h0
 have e : m.fdiv (2 ^ Min.min n.toNat IntKind.u64.bits) = m / 2 ^ n.toNat := by
  rw [show Min.min n.toNat IntKind.u64.bits = n.toNat by show Min.min n.toNat 64 = _; omega, Int.fdiv_eq_ediv_of_nonneg _ (Int.pow_nonneg (by decide))]
 rwa [e] at h
end
theorem V.retcc {P : Program} {κ : Ctx} {N : Frm} {L : Env} {I : List Item} {fn : Func} {t u : Tmp} {T U b b' E E' sz sz' by' by2 : Nat} {z z' cs ds : List Value} {Post : Value → List Item → Prop} (hr : fn.results = #[.cell t T, .cell u U]) (hT : tyF P T = some (sz, true, by', z)) (hU : tyF P U = some (sz', true, by2, z'))
  (hv : look L t = some (.pointer (some ⟨b, 0, none⟩))) (hv' : look L u = some (.pointer (some ⟨b', 0, none⟩))) (hb : blk b cs E ∈ I) (hb' : blk b' ds E' ∈ I)
  (hl : cs.length = sz) (hl' : ds.length = sz') (J : List Item) (hf : Fit κ I J) (hp : Post (.tuple #[.agg cs.toArray, .agg ds.toArray]) J) (h0 : N.ds = [] := by rfl) : V κ N (bodyPost P fn (RetR κ Post)) .ret L I :=
 fun a w ha hs => by
  have hcell := fun j => cell_blk (w := w) (hs.ok _ hb).1 j
  have hcell2 := fun j => cell_blk (w := w) (hs.ok _ hb').1 j
  have hload : (loadVar T ⟨b, 0, none⟩).run P w = .ok (.agg cs.toArray) w := run_loadVar_agg hT hl fun j u hj => by rw [addr_add, hcell, ← hj]; simp
  have hload2 : (loadVar U ⟨b', 0, none⟩).run P w = .ok (.agg ds.toArray) w := run_loadVar_agg hU hl' fun j u hj => by rw [addr_add, hcell2, ← hj]; simp
  refine bodyPost_ret (v := .tuple #[.agg cs.toArray, .agg ds.toArray]) ?_ (ha.defers.trans h0) ⟨_, J, rfl, hp, hf w hs⟩
  simp [results, hr, ha.get t _ hv, ha.get u _ hv', asAddr, hload, hload2]
end Go.Sl
namespace Go.Sl
section
variable {P : Program} {κ : Ctx} {N : Frm} {Q : Exit → Act → World → Prop} {L : Env} {I J : List Item}
variable {d : Option Tmp} {ty : TypeId} {ps : String} {af : Array Edge} {gd : Option (Nat × Bool)}
end
section
variable {P : Program} {κ : Ctx} {N : Frm} {L : Env} {J : List Item} {d : Option Tmp} {ty : TypeId} {ps : String} {af : Array Edge} {gd : Option (Nat × Bool)} {x y : Operand} {T U : TypeId} {k' : IntKind}
theorem Runs.mulU {m n r : Int} (hx : evalO L x = some (.int .u64 m)) (hy : evalO L y = some (.int .u64 n)) (hr : m * n = r) (h0 : 0 ≤ r) (h1 : r < 18446744073709551616) : Runs P κ N ⟨d, .binOp .mul T x y U, ty, ps, af, gd⟩ L J (.int .u64 r) := by
 have h := Runs.mulw (P := P) (κ := κ) (N := N) (J := J) (d := d) (ty := ty) (ps := ps) (af := af) (gd := gd) (T := T) (U := U) hx hy
 have e : IntKind.u64.wrap (m * n) = r := by rw [u64_wrap, hr]; omega
 rwa [e] at h
theorem Runs.addU {m n r : Int} (hx : evalO L x = some (.int .u64 m)) (hy : evalO L y = some (.int .u64 n)) (hr : m + n = r) (h0 : 0 ≤ r) (h1 : r < 18446744073709551616) : Runs P κ N ⟨d, .binOp .add T x y U, ty, ps, af, gd⟩ L J (.int .u64 r) := by
 have h := Runs.addw (P := P) (κ := κ) (N := N) (J := J) (d := d) (ty := ty) (ps := ps) (af := af) (gd := gd) (T := T) (U := U) hx hy
 have e : IntKind.u64.wrap (m + n) = r := by rw [u64_wrap, hr]; omega
 rwa [e] at h
theorem Runs.lowU {m r : Int} (hx : evalO L x = some (.int .u64 m)) (hy : evalO L y = some (.int .u64 4294967295)) (h0 : 0 ≤ m) (h1 : m < 18446744073709551616) (hr : m % 4294967296 = r) : Runs P κ N ⟨d, .binOp .and T x y U, ty, ps, af, gd⟩ L J (.int .u64 r) := by
 obtain ⟨b, rfl⟩ := u64_nat h0 h1
 have h := Runs.andB (P := P) (κ := κ) (N := N) (J := J) (d := d) (ty := ty) (ps := ps) (af := af) (gd := gd) (T := T) (U := U) (b := 4294967295#64) hx hy
 have e : ((b &&& 4294967295#64).toNat : Int) = r := by
  rw [BitVec.toNat_and, show (4294967295#64).toNat = 2 ^ 32 - 1 from rfl, Nat.and_two_pow_sub_one_eq_mod, ← hr]; rfl
 rw [← e]; exact h
theorem Runs.shr32 {m r : Int} (hx : evalO L x = some (.int .u64 m)) (hy : evalO L y = some (.int k' 32)) (hr : m / 4294967296 = r) : Runs P κ N ⟨d, .binOp .shr T x y U, ty, ps, af, gd⟩ L J (.int .u64 r) := by
 have h := Runs.shrU (P := P) (κ := κ) (N := N) (J := J) (d := d) (ty := ty) (ps := ps) (af := af) (gd := gd) (T := T) (U := U) hx hy (by decide) (by decide)
 rw [show (2 : Int) ^ (32 : Int).toNat = 4294967296 from rfl, hr] at h
 exact h
end
end Go.Sl
namespace Go.Sl
section
variable {l : List Pt} {n : Nat}
end
end Go.Sl
namespace Go.Sl
end Go.Sl
namespace Go.Sl
def cmpI (a b : Int) : Int := if a < b then -1 else if b < a then 1 else 0
def orL : List Int → Int
 | [] => 0
 | x :: xs => if x ≠ 0 then x else orL xs
theorem orL_stop {xs : List Int} {k : Nat} (hk : k < xs.length) (h : at_ xs (k : Int) ≠ 0) : orL (xs.drop k) = at_ xs (k : Int) := by
 rw [drop_at xs k hk]; simp only [orL]; rw [if_pos h]
theorem orL_step {xs : List Int} {k : Nat} (hk : k < xs.length) (h : at_ xs (k : Int) = 0) : orL (xs.drop k) = orL (xs.drop (k + 1)) := by
 rw [drop_at xs k hk]; simp only [orL]; rw [if_neg (by simp [h])]
theorem orL_end {xs : List Int} {k : Nat} (hk : xs.length ≤ k) : orL (xs.drop k) = 0 := by rw [List.drop_eq_nil_of_le hk]; rfl
theorem orL_cmp (a b : Pt) : orL [cmpI a.u b.u, cmpI a.v b.v] = Pt.cmp a b := by
 simp only [orL, cmpI, Pt.cmp]
 split <;> (try split at *) <;> (try split at *) <;> (try split at *) <;> (try split at *) <;> (try split at *) <;> omega
section
variable {l rest : List Pt} {n : Nat} {j h : Nat}
end
section
variable {bl : List (List Pt)} {x : Pt} {fuel : Nat} {first last reads m : Int}
end
end Go.Sl
namespace Go.Sl
structure GrOk (nodes : Int) (es : List Pt) : Prop where
 rng : 0 ≤ nodes ∧ nodes ≤ 64
 asc : AscP es
 edge : ∀ e ∈ es, 0 ≤ e.u ∧ e.u < e.v ∧ e.v < nodes
structure GI (nodes : Int) (es : List Pt) (u v : Int) : Prop where
 asc : AscP es
 edge : ∀ e ∈ es, 0 ≤ e.u ∧ e.u < e.v ∧ e.v < nodes
 before : ∀ e ∈ es, e.u < u ∨ (e.u = u ∧ e.v < v)
section
variable {nodes u v w : Int} {es : List Pt}
theorem GI.start : GI nodes [] u v := ⟨List.Pairwise.nil, (fun e h => by cases h), (fun e h => by cases h)⟩
theorem GI.mono (h : GI nodes es u v) (hv : v ≤ w) : GI nodes es u w := ⟨h.asc, h.edge, fun e he => by have := h.before e he; omega⟩
theorem GI.row (h : GI nodes es u v) : GI nodes es (u + 1) w := ⟨h.asc, h.edge, fun e he => by have := h.before e he; omega⟩
theorem GI.push (h : GI nodes es u v) (h0 : 0 ≤ u) (h1 : u < v) (h2 : v < nodes) : GI nodes (es ++ [⟨u, v⟩]) u (v + 1) := by
 refine ⟨List.pairwise_append.2 ⟨h.asc, List.pairwise_singleton _ _, fun a ha b hb => ?_⟩, fun e he => ?_, fun e he => ?_⟩
 ·rw [List.mem_singleton.1 hb]; exact h.before a ha
 ·rcases List.mem_append.1 he with he | he
  ·exact h.edge e he
  ·rw [List.mem_singleton.1 he]; exact ⟨h0, h1, h2⟩
 ·rcases List.mem_append.1 he with he | he
  ·have := h.before e he; omega
  ·rw [List.mem_singleton.1 he]; right; exact ⟨rfl, by show v < v + 1; omega⟩
theorem GI.ok (h : GI nodes es u v) (hn : 0 ≤ nodes ∧ nodes ≤ 64) : GrOk nodes es := ⟨hn, h.asc, h.edge⟩
end
def badE (nodes : Int) (e : Pt) : Int := if e.u < 0 ∨ e.v ≤ e.u ∨ nodes ≤ e.v then 6 else 0
def checkG (nodes : Int) (es : List Pt) : Int := if nodes < 0 ∨ 64 < nodes then 1 else scanL (badE nodes) Pt.lt none es
theorem badE_zero {nodes : Int} {e : Pt} : badE nodes e = 0 ↔ 0 ≤ e.u ∧ e.u < e.v ∧ e.v < nodes := by
 unfold badE; split <;> omega
theorem checkG_ok {nodes : Int} {es : List Pt} : checkG nodes es = 0 ↔ GrOk nodes es := by
 unfold checkG
 split
 ·rename_i h
  exact ⟨fun e => by omega, fun e => by have := e.rng; omega⟩
 ·rename_i h
  rw [scanL_zero Pt.lin]
  constructor
  ·rintro ⟨h1, h2⟩; exact ⟨by omega, h2, fun e he => badE_zero.1 (h1 e he)⟩
  ·intro h1; exact ⟨fun e he => badE_zero.2 (h1.edge e he), h1.asc⟩
variable {nodes : Int} {es : List Pt}
theorem GrOk.at (h : GrOk nodes es) {k : Nat} (hk : k < es.length) : 0 ≤ (at_ es (k : Int)).u ∧ (at_ es (k : Int)).u < (at_ es (k : Int)).v ∧ (at_ es (k : Int)).v < nodes := h.edge _ (at_mem (by omega) (by omega))
theorem flt_yes {l : List Pt} {P : Pt → Bool} {k : Nat} (hk : k < l.length) (h : P (at_ l (k : Int)) = true) : (l.take (k + 1)).filter P = (l.take k).filter P ++ [at_ l (k : Int)] := by
 rw [take_at l k hk, List.filter_append]; simp [h]
theorem flt_no {l : List Pt} {P : Pt → Bool} {k : Nat} (hk : k < l.length) (h : P (at_ l (k : Int)) = false) : (l.take (k + 1)).filter P = (l.take k).filter P := by
 rw [take_at l k hk, List.filter_append]; simp [h]
theorem asc_nodup {l : List Pt} (h : AscP l) : l.Nodup := h.imp fun {a b} h e => Pt.lin.ne h e
end Go.Sl
namespace Go.Sl
def edgeP (u v : Int) : Pt := ⟨if v < u then v else u, if u < v then v else u⟩
theorem Pt.cmp_zero (a b : Pt) : Pt.cmp a b = 0 ↔ a = b := by
 rw [Pt.ext_iff']
 unfold Pt.cmp
 split <;> (try split) <;> (try split) <;> (try split) <;> omega
section
variable {es : List Pt} {e : Pt} {i : Nat} {q : Bool}
end
end Go.Sl
namespace Go.Sl
set_option maxRecDepth 10000
instance : Enc (BitVec 64) := ⟨fun b => [U64 b], 1, by omega, fun _ => rfl, fun _ u h => by simp at h; subst h; rfl⟩
def addRow (rows : List (BitVec 64)) (e : Pt) : List (BitVec 64) :=
 if 0 ≤ e.u ∧ e.u < e.v ∧ e.v < rows.length then
  (rows.set e.u.toNat (at_ rows e.u ||| 1#64 <<< e.v.toNat)).set e.v.toNat (at_ (rows.set e.u.toNat (at_ rows e.u ||| 1#64 <<< e.v.toNat)) e.v ||| 1#64 <<< e.u.toNat)
 else rows
def rows0 (nd : Int) : List (BitVec 64) := List.replicate (min (max nd 0) 64).toNat 0#64
def rowsB (nd : Int) (es : List Pt) : List (BitVec 64) := es.foldl addRow (rows0 nd)
theorem addRow_len (rows : List (BitVec 64)) (e : Pt) : (addRow rows e).length = rows.length := by
 unfold addRow; split <;> simp
theorem rowsB_take {nd : Int} {es : List Pt} {k : Nat} (h : k < es.length) : rowsB nd (es.take (k + 1)) = addRow (rowsB nd (es.take k)) (at_ es (k : Int)) := by
 unfold rowsB; rw [take_at es k h, List.foldl_append]; rfl
theorem rowsB_len (nd : Int) (es : List Pt) : (rowsB nd es).length = (min (max nd 0) 64).toNat := by
 unfold rowsB
 have : ∀ (es : List Pt) (r : List (BitVec 64)), (es.foldl addRow r).length = r.length := fun es => by
  induction es with
  | nil => intro r; rfl
  | cons e es ih => intro r; rw [List.foldl_cons, ih, addRow_len]
 rw [this]; simp [rows0]
theorem at_rep64 (n : Nat) (i : Int) : at_ (List.replicate n (0#64)) i = 0#64 := by
 unfold at_
 rw [List.getD_eq_getElem?_getD, List.getElem?_replicate]
 split <;> rfl
structure RowsOk (nd : Int) (es : List Pt) (rows : List (BitVec 64)) : Prop where
 len : (rows.length : Int) = nd
 bit : ∀ v w : Int, 0 ≤ v → v < nd → 0 ≤ w → w < 64 → ((at_ rows v).getLsbD w.toNat = decide ((⟨v, w⟩ : Pt) ∈ es ∨ (⟨w, v⟩ : Pt) ∈ es))
theorem RowsOk.start {nd : Int} (h : 0 ≤ nd ∧ nd ≤ 64) : RowsOk nd [] (rows0 nd) :=
 ⟨by unfold rows0; simp; omega, fun v w _ _ _ _ => by unfold rows0; rw [at_rep64]; simp⟩
theorem addRow_at {rows : List (BitVec 64)} {e : Pt} (h : 0 ≤ e.u ∧ e.u < e.v ∧ e.v < rows.length) (j : Int) (h0 : 0 ≤ j) (h1 : j < rows.length) :
  at_ (addRow rows e) j = if e.v = j then at_ rows e.v ||| 1#64 <<< e.u.toNat else if e.u = j then at_ rows e.u ||| 1#64 <<< e.v.toNat else at_ rows j := by
 unfold addRow
 rw [if_pos h, at_set _ e.v j _ (by omega) h0 (by rw [List.length_set]; omega)]
 by_cases hv : e.v = j
 ·rw [if_pos hv, if_pos hv, at_set _ e.u e.v _ (by omega) (by omega) (by omega), if_neg (by omega)]
 ·rw [if_neg hv, if_neg hv, at_set _ e.u j _ (by omega) h0 (by omega)]
theorem getLsb_shl (a i : Nat) (hi : i < 64) : (1#64 <<< a).getLsbD i = decide (a = i) := by
 show (BitVec.twoPow 64 a).getLsbD i = _
 rw [BitVec.getLsbD_twoPow]
 by_cases h : a = i
 ·subst h; simp [hi]
 ·simp [h]
theorem RowsOk.push {nd : Int} {es : List Pt} {rows : List (BitVec 64)} {e : Pt} (h : RowsOk nd es rows) (he : 0 ≤ e.u ∧ e.u < e.v ∧ e.v < nd) (hn : nd ≤ 64) : RowsOk nd (es ++ [e]) (addRow rows e) := by
 have hl := h.len
 refine ⟨by rw [addRow_len]; exact hl, fun v w v0 v1 w0 w1 => ?_⟩
 rw [addRow_at (by omega) v v0 (by omega)]
 have hb := h.bit v w v0 v1 w0 w1
 have hext : ∀ a b : Int, ((⟨a, b⟩ : Pt) = e) ↔ (a = e.u ∧ b = e.v) := fun a b => by rw [Pt.ext_iff']
 simp only [List.mem_append, List.mem_singleton, hext]
 by_cases hv : e.v = v
 ·rw [if_pos hv, BitVec.getLsbD_or, getLsb_shl _ _ (by omega), hv, hb]
  have e1 : (e.u.toNat = w.toNat) ↔ (w = e.u ∧ v = e.v) := by omega
  have e2 : ¬ (v = e.u ∧ w = e.v) := by omega
  rw [decide_eq_decide.2 e1]
  rw [← Bool.decide_or, decide_eq_decide]
  constructor
  ·rintro ((a | b) | c)
   ·exact .inl (.inl a)
   ·exact .inr (.inl b)
   ·exact .inr (.inr ⟨c.1, rfl⟩)
  ·rintro ((a | c) | (b | c))
   ·exact .inl (.inl a)
   ·exact absurd c (fun c => by omega)
   ·exact .inl (.inr b)
   ·exact .inr ⟨c.1, hv.symm⟩
 ·rw [if_neg hv]
  by_cases hu : e.u = v
  ·rw [if_pos hu, BitVec.getLsbD_or, getLsb_shl _ _ (by omega), hu, hb]
   have e1 : (e.v.toNat = w.toNat) ↔ (v = e.u ∧ w = e.v) := by omega
   have e2 : ¬ (w = e.u ∧ v = e.v) := by omega
   rw [decide_eq_decide.2 e1]
   rw [← Bool.decide_or, decide_eq_decide]
   constructor
   ·rintro ((a | b) | c)
    ·exact .inl (.inl a)
    ·exact .inr (.inl b)
    ·exact .inl (.inr ⟨rfl, c.2⟩)
   ·rintro ((a | c) | (b | c))
    ·exact .inl (.inl a)
    ·exact .inr ⟨hu.symm, c.2⟩
    ·exact .inl (.inr b)
    ·exact absurd c (fun c => by omega)
  ·rw [if_neg hu, hb]
   have e1 : ¬ (v = e.u ∧ w = e.v) := by omega
   have e2 : ¬ (w = e.u ∧ v = e.v) := by omega
   simp [e1, e2]
theorem rowsB_ok {nd : Int} {es : List Pt} (h : GrOk nd es) : ∀ k, k ≤ es.length → RowsOk nd (es.take k) (rowsB nd (es.take k))
 | 0, _ => by simpa [rowsB] using RowsOk.start h.rng
 | k + 1, hk => by
  rw [rowsB_take (by omega), take_at es k (by omega)]
  exact (rowsB_ok h k (by omega)).push (h.at (by omega)) h.rng.2
theorem GrOk.rows {nd : Int} {es : List Pt} (h : GrOk nd es) : RowsOk nd es (rowsB nd es) := by
 have := rowsB_ok h es.length (Nat.le_refl _)
 rwa [List.take_length] at this
end Go.Sl
namespace Go.Sl
section
variable {P : Program} {κ : Ctx} {N : Frm} {Q : Exit → Act → World → Prop} {L : Env} {I J : List Item}
variable {d : Option Tmp} {ty : TypeId} {ps : String} {af : Array Edge} {gd : Option (Nat × Bool)}
theorem Runs.getAU {xs : List (BitVec 64)} {x : Operand} {T sz by' b E : Nat} {z : List Value} {i : Int} (hT : tyF P T = some (sz, false, by', z)) (hx : evalO L x = some (.pointer (some ⟨b, 0 + i.toNat * 1, none⟩))) (hb : BlkRd κ J b (cells xs) E) (h0 : 0 ≤ i) (hn : i < xs.length) :
  Runs P κ N ⟨d, .load T x, ty, ps, af, gd⟩ L J (U64 (at_ xs i)) := by
 refine Runs.loadB hT hx hb ?_
 have := cells_get xs i.toNat 0 (by omega) (by decide)
 rw [show 0 + i.toNat * 1 = i.toNat * Enc.sz (BitVec 64) + 0 by show 0 + i.toNat * 1 = i.toNat * 1 + 0; omega, this, at_eq h0 hn]; rfl
theorem cells_setU (xs : List (BitVec 64)) (i : Nat) (n : BitVec 64) (h : i < xs.length) : (cells xs).take i ++ [U64 n] ++ (cells xs).drop (i + 1) = cells (xs.set i n) := by
 induction xs generalizing i with
 | nil => simp at h
 | cons x xs ih =>
  cases i with
  | zero => rfl
  | succ i =>
   have h' : i < xs.length := by simpa using h
   have e : cells (x :: xs) = U64 x :: cells xs := rfl
   rw [e, List.set_cons_succ]
   have e2 : cells (x :: xs.set i n) = U64 x :: cells (xs.set i n) := rfl
   rw [e2, ← ih i h']; rfl
theorem Eff.setAU {xs : List (BitVec 64)} {x y : Operand} {T sz by' b E : Nat} {ag : Bool} {z : List Value} {i : Int} {n : BitVec 64} {I' : List Item} (hT : tyF P T = some (sz, ag, by', z)) (hs1 : sz = 1) (hx : evalO L x = some (.pointer (some ⟨b, 0 + i.toNat * 1, none⟩))) (hy : evalO L y = some (U64 n)) (h0 : 0 ≤ i) (hn : i < xs.length)
  (hat : At I (blk b (cells xs) E) (blk b (cells (xs.set i.toNat n)) E) I') :
  Eff P κ N Q ⟨none, .store T x y, ty, ps, af, gd⟩ L I fun L' I'' => L' = L ∧ I'' = I' := by
 have hl : (cells xs).length = xs.length := by rw [cells_length]; show xs.length * 1 = _; omega
 refine Eff.store (vs := [U64 n]) (cs' := cells (xs.set i.toNat n)) hT hx hy rfl (by rw [hs1]; rfl) (fun u hu => by rw [List.mem_singleton] at hu; subst hu; rfl) (by rw [hl]; simp; omega) ?_ hat
 have h := cells_setU xs i.toNat n (by omega)
 rw [show 0 + i.toNat * 1 = i.toNat by omega]
 exact h
end
end Go.Sl
namespace Go.Sl
open Go.Proofs
abbrev Aa := @Sub.cons
abbrev Ab := @Tryz.underlying22
abbrev Ac := @Runs.fieldAddr
abbrev Ad := @Runs.move
abbrev Af := @G.nt
abbrev Ah := @W.sr
abbrev Ai := @V.block_normal
abbrev Aj := @V.then
abbrev Ak := @V.then_ret
abbrev Al := @Runs.pickt
abbrev Am := @Eff.call
abbrev Ao := @V.then_exit
abbrev Ap := @W.sub
abbrev Aq := @Runs.pickf
abbrev Ar := @V.block_ret
abbrev As := @W.seq
abbrev Au := @Runs.ld
abbrev Av := @W.region
abbrev Aw := @Tryz.underlying109
abbrev Ax := @Fit.m
abbrev Ay := @W.ret
abbrev Az := @Runs.extract
abbrev A0 := @Runs.idx
abbrev A1 := @V.ret1
abbrev A2 := @Fit.sub
abbrev A3 := @W.block
abbrev A4 := @W.skip
abbrev A5 := @V.block_hit
abbrev A6 := @Tryz.underlying28
abbrev A7 := @W.ite
abbrev A8 := @Runs.lss
abbrev A9 := @Runs.assign
abbrev Ba := @Eff.alloc
abbrev Bb := @Runs.eql
abbrev Bc := @Sl.o
abbrev Bd := @G.split
abbrev Be := @Eff.box
abbrev Bf := @Runs.build
abbrev Bg := @Runs.nilCheck
abbrev Bh := @G.nil
abbrev Bi := @Sl.f
abbrev Bj := @Sub.nil
abbrev Bk := @W.drawn
abbrev Bl := @Runs.lens
abbrev Bm := @Runs.lds
abbrev Bo := @Tryz.underlying46
abbrev Bp := @A.hold
abbrev Bq := @TabRd.fit
abbrev Br := @Runs.get
abbrev Bs := @Runs.gets
abbrev Bt := @W.exit
abbrev Bu := @Tryz.underlying3
abbrev Bv := @Fit.nilvc
abbrev Bw := @Runs.neq
abbrev Bx := @W.loop
abbrev Bz := @Wanted.on
abbrev B0 := @Runs.lenT
abbrev B1 := @Runs.not
abbrev B2 := @CallS.pull
abbrev B3 := @V.nx
abbrev B4 := @Sl.fit
abbrev B5 := @Eff.bs
abbrev B6 := @Fit.s
abbrev B7 := @Runs.gtr
abbrev B8 := @Tryz.underlying64
abbrev B9 := @Tryz.underlying58
abbrev Ca := @Tryz.underlying228
abbrev Cb := @Tryz.underlying40
abbrev Cc := @Tryz.underlying337
abbrev Cd := @Runs.geq
abbrev Ce := @Eff.app
abbrev Cf := @Tryz.underlying79
abbrev Cg := @Runs.idxArr
abbrev Ch := @at_mem
abbrev Ci := @lookO
abbrev Cj := @Fit.trans
abbrev Ck := @Eff.make
abbrev Cl := @Wanted.plain
abbrev Cm := @CallS.fit
abbrev Cn := @W.yes
abbrev Co := @Es2_2
abbrev Cp := @Eff.callv
abbrev Cq := @Tryz.underlying264
abbrev Cr := @Tryz.underlying5
abbrev Cs := @Runs.andB
abbrev Ct := @Eff.set
abbrev Cu := @V.ret2
abbrev Cv := @BlkRd.fit
abbrev Cw := @G.eff
abbrev Cx := @take_at
abbrev Cy := @lookV
abbrev Cz := @Tryz.underlying65
abbrev C0 := @lookI
abbrev C1 := @Runs.loadB
abbrev C2 := @Runs.getf0
abbrev C3 := @at_set
abbrev C4 := @D.stop
abbrev C5 := @A.done
abbrev C6 := @Tryz.underlying35
abbrev C7 := @listB_zero
abbrev C8 := @Tryz.underlying301
abbrev C9 := @Tryz.underlying297
abbrev Da := @Tryz.underlying175
abbrev Db := @Tryz.underlying135
abbrev Dc := @scanL_bad
abbrev De := @Tryz.underlying33
abbrev Df := @Sl.drop
abbrev Dg := @Es6_6
abbrev Dh := @BlkRd.of
abbrev Di := @sumN_congr
abbrev Dj := @W.no
abbrev Dk := @Tryz.underlying339
abbrev Dl := @Tryz.underlying277
abbrev Dn := @Tryz.underlying211
abbrev Do := @D.split
abbrev Dp := @V.retc1
abbrev Dq := @Runs.max
abbrev Ds := @G.splitb
abbrev Dt := @Runs.notd
abbrev Du := @V.retc
abbrev Dv := @D.step
abbrev Dw := @Runs.makeFunc
abbrev Dx := @Runs.leq
abbrev Dy := @at_get
abbrev D0 := @V.mi
abbrev D1 := @Tryz.underlying132
abbrev D2 := @Runs.fld
abbrev D3 := @CallS.at
abbrev D4 := @mem_listB
abbrev D5 := @Runs.loraw
abbrev D6 := @Runs.convI
abbrev D7 := @Runs.lo
abbrev D8 := @GY.read
abbrev D9 := @Es7_1
abbrev Ea := @Es6_1
abbrev Eb := @Runs.andNotB
abbrev Ec := @sortZ_len
abbrev Ed := @Runs.getf
abbrev Ee := @Tryz.underlying181
abbrev Ef := @Tryz.underlying111
abbrev Eg := @Tryz.underlying102
abbrev Eh := @Runs.rem
abbrev Ei := @Runs.neB
abbrev Ej := @Es5_5
abbrev Ek := @Tryz.underlying44
abbrev El := @Sl.vec
abbrev Em := @all_succ
abbrev En := @Tryz.underlying4
abbrev Eo := @Sl.dropn
abbrev Ep := @Runs.shrB
abbrev Eq := @Runs.orB
abbrev Er := @Runs.min
abbrev Es := @Runs.getB
abbrev Et := @scanL_step
abbrev Eu := @Runs.getAU
theorem kr {p : Prop} (h : p := by kernel_rfl) : p := h
theorem dc {p : Prop} (h : p := by decide) : p := h
theorem lcn {p : Prop} (h : p := by simp only [List.length_cons, List.length_nil]; omega) : p := h
theorem asm {p : Prop} (h : p := by assumption) : p := h
theorem lat {p : Prop} (h : p := by first | omega | (simp only [List.length_append, List.length_take, List.length_drop, List.length_replicate] <;> omega)) : p := h
theorem lap {p : Prop} (h : p := by simp only [List.length_append, List.length_cons, List.length_nil]; omega) : p := h
theorem olp {p : Prop} (h : p := by first | omega | (simp only [List.length_append, List.length_cons, List.length_nil]; omega)) : p := h
theorem olr {p : Prop} (h : p := by first | omega | (simp only [List.length_replicate]; omega)) : p := h
end Go.Sl
namespace Go.Sl
open Go.Proofs
theorem ty2 : tyF Tryz.prog 2 = some (1, false, 8, [I64 (0)]) := by kernel_rfl
theorem ty3 : tyF Tryz.prog 3 = some (1, false, 8, [I64 (0)]) := by kernel_rfl
theorem ty4 : tyF Tryz.prog 4 = some (1, false, 1, [.bool false]) := by kernel_rfl
theorem ty5 : tyF Tryz.prog 5 = some (1, false, 1, [.int .u8 (0)]) := by kernel_rfl
theorem ty22 : tyF Tryz.prog 22 = some (1, false, 24, [.slice none 0 0]) := by kernel_rfl
theorem ty28 : tyF Tryz.prog 28 = some (1, false, 24, [.slice none 0 0]) := by kernel_rfl
theorem ty31 : tyF Tryz.prog 31 = some (3, true, 24, [I64 (0), I64 (0), I64 (0)]) := by kernel_rfl
theorem fld31_0 : fldF Tryz.prog 31 0 = some 0 := by kernel_rfl
theorem fld31_1 : fldF Tryz.prog 31 1 = some 1 := by kernel_rfl
theorem fld31_2 : fldF Tryz.prog 31 2 = some 2 := by kernel_rfl
theorem pl31 (w : World) : (placesRun Tryz.prog 31).run Tryz.prog w = .ok #[(0, 1), (1, 1), (2, 1)] w := by kernel_rfl
theorem ty40 : tyF Tryz.prog 40 = some (2, true, 16, [I64 (0), I64 (0)]) := by kernel_rfl
theorem fld40_0 : fldF Tryz.prog 40 0 = some 0 := by kernel_rfl
theorem fld40_1 : fldF Tryz.prog 40 1 = some 1 := by kernel_rfl
theorem pl40 (w : World) : (placesRun Tryz.prog 40).run Tryz.prog w = .ok #[(0, 1), (1, 1)] w := by kernel_rfl
theorem ty42 : tyF Tryz.prog 42 = some (6, true, 64, [I64 (0), I64 (0), I64 (0), .slice none 0 0, I64 (0), I64 (0)]) := by kernel_rfl
theorem fld42_0 : fldF Tryz.prog 42 0 = some 0 := by kernel_rfl
theorem fld42_1 : fldF Tryz.prog 42 1 = some 1 := by kernel_rfl
theorem fld42_2 : fldF Tryz.prog 42 2 = some 2 := by kernel_rfl
theorem fld42_3 : fldF Tryz.prog 42 3 = some 3 := by kernel_rfl
theorem fld42_4 : fldF Tryz.prog 42 4 = some 4 := by kernel_rfl
theorem pl42 (w : World) : (placesRun Tryz.prog 42).run Tryz.prog w = .ok #[(0, 1), (1, 1), (2, 1), (3, 1), (4, 2)] w := by kernel_rfl
theorem ty44 : tyF Tryz.prog 44 = some (3, true, 24, [I64 (0), I64 (0), .bool false]) := by kernel_rfl
theorem pl44 (w : World) : (placesRun Tryz.prog 44).run Tryz.prog w = .ok #[(0, 1), (1, 1), (2, 1)] w := by kernel_rfl
theorem ty46 : tyF Tryz.prog 46 = some (1, false, 24, [.slice none 0 0]) := by kernel_rfl
theorem ty48 : tyF Tryz.prog 48 = some (2, true, 32, [I64 (0), .slice none 0 0]) := by kernel_rfl
theorem fld48_0 : fldF Tryz.prog 48 0 = some 0 := by kernel_rfl
theorem fld48_1 : fldF Tryz.prog 48 1 = some 1 := by kernel_rfl
theorem pl48 (w : World) : (placesRun Tryz.prog 48).run Tryz.prog w = .ok #[(0, 1), (1, 1)] w := by kernel_rfl
theorem ty64 : tyF Tryz.prog 64 = some (2, true, 16, [I64 (0), I64 (0)]) := by kernel_rfl
theorem ty65 : tyF Tryz.prog 65 = some (1, false, 24, [.slice none 0 0]) := by kernel_rfl
theorem ty79 : tyF Tryz.prog 79 = some (1, false, 24, [.slice none 0 0]) := by kernel_rfl
theorem ty88 : tyF Tryz.prog 88 = some (2, true, 32, [I64 (0), .slice none 0 0]) := by kernel_rfl
theorem pl88 (w : World) : (placesRun Tryz.prog 88).run Tryz.prog w = .ok #[(0, 1), (1, 1)] w := by kernel_rfl
theorem ty102 : tyF Tryz.prog 102 = some (5, true, 72, [.slice none 0 0, I64 (0), I64 (0), I64 (0), .slice none 0 0]) := by kernel_rfl
theorem fld102_1 : fldF Tryz.prog 102 1 = some 1 := by kernel_rfl
theorem pl102 (w : World) : (placesRun Tryz.prog 102).run Tryz.prog w = .ok #[(0, 1), (1, 2), (3, 2)] w := by kernel_rfl
theorem ty108 : tyF Tryz.prog 108 = some (7, true, 56, [I64 (0), I64 (0), I64 (0), I64 (0), I64 (0), I64 (0), I64 (0)]) := by kernel_rfl
theorem fld108_0 : fldF Tryz.prog 108 0 = some 0 := by kernel_rfl
theorem fld108_1 : fldF Tryz.prog 108 1 = some 1 := by kernel_rfl
theorem fld108_2 : fldF Tryz.prog 108 2 = some 2 := by kernel_rfl
theorem fld108_3 : fldF Tryz.prog 108 3 = some 3 := by kernel_rfl
theorem fld108_4 : fldF Tryz.prog 108 4 = some 4 := by kernel_rfl
theorem fld108_5 : fldF Tryz.prog 108 5 = some 5 := by kernel_rfl
theorem fld108_6 : fldF Tryz.prog 108 6 = some 6 := by kernel_rfl
theorem pl108 (w : World) : (placesRun Tryz.prog 108).run Tryz.prog w = .ok #[(0, 1), (1, 1), (2, 1), (3, 1), (4, 1), (5, 1), (6, 1)] w := by kernel_rfl
theorem ty109 : tyF Tryz.prog 109 = some (1, false, 24, [.slice none 0 0]) := by kernel_rfl
theorem ty111 : tyF Tryz.prog 111 = some (2, true, 32, [I64 (0), .slice none 0 0]) := by kernel_rfl
theorem fld111_0 : fldF Tryz.prog 111 0 = some 0 := by kernel_rfl
theorem fld111_1 : fldF Tryz.prog 111 1 = some 1 := by kernel_rfl
theorem pl111 (w : World) : (placesRun Tryz.prog 111).run Tryz.prog w = .ok #[(0, 1), (1, 1)] w := by kernel_rfl
theorem ty125 : tyF Tryz.prog 125 = some (2, true, 32, [.slice none 0 0, I64 (0)]) := by kernel_rfl
theorem fld125_0 : fldF Tryz.prog 125 0 = some 0 := by kernel_rfl
theorem fld125_1 : fldF Tryz.prog 125 1 = some 1 := by kernel_rfl
theorem pl125 (w : World) : (placesRun Tryz.prog 125).run Tryz.prog w = .ok #[(0, 1), (1, 1)] w := by kernel_rfl
theorem ty130 : tyF Tryz.prog 130 = some (1, false, 8, [.nilFunc]) := by kernel_rfl
end Go.Sl
namespace Go.Sl
open Go.Proofs
theorem ty132 : tyF Tryz.prog 132 = some (5, true, 16, [.bool false, .bool false, .bool false, .bool false, .nilFunc]) := by kernel_rfl
theorem fld132_0 : fldF Tryz.prog 132 0 = some 0 := by kernel_rfl
theorem fld132_1 : fldF Tryz.prog 132 1 = some 1 := by kernel_rfl
theorem fld132_2 : fldF Tryz.prog 132 2 = some 2 := by kernel_rfl
theorem fld132_3 : fldF Tryz.prog 132 3 = some 3 := by kernel_rfl
theorem fld132_4 : fldF Tryz.prog 132 4 = some 4 := by kernel_rfl
theorem pl132 (w : World) : (placesRun Tryz.prog 132).run Tryz.prog w = .ok #[(0, 1), (1, 1), (2, 1), (3, 1), (4, 1)] w := by kernel_rfl
theorem ty135 : tyF Tryz.prog 135 = some (2, true, 16, [I64 (0), I64 (0)]) := by kernel_rfl
theorem fld135_0 : fldF Tryz.prog 135 0 = some 0 := by kernel_rfl
theorem fld135_1 : fldF Tryz.prog 135 1 = some 1 := by kernel_rfl
theorem pl135 (w : World) : (placesRun Tryz.prog 135).run Tryz.prog w = .ok #[(0, 1), (1, 1)] w := by kernel_rfl
theorem ty146 : tyF Tryz.prog 146 = some (6, true, 48, [I64 (0), I64 (0), I64 (0), I64 (0), I64 (0), I64 (0)]) := by kernel_rfl
theorem fld146_0 : fldF Tryz.prog 146 0 = some 0 := by kernel_rfl
theorem fld146_1 : fldF Tryz.prog 146 1 = some 1 := by kernel_rfl
theorem fld146_2 : fldF Tryz.prog 146 2 = some 2 := by kernel_rfl
theorem fld146_3 : fldF Tryz.prog 146 3 = some 3 := by kernel_rfl
theorem fld146_4 : fldF Tryz.prog 146 4 = some 4 := by kernel_rfl
theorem fld146_5 : fldF Tryz.prog 146 5 = some 5 := by kernel_rfl
theorem pl146 (w : World) : (placesRun Tryz.prog 146).run Tryz.prog w = .ok #[(0, 1), (1, 1), (2, 1), (3, 1), (4, 1), (5, 1)] w := by kernel_rfl
theorem ty153 : tyF Tryz.prog 153 = some (2, true, 16, [I64 (0), .bool false]) := by kernel_rfl
theorem fld153_0 : fldF Tryz.prog 153 0 = some 0 := by kernel_rfl
theorem fld153_1 : fldF Tryz.prog 153 1 = some 1 := by kernel_rfl
theorem pl153 (w : World) : (placesRun Tryz.prog 153).run Tryz.prog w = .ok #[(0, 1), (1, 1)] w := by kernel_rfl
theorem ty175 : tyF Tryz.prog 175 = some (1, false, 8, [.int .u64 (0)]) := by kernel_rfl
theorem ty208 : tyF Tryz.prog 208 = some (2, true, 32, [.int .u64 (0), .slice none 0 0]) := by kernel_rfl
theorem fld208_0 : fldF Tryz.prog 208 0 = some 0 := by kernel_rfl
theorem fld208_1 : fldF Tryz.prog 208 1 = some 1 := by kernel_rfl
theorem pl208 (w : World) : (placesRun Tryz.prog 208).run Tryz.prog w = .ok #[(0, 1), (1, 1)] w := by kernel_rfl
theorem ty211 : tyF Tryz.prog 211 = some (6, true, 112, [.slice none 0 0, .slice none 0 0, .slice none 0 0, .slice none 0 0, .int .u64 (0), .int .u64 (0)]) := by kernel_rfl
theorem fld211_0 : fldF Tryz.prog 211 0 = some 0 := by kernel_rfl
theorem fld211_1 : fldF Tryz.prog 211 1 = some 1 := by kernel_rfl
theorem fld211_2 : fldF Tryz.prog 211 2 = some 2 := by kernel_rfl
theorem fld211_3 : fldF Tryz.prog 211 3 = some 3 := by kernel_rfl
theorem fld211_4 : fldF Tryz.prog 211 4 = some 4 := by kernel_rfl
theorem fld211_5 : fldF Tryz.prog 211 5 = some 5 := by kernel_rfl
theorem pl211 (w : World) : (placesRun Tryz.prog 211).run Tryz.prog w = .ok #[(0, 1), (1, 1), (2, 1), (3, 1), (4, 1), (5, 1)] w := by kernel_rfl
theorem ty241 : tyF Tryz.prog 241 = some (3, true, 56, [I64 (0), .slice none 0 0, .slice none 0 0]) := by kernel_rfl
theorem fld241_0 : fldF Tryz.prog 241 0 = some 0 := by kernel_rfl
theorem fld241_1 : fldF Tryz.prog 241 1 = some 2 := by kernel_rfl
theorem pl241 (w : World) : (placesRun Tryz.prog 241).run Tryz.prog w = .ok #[(0, 2), (2, 1)] w := by kernel_rfl
theorem ty264 : tyF Tryz.prog 264 = some (64, true, 512, [.int .u64 (0), .int .u64 (0), .int .u64 (0), .int .u64 (0), .int .u64 (0), .int .u64 (0), .int .u64 (0), .int .u64 (0), .int .u64 (0), .int .u64 (0), .int .u64 (0), .int .u64 (0), .int .u64 (0), .int .u64 (0), .int .u64 (0), .int .u64 (0), .int .u64 (0), .int .u64 (0), .int .u64 (0), .int .u64 (0), .int .u64 (0), .int .u64 (0), .int .u64 (0), .int .u64 (0), .int .u64 (0), .int .u64 (0), .int .u64 (0), .int .u64 (0), .int .u64 (0), .int .u64 (0), .int .u64 (0), .int .u64 (0), .int .u64 (0), .int .u64 (0), .int .u64 (0), .int .u64 (0), .int .u64 (0), .int .u64 (0), .int .u64 (0), .int .u64 (0), .int .u64 (0), .int .u64 (0), .int .u64 (0), .int .u64 (0), .int .u64 (0), .int .u64 (0), .int .u64 (0), .int .u64 (0), .int .u64 (0), .int .u64 (0), .int .u64 (0), .int .u64 (0), .int .u64 (0), .int .u64 (0), .int .u64 (0), .int .u64 (0), .int .u64 (0), .int .u64 (0), .int .u64 (0), .int .u64 (0), .int .u64 (0), .int .u64 (0), .int .u64 (0), .int .u64 (0)]) := by kernel_rfl
end Go.Sl
namespace Go.Sl
open Go.Proofs
theorem ty301 : tyF Tryz.prog 301 = some (1, false, 24, [.slice none 0 0]) := by kernel_rfl
theorem ty303 : tyF Tryz.prog 303 = some (4, true, 48, [I64 (0), I64 (0), I64 (0), .slice none 0 0]) := by kernel_rfl
theorem fld303_0 : fldF Tryz.prog 303 0 = some 0 := by kernel_rfl
theorem fld303_1 : fldF Tryz.prog 303 1 = some 1 := by kernel_rfl
theorem fld303_2 : fldF Tryz.prog 303 2 = some 2 := by kernel_rfl
theorem fld303_3 : fldF Tryz.prog 303 3 = some 3 := by kernel_rfl
theorem pl303 (w : World) : (placesRun Tryz.prog 303).run Tryz.prog w = .ok #[(0, 1), (1, 1), (2, 1), (3, 1)] w := by kernel_rfl
theorem ty305 : tyF Tryz.prog 305 = some (3, true, 24, [I64 (0), I64 (0), I64 (0)]) := by kernel_rfl
theorem fld305_0 : fldF Tryz.prog 305 0 = some 0 := by kernel_rfl
theorem fld305_1 : fldF Tryz.prog 305 1 = some 1 := by kernel_rfl
theorem fld305_2 : fldF Tryz.prog 305 2 = some 2 := by kernel_rfl
theorem pl305 (w : World) : (placesRun Tryz.prog 305).run Tryz.prog w = .ok #[(0, 1), (1, 1), (2, 1)] w := by kernel_rfl
theorem ty336 : tyF Tryz.prog 336 = some (4, true, 32, [I64 (0), I64 (0), I64 (0), I64 (0)]) := by kernel_rfl
theorem fld336_0 : fldF Tryz.prog 336 0 = some 0 := by kernel_rfl
theorem fld336_1 : fldF Tryz.prog 336 1 = some 3 := by kernel_rfl
theorem pl336 (w : World) : (placesRun Tryz.prog 336).run Tryz.prog w = .ok #[(0, 3), (3, 1)] w := by kernel_rfl
theorem ty337 : tyF Tryz.prog 337 = some (1, false, 24, [.slice none 0 0]) := by kernel_rfl
theorem ty339 : tyF Tryz.prog 339 = some (5, true, 104, [.slice none 0 0, .slice none 0 0, .slice none 0 0, .slice none 0 0, I64 (0)]) := by kernel_rfl
theorem fld339_0 : fldF Tryz.prog 339 0 = some 0 := by kernel_rfl
theorem fld339_1 : fldF Tryz.prog 339 1 = some 1 := by kernel_rfl
theorem fld339_2 : fldF Tryz.prog 339 2 = some 2 := by kernel_rfl
theorem fld339_3 : fldF Tryz.prog 339 3 = some 3 := by kernel_rfl
theorem fld339_4 : fldF Tryz.prog 339 4 = some 4 := by kernel_rfl
theorem pl339 (w : World) : (placesRun Tryz.prog 339).run Tryz.prog w = .ok #[(0, 1), (1, 1), (2, 1), (3, 1), (4, 1)] w := by kernel_rfl
theorem call16 : callable Tryz.prog 16 = true := by kernel_rfl
theorem call17 : callable Tryz.prog 17 = true := by kernel_rfl
theorem call18 : callable Tryz.prog 18 = true := by kernel_rfl
theorem call19 : callable Tryz.prog 19 = true := by kernel_rfl
theorem call23 : callable Tryz.prog 23 = true := by kernel_rfl
theorem call24 : callable Tryz.prog 24 = true := by kernel_rfl
theorem call25 : callable Tryz.prog 25 = true := by kernel_rfl
theorem call26 : callable Tryz.prog 26 = true := by kernel_rfl
theorem call27 : callable Tryz.prog 27 = true := by kernel_rfl
theorem call28 : callable Tryz.prog 28 = true := by kernel_rfl
theorem call29 : callable Tryz.prog 29 = true := by kernel_rfl
theorem call30 : callable Tryz.prog 30 = true := by kernel_rfl
theorem call37 : callable Tryz.prog 37 = true := by kernel_rfl
theorem call44 : callable Tryz.prog 44 = true := by kernel_rfl
theorem call46 : callable Tryz.prog 46 = true := by kernel_rfl
theorem call49 : callable Tryz.prog 49 = true := by kernel_rfl
theorem call59 : callable Tryz.prog 59 = true := by kernel_rfl
theorem call76 : callable Tryz.prog 76 = true := by kernel_rfl
theorem call78 : callable Tryz.prog 78 = true := by kernel_rfl
theorem call79 : callable Tryz.prog 79 = true := by kernel_rfl
theorem call80 : callable Tryz.prog 80 = true := by kernel_rfl
theorem call81 : callable Tryz.prog 81 = true := by kernel_rfl
theorem call82 : callable Tryz.prog 82 = true := by kernel_rfl
theorem call83 : callable Tryz.prog 83 = true := by kernel_rfl
theorem call84 : callable Tryz.prog 84 = true := by kernel_rfl
theorem call88 : callable Tryz.prog 88 = true := by kernel_rfl
theorem call89 : callable Tryz.prog 89 = true := by kernel_rfl
theorem call97 : callable Tryz.prog 97 = true := by kernel_rfl
theorem call98 : callable Tryz.prog 98 = true := by kernel_rfl
theorem call100 : callable Tryz.prog 100 = true := by kernel_rfl
theorem call101 : callable Tryz.prog 101 = true := by kernel_rfl
theorem call102 : callable Tryz.prog 102 = true := by kernel_rfl
theorem call104 : callable Tryz.prog 104 = true := by kernel_rfl
theorem call109 : callable Tryz.prog 109 = true := by kernel_rfl
theorem call110 : callable Tryz.prog 110 = true := by kernel_rfl
end Go.Sl
namespace Go.Sl
open Go.Proofs
theorem call139 : callable Tryz.prog 139 = true := by kernel_rfl
theorem call140 : callable Tryz.prog 140 = true := by kernel_rfl
theorem call141 : callable Tryz.prog 141 = true := by kernel_rfl
theorem call142 : callable Tryz.prog 142 = true := by kernel_rfl
theorem call143 : callable Tryz.prog 143 = true := by kernel_rfl
theorem call144 : callable Tryz.prog 144 = true := by kernel_rfl
theorem call145 : callable Tryz.prog 145 = true := by kernel_rfl
theorem call146 : callable Tryz.prog 146 = true := by kernel_rfl
theorem call147 : callable Tryz.prog 147 = true := by kernel_rfl
theorem call148 : callable Tryz.prog 148 = true := by kernel_rfl
theorem call149 : callable Tryz.prog 149 = true := by kernel_rfl
theorem call150 : callable Tryz.prog 150 = true := by kernel_rfl
theorem call151 : callable Tryz.prog 151 = true := by kernel_rfl
theorem call152 : callable Tryz.prog 152 = true := by kernel_rfl
theorem call153 : callable Tryz.prog 153 = true := by kernel_rfl
theorem call154 : callable Tryz.prog 154 = true := by kernel_rfl
theorem call157 : callable Tryz.prog 157 = true := by kernel_rfl
theorem call158 : callable Tryz.prog 158 = true := by kernel_rfl
theorem call165 : callable Tryz.prog 165 = true := by kernel_rfl
theorem call166 : callable Tryz.prog 166 = true := by kernel_rfl
theorem call167 : callable Tryz.prog 167 = true := by kernel_rfl
theorem call168 : callable Tryz.prog 168 = true := by kernel_rfl
theorem call169 : callable Tryz.prog 169 = true := by kernel_rfl
theorem call170 : callable Tryz.prog 170 = true := by kernel_rfl
theorem call171 : callable Tryz.prog 171 = true := by kernel_rfl
theorem call172 : callable Tryz.prog 172 = true := by kernel_rfl
theorem call173 : callable Tryz.prog 173 = true := by kernel_rfl
theorem call174 : callable Tryz.prog 174 = true := by kernel_rfl
theorem call175 : callable Tryz.prog 175 = true := by kernel_rfl
theorem call197 : callable Tryz.prog 197 = true := by kernel_rfl
theorem call198 : callable Tryz.prog 198 = true := by kernel_rfl
theorem call199 : callable Tryz.prog 199 = true := by kernel_rfl
theorem call200 : callable Tryz.prog 200 = true := by kernel_rfl
theorem call209 : callable Tryz.prog 209 = true := by kernel_rfl
theorem call210 : callable Tryz.prog 210 = true := by kernel_rfl
theorem call211 : callable Tryz.prog 211 = true := by kernel_rfl
theorem call212 : callable Tryz.prog 212 = true := by kernel_rfl
theorem call213 : callable Tryz.prog 213 = true := by kernel_rfl
theorem call214 : callable Tryz.prog 214 = true := by kernel_rfl
theorem call215 : callable Tryz.prog 215 = true := by kernel_rfl
theorem call216 : callable Tryz.prog 216 = true := by kernel_rfl
theorem call219 : callable Tryz.prog 219 = true := by kernel_rfl
theorem call220 : callable Tryz.prog 220 = true := by kernel_rfl
theorem call221 : callable Tryz.prog 221 = true := by kernel_rfl
theorem call222 : callable Tryz.prog 222 = true := by kernel_rfl
theorem call223 : callable Tryz.prog 223 = true := by kernel_rfl
theorem call224 : callable Tryz.prog 224 = true := by kernel_rfl
theorem call225 : callable Tryz.prog 225 = true := by kernel_rfl
theorem call229 : callable Tryz.prog 229 = true := by kernel_rfl
theorem call230 : callable Tryz.prog 230 = true := by kernel_rfl
theorem call231 : callable Tryz.prog 231 = true := by kernel_rfl
theorem call232 : callable Tryz.prog 232 = true := by kernel_rfl
theorem call233 : callable Tryz.prog 233 = true := by kernel_rfl
theorem call234 : callable Tryz.prog 234 = true := by kernel_rfl
theorem call235 : callable Tryz.prog 235 = true := by kernel_rfl
theorem call236 : callable Tryz.prog 236 = true := by kernel_rfl
theorem call237 : callable Tryz.prog 237 = true := by kernel_rfl
theorem call238 : callable Tryz.prog 238 = true := by kernel_rfl
theorem call250 : callable Tryz.prog 250 = true := by kernel_rfl
theorem call251 : callable Tryz.prog 251 = true := by kernel_rfl
theorem call252 : callable Tryz.prog 252 = true := by kernel_rfl
theorem call253 : callable Tryz.prog 253 = true := by kernel_rfl
theorem call254 : callable Tryz.prog 254 = true := by kernel_rfl
theorem call255 : callable Tryz.prog 255 = true := by kernel_rfl
theorem call256 : callable Tryz.prog 256 = true := by kernel_rfl
theorem call257 : callable Tryz.prog 257 = true := by kernel_rfl
theorem call258 : callable Tryz.prog 258 = true := by kernel_rfl
theorem call259 : callable Tryz.prog 259 = true := by kernel_rfl
theorem call271 : callable Tryz.prog 271 = true := by kernel_rfl
theorem call272 : callable Tryz.prog 272 = true := by kernel_rfl
theorem call275 : callable Tryz.prog 275 = true := by kernel_rfl
theorem call276 : callable Tryz.prog 276 = true := by kernel_rfl
theorem call277 : callable Tryz.prog 277 = true := by kernel_rfl
theorem call280 : callable Tryz.prog 280 = true := by kernel_rfl
theorem call281 : callable Tryz.prog 281 = true := by kernel_rfl
theorem call282 : callable Tryz.prog 282 = true := by kernel_rfl
theorem call283 : callable Tryz.prog 283 = true := by kernel_rfl
theorem call284 : callable Tryz.prog 284 = true := by kernel_rfl
theorem call291 : callable Tryz.prog 291 = true := by kernel_rfl
theorem call292 : callable Tryz.prog 292 = true := by kernel_rfl
theorem call293 : callable Tryz.prog 293 = true := by kernel_rfl
theorem call294 : callable Tryz.prog 294 = true := by kernel_rfl
theorem call295 : callable Tryz.prog 295 = true := by kernel_rfl
theorem call296 : callable Tryz.prog 296 = true := by kernel_rfl
theorem call297 : callable Tryz.prog 297 = true := by kernel_rfl
theorem call298 : callable Tryz.prog 298 = true := by kernel_rfl
theorem call299 : callable Tryz.prog 299 = true := by kernel_rfl
theorem call300 : callable Tryz.prog 300 = true := by kernel_rfl
theorem call301 : callable Tryz.prog 301 = true := by kernel_rfl
theorem call302 : callable Tryz.prog 302 = true := by kernel_rfl
theorem call303 : callable Tryz.prog 303 = true := by kernel_rfl
theorem call309 : callable Tryz.prog 309 = true := by kernel_rfl
theorem call314 : callable Tryz.prog 314 = true := by kernel_rfl
theorem call315 : callable Tryz.prog 315 = true := by kernel_rfl
theorem call317 : callable Tryz.prog 317 = true := by kernel_rfl
theorem call318 : callable Tryz.prog 318 = true := by kernel_rfl
theorem call321 : callable Tryz.prog 321 = true := by kernel_rfl
theorem call323 : callable Tryz.prog 323 = true := by kernel_rfl
theorem call333 : callable Tryz.prog 333 = true := by kernel_rfl
theorem call335 : callable Tryz.prog 335 = true := by kernel_rfl
theorem call336 : callable Tryz.prog 336 = true := by kernel_rfl
theorem call341 : callable Tryz.prog 341 = true := by kernel_rfl
theorem call342 : callable Tryz.prog 342 = true := by kernel_rfl
theorem mixed : Tryz.prog.follows .mixedOrders = true := by kernel_rfl
end Go.Sl

namespace Go.Sl
open Go.Proofs
set_option maxRecDepth 4000
variable {κ : Ctx} {I : List Item}
abbrev deck (b : Nat) (lv : Value) (i : Int) : Item := blk b [lv, I64 i] 125
theorem Mod_ok {n k : Int} (h1 : 1 ≤ k) (h2 : k ≤ 1000000000000) :
    CallS Tryz.prog κ 76 [I64 (n), I64 (k)] I (fun r J => ∃ x : Int, r = I64 x ∧ (0 ≤ x ∧ x < k) ∧ I = J) := by
 have q1 := Int.tmod_lt_of_pos n (b := k) om
 have q2 := Int.lt_tmod_of_pos n (b := k) om
 refine Ce2 Tryz.func76 rfl rfl ?_
 refine Ah (Ga rfl (Af (Ah (Gm rfl (Gm rfl (Gr (Eh rfl rfl om) (Gm rfl (Gr (Rad rfl rfl) (Gm rfl (Gr (Eh rfl rfl om) (Ga rfl (Af (Ay ?_)))))))))))))
 have t1 := Int.tmod_nonneg k (a := Int.tmod n k + k) om
 have t2 := Int.tmod_lt_of_pos (Int.tmod n k + k) (b := k) om
 exact A1 rfl rfl (_) Ax ⟨_, rfl, ⟨t1, t2⟩, rfl⟩
theorem Next_base {b : Nat} {lv : Value} {ls : List Int} {i : Int} (hl : Sl κ (deck b lv i :: I) lv ls) (h0 : 0 ≤ i) {n : Int} (hn : n ≤ 1000000000000) :
    CallS Tryz.prog κ 19 [.pointer (some ⟨b, 0, none⟩), I64 (n)] (blk b [lv, I64 (i)] 125 :: I) (fun r J => ∃ y : Int × Int, (r = I64 y.1 ∧ (0 ≤ y.1 ∧ (1 ≤ n → y.1 < n) ∧ (n < 1 → y.1 = 0)) ∧ 0 ≤ y.2) ∧ J = [] ++ deck b lv y.2 :: I) := by
 refine B2 hl.le fun hmax => ?_
 refine Ce2 Tryz.func19 rfl rfl ?_
 refine Ah (Ga rfl (Af (As (As (Bk mixed (Bp (blk b [lv, I64 (i)] 125 :: I) 14 (Dr 0 rfl (Ad rfl) (Dr 1 rfl (A8 rfl rfl) (Dr 2 rfl (Ad rfl) (Do (d := 8) rfl (fun g8 => ?_) (fun g8 => ?_)))))))))))
 ·exact Dpo 3 rfl (Dpo 4 rfl (Dpo 5 rfl (Dpo 6 rfl (Dpo 7 rfl (Dpo 8 rfl (Dpo 9 rfl (Dpo 10 rfl (Dpo 11 rfl (Dpo 12 rfl (Dr 13 rfl (Al rfl rfl) (Dz (Aj (Ap (S3 19 0 1 rfl rfl rfl) (Cn rfl (Ah (Ga rfl (Af (Ay (Ak (A1 rfl rfl (_) Ax ⟨(0, i), ⟨rfl, ⟨Int.le_refl _, by intro _; show (0 : Int) < n; omega, fun _ => rfl⟩, h0⟩, rfl⟩))))))))))))))))))))
 ·refine Dro 3 rfl (Ad rfl) (Dro 4 rfl (Bg rfl) (Dro 5 rfl (Ac fld125_1 rfl) (Dro 6 rfl (Au ty3) ?_)))
  refine Dro 7 rfl (Ad rfl) (Dro 8 rfl (Bg rfl) (Dro 9 rfl (Ac fld125_0 rfl) (Dro 10 rfl (Au ty22) ?_)))
  refine Dro 11 rfl (B0 (α := Int) (xs := ls) Ab rfl (Bi hl)) (Dro 12 rfl (Cd rfl rfl) (Dr 13 rfl (Aq rfl rfl) (Dz (Aj (Ap (S3 19 0 1 rfl rfl rfl) (A7 rfl (fun c19 => ?_) (fun c19 => ?_)))))))
  ·exact Ah (Ga rfl (Af (Ay (Ak (A1 rfl rfl (_) Ax ⟨(0, i), ⟨rfl, ⟨Int.le_refl _, by intro _; show (0 : Int) < n; omega, fun _ => rfl⟩, h0⟩, rfl⟩)))))
  ·refine A4 (Aj (As (Bk mixed (Bp (blk b [lv, I64 (i)] 125 :: I) 11 (Dr 0 rfl (Ad rfl) (Dr 1 rfl (Bg rfl) (Dr 2 rfl (Ac fld125_0 rfl) (Dr 3 rfl (Au ty22) ?_))))))))
   refine Dr 4 rfl (Ad rfl) (Dr 5 rfl (Bg rfl) (Dr 6 rfl (Ac fld125_1 rfl) (Dr 7 rfl (Au ty3) ?_)))
   refine Dr 8 rfl (A0 (α := Int) (xs := ls) Ab ty3 rfl rfl (Bi hl) om om) (Dr 9 rfl (Br (xs := ls) ty3 rfl (Bi hl) om om) (Dr 10 rfl (A9 rfl) (Dz (Aj (Ap (S3 5 0 1 rfl rfl rfl) (Ah (Gm rfl (Gr (Bg rfl) (Gf fld125_1 rfl (Gl ty3 ?_))))))))))
   refine Gr (Rad rfl rfl) (Gr (Bg rfl) (Gf fld125_1 rfl (Ge0 (Es2_1 ty3) ?_)))
   refine Af (Ah (Gm rfl (Gm rfl (G.e (Am call76 rfl rfl (Mod_ok om om)) ?_))))
   rintro _ _ ⟨_, _, ⟨x1, rfl, hx1, rfl⟩, rfl, rfl⟩
   exact Ga rfl (Af (Ap (S1 4 rfl) (Ay (A1 rfl rfl (_) Ax ⟨(x1, i + 1), ⟨rfl, ⟨by omega, by omega, by omega⟩, by show 0 ≤ i + 1; omega⟩, rfl⟩))))
theorem Next_ok {F : Item → List Item} {b : Nat} {lv : Value} {ls : List Int} {i : Int} (hat : AtF I (deck b lv i) F) (hl : Sl κ I lv ls) (h0 : 0 ≤ i) {n : Int} (hn : n ≤ 1000000000000) :
  CallS Tryz.prog κ 19 [.pointer (some ⟨b, 0, none⟩), I64 n] I fun r J => ∃ x i', r = I64 x ∧ (0 ≤ x ∧ (1 ≤ n → x < n) ∧ (n < 1 → x = 0)) ∧ 0 ≤ i' ∧ J = F (deck b lv i') :=
 (D3 (Z := fun _ => []) (X := fun y : Int × Int => deck b lv y.2) hat fun _ hJ _ => Next_base (hl.fit hJ) h0 hn).mono fun _ _ ⟨y, ⟨h1, h2, h3⟩, h4⟩ => ⟨y.1, y.2, h1, h2, h3, h4⟩
theorem New_ok {a : Option Addr} {n c : Nat} :
    CallS Tryz.prog κ 18 [.slice a n c] I (fun r J => ∃ b, r = .pointer (some ⟨b, 0, none⟩) ∧ J = deck b (.slice a n c) 0 :: I) := by
 refine Ce1 Tryz.func18 rfl rfl ?_
 exact Ah (Ga rfl (Af (Ah (Gm rfl (Gr (Bf (cells := [_, _]) ty125 Tryz.underlying125 pl125 rfl rfl) (Ge1 (Be (cs := [_, _]) rfl rfl rfl) fun b1 => Ga rfl (Af (Ay (A1 rfl rfl (_) Ax ⟨b1, rfl, rfl⟩)))))))))
def ValidP (xs : List Int) (nodes : Int) : Prop := ∀ j, j < xs.length → (0 ≤ at_ xs (j : Int) ∧ at_ xs (j : Int) < nodes) ∧ (0 < j → at_ xs ((j : Int) - 1) < at_ xs (j : Int))
instance (xs : List Int) (nodes : Int) : Decidable (ValidP xs nodes) := by unfold ValidP; infer_instance
theorem NValid_ok {v : Value} {xs : List Int} (hl : Sl κ I v xs) (nodes : Int) :
    CallS Tryz.prog κ 88 [v, I64 (nodes)] I (fun r J => r = .bool (decide (ValidP xs nodes)) ∧ I = J) := by
 refine B2 hl.le fun hmax => ?_
 refine Ce2 Tryz.func88 rfl rfl ?_
 refine Ah (Ga rfl (Af (As (Ah (Gm rfl (Gr (B0 (α := Int) (xs := xs) Ab rfl (Bi hl)) (Gm rfl (Af (A3 (Bx (σ := Nat) (fun s => ([(0, v), (1, I64 (nodes)), (7, v), (8, I64 (((xs.length : Nat) : Int))), (9, I64 (((s : Nat) : Int)))] : Env)) (fun s => I) (fun s => (s ≤ xs.length) ∧ (∀ j, j < s → (0 ≤ at_ xs (j : Int) ∧ at_ xs (j : Int) < nodes) ∧ (0 < j → at_ xs ((j : Int) - 1) < at_ xs (j : Int)))) (fun s => xs.length - s) (0) (show ((0 : Nat) ≤ xs.length) ∧ (∀ j, j < (0 : Nat) → (0 ≤ at_ xs (j : Int) ∧ at_ xs (j : Int) < nodes) ∧ (0 < j → at_ xs ((j : Int) - 1) < at_ xs (j : Int))) from ⟨om, all_zero⟩) (Aa rfl (Aa rfl (Aa rfl (Aa rfl (Aa Ci Bj))))) (show Fit κ _ (I) from A2) ?_))))))))))
 rintro k hp
 obtain ⟨hk, hn⟩ := hp
 refine Ah (Gr (A8 rfl rfl) (Af (As (A7 rfl (fun c10 => ?_) (fun c10 => ?_)))))
 ·refine A4 (Aj (As (A3 (Ah (Gm rfl (Gr (A0 (α := Int) (xs := xs) Ab ty3 rfl rfl (Bi hl) om om) (Gr (Br (xs := xs) ty3 rfl (Bi hl) om om) (Ga rfl (Ga rfl (Af (Ah (Gm rfl (Gr (A8 rfl rfl) (Gm rfl (Bd (d := 16) rfl (fun g16 => ?_) (fun g16 => ?_))))))))))))))))
  ·refine Gpo (Gpo (Gpo (Gr (Al rfl rfl) (Gm rfl (Gpo (Gpo (Gpo (Gpu (Gpu (Gpu (Gpu (Gpu (Gpu (Gpu (Gpo (Gr (Al rfl rfl) (Af (Ap (S6 33 0 1 7 8 9 rfl rfl rfl rfl rfl rfl) (Cn rfl (Ah (Ga rfl (Af (Ay (Ar (Ak (Ak (Ar (Ak ?_))))))))))))))))))))))))))))
   have hm : ¬ ValidP xs nodes := fun hv => by have := hv k om; omega
   exact A1 rfl rfl (_) Ax ⟨by rw [decide_eq_false hm], rfl⟩
  ·refine Gro (Ad rfl) (Gro (Ad rfl) (Gro (Cd rfl rfl) (Gr (Aq rfl rfl) (Gm rfl (Bd (d := 21) rfl (fun g21 => ?_) (fun g21 => ?_))))))
   ·refine Gpo (Gpo (Gpo (Gpu (Gpu (Gpu (Gpu (Gpu (Gpu (Gpu (Gpo (Gr (Al rfl rfl) (Af (Ap (S6 33 0 1 7 8 9 rfl rfl rfl rfl rfl rfl) (Cn rfl (Ah (Ga rfl (Af (Ay (Ar (Ak (Ak (Ar (Ak ?_)))))))))))))))))))))))
    have hm : ¬ ValidP xs nodes := fun hv => by have := hv k om; omega
    exact A1 rfl rfl (_) Ax ⟨by rw [decide_eq_false hm], rfl⟩
   ·refine Gro (Ad rfl) (Gro (B7 rfl rfl) (Gro (Ad rfl) (Bd (d := 24) rfl (fun g24 => ?_) (fun g24 => ?_))))
    ·refine Gro (Ad rfl) (Gro (Ad rfl) (Gro (Rsu rfl rfl) (Gro (A0 (α := Int) (xs := xs) Ab ty3 rfl rfl (Bi hl) om om) (Gro (Br (xs := xs) ty3 rfl (Bi hl) om om) (Gro (Ad rfl) (Gro (Cd rfl rfl) (Gro (Al rfl rfl) (Gr (Aq rfl rfl) (Af (Ap (S6 33 0 1 7 8 9 rfl rfl rfl rfl rfl rfl) (A7 rfl (fun c33 => ?_) (fun c33 => ?_))))))))))))
     ·refine Ah (Ga rfl (Af (Ay (Ar (Ak (Ak (Ar (Ak ?_))))))))
      have hm : ¬ ValidP xs nodes := fun hv => by have := hv k om; have := this.2 om; omega
      exact A1 rfl rfl (_) Ax ⟨by rw [decide_eq_false hm], rfl⟩
     ·exact A4 (Ai (Aj (Av (Gr (Rad rfl rfl) (Gm rfl (Bh (B3 ((k + 1)) ⟨om, (Em hn ⟨by omega, fun _ => by omega⟩)⟩)))))))
    ·exact Gpo (Gpo (Gpo (Gpo (Gpo (Gpo (Gpo (Gro (Aq rfl rfl) (Gr (Aq rfl rfl) (Af (Ap (S6 33 0 1 7 8 9 rfl rfl rfl rfl rfl rfl) (Dj rfl (A4 (Ai (Aj (Av (Gr (Rad rfl rfl) (Gm rfl (Bh (B3 ((k + 1)) ⟨om, (Em hn ⟨by omega, fun _ => by omega⟩)⟩)))))))))))))))))))
 ·refine Bt (Ao (Ao (A5 (Aj (Ah (Ga rfl (Af (Ay ?_))))))))
  have hm : ValidP xs nodes := fun j hj => hn j om
  exact A1 rfl rfl (_) Ax ⟨by rw [decide_eq_true hm], rfl⟩
variable {κ : Ctx} {I : List Item}
theorem IsNaN_ok (n : Int) :
    CallS Tryz.prog κ 277 [I64 (n)] I (fun r J => r = .bool false ∧ I = J) := by
 refine Ce1 Tryz.func277 rfl rfl ?_
 exact Ah (Ga rfl (Af (Ah (Gm rfl (Gm rfl (Gr (Bw rfl rfl) (Ga rfl (Af (Ay (A1 rfl rfl (I) Ax ⟨by simp, rfl⟩))))))))))
theorem Compare_ok (m n : Int) :
    CallS Tryz.prog κ 225 [I64 (m), I64 (n)] I (fun r J => r = I64 (cmpI m n) ∧ I = J) := by
 refine Ce2 Tryz.func225 rfl rfl ?_
 refine Ah (Ga rfl (Af (Ah (Gm rfl (Gc0 (Am call277 rfl rfl (IsNaN_ok m)) ?_)))))
 refine Ga rfl (Af (Ah (Gm rfl (Gc0 (Am call277 rfl rfl (IsNaN_ok n)) ?_))))
 refine Ga rfl (Af (As (Ah (Gm rfl (Af (Dj rfl (A4 (Aj (As (Ah (Gm rfl (Af (Dj rfl (A4 (Aj (As (Ah (Gm rfl (Gm rfl (Gr (A8 rfl rfl) (Af (Ap (S3 16 0 1 rfl rfl rfl) (A7 rfl (fun c16 => ?_) (fun c16 => ?_))))))))))))))))))))))))
 ·exact Ah (Ga rfl (Af (Ay (Ak (A1 rfl rfl (I) Ax ⟨by unfold cmpI; rw [if_pos c16], rfl⟩)))))
 ·refine A4 (Aj (As (Ah (Gm rfl (Gm rfl (Gr (B7 rfl rfl) (Af (A7 rfl (fun c19 => ?_) (fun c19 => ?_)))))))))
  ·exact Ah (Ga rfl (Af (Ay (Ak (A1 rfl rfl (I) Ax ⟨by unfold cmpI; rw [if_neg c16, if_pos c19], rfl⟩)))))
  ·exact A4 (Aj (Ah (Ga rfl (Af (Ay (A1 rfl rfl (I) Ax ⟨by unfold cmpI; rw [if_neg c16, if_neg c19], rfl⟩))))))
theorem Or_ok {v : Value} {xs : List Int} (hl : Sl κ I v xs) :
    CallS Tryz.prog κ 224 [v] I (fun r J => r = I64 (orL xs) ∧ I = J) := by
 refine B2 hl.le fun hmax => ?_
 refine Ce1 Tryz.func224 rfl rfl ?_
 refine Ah (Ga rfl (Af (Ah (Ga rfl (Af (As (Ah (Gm rfl (Gr (B0 (α := Int) (xs := xs) Ab rfl (Bi hl)) (Gm rfl (Af (A3 (Bx (σ := Nat) (fun s => ([(3, I64 (0)), (6, v), (7, I64 (((xs.length : Nat) : Int))), (8, I64 (((s : Nat) : Int)))] : Env)) (fun s => I) (fun s => (s ≤ xs.length) ∧ (orL xs = orL (xs.drop s))) (fun s => xs.length - s) (0) (show ((0 : Nat) ≤ xs.length) ∧ (orL xs = orL (xs.drop (0 : Nat))) from ⟨om, rfl⟩) (Aa rfl (Aa rfl (Aa rfl (Aa Ci Bj)))) (show Fit κ _ (I) from A2) ?_)))))))))))))
 rintro k hp
 obtain ⟨hk, ho⟩ := hp
 refine Ah (Gr (A8 rfl rfl) (Af (As (A7 rfl (fun c9 => ?_) (fun c9 => ?_)))))
 ·refine A4 (Aj (As (A3 (Ah (Gr (A0 (α := Int) (xs := xs) Ab ty3 rfl rfl (Bi hl) om om) (Gr (Br (xs := xs) ty3 rfl (Bi hl) om om) (Ga rfl (Af (Ah (Gm rfl (Gm rfl (Gr (Bw rfl rfl) (Af (A7 rfl (fun c14 => ?_) (fun c14 => ?_)))))))))))))))
  ·exact Ah (Gm rfl (Ga rfl (Af (Ay (Ar (Ak (Ak (Ar (Ak (A1 rfl rfl (I) Ax ⟨by rw [ho, orL_stop om c14], rfl⟩))))))))))
  ·exact A4 (Ai (Aj (Av (Gr (Rad rfl rfl) (Gm rfl (Bh (B3 ((k + 1)) ⟨om, (ho.trans (orL_step om (Decidable.of_not_not c14)))⟩)))))))
 ·exact Bt (Ao (Ao (A5 (Aj (Ah (Gm rfl (Ga rfl (Af (Ay (A1 rfl rfl (I) Ax ⟨by rw [ho, orL_end om], rfl⟩))))))))))
end Go.Sl
namespace Go.Sl
end Go.Sl
namespace Go.Sl
open Go.Proofs
set_option maxRecDepth 4000
theorem at_drop {α : Type} [Inhabited α] (xs : List α) (l : Nat) (i : Int) (h0 : 0 ≤ i) : at_ (xs.drop l) i = at_ xs ((l : Int) + i) := by
 unfold at_
 rw [List.getD_eq_getElem?_getD, List.getD_eq_getElem?_getD, List.getElem?_drop]
 congr 2; omega
theorem Before03_ok {κ : Ctx} {I : List Item} (a c : Pt) :
    CallS Tryz.prog κ 84 [.agg #[I64 (a.u), I64 (a.v)], .agg #[I64 (c.u), I64 (c.v)]] I (fun r J => r = .bool (decide (Pt.lt a c)) ∧ I = J) := by
 refine Ce2 Tryz.func84 rfl rfl ?_
 refine Ah (Ge1 (Be (cs := [_, _]) rfl rfl rfl) fun b1 => Ge1 (Be (cs := [_, _]) rfl rfl rfl) fun b2 => Ga rfl (Af (Ah (Gf fld135_0 rfl (Gl ty3 ?_)))))
 refine Gf fld135_0 rfl (Gl ty3 ?_)
 refine Gr (A8 rfl rfl) (Gm rfl (Bd (d := 10) rfl (fun g10 => ?_) (fun g10 => ?_)))
 ·exact Gpo (Gpo (Gpo (Gpo (Gpo (Gpo (Gpu (Gpu (Gpu (Gpu (Gpu (Gpo (Gr (Al rfl rfl) (Ga rfl (Af (Ap (S1 4 rfl) (Ay (A1 rfl rfl (I) Ax ⟨(by first | exact congrArg Value.bool (decide_eq_decide.2 (by unfold Pt.lt; omega)) | exact congrArg Value.bool (decide_eq_true (by unfold Pt.lt; omega)).symm | exact congrArg Value.bool (decide_eq_false (by unfold Pt.lt; omega)).symm), rfl⟩)))))))))))))))))
 ·refine Gro (Ac fld135_0 rfl) (Gro (Au ty3) ?_)
  refine Gro (Ac fld135_0 rfl) (Gro (Au ty3) ?_)
  refine Gro (Bb rfl rfl) (Gro (Ad rfl) (Bd (d := 16) rfl (fun g16 => ?_) (fun g16 => ?_)))
  ·refine Gro (Ac fld135_1 rfl) (Gro (Au ty3) ?_)
   refine Gro (Ac fld135_1 rfl) (Gro (Au ty3) ?_)
   exact Gro (A8 rfl rfl) (Gro (Al rfl rfl) (Gr (Aq rfl rfl) (Ga rfl (Af (Ap (S1 4 rfl) (Ay (A1 rfl rfl (I) Ax ⟨(by first | exact congrArg Value.bool (decide_eq_decide.2 (by unfold Pt.lt; omega)) | exact congrArg Value.bool (decide_eq_true (by unfold Pt.lt; omega)).symm | exact congrArg Value.bool (decide_eq_false (by unfold Pt.lt; omega)).symm), rfl⟩)))))))
  ·exact Gpo (Gpo (Gpo (Gpo (Gpo (Gro (Aq rfl rfl) (Gr (Aq rfl rfl) (Ga rfl (Af (Ap (S1 4 rfl) (Ay (A1 rfl rfl (I) Ax ⟨(by first | exact congrArg Value.bool (decide_eq_decide.2 (by unfold Pt.lt; omega)) | exact congrArg Value.bool (decide_eq_true (by unfold Pt.lt; omega)).symm | exact congrArg Value.bool (decide_eq_false (by unfold Pt.lt; omega)).symm), rfl⟩)))))))))))
variable {κ : Ctx} {I : List Item}
def putL : List Int → Int → List Int
 | [], x => [x]
 | y :: ys, x => if y < x then y :: putL ys x else if y = x then y :: ys else x :: y :: ys
def ofL (l : List Int) : List Int := l.foldl putL []
theorem putL_at : ∀ (xs : List Int) (i : Nat) (x : Int), i ≤ xs.length → (∀ j, j < i → at_ xs (j : Int) < x) →
  (i < xs.length → at_ xs (i : Int) = x → putL xs x = xs) ∧ ((i = xs.length ∨ (i < xs.length ∧ x < at_ xs (i : Int))) → putL xs x = (xs.take i ++ [x]) ++ xs.drop i)
 | [], i, x, hi, h => by
  obtain rfl : i = 0 := by simpa using hi
  exact ⟨fun h => by simp at h, fun _ => rfl⟩
 | y :: ys, 0, x, hi, h => by
  refine ⟨fun _ e => ?_, fun e => ?_⟩
  ·have e' : y = x := e
   simp only [putL]; rw [if_neg om, if_pos e']
  ·rcases e with e | ⟨_, e⟩
   ·simp at e
   ·have e' : x < y := e
    simp only [putL]; rw [if_neg om, if_neg om]; rfl
 | y :: ys, i + 1, x, hi, h => by
  have h0 : y < x := h 0 om
  have ha : ∀ j : Nat, at_ (y :: ys) ((j + 1 : Nat) : Int) = at_ ys (j : Int) := fun j => by rw [at_nat, at_nat]; simp
  obtain ⟨h1, h2⟩ := putL_at ys i x (by simpa using hi) fun j hj => by have := h (j + 1) om; rwa [ha] at this
  refine ⟨fun hl e => ?_, fun e => ?_⟩
  ·simp only [putL]; rw [if_pos h0, h1 (by simpa using hl) (by rwa [ha] at e)]
  ·simp only [putL]; rw [if_pos h0, h2 (by rw [ha] at e; simpa using e)]; rfl
theorem ofL_take (xs : List Int) (k : Nat) (h : k < xs.length) : ofL (xs.take (k + 1)) = putL (ofL (xs.take k)) (at_ xs (k : Int)) := by
 rw [Cx xs k h]; simp [ofL]
theorem mem_putL (x y : Int) : ∀ l, y ∈ putL l x ↔ y = x ∨ y ∈ l
 | [] => by simp [putL]
 | z :: zs => by
  simp only [putL]
  split
  ·simp only [List.mem_cons, mem_putL x y zs]
   constructor
   ·rintro (h | h | h) <;> simp [h]
   ·rintro (h | h | h) <;> simp [h]
  ·split
   ·rename_i e; subst e; simp
   ·simp
theorem mem_foldl_putL (y : Int) : ∀ (l acc : List Int), y ∈ l.foldl putL acc ↔ y ∈ l ∨ y ∈ acc
 | [], acc => by simp
 | x :: l, acc => by
  rw [List.foldl_cons, mem_foldl_putL y l, mem_putL]
  simp only [List.mem_cons]
  constructor
  ·rintro (h | h | h) <;> simp [h]
  ·rintro ((h | h) | h) <;> simp [h]
theorem mem_ofL (l : List Int) (y : Int) : y ∈ ofL l ↔ y ∈ l := by simp [ofL, mem_foldl_putL]
theorem putL_len (x : Int) : ∀ l, (putL l x).length ≤ l.length + 1
 | [] => by simp [putL]
 | y :: ys => by
  simp only [putL]
  split
  ·have := putL_len x ys; simp; omega
  ·split <;> simp
theorem ofL_len (l : List Int) : (ofL l).length ≤ l.length := by
 have h : ∀ (l acc : List Int), (l.foldl putL acc).length ≤ l.length + acc.length := fun l => by
  induction l with
  | nil => intro acc; simp
  | cons x l ih => intro acc; have := ih (putL acc x); have := putL_len x acc; simp; omega
 have := h l []
 simpa [ofL] using this
theorem Put_ok {a : Option Addr} {c : Nat} {xs : List Int} (hb : xs.length < 17592186044415) (x : Int) :
    CallS Tryz.prog κ 153 [.slice a xs.length c, I64 (x)] (vc 3 (.slice a xs.length c) (xs) :: I) (fun r J => ∃ a' c', r = .slice a' (putL xs x).length c' ∧ J = vc 3 (.slice a' (putL xs x).length c') (putL xs x) :: I) := by
 refine B2 (fun w hs => (El (κ := κ) (List.mem_cons_self)).le w hs) fun hmax => ?_
 refine Ce2 Tryz.func153 rfl rfl ?_
 refine Ah (Ga rfl (Af (Ah (Ga rfl (Af (W.cut (σ := Nat) (fun s => ([(0, .slice a xs.length c), (1, I64 (x)), (5, I64 (((s : Nat) : Int)))] : Env)) (fun s => vc 3 (.slice a xs.length c) (xs) :: I) (fun s => (s ≤ xs.length) ∧ (∀ j, j < s → at_ xs (j : Int) < x) ∧ (s = xs.length ∨ (s < xs.length ∧ ¬ at_ xs (s : Int) < x))) ?_ ?_))))))
 ·refine A3 (Bx (σ := Nat) (fun s => ([(0, .slice a xs.length c), (1, I64 (x)), (5, I64 (((s : Nat) : Int)))] : Env)) (fun s => vc 3 (.slice a xs.length c) (xs) :: I) (fun s => (s ≤ xs.length) ∧ (∀ j, j < s → at_ xs (j : Int) < x)) (fun s => xs.length - s) (0) (show ((0 : Nat) ≤ xs.length) ∧ (∀ j, j < (0 : Nat) → at_ xs (j : Int) < x) from ⟨om, all_zero⟩) (Aa rfl (Aa rfl (Aa Ci Bj))) (show Fit κ _ (vc 3 (.slice a xs.length c) (xs) :: I) from A2) ?_)
  rintro i hp
  obtain ⟨hi, hlt⟩ := hp
  refine As (Ah (Gm rfl (Gm rfl (Gr (Bl Ab rfl) (Gr (A8 rfl rfl) (Gm rfl (Bd (d := 11) rfl (fun g11 => ?_) (fun g11 => ?_))))))))
  ·refine Gro (Ad rfl) (Gro (Ad rfl) (Gro (A0 (α := Int) (xs := xs) Ab ty3 rfl rfl Bc om om) (Gro (Br (xs := xs) ty3 rfl Bc om om) (Gro (Ad rfl) (Gro (A8 rfl rfl) (Gr (Al rfl rfl) (Af (Ap (S4 18 0 1 5 rfl rfl rfl rfl) (A7 rfl (fun c18 => ?_) (fun c18 => ?_))))))))))
   ·exact A4 (Aj (A3 (Av (Gm rfl (Gr (Rad rfl rfl) (Ga rfl (Bh (Ai (B3 ((i + 1)) ⟨om, (Em hlt om)⟩)))))))))
   ·exact Bt (Ao (Ao (A5 (D0 ((i)) ⟨om, hlt, om⟩))))
  ·exact Gpo (Gpo (Gpo (Gpo (Gpo (Gpo (Gr (Aq rfl rfl) (Af (Ap (S4 18 0 1 5 rfl rfl rfl rfl) (Dj rfl (Bt (Ao (Ao (A5 (D0 ((i)) ⟨om, hlt, om⟩))))))))))))))
 ·rintro i hp
  obtain ⟨hi, hlt, hst⟩ : (i ≤ xs.length) ∧ (∀ j, j < i → at_ xs (j : Int) < x) ∧ (i = xs.length ∨ (i < xs.length ∧ ¬ at_ xs (i : Int) < x)) := hp
  show W Tryz.prog κ 46 _ _ ([(0, .slice a xs.length c), (1, I64 (x)), (5, I64 ((i : Int)))] : Env) (vc 3 (.slice a xs.length c) (xs) :: I)
  refine As (Ah (Gm rfl (Gm rfl (Gr (Bl Ab rfl) (Gr (A8 rfl rfl) (Gm rfl (Bd (d := 25) rfl (fun g25 => ?_) (fun g25 => ?_))))))))
  ·refine Gro (Ad rfl) (Gro (Ad rfl) (Gro (A0 (α := Int) (xs := xs) Ab ty3 rfl rfl Bc om om) (Gro (Br (xs := xs) ty3 rfl Bc om om) (Gro (Ad rfl) (Gro (Bb rfl rfl) (Gr (Al rfl rfl) (Af (Ap (S4 32 0 1 5 rfl rfl rfl rfl) (A7 rfl (fun c32 => ?_) (fun c32 => ?_))))))))))
   ·refine Ah (Gm rfl (Ga rfl (Af (Ay (Ak ?_)))))
    have hp := (putL_at xs i x hi hlt).1 om om
    exact A1 rfl rfl (_) Ax ⟨a, c, by rw [hp], by rw [hp]⟩
   ·refine A4 (Aj (Ah (Gm rfl (Gm rfl (Gr (Runs.hi (α := Int) (xs := xs) (h := i) Ab ty3 rfl rfl om Bc om) (Ge2 (Eff.clone (α := Int) (ys := List.take i xs) Ab ty3 rfl rfl rfl (Sl.take Bc om) (by simp only [List.length_append, List.length_cons, List.length_nil, List.length_take, List.length_drop]; omega) dc rfl) fun ad1 cp2 => ?_))))))
    refine Ga rfl (Af (As (Bk mixed (Bp (vc 3 (.slice a xs.length c) (xs) :: I) 9 (Dr 0 rfl (Ad rfl) (Dr 1 rfl (Ad rfl) (Dr 4 rfl (Ad rfl) (Dr 5 rfl (Ad rfl) (Dr 6 rfl (D7 (α := Int) (xs := xs) (l := i) Ab ty3 rfl rfl om Bc om) (Ds1 2 (Se1 rfl (B5 (α := Int) (cs := [_]) (xs := [x]) Ab ty3 rfl rfl dc dc rfl rfl rfl rfl) fun ad3 => ?_)))))))))))
    refine Ds1 3 (Se2 rfl (Ce (α := Int) (e := 3) (xs := List.take i xs) (ys := ([x] : List Int)) Ab ty3 rfl rfl rfl mm Bc (by simp only [List.length_append, List.length_cons, List.length_nil, List.length_take, List.length_drop]; omega) dc rfl (fun _ _ => am)) fun ad4 cp5 => ?_)
    refine Ds1 7 (Se2 rfl (Ce (α := Int) (e := 3) (xs := (List.take i xs) ++ ([x] : List Int)) (ys := List.drop i xs) Ab ty3 rfl rfl rfl mm (Df Bc om) (by simp only [List.length_append, List.length_cons, List.length_nil, List.length_take, List.length_drop]; omega) dc rfl (fun _ _ => am)) fun ad6 cp7 => ?_)
    refine Dr 8 rfl (A9 rfl) (Dz (Aj (Ap (S1 4 rfl) (Ay ?_))))
    have hp := (putL_at xs i x hi hlt).2 om
    exact A1 rfl rfl (vc 3 (.slice ad6 (putL xs x).length cp7) (putL xs x) :: I) (by rw [hp]; exact A2) ⟨ad6, cp7, by rw [hp], rfl⟩
  ·refine Gpo (Gpo (Gpo (Gpo (Gpo (Gpo (Gr (Aq rfl rfl) (Af (Ap (S4 32 0 1 5 rfl rfl rfl rfl) (Dj rfl (A4 (Aj (Ah (Gm rfl (Gm rfl (Gr (Runs.hi (α := Int) (xs := xs) (h := i) Ab ty3 rfl rfl om Bc om) (Ge2 (Eff.clone (α := Int) (ys := List.take i xs) Ab ty3 rfl rfl rfl (Sl.take Bc om) (by simp only [List.length_append, List.length_cons, List.length_nil, List.length_take, List.length_drop]; omega) dc rfl) fun ad8 cp9 => ?_))))))))))))))))
   refine Ga rfl (Af (As (Bk mixed (Bp (vc 3 (.slice a xs.length c) (xs) :: I) 9 (Dr 0 rfl (Ad rfl) (Dr 1 rfl (Ad rfl) (Dr 4 rfl (Ad rfl) (Dr 5 rfl (Ad rfl) (Dr 6 rfl (D7 (α := Int) (xs := xs) (l := i) Ab ty3 rfl rfl om Bc om) (Ds1 2 (Se1 rfl (B5 (α := Int) (cs := [_]) (xs := [x]) Ab ty3 rfl rfl dc dc rfl rfl rfl rfl) fun ad10 => ?_)))))))))))
   refine Ds1 3 (Se2 rfl (Ce (α := Int) (e := 3) (xs := List.take i xs) (ys := ([x] : List Int)) Ab ty3 rfl rfl rfl mm Bc (by simp only [List.length_append, List.length_cons, List.length_nil, List.length_take, List.length_drop]; omega) dc rfl (fun _ _ => am)) fun ad11 cp12 => ?_)
   refine Ds1 7 (Se2 rfl (Ce (α := Int) (e := 3) (xs := (List.take i xs) ++ ([x] : List Int)) (ys := List.drop i xs) Ab ty3 rfl rfl rfl mm (Df Bc om) (by simp only [List.length_append, List.length_cons, List.length_nil, List.length_take, List.length_drop]; omega) dc rfl (fun _ _ => am)) fun ad13 cp14 => ?_)
   refine Dr 8 rfl (A9 rfl) (Dz (Aj (Ap (S1 4 rfl) (Ay ?_))))
   have hp := (putL_at xs i x hi hlt).2 om
   exact A1 rfl rfl (vc 3 (.slice ad13 (putL xs x).length cp14) (putL xs x) :: I) (by rw [hp]; exact A2) ⟨ad13, cp14, by rw [hp], rfl⟩
theorem Put_at {F : Item → List Item} {a : Option Addr} {c : Nat} {xs : List Int} (hat : AtF I (vc 3 (.slice a xs.length c) xs) F) (hb : xs.length < 17592186044415) (x : Int) :
  CallS Tryz.prog κ 153 [.slice a xs.length c, I64 x] I fun r J => ∃ a' c', r = .slice a' (putL xs x).length c' ∧ J = F (vc 3 (.slice a' (putL xs x).length c') (putL xs x)) :=
 (D3 (Z := fun _ => []) (X := fun y : Option Addr × Nat => vc 3 (.slice y.1 (putL xs x).length y.2) (putL xs x)) (Post := fun r y => r = .slice y.1 (putL xs x).length y.2) hat fun J _ _ => (Put_ok (a := a) (c := c) hb x).mono fun r J' ⟨a', c', h1, h2⟩ => ⟨(a', c'), h1, h2⟩).mono fun _ _ ⟨y, h1, h2⟩ => ⟨y.1, y.2, h1, h2⟩
theorem Of_ok {v : Value} {xs : List Int} (hl : Sl κ I v xs) (hb : xs.length < 17592186044415) :
    CallS Tryz.prog κ 82 [v] I (fun r J => ∃ a c, r = .slice a (ofL xs).length c ∧ J = vc 3 (.slice a (ofL xs).length c) (ofL xs) :: I) := by
 refine B2 hl.le fun hmax => ?_
 refine Ce1 Tryz.func82 rfl rfl ?_
 refine Ah (Ga rfl (Af (Ah (Ga rfl (Af (As (Ah (Gm rfl (Gr (B0 (α := Int) (xs := xs) Ab rfl (Bi hl)) (Gm rfl (Af (A3 (Bx (σ := Nat × (Option Addr) × Nat × (List Int)) (fun s => ([(3, .slice s.2.1 s.2.2.2.length s.2.2.1), (6, v), (7, I64 (((xs.length : Nat) : Int))), (8, I64 (((s.1 : Nat) : Int)))] : Env)) (fun s => vc 3 (.slice s.2.1 s.2.2.2.length s.2.2.1) (s.2.2.2) :: I) (fun s => (s.1 ≤ xs.length) ∧ (s.2.2.2 = ofL (xs.take s.1))) (fun s => xs.length - s.1) (0, none, 0, []) (show ((0 : Nat) ≤ xs.length) ∧ (([] : List Int) = ofL (xs.take (0 : Nat))) from ⟨om, rfl⟩) (Aa (Cy rfl (by first | rfl | simp)) (Aa rfl (Aa rfl (Aa Ci Bj)))) (show Fit κ _ (vc 3 (.slice (none) ([]).length (0)) (([])) :: I) from (Bv _ _)) ?_)))))))))))))
 rintro ⟨k, a, c, out⟩ hp
 dsimp only at hp ⊢
 obtain ⟨hk, ho⟩ := hp
 refine Ah (Gr (A8 rfl rfl) (Af (As (A7 rfl (fun c9 => ?_) (fun c9 => ?_)))))
 ·refine A4 (Aj (As (A3 (Ah (Gr (A0 (α := Int) (xs := xs) Ab ty3 rfl rfl (Bi hl) om om) (Gr (Br (xs := xs) ty3 rfl (Bi hl) om om) (Ga rfl (Af (Av (Gm rfl (Gm rfl (Gc2 (Am call153 rfl rfl (Put_at (by repeat (first | exact AtF.head _ _ | apply AtF.tail)) (by rw [ho]; have := ofL_len (xs.take k); simp only [List.length_take] at this; omega) (at_ xs (k : Int)))) fun ad1 cp2 => ?_))))))))))))
  show G Tryz.prog κ _ _ _ _ ([(14, .slice ad1 (putL out (at_ xs (k : Int))).length cp2), (13, I64 (at_ xs (k : Int))), (12, .slice a out.length c), (5, I64 (at_ xs (k : Int))), (11, I64 (at_ xs (k : Int))), (10, elemPtr (v) (((k : Int)).toNat * Enc.sz Int)), (9, .bool (decide ((k : Int) < ((xs.length : Nat) : Int)))), (3, .slice a out.length c), (6, v), (7, I64 (((xs.length : Nat) : Int))), (8, I64 ((k : Int)))] : Env) (vc 3 (.slice ad1 (putL out (at_ xs (k : Int))).length cp2) (putL out (at_ xs (k : Int))) :: I)
  exact Ga rfl (Bh (Ai (Aj (Av (Gr (Rad rfl rfl) (Gm rfl (Bh (B3 ((k + 1), (ad1), (cp2), (putL out (at_ xs (k : Int)))) (by dsimp only; exact ⟨om, (by rw [ofL_take xs k om, ← ho])⟩)))))))))
 ·refine Bt (Ao (Ao (A5 (Aj (Ah (Gm rfl (Ga rfl (Af (Ay ?_)))))))))
  have hk2 : xs.take k = xs := List.take_of_length_le om
  rw [hk2] at ho
  subst ho
  exact A1 rfl rfl (_) Ax ⟨a, c, rfl, rfl⟩
theorem Union_ok {u v : Value} {xs ys : List Int} (hu : Sl κ I u xs) (hv : Sl κ I v ys) (hb : xs.length + ys.length < 17592186044415) :
    CallS Tryz.prog κ 27 [u, v] I (fun r J => ∃ a c, r = .slice a (ofL (xs ++ ys)).length c ∧ J = vc 3 (.slice a (ofL (xs ++ ys)).length c) (ofL (xs ++ ys)) :: I) := by
 refine Ce2 Tryz.func27 rfl rfl ?_
 refine Ah (Ga rfl (Af (Ah (Gm rfl (Ge2 (Eff.clone (α := Int) (ys := xs) Ab ty3 rfl rfl rfl (Bi hu) om dc rfl) fun ad1 cp2 => ?_)))))
 refine Gm rfl (Ge2 (Ce (α := Int) (e := 3) (xs := xs) (ys := ys) Ab ty3 rfl rfl rfl mm (Bi hv) om dc rfl (fun _ _ => am)) fun ad3 cp4 => ?_)
 refine Gc2 (Am call82 rfl rfl (Of_ok Bc (by simp only [List.length_append]; omega))) fun ad5 cp6 => ?_
 exact Ga rfl (Af (Ay (A1 rfl rfl (vc 3 (.slice ad5 (ofL (xs ++ ys)).length cp6) (ofL (xs ++ ys)) :: I) A2 ⟨ad5, cp6, rfl, rfl⟩)))
end Go.Sl
