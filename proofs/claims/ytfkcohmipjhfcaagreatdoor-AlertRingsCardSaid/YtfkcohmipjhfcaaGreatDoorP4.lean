/- A part of the proofs of statements of this seat: contracts of functions, and the plain laws that they lean on. No conditions. -/
import Derived.Test.YtfkcohmipjhfcaaGreatDoorP3
import Derived.Shelf.SlSortCmp.NoneTotal
import Derived.Shelf.SlSortCmp.WholeK
set_option linter.unusedVariables false
set_option linter.unusedSimpArgs false
set_option linter.unusedSectionVars false
namespace Go.Sl
structure GrOk (nodes : Int) (es : List Pt) : Prop where
 rng : 0 ≤ nodes ∧ nodes ≤ 64
 asc : AscP es
 edge : ∀ e ∈ es, 0 ≤ e.u ∧ e.u < e.v ∧ e.v < nodes
section
variable {nodes u v w : Int} {es : List Pt}
end
def badE (nodes : Int) (e : Pt) : Int := if e.u < 0 ∨ e.v ≤ e.u ∨ nodes ≤ e.v then 6 else 0
def checkG (nodes : Int) (es : List Pt) : Int := if nodes < 0 ∨ 64 < nodes then 1 else scanL (badE nodes) Pt.lt none es
theorem badE_zero {nodes : Int} {e : Pt} : badE nodes e = 0 ↔ 0 ≤ e.u ∧ e.u < e.v ∧ e.v < nodes := by
 unfold badE; split <;> omega
theorem checkG_ok {nodes : Int} {es : List Pt} : checkG nodes es = 0 ↔ GrOk nodes es := by
 unfold checkG
 split
 ·rename_i h
  exact ⟨fun e => by omega, fun e => by have := e.rng; omega⟩
 ·rename_i h
  rw [scanL_zero Pt.lin]
  constructor
  ·rintro ⟨h1, h2⟩; exact ⟨by omega, h2, fun e he => badE_zero.1 (h1 e he)⟩
  ·intro h1; exact ⟨fun e he => badE_zero.2 (h1.edge e he), h1.asc⟩
variable {nodes : Int} {es : List Pt}
theorem GrOk.at (h : GrOk nodes es) {k : Nat} (hk : k < es.length) : 0 ≤ (at_ es (k : Int)).u ∧ (at_ es (k : Int)).u < (at_ es (k : Int)).v ∧ (at_ es (k : Int)).v < nodes := h.edge _ (at_mem (by omega) (by omega))
theorem flt_yes {l : List Pt} {P : Pt → Bool} {k : Nat} (hk : k < l.length) (h : P (at_ l (k : Int)) = true) : (l.take (k + 1)).filter P = (l.take k).filter P ++ [at_ l (k : Int)] := by
 rw [take_at l k hk, List.filter_append]; simp [h]
theorem flt_no {l : List Pt} {P : Pt → Bool} {k : Nat} (hk : k < l.length) (h : P (at_ l (k : Int)) = false) : (l.take (k + 1)).filter P = (l.take k).filter P := by
 rw [take_at l k hk, List.filter_append]; simp [h]
theorem asc_nodup {l : List Pt} (h : AscP l) : l.Nodup := h.imp fun {a b} h e => Pt.lin.ne h e
end Go.Sl
namespace Go.Sl
def edgeP (u v : Int) : Pt := ⟨if v < u then v else u, if u < v then v else u⟩
theorem Pt.cmp_zero (a b : Pt) : Pt.cmp a b = 0 ↔ a = b := by
 rw [Pt.ext_iff']
 unfold Pt.cmp
 split <;> (try split) <;> (try split) <;> (try split) <;> omega
section
variable {es : List Pt} {e : Pt} {i : Nat} {q : Bool}
end
end Go.Sl
namespace Go.Sl
set_option maxRecDepth 10000
instance : Enc (BitVec 64) := ⟨fun b => [U64 b], 1, by omega, fun _ => rfl, fun _ u h => by simp at h; subst h; rfl⟩
def addRow (rows : List (BitVec 64)) (e : Pt) : List (BitVec 64) :=
 if 0 ≤ e.u ∧ e.u < e.v ∧ e.v < rows.length then
  (rows.set e.u.toNat (at_ rows e.u ||| 1#64 <<< e.v.toNat)).set e.v.toNat (at_ (rows.set e.u.toNat (at_ rows e.u ||| 1#64 <<< e.v.toNat)) e.v ||| 1#64 <<< e.u.toNat)
 else rows
def rows0 (nd : Int) : List (BitVec 64) := List.replicate (min (max nd 0) 64).toNat 0#64
def rowsB (nd : Int) (es : List Pt) : List (BitVec 64) := es.foldl addRow (rows0 nd)
theorem addRow_len (rows : List (BitVec 64)) (e : Pt) : (addRow rows e).length = rows.length := by
 unfold addRow; split <;> simp
theorem rowsB_take {nd : Int} {es : List Pt} {k : Nat} (h : k < es.length) : rowsB nd (es.take (k + 1)) = addRow (rowsB nd (es.take k)) (at_ es (k : Int)) := by
 unfold rowsB; rw [take_at es k h, List.foldl_append]; rfl
theorem rowsB_len (nd : Int) (es : List Pt) : (rowsB nd es).length = (min (max nd 0) 64).toNat := by
 unfold rowsB
 have : ∀ (es : List Pt) (r : List (BitVec 64)), (es.foldl addRow r).length = r.length := fun es => by
  induction es with
  | nil => intro r; rfl
  | cons e es ih => intro r; rw [List.foldl_cons, ih, addRow_len]
 rw [this]; simp [rows0]
theorem at_rep64 (n : Nat) (i : Int) : at_ (List.replicate n (0#64)) i = 0#64 := by
 unfold at_
 rw [List.getD_eq_getElem?_getD, List.getElem?_replicate]
 split <;> rfl
structure RowsOk (nd : Int) (es : List Pt) (rows : List (BitVec 64)) : Prop where
 len : (rows.length : Int) = nd
 bit : ∀ v w : Int, 0 ≤ v → v < nd → 0 ≤ w → w < 64 → ((at_ rows v).getLsbD w.toNat = decide ((⟨v, w⟩ : Pt) ∈ es ∨ (⟨w, v⟩ : Pt) ∈ es))
theorem RowsOk.start {nd : Int} (h : 0 ≤ nd ∧ nd ≤ 64) : RowsOk nd [] (rows0 nd) :=
 ⟨by unfold rows0; simp; omega, fun v w _ _ _ _ => by unfold rows0; rw [at_rep64]; simp⟩
theorem addRow_at {rows : List (BitVec 64)} {e : Pt} (h : 0 ≤ e.u ∧ e.u < e.v ∧ e.v < rows.length) (j : Int) (h0 : 0 ≤ j) (h1 : j < rows.length) :
  at_ (addRow rows e) j = if e.v = j then at_ rows e.v ||| 1#64 <<< e.u.toNat else if e.u = j then at_ rows e.u ||| 1#64 <<< e.v.toNat else at_ rows j := by
 unfold addRow
 rw [if_pos h, at_set _ e.v j _ (by omega) h0 (by rw [List.length_set]; omega)]
 by_cases hv : e.v = j
 ·rw [if_pos hv, if_pos hv, at_set _ e.u e.v _ (by omega) (by omega) (by omega), if_neg (by omega)]
 ·rw [if_neg hv, if_neg hv, at_set _ e.u j _ (by omega) h0 (by omega)]
theorem getLsb_shl (a i : Nat) (hi : i < 64) : (1#64 <<< a).getLsbD i = decide (a = i) := by
 show (BitVec.twoPow 64 a).getLsbD i = _
 rw [BitVec.getLsbD_twoPow]
 by_cases h : a = i
 ·subst h; simp [hi]
 ·simp [h]
theorem RowsOk.push {nd : Int} {es : List Pt} {rows : List (BitVec 64)} {e : Pt} (h : RowsOk nd es rows) (he : 0 ≤ e.u ∧ e.u < e.v ∧ e.v < nd) (hn : nd ≤ 64) : RowsOk nd (es ++ [e]) (addRow rows e) := by
 have hl := h.len
 refine ⟨by rw [addRow_len]; exact hl, fun v w v0 v1 w0 w1 => ?_⟩
 rw [addRow_at (by omega) v v0 (by omega)]
 have hb := h.bit v w v0 v1 w0 w1
 have hext : ∀ a b : Int, ((⟨a, b⟩ : Pt) = e) ↔ (a = e.u ∧ b = e.v) := fun a b => by rw [Pt.ext_iff']
 simp only [List.mem_append, List.mem_singleton, hext]
 by_cases hv : e.v = v
 ·rw [if_pos hv, BitVec.getLsbD_or, getLsb_shl _ _ (by omega), hv, hb]
  have e1 : (e.u.toNat = w.toNat) ↔ (w = e.u ∧ v = e.v) := by omega
  have e2 : ¬ (v = e.u ∧ w = e.v) := by omega
  rw [decide_eq_decide.2 e1]
  rw [← Bool.decide_or, decide_eq_decide]
  constructor
  ·rintro ((a | b) | c)
   ·exact .inl (.inl a)
   ·exact .inr (.inl b)
   ·exact .inr (.inr ⟨c.1, rfl⟩)
  ·rintro ((a | c) | (b | c))
   ·exact .inl (.inl a)
   ·exact absurd c (fun c => by omega)
   ·exact .inl (.inr b)
   ·exact .inr ⟨c.1, hv.symm⟩
 ·rw [if_neg hv]
  by_cases hu : e.u = v
  ·rw [if_pos hu, BitVec.getLsbD_or, getLsb_shl _ _ (by omega), hu, hb]
   have e1 : (e.v.toNat = w.toNat) ↔ (v = e.u ∧ w = e.v) := by omega
   have e2 : ¬ (w = e.u ∧ v = e.v) := by omega
   rw [decide_eq_decide.2 e1]
   rw [← Bool.decide_or, decide_eq_decide]
   constructor
   ·rintro ((a | b) | c)
    ·exact .inl (.inl a)
    ·exact .inr (.inl b)
    ·exact .inl (.inr ⟨rfl, c.2⟩)
   ·rintro ((a | c) | (b | c))
    ·exact .inl (.inl a)
    ·exact .inr ⟨hu.symm, c.2⟩
    ·exact .inl (.inr b)
    ·exact absurd c (fun c => by omega)
  ·rw [if_neg hu, hb]
   have e1 : ¬ (v = e.u ∧ w = e.v) := by omega
   have e2 : ¬ (w = e.u ∧ v = e.v) := by omega
   simp [e1, e2]
theorem rowsB_ok {nd : Int} {es : List Pt} (h : GrOk nd es) : ∀ k, k ≤ es.length → RowsOk nd (es.take k) (rowsB nd (es.take k))
 | 0, _ => by simpa [rowsB] using RowsOk.start h.rng
 | k + 1, hk => by
  rw [rowsB_take (by omega), take_at es k (by omega)]
  exact (rowsB_ok h k (by omega)).push (h.at (by omega)) h.rng.2
theorem GrOk.rows {nd : Int} {es : List Pt} (h : GrOk nd es) : RowsOk nd es (rowsB nd es) := by
 have := rowsB_ok h es.length (Nat.le_refl _)
 rwa [List.take_length] at this
end Go.Sl
namespace Go.Sl
section
variable {P : Program} {κ : Ctx} {N : Frm} {Q : Exit → Act → World → Prop} {L : Env} {I J : List Item}
variable {d : Option Tmp} {ty : TypeId} {ps : String} {af : Array Edge} {gd : Option (Nat × Bool)}
theorem Runs.getAU {xs : List (BitVec 64)} {x : Operand} {T sz by' b E : Nat} {z : List Value} {i : Int} (hT : tyF P T = some (sz, false, by', z)) (hx : evalO L x = some (.pointer (some ⟨b, 0 + i.toNat * 1, none⟩))) (hb : BlkRd κ J b (cells xs) E) (h0 : 0 ≤ i) (hn : i < xs.length) :
  Runs P κ N ⟨d, .load T x, ty, ps, af, gd⟩ L J (U64 (at_ xs i)) := by
 refine Runs.loadB hT hx hb ?_
 have := cells_get xs i.toNat 0 (by omega) (by decide)
 rw [show 0 + i.toNat * 1 = i.toNat * Enc.sz (BitVec 64) + 0 by show 0 + i.toNat * 1 = i.toNat * 1 + 0; omega, this, at_eq h0 hn]; rfl
theorem cells_setU (xs : List (BitVec 64)) (i : Nat) (n : BitVec 64) (h : i < xs.length) : (cells xs).take i ++ [U64 n] ++ (cells xs).drop (i + 1) = cells (xs.set i n) := by
 induction xs generalizing i with
 | nil => simp at h
 | cons x xs ih =>
  cases i with
  | zero => rfl
  | succ i =>
   have h' : i < xs.length := by simpa using h
   have e : cells (x :: xs) = U64 x :: cells xs := rfl
   rw [e, List.set_cons_succ]
   have e2 : cells (x :: xs.set i n) = U64 x :: cells (xs.set i n) := rfl
   rw [e2, ← ih i h']; rfl
theorem Eff.setAU {xs : List (BitVec 64)} {x y : Operand} {T sz by' b E : Nat} {ag : Bool} {z : List Value} {i : Int} {n : BitVec 64} {I' : List Item} (hT : tyF P T = some (sz, ag, by', z)) (hs1 : sz = 1) (hx : evalO L x = some (.pointer (some ⟨b, 0 + i.toNat * 1, none⟩))) (hy : evalO L y = some (U64 n)) (h0 : 0 ≤ i) (hn : i < xs.length)
  (hat : At I (blk b (cells xs) E) (blk b (cells (xs.set i.toNat n)) E) I') :
  Eff P κ N Q ⟨none, .store T x y, ty, ps, af, gd⟩ L I fun L' I'' => L' = L ∧ I'' = I' := by
 have hl : (cells xs).length = xs.length := by rw [cells_length]; show xs.length * 1 = _; omega
 refine Eff.store (vs := [U64 n]) (cs' := cells (xs.set i.toNat n)) hT hx hy rfl (by rw [hs1]; rfl) (fun u hu => by rw [List.mem_singleton] at hu; subst hu; rfl) (by rw [hl]; simp; omega) ?_ hat
 have h := cells_setU xs i.toNat n (by omega)
 rw [show 0 + i.toNat * 1 = i.toNat by omega]
 exact h
end
end Go.Sl
namespace Go.Sl
open Go.Proofs
abbrev Aa := @Sub.cons
abbrev Ab := @Runs.fieldAddr
abbrev Ac := @Tryz.underlying22
abbrev Ad := @Runs.move
abbrev Af := @G.nt
abbrev Ah := @W.sr
abbrev Ai := @V.block_normal
abbrev Aj := @V.then_ret
abbrev Ak := @V.then
abbrev Al := @Eff.call
abbrev Am := @V.then_exit
abbrev Ao := @Runs.pickt
abbrev Ap := @V.block_ret
abbrev Aq := @W.sub
abbrev Ar := @Runs.pickf
abbrev As := @W.seq
abbrev Au := @Runs.ld
abbrev Av := @W.region
abbrev Aw := @Tryz.underlying109
abbrev Ax := @Runs.idx
abbrev Ay := @W.ret
abbrev Az := @Fit.sub
abbrev A0 := @W.block
abbrev A1 := @Fit.m
abbrev A2 := @W.skip
abbrev A3 := @V.ret1
abbrev A4 := @Runs.extract
abbrev A5 := @Tryz.underlying28
abbrev A6 := @V.block_hit
abbrev A7 := @W.ite
abbrev A8 := @Eff.alloc
abbrev A9 := @Runs.assign
abbrev Ba := @Runs.lss
abbrev Bb := @Runs.build
abbrev Bc := @Runs.nilCheck
abbrev Bd := @Eff.box
abbrev Be := @Sl.o
abbrev Bf := @G.nil
abbrev Bg := @Sub.nil
abbrev Bh := @Sl.f
abbrev Bi := @Runs.eql
abbrev Bj := @W.drawn
abbrev Bk := @G.split
abbrev Bl := @Runs.lens
abbrev Bm := @A.hold
abbrev Bo := @Tryz.underlying46
abbrev Bp := @Runs.gets
abbrev Bq := @Runs.lds
abbrev Br := @W.exit
abbrev Bs := @Runs.get
abbrev Bt := @Fit.nilvc
abbrev Bu := @W.loop
abbrev Bv := @Runs.neq
abbrev Bw := @Tryz.underlying35
abbrev Bx := @Sl.fit
abbrev Bz := @Runs.lenT
abbrev B0 := @Runs.gtr
abbrev B1 := @V.nx
abbrev B2 := @Tryz.underlying3
abbrev B3 := @Eff.bs
abbrev B4 := @Fit.s
abbrev B5 := @Tryz.underlying64
abbrev B6 := @Tryz.underlying58
abbrev B7 := @Tryz.underlying228
abbrev B8 := @CallS.pull
abbrev B9 := @Runs.not
abbrev Ca := @Tryz.underlying40
abbrev Cb := @TabRd.fit
abbrev Cc := @Runs.geq
abbrev Cd := @Tryz.underlying337
abbrev Ce := @Tryz.underlying79
abbrev Cf := @lookO
abbrev Cg := @Runs.idxArr
abbrev Ch := @at_mem
abbrev Ci := @Eff.app
abbrev Cj := @Fit.trans
abbrev Ck := @CallS.fit
abbrev Cl := @Eff.make
abbrev Cm := @Wanted.plain
abbrev Cn := @Tryz.underlying33
abbrev Co := @W.yes
abbrev Cp := @Wanted.on
abbrev Cq := @Tryz.underlying264
abbrev Cr := @Es2_2
abbrev Cs := @Runs.andB
abbrev Ct := @Eff.set
abbrev Cu := @Eff.callv
abbrev Cv := @lookV
abbrev Cw := @BlkRd.fit
abbrev Cx := @take_at
abbrev Cy := @V.ret2
abbrev Cz := @Tryz.underlying65
abbrev C0 := @lookI
abbrev C1 := @Runs.loadB
abbrev C2 := @Runs.getf0
abbrev C3 := @at_set
abbrev C4 := @D.split
abbrev C5 := @listB_zero
abbrev C6 := @D.stop
abbrev C7 := @A.done
abbrev C8 := @Tryz.underlying301
abbrev C9 := @Tryz.underlying297
abbrev Da := @Tryz.underlying175
abbrev Db := @Runs.fld
abbrev Dc := @Runs.getf
abbrev De := @BlkRd.of
abbrev Df := @sumN_congr
abbrev Dg := @V.retc
abbrev Dh := @Es6_6
abbrev Di := @W.no
abbrev Dj := @Tryz.underlying339
abbrev Dk := @Tryz.underlying277
abbrev Dl := @Tryz.underlying211
abbrev Dn := @Tryz.underlying135
abbrev Do := @Tryz.underlying108
abbrev Dp := @Sl.drop
abbrev Dq := @V.retc1
abbrev Ds := @at_get
abbrev Dt := @Runs.max
abbrev Du := @D.step
abbrev Dv := @scanL_bad
abbrev Dw := @Runs.notd
abbrev Dx := @Runs.makeFunc
abbrev Dy := @Runs.leq
abbrev D0 := @Es7_1
abbrev D1 := @CallS.at
abbrev D2 := @Tryz.underlying132
abbrev D3 := @at_append_left
abbrev D4 := @V.mi
abbrev D5 := @Tryz.underlying44
abbrev D6 := @G.eff
abbrev D7 := @Tryz.underlying4
abbrev D8 := @Runs.loraw
abbrev D9 := @GY.read
abbrev Ea := @Runs.andNotB
abbrev Eb := @sortZ_len
abbrev Ec := @mem_listB
abbrev Ed := @Tryz.underlying181
abbrev Ee := @Tryz.underlying111
abbrev Ef := @Tryz.underlying102
abbrev Eg := @Runs.neB
abbrev Eh := @Es5_5
abbrev Ei := @Tryz.underlying31
abbrev Ej := @Runs.lo
abbrev Ek := @Sl.vec
abbrev El := @Tryz.underlying5
abbrev Em := @Sl.dropn
abbrev En := @Runs.shrB
abbrev Eo := @Runs.orB
abbrev Ep := @Runs.mul
abbrev Eq := @Runs.getB
abbrev Er := @all2
abbrev Es := @Runs.getAU
theorem kr {p : Prop} (h : p := by kernel_rfl) : p := h
theorem dc {p : Prop} (h : p := by decide) : p := h
theorem lcn {p : Prop} (h : p := by simp only [List.length_cons, List.length_nil]; omega) : p := h
theorem asm {p : Prop} (h : p := by assumption) : p := h
theorem lat {p : Prop} (h : p := by first | omega | (simp only [List.length_append, List.length_take, List.length_drop, List.length_replicate] <;> omega)) : p := h
theorem lap {p : Prop} (h : p := by simp only [List.length_append, List.length_cons, List.length_nil]; omega) : p := h
theorem olp {p : Prop} (h : p := by first | omega | (simp only [List.length_append, List.length_cons, List.length_nil]; omega)) : p := h
theorem olr {p : Prop} (h : p := by first | omega | (simp only [List.length_replicate]; omega)) : p := h
end Go.Sl
namespace Go.Sl
open Go.Proofs
theorem ty2 : tyF Tryz.prog 2 = some (1, false, 8, [I64 (0)]) := by kernel_rfl
theorem ty3 : tyF Tryz.prog 3 = some (1, false, 8, [I64 (0)]) := by kernel_rfl
theorem ty4 : tyF Tryz.prog 4 = some (1, false, 1, [.bool false]) := by kernel_rfl
theorem ty5 : tyF Tryz.prog 5 = some (1, false, 1, [.int .u8 (0)]) := by kernel_rfl
theorem ty22 : tyF Tryz.prog 22 = some (1, false, 24, [.slice none 0 0]) := by kernel_rfl
theorem ty28 : tyF Tryz.prog 28 = some (1, false, 24, [.slice none 0 0]) := by kernel_rfl
theorem ty31 : tyF Tryz.prog 31 = some (3, true, 24, [I64 (0), I64 (0), I64 (0)]) := by kernel_rfl
theorem fld31_0 : fldF Tryz.prog 31 0 = some 0 := by kernel_rfl
theorem fld31_1 : fldF Tryz.prog 31 1 = some 1 := by kernel_rfl
theorem fld31_2 : fldF Tryz.prog 31 2 = some 2 := by kernel_rfl
theorem pl31 (w : World) : (placesRun Tryz.prog 31).run Tryz.prog w = .ok #[(0, 1), (1, 1), (2, 1)] w := by kernel_rfl
theorem ty40 : tyF Tryz.prog 40 = some (2, true, 16, [I64 (0), I64 (0)]) := by kernel_rfl
theorem fld40_0 : fldF Tryz.prog 40 0 = some 0 := by kernel_rfl
theorem fld40_1 : fldF Tryz.prog 40 1 = some 1 := by kernel_rfl
theorem pl40 (w : World) : (placesRun Tryz.prog 40).run Tryz.prog w = .ok #[(0, 1), (1, 1)] w := by kernel_rfl
theorem ty42 : tyF Tryz.prog 42 = some (6, true, 64, [I64 (0), I64 (0), I64 (0), .slice none 0 0, I64 (0), I64 (0)]) := by kernel_rfl
theorem fld42_0 : fldF Tryz.prog 42 0 = some 0 := by kernel_rfl
theorem fld42_1 : fldF Tryz.prog 42 1 = some 1 := by kernel_rfl
theorem fld42_2 : fldF Tryz.prog 42 2 = some 2 := by kernel_rfl
theorem fld42_3 : fldF Tryz.prog 42 3 = some 3 := by kernel_rfl
theorem fld42_4 : fldF Tryz.prog 42 4 = some 4 := by kernel_rfl
theorem pl42 (w : World) : (placesRun Tryz.prog 42).run Tryz.prog w = .ok #[(0, 1), (1, 1), (2, 1), (3, 1), (4, 2)] w := by kernel_rfl
theorem ty44 : tyF Tryz.prog 44 = some (3, true, 24, [I64 (0), I64 (0), .bool false]) := by kernel_rfl
theorem fld44_0 : fldF Tryz.prog 44 0 = some 0 := by kernel_rfl
theorem fld44_1 : fldF Tryz.prog 44 1 = some 1 := by kernel_rfl
theorem fld44_2 : fldF Tryz.prog 44 2 = some 2 := by kernel_rfl
theorem pl44 (w : World) : (placesRun Tryz.prog 44).run Tryz.prog w = .ok #[(0, 1), (1, 1), (2, 1)] w := by kernel_rfl
theorem ty46 : tyF Tryz.prog 46 = some (1, false, 24, [.slice none 0 0]) := by kernel_rfl
theorem ty48 : tyF Tryz.prog 48 = some (2, true, 32, [I64 (0), .slice none 0 0]) := by kernel_rfl
theorem fld48_0 : fldF Tryz.prog 48 0 = some 0 := by kernel_rfl
theorem fld48_1 : fldF Tryz.prog 48 1 = some 1 := by kernel_rfl
theorem pl48 (w : World) : (placesRun Tryz.prog 48).run Tryz.prog w = .ok #[(0, 1), (1, 1)] w := by kernel_rfl
theorem ty64 : tyF Tryz.prog 64 = some (2, true, 16, [I64 (0), I64 (0)]) := by kernel_rfl
theorem ty65 : tyF Tryz.prog 65 = some (1, false, 24, [.slice none 0 0]) := by kernel_rfl
theorem ty79 : tyF Tryz.prog 79 = some (1, false, 24, [.slice none 0 0]) := by kernel_rfl
theorem ty88 : tyF Tryz.prog 88 = some (2, true, 32, [I64 (0), .slice none 0 0]) := by kernel_rfl
theorem pl88 (w : World) : (placesRun Tryz.prog 88).run Tryz.prog w = .ok #[(0, 1), (1, 1)] w := by kernel_rfl
theorem ty102 : tyF Tryz.prog 102 = some (5, true, 72, [.slice none 0 0, I64 (0), I64 (0), I64 (0), .slice none 0 0]) := by kernel_rfl
theorem fld102_1 : fldF Tryz.prog 102 1 = some 1 := by kernel_rfl
theorem pl102 (w : World) : (placesRun Tryz.prog 102).run Tryz.prog w = .ok #[(0, 1), (1, 2), (3, 2)] w := by kernel_rfl
theorem ty108 : tyF Tryz.prog 108 = some (7, true, 56, [I64 (0), I64 (0), I64 (0), I64 (0), I64 (0), I64 (0), I64 (0)]) := by kernel_rfl
theorem fld108_0 : fldF Tryz.prog 108 0 = some 0 := by kernel_rfl
theorem fld108_1 : fldF Tryz.prog 108 1 = some 1 := by kernel_rfl
theorem fld108_2 : fldF Tryz.prog 108 2 = some 2 := by kernel_rfl
theorem fld108_3 : fldF Tryz.prog 108 3 = some 3 := by kernel_rfl
theorem fld108_4 : fldF Tryz.prog 108 4 = some 4 := by kernel_rfl
theorem fld108_5 : fldF Tryz.prog 108 5 = some 5 := by kernel_rfl
theorem fld108_6 : fldF Tryz.prog 108 6 = some 6 := by kernel_rfl
theorem pl108 (w : World) : (placesRun Tryz.prog 108).run Tryz.prog w = .ok #[(0, 1), (1, 1), (2, 1), (3, 1), (4, 1), (5, 1), (6, 1)] w := by kernel_rfl
theorem ty109 : tyF Tryz.prog 109 = some (1, false, 24, [.slice none 0 0]) := by kernel_rfl
theorem ty111 : tyF Tryz.prog 111 = some (2, true, 32, [I64 (0), .slice none 0 0]) := by kernel_rfl
theorem fld111_0 : fldF Tryz.prog 111 0 = some 0 := by kernel_rfl
theorem fld111_1 : fldF Tryz.prog 111 1 = some 1 := by kernel_rfl
theorem pl111 (w : World) : (placesRun Tryz.prog 111).run Tryz.prog w = .ok #[(0, 1), (1, 1)] w := by kernel_rfl
theorem ty125 : tyF Tryz.prog 125 = some (2, true, 32, [.slice none 0 0, I64 (0)]) := by kernel_rfl
theorem fld125_0 : fldF Tryz.prog 125 0 = some 0 := by kernel_rfl
theorem fld125_1 : fldF Tryz.prog 125 1 = some 1 := by kernel_rfl
theorem pl125 (w : World) : (placesRun Tryz.prog 125).run Tryz.prog w = .ok #[(0, 1), (1, 1)] w := by kernel_rfl
theorem ty130 : tyF Tryz.prog 130 = some (1, false, 8, [.nilFunc]) := by kernel_rfl
end Go.Sl
namespace Go.Sl
open Go.Proofs
theorem ty132 : tyF Tryz.prog 132 = some (5, true, 16, [.bool false, .bool false, .bool false, .bool false, .nilFunc]) := by kernel_rfl
theorem fld132_0 : fldF Tryz.prog 132 0 = some 0 := by kernel_rfl
theorem fld132_1 : fldF Tryz.prog 132 1 = some 1 := by kernel_rfl
theorem fld132_2 : fldF Tryz.prog 132 2 = some 2 := by kernel_rfl
theorem fld132_3 : fldF Tryz.prog 132 3 = some 3 := by kernel_rfl
theorem fld132_4 : fldF Tryz.prog 132 4 = some 4 := by kernel_rfl
theorem pl132 (w : World) : (placesRun Tryz.prog 132).run Tryz.prog w = .ok #[(0, 1), (1, 1), (2, 1), (3, 1), (4, 1)] w := by kernel_rfl
theorem ty135 : tyF Tryz.prog 135 = some (2, true, 16, [I64 (0), I64 (0)]) := by kernel_rfl
theorem fld135_0 : fldF Tryz.prog 135 0 = some 0 := by kernel_rfl
theorem fld135_1 : fldF Tryz.prog 135 1 = some 1 := by kernel_rfl
theorem pl135 (w : World) : (placesRun Tryz.prog 135).run Tryz.prog w = .ok #[(0, 1), (1, 1)] w := by kernel_rfl
theorem ty146 : tyF Tryz.prog 146 = some (6, true, 48, [I64 (0), I64 (0), I64 (0), I64 (0), I64 (0), I64 (0)]) := by kernel_rfl
theorem fld146_0 : fldF Tryz.prog 146 0 = some 0 := by kernel_rfl
theorem fld146_1 : fldF Tryz.prog 146 1 = some 1 := by kernel_rfl
theorem fld146_2 : fldF Tryz.prog 146 2 = some 2 := by kernel_rfl
theorem fld146_3 : fldF Tryz.prog 146 3 = some 3 := by kernel_rfl
theorem fld146_4 : fldF Tryz.prog 146 4 = some 4 := by kernel_rfl
theorem fld146_5 : fldF Tryz.prog 146 5 = some 5 := by kernel_rfl
theorem pl146 (w : World) : (placesRun Tryz.prog 146).run Tryz.prog w = .ok #[(0, 1), (1, 1), (2, 1), (3, 1), (4, 1), (5, 1)] w := by kernel_rfl
theorem ty153 : tyF Tryz.prog 153 = some (2, true, 16, [I64 (0), .bool false]) := by kernel_rfl
theorem fld153_0 : fldF Tryz.prog 153 0 = some 0 := by kernel_rfl
theorem fld153_1 : fldF Tryz.prog 153 1 = some 1 := by kernel_rfl
theorem pl153 (w : World) : (placesRun Tryz.prog 153).run Tryz.prog w = .ok #[(0, 1), (1, 1)] w := by kernel_rfl
theorem ty175 : tyF Tryz.prog 175 = some (1, false, 8, [.int .u64 (0)]) := by kernel_rfl
theorem ty208 : tyF Tryz.prog 208 = some (2, true, 32, [.int .u64 (0), .slice none 0 0]) := by kernel_rfl
theorem fld208_0 : fldF Tryz.prog 208 0 = some 0 := by kernel_rfl
theorem fld208_1 : fldF Tryz.prog 208 1 = some 1 := by kernel_rfl
theorem pl208 (w : World) : (placesRun Tryz.prog 208).run Tryz.prog w = .ok #[(0, 1), (1, 1)] w := by kernel_rfl
theorem ty211 : tyF Tryz.prog 211 = some (6, true, 112, [.slice none 0 0, .slice none 0 0, .slice none 0 0, .slice none 0 0, .int .u64 (0), .int .u64 (0)]) := by kernel_rfl
theorem fld211_0 : fldF Tryz.prog 211 0 = some 0 := by kernel_rfl
theorem fld211_1 : fldF Tryz.prog 211 1 = some 1 := by kernel_rfl
theorem fld211_2 : fldF Tryz.prog 211 2 = some 2 := by kernel_rfl
theorem fld211_3 : fldF Tryz.prog 211 3 = some 3 := by kernel_rfl
theorem fld211_4 : fldF Tryz.prog 211 4 = some 4 := by kernel_rfl
theorem fld211_5 : fldF Tryz.prog 211 5 = some 5 := by kernel_rfl
theorem pl211 (w : World) : (placesRun Tryz.prog 211).run Tryz.prog w = .ok #[(0, 1), (1, 1), (2, 1), (3, 1), (4, 1), (5, 1)] w := by kernel_rfl
theorem ty241 : tyF Tryz.prog 241 = some (3, true, 56, [I64 (0), .slice none 0 0, .slice none 0 0]) := by kernel_rfl
theorem fld241_0 : fldF Tryz.prog 241 0 = some 0 := by kernel_rfl
theorem fld241_1 : fldF Tryz.prog 241 1 = some 2 := by kernel_rfl
theorem pl241 (w : World) : (placesRun Tryz.prog 241).run Tryz.prog w = .ok #[(0, 2), (2, 1)] w := by kernel_rfl
theorem ty264 : tyF Tryz.prog 264 = some (64, true, 512, [.int .u64 (0), .int .u64 (0), .int .u64 (0), .int .u64 (0), .int .u64 (0), .int .u64 (0), .int .u64 (0), .int .u64 (0), .int .u64 (0), .int .u64 (0), .int .u64 (0), .int .u64 (0), .int .u64 (0), .int .u64 (0), .int .u64 (0), .int .u64 (0), .int .u64 (0), .int .u64 (0), .int .u64 (0), .int .u64 (0), .int .u64 (0), .int .u64 (0), .int .u64 (0), .int .u64 (0), .int .u64 (0), .int .u64 (0), .int .u64 (0), .int .u64 (0), .int .u64 (0), .int .u64 (0), .int .u64 (0), .int .u64 (0), .int .u64 (0), .int .u64 (0), .int .u64 (0), .int .u64 (0), .int .u64 (0), .int .u64 (0), .int .u64 (0), .int .u64 (0), .int .u64 (0), .int .u64 (0), .int .u64 (0), .int .u64 (0), .int .u64 (0), .int .u64 (0), .int .u64 (0), .int .u64 (0), .int .u64 (0), .int .u64 (0), .int .u64 (0), .int .u64 (0), .int .u64 (0), .int .u64 (0), .int .u64 (0), .int .u64 (0), .int .u64 (0), .int .u64 (0), .int .u64 (0), .int .u64 (0), .int .u64 (0), .int .u64 (0), .int .u64 (0), .int .u64 (0)]) := by kernel_rfl
end Go.Sl
namespace Go.Sl
open Go.Proofs
theorem ty301 : tyF Tryz.prog 301 = some (1, false, 24, [.slice none 0 0]) := by kernel_rfl
theorem ty303 : tyF Tryz.prog 303 = some (4, true, 48, [I64 (0), I64 (0), I64 (0), .slice none 0 0]) := by kernel_rfl
theorem fld303_0 : fldF Tryz.prog 303 0 = some 0 := by kernel_rfl
theorem fld303_1 : fldF Tryz.prog 303 1 = some 1 := by kernel_rfl
theorem fld303_2 : fldF Tryz.prog 303 2 = some 2 := by kernel_rfl
theorem fld303_3 : fldF Tryz.prog 303 3 = some 3 := by kernel_rfl
theorem pl303 (w : World) : (placesRun Tryz.prog 303).run Tryz.prog w = .ok #[(0, 1), (1, 1), (2, 1), (3, 1)] w := by kernel_rfl
theorem ty305 : tyF Tryz.prog 305 = some (3, true, 24, [I64 (0), I64 (0), I64 (0)]) := by kernel_rfl
theorem fld305_0 : fldF Tryz.prog 305 0 = some 0 := by kernel_rfl
theorem fld305_1 : fldF Tryz.prog 305 1 = some 1 := by kernel_rfl
theorem fld305_2 : fldF Tryz.prog 305 2 = some 2 := by kernel_rfl
theorem pl305 (w : World) : (placesRun Tryz.prog 305).run Tryz.prog w = .ok #[(0, 1), (1, 1), (2, 1)] w := by kernel_rfl
theorem ty336 : tyF Tryz.prog 336 = some (4, true, 32, [I64 (0), I64 (0), I64 (0), I64 (0)]) := by kernel_rfl
theorem fld336_0 : fldF Tryz.prog 336 0 = some 0 := by kernel_rfl
theorem fld336_1 : fldF Tryz.prog 336 1 = some 3 := by kernel_rfl
theorem pl336 (w : World) : (placesRun Tryz.prog 336).run Tryz.prog w = .ok #[(0, 3), (3, 1)] w := by kernel_rfl
theorem ty337 : tyF Tryz.prog 337 = some (1, false, 24, [.slice none 0 0]) := by kernel_rfl
theorem ty339 : tyF Tryz.prog 339 = some (5, true, 104, [.slice none 0 0, .slice none 0 0, .slice none 0 0, .slice none 0 0, I64 (0)]) := by kernel_rfl
theorem fld339_0 : fldF Tryz.prog 339 0 = some 0 := by kernel_rfl
theorem fld339_1 : fldF Tryz.prog 339 1 = some 1 := by kernel_rfl
theorem fld339_2 : fldF Tryz.prog 339 2 = some 2 := by kernel_rfl
theorem fld339_3 : fldF Tryz.prog 339 3 = some 3 := by kernel_rfl
theorem fld339_4 : fldF Tryz.prog 339 4 = some 4 := by kernel_rfl
theorem pl339 (w : World) : (placesRun Tryz.prog 339).run Tryz.prog w = .ok #[(0, 1), (1, 1), (2, 1), (3, 1), (4, 1)] w := by kernel_rfl
theorem call16 : callable Tryz.prog 16 = true := by kernel_rfl
theorem call17 : callable Tryz.prog 17 = true := by kernel_rfl
theorem call18 : callable Tryz.prog 18 = true := by kernel_rfl
theorem call19 : callable Tryz.prog 19 = true := by kernel_rfl
theorem call20 : callable Tryz.prog 20 = true := by kernel_rfl
theorem call21 : callable Tryz.prog 21 = true := by kernel_rfl
theorem call22 : callable Tryz.prog 22 = true := by kernel_rfl
theorem call23 : callable Tryz.prog 23 = true := by kernel_rfl
theorem call24 : callable Tryz.prog 24 = true := by kernel_rfl
theorem call26 : callable Tryz.prog 26 = true := by kernel_rfl
theorem call28 : callable Tryz.prog 28 = true := by kernel_rfl
theorem call37 : callable Tryz.prog 37 = true := by kernel_rfl
theorem call44 : callable Tryz.prog 44 = true := by kernel_rfl
theorem call46 : callable Tryz.prog 46 = true := by kernel_rfl
theorem call49 : callable Tryz.prog 49 = true := by kernel_rfl
theorem call59 : callable Tryz.prog 59 = true := by kernel_rfl
theorem call76 : callable Tryz.prog 76 = true := by kernel_rfl
theorem call77 : callable Tryz.prog 77 = true := by kernel_rfl
theorem call78 : callable Tryz.prog 78 = true := by kernel_rfl
theorem call79 : callable Tryz.prog 79 = true := by kernel_rfl
theorem call80 : callable Tryz.prog 80 = true := by kernel_rfl
theorem call81 : callable Tryz.prog 81 = true := by kernel_rfl
theorem call83 : callable Tryz.prog 83 = true := by kernel_rfl
theorem call88 : callable Tryz.prog 88 = true := by kernel_rfl
theorem call89 : callable Tryz.prog 89 = true := by kernel_rfl
theorem call97 : callable Tryz.prog 97 = true := by kernel_rfl
theorem call98 : callable Tryz.prog 98 = true := by kernel_rfl
theorem call100 : callable Tryz.prog 100 = true := by kernel_rfl
theorem call101 : callable Tryz.prog 101 = true := by kernel_rfl
theorem call102 : callable Tryz.prog 102 = true := by kernel_rfl
theorem call104 : callable Tryz.prog 104 = true := by kernel_rfl
theorem call109 : callable Tryz.prog 109 = true := by kernel_rfl
theorem call110 : callable Tryz.prog 110 = true := by kernel_rfl
end Go.Sl
namespace Go.Sl
open Go.Proofs
theorem call139 : callable Tryz.prog 139 = true := by kernel_rfl
theorem call140 : callable Tryz.prog 140 = true := by kernel_rfl
theorem call141 : callable Tryz.prog 141 = true := by kernel_rfl
theorem call142 : callable Tryz.prog 142 = true := by kernel_rfl
theorem call143 : callable Tryz.prog 143 = true := by kernel_rfl
theorem call144 : callable Tryz.prog 144 = true := by kernel_rfl
theorem call145 : callable Tryz.prog 145 = true := by kernel_rfl
theorem call146 : callable Tryz.prog 146 = true := by kernel_rfl
theorem call147 : callable Tryz.prog 147 = true := by kernel_rfl
theorem call148 : callable Tryz.prog 148 = true := by kernel_rfl
theorem call149 : callable Tryz.prog 149 = true := by kernel_rfl
theorem call150 : callable Tryz.prog 150 = true := by kernel_rfl
theorem call151 : callable Tryz.prog 151 = true := by kernel_rfl
theorem call152 : callable Tryz.prog 152 = true := by kernel_rfl
theorem call154 : callable Tryz.prog 154 = true := by kernel_rfl
theorem call157 : callable Tryz.prog 157 = true := by kernel_rfl
theorem call158 : callable Tryz.prog 158 = true := by kernel_rfl
theorem call165 : callable Tryz.prog 165 = true := by kernel_rfl
theorem call166 : callable Tryz.prog 166 = true := by kernel_rfl
theorem call167 : callable Tryz.prog 167 = true := by kernel_rfl
theorem call168 : callable Tryz.prog 168 = true := by kernel_rfl
theorem call169 : callable Tryz.prog 169 = true := by kernel_rfl
theorem call170 : callable Tryz.prog 170 = true := by kernel_rfl
theorem call171 : callable Tryz.prog 171 = true := by kernel_rfl
theorem call172 : callable Tryz.prog 172 = true := by kernel_rfl
theorem call173 : callable Tryz.prog 173 = true := by kernel_rfl
theorem call174 : callable Tryz.prog 174 = true := by kernel_rfl
theorem call175 : callable Tryz.prog 175 = true := by kernel_rfl
theorem call197 : callable Tryz.prog 197 = true := by kernel_rfl
theorem call198 : callable Tryz.prog 198 = true := by kernel_rfl
theorem call199 : callable Tryz.prog 199 = true := by kernel_rfl
theorem call200 : callable Tryz.prog 200 = true := by kernel_rfl
theorem call209 : callable Tryz.prog 209 = true := by kernel_rfl
theorem call210 : callable Tryz.prog 210 = true := by kernel_rfl
theorem call211 : callable Tryz.prog 211 = true := by kernel_rfl
theorem call212 : callable Tryz.prog 212 = true := by kernel_rfl
theorem call213 : callable Tryz.prog 213 = true := by kernel_rfl
theorem call214 : callable Tryz.prog 214 = true := by kernel_rfl
theorem call215 : callable Tryz.prog 215 = true := by kernel_rfl
theorem call216 : callable Tryz.prog 216 = true := by kernel_rfl
theorem call219 : callable Tryz.prog 219 = true := by kernel_rfl
theorem call220 : callable Tryz.prog 220 = true := by kernel_rfl
theorem call221 : callable Tryz.prog 221 = true := by kernel_rfl
theorem call222 : callable Tryz.prog 222 = true := by kernel_rfl
theorem call223 : callable Tryz.prog 223 = true := by kernel_rfl
theorem call224 : callable Tryz.prog 224 = true := by kernel_rfl
theorem call225 : callable Tryz.prog 225 = true := by kernel_rfl
theorem call229 : callable Tryz.prog 229 = true := by kernel_rfl
theorem call230 : callable Tryz.prog 230 = true := by kernel_rfl
theorem call231 : callable Tryz.prog 231 = true := by kernel_rfl
theorem call232 : callable Tryz.prog 232 = true := by kernel_rfl
theorem call233 : callable Tryz.prog 233 = true := by kernel_rfl
theorem call234 : callable Tryz.prog 234 = true := by kernel_rfl
theorem call235 : callable Tryz.prog 235 = true := by kernel_rfl
theorem call236 : callable Tryz.prog 236 = true := by kernel_rfl
theorem call237 : callable Tryz.prog 237 = true := by kernel_rfl
theorem call238 : callable Tryz.prog 238 = true := by kernel_rfl
theorem call250 : callable Tryz.prog 250 = true := by kernel_rfl
theorem call251 : callable Tryz.prog 251 = true := by kernel_rfl
theorem call252 : callable Tryz.prog 252 = true := by kernel_rfl
theorem call253 : callable Tryz.prog 253 = true := by kernel_rfl
theorem call254 : callable Tryz.prog 254 = true := by kernel_rfl
theorem call255 : callable Tryz.prog 255 = true := by kernel_rfl
theorem call256 : callable Tryz.prog 256 = true := by kernel_rfl
theorem call257 : callable Tryz.prog 257 = true := by kernel_rfl
theorem call258 : callable Tryz.prog 258 = true := by kernel_rfl
theorem call259 : callable Tryz.prog 259 = true := by kernel_rfl
theorem call271 : callable Tryz.prog 271 = true := by kernel_rfl
theorem call272 : callable Tryz.prog 272 = true := by kernel_rfl
theorem call275 : callable Tryz.prog 275 = true := by kernel_rfl
theorem call276 : callable Tryz.prog 276 = true := by kernel_rfl
theorem call277 : callable Tryz.prog 277 = true := by kernel_rfl
theorem call280 : callable Tryz.prog 280 = true := by kernel_rfl
theorem call281 : callable Tryz.prog 281 = true := by kernel_rfl
theorem call282 : callable Tryz.prog 282 = true := by kernel_rfl
theorem call283 : callable Tryz.prog 283 = true := by kernel_rfl
theorem call284 : callable Tryz.prog 284 = true := by kernel_rfl
theorem call291 : callable Tryz.prog 291 = true := by kernel_rfl
theorem call292 : callable Tryz.prog 292 = true := by kernel_rfl
theorem call293 : callable Tryz.prog 293 = true := by kernel_rfl
theorem call294 : callable Tryz.prog 294 = true := by kernel_rfl
theorem call295 : callable Tryz.prog 295 = true := by kernel_rfl
theorem call296 : callable Tryz.prog 296 = true := by kernel_rfl
theorem call297 : callable Tryz.prog 297 = true := by kernel_rfl
theorem call298 : callable Tryz.prog 298 = true := by kernel_rfl
theorem call299 : callable Tryz.prog 299 = true := by kernel_rfl
theorem call300 : callable Tryz.prog 300 = true := by kernel_rfl
theorem call301 : callable Tryz.prog 301 = true := by kernel_rfl
theorem call302 : callable Tryz.prog 302 = true := by kernel_rfl
theorem call303 : callable Tryz.prog 303 = true := by kernel_rfl
theorem call309 : callable Tryz.prog 309 = true := by kernel_rfl
theorem call314 : callable Tryz.prog 314 = true := by kernel_rfl
theorem call315 : callable Tryz.prog 315 = true := by kernel_rfl
theorem call317 : callable Tryz.prog 317 = true := by kernel_rfl
theorem call318 : callable Tryz.prog 318 = true := by kernel_rfl
theorem call321 : callable Tryz.prog 321 = true := by kernel_rfl
theorem call323 : callable Tryz.prog 323 = true := by kernel_rfl
theorem call333 : callable Tryz.prog 333 = true := by kernel_rfl
theorem call335 : callable Tryz.prog 335 = true := by kernel_rfl
theorem call336 : callable Tryz.prog 336 = true := by kernel_rfl
theorem call341 : callable Tryz.prog 341 = true := by kernel_rfl
theorem call342 : callable Tryz.prog 342 = true := by kernel_rfl
theorem mixed : Tryz.prog.follows .mixedOrders = true := by kernel_rfl
end Go.Sl

namespace Go.Sl
open Go.Proofs
set_option maxRecDepth 4000
variable {κ : Ctx} {I : List Item}
abbrev deck (b : Nat) (lv : Value) (i : Int) : Item := blk b [lv, I64 i] 125
theorem Mod_ok {n k : Int} (h1 : 1 ≤ k) (h2 : k ≤ 1000000000000) :
    CallS Tryz.prog κ 76 [I64 (n), I64 (k)] I (fun r J => ∃ x : Int, r = I64 x ∧ (0 ≤ x ∧ x < k) ∧ I = J) := by
 have q1 := Int.tmod_lt_of_pos n (b := k) om
 have q2 := Int.lt_tmod_of_pos n (b := k) om
 refine Ce2 Tryz.func76 rfl rfl ?_
 refine Ah (Ga rfl (Af (Ah (Gm rfl (Gm rfl (Gr (Runs.rem rfl rfl om) (Gm rfl (Gr (Rad rfl rfl) (Gm rfl (Gr (Runs.rem rfl rfl om) (Ga rfl (Af (Ay ?_)))))))))))))
 have t1 := Int.tmod_nonneg k (a := Int.tmod n k + k) om
 have t2 := Int.tmod_lt_of_pos (Int.tmod n k + k) (b := k) om
 exact A3 rfl rfl (_) A1 ⟨_, rfl, ⟨t1, t2⟩, rfl⟩
theorem Next_base {b : Nat} {lv : Value} {ls : List Int} {i : Int} (hl : Sl κ (deck b lv i :: I) lv ls) (h0 : 0 ≤ i) {n : Int} (hn : n ≤ 1000000000000) :
    CallS Tryz.prog κ 19 [.pointer (some ⟨b, 0, none⟩), I64 (n)] (blk b [lv, I64 (i)] 125 :: I) (fun r J => ∃ y : Int × Int, (r = I64 y.1 ∧ (0 ≤ y.1 ∧ (1 ≤ n → y.1 < n) ∧ (n < 1 → y.1 = 0)) ∧ 0 ≤ y.2) ∧ J = [] ++ deck b lv y.2 :: I) := by
 refine B8 hl.le fun hmax => ?_
 refine Ce2 Tryz.func19 rfl rfl ?_
 refine Ah (Ga rfl (Af (As (As (Bj mixed (Bm (blk b [lv, I64 (i)] 125 :: I) 14 (Dr 0 rfl (Ad rfl) (Dr 1 rfl (Ba rfl rfl) (Dr 2 rfl (Ad rfl) (C4 (d := 8) rfl (fun g8 => ?_) (fun g8 => ?_)))))))))))
 ·exact Dpo 3 rfl (Dpo 4 rfl (Dpo 5 rfl (Dpo 6 rfl (Dpo 7 rfl (Dpo 8 rfl (Dpo 9 rfl (Dpo 10 rfl (Dpo 11 rfl (Dpo 12 rfl (Dr 13 rfl (Ao rfl rfl) (Dz (Ak (Aq (S3 19 0 1 rfl rfl rfl) (Co rfl (Ah (Ga rfl (Af (Ay (Aj (A3 rfl rfl (_) A1 ⟨(0, i), ⟨rfl, ⟨Int.le_refl _, by intro _; show (0 : Int) < n; omega, fun _ => rfl⟩, h0⟩, rfl⟩))))))))))))))))))))
 ·refine Dro 3 rfl (Ad rfl) (Dro 4 rfl (Bc rfl) (Dro 5 rfl (Ab fld125_1 rfl) (Dro 6 rfl (Au ty3) ?_)))
  refine Dro 7 rfl (Ad rfl) (Dro 8 rfl (Bc rfl) (Dro 9 rfl (Ab fld125_0 rfl) (Dro 10 rfl (Au ty22) ?_)))
  refine Dro 11 rfl (Bz (α := Int) (xs := ls) Ac rfl (Bh hl)) (Dro 12 rfl (Cc rfl rfl) (Dr 13 rfl (Ar rfl rfl) (Dz (Ak (Aq (S3 19 0 1 rfl rfl rfl) (A7 rfl (fun c19 => ?_) (fun c19 => ?_)))))))
  ·exact Ah (Ga rfl (Af (Ay (Aj (A3 rfl rfl (_) A1 ⟨(0, i), ⟨rfl, ⟨Int.le_refl _, by intro _; show (0 : Int) < n; omega, fun _ => rfl⟩, h0⟩, rfl⟩)))))
  ·refine A2 (Ak (As (Bj mixed (Bm (blk b [lv, I64 (i)] 125 :: I) 11 (Dr 0 rfl (Ad rfl) (Dr 1 rfl (Bc rfl) (Dr 2 rfl (Ab fld125_0 rfl) (Dr 3 rfl (Au ty22) ?_))))))))
   refine Dr 4 rfl (Ad rfl) (Dr 5 rfl (Bc rfl) (Dr 6 rfl (Ab fld125_1 rfl) (Dr 7 rfl (Au ty3) ?_)))
   refine Dr 8 rfl (Ax (α := Int) (xs := ls) Ac ty3 rfl rfl (Bh hl) om om) (Dr 9 rfl (Bs (xs := ls) ty3 rfl (Bh hl) om om) (Dr 10 rfl (A9 rfl) (Dz (Ak (Aq (S3 5 0 1 rfl rfl rfl) (Ah (Gm rfl (Gr (Bc rfl) (Gf fld125_1 rfl (Gl ty3 ?_))))))))))
   refine Gr (Rad rfl rfl) (Gr (Bc rfl) (Gf fld125_1 rfl (Ge0 (Es2_1 ty3) ?_)))
   refine Af (Ah (Gm rfl (Gm rfl (G.e (Al call76 rfl rfl (Mod_ok om om)) ?_))))
   rintro _ _ ⟨_, _, ⟨x1, rfl, hx1, rfl⟩, rfl, rfl⟩
   exact Ga rfl (Af (Aq (S1 4 rfl) (Ay (A3 rfl rfl (_) A1 ⟨(x1, i + 1), ⟨rfl, ⟨by omega, by omega, by omega⟩, by show 0 ≤ i + 1; omega⟩, rfl⟩))))
theorem Next_ok {F : Item → List Item} {b : Nat} {lv : Value} {ls : List Int} {i : Int} (hat : AtF I (deck b lv i) F) (hl : Sl κ I lv ls) (h0 : 0 ≤ i) {n : Int} (hn : n ≤ 1000000000000) :
  CallS Tryz.prog κ 19 [.pointer (some ⟨b, 0, none⟩), I64 n] I fun r J => ∃ x i', r = I64 x ∧ (0 ≤ x ∧ (1 ≤ n → x < n) ∧ (n < 1 → x = 0)) ∧ 0 ≤ i' ∧ J = F (deck b lv i') :=
 (D1 (Z := fun _ => []) (X := fun y : Int × Int => deck b lv y.2) hat fun _ hJ _ => Next_base (hl.fit hJ) h0 hn).mono fun _ _ ⟨y, ⟨h1, h2, h3⟩, h4⟩ => ⟨y.1, y.2, h1, h2, h3, h4⟩
theorem New_ok {a : Option Addr} {n c : Nat} :
    CallS Tryz.prog κ 18 [.slice a n c] I (fun r J => ∃ b, r = .pointer (some ⟨b, 0, none⟩) ∧ J = deck b (.slice a n c) 0 :: I) := by
 refine Ce1 Tryz.func18 rfl rfl ?_
 exact Ah (Ga rfl (Af (Ah (Gm rfl (Gr (Bb (cells := [_, _]) ty125 Tryz.underlying125 pl125 rfl rfl) (Ge1 (Bd (cs := [_, _]) rfl rfl rfl) fun b1 => Ga rfl (Af (Ay (A3 rfl rfl (_) A1 ⟨b1, rfl, rfl⟩)))))))))
def ValidP (xs : List Int) (nodes : Int) : Prop := ∀ j, j < xs.length → (0 ≤ at_ xs (j : Int) ∧ at_ xs (j : Int) < nodes) ∧ (0 < j → at_ xs ((j : Int) - 1) < at_ xs (j : Int))
instance (xs : List Int) (nodes : Int) : Decidable (ValidP xs nodes) := by unfold ValidP; infer_instance
theorem NValid_ok {v : Value} {xs : List Int} (hl : Sl κ I v xs) (nodes : Int) :
    CallS Tryz.prog κ 88 [v, I64 (nodes)] I (fun r J => r = .bool (decide (ValidP xs nodes)) ∧ I = J) := by
 refine B8 hl.le fun hmax => ?_
 refine Ce2 Tryz.func88 rfl rfl ?_
 refine Ah (Ga rfl (Af (As (Ah (Gm rfl (Gr (Bz (α := Int) (xs := xs) Ac rfl (Bh hl)) (Gm rfl (Af (A0 (Bu (σ := Nat) (fun s => ([(0, v), (1, I64 (nodes)), (7, v), (8, I64 (((xs.length : Nat) : Int))), (9, I64 (((s : Nat) : Int)))] : Env)) (fun s => I) (fun s => (s ≤ xs.length) ∧ (∀ j, j < s → (0 ≤ at_ xs (j : Int) ∧ at_ xs (j : Int) < nodes) ∧ (0 < j → at_ xs ((j : Int) - 1) < at_ xs (j : Int)))) (fun s => xs.length - s) (0) (show ((0 : Nat) ≤ xs.length) ∧ (∀ j, j < (0 : Nat) → (0 ≤ at_ xs (j : Int) ∧ at_ xs (j : Int) < nodes) ∧ (0 < j → at_ xs ((j : Int) - 1) < at_ xs (j : Int))) from ⟨om, all_zero⟩) (Aa rfl (Aa rfl (Aa rfl (Aa rfl (Aa Cf Bg))))) (show Fit κ _ (I) from Az) ?_))))))))))
 rintro k hp
 obtain ⟨hk, hn⟩ := hp
 refine Ah (Gr (Ba rfl rfl) (Af (As (A7 rfl (fun c10 => ?_) (fun c10 => ?_)))))
 ·refine A2 (Ak (As (A0 (Ah (Gm rfl (Gr (Ax (α := Int) (xs := xs) Ac ty3 rfl rfl (Bh hl) om om) (Gr (Bs (xs := xs) ty3 rfl (Bh hl) om om) (Ga rfl (Ga rfl (Af (Ah (Gm rfl (Gr (Ba rfl rfl) (Gm rfl (Bk (d := 16) rfl (fun g16 => ?_) (fun g16 => ?_))))))))))))))))
  ·refine Gpo (Gpo (Gpo (Gr (Ao rfl rfl) (Gm rfl (Gpo (Gpo (Gpo (Gpu (Gpu (Gpu (Gpu (Gpu (Gpu (Gpu (Gpo (Gr (Ao rfl rfl) (Af (Aq (S6 33 0 1 7 8 9 rfl rfl rfl rfl rfl rfl) (Co rfl (Ah (Ga rfl (Af (Ay (Ap (Aj (Aj (Ap (Aj ?_))))))))))))))))))))))))))))
   have hm : ¬ ValidP xs nodes := fun hv => by have := hv k om; omega
   exact A3 rfl rfl (_) A1 ⟨by rw [decide_eq_false hm], rfl⟩
  ·refine Gro (Ad rfl) (Gro (Ad rfl) (Gro (Cc rfl rfl) (Gr (Ar rfl rfl) (Gm rfl (Bk (d := 21) rfl (fun g21 => ?_) (fun g21 => ?_))))))
   ·refine Gpo (Gpo (Gpo (Gpu (Gpu (Gpu (Gpu (Gpu (Gpu (Gpu (Gpo (Gr (Ao rfl rfl) (Af (Aq (S6 33 0 1 7 8 9 rfl rfl rfl rfl rfl rfl) (Co rfl (Ah (Ga rfl (Af (Ay (Ap (Aj (Aj (Ap (Aj ?_)))))))))))))))))))))))
    have hm : ¬ ValidP xs nodes := fun hv => by have := hv k om; omega
    exact A3 rfl rfl (_) A1 ⟨by rw [decide_eq_false hm], rfl⟩
   ·refine Gro (Ad rfl) (Gro (B0 rfl rfl) (Gro (Ad rfl) (Bk (d := 24) rfl (fun g24 => ?_) (fun g24 => ?_))))
    ·refine Gro (Ad rfl) (Gro (Ad rfl) (Gro (Rsu rfl rfl) (Gro (Ax (α := Int) (xs := xs) Ac ty3 rfl rfl (Bh hl) om om) (Gro (Bs (xs := xs) ty3 rfl (Bh hl) om om) (Gro (Ad rfl) (Gro (Cc rfl rfl) (Gro (Ao rfl rfl) (Gr (Ar rfl rfl) (Af (Aq (S6 33 0 1 7 8 9 rfl rfl rfl rfl rfl rfl) (A7 rfl (fun c33 => ?_) (fun c33 => ?_))))))))))))
     ·refine Ah (Ga rfl (Af (Ay (Ap (Aj (Aj (Ap (Aj ?_))))))))
      have hm : ¬ ValidP xs nodes := fun hv => by have := hv k om; have := this.2 om; omega
      exact A3 rfl rfl (_) A1 ⟨by rw [decide_eq_false hm], rfl⟩
     ·exact A2 (Ai (Ak (Av (Gr (Rad rfl rfl) (Gm rfl (Bf (B1 ((k + 1)) ⟨om, (all_succ hn ⟨by omega, fun _ => by omega⟩)⟩)))))))
    ·exact Gpo (Gpo (Gpo (Gpo (Gpo (Gpo (Gpo (Gro (Ar rfl rfl) (Gr (Ar rfl rfl) (Af (Aq (S6 33 0 1 7 8 9 rfl rfl rfl rfl rfl rfl) (Di rfl (A2 (Ai (Ak (Av (Gr (Rad rfl rfl) (Gm rfl (Bf (B1 ((k + 1)) ⟨om, (all_succ hn ⟨by omega, fun _ => by omega⟩)⟩)))))))))))))))))))
 ·refine Br (Am (Am (A6 (Ak (Ah (Ga rfl (Af (Ay ?_))))))))
  have hm : ValidP xs nodes := fun j hj => hn j om
  exact A3 rfl rfl (_) A1 ⟨by rw [decide_eq_true hm], rfl⟩
variable {κ : Ctx} {I : List Item}
theorem IsNaN_ok (n : Int) :
    CallS Tryz.prog κ 277 [I64 (n)] I (fun r J => r = .bool false ∧ I = J) := by
 refine Ce1 Tryz.func277 rfl rfl ?_
 exact Ah (Ga rfl (Af (Ah (Gm rfl (Gm rfl (Gr (Bv rfl rfl) (Ga rfl (Af (Ay (A3 rfl rfl (I) A1 ⟨by simp, rfl⟩))))))))))
theorem Compare_ok (m n : Int) :
    CallS Tryz.prog κ 225 [I64 (m), I64 (n)] I (fun r J => r = I64 (cmpI m n) ∧ I = J) := by
 refine Ce2 Tryz.func225 rfl rfl ?_
 refine Ah (Ga rfl (Af (Ah (Gm rfl (Gc0 (Al call277 rfl rfl (IsNaN_ok m)) ?_)))))
 refine Ga rfl (Af (Ah (Gm rfl (Gc0 (Al call277 rfl rfl (IsNaN_ok n)) ?_))))
 refine Ga rfl (Af (As (Ah (Gm rfl (Af (Di rfl (A2 (Ak (As (Ah (Gm rfl (Af (Di rfl (A2 (Ak (As (Ah (Gm rfl (Gm rfl (Gr (Ba rfl rfl) (Af (Aq (S3 16 0 1 rfl rfl rfl) (A7 rfl (fun c16 => ?_) (fun c16 => ?_))))))))))))))))))))))))
 ·exact Ah (Ga rfl (Af (Ay (Aj (A3 rfl rfl (I) A1 ⟨by unfold cmpI; rw [if_pos c16], rfl⟩)))))
 ·refine A2 (Ak (As (Ah (Gm rfl (Gm rfl (Gr (B0 rfl rfl) (Af (A7 rfl (fun c19 => ?_) (fun c19 => ?_)))))))))
  ·exact Ah (Ga rfl (Af (Ay (Aj (A3 rfl rfl (I) A1 ⟨by unfold cmpI; rw [if_neg c16, if_pos c19], rfl⟩)))))
  ·exact A2 (Ak (Ah (Ga rfl (Af (Ay (A3 rfl rfl (I) A1 ⟨by unfold cmpI; rw [if_neg c16, if_neg c19], rfl⟩))))))
theorem Or_ok {v : Value} {xs : List Int} (hl : Sl κ I v xs) :
    CallS Tryz.prog κ 224 [v] I (fun r J => r = I64 (orL xs) ∧ I = J) := by
 refine B8 hl.le fun hmax => ?_
 refine Ce1 Tryz.func224 rfl rfl ?_
 refine Ah (Ga rfl (Af (Ah (Ga rfl (Af (As (Ah (Gm rfl (Gr (Bz (α := Int) (xs := xs) Ac rfl (Bh hl)) (Gm rfl (Af (A0 (Bu (σ := Nat) (fun s => ([(3, I64 (0)), (6, v), (7, I64 (((xs.length : Nat) : Int))), (8, I64 (((s : Nat) : Int)))] : Env)) (fun s => I) (fun s => (s ≤ xs.length) ∧ (orL xs = orL (xs.drop s))) (fun s => xs.length - s) (0) (show ((0 : Nat) ≤ xs.length) ∧ (orL xs = orL (xs.drop (0 : Nat))) from ⟨om, rfl⟩) (Aa rfl (Aa rfl (Aa rfl (Aa Cf Bg)))) (show Fit κ _ (I) from Az) ?_)))))))))))))
 rintro k hp
 obtain ⟨hk, ho⟩ := hp
 refine Ah (Gr (Ba rfl rfl) (Af (As (A7 rfl (fun c9 => ?_) (fun c9 => ?_)))))
 ·refine A2 (Ak (As (A0 (Ah (Gr (Ax (α := Int) (xs := xs) Ac ty3 rfl rfl (Bh hl) om om) (Gr (Bs (xs := xs) ty3 rfl (Bh hl) om om) (Ga rfl (Af (Ah (Gm rfl (Gm rfl (Gr (Bv rfl rfl) (Af (A7 rfl (fun c14 => ?_) (fun c14 => ?_)))))))))))))))
  ·exact Ah (Gm rfl (Ga rfl (Af (Ay (Ap (Aj (Aj (Ap (Aj (A3 rfl rfl (I) A1 ⟨by rw [ho, orL_stop om c14], rfl⟩))))))))))
  ·exact A2 (Ai (Ak (Av (Gr (Rad rfl rfl) (Gm rfl (Bf (B1 ((k + 1)) ⟨om, (ho.trans (orL_step om (Decidable.of_not_not c14)))⟩)))))))
 ·exact Br (Am (Am (A6 (Ak (Ah (Gm rfl (Ga rfl (Af (Ay (A3 rfl rfl (I) A1 ⟨by rw [ho, orL_end om], rfl⟩))))))))))
end Go.Sl
namespace Go.Sl
end Go.Sl
namespace Go.Sl
open Go.Proofs
set_option maxRecDepth 4000
theorem at_drop {α : Type} [Inhabited α] (xs : List α) (l : Nat) (i : Int) (h0 : 0 ≤ i) : at_ (xs.drop l) i = at_ xs ((l : Int) + i) := by
 unfold at_
 rw [List.getD_eq_getElem?_getD, List.getD_eq_getElem?_getD, List.getElem?_drop]
 congr 2; omega
def putL : List Int → Int → List Int
 | [], x => [x]
 | y :: ys, x => if y < x then y :: putL ys x else if y = x then y :: ys else x :: y :: ys
def ofL (l : List Int) : List Int := l.foldl putL []
theorem mem_putL (x y : Int) : ∀ l, y ∈ putL l x ↔ y = x ∨ y ∈ l
 | [] => by simp [putL]
 | z :: zs => by
  simp only [putL]
  split
  ·simp only [List.mem_cons, mem_putL x y zs]
   constructor
   ·rintro (h | h | h) <;> simp [h]
   ·rintro (h | h | h) <;> simp [h]
  ·split
   ·rename_i e; subst e; simp
   ·simp
theorem mem_foldl_putL (y : Int) : ∀ (l acc : List Int), y ∈ l.foldl putL acc ↔ y ∈ l ∨ y ∈ acc
 | [], acc => by simp
 | x :: l, acc => by
  rw [List.foldl_cons, mem_foldl_putL y l, mem_putL]
  simp only [List.mem_cons]
  constructor
  ·rintro (h | h | h) <;> simp [h]
  ·rintro ((h | h) | h) <;> simp [h]
theorem mem_ofL (l : List Int) (y : Int) : y ∈ ofL l ↔ y ∈ l := by simp [ofL, mem_foldl_putL]
variable {κ : Ctx} {I : List Item}
theorem ValidP_nil (w : Int) : ValidP [] w := fun j hj => absurd hj (Nat.not_lt_zero j)
theorem ValidP_mono {xs : List Int} {w w' : Int} (h : ValidP xs w) (hw : w ≤ w') : ValidP xs w' := fun j hj => ⟨⟨(h j hj).1.1, by have := (h j hj).1.2; omega⟩, (h j hj).2⟩
theorem ValidP_push {xs : List Int} {w : Int} (h : ValidP xs w) (h0 : 0 ≤ w) : ValidP (xs ++ [w]) (w + 1) := fun j hj => by
 by_cases hl : j < xs.length
 ·obtain ⟨⟨h1, h2⟩, h3⟩ := h j hl
  rw [D3 xs [w] j hl]
  refine ⟨⟨h1, by omega⟩, fun hp => ?_⟩
  have e : ((j : Int) - 1) = ((j - 1 : Nat) : Int) := by omega
  rw [e, D3 xs [w] (j - 1) om, ← e]
  exact h3 hp
 ·obtain rfl : j = xs.length := by simp at hj; omega
  rw [at_last]
  refine ⟨⟨h0, by omega⟩, fun hp => ?_⟩
  have e : ((xs.length : Int) - 1) = ((xs.length - 1 : Nat) : Int) := by omega
  rw [e, D3 xs [w] (xs.length - 1) om]
  exact (h _ om).1.2
theorem ValidP_of {xs : List Int} {w n : Int} (h : ValidP xs w) (hl : xs.length ≤ w.toNat) (hw : w ≤ n ∨ w = 0) : ValidP xs n := by
 rcases hw with hw | hw
 ·exact ValidP_mono h hw
 ·subst hw
  have : xs = [] := List.eq_nil_of_length_eq_zero (by simpa using hl)
  subst this; exact ValidP_nil n
theorem Set_base {b : Nat} {lv : Value} {ls : List Int} {i : Int} (hl : ∀ q, Sl κ (deck b lv q :: I) lv ls) (h0 : 0 ≤ i) {nodes : Int} (hn : nodes ≤ 1000000000) :
    CallS Tryz.prog κ 28 [.pointer (some ⟨b, 0, none⟩), I64 (nodes)] (blk b [lv, I64 (i)] 125 :: I) (fun r J => ∃ y : Option Addr × Nat × List Int × Int, (r = .slice y.1 y.2.2.1.length y.2.1 ∧ ValidP y.2.2.1 nodes ∧ (y.2.2.1.length : Int) ≤ max nodes 0 ∧ 0 ≤ y.2.2.2) ∧ J = [vc 3 (.slice y.1 y.2.2.1.length y.2.1) y.2.2.1] ++ deck b lv y.2.2.2 :: I) := by
 refine Ce2 Tryz.func28 rfl rfl ?_
 refine Ah (Ga rfl (Af (Ah (Ga rfl (Af (As (Ah (Ga rfl (Af (A0 (Bu (σ := Int × Int × (Option Addr) × Nat × (List Int)) (fun s => ([(0, .pointer (some ⟨b, 0, none⟩)), (1, I64 (nodes)), (5, .slice s.2.2.1 s.2.2.2.2.length s.2.2.2.1), (6, I64 (s.1))] : Env)) (fun s => vc 3 (.slice s.2.2.1 s.2.2.2.2.length s.2.2.2.1) (s.2.2.2.2) :: blk b [lv, I64 (s.2.1)] 125 :: I) (fun s => (0 ≤ s.1 ∧ (s.1 ≤ nodes ∨ s.1 = 0)) ∧ (0 ≤ s.2.1) ∧ (ValidP s.2.2.2.2 s.1) ∧ (s.2.2.2.2.length ≤ s.1.toNat)) (fun s => (nodes - s.1).toNat) (0, i, none, 0, []) (show (0 ≤ (0 : Int) ∧ ((0 : Int) ≤ nodes ∨ (0 : Int) = 0)) ∧ (0 ≤ (i : Int)) ∧ (ValidP ([] : List Int) (0 : Int)) ∧ (([] : List Int).length ≤ (0 : Int).toNat) from ⟨⟨by omega, .inr rfl⟩, om, (ValidP_nil _), (Nat.le_refl _)⟩) (Aa rfl (Aa rfl (Aa (Cv rfl (by first | rfl | simp)) (Aa Cf Bg)))) (show Fit κ _ (vc 3 (.slice (none) ([]).length (0)) (([])) :: blk b [lv, I64 ((i))] 125 :: I) from (Bt _ _)) ?_)))))))))))
 rintro ⟨w, q, a, c, out⟩ hp
 dsimp only at hp ⊢
 obtain ⟨hw, hq, hv, hol⟩ := hp
 refine As (Ah (Gm rfl (Gm rfl (Gr (Ba rfl rfl) (Af (A7 rfl (fun c9 => ?_) (fun c9 => ?_)))))))
 ·refine A2 (Ak (As (A0 (Ah (Gm rfl (G.e (Al call19 rfl rfl (Next_ok (by repeat (first | exact AtF.head _ _ | apply AtF.tail)) (Bx (hl _) A1) om om)) ?_))))))
  rintro _ _ ⟨_, _, ⟨x1, i2, rfl, hx1, hi2, rfl⟩, rfl, rfl⟩
  show G Tryz.prog κ _ _ _ _ ([(13, I64 (x1)), (12, .pointer (some ⟨b, 0, none⟩)), (9, .bool (decide (w < nodes))), (8, I64 (nodes)), (7, I64 (w)), (0, .pointer (some ⟨b, 0, none⟩)), (1, I64 (nodes)), (5, .slice a out.length c), (6, I64 (w))] : Env) (vc 3 (.slice a out.length c) (out) :: blk b [lv, I64 (i2)] 125 :: I)
  refine Gr (Bi rfl rfl) (Af (A7 rfl (fun c14 => ?_) (fun c14 => ?_)))
  ·refine Av (Gm rfl (Gm rfl (Ge1 (B3 (α := Int) (cs := [_]) (xs := [w]) Ac ty3 rfl rfl dc dc rfl rfl rfl rfl) fun ad3 => ?_)))
   refine Ge2 (Ci (α := Int) (e := 3) (xs := out) (ys := ([w] : List Int)) Ac ty3 rfl rfl rfl mm Be lcn dc rfl (fun _ _ => am)) fun ad4 cp5 => ?_
   exact Ga rfl (Bf (Ai (Ak (Aq (S4 5 0 1 6 rfl rfl rfl rfl) (Av (Gm rfl (Gr (Rad rfl rfl) (Ga rfl (Bf (B1 ((w + 1), (i2), (ad4), (cp5), (out ++ ([w] : List Int))) (by dsimp only; exact ⟨om, om, (by first | exact ValidP_push hv hw.1 | exact ValidP_mono hv om), olp⟩)))))))))))
  ·exact A2 (Ai (Ak (Av (Gm rfl (Gr (Rad rfl rfl) (Ga rfl (Bf (B1 ((w + 1), (i2), (a), (c), (out)) (by dsimp only; exact ⟨om, om, (by first | exact ValidP_push hv hw.1 | exact ValidP_mono hv om), olp⟩)))))))))
 ·exact Br (Am (Am (A6 (Ak (Ah (Gm rfl (Ga rfl (Af (Ay (A3 rfl rfl (_) A1 ⟨(a, c, out, q), ⟨rfl, ValidP_of hv hol hw.2, by show (out.length : Int) ≤ max nodes 0; omega, hq⟩, rfl⟩))))))))))
theorem Set_at {F : Item → List Item} {b : Nat} {lv : Value} {ls : List Int} {i : Int} (hat : AtF I (deck b lv i) F) (hl : ∀ q, Sl κ (F (deck b lv q)) lv ls) (h0 : 0 ≤ i) {nodes : Int} (hn : nodes ≤ 1000000000) :
  CallS Tryz.prog κ 28 [.pointer (some ⟨b, 0, none⟩), I64 nodes] I fun r J => ∃ a c out i', r = .slice a out.length c ∧ ValidP out nodes ∧ (out.length : Int) ≤ max nodes 0 ∧ 0 ≤ i' ∧ J = vc 3 (.slice a out.length c) out :: F (deck b lv i') :=
 (D1 (Post := fun r (y : Option Addr × Nat × List Int × Int) => r = .slice y.1 y.2.2.1.length y.2.1 ∧ ValidP y.2.2.1 nodes ∧ (y.2.2.1.length : Int) ≤ max nodes 0 ∧ 0 ≤ y.2.2.2) (Z := fun y : Option Addr × Nat × List Int × Int => [vc 3 (.slice y.1 y.2.2.1.length y.2.1) y.2.2.1]) (X := fun y : Option Addr × Nat × List Int × Int => deck b lv y.2.2.2) hat fun J _ hF => Set_base (fun q => (hl q).fit (hF _)) h0 hn).mono fun _ _ ⟨y, ⟨h1, h2, h3, h4⟩, h5⟩ => ⟨y.1, y.2.1, y.2.2.1, y.2.2.2, h1, h2, h3, h4, h5⟩
structure Arc where
 frm : Int
 dst : Int
 cap : Int
deriving Inhabited
instance : Enc Arc := ⟨fun a => [I64 a.frm, I64 a.dst, I64 a.cap], 3, by omega, fun _ => rfl, fun a u h => by
 simp only [List.mem_cons, List.not_mem_nil, or_false] at h
 rcases h with rfl | rfl | rfl <;> rfl⟩
structure Net where
 nodes : Int
 source : Int
 sink : Int
 arcs : List Arc
structure Net.Ok (n : Net) : Prop where
 lim : n.nodes ≤ 4200 ∧ n.arcs.length ≤ 16384
 two : 2 ≤ n.nodes
 src : 0 ≤ n.source ∧ n.source < n.nodes
 snk : 0 ≤ n.sink ∧ n.sink < n.nodes
 ne : n.source ≠ n.sink
 arc : ∀ a ∈ n.arcs, (0 ≤ a.frm ∧ a.frm < n.nodes) ∧ (0 ≤ a.dst ∧ a.dst < n.nodes) ∧ a.frm ≠ a.dst ∧ 0 ≤ a.cap ∧ a.cap ≤ 1099511627776
end Go.Sl
namespace Go.Sl
open Go.Proofs Go.Shelf Go.RowKit Go.Lib Go.Sort
section
variable {α : Type} [Enc α] [Inhabited α]
theorem flat_cells (d : Array α) : flatK Enc.enc (Enc.sz α) d = (cells d.toList).toArray := by
 apply Array.ext
 ·simp [cells_length]
 ·intro t h1 h2
  have h1' : t < d.size * Enc.sz α := by simpa using h1
  have hpos : 0 < Enc.sz α := Enc.pos
  have hi : t / Enc.sz α < d.size := Nat.div_lt_of_lt_mul (by rw [Nat.mul_comm]; exact h1')
  have hj : t % Enc.sz α < Enc.sz α := Nat.mod_lt _ hpos
  have e1 : t = t / Enc.sz α * Enc.sz α + t % Enc.sz α := by rw [Nat.mul_comm]; exact (Nat.div_add_mod t (Enc.sz α)).symm
  have e2 := cells_get d.toList (t / Enc.sz α) (t % Enc.sz α) (by simpa using hi) hj
  rw [← e1] at e2
  have e3 : (cells d.toList)[t]? = some ((cells d.toList)[t]'(by simpa using h2)) := List.getElem?_eq_getElem _
  rw [e3] at e2
  have hlen : t % Enc.sz α < (Enc.enc (d.toList[t / Enc.sz α]'(by simpa using hi))).length := by rw [Enc.len]; exact hj
  rw [List.getElem?_eq_getElem hlen] at e2
  have e4 := Option.some.inj e2
  simp only [List.getElem_toArray]
  rw [e4]
  simp [flatK, getElem!_pos, hi, Enc.len, hj]
theorem sort_base {P : Program} {ρ : Ren} {κ : Ctx} {I : List Item} (L : SlLaysF0.n6 P ρ) (aE : ∀ w, (isAgg (ρ.t 24)).run P w = .ok true w) (zE : ∀ w, (Go.sizeOf (ρ.t 24)).run P w = .ok (Enc.sz α) w) (cf : α → α → Int) (hO : SWO (ltOf cf)) (g : Nat) (cb : Array Value)
  (eg : ∀ args w, (callFunc g args).run P w = .ok (.enter g args) w) (hcmp : ∀ (x y : α) (W : World), Calls P g (#[.agg (Enc.enc x).toArray, .agg (Enc.enc y).toArray] ++ cb) W fun e w' => e = .returned (.int .i64 (cf x y)) ∧ ∃ q os', w' = grow (W.drewN q) os')
  {e : TypeId} {ad : Option Addr} {c : Nat} {xs : List α} (hc : 0 < c) (hsz : xs.length < 4611686018427387904) :
  CallS P κ (ρ.f 6) [.slice ad xs.length c, .func (.func g) #[] cb] (vc e (.slice ad xs.length c) xs :: I) fun r J => ∃ ys : List α, (r = .tuple #[] ∧ ys.Perm xs ∧ ys.Pairwise fun a b => ltOf cf b a = false) ∧ J = [] ++ vc e (.slice ad ys.length c) ys :: I := by
 intro w hs
 obtain ⟨hok, _⟩ := hs.ok _ List.mem_cons_self
 obtain ⟨a', cap', hv, hl, hnc, hcm, hcap⟩ := hok
 cases hv
 obtain ⟨b, off, cur, rfl, hb, hsize, hcur⟩ := hcap hc
 have hbw : b < w.heap.size := (Array.getElem?_eq_some_iff.1 hb).1
 have hcl := cells_length xs
 have hle : xs.length * Enc.sz α ≤ c * Enc.sz α := Nat.mul_le_mul_right _ hnc
 have hH : HoldsK Enc.enc (Enc.sz α) w b off xs.toArray := fun j hj => by
  rw [flat_cells] at hj ⊢
  have hj' : j < (cells xs).length := by simpa using hj
  have h1 := hcur j ((cells xs)[j]) (List.getElem?_eq_getElem hj')
  refine ⟨?_, by simp [World.frozen?, hb]⟩
  rw [cell_of_row w b (off + j) cur e (0, 0) hb, h1]
  simp [getElem!_pos, hj']
 have h := AnyQ.slices_SortFunc L (Enc.sz α) aE zE Enc.enc Enc.len Enc.one cf hO g cb b off c xs.toArray w eg (fun m os dk _ x y => hcmp x y _) hH hbw (by simpa using hsz)
 refine Calls.mono h ?_
 rintro e' w' ⟨rfl, d', n, os, ⟨hs1, _, hperm⟩, hsort, rfl⟩
 have hs1' : d'.size = xs.length := by simpa using hs1
 have hperm' : d'.toList.Perm xs := by
  have e1 : d'.extract 0 xs.toArray.size = d' := by rw [← hs1]; simp
  have e2 : xs.toArray.extract 0 xs.toArray.size = xs.toArray := by simp
  rw [e1, e2] at hperm
  exact hperm
 have hlen : d'.toList.length = xs.length := by simpa using hs1'
 refine ⟨_, _, rfl, ⟨d'.toList, ⟨rfl, hperm', ?_⟩, rfl⟩, ?_⟩
 ·rw [List.pairwise_iff_getElem]
  intro i j hi hj hij
  have := hsort i j (Nat.zero_le _) hij (by simpa [hs1'] using hj)
  simp only [Array.length_toList] at hi hj
  rw [getElem!_pos d' i hi, getElem!_pos d' j hj] at this
  simpa using this
 ·show Sep κ _ (vc e (.slice (some ⟨b, off, none⟩) d'.toList.length c) d'.toList :: I)
  refine hs.upd (At.head _ _ _) rfl ⟨rfl, by simp [sortWorldK, putRowK, Sort.grow]⟩ rfl (by simp [sortWorldK, putRowK]) (fun k hk hne => ?_) ?_ fun k hk => .inl ?_
  ·have hkb : k ≠ b := fun ekb => hne (by subst ekb; exact ⟨off, xs.length, c, rfl, hc⟩)
   simp only [sortWorldK, Sort.grow, putRowK, putRow, mapBlock]
   rw [Array.getElem?_append_left (by simpa using hk), Array.getElem?_modify, if_neg (fun e => hkb e.symm)]
   rfl
  ·refine ⟨_, c, rfl, cells_length _, by rw [hlen]; exact hnc, hcm, fun _ => ⟨b, off, putCells id off (flatK Enc.enc (Enc.sz α) d') cur, rfl, ?_, ?_, fun j u hj => ?_⟩⟩
   ·simp only [sortWorldK, Sort.grow, putRowK, putRow, mapBlock]
    rw [Array.getElem?_append_left (by simpa using hbw), Array.getElem?_modify, if_pos rfl]
    show (w.heap[b]?).map _ = _
    rw [hb]; rfl
   ·simpa [putCells] using hsize
   ·have hj' : j < (cells d'.toList).length := (List.getElem?_eq_some_iff.1 hj).1
    have hj2 : j < xs.length * Enc.sz α := by rw [cells_length, hlen] at hj'; exact hj'
    have hoff : off + j < cur.size := by omega
    rw [flat_cells]
    simp only [putCells, Array.getElem?_mapIdx, Array.getElem?_eq_getElem hoff, Option.map_some]
    rw [if_pos ⟨by omega, by simpa using hj'⟩, Nat.add_sub_cancel_left]
    rw [List.getElem?_eq_getElem hj'] at hj
    simpa [getElem!_pos, hj'] using hj
  ·obtain ⟨o', n', c', hv', hc'⟩ := hk
   cases hv'
   exact ⟨off, xs.length, c, rfl, hc⟩
theorem sort_any {P : Program} {ρ : Ren} {κ : Ctx} {I : List Item} (L : SlLaysF0.n6 P ρ) (aE : ∀ w, (isAgg (ρ.t 24)).run P w = .ok true w) (zE : ∀ w, (Go.sizeOf (ρ.t 24)).run P w = .ok (Enc.sz α) w) (cf : α → α → Int) (hO : SWO (ltOf cf)) (g : Nat) (cb : Array Value)
  (eg : ∀ args w, (callFunc g args).run P w = .ok (.enter g args) w) (hcmp : ∀ (x y : α) (W : World), Calls P g (#[.agg (Enc.enc x).toArray, .agg (Enc.enc y).toArray] ++ cb) W fun e w' => e = .returned (.int .i64 (cf x y)) ∧ ∃ q os', w' = grow (W.drewN q) os')
  {e : TypeId} {ad : Option Addr} {c : Nat} {xs : List α} (hsz : xs.length < 4611686018427387904) :
  CallS P κ (ρ.f 6) [.slice ad xs.length c, .func (.func g) #[] cb] (vc e (.slice ad xs.length c) xs :: I) fun r J => ∃ ys : List α, (r = .tuple #[] ∧ ys.Perm xs ∧ ys.Pairwise fun a b => ltOf cf b a = false) ∧ J = [] ++ vc e (.slice ad ys.length c) ys :: I := by
 by_cases hc : 0 < c
 ·exact sort_base L aE zE cf hO g cb eg hcmp hc hsz
 ·intro w hs
  obtain ⟨hok, _⟩ := hs.ok _ List.mem_cons_self
  obtain ⟨a', cap', hv, hl, hnc, hcm, hcap⟩ := hok
  cases hv
  obtain rfl : xs = [] := List.eq_nil_of_length_eq_zero (by omega)
  refine Calls.mono (AnyF.slices_SortFunc_none L ad c _ w) ?_
  rintro e' w' ⟨rfl, rfl⟩
  exact ⟨_, _, rfl, ⟨[], ⟨rfl, List.Perm.nil, List.Pairwise.nil⟩, rfl⟩, hs⟩
end
theorem lays_of {P : Program} {f : FuncId} {args : List Value} {v : Value} {W : World} (h : CallS P ⟨W.os, W.tape, W.output, W.drawn⟩ f args [old W.heap.size W] fun r J => r = v ∧ [old W.heap.size W] = J) :
  Calls P f args.toArray W fun e w' => e = .returned v ∧ ∃ q os', w' = Sort.grow (W.drewN q) os' := (h W (Sep.begin W)).mono fun e w' ⟨r, J, he, ⟨hv, hJ⟩, hs⟩ => by
 subst hv hJ
 refine ⟨he, w'.drawn - W.drawn, w'.heap.extract W.heap.size w'.heap.size, ?_⟩
 have hb := hs.below List.mem_cons_self
 have hok : ∀ k, k < W.heap.size → w'.heap[k]? = W.heap[k]? := (hs.ok _ List.mem_cons_self).1
 have hd := hs.tape.2
 have hheap : w'.heap = W.heap ++ w'.heap.extract W.heap.size w'.heap.size := by
  apply Array.ext_getElem?
  intro k
  by_cases hk : k < W.heap.size
  ·rw [Array.getElem?_append_left hk]; exact hok k hk
  ·rw [Array.getElem?_append_right (by omega), Array.getElem?_extract]
   have hsz := hb.size
   by_cases hk2 : k < w'.heap.size
   ·rw [if_pos (by omega)]; congr 1; omega
   ·rw [Array.getElem?_eq_none (by omega)]
    split
    ·omega
    ·rfl
 have e : W.drawn + (w'.drawn - W.drawn) = w'.drawn := by have : W.drawn ≤ w'.drawn := hd; omega
 have hos : w'.os = W.os := hs.os
 have htp : w'.tape = W.tape := hs.tape.1
 have hou : w'.output = W.output := hs.output
 obtain ⟨heap', tape', drawn', os', out'⟩ := w'
 simp only [Sort.grow, World.drewN] at *
 subst hos htp hou
 rw [e, ← hheap]
end Go.Sl
namespace Go.Proofs
def Tryz.sort321_ren : Go.Shelf.Ren := ⟨fun | 6 => 321 | 15 => 218 | 14 => 337 | 28 => 269 | 29 => 270 | 20 => 343 | 21 => 344 | 22 => 345 | 23 => 346 | 24 => 347 | 25 => 348 | 26 => 349 | 27 => 350 | 46 => 352 | 47 => 305 | 48 => 306 | 49 => 353 | 50 => 354 | 57 => 355 | n => n, fun | 22 => 109 | 24 => 146 | 25 => 279 | 3 => 3 | 39 => 181 | 0 => 0 | 53 => 291 | 55 => 175 | 4 => 4 | 46 => 285 | 45 => 284 | 50 => 273 | 5 => 5 | 9 => 9 | 66 => 320 | 70 => 324 | 76 => 346 | 77 => 259 | n => n, fun | n => n⟩
theorem Tryz.sort321 : Go.Proofs.SlLaysF0.n6 Tryz.prog Tryz.sort321_ren := {
 mixed := by kernel_rfl,
 f6 := ⟨Tryz.f321.name, by decide, Tryz.func321.trans (congrArg some (by kernel_rfl))⟩,
 f14 := ⟨Tryz.f337.name, by decide, Tryz.func337.trans (congrArg some (by kernel_rfl))⟩,
 f15 := Tryz.func218.trans (congrArg some (by kernel_rfl)),
 f20 := ⟨Tryz.f343.name, by decide, Tryz.func343.trans (congrArg some (by kernel_rfl))⟩,
 f21 := ⟨Tryz.f344.name, by decide, Tryz.func344.trans (congrArg some (by kernel_rfl))⟩,
 f22 := ⟨Tryz.f345.name, by decide, Tryz.func345.trans (congrArg some (by kernel_rfl))⟩,
 f23 := ⟨Tryz.f346.name, by decide, Tryz.func346.trans (congrArg some (by kernel_rfl))⟩,
 f24 := ⟨Tryz.f347.name, by decide, Tryz.func347.trans (congrArg some (by kernel_rfl))⟩,
 f25 := ⟨Tryz.f348.name, by decide, Tryz.func348.trans (congrArg some (by kernel_rfl))⟩,
 f26 := ⟨Tryz.f349.name, by decide, Tryz.func349.trans (congrArg some (by kernel_rfl))⟩,
 f27 := ⟨Tryz.f350.name, by decide, Tryz.func350.trans (congrArg some (by kernel_rfl))⟩,
 f28 := Tryz.func269.trans (congrArg some (by kernel_rfl)),
 f29 := Tryz.func270.trans (congrArg some (by kernel_rfl)),
 f46 := ⟨Tryz.f352.name, by decide, Tryz.func352.trans (congrArg some (by kernel_rfl))⟩,
 f47 := Tryz.func305.trans (congrArg some (by kernel_rfl)),
 f48 := Tryz.func306.trans (congrArg some (by kernel_rfl)),
 f49 := ⟨Tryz.f353.name, by decide, Tryz.func353.trans (congrArg some (by kernel_rfl))⟩,
 f50 := ⟨Tryz.f354.name, by decide, Tryz.func354.trans (congrArg some (by kernel_rfl))⟩,
 f57 := ⟨Tryz.f355.name, by decide, Tryz.func355.trans (congrArg some (by kernel_rfl))⟩,
 t0 := Tryz.underlying0,
 a0 := Tryz.isAgg0,
 z0 := Tryz.sizeOf0,
 v0 := Tryz.zeroValue0,
 t3 := Tryz.underlying3,
 a3 := Tryz.isAgg3,
 z3 := Tryz.sizeOf3,
 v3 := Tryz.zeroValue3,
 t4 := Tryz.underlying4,
 a4 := Tryz.isAgg4,
 z4 := Tryz.sizeOf4,
 v4 := Tryz.zeroValue4,
 t5 := Tryz.underlying5,
 a5 := Tryz.isAgg5,
 z5 := Tryz.sizeOf5,
 v5 := Tryz.zeroValue5,
 t9 := Tryz.underlying9,
 a9 := Tryz.isAgg9,
 z9 := Tryz.sizeOf9,
 v9 := Tryz.zeroValue9,
 t22 := Tryz.underlying109,
 a22 := Tryz.isAgg109,
 z22 := Tryz.sizeOf109,
 v22 := Tryz.zeroValue109,
 t25 := Tryz.underlying279,
 a25 := Tryz.isAgg279,
 z25 := Tryz.sizeOf279,
 v25 := Tryz.zeroValue279,
 t39 := Tryz.underlying181,
 a39 := Tryz.isAgg181,
 z39 := Tryz.sizeOf181,
 v39 := Tryz.zeroValue181,
 t45 := Tryz.underlying284,
 a45 := Tryz.isAgg284,
 z45 := Tryz.sizeOf284,
 v45 := Tryz.zeroValue284,
 t46 := Tryz.underlying285,
 a46 := Tryz.isAgg285,
 z46 := Tryz.sizeOf285,
 v46 := Tryz.zeroValue285,
 t50 := Tryz.underlying273,
 a50 := Tryz.isAgg273,
 z50 := Tryz.sizeOf273,
 v50 := Tryz.zeroValue273,
 t53 := Tryz.underlying291,
 a53 := Tryz.isAgg291,
 z53 := Tryz.sizeOf291,
 v53 := Tryz.zeroValue291,
 t55 := Tryz.underlying175,
 a55 := Tryz.isAgg175,
 z55 := Tryz.sizeOf175,
 v55 := Tryz.zeroValue175,
 t66 := Tryz.underlying320,
 a66 := Tryz.isAgg320,
 z66 := Tryz.sizeOf320,
 v66 := Tryz.zeroValue320,
 t70 := Tryz.underlying324,
 a70 := Tryz.isAgg324,
 z70 := Tryz.sizeOf324,
 v70 := Tryz.zeroValue324,
 t76 := Tryz.underlying346,
 a76 := Tryz.isAgg346,
 z76 := Tryz.sizeOf346,
 v76 := Tryz.zeroValue346,
 t77 := Tryz.underlying259,
 a77 := Tryz.isAgg259,
 z77 := Tryz.sizeOf259,
 v77 := Tryz.zeroValue259 }
end Go.Proofs
namespace Go.Sl
open Go.Proofs
set_option maxRecDepth 4000
theorem Order_ok {κ : Ctx} {I : List Item} (a c : Pt) :
    CallS Tryz.prog κ 154 [.agg #[I64 (a.u), I64 (a.v)], .agg #[I64 (c.u), I64 (c.v)]] I (fun r J => r = I64 (Pt.cmp a c) ∧ I = J) := by
 refine Ce2 Tryz.func154 rfl rfl ?_
 refine Ah (Ge1 (Bd (cs := [_, _]) rfl rfl rfl) fun b1 => Ge1 (Bd (cs := [_, _]) rfl rfl rfl) fun b2 => Ga rfl (Af (As (Bj mixed (Bm (blk b2 [I64 (c.u), I64 (c.v)] 135 :: blk b1 [I64 (a.u), I64 (a.v)] 135 :: I) 12 (Dr 0 rfl (Ab fld135_0 rfl) (Dr 1 rfl (Au ty3) ?_)))))))
 refine Dr 2 rfl (Ab fld135_0 rfl) (Dr 3 rfl (Au ty3) ?_)
 refine Dr 5 rfl (Ab fld135_1 rfl) (Dr 6 rfl (Au ty3) ?_)
 refine Dr 7 rfl (Ab fld135_1 rfl) (Dr 8 rfl (Au ty3) ?_)
 refine Ds1 4 (Sc0 rfl (Al call225 rfl rfl (Compare_ok a.u c.u)) ?_)
 refine Ds1 9 (Sc0 rfl (Al call225 rfl rfl (Compare_ok a.v c.v)) ?_)
 refine Ds1 10 (Se1 rfl (B3 (α := Int) (cs := [_, _]) (xs := [cmpI a.u c.u, cmpI a.v c.v]) Ac ty3 rfl rfl dc dc rfl rfl rfl rfl) fun ad3 => ?_)
 refine Ds1 11 (Sc0 rfl (Al call224 rfl rfl (Or_ok Be)) ?_)
 refine C6 kr ?_
 refine A.read (i := 12) kr rfl (Cm rfl) rfl rfl (A9 rfl) ?_
 refine C7 kr ?_
 exact Ak (Aq (S1 4 rfl) (Ay (A3 rfl rfl (I) A1 ⟨by rw [← orL_cmp], rfl⟩)))
theorem ext_at {α : Type} [Inhabited α] {xs ys : List α} (hl : xs.length = ys.length) (h : ∀ j, j < xs.length → at_ xs (j : Int) = at_ ys (j : Int)) : xs = ys := by
 refine List.ext_getElem hl fun j h1 h2 => ?_
 have := h j h1
 rwa [Ds xs j h1, Ds ys j h2] at this
theorem Few_ok {κ : Ctx} {I : List Item} {la : Option Addr} {ln lc : Nat} :
    CallS Tryz.prog κ 16 [.slice la ln lc] I (fun r J => r = .bool (decide ((ln : Int) ≤ 500)) ∧ I = J) := by
 refine Ce1 Tryz.func16 rfl rfl ?_
 exact Ah (Ga rfl (Af (Ah (Gm rfl (Gr (Bl Ac rfl) (Gr (Dy rfl rfl) (Ga rfl (Af (Ay (A3 rfl rfl (I) A1 ⟨rfl, rfl⟩))))))))))
end Go.Sl
