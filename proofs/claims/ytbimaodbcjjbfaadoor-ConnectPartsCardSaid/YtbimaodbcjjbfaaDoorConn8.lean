/- A part of the proofs of statements of this seat: contracts of functions, and the plain laws that they lean on. No conditions. -/
import Derived.Test.YtbimaodbcjjbfaaDoorConn9
import Derived.Test.YtbimaodbcjjbfaaDoorDfs9
namespace Go.Sl
open Go.Proofs
set_option linter.unusedVariables false
set_option linter.unusedSimpArgs false
set_option maxRecDepth 4000
theorem BlkCmp_ok {κ : Ctx} {I : List Item} {x y : RowG Pt} (hx : RowG.Held κ I x) (hy : RowG.Held κ I y) (hxn : 0 < x.xs.length) (hyn : 0 < y.xs.length) :
    CallS Tryd.prog κ 122 [.slice x.a x.xs.length x.c, .slice y.a y.xs.length y.c] I (fun r J => r = I64 (Pt.cmp (hd0 x.xs) (hd0 y.xs)) ∧ I = J) := by
 refine CallS.enter (L := [(0, .slice x.a x.xs.length x.c), (1, .slice y.a y.xs.length y.c)]) Tryd.func122 rfl rfl rfl rfl ?_
 refine W.sr ?_
 refine G.r (Runs.assign rfl) ?_
 refine G.nt ?_
 refine W.seq ?_
 refine W.drawn mixed ?_
 refine A.hold (I) 8 ?_
 refine D.r 0 rfl (Runs.move rfl) ?_ (hJ := Fit.sub)
 refine D.r 1 rfl (Runs.idx (α := Pt) (xs := x.xs) Tryd.underlying23 ty38 rfl rfl (Sl.f hx) (by omega) (by omega)) ?_ (hJ := Fit.sub)
 refine D.r 2 rfl (Runs.gets (α := Pt) (xs := x.xs) ty38 rfl (Sl.f hx) (by omega) (by omega)) ?_ (hJ := Fit.sub)
 refine D.r 3 rfl (Runs.move rfl) ?_ (hJ := Fit.sub)
 refine D.r 4 rfl (Runs.idx (α := Pt) (xs := y.xs) Tryd.underlying23 ty38 rfl rfl (Sl.f hy) (by omega) (by omega)) ?_ (hJ := Fit.sub)
 refine D.r 5 rfl (Runs.gets (α := Pt) (xs := y.xs) ty38 rfl (Sl.f hy) (by omega) (by omega)) ?_ (hJ := Fit.sub)
 refine D.step (rs := [6]) (by kernel_rfl) rfl rfl (all1 ?_)
 refine Step.eff rfl (Wanted.plain rfl) (Eff.call call119 rfl rfl (Order_ok (at_ x.xs 0) (at_ y.xs 0))) ?_
 rintro _ _ ⟨_, _, ⟨rfl, rfl⟩, rfl, rfl⟩
 refine ⟨Fit.sub, ?_⟩
 refine D.r 7 rfl (Runs.assign rfl) ?_ (hJ := Fit.sub)
 refine D.done (by kernel_rfl) ?_
 refine V.then ?_
 refine W.ret ?_
 exact V.ret1 rfl rfl (I) Fit.m ⟨rfl, rfl⟩

open Go.Shelf Go.Sort in
theorem swo_hd : SWO (ltOf fun a b : List Pt => Pt.cmp (hd0 a) (hd0 b)) where
  irrefl x := swo_pt.irrefl (hd0 x)
  trans x y z := swo_pt.trans (hd0 x) (hd0 y) (hd0 z)
  ntrans x y z := swo_pt.ntrans (hd0 x) (hd0 y) (hd0 z)
open Go.Shelf Go.Sort in
theorem SortB_ok {κ : Ctx} {I : List Item} {ad : Option Addr} {c : Nat} {rs : List (RowG Pt)} (hh : HeldAll κ I rs) (hne : ∀ r ∈ rs, r.xs ≠ []) (hsz : rs.length < 1000000000) :
    CallS Tryd.prog κ 121 [.slice ad rs.length c, .func (.func 122) #[] #[]] (vc 23 (.slice ad rs.length c) rs :: I) fun r J => ∃ ys : List (RowG Pt), (r = .tuple #[] ∧ ys.Perm rs ∧ ys.Pairwise fun a b => ¬ Pt.lt (hd0 b.xs) (hd0 a.xs)) ∧ J = [] ++ vc 23 (.slice ad ys.length c) ys :: I :=
  (sort_rows (ρ := Tryd.sort121_ren) Tryd.sort121 Tryd.isAgg23 Tryd.sizeOf23 (fun a b => Pt.cmp (hd0 a) (hd0 b)) swo_hd 122 (enters_of Tryd.func122 (by kernel_rfl) rfl) hh (fun κ' J x hx y hy h1 h2 => BlkCmp_ok h1 h2 (List.length_pos_iff.2 (hne x hx)) (List.length_pos_iff.2 (hne y hy))) (by omega)).mono fun r J ⟨ys, ⟨h1, h2, h3⟩, h4⟩ =>
    ⟨ys, ⟨h1, h2, h3.imp fun {a b} h => by rw [← Pt.cmp_lt]; exact of_decide_eq_false h⟩, h4⟩
theorem scan_yes {rows : List (BitVec 64)} {k : Nat} (h : at_ (scanS rows k).num (k : Int) = 0) : scanS rows (k + 1) = runF rows 5000 ((scanS rows k).enter rows (k : Int) (-1)) := by
  conv => lhs; unfold scanS
  rw [if_pos h]
theorem scan_no {rows : List (BitVec 64)} {k : Nat} (h : ¬ at_ (scanS rows k).num (k : Int) = 0) : scanS rows (k + 1) = scanS rows k := by
  conv => lhs; unfold scanS
  rw [if_neg h]
theorem adj_edge {nd : Int} {es : List Pt} (hG : GrOk nd es) {a b : Int} : adjR (rowsB nd es) a b ↔ 0 ≤ a ∧ 0 ≤ b ∧ ((⟨a, b⟩ : Pt) ∈ es ∨ (⟨b, a⟩ : Pt) ∈ es) := by
  have hr := hG.rng
  have hl := hG.rows.len
  unfold adjR
  rw [mem_listB]
  constructor
  · rintro ⟨h0, h1, h2, h3⟩
    have h64 : b.toNat < 64 := Classical.byContradiction fun hn => by rw [BitVec.getLsbD_of_ge _ _ (by omega)] at h3; cases h3
    rw [hG.rows.bit a b h0 (by omega) h2 (by omega), decide_eq_true_eq] at h3
    exact ⟨h0, h2, h3⟩
  · rintro ⟨h0, h2, h3⟩
    have hab : a < nd ∧ b < nd := by
      rcases h3 with h4 | h4
      · have := hG.edge _ h4; simp only at this; omega
      · have := hG.edge _ h4; simp only at this; omega
    exact ⟨h0, by omega, h2, by rw [hG.rows.bit a b h0 (by omega) h2 (by omega), decide_eq_true_eq]; exact h3⟩
theorem rowsG_of {nd : Int} {es : List Pt} (hG : GrOk nd es) : RowsG (rowsB nd es) := by
  have hr := hG.rng
  have hl := hG.rows.len
  refine ⟨by omega, fun v k h0 h1 hb => ?_, ⟨fun a b h => ?_, fun a h => ?_⟩⟩
  · have h2 : adjR (rowsB nd es) v (k : Int) := ⟨h0, h1, mem_listB.2 ⟨by omega, by rw [Int.toNat_natCast]; exact hb⟩⟩
    obtain ⟨_, _, h4⟩ := (adj_edge hG).1 h2
    rcases h4 with h4 | h4
    · have := hG.edge _ h4; simp only at this; omega
    · have := hG.edge _ h4; simp only at this; omega
  · rw [adj_edge hG] at h ⊢; exact ⟨h.2.1, h.1, h.2.2.symm⟩
  · rw [adj_edge hG] at h
    rcases h.2.2 with h4 | h4
    · have := hG.edge _ h4; simp only at this; omega
    · have := hG.edge _ h4; simp only at this; omega
theorem adj_mem {nd : Int} {es : List Pt} (hG : GrOk nd es) {e : Pt} : (∃ a b, e = edgeP a b ∧ adjR (rowsB nd es) a b) ↔ e ∈ es := by
  constructor
  · rintro ⟨a, b, rfl, h⟩
    obtain ⟨h0, h1, h2⟩ := (adj_edge hG).1 h
    rcases h2 with h2 | h2
    · have := hG.edge _ h2; simp only at this
      rw [show edgeP a b = ⟨a, b⟩ by unfold edgeP; rw [if_neg (by omega), if_pos (by omega)]]; exact h2
    · have := hG.edge _ h2; simp only at this
      rw [show edgeP a b = ⟨b, a⟩ by unfold edgeP; rw [if_pos (by omega), if_neg (by omega)]]; exact h2
  · intro h
    have := hG.edge e h
    refine ⟨e.u, e.v, ?_, (adj_edge hG).2 ⟨by omega, by omega, .inl h⟩⟩
    unfold edgeP; rw [if_neg (by omega), if_pos (by omega)]
/-- The blocks of a graph. -/
def blkG (nd : Int) (es : List Pt) : List (List Pt) := blkR (rowsB nd es)

theorem scan_bd0 {nd : Int} {es : List Pt} (hG : GrOk nd es) : (scanS (rowsB nd es) 0).edges.length + mea (scanS (rowsB nd es) 0) ≤ 4300 ∧ ([] : List (RowG Pt)).length + mea (scanS (rowsB nd es) 0) ≤ 4300 := by
  have h : mea (scanS (rowsB nd es) 0) = 66 * (rowsB nd es).length := by
    unfold mea
    show 66 * unv (List.replicate (rowsB nd es).length 0) + bitsN [] = _
    rw [unv_rep]; simp [bitsN]
  have := (rowsG_of hG).n64
  rw [h]
  exact ⟨by show 0 + _ ≤ _; omega, by simp; omega⟩

set_option maxHeartbeats 1000000 in
theorem blocks_ok {κ : Ctx} {I : List Item} {nd : Int} {va : Value} {es : List Pt} (hl : Sl κ I va es) (hG : GrOk nd es) (hT : TabRd κ I 0 tzCells) :
    CallS Tryd.prog κ 67 [.agg #[I64 (nd), va]] I (fun r J => ∃ a c rs, r = .slice a rs.length c ∧ rs.map RowG.xs = blkG nd es ∧ rs.length ≤ 4300 ∧ J = vc 23 (.slice a rs.length c) rs :: (ownR 38 rs ++ I)) := by
 refine CallS.enter (L := [(0, .agg #[I64 (nd), va])]) Tryd.func67 rfl rfl rfl rfl ?_
 refine W.sr ?_
 refine G.e (Eff.box (cs := [_, _]) rfl rfl rfl) ?_
 rintro _ _ ⟨b1, rfl, rfl⟩
 refine G.r (Runs.assign rfl) ?_
 refine G.nt ?_
 refine W.sr ?_
 refine G.r (Runs.lds (vs := [_, _]) ty25) ?_
 refine G.e (Eff.call call75 rfl rfl (MRows_ok (nd := nd) (Sl.f hl))) ?_
 rintro _ _ ⟨_, _, ⟨ad2, cp3, rfl, rfl⟩, rfl, rfl⟩
 have hrwad2 := rowsB_len nd es
 refine G.r (Runs.assign rfl) ?_
 refine G.nt ?_
 refine W.cut (σ := Nat × (Option Addr) × Nat × (Option Addr) × Nat) (fun s => ([(3, .slice ad2 (rowsB nd es).length cp3), (4, .pointer (some ⟨s.1, 0, none⟩))] : Env)) (fun s => blk s.1 [.slice ad2 (rowsB nd es).length cp3, .slice s.2.1 (List.replicate (rowsB nd es).length (default : Int)).length s.2.2.1, .slice s.2.2.2.1 (List.replicate (rowsB nd es).length (default : Int)).length s.2.2.2.2, .slice none 0 0, .slice none 0 0, .slice none 0 0, I64 (0)] 155 :: vc 99 (.slice ad2 (rowsB nd es).length cp3) (rowsB nd es) :: vc 3 (.slice s.2.1 (List.replicate (rowsB nd es).length (default : Int)).length s.2.2.1) ((List.replicate (rowsB nd es).length (default : Int))) :: vc 3 (.slice s.2.2.2.1 (List.replicate (rowsB nd es).length (default : Int)).length s.2.2.2.2) ((List.replicate (rowsB nd es).length (default : Int))) :: I) (fun s => True) ?_ ?_
 ·refine W.drawn mixed ?_
  refine A.hold (vc 99 (.slice ad2 (rowsB nd es).length cp3) (rowsB nd es) :: blk b1 [I64 (nd), va] 25 :: I) 10 ?_
  refine D.r 0 rfl (Runs.move rfl) ?_ (hJ := Fit.sub)
  refine D.r 1 rfl (Runs.move rfl) ?_ (hJ := Fit.sub)
  refine D.r 2 rfl (Runs.lens Tryd.underlying106 rfl) ?_ (hJ := Fit.sub)
  refine D.r 4 rfl (Runs.move rfl) ?_ (hJ := Fit.sub)
  refine D.r 5 rfl (Runs.lens Tryd.underlying106 rfl) ?_ (hJ := Fit.sub)
  refine D.step (rs := [3, 6]) (by kernel_rfl) rfl rfl (all2 ?_ (all1 ?_))
  ·refine Step.eff rfl (Wanted.plain rfl) (Eff.make (α := Int) (n := (rowsB nd es).length) Tryd.underlying22 ty3 rfl rfl rfl (by omega) (by omega) (by decide) rfl) ?_
   rintro _ _ ⟨ad4, cp5, rfl, rfl⟩
   refine ⟨Fit.sub, ?_⟩
   refine D.step (rs := [6]) (by kernel_rfl) rfl rfl (all1 ?_)
   refine Step.eff rfl (Wanted.plain rfl) (Eff.make (α := Int) (n := (rowsB nd es).length) Tryd.underlying22 ty3 rfl rfl rfl (by omega) (by omega) (by decide) rfl) ?_
   rintro _ _ ⟨ad6, cp7, rfl, rfl⟩
   refine ⟨Fit.sub, ?_⟩
   refine D.r 7 rfl (Runs.build (cells := [_, _, _, _, _, _, _]) ty155 Tryd.underlying155 pl155 rfl rfl) ?_ (hJ := Fit.sub)
   refine D.step (rs := [8]) (by kernel_rfl) rfl rfl (all1 ?_)
   refine Step.eff rfl (Wanted.plain rfl) (Eff.box (cs := [_, _, _, _, _, _, _]) rfl rfl rfl) ?_
   rintro _ _ ⟨b8, rfl, rfl⟩
   refine ⟨Fit.sub, ?_⟩
   refine D.r 9 rfl (Runs.assign rfl) ?_ (hJ := Fit.sub)
   refine D.done (by kernel_rfl) ?_
   exact V.mid ((b8), (ad4), (cp5), (ad6), (cp7)) (show True from trivial) (Sub.cons rfl (Sub.cons (lookV rfl (by first | rfl | simp)) Sub.nil)) (show Fit κ _ (blk (b8) [.slice ad2 (rowsB nd es).length cp3, .slice (ad4) (List.replicate (rowsB nd es).length (default : Int)).length (cp5), .slice (ad6) (List.replicate (rowsB nd es).length (default : Int)).length (cp7), .slice none 0 0, .slice none 0 0, .slice none 0 0, I64 (0)] 155 :: vc 99 (.slice ad2 (rowsB nd es).length cp3) (rowsB nd es) :: vc 3 (.slice (ad4) (List.replicate (rowsB nd es).length (default : Int)).length (cp5)) ((List.replicate (rowsB nd es).length (default : Int))) :: vc 3 (.slice (ad6) (List.replicate (rowsB nd es).length (default : Int)).length (cp7)) ((List.replicate (rowsB nd es).length (default : Int))) :: I) from (by first | exact Fit.s | exact Fit.sub))
  ·refine Step.eff rfl (Wanted.plain rfl) (Eff.make (α := Int) (n := (rowsB nd es).length) Tryd.underlying22 ty3 rfl rfl rfl (by omega) (by omega) (by decide) rfl) ?_
   rintro _ _ ⟨ad9, cp10, rfl, rfl⟩
   refine ⟨Fit.sub, ?_⟩
   refine D.step (rs := [3]) (by kernel_rfl) rfl rfl (all1 ?_)
   refine Step.eff rfl (Wanted.plain rfl) (Eff.make (α := Int) (n := (rowsB nd es).length) Tryd.underlying22 ty3 rfl rfl rfl (by omega) (by omega) (by decide) rfl) ?_
   rintro _ _ ⟨ad11, cp12, rfl, rfl⟩
   refine ⟨Fit.sub, ?_⟩
   refine D.r 7 rfl (Runs.build (cells := [_, _, _, _, _, _, _]) ty155 Tryd.underlying155 pl155 rfl rfl) ?_ (hJ := Fit.sub)
   refine D.step (rs := [8]) (by kernel_rfl) rfl rfl (all1 ?_)
   refine Step.eff rfl (Wanted.plain rfl) (Eff.box (cs := [_, _, _, _, _, _, _]) rfl rfl rfl) ?_
   rintro _ _ ⟨b13, rfl, rfl⟩
   refine ⟨Fit.sub, ?_⟩
   refine D.r 9 rfl (Runs.assign rfl) ?_ (hJ := Fit.sub)
   refine D.done (by kernel_rfl) ?_
   exact V.mid ((b13), (ad11), (cp12), (ad9), (cp10)) (show True from trivial) (Sub.cons rfl (Sub.cons (lookV rfl (by first | rfl | simp)) Sub.nil)) (show Fit κ _ (blk (b13) [.slice ad2 (rowsB nd es).length cp3, .slice (ad11) (List.replicate (rowsB nd es).length (default : Int)).length (cp12), .slice (ad9) (List.replicate (rowsB nd es).length (default : Int)).length (cp10), .slice none 0 0, .slice none 0 0, .slice none 0 0, I64 (0)] 155 :: vc 99 (.slice ad2 (rowsB nd es).length cp3) (rowsB nd es) :: vc 3 (.slice (ad11) (List.replicate (rowsB nd es).length (default : Int)).length (cp12)) ((List.replicate (rowsB nd es).length (default : Int))) :: vc 3 (.slice (ad9) (List.replicate (rowsB nd es).length (default : Int)).length (cp10)) ((List.replicate (rowsB nd es).length (default : Int))) :: I) from (by first | exact Fit.s | exact Fit.sub))
 ·rintro ⟨b, na, nc, la, lc⟩ hp
  show W Tryd.prog κ 43 _ _ ([(3, .slice ad2 (rowsB nd es).length cp3), (4, .pointer (some ⟨b, 0, none⟩))] : Env) (blk b [.slice ad2 (rowsB nd es).length cp3, .slice na (List.replicate (rowsB nd es).length (default : Int)).length nc, .slice la (List.replicate (rowsB nd es).length (default : Int)).length lc, .slice none 0 0, .slice none 0 0, .slice none 0 0, I64 (0)] 155 :: vc 99 (.slice ad2 (rowsB nd es).length cp3) (rowsB nd es) :: vc 3 (.slice na (List.replicate (rowsB nd es).length (default : Int)).length nc) ((List.replicate (rowsB nd es).length (default : Int))) :: vc 3 (.slice la (List.replicate (rowsB nd es).length (default : Int)).length lc) ((List.replicate (rowsB nd es).length (default : Int))) :: I)
  refine W.seq ?_
  refine W.sr ?_
  refine G.r (Runs.move rfl) ?_
  refine G.r (Runs.lens Tryd.underlying106 rfl) ?_
  refine G.r (Runs.move rfl) ?_
  refine G.nt ?_
  refine W.block ?_
  refine W.loop (σ := Nat × (Option Addr) × Nat × (Option Addr) × Nat × (Option Addr) × Nat × (List (RowG Pt))) (fun s => ([(4, .pointer (some ⟨b, 0, none⟩)), (18, I64 ((((rowsB nd es).length : Nat) : Int))), (19, I64 (((s.1 : Nat) : Int)))] : Env)) (fun s => blk b [.slice ad2 (rowsB nd es).length cp3, .slice na (scanS (rowsB nd es) s.1).num.length nc, .slice la (scanS (rowsB nd es) s.1).low.length lc, .slice s.2.1 (scanS (rowsB nd es) s.1).way.length s.2.2.1, .slice s.2.2.2.1 (scanS (rowsB nd es) s.1).edges.length s.2.2.2.2.1, .slice s.2.2.2.2.2.1 s.2.2.2.2.2.2.2.length s.2.2.2.2.2.2.1, I64 ((scanS (rowsB nd es) s.1).cd)] 155 :: vc 99 (.slice ad2 (rowsB nd es).length cp3) ((rowsB nd es)) :: vc 3 (.slice na (scanS (rowsB nd es) s.1).num.length nc) ((scanS (rowsB nd es) s.1).num) :: vc 3 (.slice la (scanS (rowsB nd es) s.1).low.length lc) ((scanS (rowsB nd es) s.1).low) :: vc 183 (.slice s.2.1 (scanS (rowsB nd es) s.1).way.length s.2.2.1) ((scanS (rowsB nd es) s.1).way) :: vc 38 (.slice s.2.2.2.1 (scanS (rowsB nd es) s.1).edges.length s.2.2.2.2.1) ((scanS (rowsB nd es) s.1).edges) :: vc 23 (.slice s.2.2.2.2.2.1 s.2.2.2.2.2.2.2.length s.2.2.2.2.2.2.1) (s.2.2.2.2.2.2.2) :: (ownR 38 s.2.2.2.2.2.2.2 ++ I)) (fun s => (s.1 ≤ (rowsB nd es).length) ∧ (s.2.2.2.2.2.2.2.map RowG.xs = (scanS (rowsB nd es) s.1).out) ∧ ((scanS (rowsB nd es) s.1).edges.length + mea (scanS (rowsB nd es) s.1) ≤ 4300 ∧ s.2.2.2.2.2.2.2.length + mea (scanS (rowsB nd es) s.1) ≤ 4300)) (fun s => (rowsB nd es).length - s.1) (0, none, 0, none, 0, none, 0, []) (show ((0 : Nat) ≤ (rowsB nd es).length) ∧ (([] : List (RowG Pt)).map RowG.xs = (scanS (rowsB nd es) (0 : Nat)).out) ∧ ((scanS (rowsB nd es) (0 : Nat)).edges.length + mea (scanS (rowsB nd es) (0 : Nat)) ≤ 4300 ∧ ([] : List (RowG Pt)).length + mea (scanS (rowsB nd es) (0 : Nat)) ≤ 4300) from ⟨(by omega), rfl, (scan_bd0 hG)⟩) (Sub.cons rfl (Sub.cons rfl (Sub.cons lookO Sub.nil))) (show Fit κ _ (blk b [.slice ad2 (rowsB nd es).length cp3, .slice na (scanS (rowsB nd es) (0)).num.length nc, .slice la (scanS (rowsB nd es) (0)).low.length lc, .slice (none) (scanS (rowsB nd es) (0)).way.length (0), .slice (none) (scanS (rowsB nd es) (0)).edges.length (0), .slice (none) ([]).length (0), I64 ((scanS (rowsB nd es) (0)).cd)] 155 :: vc 99 (.slice ad2 (rowsB nd es).length cp3) ((rowsB nd es)) :: vc 3 (.slice na (scanS (rowsB nd es) (0)).num.length nc) ((scanS (rowsB nd es) (0)).num) :: vc 3 (.slice la (scanS (rowsB nd es) (0)).low.length lc) ((scanS (rowsB nd es) (0)).low) :: vc 183 (.slice (none) (scanS (rowsB nd es) (0)).way.length (0)) ((scanS (rowsB nd es) (0)).way) :: vc 38 (.slice (none) (scanS (rowsB nd es) (0)).edges.length (0)) ((scanS (rowsB nd es) (0)).edges) :: vc 23 (.slice (none) ([]).length (0)) (([])) :: (ownR 38 ([]) ++ I)) from (Fit.trans (Fit.nilvc (α := Vis) 183 _) (Fit.trans (Fit.nilvc (α := Pt) 38 _) (Fit.trans (Fit.nilvc (α := RowG Pt) 23 _) Fit.s)))) ?_
  rintro ⟨k, pw, qw, pe, qe, po, qo, rs⟩ hp
  obtain ⟨hk, hrsS, hbdS⟩ : (k ≤ (rowsB nd es).length) ∧ (rs.map RowG.xs = (scanS (rowsB nd es) k).out) ∧ ((scanS (rowsB nd es) k).edges.length + mea (scanS (rowsB nd es) k) ≤ 4300 ∧ rs.length + mea (scanS (rowsB nd es) k) ≤ 4300) := hp
  show W Tryd.prog κ 43 _ _ ([(4, .pointer (some ⟨b, 0, none⟩)), (18, I64 ((((rowsB nd es).length : Nat) : Int))), (19, I64 (((k : Nat) : Int)))] : Env) (blk b [.slice ad2 (rowsB nd es).length cp3, .slice na (scanS (rowsB nd es) k).num.length nc, .slice la (scanS (rowsB nd es) k).low.length lc, .slice pw (scanS (rowsB nd es) k).way.length qw, .slice pe (scanS (rowsB nd es) k).edges.length qe, .slice po rs.length qo, I64 ((scanS (rowsB nd es) k).cd)] 155 :: vc 99 (.slice ad2 (rowsB nd es).length cp3) ((rowsB nd es)) :: vc 3 (.slice na (scanS (rowsB nd es) k).num.length nc) ((scanS (rowsB nd es) k).num) :: vc 3 (.slice la (scanS (rowsB nd es) k).low.length lc) ((scanS (rowsB nd es) k).low) :: vc 183 (.slice pw (scanS (rowsB nd es) k).way.length qw) ((scanS (rowsB nd es) k).way) :: vc 38 (.slice pe (scanS (rowsB nd es) k).edges.length qe) ((scanS (rowsB nd es) k).edges) :: vc 23 (.slice po rs.length qo) (rs) :: (ownR 38 rs ++ I))
  obtain ⟨⟨hokS, hbiS⟩, hwS, hnumS⟩ := scan_ok (rowsG_of hG) k hk
  have hnlS := hokS.nl
  refine W.sr ?_
  refine G.r (Runs.lss rfl rfl) ?_
  refine G.nt ?_
  refine W.seq ?_
  refine W.ite rfl (fun c20 => ?_) (fun c20 => ?_)
  ·refine W.skip ?_
   refine V.then ?_
   refine W.seq ?_
   refine W.block ?_
   refine W.sr ?_
   refine G.r (Runs.move rfl) ?_
   refine G.r (Runs.assign rfl) ?_
   refine G.nt ?_
   refine W.sr ?_
   refine G.r (Runs.move rfl) ?_
   refine G.r (Runs.nilCheck rfl) ?_
   refine G.r (Runs.fieldAddr fld155_1 rfl) ?_
   refine G.r (Runs.ld ty22) ?_
   refine G.r (Runs.move rfl) ?_
   refine G.r (Runs.idx (α := Int) (xs := (scanS (rowsB nd es) k).num) Tryd.underlying22 ty3 rfl rfl Sl.o (by omega) (by first | omega | (rw [hnlS]; omega))) ?_
   refine G.r (Runs.get (xs := (scanS (rowsB nd es) k).num) ty3 rfl Sl.o (by omega) (by first | omega | (rw [hnlS]; omega))) ?_
   refine G.r (Runs.eql rfl rfl) ?_
   refine G.nt ?_
   refine W.sub (L' := [(29, _), (5, _), (4, _), (18, _), (19, _)]) (Sub.cons rfl (Sub.cons rfl (Sub.cons rfl (Sub.cons rfl (Sub.cons rfl Sub.nil))))) ?_
   refine W.ite rfl (fun c29 => ?_) (fun c29 => ?_)
   ·refine W.region ?_
    refine G.r (Runs.move rfl) ?_
    refine G.r (Runs.move rfl) ?_
    refine G.e (Eff.call call120 rfl rfl (CallS.fit (show Fit κ _ (blk b [.slice ad2 (rowsB nd es).length cp3, .slice na (scanS (rowsB nd es) k).num.length nc, .slice la (scanS (rowsB nd es) k).low.length lc, .slice pw (scanS (rowsB nd es) k).way.length qw, .slice pe (scanS (rowsB nd es) k).edges.length qe, .slice po rs.length qo, I64 ((scanS (rowsB nd es) k).cd)] 155 :: vc 99 (.slice ad2 (rowsB nd es).length cp3) ((rowsB nd es)) :: vc 3 (.slice na (scanS (rowsB nd es) k).num.length nc) ((scanS (rowsB nd es) k).num) :: vc 3 (.slice la (scanS (rowsB nd es) k).low.length lc) ((scanS (rowsB nd es) k).low) :: vc 183 (.slice pw (scanS (rowsB nd es) k).way.length qw) ((scanS (rowsB nd es) k).way) :: vc 38 (.slice pe (scanS (rowsB nd es) k).edges.length qe) ((scanS (rowsB nd es) k).edges) :: vc 23 (.slice po rs.length qo) (rs) :: (ownR 38 rs ++ (I))) from (Fit.trans (show Fit κ _ (blk b [.slice ad2 (rowsB nd es).length cp3, .slice na (scanS (rowsB nd es) k).num.length nc, .slice la (scanS (rowsB nd es) k).low.length lc, .slice pw (scanS (rowsB nd es) k).way.length qw, .slice pe (scanS (rowsB nd es) k).edges.length qe, .slice po rs.length qo, I64 ((scanS (rowsB nd es) k).cd)] 155 :: vc 99 (.slice ad2 (rowsB nd es).length cp3) ((rowsB nd es)) :: vc 3 (.slice na (scanS (rowsB nd es) k).num.length nc) ((scanS (rowsB nd es) k).num) :: vc 3 (.slice la (scanS (rowsB nd es) k).low.length lc) ((scanS (rowsB nd es) k).low) :: vc 183 (.slice pw (scanS (rowsB nd es) k).way.length qw) ((scanS (rowsB nd es) k).way) :: vc 38 (.slice pe (scanS (rowsB nd es) k).edges.length qe) ((scanS (rowsB nd es) k).edges) :: vc 23 (.slice po rs.length qo) (rs) :: (ownR 38 rs ++ I)) from Fit.s) (by have hfi := Fit.into (κ := κ) (A := [blk b [.slice ad2 (rowsB nd es).length cp3, .slice na (scanS (rowsB nd es) k).num.length nc, .slice la (scanS (rowsB nd es) k).low.length lc, .slice pw (scanS (rowsB nd es) k).way.length qw, .slice pe (scanS (rowsB nd es) k).edges.length qe, .slice po rs.length qo, I64 ((scanS (rowsB nd es) k).cd)] 155, vc 99 (.slice ad2 (rowsB nd es).length cp3) ((rowsB nd es)), vc 3 (.slice na (scanS (rowsB nd es) k).num.length nc) ((scanS (rowsB nd es) k).num), vc 3 (.slice la (scanS (rowsB nd es) k).low.length lc) ((scanS (rowsB nd es) k).low), vc 183 (.slice pw (scanS (rowsB nd es) k).way.length qw) ((scanS (rowsB nd es) k).way), vc 38 (.slice pe (scanS (rowsB nd es) k).edges.length qe) ((scanS (rowsB nd es) k).edges), vc 23 (.slice po rs.length qo) (rs)]) (R := []) (B := ownR 38 rs) (I := I); simp only [List.cons_append, List.nil_append] at hfi; exact hfi))) (SRun_ok (I := I) (S := (scanS (rowsB nd es) k)) (rs := rs) (root := ((k : Nat) : Int)) hokS hwS (by omega) c29 hrsS (M := 4300) (by omega) hbdS (TabRd.fit hT Fit.m)))) ?_
    rintro _ _ ⟨_, _, ⟨T21, wa14, wc15, ea16, ec17, oa18, oc19, rs20, rfl, ⟨heT21, hkT21, hrT21, hbT21⟩, rfl⟩, rfl, rfl⟩
    refine G.fit (J := blk b [.slice ad2 (rowsB nd es).length cp3, .slice na T21.num.length nc, .slice la T21.low.length lc, .slice wa14 T21.way.length wc15, .slice ea16 T21.edges.length ec17, .slice oa18 rs20.length oc19, I64 (T21.cd)] 155 :: vc 99 (.slice ad2 (rowsB nd es).length cp3) ((rowsB nd es)) :: vc 3 (.slice na T21.num.length nc) (T21.num) :: vc 3 (.slice la T21.low.length lc) (T21.low) :: vc 183 (.slice wa14 T21.way.length wc15) (T21.way) :: vc 38 (.slice ea16 T21.edges.length ec17) (T21.edges) :: vc 23 (.slice oa18 rs20.length oc19) (rs20) :: (ownR 38 rs20 ++ I)) (by have hfo := Fit.outof (κ := κ) (A := [blk b [.slice ad2 (rowsB nd es).length cp3, .slice na T21.num.length nc, .slice la T21.low.length lc, .slice wa14 T21.way.length wc15, .slice ea16 T21.edges.length ec17, .slice oa18 rs20.length oc19, I64 (T21.cd)] 155, vc 99 (.slice ad2 (rowsB nd es).length cp3) ((rowsB nd es)), vc 3 (.slice na T21.num.length nc) (T21.num), vc 3 (.slice la T21.low.length lc) (T21.low), vc 183 (.slice wa14 T21.way.length wc15) (T21.way), vc 38 (.slice ea16 T21.edges.length ec17) (T21.edges), vc 23 (.slice oa18 rs20.length oc19) (rs20)]) (R := []) (B := ownR 38 rs20) (I := I); simp only [List.cons_append, List.nil_append] at hfo; exact hfo) ?_
    have hTT21 : T21 = (scanS (rowsB nd es) (k + 1)) := by rw [scan_yes c29]; exact heT21.eq (hokS.start hwS (by omega) c29) (hokS.mea_start hwS _ _ (by omega) c29)
    subst hTT21
    show G Tryd.prog κ _ _ _ _ ([(32, .tuple #[]), (31, I64 (((k : Nat) : Int))), (30, .pointer (some ⟨b, 0, none⟩)), (29, .bool (decide ((at_ ((scanS (rowsB nd es) k).num) ((k : Nat) : Int)) = 0))), (5, I64 (((k : Nat) : Int))), (4, .pointer (some ⟨b, 0, none⟩)), (18, I64 ((((rowsB nd es).length : Nat) : Int))), (19, I64 (((k : Nat) : Int)))] : Env) (blk b [.slice ad2 (rowsB nd es).length cp3, .slice na (scanS (rowsB nd es) (k + 1)).num.length nc, .slice la (scanS (rowsB nd es) (k + 1)).low.length lc, .slice wa14 (scanS (rowsB nd es) (k + 1)).way.length wc15, .slice ea16 (scanS (rowsB nd es) (k + 1)).edges.length ec17, .slice oa18 rs20.length oc19, I64 ((scanS (rowsB nd es) (k + 1)).cd)] 155 :: vc 99 (.slice ad2 (rowsB nd es).length cp3) ((rowsB nd es)) :: vc 3 (.slice na (scanS (rowsB nd es) (k + 1)).num.length nc) ((scanS (rowsB nd es) (k + 1)).num) :: vc 3 (.slice la (scanS (rowsB nd es) (k + 1)).low.length lc) ((scanS (rowsB nd es) (k + 1)).low) :: vc 183 (.slice wa14 (scanS (rowsB nd es) (k + 1)).way.length wc15) ((scanS (rowsB nd es) (k + 1)).way) :: vc 38 (.slice ea16 (scanS (rowsB nd es) (k + 1)).edges.length ec17) ((scanS (rowsB nd es) (k + 1)).edges) :: vc 23 (.slice oa18 rs20.length oc19) (rs20) :: (ownR 38 rs20 ++ I))
    refine G.nil ?_
    refine V.block_normal ?_
    refine V.then ?_
    refine W.region ?_
    refine G.r (Runs.add rfl rfl (by unfold InR; omega)) ?_
    refine G.r (Runs.move rfl) ?_
    refine G.nil ?_
    exact V.next ((k + 1), (wa14), (wc15), (ea16), (ec17), (oa18), (oc19), (rs20)) (show ((k + 1 : Nat) ≤ (rowsB nd es).length) ∧ ((rs20 : List (RowG Pt)).map RowG.xs = (scanS (rowsB nd es) (k + 1 : Nat)).out) ∧ ((scanS (rowsB nd es) (k + 1 : Nat)).edges.length + mea (scanS (rowsB nd es) (k + 1 : Nat)) ≤ 4300 ∧ (rs20 : List (RowG Pt)).length + mea (scanS (rowsB nd es) (k + 1 : Nat)) ≤ 4300) from ⟨(by omega), hrT21, hbT21⟩) (show (rowsB nd es).length - (k + 1 : Nat) < (rowsB nd es).length - k from (by omega)) (Sub.cons rfl (Sub.cons rfl (Sub.cons lookO Sub.nil))) (show Fit κ _ (blk b [.slice ad2 (rowsB nd es).length cp3, .slice na (scanS (rowsB nd es) (k + 1)).num.length nc, .slice la (scanS (rowsB nd es) (k + 1)).low.length lc, .slice (wa14) (scanS (rowsB nd es) (k + 1)).way.length (wc15), .slice (ea16) (scanS (rowsB nd es) (k + 1)).edges.length (ec17), .slice (oa18) (rs20).length (oc19), I64 ((scanS (rowsB nd es) (k + 1)).cd)] 155 :: vc 99 (.slice ad2 (rowsB nd es).length cp3) ((rowsB nd es)) :: vc 3 (.slice na (scanS (rowsB nd es) (k + 1)).num.length nc) ((scanS (rowsB nd es) (k + 1)).num) :: vc 3 (.slice la (scanS (rowsB nd es) (k + 1)).low.length lc) ((scanS (rowsB nd es) (k + 1)).low) :: vc 183 (.slice (wa14) (scanS (rowsB nd es) (k + 1)).way.length (wc15)) ((scanS (rowsB nd es) (k + 1)).way) :: vc 38 (.slice (ea16) (scanS (rowsB nd es) (k + 1)).edges.length (ec17)) ((scanS (rowsB nd es) (k + 1)).edges) :: vc 23 (.slice (oa18) (rs20).length (oc19)) ((rs20)) :: (ownR 38 (rs20) ++ I)) from (by first | exact Fit.s | exact Fit.sub))
   ·refine W.skip ?_
    refine V.block_normal ?_
    refine V.then ?_
    refine W.region ?_
    refine G.r (Runs.add rfl rfl (by unfold InR; omega)) ?_
    refine G.r (Runs.move rfl) ?_
    refine G.nil ?_
    have hsn := scan_no c29
    exact V.next ((k + 1), (pw), (qw), (pe), (qe), (po), (qo), (rs)) (show ((k + 1 : Nat) ≤ (rowsB nd es).length) ∧ ((rs : List (RowG Pt)).map RowG.xs = (scanS (rowsB nd es) (k + 1 : Nat)).out) ∧ ((scanS (rowsB nd es) (k + 1 : Nat)).edges.length + mea (scanS (rowsB nd es) (k + 1 : Nat)) ≤ 4300 ∧ (rs : List (RowG Pt)).length + mea (scanS (rowsB nd es) (k + 1 : Nat)) ≤ 4300) from ⟨(by omega), (by rw [hsn]; exact hrsS), (by rw [hsn]; exact hbdS)⟩) (show (rowsB nd es).length - (k + 1 : Nat) < (rowsB nd es).length - k from (by omega)) (Sub.cons rfl (Sub.cons rfl (Sub.cons lookO Sub.nil))) (show Fit κ _ (blk b [.slice ad2 (rowsB nd es).length cp3, .slice na (scanS (rowsB nd es) (k + 1)).num.length nc, .slice la (scanS (rowsB nd es) (k + 1)).low.length lc, .slice (pw) (scanS (rowsB nd es) (k + 1)).way.length (qw), .slice (pe) (scanS (rowsB nd es) (k + 1)).edges.length (qe), .slice (po) (rs).length (qo), I64 ((scanS (rowsB nd es) (k + 1)).cd)] 155 :: vc 99 (.slice ad2 (rowsB nd es).length cp3) ((rowsB nd es)) :: vc 3 (.slice na (scanS (rowsB nd es) (k + 1)).num.length nc) ((scanS (rowsB nd es) (k + 1)).num) :: vc 3 (.slice la (scanS (rowsB nd es) (k + 1)).low.length lc) ((scanS (rowsB nd es) (k + 1)).low) :: vc 183 (.slice (pw) (scanS (rowsB nd es) (k + 1)).way.length (qw)) ((scanS (rowsB nd es) (k + 1)).way) :: vc 38 (.slice (pe) (scanS (rowsB nd es) (k + 1)).edges.length (qe)) ((scanS (rowsB nd es) (k + 1)).edges) :: vc 23 (.slice (po) (rs).length (qo)) ((rs)) :: (ownR 38 (rs) ++ I)) from (by rw [hsn]; first | exact Fit.s | exact Fit.sub))
  ·refine W.exit ?_
   refine V.then_exit ?_
   refine V.then_exit ?_
   refine V.block_hit ?_
   refine V.then ?_
   refine W.sr ?_
   refine G.r (Runs.move rfl) ?_
   refine G.r (Runs.nilCheck rfl) ?_
   refine G.r (Runs.fieldAddr fld155_5 rfl) ?_
   refine G.r (Runs.ld ty29) ?_
   have hkn : k = (rowsB nd es).length := by omega
   have hout : (scanS (rowsB nd es) k).out = (scanS (rowsB nd es) (rowsB nd es).length).out := by rw [hkn]
   have hrl : rs.length ≤ 4300 := by omega
   refine G.e (Eff.call call121 rfl rfl (CallS.fit (show Fit κ _ (vc 23 (.slice po rs.length qo) (rs) :: blk b [.slice ad2 (rowsB nd es).length cp3, .slice na (scanS (rowsB nd es) k).num.length nc, .slice la (scanS (rowsB nd es) k).low.length lc, .slice pw (scanS (rowsB nd es) k).way.length qw, .slice pe (scanS (rowsB nd es) k).edges.length qe, .slice po rs.length qo, I64 ((scanS (rowsB nd es) k).cd)] 155 :: vc 99 (.slice ad2 (rowsB nd es).length cp3) ((rowsB nd es)) :: vc 3 (.slice na (scanS (rowsB nd es) k).num.length nc) ((scanS (rowsB nd es) k).num) :: vc 3 (.slice la (scanS (rowsB nd es) k).low.length lc) ((scanS (rowsB nd es) k).low) :: vc 183 (.slice pw (scanS (rowsB nd es) k).way.length qw) ((scanS (rowsB nd es) k).way) :: vc 38 (.slice pe (scanS (rowsB nd es) k).edges.length qe) ((scanS (rowsB nd es) k).edges) :: (ownR 38 rs ++ I)) from Fit.s) (SortB_ok (rs := rs) (fun r hr => Sl.fit (ownR_held (I := I) r hr) Fit.sub) (fun r hr e => (scan_blk (rowsG_of hG)).full r.xs (by rw [← hout, ← hrsS]; exact List.mem_map_of_mem hr) e) (by omega)))) ?_
   rintro _ _ ⟨_, _, ⟨ys22, ⟨rfl, hpys22, hsys22⟩, rfl⟩, rfl, rfl⟩
   show G Tryd.prog κ _ _ _ _ ([(38, .tuple #[]), (37, .slice po rs.length qo), (36, .pointer (some ⟨b, 5, none⟩)), (35, .pointer (some ⟨b, 0, none⟩)), (34, .pointer (some ⟨b, 0, none⟩)), (20, .bool (decide (((k : Nat) : Int) < (((rowsB nd es).length : Nat) : Int)))), (4, .pointer (some ⟨b, 0, none⟩)), (18, I64 ((((rowsB nd es).length : Nat) : Int))), (19, I64 (((k : Nat) : Int)))] : Env) (vc 23 (.slice po ys22.length qo) (ys22) :: blk b [.slice ad2 (rowsB nd es).length cp3, .slice na (scanS (rowsB nd es) k).num.length nc, .slice la (scanS (rowsB nd es) k).low.length lc, .slice pw (scanS (rowsB nd es) k).way.length qw, .slice pe (scanS (rowsB nd es) k).edges.length qe, .slice po rs.length qo, I64 ((scanS (rowsB nd es) k).cd)] 155 :: vc 99 (.slice ad2 (rowsB nd es).length cp3) ((rowsB nd es)) :: vc 3 (.slice na (scanS (rowsB nd es) k).num.length nc) ((scanS (rowsB nd es) k).num) :: vc 3 (.slice la (scanS (rowsB nd es) k).low.length lc) ((scanS (rowsB nd es) k).low) :: vc 183 (.slice pw (scanS (rowsB nd es) k).way.length qw) ((scanS (rowsB nd es) k).way) :: vc 38 (.slice pe (scanS (rowsB nd es) k).edges.length qe) ((scanS (rowsB nd es) k).edges) :: (ownR 38 rs ++ I))
   refine G.nt ?_
   refine W.sr ?_
   refine G.r (Runs.move rfl) ?_
   refine G.r (Runs.nilCheck rfl) ?_
   refine G.r (Runs.fieldAddr fld155_5 rfl) ?_
   refine G.r (Runs.ld ty29) ?_
   refine G.r (Runs.assign rfl) ?_
   refine G.nt ?_
   refine W.sub (L' := [(2, _)]) (Sub.cons rfl Sub.nil) ?_
   refine W.ret ?_
   have hyl : ys22.length = rs.length := hpys22.length_eq
   have hyx : ys22.map RowG.xs = blkG nd es := sortH_uniq (scan_blk (rowsG_of hG)).full (scan_blk (rowsG_of hG)).nd (by rw [← hout, ← hrsS]; exact hpys22.map _) (by rw [List.pairwise_map]; exact hsys22)
   exact V.ret1 rfl rfl (vc 23 (.slice po ys22.length qo) ys22 :: (ownR 38 ys22 ++ I)) (Fit.trans (show Fit κ _ ([vc 23 (.slice po ys22.length qo) ys22] ++ (ownR 38 rs ++ I)) from Fit.s) (Fit.ownR_perm hpys22)) ⟨po, qo, ys22, by rw [hyl], hyx, by omega, rfl⟩

end Go.Sl
namespace Go.Sl
open Go.Proofs
set_option linter.unusedVariables false
set_option linter.unusedSimpArgs false
set_option maxRecDepth 4000
def blksG (nd : Int) (es : List Pt) : List (List Pt) := if checkG nd es ≠ 0 then [] else blkG nd es
def brL (bs : List (List Pt)) : List Pt := (bs.filter fun b => decide (b.length = 1)).map hd0
def bridgesG (nd : Int) (es : List Pt) : List Pt := if checkG nd es ≠ 0 then [] else brL (blkG nd es)
def nodesM (b : List Pt) : BitVec 64 := b.foldl (fun m e => m ||| (bitB e.u ||| bitB e.v)) 0#64
def jointM (bs : List (List Pt)) : BitVec 64 × BitVec 64 := bs.foldl (fun p b => (p.1 ||| nodesM b, p.2 ||| (p.1 &&& nodesM b))) (0#64, 0#64)
def jointsG (nd : Int) (es : List Pt) : List Int := if checkG nd es ≠ 0 then [] else listB (jointM (blkG nd es)).2
theorem nodesM_take {b : List Pt} {k : Nat} (h : k < b.length) : nodesM (b.take (k + 1)) = nodesM (b.take k) ||| (bitB (at_ b (k : Int)).u ||| bitB (at_ b (k : Int)).v) := by unfold nodesM; rw [take_at b k h, List.foldl_append]; rfl
theorem jointM_take {bs : List (List Pt)} {k : Nat} (h : k < bs.length) : jointM (bs.take (k + 1)) = ((jointM (bs.take k)).1 ||| nodesM (at_ bs (k : Int)), (jointM (bs.take k)).2 ||| ((jointM (bs.take k)).1 &&& nodesM (at_ bs (k : Int)))) := by unfold jointM; rw [take_at bs k h, List.foldl_append]; rfl
theorem brL_yes {bs : List (List Pt)} {k : Nat} (h : k < bs.length) (h1 : (at_ bs (k : Int)).length = 1) : brL (bs.take (k + 1)) = brL (bs.take k) ++ [hd0 (at_ bs (k : Int))] := by
  unfold brL; rw [take_at bs k h, List.filter_append, List.map_append]; simp [h1]
theorem brL_no {bs : List (List Pt)} {k : Nat} (h : k < bs.length) (h1 : ¬ (at_ bs (k : Int)).length = 1) : brL (bs.take (k + 1)) = brL (bs.take k) := by
  unfold brL; rw [take_at bs k h, List.filter_append, List.map_append]; simp [h1]
theorem at_xs {α : Type} [Enc α] {rs : List (RowG α)} {bs : List (List α)} (h : rs.map RowG.xs = bs) {k : Nat} (hk : k < rs.length) : at_ bs (k : Int) = (at_ rs (k : Int)).xs := by
  rw [← h, at_nat, at_nat, List.getD_eq_getElem?_getD, List.getD_eq_getElem?_getD, List.getElem?_map, List.getElem?_eq_getElem hk]; rfl
theorem len_xs {α : Type} [Enc α] {rs : List (RowG α)} {bs : List (List α)} (h : rs.map RowG.xs = bs) : bs.length = rs.length := by rw [← h, List.length_map]
theorem brL_len (bs : List (List Pt)) : (brL bs).length ≤ bs.length := by unfold brL; rw [List.length_map]; exact List.length_filter_le _ _

theorem BlksC_ok {κ : Ctx} {I : List Item} {nd : Int} {va : Value} {es : List Pt} (hl : Sl κ I va es) (hT : TabRd κ I 0 tzCells) :
    CallS Tryd.prog κ 14 [.agg #[I64 (nd), va]] I (fun r J => ∃ a c rs, r = .tuple #[.slice a rs.length c, I64 (checkG nd es)] ∧ rs.map RowG.xs = blksG nd es ∧ rs.length ≤ 4300 ∧ J = vc 23 (.slice a rs.length c) rs :: (ownR 38 rs ++ I)) := by
 refine CallS.enter (L := [(0, .agg #[I64 (nd), va])]) Tryd.func14 rfl rfl rfl rfl ?_
 refine W.sr ?_
 refine G.e (Eff.box (cs := [_, _]) rfl rfl rfl) ?_
 rintro _ _ ⟨b1, rfl, rfl⟩
 refine G.r (Runs.assign rfl) ?_
 refine G.r (Runs.assign rfl) ?_
 refine G.nt ?_
 refine W.seq ?_
 refine W.sr ?_
 refine G.r (Runs.lds (vs := [_, _]) ty25) ?_
 refine G.e (Eff.call call66 rfl rfl (CheckGen_ok (Sl.f hl))) ?_
 rintro _ _ ⟨_, _, ⟨rfl, rfl⟩, rfl, rfl⟩
 refine G.r (Runs.assign rfl) ?_
 refine G.nt ?_
 refine W.sr ?_
 refine G.r (Runs.move rfl) ?_
 refine G.r (Runs.neq rfl rfl) ?_
 refine G.nt ?_
 refine W.ite rfl (fun c8 => ?_) (fun c8 => ?_)
 ·refine W.sr ?_
  refine G.r (Runs.move rfl) ?_
  refine G.r (Runs.assign rfl) ?_
  refine G.r (Runs.assign rfl) ?_
  refine G.nt ?_
  refine W.ret ?_
  refine V.then_ret ?_
  have hX : blksG nd es = [] := if_pos c8
  exact V.ret2 rfl rfl rfl (vc 23 (.slice none ([] : List (RowG Pt)).length 0) ([] : List (RowG Pt)) :: (ownR 38 ([] : List (RowG Pt)) ++ I)) (Fit.trans (show Fit κ _ I from Fit.m) (Fit.nilvc (α := RowG Pt) _ _)) ⟨none, 0, [], rfl, by rw [hX]; rfl, by simp, rfl⟩
 ·refine W.skip ?_
  refine V.then ?_
  refine W.sr ?_
  refine G.r (Runs.lds (vs := [_, _]) ty25) ?_
  refine G.e (Eff.call call67 rfl rfl (blocks_ok (nd := nd) (Sl.f hl) (checkG_ok.1 (Classical.not_not.1 c8)) (TabRd.fit hT Fit.m))) ?_
  rintro _ _ ⟨_, _, ⟨ad2, cp3, rs4, rfl, hrs4, hbrs4, rfl⟩, rfl, rfl⟩
  refine G.fit (J := vc 23 (.slice ad2 rs4.length cp3) (rs4) :: blk b1 [I64 (nd), va] 25 :: (ownR 38 rs4 ++ I)) Fit.s ?_
  refine G.r (Runs.assign rfl) ?_
  refine G.r (Runs.assign rfl) ?_
  refine G.nt ?_
  refine W.ret ?_
  have hz : checkG nd es = 0 := Classical.not_not.1 c8
  exact V.ret2 rfl rfl rfl (vc 23 (.slice ad2 rs4.length cp3) rs4 :: (ownR 38 rs4 ++ I)) (by first | exact Fit.s | exact Fit.sub) ⟨ad2, cp3, rs4, by rw [hz], by unfold blksG; rw [if_neg c8, hrs4], hbrs4, rfl⟩

theorem Bridges_ok {κ : Ctx} {I : List Item} {nd : Int} {va : Value} {es : List Pt} (hl : Sl κ I va es) (hT : TabRd κ I 0 tzCells) :
    CallS Tryd.prog κ 15 [.agg #[I64 (nd), va]] I (fun r J => ∃ a c, r = .tuple #[.slice a (bridgesG nd es).length c, I64 (checkG nd es)] ∧ J = vc 38 (.slice a (bridgesG nd es).length c) (bridgesG nd es) :: I) := by
 refine CallS.enter (L := [(0, .agg #[I64 (nd), va])]) Tryd.func15 rfl rfl rfl rfl ?_
 refine W.sr ?_
 refine G.e (Eff.box (cs := [_, _]) rfl rfl rfl) ?_
 rintro _ _ ⟨b1, rfl, rfl⟩
 refine G.r (Runs.assign rfl) ?_
 refine G.r (Runs.assign rfl) ?_
 refine G.nt ?_
 refine W.seq ?_
 refine W.sr ?_
 refine G.r (Runs.lds (vs := [_, _]) ty25) ?_
 refine G.e (Eff.call call66 rfl rfl (CheckGen_ok (Sl.f hl))) ?_
 rintro _ _ ⟨_, _, ⟨rfl, rfl⟩, rfl, rfl⟩
 refine G.r (Runs.assign rfl) ?_
 refine G.nt ?_
 refine W.sr ?_
 refine G.r (Runs.move rfl) ?_
 refine G.r (Runs.neq rfl rfl) ?_
 refine G.nt ?_
 refine W.ite rfl (fun c11 => ?_) (fun c11 => ?_)
 ·refine W.sr ?_
  refine G.r (Runs.move rfl) ?_
  refine G.r (Runs.assign rfl) ?_
  refine G.r (Runs.assign rfl) ?_
  refine G.nt ?_
  refine W.ret ?_
  refine V.then_ret ?_
  have hX : (bridgesG nd es) = [] := if_pos c11
  exact V.ret2 rfl rfl rfl (vc 38 (.slice none (bridgesG nd es).length 0) (bridgesG nd es) :: I) (by rw [hX]; exact Fit.trans (show Fit κ _ I from Fit.m) (Fit.nilvc (α := Pt) _ _)) ⟨none, 0, by rw [hX]; rfl, rfl⟩
 ·refine W.skip ?_
  refine V.then ?_
  refine W.sr ?_
  refine G.r (Runs.assign rfl) ?_
  refine G.nt ?_
  refine W.seq ?_
  refine W.sr ?_
  refine G.r (Runs.lds (vs := [_, _]) ty25) ?_
  refine G.e (Eff.call call67 rfl rfl (blocks_ok (nd := nd) (Sl.f hl) (checkG_ok.1 (Classical.not_not.1 c11)) (TabRd.fit hT Fit.m))) ?_
  rintro _ _ ⟨_, _, ⟨ad2, cp3, rs4, rfl, hrs4, hbrs4, rfl⟩, rfl, rfl⟩
  refine G.fit (J := vc 23 (.slice ad2 rs4.length cp3) (rs4) :: blk b1 [I64 (nd), va] 25 :: (ownR 38 rs4 ++ I)) Fit.s ?_
  refine G.r (Runs.lens Tryd.underlying29 rfl) ?_
  refine G.r (Runs.move rfl) ?_
  refine G.nt ?_
  refine W.sub (L' := [(16, _), (15, _), (14, _), (5, _)]) (Sub.cons rfl (Sub.cons rfl (Sub.cons rfl (Sub.cons rfl Sub.nil)))) ?_
  refine W.block ?_
  refine W.loop (σ := Nat × (Option Addr) × Nat × (List Pt)) (fun s => ([(5, .slice s.2.1 s.2.2.2.length s.2.2.1), (14, .slice ad2 rs4.length cp3), (15, I64 (((rs4.length : Nat) : Int))), (16, I64 (((s.1 : Nat) : Int)))] : Env)) (fun s => vc 38 (.slice s.2.1 s.2.2.2.length s.2.2.1) (s.2.2.2) :: vc 23 (.slice ad2 rs4.length cp3) (rs4) :: blk b1 [I64 (nd), va] 25 :: (ownR 38 rs4 ++ I)) (fun s => (s.1 ≤ rs4.length) ∧ (s.2.2.2 = brL ((blkG nd es).take s.1))) (fun s => rs4.length - s.1) (0, none, 0, []) (show ((0 : Nat) ≤ rs4.length) ∧ (([] : List Pt) = brL ((blkG nd es).take (0 : Nat))) from ⟨(by omega), rfl⟩) (Sub.cons (lookV rfl (by first | rfl | simp)) (Sub.cons rfl (Sub.cons rfl (Sub.cons lookO Sub.nil)))) (show Fit κ _ (vc 38 (.slice (none) ([]).length (0)) (([])) :: vc 23 (.slice ad2 rs4.length cp3) (rs4) :: blk b1 [I64 (nd), va] 25 :: (ownR 38 rs4 ++ I)) from (Fit.nilvc _ _)) ?_
  rintro ⟨k, a, c, out⟩ hp
  obtain ⟨hk, ho⟩ : (k ≤ rs4.length) ∧ (out = brL ((blkG nd es).take k)) := hp
  show W Tryd.prog κ 31 _ _ ([(5, .slice a out.length c), (14, .slice ad2 rs4.length cp3), (15, I64 (((rs4.length : Nat) : Int))), (16, I64 (((k : Nat) : Int)))] : Env) (vc 38 (.slice a out.length c) (out) :: vc 23 (.slice ad2 rs4.length cp3) (rs4) :: blk b1 [I64 (nd), va] 25 :: (ownR 38 rs4 ++ I))
  refine W.pull (Sl.le (Sl.vec (xs := rs4) (by repeat (first | exact List.mem_cons_self | apply List.mem_cons_of_mem)))) fun hmx => ?_
  have hol : out.length ≤ rs4.length := by rw [ho]; refine Nat.le_trans (brL_len _) ?_; rw [List.length_take, len_xs hrs4]; omega
  refine W.sr ?_
  refine G.r (Runs.lss rfl rfl) ?_
  refine G.nt ?_
  refine W.seq ?_
  refine W.ite rfl (fun c17 => ?_) (fun c17 => ?_)
  ·refine W.skip ?_
   refine V.then ?_
   refine W.seq ?_
   refine W.block ?_
   refine W.sr ?_
   refine G.r (Runs.idx (α := (RowG Pt)) (xs := rs4) Tryd.underlying29 ty23 rfl rfl Sl.o (by omega) (by omega)) ?_
   refine G.r (Runs.getf0 (α := (RowG Pt)) (xs := rs4) (u := .slice (at_ rs4 ((k : Nat) : Int)).a (at_ rs4 ((k : Nat) : Int)).xs.length (at_ rs4 ((k : Nat) : Int)).c) ty23 rfl Sl.o (by omega) (by omega) rfl) ?_
   refine G.r (Runs.assign rfl) ?_
   refine G.nt ?_
   refine W.sr ?_
   refine G.r (Runs.move rfl) ?_
   refine G.r (Runs.lens Tryd.underlying23 rfl) ?_
   refine G.r (Runs.eql rfl rfl) ?_
   refine G.nt ?_
   refine W.ite rfl (fun c22 => ?_) (fun c22 => ?_)
   ·refine W.region ?_
    refine G.r (Runs.move rfl) ?_
    refine G.r (Runs.move rfl) ?_
    refine G.r (Runs.idx (α := Pt) (xs := (at_ rs4 ((k : Nat) : Int)).xs) Tryd.underlying23 ty38 rfl rfl (HeldAll.at (ownR_in (e := 38) (rs := rs4) (fun x hx => by repeat (first | exact List.mem_append_left _ hx | apply List.mem_append_right | apply List.mem_cons_of_mem))) (i := ((k : Nat) : Int)) (by omega) (by omega)) (by omega) (by omega)) ?_
    refine G.r (Runs.gets (α := Pt) (xs := (at_ rs4 ((k : Nat) : Int)).xs) ty38 rfl (HeldAll.at (ownR_in (e := 38) (rs := rs4) (fun x hx => by repeat (first | exact List.mem_append_left _ hx | apply List.mem_append_right | apply List.mem_cons_of_mem))) (i := ((k : Nat) : Int)) (by omega) (by omega)) (by omega) (by omega)) ?_
    refine G.e (Eff.bs (α := Pt) (cs := [_, _]) (xs := [⟨(at_ ((at_ rs4 ((k : Nat) : Int)).xs) 0).u, (at_ ((at_ rs4 ((k : Nat) : Int)).xs) 0).v⟩]) Tryd.underlying23 ty38 rfl rfl (by decide) (by decide) rfl rfl rfl rfl) ?_
    rintro _ _ ⟨ad5, rfl, rfl⟩
    refine G.e (Eff.app (α := Pt) (e := 38) (xs := out) (ys := ([⟨(at_ ((at_ rs4 ((k : Nat) : Int)).xs) 0).u, (at_ ((at_ rs4 ((k : Nat) : Int)).xs) 0).v⟩] : List Pt)) Tryd.underlying23 ty38 rfl rfl rfl (by repeat (first | exact List.mem_cons_self | apply List.mem_cons_of_mem)) Sl.o (by simp only [List.length_cons, List.length_nil]; omega) (by decide) rfl (fun _ _ => (by repeat (first | exact At.head _ _ _ | apply At.tail)))) ?_
    rintro _ _ ⟨ad6, cp7, rfl, rfl⟩
    refine G.r (Runs.assign rfl) ?_
    refine G.nil ?_
    refine V.block_normal ?_
    refine V.then ?_
    refine W.sub (L' := [(5, _), (14, _), (15, _), (16, _)]) (Sub.cons rfl (Sub.cons rfl (Sub.cons rfl (Sub.cons rfl Sub.nil)))) ?_
    refine W.region ?_
    refine G.r (Runs.add rfl rfl (by unfold InR; omega)) ?_
    refine G.r (Runs.move rfl) ?_
    refine G.nil ?_
    exact V.next ((k + 1), (ad6), (cp7), (out ++ ([⟨(at_ ((at_ rs4 ((k : Nat) : Int)).xs) 0).u, (at_ ((at_ rs4 ((k : Nat) : Int)).xs) 0).v⟩] : List Pt))) (show ((k + 1 : Nat) ≤ rs4.length) ∧ ((out ++ ([⟨(at_ ((at_ rs4 ((k : Nat) : Int)).xs) 0).u, (at_ ((at_ rs4 ((k : Nat) : Int)).xs) 0).v⟩] : List Pt) : List Pt) = brL ((blkG nd es).take (k + 1 : Nat))) from ⟨(by omega), (by first | rw [brL_yes (by rw [len_xs hrs4]; omega) (by rw [at_xs hrs4 (by omega)]; omega), ← ho, at_xs hrs4 (by omega)]; rfl | rw [brL_no (by rw [len_xs hrs4]; omega) (by rw [at_xs hrs4 (by omega)]; omega), ← ho])⟩) (show rs4.length - (k + 1 : Nat) < rs4.length - k from (by omega)) (Sub.cons (lookV rfl (by first | rfl | simp)) (Sub.cons rfl (Sub.cons rfl (Sub.cons lookO Sub.nil)))) (show Fit κ _ (vc 38 (.slice (ad6) (out ++ ([⟨(at_ ((at_ rs4 ((k : Nat) : Int)).xs) 0).u, (at_ ((at_ rs4 ((k : Nat) : Int)).xs) 0).v⟩] : List Pt)).length (cp7)) ((out ++ ([⟨(at_ ((at_ rs4 ((k : Nat) : Int)).xs) 0).u, (at_ ((at_ rs4 ((k : Nat) : Int)).xs) 0).v⟩] : List Pt))) :: vc 23 (.slice ad2 rs4.length cp3) (rs4) :: blk b1 [I64 (nd), va] 25 :: (ownR 38 rs4 ++ I)) from Fit.sub)
   ·refine W.skip ?_
    refine V.block_normal ?_
    refine V.then ?_
    refine W.region ?_
    refine G.r (Runs.add rfl rfl (by unfold InR; omega)) ?_
    refine G.r (Runs.move rfl) ?_
    refine G.nil ?_
    exact V.next ((k + 1), (a), (c), (out)) (show ((k + 1 : Nat) ≤ rs4.length) ∧ ((out : List Pt) = brL ((blkG nd es).take (k + 1 : Nat))) from ⟨(by omega), (by first | rw [brL_yes (by rw [len_xs hrs4]; omega) (by rw [at_xs hrs4 (by omega)]; omega), ← ho, at_xs hrs4 (by omega)]; rfl | rw [brL_no (by rw [len_xs hrs4]; omega) (by rw [at_xs hrs4 (by omega)]; omega), ← ho])⟩) (show rs4.length - (k + 1 : Nat) < rs4.length - k from (by omega)) (Sub.cons (lookV rfl (by first | rfl | simp)) (Sub.cons rfl (Sub.cons rfl (Sub.cons lookO Sub.nil)))) (show Fit κ _ (vc 38 (.slice (a) (out).length (c)) ((out)) :: vc 23 (.slice ad2 rs4.length cp3) (rs4) :: blk b1 [I64 (nd), va] 25 :: (ownR 38 rs4 ++ I)) from Fit.sub)
  ·refine W.exit ?_
   refine V.then_exit ?_
   refine V.then_exit ?_
   refine V.block_hit ?_
   refine V.then ?_
   refine W.sr ?_
   refine G.r (Runs.move rfl) ?_
   refine G.r (Runs.assign rfl) ?_
   refine G.r (Runs.assign rfl) ?_
   refine G.nt ?_
   refine W.ret ?_
   have hz : checkG nd es = 0 := Classical.not_not.1 c11
   have hX : (bridgesG nd es) = out := by unfold bridgesG; rw [if_neg c11, ho, List.take_of_length_le (by rw [len_xs hrs4]; omega)]
   exact V.ret2 rfl rfl rfl (vc 38 (.slice a (bridgesG nd es).length c) (bridgesG nd es) :: I) (by rw [hX]; first | exact Fit.sub | exact Fit.s) ⟨a, c, by rw [hX, hz], rfl⟩

theorem Joints_ok {κ : Ctx} {I : List Item} {nd : Int} {va : Value} {es : List Pt} (hl : Sl κ I va es) (hT : TabRd κ I 0 tzCells) :
    CallS Tryd.prog κ 16 [.agg #[I64 (nd), va]] I (fun r J => ∃ a c, r = .tuple #[.slice a (jointsG nd es).length c, I64 (checkG nd es)] ∧ J = vc 3 (.slice a (jointsG nd es).length c) (jointsG nd es) :: I) := by
 refine CallS.enter (L := [(0, .agg #[I64 (nd), va])]) Tryd.func16 rfl rfl rfl rfl ?_
 refine W.sr ?_
 refine G.e (Eff.box (cs := [_, _]) rfl rfl rfl) ?_
 rintro _ _ ⟨b1, rfl, rfl⟩
 refine G.r (Runs.assign rfl) ?_
 refine G.r (Runs.assign rfl) ?_
 refine G.nt ?_
 refine W.seq ?_
 refine W.sr ?_
 refine G.r (Runs.lds (vs := [_, _]) ty25) ?_
 refine G.e (Eff.call call66 rfl rfl (CheckGen_ok (Sl.f hl))) ?_
 rintro _ _ ⟨_, _, ⟨rfl, rfl⟩, rfl, rfl⟩
 refine G.r (Runs.assign rfl) ?_
 refine G.nt ?_
 refine W.sr ?_
 refine G.r (Runs.move rfl) ?_
 refine G.r (Runs.neq rfl rfl) ?_
 refine G.nt ?_
 refine W.ite rfl (fun c15 => ?_) (fun c15 => ?_)
 ·refine W.sr ?_
  refine G.r (Runs.move rfl) ?_
  refine G.r (Runs.assign rfl) ?_
  refine G.r (Runs.assign rfl) ?_
  refine G.nt ?_
  refine W.ret ?_
  refine V.then_ret ?_
  have hX : (jointsG nd es) = [] := if_pos c15
  exact V.ret2 rfl rfl rfl (vc 3 (.slice none (jointsG nd es).length 0) (jointsG nd es) :: I) (by rw [hX]; exact Fit.trans (show Fit κ _ I from Fit.m) (Fit.nilvc (α := Int) _ _)) ⟨none, 0, by rw [hX]; rfl, rfl⟩
 ·refine W.skip ?_
  refine V.then ?_
  refine W.sr ?_
  refine G.r (Runs.assign rfl) ?_
  refine G.r (Runs.assign rfl) ?_
  refine G.nt ?_
  refine W.seq ?_
  refine W.sr ?_
  refine G.r (Runs.lds (vs := [_, _]) ty25) ?_
  refine G.e (Eff.call call67 rfl rfl (blocks_ok (nd := nd) (Sl.f hl) (checkG_ok.1 (Classical.not_not.1 c15)) (TabRd.fit hT Fit.m))) ?_
  rintro _ _ ⟨_, _, ⟨ad2, cp3, rs4, rfl, hrs4, hbrs4, rfl⟩, rfl, rfl⟩
  refine G.fit (J := vc 23 (.slice ad2 rs4.length cp3) (rs4) :: blk b1 [I64 (nd), va] 25 :: (ownR 38 rs4 ++ I)) Fit.s ?_
  refine G.r (Runs.lens Tryd.underlying29 rfl) ?_
  refine G.r (Runs.move rfl) ?_
  refine G.nt ?_
  refine W.sub (L' := [(20, _), (19, _), (18, _), (6, _), (5, _)]) (Sub.cons rfl (Sub.cons rfl (Sub.cons rfl (Sub.cons rfl (Sub.cons rfl Sub.nil))))) ?_
  refine W.block ?_
  refine W.loop (σ := Nat × (BitVec 64) × (BitVec 64)) (fun s => ([(5, U64 (s.2.1)), (6, U64 (s.2.2)), (18, .slice ad2 rs4.length cp3), (19, I64 (((rs4.length : Nat) : Int))), (20, I64 (((s.1 : Nat) : Int)))] : Env)) (fun s => vc 23 (.slice ad2 rs4.length cp3) (rs4) :: blk b1 [I64 (nd), va] 25 :: (ownR 38 rs4 ++ I)) (fun s => (s.1 ≤ rs4.length) ∧ ((s.2.1, s.2.2) = jointM ((blkG nd es).take s.1))) (fun s => rs4.length - s.1) (0, 0#64, 0#64) (show ((0 : Nat) ≤ rs4.length) ∧ (((0#64 : BitVec 64), (0#64 : BitVec 64)) = jointM ((blkG nd es).take (0 : Nat))) from ⟨(by omega), rfl⟩) (Sub.cons (lookV rfl (by first | rfl | simp)) (Sub.cons (lookV rfl (by first | rfl | simp)) (Sub.cons rfl (Sub.cons rfl (Sub.cons lookO Sub.nil))))) (show Fit κ _ (vc 23 (.slice ad2 rs4.length cp3) (rs4) :: blk b1 [I64 (nd), va] 25 :: (ownR 38 rs4 ++ I)) from Fit.sub) ?_
  rintro ⟨k, o1, o2⟩ hp
  obtain ⟨hk, ho⟩ : (k ≤ rs4.length) ∧ ((o1, o2) = jointM ((blkG nd es).take k)) := hp
  show W Tryd.prog κ 51 _ _ ([(5, U64 (o1)), (6, U64 (o2)), (18, .slice ad2 rs4.length cp3), (19, I64 (((rs4.length : Nat) : Int))), (20, I64 (((k : Nat) : Int)))] : Env) (vc 23 (.slice ad2 rs4.length cp3) (rs4) :: blk b1 [I64 (nd), va] 25 :: (ownR 38 rs4 ++ I))
  refine W.pull (Sl.le (Sl.vec (xs := rs4) (by repeat (first | exact List.mem_cons_self | apply List.mem_cons_of_mem)))) fun hmx => ?_
  refine W.sr ?_
  refine G.r (Runs.lss rfl rfl) ?_
  refine G.nt ?_
  refine W.seq ?_
  refine W.ite rfl (fun c21 => ?_) (fun c21 => ?_)
  ·refine W.skip ?_
   refine V.then ?_
   refine W.seq ?_
   refine W.block ?_
   refine W.sr ?_
   refine G.r (Runs.idx (α := (RowG Pt)) (xs := rs4) Tryd.underlying29 ty23 rfl rfl Sl.o (by omega) (by omega)) ?_
   refine G.r (Runs.getf0 (α := (RowG Pt)) (xs := rs4) (u := .slice (at_ rs4 ((k : Nat) : Int)).a (at_ rs4 ((k : Nat) : Int)).xs.length (at_ rs4 ((k : Nat) : Int)).c) ty23 rfl Sl.o (by omega) (by omega) rfl) ?_
   refine G.r (Runs.assign rfl) ?_
   refine G.nt ?_
   refine W.sr ?_
   refine G.r (Runs.assign rfl) ?_
   refine G.nt ?_
   refine W.seq ?_
   refine W.sr ?_
   refine G.r (Runs.move rfl) ?_
   refine G.r (Runs.lens Tryd.underlying23 rfl) ?_
   refine G.r (Runs.move rfl) ?_
   refine G.nt ?_
   refine W.block ?_
   refine W.loop (σ := Nat × (BitVec 64)) (fun s => ([(5, U64 (o1)), (6, U64 (o2)), (9, U64 (s.2)), (18, .slice ad2 rs4.length cp3), (19, I64 (((rs4.length : Nat) : Int))), (20, I64 (((k : Nat) : Int))), (24, .slice (at_ rs4 ((k : Nat) : Int)).a (at_ rs4 ((k : Nat) : Int)).xs.length (at_ rs4 ((k : Nat) : Int)).c), (25, I64 ((((at_ rs4 ((k : Nat) : Int)).xs.length : Nat) : Int))), (26, I64 (((s.1 : Nat) : Int)))] : Env)) (fun s => vc 23 (.slice ad2 rs4.length cp3) (rs4) :: blk b1 [I64 (nd), va] 25 :: (ownR 38 rs4 ++ I)) (fun s => (s.1 ≤ (at_ rs4 ((k : Nat) : Int)).xs.length) ∧ (s.2 = nodesM ((at_ rs4 ((k : Nat) : Int)).xs.take s.1))) (fun s => (at_ rs4 ((k : Nat) : Int)).xs.length - s.1) (0, 0#64) (show ((0 : Nat) ≤ (at_ rs4 ((k : Nat) : Int)).xs.length) ∧ ((0#64 : BitVec 64) = nodesM ((at_ rs4 ((k : Nat) : Int)).xs.take (0 : Nat))) from ⟨(by omega), rfl⟩) (Sub.cons rfl (Sub.cons rfl (Sub.cons (lookV rfl (by first | rfl | simp)) (Sub.cons rfl (Sub.cons rfl (Sub.cons rfl (Sub.cons rfl (Sub.cons rfl (Sub.cons lookO Sub.nil))))))))) (show Fit κ _ (vc 23 (.slice ad2 rs4.length cp3) (rs4) :: blk b1 [I64 (nd), va] 25 :: (ownR 38 rs4 ++ I)) from Fit.sub) ?_
   rintro ⟨j, m⟩ hp
   obtain ⟨hj, hm⟩ : (j ≤ (at_ rs4 ((k : Nat) : Int)).xs.length) ∧ (m = nodesM ((at_ rs4 ((k : Nat) : Int)).xs.take j)) := hp
   show W Tryd.prog κ 51 _ _ ([(5, U64 (o1)), (6, U64 (o2)), (9, U64 (m)), (18, .slice ad2 rs4.length cp3), (19, I64 (((rs4.length : Nat) : Int))), (20, I64 (((k : Nat) : Int))), (24, .slice (at_ rs4 ((k : Nat) : Int)).a (at_ rs4 ((k : Nat) : Int)).xs.length (at_ rs4 ((k : Nat) : Int)).c), (25, I64 ((((at_ rs4 ((k : Nat) : Int)).xs.length : Nat) : Int))), (26, I64 (((j : Nat) : Int)))] : Env) (vc 23 (.slice ad2 rs4.length cp3) (rs4) :: blk b1 [I64 (nd), va] 25 :: (ownR 38 rs4 ++ I))
   refine W.pull (Sl.le (HeldAll.at (ownR_in (e := 38) (rs := rs4) (fun x hx => by repeat (first | exact List.mem_append_left _ hx | apply List.mem_append_right | apply List.mem_cons_of_mem))) (i := ((k : Nat) : Int)) (by omega) (by omega))) fun hmx2 => ?_
   refine W.sr ?_
   refine G.r (Runs.lss rfl rfl) ?_
   refine G.nt ?_
   refine W.seq ?_
   refine W.ite rfl (fun c27 => ?_) (fun c27 => ?_)
   ·refine W.skip ?_
    refine V.then ?_
    refine W.seq ?_
    refine W.block ?_
    refine W.sr ?_
    refine G.r (Runs.idx (α := Pt) (xs := (at_ rs4 ((k : Nat) : Int)).xs) Tryd.underlying23 ty38 rfl rfl (HeldAll.at (ownR_in (e := 38) (rs := rs4) (fun x hx => by repeat (first | exact List.mem_append_left _ hx | apply List.mem_append_right | apply List.mem_cons_of_mem))) (i := ((k : Nat) : Int)) (by omega) (by omega)) (by omega) (by omega)) ?_
    refine G.r (Runs.gets (α := Pt) (xs := (at_ rs4 ((k : Nat) : Int)).xs) ty38 rfl (HeldAll.at (ownR_in (e := 38) (rs := rs4) (fun x hx => by repeat (first | exact List.mem_append_left _ hx | apply List.mem_append_right | apply List.mem_cons_of_mem))) (i := ((k : Nat) : Int)) (by omega) (by omega)) (by omega) (by omega)) ?_
    refine G.e (Eff.alloc ty38 rfl) ?_
    rintro _ _ ⟨b5, rfl, rfl⟩
    refine G.e (Eff.st (cs := [_, _]) (vs := [_, _]) (cs' := [_, _]) ty38) ?_
    rintro _ _ ⟨rfl, rfl⟩
    refine G.nt ?_
    refine W.drawn mixed ?_
    refine A.hold (blk b5 [I64 ((at_ ((at_ rs4 ((k : Nat) : Int)).xs) ((j : Nat) : Int)).u), I64 ((at_ ((at_ rs4 ((k : Nat) : Int)).xs) ((j : Nat) : Int)).v)] 38 :: vc 23 (.slice ad2 rs4.length cp3) (rs4) :: blk b1 [I64 (nd), va] 25 :: (ownR 38 rs4 ++ I)) 10 ?_
    refine D.r 0 rfl (Runs.move rfl) ?_ (hJ := Fit.sub)
    refine D.r 1 rfl (Runs.fieldAddr fld38_0 rfl) ?_ (hJ := Fit.sub)
    refine D.r 2 rfl (Runs.ld ty3) ?_ (hJ := Fit.sub)
    refine D.r 4 rfl (Runs.fieldAddr fld38_1 rfl) ?_ (hJ := Fit.sub)
    refine D.r 5 rfl (Runs.ld ty3) ?_ (hJ := Fit.sub)
    refine D.step (rs := [3]) (by kernel_rfl) rfl rfl (all1 ?_)
    refine Step.eff rfl (Wanted.plain rfl) (Eff.call call68 rfl rfl (Bit_ok ((at_ ((at_ rs4 ((k : Nat) : Int)).xs) ((j : Nat) : Int)).u))) ?_
    rintro _ _ ⟨_, _, ⟨rfl, rfl⟩, rfl, rfl⟩
    refine ⟨Fit.sub, ?_⟩
    refine D.step (rs := [6]) (by kernel_rfl) rfl rfl (all1 ?_)
    refine Step.eff rfl (Wanted.plain rfl) (Eff.call call68 rfl rfl (Bit_ok ((at_ ((at_ rs4 ((k : Nat) : Int)).xs) ((j : Nat) : Int)).v))) ?_
    rintro _ _ ⟨_, _, ⟨rfl, rfl⟩, rfl, rfl⟩
    refine ⟨Fit.sub, ?_⟩
    refine D.r 7 rfl (Runs.orB (a := bitB ((at_ ((at_ rs4 ((k : Nat) : Int)).xs) ((j : Nat) : Int)).u)) (b := bitB ((at_ ((at_ rs4 ((k : Nat) : Int)).xs) ((j : Nat) : Int)).v)) rfl rfl) ?_ (hJ := Fit.sub)
    refine D.r 8 rfl (Runs.orB (a := m) (b := (bitB ((at_ ((at_ rs4 ((k : Nat) : Int)).xs) ((j : Nat) : Int)).u)) ||| (bitB ((at_ ((at_ rs4 ((k : Nat) : Int)).xs) ((j : Nat) : Int)).v))) rfl rfl) ?_ (hJ := Fit.sub)
    refine D.r 9 rfl (Runs.assign rfl) ?_ (hJ := Fit.sub)
    refine D.done (by kernel_rfl) ?_
    refine V.block_normal ?_
    refine V.then ?_
    refine W.sub (L' := [(9, _), (5, _), (6, _), (18, _), (19, _), (20, _), (24, _), (25, _), (26, _)]) (Sub.cons rfl (Sub.cons rfl (Sub.cons rfl (Sub.cons rfl (Sub.cons rfl (Sub.cons rfl (Sub.cons rfl (Sub.cons rfl (Sub.cons rfl Sub.nil))))))))) ?_
    refine W.region ?_
    refine G.r (Runs.add rfl rfl (by unfold InR; omega)) ?_
    refine G.r (Runs.move rfl) ?_
    refine G.nil ?_
    exact V.next ((j + 1), (m ||| ((bitB ((at_ ((at_ rs4 ((k : Nat) : Int)).xs) ((j : Nat) : Int)).u)) ||| (bitB ((at_ ((at_ rs4 ((k : Nat) : Int)).xs) ((j : Nat) : Int)).v))))) (show ((j + 1 : Nat) ≤ (at_ rs4 ((k : Nat) : Int)).xs.length) ∧ ((m ||| ((bitB ((at_ ((at_ rs4 ((k : Nat) : Int)).xs) ((j : Nat) : Int)).u)) ||| (bitB ((at_ ((at_ rs4 ((k : Nat) : Int)).xs) ((j : Nat) : Int)).v))) : BitVec 64) = nodesM ((at_ rs4 ((k : Nat) : Int)).xs.take (j + 1 : Nat))) from ⟨(by omega), (by rw [nodesM_take (by omega), ← hm])⟩) (show (at_ rs4 ((k : Nat) : Int)).xs.length - (j + 1 : Nat) < (at_ rs4 ((k : Nat) : Int)).xs.length - j from (by omega)) (Sub.cons rfl (Sub.cons rfl (Sub.cons (lookV rfl (by first | rfl | simp)) (Sub.cons rfl (Sub.cons rfl (Sub.cons rfl (Sub.cons rfl (Sub.cons rfl (Sub.cons lookO Sub.nil))))))))) (show Fit κ _ (vc 23 (.slice ad2 rs4.length cp3) (rs4) :: blk b1 [I64 (nd), va] 25 :: (ownR 38 rs4 ++ I)) from Fit.sub)
   ·refine W.exit ?_
    refine V.then_exit ?_
    refine V.then_exit ?_
    refine V.block_hit ?_
    refine V.then ?_
    refine W.sr ?_
    refine G.r (Runs.move rfl) ?_
    have hmf : m = nodesM (at_ rs4 ((k : Nat) : Int)).xs := by rw [hm, List.take_of_length_le (by omega)]
    refine G.r (Runs.move rfl) ?_
    refine G.r (Runs.move rfl) ?_
    refine G.r (Runs.andB (a := o1) (b := m) rfl rfl) ?_
    refine G.r (Runs.orB (a := o2) (b := o1 &&& m) rfl rfl) ?_
    refine G.r (Runs.assign rfl) ?_
    refine G.nt ?_
    refine W.sub (L' := [(6, _), (5, _), (9, _), (18, _), (19, _), (20, _)]) (Sub.cons rfl (Sub.cons rfl (Sub.cons rfl (Sub.cons rfl (Sub.cons rfl (Sub.cons rfl Sub.nil)))))) ?_
    refine W.region ?_
    refine G.r (Runs.move rfl) ?_
    refine G.r (Runs.move rfl) ?_
    refine G.r (Runs.orB (a := o1) (b := m) rfl rfl) ?_
    refine G.r (Runs.assign rfl) ?_
    refine G.nil ?_
    refine V.block_normal ?_
    refine V.then ?_
    refine W.region ?_
    refine G.r (Runs.add rfl rfl (by unfold InR; omega)) ?_
    refine G.r (Runs.move rfl) ?_
    refine G.nil ?_
    exact V.next ((k + 1), (o1 ||| m), (o2 ||| (o1 &&& m))) (show ((k + 1 : Nat) ≤ rs4.length) ∧ (((o1 ||| m : BitVec 64), (o2 ||| (o1 &&& m) : BitVec 64)) = jointM ((blkG nd es).take (k + 1 : Nat))) from ⟨(by omega), (by rw [jointM_take (by rw [len_xs hrs4]; omega), ← ho, at_xs hrs4 (by omega), ← hmf])⟩) (show rs4.length - (k + 1 : Nat) < rs4.length - k from (by omega)) (Sub.cons (lookV rfl (by first | rfl | simp)) (Sub.cons (lookV rfl (by first | rfl | simp)) (Sub.cons rfl (Sub.cons rfl (Sub.cons lookO Sub.nil))))) (show Fit κ _ (vc 23 (.slice ad2 rs4.length cp3) (rs4) :: blk b1 [I64 (nd), va] 25 :: (ownR 38 rs4 ++ I)) from Fit.sub)
  ·refine W.exit ?_
   refine V.then_exit ?_
   refine V.then_exit ?_
   refine V.block_hit ?_
   refine V.then ?_
   refine W.sr ?_
   refine G.r (Runs.move rfl) ?_
   refine G.e (Eff.call call69 rfl rfl (MList_ok o2 (TabRd.fit hT Fit.m))) ?_
   rintro _ _ ⟨_, _, ⟨ad6, cp7, rfl, rfl⟩, rfl, rfl⟩
   refine G.r (Runs.assign rfl) ?_
   refine G.r (Runs.assign rfl) ?_
   refine G.nt ?_
   refine W.ret ?_
   have hz : checkG nd es = 0 := Classical.not_not.1 c15
   have hX : (jointsG nd es) = listB o2 := by unfold jointsG; rw [if_neg c15]; rw [List.take_of_length_le (by rw [len_xs hrs4]; omega)] at ho; rw [← ho]
   exact V.ret2 rfl rfl rfl (vc 3 (.slice ad6 (jointsG nd es).length cp7) (jointsG nd es) :: I) (by rw [hX]; first | exact Fit.sub | exact Fit.s) ⟨ad6, cp7, by rw [hX, hz], rfl⟩

end Go.Sl
namespace Go.Sl
open Go.Proofs
set_option linter.unusedVariables false
set_option linter.unusedSimpArgs false
set_option maxRecDepth 4000
def bowE : List Pt := [⟨0, 1⟩, ⟨0, 2⟩, ⟨1, 2⟩, ⟨2, 3⟩, ⟨2, 4⟩, ⟨3, 4⟩]
theorem bow_check : checkG 5 bowE = 0 := by decide +kernel
theorem bow_blocks : (blksG 5 bowE).length = 2 := by decide +kernel
theorem bow_joints : jointsG 5 bowE = [2] := by decide +kernel
theorem bow_comps : (compsG 5 bowE).length = 1 := by decide +kernel

theorem Bow_ok {κ : Ctx} {I : List Item}  :
    CallS Tryd.prog κ 73 [] I (fun r J => ∃ a, r = .agg #[I64 5, .slice a bowE.length 6] ∧ J = vc 38 (.slice a bowE.length 6) bowE :: I) := by
 refine CallS.enter (L := []) Tryd.func73 rfl rfl rfl rfl ?_
 refine W.sr ?_
 refine G.e (Eff.alloc ty25 rfl) ?_
 rintro _ _ ⟨b1, rfl, rfl⟩
 refine G.nt ?_
 refine W.sr ?_
 refine G.r (Runs.build (cells := [_, _]) ty38 Tryd.underlying38 pl38 rfl rfl) ?_
 refine G.r (Runs.build (cells := [_, _]) ty38 Tryd.underlying38 pl38 rfl rfl) ?_
 refine G.r (Runs.build (cells := [_, _]) ty38 Tryd.underlying38 pl38 rfl rfl) ?_
 refine G.r (Runs.build (cells := [_, _]) ty38 Tryd.underlying38 pl38 rfl rfl) ?_
 refine G.r (Runs.build (cells := [_, _]) ty38 Tryd.underlying38 pl38 rfl rfl) ?_
 refine G.r (Runs.build (cells := [_, _]) ty38 Tryd.underlying38 pl38 rfl rfl) ?_
 refine G.e (Eff.bs (α := Pt) (cs := [I64 (0), I64 (1), I64 (0), I64 (2), I64 (1), I64 (2), I64 (2), I64 (3), I64 (2), I64 (4), I64 (3), I64 (4)]) (xs := [⟨0, 1⟩, ⟨0, 2⟩, ⟨1, 2⟩, ⟨2, 3⟩, ⟨2, 4⟩, ⟨3, 4⟩]) Tryd.underlying23 ty38 rfl rfl (by decide) (by decide) rfl (by kernel_rfl) rfl rfl) ?_
 rintro _ _ ⟨ad2, rfl, rfl⟩
 refine G.r (Runs.build (cells := [_, _]) ty25 Tryd.underlying25 pl25 rfl rfl) ?_
 refine G.e (Eff.st (cs := [_, _]) (vs := [_, _]) (cs' := [_, _]) ty25) ?_
 rintro _ _ ⟨rfl, rfl⟩
 refine G.nt ?_
 refine W.ret ?_
 exact V.retc rfl ty25 rfl (by repeat (first | exact List.mem_cons_self | apply List.mem_cons_of_mem)) rfl (vc 38 (.slice ad2 bowE.length 6) bowE :: I) Fit.sub ⟨ad2, rfl, rfl⟩

set_option maxHeartbeats 1000000 in
theorem Awake15_ok {κ : Ctx} {I : List Item} (hT : TabRd κ I 0 tzCells) :
    CallS Tryd.prog κ 20 [] I (fun r J => r = .bool true ∧ I = J) := by
 refine CallS.enter (L := []) Tryd.func20 rfl rfl rfl rfl ?_
 refine W.sr ?_
 refine G.r (Runs.assign rfl) ?_
 refine G.nt ?_
 refine W.sr ?_
 refine G.e (Eff.call call73 rfl rfl Bow_ok) ?_
 rintro _ _ ⟨_, _, ⟨ad1, rfl, rfl⟩, rfl, rfl⟩
 refine G.e (Eff.call call14 rfl rfl (BlksC_ok (nd := 5) Sl.o (TabRd.fit hT Fit.m))) ?_
 rintro _ _ ⟨_, _, ⟨ad2, cp3, rs4, rfl, hrs4, hbrs4, rfl⟩, rfl, rfl⟩
 refine G.fit (J := vc 23 (.slice ad2 rs4.length cp3) (rs4) :: vc 38 (.slice ad1 bowE.length 6) (bowE) :: (ownR 38 rs4 ++ I)) Fit.s ?_
 refine G.r (Runs.move rfl) ?_
 refine G.r (Runs.extract rfl rfl) ?_
 refine G.r (Runs.extract rfl rfl) ?_
 refine G.r (Runs.assign rfl) ?_
 refine G.r (Runs.assign rfl) ?_
 refine G.nt ?_
 refine W.sr ?_
 refine G.e (Eff.call call73 rfl rfl Bow_ok) ?_
 rintro _ _ ⟨_, _, ⟨ad5, rfl, rfl⟩, rfl, rfl⟩
 refine G.e (Eff.call call16 rfl rfl (Joints_ok (nd := 5) Sl.o (TabRd.fit hT Fit.m))) ?_
 rintro _ _ ⟨_, _, ⟨ad6, cp7, rfl, rfl⟩, rfl, rfl⟩
 refine G.r (Runs.move rfl) ?_
 refine G.r (Runs.extract rfl rfl) ?_
 refine G.r (Runs.extract rfl rfl) ?_
 refine G.r (Runs.assign rfl) ?_
 refine G.r (Runs.assign rfl) ?_
 refine G.nt ?_
 refine W.sub (L' := [(4, _), (3, _), (2, _), (1, _)]) (Sub.cons rfl (Sub.cons rfl (Sub.cons rfl (Sub.cons rfl Sub.nil)))) ?_
 refine W.sr ?_
 refine G.e (Eff.call call73 rfl rfl Bow_ok) ?_
 rintro _ _ ⟨_, _, ⟨ad8, rfl, rfl⟩, rfl, rfl⟩
 refine G.e (Eff.call call28 rfl rfl (Components_ok (nd := 5) Sl.o (TabRd.fit hT Fit.m))) ?_
 rintro _ _ ⟨_, _, ⟨ad9, cp10, rs11, rfl, hrs11, rfl⟩, rfl, rfl⟩
 refine G.fit (J := vc 22 (.slice ad9 rs11.length cp10) (rs11) :: vc 38 (.slice ad8 bowE.length 6) (bowE) :: vc 3 (.slice ad6 (jointsG 5 bowE).length cp7) (jointsG 5 bowE) :: vc 38 (.slice ad5 bowE.length 6) (bowE) :: vc 23 (.slice ad2 rs4.length cp3) (rs4) :: vc 38 (.slice ad1 bowE.length 6) (bowE) :: (ownR 3 rs11 ++ (ownR 38 rs4 ++ I))) Fit.s ?_
 refine G.r (Runs.move rfl) ?_
 refine G.r (Runs.extract rfl rfl) ?_
 refine G.r (Runs.extract rfl rfl) ?_
 refine G.r (Runs.assign rfl) ?_
 refine G.r (Runs.assign rfl) ?_
 refine G.nt ?_
 refine W.sr ?_
 refine G.r (Runs.move rfl) ?_
 refine G.r (Runs.eql rfl rfl) ?_
 refine G.r (Runs.move rfl) ?_
 refine G.split (d := 24) rfl (fun g24 => ?_) (fun g24 => ?_)
 ·refine G.ro (Runs.move rfl) ?_
  refine G.ro (Runs.eql rfl rfl) ?_
  refine G.r (Runs.pickt rfl rfl) ?_
  refine G.r (Runs.move rfl) ?_
  refine G.split (d := 28) rfl (fun g28 => ?_) (fun g28 => ?_)
  ·refine G.ro (Runs.move rfl) ?_
   refine G.ro (Runs.eql rfl rfl) ?_
   refine G.r (Runs.pickt rfl rfl) ?_
   refine G.r (Runs.move rfl) ?_
   refine G.split (d := 32) rfl (fun g32 => ?_) (fun g32 => ?_)
   ·refine G.ro (Runs.move rfl) ?_
    refine G.ro (Runs.lens Tryd.underlying29 rfl) ?_
    refine G.ro (Runs.eql rfl rfl) ?_
    refine G.r (Runs.pickt rfl rfl) ?_
    refine G.r (Runs.move rfl) ?_
    refine G.split (d := 37) rfl (fun g37 => ?_) (fun g37 => ?_)
    ·refine G.ro (Runs.move rfl) ?_
     refine G.eff (Wanted.on rfl rfl rfl) (Eff.bs (α := Int) (cs := [_]) (xs := [2]) Tryd.underlying22 ty3 rfl rfl (by decide) (by decide) rfl rfl rfl rfl) ?_
     rintro _ _ ⟨ad12, rfl, rfl⟩
     refine G.eff (Wanted.on rfl rfl rfl) (Eff.call call27 rfl rfl (Same_ok Sl.o Sl.o)) ?_
     rintro _ _ ⟨_, _, ⟨rfl, rfl⟩, rfl, rfl⟩
     refine G.r (Runs.pickt rfl rfl) ?_
     refine G.r (Runs.move rfl) ?_
     refine G.split (d := 42) rfl (fun g42 => ?_) (fun g42 => ?_)
     ·refine G.ro (Runs.move rfl) ?_
      refine G.ro (Runs.lens Tryd.underlying50 rfl) ?_
      refine G.ro (Runs.eql rfl rfl) ?_
      refine G.r (Runs.pickt rfl rfl) ?_
      refine G.r (Runs.assign rfl) ?_
      refine G.nt ?_
      refine W.sub (L' := [(0, _)]) (Sub.cons rfl Sub.nil) ?_
      refine W.ret ?_
      exact V.ret1 rfl rfl (I) Fit.m ⟨by rw [decide_eq_true (by have := len_xs hrs11; rw [bow_comps] at this; omega)], rfl⟩
     ·exact absurd bow_joints g42
    ·exact absurd (by have := len_xs hrs4; rw [bow_blocks] at this; omega) g37
   ·exact absurd bow_check g32
  ·exact absurd bow_check g28
 ·exact absurd bow_check g24

end Go.Sl
