/- A part of the proofs of statements of this seat: contracts of functions, and the plain laws that they lean on. No conditions. -/
import Derived.Test.YtbimaodbcjjbfaaDoorKed8
import Derived.Test.YtbimaodbcjjbfaaDoorParts8
namespace Go.Sl
open Go.Proofs
set_option linter.unusedVariables false
set_option linter.unusedSimpArgs false
set_option maxRecDepth 4000
def lightK (nd : Int) (es : List Pt) : Bool := decide ((es.length : Int) ≤ 25) && (decide (nd ≤ 10) || decide (checkG nd es ≠ 0))
theorem lightK_len {nd : Int} {es : List Pt} (h : lightK nd es = true) : es.length ≤ 25 := by
  unfold lightK at h
  rw [Bool.and_eq_true] at h
  have := of_decide_eq_true h.1; omega
theorem HeldAll.two {κ : Ctx} {I : List Item} {α : Type} [Enc α] {r t : RowG α} (h : RowG.Held κ I r) (h' : RowG.Held κ I t) : HeldAll κ I [r, t] := fun x hx => by
  simp only [List.mem_cons, List.not_mem_nil, or_false] at hx
  rcases hx with rfl | rfl
  · exact h
  · exact h'
theorem least_eq {nd val val' : Int} {es : List Pt} {side : List Int} (h : LeastR nd es side val) (h' : (leastE nd es ≠ 0 → val' = 0) ∧ (leastE nd es = 0 → ∃ side, LeastOf es nd 0 ((rangeI nd).drop 1) side val')) : val = val' := by
  by_cases h0 : leastE nd es = 0
  · obtain ⟨s, hs⟩ := h'.2 h0
    exact (h.2 h0).uniq hs
  · rw [(h.1 h0).2, h'.1 h0]
theorem least_side {nd val : Int} {es : List Pt} {side : List Int} (h : LeastR nd es side val) (h0 : leastE nd es = 0) : lvR nd es side = val ∧ lvEr nd es side = 0 ∧ 0 ∈ side ∧ (side.length : Int) < nd := by
  obtain ⟨y, hy, hm, _⟩ := h.2 h0
  have hc : checkG nd es = 0 := Classical.byContradiction fun hc => by unfold leastE at h0; rw [if_pos hc] at h0; exact hc h0
  have he : lvEr nd es side = 0 := by unfold lvEr; rw [if_neg (by rw [hc]; decide), if_pos hm.valid]
  refine ⟨by unfold lvR; rw [if_neg (by rw [he]; decide)]; exact hm.eq, he, hm.src, ?_⟩
  have hyr := mem_rangeI.1 (List.mem_of_mem_drop hy)
  have hn : (y :: side).Nodup := List.nodup_cons.2 ⟨hm.snk, valid_nodup hm.valid⟩
  have hb := (ValidP_iff.1 hm.valid).1
  have hr := (checkG_ok.1 hc).rng
  have hl := List.Nodup.length_le_of_subset (l₂ := rangeI nd) hn fun z hz => by
    rw [mem_rangeI]
    rcases List.mem_cons.1 hz with rfl | hz
    · exact hyr
    · have := hb z hz; omega
  have hrl : (rangeI nd).length = nd.toNat := by unfold rangeI; simp; omega
  rw [hrl, List.length_cons] at hl
  omega

theorem Light17_ok {κ : Ctx} {I : List Item} {nd : Int} {va : Value} {es : List Pt} (hl : Sl κ I va es) :
    CallS Tryd.prog κ 49 [.agg #[I64 (nd), va]] I (fun r J => r = .bool (lightK nd es) ∧ I = J) := by
 refine CallS.enter (L := [(0, .agg #[I64 (nd), va])]) Tryd.func49 rfl rfl rfl rfl ?_
 refine W.sr ?_
 refine G.e (Eff.box (cs := [_, _]) rfl rfl rfl) ?_
 rintro _ _ ⟨b1, rfl, rfl⟩
 refine G.r (Runs.assign rfl) ?_
 refine G.nt ?_
 refine W.sr ?_
 refine G.r (Runs.fieldAddr fld25_1 rfl) ?_
 refine G.r (Runs.ld ty23) ?_
 refine G.r (Runs.lenT (α := Pt) (xs := es) Tryd.underlying23 rfl (Sl.f hl)) ?_
 refine G.r (Runs.leq rfl rfl) ?_
 refine G.r (Runs.move rfl) ?_
 refine G.split (d := 7) rfl (fun g7 => ?_) (fun g7 => ?_)
 ·refine G.ro (Runs.fieldAddr fld25_0 rfl) ?_
  refine G.ro (Runs.ld ty3) ?_
  refine G.ro (Runs.leq rfl rfl) ?_
  refine G.ro (Runs.move rfl) ?_
  refine G.split (d := 11) rfl (fun g11 => ?_) (fun g11 => ?_)
  ·refine G.po ?_
   refine G.po ?_
   refine G.po ?_
   refine G.ro (Runs.pickt rfl rfl) ?_
   refine G.r (Runs.pickt rfl rfl) ?_
   refine G.r (Runs.assign rfl) ?_
   refine G.nt ?_
   refine W.sub (L' := [(2, _)]) (Sub.cons rfl Sub.nil) ?_
   refine W.ret ?_
   exact V.ret1 rfl rfl (I) Fit.m ⟨by unfold lightK; first | (rw [decide_eq_true g7, decide_eq_true g11]; rfl) | (rw [decide_eq_true g7, decide_eq_false g11]; rfl) | (rw [decide_eq_false g7]; rfl), rfl⟩
  ·refine G.ro (Runs.lds (vs := [_, _]) ty25) ?_
   refine G.eff (Wanted.on rfl rfl rfl) (Eff.call call70 rfl rfl (Check03G_ok (nd := nd) (Sl.f hl))) ?_
   rintro _ _ ⟨_, _, ⟨rfl, rfl⟩, rfl, rfl⟩
   refine G.ro (Runs.neq rfl rfl) ?_
   refine G.ro (Runs.pickf rfl rfl) ?_
   refine G.r (Runs.pickt rfl rfl) ?_
   refine G.r (Runs.assign rfl) ?_
   refine G.nt ?_
   refine W.sub (L' := [(2, _)]) (Sub.cons rfl Sub.nil) ?_
   refine W.ret ?_
   exact V.ret1 rfl rfl (I) Fit.m ⟨by unfold lightK; first | (rw [decide_eq_true g7, decide_eq_true g11]; rfl) | (rw [decide_eq_true g7, decide_eq_false g11]; rfl) | (rw [decide_eq_false g7]; rfl), rfl⟩
 ·refine G.po ?_
  refine G.po ?_
  refine G.po ?_
  refine G.po ?_
  refine G.pu ?_
  refine G.pu ?_
  refine G.pu ?_
  refine G.po ?_
  refine G.r (Runs.pickf rfl rfl) ?_
  refine G.r (Runs.assign rfl) ?_
  refine G.nt ?_
  refine W.sub (L' := [(2, _)]) (Sub.cons rfl Sub.nil) ?_
  refine W.ret ?_
  exact V.ret1 rfl rfl (I) Fit.m ⟨by unfold lightK; first | (rw [decide_eq_true g7, decide_eq_true g11]; rfl) | (rw [decide_eq_true g7, decide_eq_false g11]; rfl) | (rw [decide_eq_false g7]; rfl), rfl⟩

set_option maxHeartbeats 4000000 in
theorem KedgeCuts_walk {κ : Ctx} {I : List Item} {nd : Int} {ra : Option Addr} {rc : Nat} {rx : List Pt} (hrx : Sl κ I (.slice ra rx.length rc) rx) {sa : Option Addr} {sc : Nat} {sx : List Int} (hsx : Sl κ I (.slice sa sx.length sc) sx) {la : Option Addr} {ln lc : Nat} {ls : List Int} (hl : Sl κ I (.slice la ln lc) ls) (u v : Int) (hT : TabRd κ I 0 tzCells) :
    CallS Tryd.prog κ 8 [.agg #[I64 (nd), .slice ra rx.length rc], .slice sa sx.length sc, .slice la ln lc, I64 (u), I64 (v)] I (fun r J => r = .bool true ∧ I = J) := by
 refine CallS.pull hrx.le fun hmx1 => ?_
 refine CallS.pull hsx.le fun hmx2 => ?_
 refine CallS.enter (L := [(0, .agg #[I64 (nd), .slice ra rx.length rc]), (1, .slice sa sx.length sc), (2, .slice la ln lc), (3, I64 (u)), (4, I64 (v))]) Tryd.func8 rfl rfl rfl rfl ?_
 refine W.sr ?_
 refine G.e (Eff.box (cs := [_, _]) rfl rfl rfl) ?_
 rintro _ _ ⟨b1, rfl, rfl⟩
 refine G.r (Runs.assign rfl) ?_
 refine G.nt ?_
 refine W.seq ?_
 refine W.sr ?_
 refine G.r (Runs.lds (vs := [_, _]) ty25) ?_
 refine G.e (Eff.call call49 rfl rfl (Light17_ok (nd := nd) (Sl.f hrx))) ?_
 rintro _ _ ⟨_, _, ⟨rfl, rfl⟩, rfl, rfl⟩
 refine G.r (Runs.not rfl) ?_
 refine G.r (Runs.move rfl) ?_
 refine G.splitb (d := 38) rfl (fun g38 => ?_) (fun g38 => ?_)
 ·refine G.po ?_
  refine G.po ?_
  refine G.po ?_
  refine G.r (Runs.pickt rfl rfl) ?_
  refine G.nt ?_
  refine W.sub (L' := [(42, _), (5, _), (1, _), (2, _), (3, _), (4, _)]) (Sub.cons rfl (Sub.cons rfl (Sub.cons rfl (Sub.cons rfl (Sub.cons rfl (Sub.cons rfl Sub.nil)))))) ?_
  refine W.yes rfl ?_
  refine W.sr ?_
  refine G.e (Eff.call call42 rfl rfl (Awake17_ok (TabRd.fit hT Fit.m))) ?_
  rintro _ _ ⟨_, _, ⟨rfl, rfl⟩, rfl, rfl⟩
  refine G.r (Runs.assign rfl) ?_
  refine G.nt ?_
  refine W.ret ?_
  refine V.then_ret ?_
  exact V.ret1 rfl rfl (I) Fit.m ⟨rfl, rfl⟩
 ·refine G.ro (Runs.move rfl) ?_
  refine G.ro (Runs.lens Tryd.underlying22 rfl) ?_
  refine G.ro (Runs.gtr rfl rfl) ?_
  refine G.r (Runs.pickf rfl rfl) ?_
  refine G.nt ?_
  refine W.sub (L' := [(42, _), (5, _), (1, _), (2, _), (3, _), (4, _)]) (Sub.cons rfl (Sub.cons rfl (Sub.cons rfl (Sub.cons rfl (Sub.cons rfl (Sub.cons rfl Sub.nil)))))) ?_
  refine W.ite rfl (fun c42 => ?_) (fun c42 => ?_)
  ·refine W.sr ?_
   refine G.e (Eff.call call42 rfl rfl (Awake17_ok (TabRd.fit hT Fit.m))) ?_
   rintro _ _ ⟨_, _, ⟨rfl, rfl⟩, rfl, rfl⟩
   refine G.r (Runs.assign rfl) ?_
   refine G.nt ?_
   refine W.ret ?_
   refine V.then_ret ?_
   exact V.ret1 rfl rfl (I) Fit.m ⟨rfl, rfl⟩
  ·refine W.skip ?_
   refine V.then ?_
   refine W.sr ?_
   refine G.r (Runs.move rfl) ?_
   have hrb : rx.length ≤ 25 := lightK_len (by simpa using g38)
   refine G.e (Eff.call call13 rfl rfl New_ok) ?_
   rintro _ _ ⟨_, _, ⟨dk2, rfl, rfl⟩, rfl, rfl⟩
   show G Tryd.prog κ _ _ _ _ ([(45, .pointer (some ⟨dk2, 0, none⟩)), (44, .slice la ln lc), (42, .bool (decide (40 < ((sx.length : Nat) : Int)))), (5, .pointer (some ⟨b1, 0, none⟩)), (1, .slice sa sx.length sc), (2, .slice la ln lc), (3, I64 (u)), (4, I64 (v))] : Env) (blk dk2 [.slice la ln lc, I64 (0)] 96 :: blk b1 [I64 (nd), .slice ra rx.length rc] 25 :: I)
   have hi0 : (0 : Int) ≤ 0 := Int.le_refl _
   refine G.r (Runs.assign rfl) ?_
   refine G.nt ?_
   refine W.sr ?_
   refine G.r (Runs.move rfl) ?_
   refine G.e (Eff.call call12 rfl rfl (MkGraph_at (by repeat (first | exact AtF.head _ _ | apply AtF.tail)) (fun _ => Sl.fit hl Fit.m) (by omega)  (by omega))) ?_
   rintro _ _ ⟨_, _, ⟨⟨nd3, ad4, cp5, es6, i7⟩, ⟨⟨rfl, hges6⟩, hi7⟩, rfl⟩, rfl, rfl⟩
   show G Tryd.prog κ _ _ _ _ ([(47, .agg #[I64 (nd3), .slice ad4 es6.length cp5]), (46, .pointer (some ⟨dk2, 0, none⟩)), (11, .pointer (some ⟨dk2, 0, none⟩)), (45, .pointer (some ⟨dk2, 0, none⟩)), (44, .slice la ln lc), (42, .bool (decide (40 < ((sx.length : Nat) : Int)))), (5, .pointer (some ⟨b1, 0, none⟩)), (1, .slice sa sx.length sc), (2, .slice la ln lc), (3, I64 (u)), (4, I64 (v))] : Env) (vc 38 (.slice ad4 es6.length cp5) (es6) :: blk dk2 [.slice la ln lc, I64 (i7)] 96 :: blk b1 [I64 (nd), .slice ra rx.length rc] 25 :: I)
   have hi7 : 0 ≤ i7 := hi7
   dsimp only at hges6
   have hG := hges6.2.1
   have hel := hges6.2.2
   have hnd := hges6.1
   refine G.e (Eff.alloc ty25 rfl) ?_
   rintro _ _ ⟨b8, rfl, rfl⟩
   refine G.e (Eff.st (cs := [_, _]) (vs := [_, _]) (cs' := [_, _]) ty25) ?_
   rintro _ _ ⟨rfl, rfl⟩
   refine G.nt ?_
   refine W.seq ?_
   refine W.sr ?_
   refine G.r (Runs.lds (vs := [_, _]) ty25) ?_
   refine G.r (Runs.lds (vs := [_, _]) ty25) ?_
   refine G.e (Eff.bs (α := GrV) (cs := [_, _, _, _]) (xs := [⟨nd3, ad4, cp5, es6⟩, ⟨nd, ra, rc, rx⟩]) Tryd.underlying59 ty25 rfl rfl (by decide) (by decide) rfl rfl rfl rfl) ?_
   rintro _ _ ⟨ad9, rfl, rfl⟩
   have hhg : HeldGr κ (vc 38 (.slice ad4 es6.length cp5) (es6) :: I) ([⟨nd3, ad4, cp5, es6⟩, ⟨nd, ra, rc, rx⟩] : List GrV) := (HeldGr.cons (show Sl κ _ (.slice ad4 es6.length cp5) es6 from Sl.vec (by repeat (first | exact List.mem_cons_self | apply List.mem_cons_of_mem))) (HeldGr.cons (show Sl κ _ (.slice ra rx.length rc) rx from Sl.fit hrx Fit.m) HeldGr.nil))
   have hgl2 : ([⟨nd3, ad4, cp5, es6⟩, ⟨nd, ra, rc, rx⟩] : List GrV).length = 2 := rfl
   have hgb : ∀ r ∈ ([⟨nd3, ad4, cp5, es6⟩, ⟨nd, ra, rc, rx⟩] : List GrV), r.xs.length ≤ 400 := by intro r hr; simp only [List.mem_cons, List.not_mem_nil, or_false] at hr; rcases hr with rfl | rfl <;> dsimp only <;> omega
   refine G.r (Runs.lens Tryd.underlying59 rfl) ?_
   refine G.r (Runs.move rfl) ?_
   refine G.nt ?_
   refine W.sub (L' := [(52, _), (51, _), (50, _), (11, _), (1, _), (3, _), (4, _)]) (Sub.cons rfl (Sub.cons rfl (Sub.cons rfl (Sub.cons rfl (Sub.cons rfl (Sub.cons rfl (Sub.cons rfl Sub.nil))))))) ?_
   refine W.block ?_
   refine W.loop (σ := Nat × Int) (fun s => ([(1, .slice sa sx.length sc), (3, I64 (u)), (4, I64 (v)), (11, .pointer (some ⟨dk2, 0, none⟩)), (50, .slice ad9 2 2), (51, I64 (((2 : Nat) : Int))), (52, I64 (((s.1 : Nat) : Int)))] : Env)) (fun s => vc 25 (.slice ad9 2 2) (([⟨nd3, ad4, cp5, es6⟩, ⟨nd, ra, rc, rx⟩] : List GrV)) :: blk b8 [I64 (nd3), .slice ad4 es6.length cp5] 25 :: vc 38 (.slice ad4 es6.length cp5) (es6) :: blk dk2 [.slice la ln lc, I64 (s.2)] 96 :: blk b1 [I64 (nd), .slice ra rx.length rc] 25 :: I) (fun s => (s.1 ≤ ([⟨nd3, ad4, cp5, es6⟩, ⟨nd, ra, rc, rx⟩] : List GrV).length) ∧ (0 ≤ s.2)) (fun s => ([⟨nd3, ad4, cp5, es6⟩, ⟨nd, ra, rc, rx⟩] : List GrV).length - s.1) (0, i7) (show ((0 : Nat) ≤ ([⟨nd3, ad4, cp5, es6⟩, ⟨nd, ra, rc, rx⟩] : List GrV).length) ∧ (0 ≤ (i7 : Int)) from ⟨(by omega), (by omega)⟩) (Sub.cons rfl (Sub.cons rfl (Sub.cons rfl (Sub.cons rfl (Sub.cons rfl (Sub.cons rfl (Sub.cons lookO Sub.nil))))))) (show Fit κ _ (vc 25 (.slice ad9 2 2) (([⟨nd3, ad4, cp5, es6⟩, ⟨nd, ra, rc, rx⟩] : List GrV)) :: blk b8 [I64 (nd3), .slice ad4 es6.length cp5] 25 :: vc 38 (.slice ad4 es6.length cp5) (es6) :: blk dk2 [.slice la ln lc, I64 ((i7))] 96 :: blk b1 [I64 (nd), .slice ra rx.length rc] 25 :: I) from Fit.sub) ?_
   rintro ⟨k, iqz⟩ hp
   obtain ⟨hk, hiqz⟩ : (k ≤ ([⟨nd3, ad4, cp5, es6⟩, ⟨nd, ra, rc, rx⟩] : List GrV).length) ∧ (0 ≤ iqz) := hp
   show W Tryd.prog κ 195 _ _ ([(1, .slice sa sx.length sc), (3, I64 (u)), (4, I64 (v)), (11, .pointer (some ⟨dk2, 0, none⟩)), (50, .slice ad9 2 2), (51, I64 (((2 : Nat) : Int))), (52, I64 (((k : Nat) : Int)))] : Env) (vc 25 (.slice ad9 2 2) (([⟨nd3, ad4, cp5, es6⟩, ⟨nd, ra, rc, rx⟩] : List GrV)) :: blk b8 [I64 (nd3), .slice ad4 es6.length cp5] 25 :: vc 38 (.slice ad4 es6.length cp5) (es6) :: blk dk2 [.slice la ln lc, I64 (iqz)] 96 :: blk b1 [I64 (nd), .slice ra rx.length rc] 25 :: I)
   have hxl : k < ([⟨nd3, ad4, cp5, es6⟩, ⟨nd, ra, rc, rx⟩] : List GrV).length → (at_ ([⟨nd3, ad4, cp5, es6⟩, ⟨nd, ra, rc, rx⟩] : List GrV) ((k : Nat) : Int)).xs.length ≤ 400 := fun h => hgb _ (at_mem (by omega) (by omega))
   refine W.sr ?_
   refine G.r (Runs.lss rfl rfl) ?_
   refine G.nt ?_
   refine W.seq ?_
   refine W.ite rfl (fun c53 => ?_) (fun c53 => ?_)
   ·refine W.skip ?_
    refine V.then ?_
    refine W.seq ?_
    refine W.block ?_
    refine W.sr ?_
    refine G.r (Runs.idx (α := GrV) (xs := ([⟨nd3, ad4, cp5, es6⟩, ⟨nd, ra, rc, rx⟩] : List GrV)) Tryd.underlying59 ty25 rfl rfl Sl.o (by omega) (by omega)) ?_
    refine G.r (Runs.gets (α := GrV) (xs := ([⟨nd3, ad4, cp5, es6⟩, ⟨nd, ra, rc, rx⟩] : List GrV)) ty25 rfl Sl.o (by omega) (by omega)) ?_
    refine G.e (Eff.alloc ty25 rfl) ?_
    rintro _ _ ⟨b10, rfl, rfl⟩
    refine G.e (Eff.st (cs := [_, _]) (vs := [_, _]) (cs' := [_, _]) ty25) ?_
    rintro _ _ ⟨rfl, rfl⟩
    refine G.nt ?_
    refine W.seq ?_
    refine W.sr ?_
    refine G.r (Runs.move rfl) ?_
    refine G.r (Runs.move rfl) ?_
    refine G.r (Runs.buildArr (cells := [_, _]) ty63 Tryd.underlying63 ty3 rfl rfl) ?_
    refine G.r (Runs.move rfl) ?_
    refine G.e (Eff.call call22 rfl rfl (Next_ok (by repeat (first | exact AtF.head _ _ | apply AtF.tail)) (Sl.f hl) (by omega) (by omega))) ?_
    rintro _ _ ⟨_, _, ⟨x11, i12, rfl, hx11, hi12, rfl⟩, rfl, rfl⟩
    show G Tryd.prog κ _ _ _ _ ([(60, I64 (x11)), (59, .pointer (some ⟨dk2, 0, none⟩)), (58, .agg #[I64 (u), I64 (v)]), (57, I64 (v)), (56, I64 (u)), (14, .pointer (some ⟨b10, 0, none⟩)), (55, .agg #[I64 ((at_ ([⟨nd3, ad4, cp5, es6⟩, ⟨nd, ra, rc, rx⟩] : List GrV) ((k : Nat) : Int)).n), .slice (at_ ([⟨nd3, ad4, cp5, es6⟩, ⟨nd, ra, rc, rx⟩] : List GrV) ((k : Nat) : Int)).a (at_ ([⟨nd3, ad4, cp5, es6⟩, ⟨nd, ra, rc, rx⟩] : List GrV) ((k : Nat) : Int)).xs.length (at_ ([⟨nd3, ad4, cp5, es6⟩, ⟨nd, ra, rc, rx⟩] : List GrV) ((k : Nat) : Int)).c]), (54, elemPtr (.slice ad9 2 2) ((((k : Nat) : Int)).toNat * Enc.sz GrV)), (53, .bool (decide (((k : Nat) : Int) < ((2 : Nat) : Int)))), (1, .slice sa sx.length sc), (3, I64 (u)), (4, I64 (v)), (11, .pointer (some ⟨dk2, 0, none⟩)), (50, .slice ad9 2 2), (51, I64 (((2 : Nat) : Int))), (52, I64 (((k : Nat) : Int)))] : Env) (blk b10 [I64 ((at_ ([⟨nd3, ad4, cp5, es6⟩, ⟨nd, ra, rc, rx⟩] : List GrV) ((k : Nat) : Int)).n), .slice (at_ ([⟨nd3, ad4, cp5, es6⟩, ⟨nd, ra, rc, rx⟩] : List GrV) ((k : Nat) : Int)).a (at_ ([⟨nd3, ad4, cp5, es6⟩, ⟨nd, ra, rc, rx⟩] : List GrV) ((k : Nat) : Int)).xs.length (at_ ([⟨nd3, ad4, cp5, es6⟩, ⟨nd, ra, rc, rx⟩] : List GrV) ((k : Nat) : Int)).c] 25 :: vc 25 (.slice ad9 2 2) (([⟨nd3, ad4, cp5, es6⟩, ⟨nd, ra, rc, rx⟩] : List GrV)) :: blk b8 [I64 (nd3), .slice ad4 es6.length cp5] 25 :: vc 38 (.slice ad4 es6.length cp5) (es6) :: blk dk2 [.slice la ln lc, I64 (i12)] 96 :: blk b1 [I64 (nd), .slice ra rx.length rc] 25 :: I)
    refine G.r (Runs.move rfl) ?_
    refine G.e (Eff.call call22 rfl rfl (Next_ok (by repeat (first | exact AtF.head _ _ | apply AtF.tail)) (Sl.f hl) (by omega) (by omega))) ?_
    rintro _ _ ⟨_, _, ⟨x13, i14, rfl, hx13, hi14, rfl⟩, rfl, rfl⟩
    show G Tryd.prog κ _ _ _ _ ([(62, I64 (x13)), (61, .pointer (some ⟨dk2, 0, none⟩)), (60, I64 (x11)), (59, .pointer (some ⟨dk2, 0, none⟩)), (58, .agg #[I64 (u), I64 (v)]), (57, I64 (v)), (56, I64 (u)), (14, .pointer (some ⟨b10, 0, none⟩)), (55, .agg #[I64 ((at_ ([⟨nd3, ad4, cp5, es6⟩, ⟨nd, ra, rc, rx⟩] : List GrV) ((k : Nat) : Int)).n), .slice (at_ ([⟨nd3, ad4, cp5, es6⟩, ⟨nd, ra, rc, rx⟩] : List GrV) ((k : Nat) : Int)).a (at_ ([⟨nd3, ad4, cp5, es6⟩, ⟨nd, ra, rc, rx⟩] : List GrV) ((k : Nat) : Int)).xs.length (at_ ([⟨nd3, ad4, cp5, es6⟩, ⟨nd, ra, rc, rx⟩] : List GrV) ((k : Nat) : Int)).c]), (54, elemPtr (.slice ad9 2 2) ((((k : Nat) : Int)).toNat * Enc.sz GrV)), (53, .bool (decide (((k : Nat) : Int) < ((2 : Nat) : Int)))), (1, .slice sa sx.length sc), (3, I64 (u)), (4, I64 (v)), (11, .pointer (some ⟨dk2, 0, none⟩)), (50, .slice ad9 2 2), (51, I64 (((2 : Nat) : Int))), (52, I64 (((k : Nat) : Int)))] : Env) (blk b10 [I64 ((at_ ([⟨nd3, ad4, cp5, es6⟩, ⟨nd, ra, rc, rx⟩] : List GrV) ((k : Nat) : Int)).n), .slice (at_ ([⟨nd3, ad4, cp5, es6⟩, ⟨nd, ra, rc, rx⟩] : List GrV) ((k : Nat) : Int)).a (at_ ([⟨nd3, ad4, cp5, es6⟩, ⟨nd, ra, rc, rx⟩] : List GrV) ((k : Nat) : Int)).xs.length (at_ ([⟨nd3, ad4, cp5, es6⟩, ⟨nd, ra, rc, rx⟩] : List GrV) ((k : Nat) : Int)).c] 25 :: vc 25 (.slice ad9 2 2) (([⟨nd3, ad4, cp5, es6⟩, ⟨nd, ra, rc, rx⟩] : List GrV)) :: blk b8 [I64 (nd3), .slice ad4 es6.length cp5] 25 :: vc 38 (.slice ad4 es6.length cp5) (es6) :: blk dk2 [.slice la ln lc, I64 (i14)] 96 :: blk b1 [I64 (nd), .slice ra rx.length rc] 25 :: I)
    refine G.r (Runs.buildArr (cells := [_, _]) ty63 Tryd.underlying63 ty3 rfl rfl) ?_
    refine G.e (Eff.bs (α := Pt) (cs := [_, _, _, _]) (xs := [⟨u, v⟩, ⟨x11, x13⟩]) Tryd.underlying64 ty63 rfl rfl (by decide) (by decide) rfl rfl rfl rfl) ?_
    rintro _ _ ⟨ad15, rfl, rfl⟩
    refine G.r (Runs.lens Tryd.underlying64 rfl) ?_
    refine G.r (Runs.move rfl) ?_
    refine G.nt ?_
    refine W.sub (L' := [(66, _), (65, _), (64, _), (14, _), (1, _), (3, _), (4, _), (11, _), (50, _), (51, _), (52, _)]) (Sub.cons rfl (Sub.cons rfl (Sub.cons rfl (Sub.cons rfl (Sub.cons rfl (Sub.cons rfl (Sub.cons rfl (Sub.cons rfl (Sub.cons rfl (Sub.cons rfl (Sub.cons rfl Sub.nil))))))))))) ?_
    refine W.block ?_
    refine W.loop (σ := Nat) (fun s => ([(1, .slice sa sx.length sc), (3, I64 (u)), (4, I64 (v)), (11, .pointer (some ⟨dk2, 0, none⟩)), (14, .pointer (some ⟨b10, 0, none⟩)), (50, .slice ad9 2 2), (51, I64 (((2 : Nat) : Int))), (52, I64 (((k : Nat) : Int))), (64, .slice ad15 2 2), (65, I64 (((2 : Nat) : Int))), (66, I64 (((s : Nat) : Int)))] : Env)) (fun s => vc 63 (.slice ad15 2 2) (([⟨u, v⟩, ⟨x11, x13⟩] : List Pt)) :: blk b10 [I64 ((at_ ([⟨nd3, ad4, cp5, es6⟩, ⟨nd, ra, rc, rx⟩] : List GrV) ((k : Nat) : Int)).n), .slice (at_ ([⟨nd3, ad4, cp5, es6⟩, ⟨nd, ra, rc, rx⟩] : List GrV) ((k : Nat) : Int)).a (at_ ([⟨nd3, ad4, cp5, es6⟩, ⟨nd, ra, rc, rx⟩] : List GrV) ((k : Nat) : Int)).xs.length (at_ ([⟨nd3, ad4, cp5, es6⟩, ⟨nd, ra, rc, rx⟩] : List GrV) ((k : Nat) : Int)).c] 25 :: vc 25 (.slice ad9 2 2) (([⟨nd3, ad4, cp5, es6⟩, ⟨nd, ra, rc, rx⟩] : List GrV)) :: blk b8 [I64 (nd3), .slice ad4 es6.length cp5] 25 :: vc 38 (.slice ad4 es6.length cp5) (es6) :: blk dk2 [.slice la ln lc, I64 (i14)] 96 :: blk b1 [I64 (nd), .slice ra rx.length rc] 25 :: I) (fun s => (s ≤ ([⟨u, v⟩, ⟨x11, x13⟩] : List Pt).length)) (fun s => ([⟨u, v⟩, ⟨x11, x13⟩] : List Pt).length - s) (0) (show ((0 : Nat) ≤ ([⟨u, v⟩, ⟨x11, x13⟩] : List Pt).length) from (by omega)) (Sub.cons rfl (Sub.cons rfl (Sub.cons rfl (Sub.cons rfl (Sub.cons rfl (Sub.cons rfl (Sub.cons rfl (Sub.cons rfl (Sub.cons rfl (Sub.cons rfl (Sub.cons lookO Sub.nil))))))))))) (show Fit κ _ (vc 63 (.slice ad15 2 2) (([⟨u, v⟩, ⟨x11, x13⟩] : List Pt)) :: blk b10 [I64 ((at_ ([⟨nd3, ad4, cp5, es6⟩, ⟨nd, ra, rc, rx⟩] : List GrV) ((k : Nat) : Int)).n), .slice (at_ ([⟨nd3, ad4, cp5, es6⟩, ⟨nd, ra, rc, rx⟩] : List GrV) ((k : Nat) : Int)).a (at_ ([⟨nd3, ad4, cp5, es6⟩, ⟨nd, ra, rc, rx⟩] : List GrV) ((k : Nat) : Int)).xs.length (at_ ([⟨nd3, ad4, cp5, es6⟩, ⟨nd, ra, rc, rx⟩] : List GrV) ((k : Nat) : Int)).c] 25 :: vc 25 (.slice ad9 2 2) (([⟨nd3, ad4, cp5, es6⟩, ⟨nd, ra, rc, rx⟩] : List GrV)) :: blk b8 [I64 (nd3), .slice ad4 es6.length cp5] 25 :: vc 38 (.slice ad4 es6.length cp5) (es6) :: blk dk2 [.slice la ln lc, I64 (i14)] 96 :: blk b1 [I64 (nd), .slice ra rx.length rc] 25 :: I) from Fit.sub) ?_
    rintro j hp
    have hj : (j ≤ ([⟨u, v⟩, ⟨x11, x13⟩] : List Pt).length) := hp
    show W Tryd.prog κ 195 _ _ ([(1, .slice sa sx.length sc), (3, I64 (u)), (4, I64 (v)), (11, .pointer (some ⟨dk2, 0, none⟩)), (14, .pointer (some ⟨b10, 0, none⟩)), (50, .slice ad9 2 2), (51, I64 (((2 : Nat) : Int))), (52, I64 (((k : Nat) : Int))), (64, .slice ad15 2 2), (65, I64 (((2 : Nat) : Int))), (66, I64 (((j : Nat) : Int)))] : Env) (vc 63 (.slice ad15 2 2) (([⟨u, v⟩, ⟨x11, x13⟩] : List Pt)) :: blk b10 [I64 ((at_ ([⟨nd3, ad4, cp5, es6⟩, ⟨nd, ra, rc, rx⟩] : List GrV) ((k : Nat) : Int)).n), .slice (at_ ([⟨nd3, ad4, cp5, es6⟩, ⟨nd, ra, rc, rx⟩] : List GrV) ((k : Nat) : Int)).a (at_ ([⟨nd3, ad4, cp5, es6⟩, ⟨nd, ra, rc, rx⟩] : List GrV) ((k : Nat) : Int)).xs.length (at_ ([⟨nd3, ad4, cp5, es6⟩, ⟨nd, ra, rc, rx⟩] : List GrV) ((k : Nat) : Int)).c] 25 :: vc 25 (.slice ad9 2 2) (([⟨nd3, ad4, cp5, es6⟩, ⟨nd, ra, rc, rx⟩] : List GrV)) :: blk b8 [I64 (nd3), .slice ad4 es6.length cp5] 25 :: vc 38 (.slice ad4 es6.length cp5) (es6) :: blk dk2 [.slice la ln lc, I64 (i14)] 96 :: blk b1 [I64 (nd), .slice ra rx.length rc] 25 :: I)
    have hj2 : ([⟨u, v⟩, ⟨x11, x13⟩] : List Pt).length = 2 := rfl
    refine W.sr ?_
    refine G.r (Runs.lss rfl rfl) ?_
    refine G.nt ?_
    refine W.seq ?_
    refine W.ite rfl (fun c67 => ?_) (fun c67 => ?_)
    ·refine W.skip ?_
     refine V.then ?_
     refine W.seq ?_
     refine W.block ?_
     refine W.sr ?_
     refine G.r (Runs.idx (α := Pt) (xs := ([⟨u, v⟩, ⟨x11, x13⟩] : List Pt)) Tryd.underlying64 ty63 rfl rfl Sl.o (by omega) (by omega)) ?_
     refine G.r (Runs.gets (α := Pt) (xs := ([⟨u, v⟩, ⟨x11, x13⟩] : List Pt)) ty63 rfl Sl.o (by omega) (by omega)) ?_
     refine G.e (Eff.alloc ty63 rfl) ?_
     rintro _ _ ⟨b16, rfl, rfl⟩
     refine G.e (Eff.st (cs := [_, _]) (vs := [_, _]) (cs' := [_, _]) ty63) ?_
     rintro _ _ ⟨rfl, rfl⟩
     refine G.nt ?_
     refine W.sub (L' := [(16, _), (1, _), (3, _), (4, _), (11, _), (14, _), (50, _), (51, _), (52, _), (64, _), (65, _), (66, _)]) (Sub.cons rfl (Sub.cons rfl (Sub.cons rfl (Sub.cons rfl (Sub.cons rfl (Sub.cons rfl (Sub.cons rfl (Sub.cons rfl (Sub.cons rfl (Sub.cons rfl (Sub.cons rfl (Sub.cons rfl Sub.nil)))))))))))) ?_
     refine W.sr ?_
     refine G.r (Runs.lds (vs := [_, _]) ty25) ?_
     refine G.r (Runs.idxArr Tryd.underlying63 ty2 rfl rfl (by omega) (by omega)) ?_
     refine G.r (Runs.ld ty3) ?_
     refine G.r (Runs.idxArr Tryd.underlying63 ty2 rfl rfl (by omega) (by omega)) ?_
     refine G.r (Runs.ld ty3) ?_
     refine G.e (Eff.call call44 rfl rfl (KLambda_ok (nd := ((at_ ([⟨nd3, ad4, cp5, es6⟩, ⟨nd, ra, rc, rx⟩] : List GrV) ((k : Nat) : Int)).n)) (Sl.fit (HeldGr.at hhg (i := ((k : Nat) : Int)) (by omega) (by omega)) (Fit.of_sublist (by repeat (first | exact List.Sublist.refl _ | apply List.Sublist.cons_cons | apply List.Sublist.cons | exact List.sublist_append_right _ _ | apply sub_app)))) ((at_ ([⟨u, v⟩, ⟨x11, x13⟩] : List Pt) ((j : Nat) : Int)).u) ((at_ ([⟨u, v⟩, ⟨x11, x13⟩] : List Pt) ((j : Nat) : Int)).v) (TabRd.fit hT Fit.m))) ?_
     rintro _ _ ⟨_, _, ⟨ad17, cp18, sd19, vl20, rfl, hsd19, rfl⟩, rfl, rfl⟩
     refine G.r (Runs.move rfl) ?_
     refine G.r (Runs.extract rfl rfl) ?_
     refine G.r (Runs.extract rfl rfl) ?_
     refine G.r (Runs.extract rfl rfl) ?_
     refine G.e (Eff.alloc ty69 rfl) ?_
     rintro _ _ ⟨b21, rfl, rfl⟩
     refine G.r (Runs.assign rfl) ?_
     refine G.e (Eff.st (cs := [_, _]) (vs := [_, _]) (cs' := [_, _]) ty69) ?_
     rintro _ _ ⟨rfl, rfl⟩
     refine G.r (Runs.assign rfl) ?_
     refine G.nt ?_
     refine W.sub (L' := [(19, _), (17, _), (18, _), (16, _), (1, _), (3, _), (4, _), (11, _), (14, _), (50, _), (51, _), (52, _), (64, _), (65, _), (66, _)]) (Sub.cons rfl (Sub.cons rfl (Sub.cons rfl (Sub.cons rfl (Sub.cons rfl (Sub.cons rfl (Sub.cons rfl (Sub.cons rfl (Sub.cons rfl (Sub.cons rfl (Sub.cons rfl (Sub.cons rfl (Sub.cons rfl (Sub.cons rfl (Sub.cons rfl Sub.nil))))))))))))))) ?_
     refine W.sr ?_
     refine G.r (Runs.lds (vs := [_, _]) ty25) ?_
     refine G.r (Runs.idxArr Tryd.underlying63 ty2 rfl rfl (by omega) (by omega)) ?_
     refine G.r (Runs.ld ty3) ?_
     refine G.r (Runs.idxArr Tryd.underlying63 ty2 rfl rfl (by omega) (by omega)) ?_
     refine G.r (Runs.ld ty3) ?_
     refine G.e (Eff.call call50 rfl rfl (Lambda17_ok (nd := ((at_ ([⟨nd3, ad4, cp5, es6⟩, ⟨nd, ra, rc, rx⟩] : List GrV) ((k : Nat) : Int)).n)) (Sl.fit (HeldGr.at hhg (i := ((k : Nat) : Int)) (by omega) (by omega)) (Fit.of_sublist (by repeat (first | exact List.Sublist.refl _ | apply List.Sublist.cons_cons | apply List.Sublist.cons | exact List.sublist_append_right _ _ | apply sub_app)))) ((at_ ([⟨u, v⟩, ⟨x11, x13⟩] : List Pt) ((j : Nat) : Int)).u) ((at_ ([⟨u, v⟩, ⟨x11, x13⟩] : List Pt) ((j : Nat) : Int)).v) (by have := hxl (by omega); omega))) ?_
     rintro _ _ ⟨_, _, ⟨ad22, cp23, sd24, vl25, rfl, hsd24, rfl⟩, rfl, rfl⟩
     refine G.r (Runs.move rfl) ?_
     refine G.r (Runs.extract rfl rfl) ?_
     refine G.r (Runs.extract rfl rfl) ?_
     refine G.r (Runs.extract rfl rfl) ?_
     refine G.e (Eff.alloc ty69 rfl) ?_
     rintro _ _ ⟨b26, rfl, rfl⟩
     refine G.r (Runs.assign rfl) ?_
     refine G.e (Eff.st (cs := [_, _]) (vs := [_, _]) (cs' := [_, _]) ty69) ?_
     rintro _ _ ⟨rfl, rfl⟩
     refine G.r (Runs.assign rfl) ?_
     refine G.nt ?_
     refine W.sub (L' := [(22, _), (20, _), (21, _), (19, _), (17, _), (18, _), (1, _), (3, _), (4, _), (11, _), (14, _), (50, _), (51, _), (52, _), (64, _), (65, _), (66, _)]) (Sub.cons rfl (Sub.cons rfl (Sub.cons rfl (Sub.cons rfl (Sub.cons rfl (Sub.cons rfl (Sub.cons rfl (Sub.cons rfl (Sub.cons rfl (Sub.cons rfl (Sub.cons rfl (Sub.cons rfl (Sub.cons rfl (Sub.cons rfl (Sub.cons rfl (Sub.cons rfl (Sub.cons rfl Sub.nil))))))))))))))))) ?_
     refine W.sr ?_
     refine G.r (Runs.move rfl) ?_
     refine G.r (Runs.move rfl) ?_
     refine G.r (Runs.neq rfl rfl) ?_
     refine G.r (Runs.move rfl) ?_
     refine G.split (d := 93) rfl (fun g93 => ?_) (fun g93 => ?_)
     ·exact absurd rfl g93
     ·refine G.ro (Runs.move rfl) ?_
      refine G.ro (Runs.move rfl) ?_
      refine G.ro (Runs.neq rfl rfl) ?_
      refine G.r (Runs.pickf rfl rfl) ?_
      refine G.r (Runs.move rfl) ?_
      refine G.split (d := 98) rfl (fun g98 => ?_) (fun g98 => ?_)
      ·exact absurd (LamP.uniq hsd19 hsd24).2 g98
      ·refine G.ro (Runs.fieldAddr fld69_1 rfl) ?_
       refine G.ro (Runs.ld ty3) ?_
       refine G.ro (Runs.fieldAddr fld69_1 rfl) ?_
       refine G.ro (Runs.ld ty3) ?_
       refine G.ro (Runs.neq rfl rfl) ?_
       refine G.r (Runs.pickf rfl rfl) ?_
       refine G.r (Runs.move rfl) ?_
       refine G.split (d := 105) rfl (fun g105 => ?_) (fun g105 => ?_)
       ·exact absurd (LamP.uniq hsd19 hsd24).2 g105
       ·refine G.ro (Runs.fieldAddr fld69_0 rfl) ?_
        refine G.ro (Runs.ld ty22) ?_
        refine G.ro (Runs.fieldAddr fld69_0 rfl) ?_
        refine G.ro (Runs.ld ty22) ?_
        refine G.eff (Wanted.on rfl rfl rfl) (Eff.call call27 rfl rfl (Same_ok Sl.o Sl.o)) ?_
        rintro _ _ ⟨_, _, ⟨rfl, rfl⟩, rfl, rfl⟩
        refine G.ro (Runs.notd rfl) ?_
        refine G.r (Runs.pickf rfl rfl) ?_
        refine G.nt ?_
        refine W.sub (L' := [(112, _), (1, _), (3, _), (4, _), (11, _), (14, _), (50, _), (51, _), (52, _), (64, _), (65, _), (66, _)]) (Sub.cons rfl (Sub.cons rfl (Sub.cons rfl (Sub.cons rfl (Sub.cons rfl (Sub.cons rfl (Sub.cons rfl (Sub.cons rfl (Sub.cons rfl (Sub.cons rfl (Sub.cons rfl (Sub.cons rfl Sub.nil)))))))))))) ?_
        refine W.ite rfl (fun c112 => ?_) (fun c112 => ?_)
        ·exact absurd (LamP.uniq hsd19 hsd24).1 c112
        ·refine W.skip ?_
         refine V.block_normal ?_
         refine V.then ?_
         refine W.region ?_
         refine G.r (Runs.add rfl rfl (by unfold InR; omega)) ?_
         refine G.r (Runs.move rfl) ?_
         refine G.nil ?_
         exact V.next ((j + 1)) (show ((j + 1 : Nat) ≤ ([⟨u, v⟩, ⟨x11, x13⟩] : List Pt).length) from (by omega)) (show ([⟨u, v⟩, ⟨x11, x13⟩] : List Pt).length - (j + 1 : Nat) < ([⟨u, v⟩, ⟨x11, x13⟩] : List Pt).length - j from (by omega)) (Sub.cons rfl (Sub.cons rfl (Sub.cons rfl (Sub.cons rfl (Sub.cons rfl (Sub.cons rfl (Sub.cons rfl (Sub.cons rfl (Sub.cons rfl (Sub.cons rfl (Sub.cons lookO Sub.nil))))))))))) (show Fit κ _ (vc 63 (.slice ad15 2 2) (([⟨u, v⟩, ⟨x11, x13⟩] : List Pt)) :: blk b10 [I64 ((at_ ([⟨nd3, ad4, cp5, es6⟩, ⟨nd, ra, rc, rx⟩] : List GrV) ((k : Nat) : Int)).n), .slice (at_ ([⟨nd3, ad4, cp5, es6⟩, ⟨nd, ra, rc, rx⟩] : List GrV) ((k : Nat) : Int)).a (at_ ([⟨nd3, ad4, cp5, es6⟩, ⟨nd, ra, rc, rx⟩] : List GrV) ((k : Nat) : Int)).xs.length (at_ ([⟨nd3, ad4, cp5, es6⟩, ⟨nd, ra, rc, rx⟩] : List GrV) ((k : Nat) : Int)).c] 25 :: vc 25 (.slice ad9 2 2) (([⟨nd3, ad4, cp5, es6⟩, ⟨nd, ra, rc, rx⟩] : List GrV)) :: blk b8 [I64 (nd3), .slice ad4 es6.length cp5] 25 :: vc 38 (.slice ad4 es6.length cp5) (es6) :: blk dk2 [.slice la ln lc, I64 (i14)] 96 :: blk b1 [I64 (nd), .slice ra rx.length rc] 25 :: I) from (Fit.of_sublist (by repeat (first | exact List.Sublist.refl _ | apply List.Sublist.cons_cons | apply List.Sublist.cons | exact List.sublist_append_right _ _ | apply sub_app))))
    ·refine W.exit ?_
     refine V.then_exit ?_
     refine V.then_exit ?_
     refine V.block_hit ?_
     refine V.then ?_
     refine W.seq ?_
     refine W.sr ?_
     refine G.r (Runs.move rfl) ?_
     refine G.r (Runs.move rfl) ?_
     refine G.e (Eff.call call21 rfl rfl (Set_at (by repeat (first | exact AtF.head _ _ | apply AtF.tail)) (fun _ => Sl.fit hl Fit.m) (by omega) (by omega))) ?_
     rintro _ _ ⟨_, _, ⟨ad28, cp29, o30, i27, rfl, ho30, hlo30, hi27, rfl⟩, rfl, rfl⟩
     show G Tryd.prog κ _ _ _ _ ([(116, .slice ad28 o30.length cp29), (115, .pointer (some ⟨dk2, 0, none⟩)), (114, .slice sa sx.length sc), (67, .bool (decide (((j : Nat) : Int) < ((2 : Nat) : Int)))), (1, .slice sa sx.length sc), (3, I64 (u)), (4, I64 (v)), (11, .pointer (some ⟨dk2, 0, none⟩)), (14, .pointer (some ⟨b10, 0, none⟩)), (50, .slice ad9 2 2), (51, I64 (((2 : Nat) : Int))), (52, I64 (((k : Nat) : Int))), (64, .slice ad15 2 2), (65, I64 (((2 : Nat) : Int))), (66, I64 (((j : Nat) : Int)))] : Env) (vc 3 (.slice ad28 o30.length cp29) (o30) :: vc 63 (.slice ad15 2 2) (([⟨u, v⟩, ⟨x11, x13⟩] : List Pt)) :: blk b10 [I64 ((at_ ([⟨nd3, ad4, cp5, es6⟩, ⟨nd, ra, rc, rx⟩] : List GrV) ((k : Nat) : Int)).n), .slice (at_ ([⟨nd3, ad4, cp5, es6⟩, ⟨nd, ra, rc, rx⟩] : List GrV) ((k : Nat) : Int)).a (at_ ([⟨nd3, ad4, cp5, es6⟩, ⟨nd, ra, rc, rx⟩] : List GrV) ((k : Nat) : Int)).xs.length (at_ ([⟨nd3, ad4, cp5, es6⟩, ⟨nd, ra, rc, rx⟩] : List GrV) ((k : Nat) : Int)).c] 25 :: vc 25 (.slice ad9 2 2) (([⟨nd3, ad4, cp5, es6⟩, ⟨nd, ra, rc, rx⟩] : List GrV)) :: blk b8 [I64 (nd3), .slice ad4 es6.length cp5] 25 :: vc 38 (.slice ad4 es6.length cp5) (es6) :: blk dk2 [.slice la ln lc, I64 (i27)] 96 :: blk b1 [I64 (nd), .slice ra rx.length rc] 25 :: I)
     refine G.e (Eff.bs (α := (RowG Int)) (cs := [_, _]) (xs := [⟨sa, sc, sx⟩, ⟨ad28, cp29, o30⟩]) Tryd.underlying50 ty22 rfl rfl (by decide) (by decide) rfl rfl rfl rfl) ?_
     rintro _ _ ⟨ad31, rfl, rfl⟩
     have hhr : HeldAll κ (vc 3 (.slice ad28 o30.length cp29) (o30) :: I) ([⟨sa, sc, sx⟩, ⟨ad28, cp29, o30⟩] : List (RowG Int)) := HeldAll.two (show Sl κ _ (.slice sa sx.length sc) sx from Sl.fit hsx Fit.m) (show Sl κ _ (.slice ad28 o30.length cp29) o30 from Sl.vec (by repeat (first | exact List.mem_cons_self | apply List.mem_cons_of_mem)))
     have hr2 : ([⟨sa, sc, sx⟩, ⟨ad28, cp29, o30⟩] : List (RowG Int)).length = 2 := rfl
     refine G.r (Runs.lens Tryd.underlying50 rfl) ?_
     refine G.r (Runs.move rfl) ?_
     refine G.nt ?_
     refine W.sub (L' := [(119, _), (118, _), (117, _), (1, _), (3, _), (4, _), (11, _), (14, _), (50, _), (51, _), (52, _)]) (Sub.cons rfl (Sub.cons rfl (Sub.cons rfl (Sub.cons rfl (Sub.cons rfl (Sub.cons rfl (Sub.cons rfl (Sub.cons rfl (Sub.cons rfl (Sub.cons rfl (Sub.cons rfl Sub.nil))))))))))) ?_
     refine W.block ?_
     refine W.loop (σ := Nat) (fun s => ([(1, .slice sa sx.length sc), (3, I64 (u)), (4, I64 (v)), (11, .pointer (some ⟨dk2, 0, none⟩)), (14, .pointer (some ⟨b10, 0, none⟩)), (50, .slice ad9 2 2), (51, I64 (((2 : Nat) : Int))), (52, I64 (((k : Nat) : Int))), (117, .slice ad31 2 2), (118, I64 (((2 : Nat) : Int))), (119, I64 (((s : Nat) : Int)))] : Env)) (fun s => vc 22 (.slice ad31 2 2) (([⟨sa, sc, sx⟩, ⟨ad28, cp29, o30⟩] : List (RowG Int))) :: vc 3 (.slice ad28 o30.length cp29) (o30) :: vc 63 (.slice ad15 2 2) (([⟨u, v⟩, ⟨x11, x13⟩] : List Pt)) :: blk b10 [I64 ((at_ ([⟨nd3, ad4, cp5, es6⟩, ⟨nd, ra, rc, rx⟩] : List GrV) ((k : Nat) : Int)).n), .slice (at_ ([⟨nd3, ad4, cp5, es6⟩, ⟨nd, ra, rc, rx⟩] : List GrV) ((k : Nat) : Int)).a (at_ ([⟨nd3, ad4, cp5, es6⟩, ⟨nd, ra, rc, rx⟩] : List GrV) ((k : Nat) : Int)).xs.length (at_ ([⟨nd3, ad4, cp5, es6⟩, ⟨nd, ra, rc, rx⟩] : List GrV) ((k : Nat) : Int)).c] 25 :: vc 25 (.slice ad9 2 2) (([⟨nd3, ad4, cp5, es6⟩, ⟨nd, ra, rc, rx⟩] : List GrV)) :: blk b8 [I64 (nd3), .slice ad4 es6.length cp5] 25 :: vc 38 (.slice ad4 es6.length cp5) (es6) :: blk dk2 [.slice la ln lc, I64 (i27)] 96 :: blk b1 [I64 (nd), .slice ra rx.length rc] 25 :: I) (fun s => (s ≤ ([⟨sa, sc, sx⟩, ⟨ad28, cp29, o30⟩] : List (RowG Int)).length)) (fun s => ([⟨sa, sc, sx⟩, ⟨ad28, cp29, o30⟩] : List (RowG Int)).length - s) (0) (show ((0 : Nat) ≤ ([⟨sa, sc, sx⟩, ⟨ad28, cp29, o30⟩] : List (RowG Int)).length) from (by omega)) (Sub.cons rfl (Sub.cons rfl (Sub.cons rfl (Sub.cons rfl (Sub.cons rfl (Sub.cons rfl (Sub.cons rfl (Sub.cons rfl (Sub.cons rfl (Sub.cons rfl (Sub.cons lookO Sub.nil))))))))))) (show Fit κ _ (vc 22 (.slice ad31 2 2) (([⟨sa, sc, sx⟩, ⟨ad28, cp29, o30⟩] : List (RowG Int))) :: vc 3 (.slice ad28 o30.length cp29) (o30) :: vc 63 (.slice ad15 2 2) (([⟨u, v⟩, ⟨x11, x13⟩] : List Pt)) :: blk b10 [I64 ((at_ ([⟨nd3, ad4, cp5, es6⟩, ⟨nd, ra, rc, rx⟩] : List GrV) ((k : Nat) : Int)).n), .slice (at_ ([⟨nd3, ad4, cp5, es6⟩, ⟨nd, ra, rc, rx⟩] : List GrV) ((k : Nat) : Int)).a (at_ ([⟨nd3, ad4, cp5, es6⟩, ⟨nd, ra, rc, rx⟩] : List GrV) ((k : Nat) : Int)).xs.length (at_ ([⟨nd3, ad4, cp5, es6⟩, ⟨nd, ra, rc, rx⟩] : List GrV) ((k : Nat) : Int)).c] 25 :: vc 25 (.slice ad9 2 2) (([⟨nd3, ad4, cp5, es6⟩, ⟨nd, ra, rc, rx⟩] : List GrV)) :: blk b8 [I64 (nd3), .slice ad4 es6.length cp5] 25 :: vc 38 (.slice ad4 es6.length cp5) (es6) :: blk dk2 [.slice la ln lc, I64 (i27)] 96 :: blk b1 [I64 (nd), .slice ra rx.length rc] 25 :: I) from Fit.sub) ?_
     rintro q hp
     have hq : (q ≤ ([⟨sa, sc, sx⟩, ⟨ad28, cp29, o30⟩] : List (RowG Int)).length) := hp
     show W Tryd.prog κ 195 _ _ ([(1, .slice sa sx.length sc), (3, I64 (u)), (4, I64 (v)), (11, .pointer (some ⟨dk2, 0, none⟩)), (14, .pointer (some ⟨b10, 0, none⟩)), (50, .slice ad9 2 2), (51, I64 (((2 : Nat) : Int))), (52, I64 (((k : Nat) : Int))), (117, .slice ad31 2 2), (118, I64 (((2 : Nat) : Int))), (119, I64 (((q : Nat) : Int)))] : Env) (vc 22 (.slice ad31 2 2) (([⟨sa, sc, sx⟩, ⟨ad28, cp29, o30⟩] : List (RowG Int))) :: vc 3 (.slice ad28 o30.length cp29) (o30) :: vc 63 (.slice ad15 2 2) (([⟨u, v⟩, ⟨x11, x13⟩] : List Pt)) :: blk b10 [I64 ((at_ ([⟨nd3, ad4, cp5, es6⟩, ⟨nd, ra, rc, rx⟩] : List GrV) ((k : Nat) : Int)).n), .slice (at_ ([⟨nd3, ad4, cp5, es6⟩, ⟨nd, ra, rc, rx⟩] : List GrV) ((k : Nat) : Int)).a (at_ ([⟨nd3, ad4, cp5, es6⟩, ⟨nd, ra, rc, rx⟩] : List GrV) ((k : Nat) : Int)).xs.length (at_ ([⟨nd3, ad4, cp5, es6⟩, ⟨nd, ra, rc, rx⟩] : List GrV) ((k : Nat) : Int)).c] 25 :: vc 25 (.slice ad9 2 2) (([⟨nd3, ad4, cp5, es6⟩, ⟨nd, ra, rc, rx⟩] : List GrV)) :: blk b8 [I64 (nd3), .slice ad4 es6.length cp5] 25 :: vc 38 (.slice ad4 es6.length cp5) (es6) :: blk dk2 [.slice la ln lc, I64 (i27)] 96 :: blk b1 [I64 (nd), .slice ra rx.length rc] 25 :: I)
     refine W.sr ?_
     refine G.r (Runs.lss rfl rfl) ?_
     refine G.nt ?_
     refine W.seq ?_
     refine W.ite rfl (fun c120 => ?_) (fun c120 => ?_)
     ·refine W.skip ?_
      refine V.then ?_
      refine W.seq ?_
      refine W.block ?_
      refine W.sr ?_
      refine G.r (Runs.idx (α := (RowG Int)) (xs := ([⟨sa, sc, sx⟩, ⟨ad28, cp29, o30⟩] : List (RowG Int))) Tryd.underlying50 ty22 rfl rfl Sl.o (by omega) (by omega)) ?_
      refine G.r (Runs.getf0 (α := (RowG Int)) (xs := ([⟨sa, sc, sx⟩, ⟨ad28, cp29, o30⟩] : List (RowG Int))) (u := .slice (at_ ([⟨sa, sc, sx⟩, ⟨ad28, cp29, o30⟩] : List (RowG Int)) ((q : Nat) : Int)).a (at_ ([⟨sa, sc, sx⟩, ⟨ad28, cp29, o30⟩] : List (RowG Int)) ((q : Nat) : Int)).xs.length (at_ ([⟨sa, sc, sx⟩, ⟨ad28, cp29, o30⟩] : List (RowG Int)) ((q : Nat) : Int)).c) ty22 rfl Sl.o (by omega) (by omega) rfl) ?_
      refine G.r (Runs.assign rfl) ?_
      refine G.nt ?_
      refine W.sub (L' := [(24, _), (1, _), (3, _), (4, _), (11, _), (14, _), (50, _), (51, _), (52, _), (117, _), (118, _), (119, _)]) (Sub.cons rfl (Sub.cons rfl (Sub.cons rfl (Sub.cons rfl (Sub.cons rfl (Sub.cons rfl (Sub.cons rfl (Sub.cons rfl (Sub.cons rfl (Sub.cons rfl (Sub.cons rfl (Sub.cons rfl Sub.nil)))))))))))) ?_
      refine W.sr ?_
      refine G.r (Runs.lds (vs := [_, _]) ty25) ?_
      refine G.r (Runs.move rfl) ?_
      refine G.e (Eff.call call47 rfl rfl (KLeaves_ok (nd := ((at_ ([⟨nd3, ad4, cp5, es6⟩, ⟨nd, ra, rc, rx⟩] : List GrV) ((k : Nat) : Int)).n)) (Sl.fit (HeldGr.at hhg (i := ((k : Nat) : Int)) (by omega) (by omega)) (Fit.of_sublist (by repeat (first | exact List.Sublist.refl _ | apply List.Sublist.cons_cons | apply List.Sublist.cons | exact List.sublist_append_right _ _ | apply sub_app)))) (Sl.fit (HeldAll.at hhr (i := ((q : Nat) : Int)) (by omega) (by omega)) (Fit.of_sublist (by repeat (first | exact List.Sublist.refl _ | apply List.Sublist.cons_cons | apply List.Sublist.cons | exact List.sublist_append_right _ _ | apply sub_app)))) (TabRd.fit hT Fit.m))) ?_
      rintro _ _ ⟨_, _, ⟨rfl, rfl⟩, rfl, rfl⟩
      refine G.r (Runs.move rfl) ?_
      refine G.r (Runs.extract rfl rfl) ?_
      refine G.r (Runs.extract rfl rfl) ?_
      refine G.r (Runs.assign rfl) ?_
      refine G.r (Runs.assign rfl) ?_
      refine G.nt ?_
      refine W.sub (L' := [(26, _), (25, _), (24, _), (1, _), (3, _), (4, _), (11, _), (14, _), (50, _), (51, _), (52, _), (117, _), (118, _), (119, _)]) (Sub.cons rfl (Sub.cons rfl (Sub.cons rfl (Sub.cons rfl (Sub.cons rfl (Sub.cons rfl (Sub.cons rfl (Sub.cons rfl (Sub.cons rfl (Sub.cons rfl (Sub.cons rfl (Sub.cons rfl (Sub.cons rfl (Sub.cons rfl Sub.nil)))))))))))))) ?_
      refine W.sr ?_
      refine G.r (Runs.lds (vs := [_, _]) ty25) ?_
      refine G.r (Runs.move rfl) ?_
      refine G.e (Eff.call call51 rfl rfl (Leaves17_ok (nd := ((at_ ([⟨nd3, ad4, cp5, es6⟩, ⟨nd, ra, rc, rx⟩] : List GrV) ((k : Nat) : Int)).n)) (Sl.fit (HeldGr.at hhg (i := ((k : Nat) : Int)) (by omega) (by omega)) (Fit.of_sublist (by repeat (first | exact List.Sublist.refl _ | apply List.Sublist.cons_cons | apply List.Sublist.cons | exact List.sublist_append_right _ _ | apply sub_app)))) (Sl.fit (HeldAll.at hhr (i := ((q : Nat) : Int)) (by omega) (by omega)) (Fit.of_sublist (by repeat (first | exact List.Sublist.refl _ | apply List.Sublist.cons_cons | apply List.Sublist.cons | exact List.sublist_append_right _ _ | apply sub_app)))) )) ?_
      rintro _ _ ⟨_, _, ⟨rfl, rfl⟩, rfl, rfl⟩
      refine G.r (Runs.move rfl) ?_
      refine G.r (Runs.extract rfl rfl) ?_
      refine G.r (Runs.extract rfl rfl) ?_
      refine G.r (Runs.assign rfl) ?_
      refine G.r (Runs.assign rfl) ?_
      refine G.nt ?_
      refine W.sub (L' := [(28, _), (27, _), (26, _), (25, _), (1, _), (3, _), (4, _), (11, _), (14, _), (50, _), (51, _), (52, _), (117, _), (118, _), (119, _)]) (Sub.cons rfl (Sub.cons rfl (Sub.cons rfl (Sub.cons rfl (Sub.cons rfl (Sub.cons rfl (Sub.cons rfl (Sub.cons rfl (Sub.cons rfl (Sub.cons rfl (Sub.cons rfl (Sub.cons rfl (Sub.cons rfl (Sub.cons rfl (Sub.cons rfl Sub.nil))))))))))))))) ?_
      refine W.sr ?_
      refine G.r (Runs.move rfl) ?_
      refine G.r (Runs.move rfl) ?_
      refine G.r (Runs.neq rfl rfl) ?_
      refine G.r (Runs.move rfl) ?_
      refine G.split (d := 138) rfl (fun g138 => ?_) (fun g138 => ?_)
      ·exact absurd rfl g138
      ·refine G.ro (Runs.move rfl) ?_
       refine G.ro (Runs.move rfl) ?_
       refine G.ro (Runs.neq rfl rfl) ?_
       refine G.r (Runs.pickf rfl rfl) ?_
       refine G.nt ?_
       refine W.sub (L' := [(142, _), (1, _), (3, _), (4, _), (11, _), (14, _), (50, _), (51, _), (52, _), (117, _), (118, _), (119, _)]) (Sub.cons rfl (Sub.cons rfl (Sub.cons rfl (Sub.cons rfl (Sub.cons rfl (Sub.cons rfl (Sub.cons rfl (Sub.cons rfl (Sub.cons rfl (Sub.cons rfl (Sub.cons rfl (Sub.cons rfl Sub.nil)))))))))))) ?_
       refine W.ite rfl (fun c142 => ?_) (fun c142 => ?_)
       ·exact absurd rfl c142
       ·refine W.skip ?_
        refine V.block_normal ?_
        refine V.then ?_
        refine W.region ?_
        refine G.r (Runs.add rfl rfl (by unfold InR; omega)) ?_
        refine G.r (Runs.move rfl) ?_
        refine G.nil ?_
        exact V.next ((q + 1)) (show ((q + 1 : Nat) ≤ ([⟨sa, sc, sx⟩, ⟨ad28, cp29, o30⟩] : List (RowG Int)).length) from (by omega)) (show ([⟨sa, sc, sx⟩, ⟨ad28, cp29, o30⟩] : List (RowG Int)).length - (q + 1 : Nat) < ([⟨sa, sc, sx⟩, ⟨ad28, cp29, o30⟩] : List (RowG Int)).length - q from (by omega)) (Sub.cons rfl (Sub.cons rfl (Sub.cons rfl (Sub.cons rfl (Sub.cons rfl (Sub.cons rfl (Sub.cons rfl (Sub.cons rfl (Sub.cons rfl (Sub.cons rfl (Sub.cons lookO Sub.nil))))))))))) (show Fit κ _ (vc 22 (.slice ad31 2 2) (([⟨sa, sc, sx⟩, ⟨ad28, cp29, o30⟩] : List (RowG Int))) :: vc 3 (.slice ad28 o30.length cp29) (o30) :: vc 63 (.slice ad15 2 2) (([⟨u, v⟩, ⟨x11, x13⟩] : List Pt)) :: blk b10 [I64 ((at_ ([⟨nd3, ad4, cp5, es6⟩, ⟨nd, ra, rc, rx⟩] : List GrV) ((k : Nat) : Int)).n), .slice (at_ ([⟨nd3, ad4, cp5, es6⟩, ⟨nd, ra, rc, rx⟩] : List GrV) ((k : Nat) : Int)).a (at_ ([⟨nd3, ad4, cp5, es6⟩, ⟨nd, ra, rc, rx⟩] : List GrV) ((k : Nat) : Int)).xs.length (at_ ([⟨nd3, ad4, cp5, es6⟩, ⟨nd, ra, rc, rx⟩] : List GrV) ((k : Nat) : Int)).c] 25 :: vc 25 (.slice ad9 2 2) (([⟨nd3, ad4, cp5, es6⟩, ⟨nd, ra, rc, rx⟩] : List GrV)) :: blk b8 [I64 (nd3), .slice ad4 es6.length cp5] 25 :: vc 38 (.slice ad4 es6.length cp5) (es6) :: blk dk2 [.slice la ln lc, I64 (i27)] 96 :: blk b1 [I64 (nd), .slice ra rx.length rc] 25 :: I) from (Fit.of_sublist (by repeat (first | exact List.Sublist.refl _ | apply List.Sublist.cons_cons | apply List.Sublist.cons | exact List.sublist_append_right _ _ | apply sub_app))))
     ·refine W.exit ?_
      refine V.then_exit ?_
      refine V.then_exit ?_
      refine V.block_hit ?_
      refine V.then ?_
      refine W.sr ?_
      refine G.r (Runs.lds (vs := [_, _]) ty25) ?_
      refine G.e (Eff.call call52 rfl rfl (KLeast_ok (nd := ((at_ ([⟨nd3, ad4, cp5, es6⟩, ⟨nd, ra, rc, rx⟩] : List GrV) ((k : Nat) : Int)).n)) (Sl.fit (HeldGr.at hhg (i := ((k : Nat) : Int)) (by omega) (by omega)) (Fit.of_sublist (by repeat (first | exact List.Sublist.refl _ | apply List.Sublist.cons_cons | apply List.Sublist.cons | exact List.sublist_append_right _ _ | apply sub_app)))) (TabRd.fit hT Fit.m))) ?_
      rintro _ _ ⟨_, _, ⟨ad32, cp33, sd34, vl35, rfl, hsd34, rfl⟩, rfl, rfl⟩
      refine G.r (Runs.move rfl) ?_
      refine G.r (Runs.extract rfl rfl) ?_
      refine G.r (Runs.extract rfl rfl) ?_
      refine G.e (Eff.alloc ty69 rfl) ?_
      rintro _ _ ⟨b36, rfl, rfl⟩
      refine G.e (Eff.st (cs := [_, _]) (vs := [_, _]) (cs' := [_, _]) ty69) ?_
      rintro _ _ ⟨rfl, rfl⟩
      refine G.r (Runs.assign rfl) ?_
      refine G.nt ?_
      refine W.sub (L' := [(30, _), (29, _), (1, _), (3, _), (4, _), (11, _), (14, _), (50, _), (51, _), (52, _)]) (Sub.cons rfl (Sub.cons rfl (Sub.cons rfl (Sub.cons rfl (Sub.cons rfl (Sub.cons rfl (Sub.cons rfl (Sub.cons rfl (Sub.cons rfl (Sub.cons rfl Sub.nil)))))))))) ?_
      refine W.sr ?_
      refine G.r (Runs.lds (vs := [_, _]) ty25) ?_
      refine G.e (Eff.call call53 rfl rfl (Least17_ok (nd := ((at_ ([⟨nd3, ad4, cp5, es6⟩, ⟨nd, ra, rc, rx⟩] : List GrV) ((k : Nat) : Int)).n)) (Sl.fit (HeldGr.at hhg (i := ((k : Nat) : Int)) (by omega) (by omega)) (Fit.of_sublist (by repeat (first | exact List.Sublist.refl _ | apply List.Sublist.cons_cons | apply List.Sublist.cons | exact List.sublist_append_right _ _ | apply sub_app)))) (by have := hxl (by omega); omega))) ?_
      rintro _ _ ⟨_, _, ⟨vm37, rfl, hvm37, rfl⟩, rfl, rfl⟩
      refine G.r (Runs.move rfl) ?_
      refine G.r (Runs.extract rfl rfl) ?_
      refine G.r (Runs.extract rfl rfl) ?_
      refine G.r (Runs.assign rfl) ?_
      refine G.r (Runs.assign rfl) ?_
      refine G.nt ?_
      refine W.sub (L' := [(32, _), (31, _), (30, _), (29, _), (1, _), (3, _), (4, _), (11, _), (14, _), (50, _), (51, _), (52, _)]) (Sub.cons rfl (Sub.cons rfl (Sub.cons rfl (Sub.cons rfl (Sub.cons rfl (Sub.cons rfl (Sub.cons rfl (Sub.cons rfl (Sub.cons rfl (Sub.cons rfl (Sub.cons rfl (Sub.cons rfl Sub.nil)))))))))))) ?_
      refine W.seq ?_
      refine W.sr ?_
      refine G.r (Runs.move rfl) ?_
      refine G.r (Runs.move rfl) ?_
      refine G.r (Runs.neq rfl rfl) ?_
      refine G.r (Runs.move rfl) ?_
      refine G.split (d := 157) rfl (fun g157 => ?_) (fun g157 => ?_)
      ·exact absurd rfl g157
      ·refine G.ro (Runs.fieldAddr fld69_1 rfl) ?_
       refine G.ro (Runs.ld ty3) ?_
       refine G.ro (Runs.move rfl) ?_
       refine G.ro (Runs.neq rfl rfl) ?_
       refine G.r (Runs.pickf rfl rfl) ?_
       refine G.nt ?_
       refine W.sub (L' := [(162, _), (31, _), (30, _), (29, _), (1, _), (3, _), (4, _), (11, _), (14, _), (50, _), (51, _), (52, _)]) (Sub.cons rfl (Sub.cons rfl (Sub.cons rfl (Sub.cons rfl (Sub.cons rfl (Sub.cons rfl (Sub.cons rfl (Sub.cons rfl (Sub.cons rfl (Sub.cons rfl (Sub.cons rfl (Sub.cons rfl Sub.nil)))))))))))) ?_
       refine W.ite rfl (fun c162 => ?_) (fun c162 => ?_)
       ·exact absurd (least_eq hsd34 hvm37) c162
       ·refine W.skip ?_
        refine V.then ?_
        refine W.sr ?_
        refine G.r (Runs.move rfl) ?_
        refine G.r (Runs.eql rfl rfl) ?_
        refine G.nt ?_
        refine W.sub (L' := [(164, _), (31, _), (29, _), (1, _), (3, _), (4, _), (11, _), (14, _), (50, _), (51, _), (52, _)]) (Sub.cons rfl (Sub.cons rfl (Sub.cons rfl (Sub.cons rfl (Sub.cons rfl (Sub.cons rfl (Sub.cons rfl (Sub.cons rfl (Sub.cons rfl (Sub.cons rfl (Sub.cons rfl Sub.nil))))))))))) ?_
        refine W.ite rfl (fun c164 => ?_) (fun c164 => ?_)
        ·refine W.sr ?_
         refine G.r (Runs.lds (vs := [_, _]) ty25) ?_
         refine G.r (Runs.fieldAddr fld69_0 rfl) ?_
         refine G.r (Runs.ld ty22) ?_
         refine G.e (Eff.call call51 rfl rfl (Leaves17_ok (nd := ((at_ ([⟨nd3, ad4, cp5, es6⟩, ⟨nd, ra, rc, rx⟩] : List GrV) ((k : Nat) : Int)).n)) (Sl.fit (HeldGr.at hhg (i := ((k : Nat) : Int)) (by omega) (by omega)) (Fit.of_sublist (by repeat (first | exact List.Sublist.refl _ | apply List.Sublist.cons_cons | apply List.Sublist.cons | exact List.sublist_append_right _ _ | apply sub_app)))) Sl.o )) ?_
         rintro _ _ ⟨_, _, ⟨rfl, rfl⟩, rfl, rfl⟩
         refine G.r (Runs.move rfl) ?_
         refine G.r (Runs.extract rfl rfl) ?_
         refine G.r (Runs.extract rfl rfl) ?_
         refine G.r (Runs.assign rfl) ?_
         refine G.r (Runs.assign rfl) ?_
         refine G.nt ?_
         refine W.sub (L' := [(34, _), (33, _), (31, _), (29, _), (1, _), (3, _), (4, _), (11, _), (14, _), (50, _), (51, _), (52, _)]) (Sub.cons rfl (Sub.cons rfl (Sub.cons rfl (Sub.cons rfl (Sub.cons rfl (Sub.cons rfl (Sub.cons rfl (Sub.cons rfl (Sub.cons rfl (Sub.cons rfl (Sub.cons rfl (Sub.cons rfl Sub.nil)))))))))))) ?_
         refine W.sr ?_
         refine G.r (Runs.move rfl) ?_
         refine G.r (Runs.move rfl) ?_
         refine G.r (Runs.neq rfl rfl) ?_
         refine G.r (Runs.move rfl) ?_
         refine G.split (d := 175) rfl (fun g175 => ?_) (fun g175 => ?_)
         ·exact absurd ((least_side hsd34 c164).1.trans (least_eq hsd34 hvm37)) g175
         ·refine G.ro (Runs.move rfl) ?_
          refine G.ro (Runs.neq rfl rfl) ?_
          refine G.r (Runs.pickf rfl rfl) ?_
          refine G.r (Runs.move rfl) ?_
          refine G.split (d := 179) rfl (fun g179 => ?_) (fun g179 => ?_)
          ·exact absurd (least_side hsd34 c164).2.1 g179
          ·refine G.ro (Runs.fieldAddr fld69_0 rfl) ?_
           refine G.ro (Runs.ld ty22) ?_
           refine G.eff (Wanted.on rfl rfl rfl) (Eff.call call19 rfl rfl (RHas_ok Sl.o 0)) ?_
           rintro _ _ ⟨_, _, ⟨rfl, rfl⟩, rfl, rfl⟩
           refine G.ro (Runs.notd rfl) ?_
           refine G.r (Runs.pickf rfl rfl) ?_
           refine G.r (Runs.move rfl) ?_
           refine G.split (d := 185) rfl (fun g185 => ?_) (fun g185 => ?_)
           ·exact absurd (least_side hsd34 c164).2.2.1 g185
           ·refine G.ro (Runs.fieldAddr fld69_0 rfl) ?_
            refine G.ro (Runs.ld ty22) ?_
            refine G.ro (Runs.lens Tryd.underlying22 rfl) ?_
            refine G.ro (Runs.fieldAddr fld25_0 rfl) ?_
            refine G.ro (Runs.ld ty3) ?_
            refine G.ro (Runs.geq rfl rfl) ?_
            refine G.r (Runs.pickf rfl rfl) ?_
            refine G.nt ?_
            refine W.sub (L' := [(192, _), (1, _), (3, _), (4, _), (11, _), (50, _), (51, _), (52, _)]) (Sub.cons rfl (Sub.cons rfl (Sub.cons rfl (Sub.cons rfl (Sub.cons rfl (Sub.cons rfl (Sub.cons rfl (Sub.cons rfl Sub.nil)))))))) ?_
            refine W.ite rfl (fun c192 => ?_) (fun c192 => ?_)
            ·exact absurd (least_side hsd34 c164).2.2.2 (by omega)
            ·refine W.skip ?_
             refine V.block_normal ?_
             refine V.then ?_
             refine W.region ?_
             refine G.r (Runs.add rfl rfl (by unfold InR; omega)) ?_
             refine G.r (Runs.move rfl) ?_
             refine G.nil ?_
             exact V.next ((k + 1), (i27)) (show ((k + 1 : Nat) ≤ ([⟨nd3, ad4, cp5, es6⟩, ⟨nd, ra, rc, rx⟩] : List GrV).length) ∧ (0 ≤ (i27 : Int)) from ⟨(by omega), (by omega)⟩) (show ([⟨nd3, ad4, cp5, es6⟩, ⟨nd, ra, rc, rx⟩] : List GrV).length - (k + 1 : Nat) < ([⟨nd3, ad4, cp5, es6⟩, ⟨nd, ra, rc, rx⟩] : List GrV).length - k from (by omega)) (Sub.cons rfl (Sub.cons rfl (Sub.cons rfl (Sub.cons rfl (Sub.cons rfl (Sub.cons rfl (Sub.cons lookO Sub.nil))))))) (show Fit κ _ (vc 25 (.slice ad9 2 2) (([⟨nd3, ad4, cp5, es6⟩, ⟨nd, ra, rc, rx⟩] : List GrV)) :: blk b8 [I64 (nd3), .slice ad4 es6.length cp5] 25 :: vc 38 (.slice ad4 es6.length cp5) (es6) :: blk dk2 [.slice la ln lc, I64 ((i27))] 96 :: blk b1 [I64 (nd), .slice ra rx.length rc] 25 :: I) from (Fit.of_sublist (by repeat (first | exact List.Sublist.refl _ | apply List.Sublist.cons_cons | apply List.Sublist.cons | exact List.sublist_append_right _ _ | apply sub_app))))
        ·refine W.skip ?_
         refine V.block_normal ?_
         refine V.then ?_
         refine W.region ?_
         refine G.r (Runs.add rfl rfl (by unfold InR; omega)) ?_
         refine G.r (Runs.move rfl) ?_
         refine G.nil ?_
         exact V.next ((k + 1), (i27)) (show ((k + 1 : Nat) ≤ ([⟨nd3, ad4, cp5, es6⟩, ⟨nd, ra, rc, rx⟩] : List GrV).length) ∧ (0 ≤ (i27 : Int)) from ⟨(by omega), (by omega)⟩) (show ([⟨nd3, ad4, cp5, es6⟩, ⟨nd, ra, rc, rx⟩] : List GrV).length - (k + 1 : Nat) < ([⟨nd3, ad4, cp5, es6⟩, ⟨nd, ra, rc, rx⟩] : List GrV).length - k from (by omega)) (Sub.cons rfl (Sub.cons rfl (Sub.cons rfl (Sub.cons rfl (Sub.cons rfl (Sub.cons rfl (Sub.cons lookO Sub.nil))))))) (show Fit κ _ (vc 25 (.slice ad9 2 2) (([⟨nd3, ad4, cp5, es6⟩, ⟨nd, ra, rc, rx⟩] : List GrV)) :: blk b8 [I64 (nd3), .slice ad4 es6.length cp5] 25 :: vc 38 (.slice ad4 es6.length cp5) (es6) :: blk dk2 [.slice la ln lc, I64 ((i27))] 96 :: blk b1 [I64 (nd), .slice ra rx.length rc] 25 :: I) from (Fit.of_sublist (by repeat (first | exact List.Sublist.refl _ | apply List.Sublist.cons_cons | apply List.Sublist.cons | exact List.sublist_append_right _ _ | apply sub_app))))
   ·refine W.exit ?_
    refine V.then_exit ?_
    refine V.then_exit ?_
    refine V.block_hit ?_
    refine V.then ?_
    refine W.sr ?_
    refine G.e (Eff.call call42 rfl rfl (Awake17_ok (TabRd.fit hT Fit.m))) ?_
    rintro _ _ ⟨_, _, ⟨rfl, rfl⟩, rfl, rfl⟩
    refine G.r (Runs.assign rfl) ?_
    refine G.nt ?_
    refine W.ret ?_
    exact V.ret1 rfl rfl (I) Fit.m ⟨rfl, rfl⟩

end Go.Sl
