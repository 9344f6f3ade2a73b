/- A part of the proofs of statements of this seat: contracts of functions, and the plain laws that they lean on. No conditions. -/
import Derived.Test.YtbimaodbcjjbfaaDoorParts8
namespace Go.Sl
open Go.Proofs
set_option linter.unusedVariables false
set_option linter.unusedSimpArgs false
set_option maxRecDepth 4000
set_option maxHeartbeats 4000000 in
theorem ConnectParts_walk {κ : Ctx} {I : List Item} {nd : Int} {ra : Option Addr} {rc : Nat} {rx : List Pt} (hrx : Sl κ I (.slice ra rx.length rc) rx) {la : Option Addr} {ln lc : Nat} {ls : List Int} (hl : Sl κ I (.slice la ln lc) ls) {fa : Option Addr} {fc : Nat} {fx : List Int} (hfr : Sl κ I (.slice fa fx.length fc) fx) {wa : Option Addr} {wc : Nat} {wx : List Int} (hwi : Sl κ I (.slice wa wx.length wc) wx) (hfb : fx.length ≤ 100000000000000 ∧ wx.length ≤ 100000000000000) (u v : Int) (hT : TabRd κ I 0 tzCells) :
    CallS Tryd.prog κ 6 [.agg #[I64 (nd), .slice ra rx.length rc], .slice la ln lc, .slice fa fx.length fc, .slice wa wx.length wc, I64 (u), I64 (v)] I (fun r J => r = .bool true ∧ I = J) := by
 refine CallS.pull hrx.le fun hmx1 => ?_
 refine CallS.pull hfr.le fun hmx2 => ?_
 refine CallS.pull hwi.le fun hmx3 => ?_
 refine CallS.enter (L := [(0, .agg #[I64 (nd), .slice ra rx.length rc]), (1, .slice la ln lc), (2, .slice fa fx.length fc), (3, .slice wa wx.length wc), (4, I64 (u)), (5, I64 (v))]) Tryd.func6 rfl rfl rfl rfl ?_
 refine W.sr ?_
 refine G.e (Eff.box (cs := [_, _]) rfl rfl rfl) ?_
 rintro _ _ ⟨b1, rfl, rfl⟩
 refine G.r (Runs.assign rfl) ?_
 refine G.nt ?_
 refine W.seq ?_
 refine W.sr ?_
 refine G.r (Runs.lds (vs := [_, _]) ty25) ?_
 refine G.e (Eff.call call33 rfl rfl (Light15_ok (nd := nd) (Sl.f hrx))) ?_
 rintro _ _ ⟨_, _, ⟨rfl, rfl⟩, rfl, rfl⟩
 refine G.r (Runs.not rfl) ?_
 refine G.r (Runs.move rfl) ?_
 refine G.splitb (d := 48) rfl (fun g48 => ?_) (fun g48 => ?_)
 ·refine G.po ?_
  refine G.po ?_
  refine G.po ?_
  refine G.po ?_
  refine G.po ?_
  refine G.po ?_
  refine G.r (Runs.pickt rfl rfl) ?_
  refine G.nt ?_
  refine W.sub (L' := [(55, _), (6, _), (1, _), (2, _), (3, _), (4, _), (5, _)]) (Sub.cons rfl (Sub.cons rfl (Sub.cons rfl (Sub.cons rfl (Sub.cons rfl (Sub.cons rfl (Sub.cons rfl Sub.nil))))))) ?_
  refine W.yes rfl ?_
  refine W.sr ?_
  refine G.e (Eff.call call20 rfl rfl (Awake15_ok (TabRd.fit hT Fit.m))) ?_
  rintro _ _ ⟨_, _, ⟨rfl, rfl⟩, rfl, rfl⟩
  refine G.r (Runs.assign rfl) ?_
  refine G.nt ?_
  refine W.ret ?_
  refine V.then_ret ?_
  exact V.ret1 rfl rfl (I) Fit.m ⟨rfl, rfl⟩
 ·refine G.ro (Runs.move rfl) ?_
  refine G.ro (Runs.lens Tryd.underlying22 rfl) ?_
  refine G.ro (Runs.move rfl) ?_
  refine G.ro (Runs.lens Tryd.underlying22 rfl) ?_
  refine G.ro (Runs.add rfl rfl (by unfold InR; omega)) ?_
  refine G.ro (Runs.gtr rfl rfl) ?_
  refine G.r (Runs.pickf rfl rfl) ?_
  refine G.nt ?_
  refine W.sub (L' := [(55, _), (6, _), (1, _), (2, _), (3, _), (4, _), (5, _)]) (Sub.cons rfl (Sub.cons rfl (Sub.cons rfl (Sub.cons rfl (Sub.cons rfl (Sub.cons rfl (Sub.cons rfl Sub.nil))))))) ?_
  refine W.ite rfl (fun c55 => ?_) (fun c55 => ?_)
  ·refine W.sr ?_
   refine G.e (Eff.call call20 rfl rfl (Awake15_ok (TabRd.fit hT Fit.m))) ?_
   rintro _ _ ⟨_, _, ⟨rfl, rfl⟩, rfl, rfl⟩
   refine G.r (Runs.assign rfl) ?_
   refine G.nt ?_
   refine W.ret ?_
   refine V.then_ret ?_
   exact V.ret1 rfl rfl (I) Fit.m ⟨rfl, rfl⟩
  ·refine W.skip ?_
   refine V.then ?_
   refine W.sr ?_
   refine G.r (Runs.move rfl) ?_
   have hrb : rx.length ≤ 30 := light_len (by simpa using g48)
   refine G.e (Eff.call call13 rfl rfl New_ok) ?_
   rintro _ _ ⟨_, _, ⟨dk2, rfl, rfl⟩, rfl, rfl⟩
   show G Tryd.prog κ _ _ _ _ ([(58, .pointer (some ⟨dk2, 0, none⟩)), (57, .slice la ln lc), (55, .bool (decide (60 < (((fx.length : Nat) : Int) + ((wx.length : Nat) : Int))))), (6, .pointer (some ⟨b1, 0, none⟩)), (1, .slice la ln lc), (2, .slice fa fx.length fc), (3, .slice wa wx.length wc), (4, I64 (u)), (5, I64 (v))] : Env) (blk dk2 [.slice la ln lc, I64 (0)] 96 :: blk b1 [I64 (nd), .slice ra rx.length rc] 25 :: I)
   have hi0 : (0 : Int) ≤ 0 := Int.le_refl _
   refine G.r (Runs.assign rfl) ?_
   refine G.nt ?_
   refine W.sr ?_
   refine G.r (Runs.move rfl) ?_
   refine G.e (Eff.call call12 rfl rfl (MkGraph_at (by repeat (first | exact AtF.head _ _ | apply AtF.tail)) (fun _ => Sl.fit hl Fit.m) (by omega)  (by omega))) ?_
   rintro _ _ ⟨_, _, ⟨⟨nd3, ad4, cp5, es6, i7⟩, ⟨⟨rfl, hges6⟩, hi7⟩, rfl⟩, rfl, rfl⟩
   show G Tryd.prog κ _ _ _ _ ([(60, .agg #[I64 (nd3), .slice ad4 es6.length cp5]), (59, .pointer (some ⟨dk2, 0, none⟩)), (13, .pointer (some ⟨dk2, 0, none⟩)), (58, .pointer (some ⟨dk2, 0, none⟩)), (57, .slice la ln lc), (55, .bool (decide (60 < (((fx.length : Nat) : Int) + ((wx.length : Nat) : Int))))), (6, .pointer (some ⟨b1, 0, none⟩)), (1, .slice la ln lc), (2, .slice fa fx.length fc), (3, .slice wa wx.length wc), (4, I64 (u)), (5, I64 (v))] : Env) (vc 38 (.slice ad4 es6.length cp5) (es6) :: blk dk2 [.slice la ln lc, I64 (i7)] 96 :: blk b1 [I64 (nd), .slice ra rx.length rc] 25 :: I)
   have hi7 : 0 ≤ i7 := hi7
   dsimp only at hges6
   have hG := hges6.2.1
   have hel := hges6.2.2
   have hnd := hges6.1
   refine G.e (Eff.alloc ty25 rfl) ?_
   rintro _ _ ⟨b8, rfl, rfl⟩
   refine G.e (Eff.st (cs := [_, _]) (vs := [_, _]) (cs' := [_, _]) ty25) ?_
   rintro _ _ ⟨rfl, rfl⟩
   refine G.nt ?_
   refine W.seq ?_
   refine W.sr ?_
   refine G.r (Runs.lds (vs := [_, _]) ty25) ?_
   refine G.r (Runs.lds (vs := [_, _]) ty25) ?_
   refine G.e (Eff.bs (α := GrV) (cs := [_, _, _, _]) (xs := [⟨nd3, ad4, cp5, es6⟩, ⟨nd, ra, rc, rx⟩]) Tryd.underlying59 ty25 rfl rfl (by decide) (by decide) rfl rfl rfl rfl) ?_
   rintro _ _ ⟨ad9, rfl, rfl⟩
   have hhg : HeldGr κ (vc 38 (.slice ad4 es6.length cp5) (es6) :: I) ([⟨nd3, ad4, cp5, es6⟩, ⟨nd, ra, rc, rx⟩] : List GrV) := (HeldGr.cons (show Sl κ _ (.slice ad4 es6.length cp5) es6 from Sl.vec (by repeat (first | exact List.mem_cons_self | apply List.mem_cons_of_mem))) (HeldGr.cons (show Sl κ _ (.slice ra rx.length rc) rx from Sl.fit hrx Fit.m) HeldGr.nil))
   have hgl2 : ([⟨nd3, ad4, cp5, es6⟩, ⟨nd, ra, rc, rx⟩] : List GrV).length = 2 := rfl
   have hgb : ∀ r ∈ ([⟨nd3, ad4, cp5, es6⟩, ⟨nd, ra, rc, rx⟩] : List GrV), r.xs.length ≤ 400 := by intro r hr; simp only [List.mem_cons, List.not_mem_nil, or_false] at hr; rcases hr with rfl | rfl <;> dsimp only <;> omega
   refine G.r (Runs.lens Tryd.underlying59 rfl) ?_
   refine G.r (Runs.move rfl) ?_
   refine G.nt ?_
   refine W.sub (L' := [(65, _), (64, _), (63, _), (13, _), (2, _), (3, _), (4, _), (5, _)]) (Sub.cons rfl (Sub.cons rfl (Sub.cons rfl (Sub.cons rfl (Sub.cons rfl (Sub.cons rfl (Sub.cons rfl (Sub.cons rfl Sub.nil)))))))) ?_
   refine W.block ?_
   refine W.loop (σ := Nat × Int) (fun s => ([(2, .slice fa fx.length fc), (3, .slice wa wx.length wc), (4, I64 (u)), (5, I64 (v)), (13, .pointer (some ⟨dk2, 0, none⟩)), (63, .slice ad9 2 2), (64, I64 (((2 : Nat) : Int))), (65, I64 (((s.1 : Nat) : Int)))] : Env)) (fun s => vc 25 (.slice ad9 2 2) (([⟨nd3, ad4, cp5, es6⟩, ⟨nd, ra, rc, rx⟩] : List GrV)) :: blk b8 [I64 (nd3), .slice ad4 es6.length cp5] 25 :: vc 38 (.slice ad4 es6.length cp5) (es6) :: blk dk2 [.slice la ln lc, I64 (s.2)] 96 :: blk b1 [I64 (nd), .slice ra rx.length rc] 25 :: I) (fun s => (s.1 ≤ ([⟨nd3, ad4, cp5, es6⟩, ⟨nd, ra, rc, rx⟩] : List GrV).length) ∧ (0 ≤ s.2)) (fun s => ([⟨nd3, ad4, cp5, es6⟩, ⟨nd, ra, rc, rx⟩] : List GrV).length - s.1) (0, i7) (show ((0 : Nat) ≤ ([⟨nd3, ad4, cp5, es6⟩, ⟨nd, ra, rc, rx⟩] : List GrV).length) ∧ (0 ≤ (i7 : Int)) from ⟨(by omega), (by omega)⟩) (Sub.cons rfl (Sub.cons rfl (Sub.cons rfl (Sub.cons rfl (Sub.cons rfl (Sub.cons rfl (Sub.cons rfl (Sub.cons lookO Sub.nil)))))))) (show Fit κ _ (vc 25 (.slice ad9 2 2) (([⟨nd3, ad4, cp5, es6⟩, ⟨nd, ra, rc, rx⟩] : List GrV)) :: blk b8 [I64 (nd3), .slice ad4 es6.length cp5] 25 :: vc 38 (.slice ad4 es6.length cp5) (es6) :: blk dk2 [.slice la ln lc, I64 ((i7))] 96 :: blk b1 [I64 (nd), .slice ra rx.length rc] 25 :: I) from Fit.sub) ?_
   rintro ⟨k, iqz⟩ hp
   obtain ⟨hk, hiqz⟩ : (k ≤ ([⟨nd3, ad4, cp5, es6⟩, ⟨nd, ra, rc, rx⟩] : List GrV).length) ∧ (0 ≤ iqz) := hp
   show W Tryd.prog κ 241 _ _ ([(2, .slice fa fx.length fc), (3, .slice wa wx.length wc), (4, I64 (u)), (5, I64 (v)), (13, .pointer (some ⟨dk2, 0, none⟩)), (63, .slice ad9 2 2), (64, I64 (((2 : Nat) : Int))), (65, I64 (((k : Nat) : Int)))] : Env) (vc 25 (.slice ad9 2 2) (([⟨nd3, ad4, cp5, es6⟩, ⟨nd, ra, rc, rx⟩] : List GrV)) :: blk b8 [I64 (nd3), .slice ad4 es6.length cp5] 25 :: vc 38 (.slice ad4 es6.length cp5) (es6) :: blk dk2 [.slice la ln lc, I64 (iqz)] 96 :: blk b1 [I64 (nd), .slice ra rx.length rc] 25 :: I)
   have hxl : k < ([⟨nd3, ad4, cp5, es6⟩, ⟨nd, ra, rc, rx⟩] : List GrV).length → (at_ ([⟨nd3, ad4, cp5, es6⟩, ⟨nd, ra, rc, rx⟩] : List GrV) ((k : Nat) : Int)).xs.length ≤ 400 := fun h => hgb _ (at_mem (by omega) (by omega))
   refine W.sr ?_
   refine G.r (Runs.lss rfl rfl) ?_
   refine G.nt ?_
   refine W.seq ?_
   refine W.ite rfl (fun c66 => ?_) (fun c66 => ?_)
   ·refine W.skip ?_
    refine V.then ?_
    refine W.seq ?_
    refine W.block ?_
    refine W.sr ?_
    refine G.r (Runs.idx (α := GrV) (xs := ([⟨nd3, ad4, cp5, es6⟩, ⟨nd, ra, rc, rx⟩] : List GrV)) Tryd.underlying59 ty25 rfl rfl Sl.o (by omega) (by omega)) ?_
    refine G.r (Runs.gets (α := GrV) (xs := ([⟨nd3, ad4, cp5, es6⟩, ⟨nd, ra, rc, rx⟩] : List GrV)) ty25 rfl Sl.o (by omega) (by omega)) ?_
    refine G.e (Eff.alloc ty25 rfl) ?_
    rintro _ _ ⟨b10, rfl, rfl⟩
    refine G.e (Eff.st (cs := [_, _]) (vs := [_, _]) (cs' := [_, _]) ty25) ?_
    rintro _ _ ⟨rfl, rfl⟩
    refine G.nt ?_
    refine W.sr ?_
    refine G.r (Runs.lds (vs := [_, _]) ty25) ?_
    refine G.e (Eff.call call28 rfl rfl (Components_ok (nd := ((at_ ([⟨nd3, ad4, cp5, es6⟩, ⟨nd, ra, rc, rx⟩] : List GrV) ((k : Nat) : Int)).n)) (Sl.fit (HeldGr.at hhg (i := ((k : Nat) : Int)) (by omega) (by omega)) (Fit.of_sublist (by repeat (first | exact List.Sublist.refl _ | apply List.Sublist.cons_cons | apply List.Sublist.cons | exact List.sublist_append_right _ _ | apply sub_app)))) (TabRd.fit hT Fit.m))) ?_
    rintro _ _ ⟨_, _, ⟨ad11, cp12, rs13, rfl, hrs13, rfl⟩, rfl, rfl⟩
    refine G.fit (J := vc 22 (.slice ad11 rs13.length cp12) (rs13) :: blk b10 [I64 ((at_ ([⟨nd3, ad4, cp5, es6⟩, ⟨nd, ra, rc, rx⟩] : List GrV) ((k : Nat) : Int)).n), .slice (at_ ([⟨nd3, ad4, cp5, es6⟩, ⟨nd, ra, rc, rx⟩] : List GrV) ((k : Nat) : Int)).a (at_ ([⟨nd3, ad4, cp5, es6⟩, ⟨nd, ra, rc, rx⟩] : List GrV) ((k : Nat) : Int)).xs.length (at_ ([⟨nd3, ad4, cp5, es6⟩, ⟨nd, ra, rc, rx⟩] : List GrV) ((k : Nat) : Int)).c] 25 :: vc 25 (.slice ad9 2 2) (([⟨nd3, ad4, cp5, es6⟩, ⟨nd, ra, rc, rx⟩] : List GrV)) :: blk b8 [I64 (nd3), .slice ad4 es6.length cp5] 25 :: vc 38 (.slice ad4 es6.length cp5) (es6) :: blk dk2 [.slice la ln lc, I64 (iqz)] 96 :: blk b1 [I64 (nd), .slice ra rx.length rc] 25 :: (ownR 3 rs13 ++ I)) Fit.s ?_
    refine G.r (Runs.move rfl) ?_
    refine G.r (Runs.extract rfl rfl) ?_
    refine G.r (Runs.extract rfl rfl) ?_
    refine G.r (Runs.assign rfl) ?_
    refine G.r (Runs.assign rfl) ?_
    refine G.nt ?_
    refine W.sub (L' := [(18, _), (17, _), (16, _), (2, _), (3, _), (4, _), (5, _), (13, _), (63, _), (64, _), (65, _)]) (Sub.cons rfl (Sub.cons rfl (Sub.cons rfl (Sub.cons rfl (Sub.cons rfl (Sub.cons rfl (Sub.cons rfl (Sub.cons rfl (Sub.cons rfl (Sub.cons rfl (Sub.cons rfl Sub.nil))))))))))) ?_
    refine W.sr ?_
    refine G.r (Runs.lds (vs := [_, _]) ty25) ?_
    refine G.e (Eff.call call34 rfl rfl (Comps15_ok (nd := ((at_ ([⟨nd3, ad4, cp5, es6⟩, ⟨nd, ra, rc, rx⟩] : List GrV) ((k : Nat) : Int)).n)) (Sl.fit (HeldGr.at hhg (i := ((k : Nat) : Int)) (by omega) (by omega)) (Fit.of_sublist (by repeat (first | exact List.Sublist.refl _ | apply List.Sublist.cons_cons | apply List.Sublist.cons | exact List.sublist_append_right _ _ | apply sub_app)))) (by have := hxl (by omega); omega))) ?_
    rintro _ _ ⟨_, _, ⟨ad14, cp15, rs16, rfl, hrs16, rfl⟩, rfl, rfl⟩
    refine G.fit (J := vc 22 (.slice ad14 rs16.length cp15) (rs16) :: vc 22 (.slice ad11 rs13.length cp12) (rs13) :: blk b10 [I64 ((at_ ([⟨nd3, ad4, cp5, es6⟩, ⟨nd, ra, rc, rx⟩] : List GrV) ((k : Nat) : Int)).n), .slice (at_ ([⟨nd3, ad4, cp5, es6⟩, ⟨nd, ra, rc, rx⟩] : List GrV) ((k : Nat) : Int)).a (at_ ([⟨nd3, ad4, cp5, es6⟩, ⟨nd, ra, rc, rx⟩] : List GrV) ((k : Nat) : Int)).xs.length (at_ ([⟨nd3, ad4, cp5, es6⟩, ⟨nd, ra, rc, rx⟩] : List GrV) ((k : Nat) : Int)).c] 25 :: vc 25 (.slice ad9 2 2) (([⟨nd3, ad4, cp5, es6⟩, ⟨nd, ra, rc, rx⟩] : List GrV)) :: blk b8 [I64 (nd3), .slice ad4 es6.length cp5] 25 :: vc 38 (.slice ad4 es6.length cp5) (es6) :: blk dk2 [.slice la ln lc, I64 (iqz)] 96 :: blk b1 [I64 (nd), .slice ra rx.length rc] 25 :: (ownR 3 rs16 ++ (ownR 3 rs13 ++ I))) Fit.s ?_
    refine G.r (Runs.move rfl) ?_
    refine G.r (Runs.extract rfl rfl) ?_
    refine G.r (Runs.extract rfl rfl) ?_
    refine G.r (Runs.assign rfl) ?_
    refine G.r (Runs.assign rfl) ?_
    refine G.nt ?_
    refine W.sub (L' := [(20, _), (19, _), (18, _), (17, _), (16, _), (2, _), (3, _), (4, _), (5, _), (13, _), (63, _), (64, _), (65, _)]) (Sub.cons rfl (Sub.cons rfl (Sub.cons rfl (Sub.cons rfl (Sub.cons rfl (Sub.cons rfl (Sub.cons rfl (Sub.cons rfl (Sub.cons rfl (Sub.cons rfl (Sub.cons rfl (Sub.cons rfl (Sub.cons rfl Sub.nil))))))))))))) ?_
    refine W.sr ?_
    refine G.r (Runs.lds (vs := [_, _]) ty25) ?_
    refine G.e (Eff.call call15 rfl rfl (Bridges_ok (nd := ((at_ ([⟨nd3, ad4, cp5, es6⟩, ⟨nd, ra, rc, rx⟩] : List GrV) ((k : Nat) : Int)).n)) (Sl.fit (HeldGr.at hhg (i := ((k : Nat) : Int)) (by omega) (by omega)) (Fit.of_sublist (by repeat (first | exact List.Sublist.refl _ | apply List.Sublist.cons_cons | apply List.Sublist.cons | exact List.sublist_append_right _ _ | apply sub_app)))) (TabRd.fit hT Fit.m))) ?_
    rintro _ _ ⟨_, _, ⟨ad17, cp18, rfl, rfl⟩, rfl, rfl⟩
    refine G.r (Runs.move rfl) ?_
    refine G.r (Runs.extract rfl rfl) ?_
    refine G.r (Runs.extract rfl rfl) ?_
    refine G.r (Runs.assign rfl) ?_
    refine G.r (Runs.assign rfl) ?_
    refine G.nt ?_
    refine W.sub (L' := [(22, _), (21, _), (20, _), (19, _), (18, _), (17, _), (16, _), (2, _), (3, _), (4, _), (5, _), (13, _), (63, _), (64, _), (65, _)]) (Sub.cons rfl (Sub.cons rfl (Sub.cons rfl (Sub.cons rfl (Sub.cons rfl (Sub.cons rfl (Sub.cons rfl (Sub.cons rfl (Sub.cons rfl (Sub.cons rfl (Sub.cons rfl (Sub.cons rfl (Sub.cons rfl (Sub.cons rfl (Sub.cons rfl Sub.nil))))))))))))))) ?_
    refine W.sr ?_
    refine G.r (Runs.lds (vs := [_, _]) ty25) ?_
    refine G.e (Eff.call call35 rfl rfl (Bridges15_ok (nd := ((at_ ([⟨nd3, ad4, cp5, es6⟩, ⟨nd, ra, rc, rx⟩] : List GrV) ((k : Nat) : Int)).n)) (Sl.fit (HeldGr.at hhg (i := ((k : Nat) : Int)) (by omega) (by omega)) (Fit.of_sublist (by repeat (first | exact List.Sublist.refl _ | apply List.Sublist.cons_cons | apply List.Sublist.cons | exact List.sublist_append_right _ _ | apply sub_app)))) (by have := hxl (by omega); omega))) ?_
    rintro _ _ ⟨_, _, ⟨ad19, cp20, rfl, rfl⟩, rfl, rfl⟩
    refine G.r (Runs.move rfl) ?_
    refine G.r (Runs.extract rfl rfl) ?_
    refine G.r (Runs.extract rfl rfl) ?_
    refine G.r (Runs.assign rfl) ?_
    refine G.r (Runs.assign rfl) ?_
    refine G.nt ?_
    refine W.sub (L' := [(24, _), (23, _), (22, _), (21, _), (20, _), (19, _), (18, _), (17, _), (16, _), (2, _), (3, _), (4, _), (5, _), (13, _), (63, _), (64, _), (65, _)]) (Sub.cons rfl (Sub.cons rfl (Sub.cons rfl (Sub.cons rfl (Sub.cons rfl (Sub.cons rfl (Sub.cons rfl (Sub.cons rfl (Sub.cons rfl (Sub.cons rfl (Sub.cons rfl (Sub.cons rfl (Sub.cons rfl (Sub.cons rfl (Sub.cons rfl (Sub.cons rfl (Sub.cons rfl Sub.nil))))))))))))))))) ?_
    refine W.sr ?_
    refine G.r (Runs.lds (vs := [_, _]) ty25) ?_
    refine G.e (Eff.call call16 rfl rfl (Joints_ok (nd := ((at_ ([⟨nd3, ad4, cp5, es6⟩, ⟨nd, ra, rc, rx⟩] : List GrV) ((k : Nat) : Int)).n)) (Sl.fit (HeldGr.at hhg (i := ((k : Nat) : Int)) (by omega) (by omega)) (Fit.of_sublist (by repeat (first | exact List.Sublist.refl _ | apply List.Sublist.cons_cons | apply List.Sublist.cons | exact List.sublist_append_right _ _ | apply sub_app)))) (TabRd.fit hT Fit.m))) ?_
    rintro _ _ ⟨_, _, ⟨ad21, cp22, rfl, rfl⟩, rfl, rfl⟩
    refine G.r (Runs.move rfl) ?_
    refine G.r (Runs.extract rfl rfl) ?_
    refine G.r (Runs.extract rfl rfl) ?_
    refine G.r (Runs.assign rfl) ?_
    refine G.r (Runs.assign rfl) ?_
    refine G.nt ?_
    refine W.sub (L' := [(26, _), (25, _), (24, _), (23, _), (22, _), (21, _), (20, _), (19, _), (18, _), (17, _), (16, _), (2, _), (3, _), (4, _), (5, _), (13, _), (63, _), (64, _), (65, _)]) (Sub.cons rfl (Sub.cons rfl (Sub.cons rfl (Sub.cons rfl (Sub.cons rfl (Sub.cons rfl (Sub.cons rfl (Sub.cons rfl (Sub.cons rfl (Sub.cons rfl (Sub.cons rfl (Sub.cons rfl (Sub.cons rfl (Sub.cons rfl (Sub.cons rfl (Sub.cons rfl (Sub.cons rfl (Sub.cons rfl (Sub.cons rfl Sub.nil))))))))))))))))))) ?_
    refine W.sr ?_
    refine G.r (Runs.lds (vs := [_, _]) ty25) ?_
    refine G.e (Eff.call call36 rfl rfl (Joints15_ok (nd := ((at_ ([⟨nd3, ad4, cp5, es6⟩, ⟨nd, ra, rc, rx⟩] : List GrV) ((k : Nat) : Int)).n)) (Sl.fit (HeldGr.at hhg (i := ((k : Nat) : Int)) (by omega) (by omega)) (Fit.of_sublist (by repeat (first | exact List.Sublist.refl _ | apply List.Sublist.cons_cons | apply List.Sublist.cons | exact List.sublist_append_right _ _ | apply sub_app)))) (by have := hxl (by omega); omega))) ?_
    rintro _ _ ⟨_, _, ⟨ad23, cp24, rfl, rfl⟩, rfl, rfl⟩
    refine G.r (Runs.move rfl) ?_
    refine G.r (Runs.extract rfl rfl) ?_
    refine G.r (Runs.extract rfl rfl) ?_
    refine G.r (Runs.assign rfl) ?_
    refine G.r (Runs.assign rfl) ?_
    refine G.nt ?_
    refine W.sub (L' := [(28, _), (27, _), (26, _), (25, _), (24, _), (23, _), (22, _), (21, _), (20, _), (19, _), (18, _), (17, _), (16, _), (2, _), (3, _), (4, _), (5, _), (13, _), (63, _), (64, _), (65, _)]) (Sub.cons rfl (Sub.cons rfl (Sub.cons rfl (Sub.cons rfl (Sub.cons rfl (Sub.cons rfl (Sub.cons rfl (Sub.cons rfl (Sub.cons rfl (Sub.cons rfl (Sub.cons rfl (Sub.cons rfl (Sub.cons rfl (Sub.cons rfl (Sub.cons rfl (Sub.cons rfl (Sub.cons rfl (Sub.cons rfl (Sub.cons rfl (Sub.cons rfl (Sub.cons rfl Sub.nil))))))))))))))))))))) ?_
    refine W.sr ?_
    refine G.r (Runs.lds (vs := [_, _]) ty25) ?_
    refine G.e (Eff.call call14 rfl rfl (BlksC_ok (nd := ((at_ ([⟨nd3, ad4, cp5, es6⟩, ⟨nd, ra, rc, rx⟩] : List GrV) ((k : Nat) : Int)).n)) (Sl.fit (HeldGr.at hhg (i := ((k : Nat) : Int)) (by omega) (by omega)) (Fit.of_sublist (by repeat (first | exact List.Sublist.refl _ | apply List.Sublist.cons_cons | apply List.Sublist.cons | exact List.sublist_append_right _ _ | apply sub_app)))) (TabRd.fit hT Fit.m))) ?_
    rintro _ _ ⟨_, _, ⟨ad25, cp26, rs27, rfl, hrs27, hbrs27, rfl⟩, rfl, rfl⟩
    refine G.fit (J := vc 23 (.slice ad25 rs27.length cp26) (rs27) :: vc 3 (.slice ad23 (jointsG ((at_ ([⟨nd3, ad4, cp5, es6⟩, ⟨nd, ra, rc, rx⟩] : List GrV) ((k : Nat) : Int)).n) ((at_ ([⟨nd3, ad4, cp5, es6⟩, ⟨nd, ra, rc, rx⟩] : List GrV) ((k : Nat) : Int)).xs)).length cp24) (jointsG ((at_ ([⟨nd3, ad4, cp5, es6⟩, ⟨nd, ra, rc, rx⟩] : List GrV) ((k : Nat) : Int)).n) ((at_ ([⟨nd3, ad4, cp5, es6⟩, ⟨nd, ra, rc, rx⟩] : List GrV) ((k : Nat) : Int)).xs)) :: vc 3 (.slice ad21 (jointsG ((at_ ([⟨nd3, ad4, cp5, es6⟩, ⟨nd, ra, rc, rx⟩] : List GrV) ((k : Nat) : Int)).n) ((at_ ([⟨nd3, ad4, cp5, es6⟩, ⟨nd, ra, rc, rx⟩] : List GrV) ((k : Nat) : Int)).xs)).length cp22) (jointsG ((at_ ([⟨nd3, ad4, cp5, es6⟩, ⟨nd, ra, rc, rx⟩] : List GrV) ((k : Nat) : Int)).n) ((at_ ([⟨nd3, ad4, cp5, es6⟩, ⟨nd, ra, rc, rx⟩] : List GrV) ((k : Nat) : Int)).xs)) :: vc 38 (.slice ad19 (bridgesG ((at_ ([⟨nd3, ad4, cp5, es6⟩, ⟨nd, ra, rc, rx⟩] : List GrV) ((k : Nat) : Int)).n) ((at_ ([⟨nd3, ad4, cp5, es6⟩, ⟨nd, ra, rc, rx⟩] : List GrV) ((k : Nat) : Int)).xs)).length cp20) (bridgesG ((at_ ([⟨nd3, ad4, cp5, es6⟩, ⟨nd, ra, rc, rx⟩] : List GrV) ((k : Nat) : Int)).n) ((at_ ([⟨nd3, ad4, cp5, es6⟩, ⟨nd, ra, rc, rx⟩] : List GrV) ((k : Nat) : Int)).xs)) :: vc 38 (.slice ad17 (bridgesG ((at_ ([⟨nd3, ad4, cp5, es6⟩, ⟨nd, ra, rc, rx⟩] : List GrV) ((k : Nat) : Int)).n) ((at_ ([⟨nd3, ad4, cp5, es6⟩, ⟨nd, ra, rc, rx⟩] : List GrV) ((k : Nat) : Int)).xs)).length cp18) (bridgesG ((at_ ([⟨nd3, ad4, cp5, es6⟩, ⟨nd, ra, rc, rx⟩] : List GrV) ((k : Nat) : Int)).n) ((at_ ([⟨nd3, ad4, cp5, es6⟩, ⟨nd, ra, rc, rx⟩] : List GrV) ((k : Nat) : Int)).xs)) :: vc 22 (.slice ad14 rs16.length cp15) (rs16) :: vc 22 (.slice ad11 rs13.length cp12) (rs13) :: blk b10 [I64 ((at_ ([⟨nd3, ad4, cp5, es6⟩, ⟨nd, ra, rc, rx⟩] : List GrV) ((k : Nat) : Int)).n), .slice (at_ ([⟨nd3, ad4, cp5, es6⟩, ⟨nd, ra, rc, rx⟩] : List GrV) ((k : Nat) : Int)).a (at_ ([⟨nd3, ad4, cp5, es6⟩, ⟨nd, ra, rc, rx⟩] : List GrV) ((k : Nat) : Int)).xs.length (at_ ([⟨nd3, ad4, cp5, es6⟩, ⟨nd, ra, rc, rx⟩] : List GrV) ((k : Nat) : Int)).c] 25 :: vc 25 (.slice ad9 2 2) (([⟨nd3, ad4, cp5, es6⟩, ⟨nd, ra, rc, rx⟩] : List GrV)) :: blk b8 [I64 (nd3), .slice ad4 es6.length cp5] 25 :: vc 38 (.slice ad4 es6.length cp5) (es6) :: blk dk2 [.slice la ln lc, I64 (iqz)] 96 :: blk b1 [I64 (nd), .slice ra rx.length rc] 25 :: (ownR 38 rs27 ++ (ownR 3 rs16 ++ (ownR 3 rs13 ++ I)))) Fit.s ?_
    refine G.r (Runs.move rfl) ?_
    refine G.r (Runs.extract rfl rfl) ?_
    refine G.r (Runs.extract rfl rfl) ?_
    refine G.r (Runs.assign rfl) ?_
    refine G.r (Runs.assign rfl) ?_
    refine G.nt ?_
    refine W.sub (L' := [(30, _), (29, _), (28, _), (27, _), (26, _), (25, _), (24, _), (23, _), (22, _), (21, _), (20, _), (19, _), (18, _), (17, _), (16, _), (2, _), (3, _), (4, _), (5, _), (13, _), (63, _), (64, _), (65, _)]) (Sub.cons rfl (Sub.cons rfl (Sub.cons rfl (Sub.cons rfl (Sub.cons rfl (Sub.cons rfl (Sub.cons rfl (Sub.cons rfl (Sub.cons rfl (Sub.cons rfl (Sub.cons rfl (Sub.cons rfl (Sub.cons rfl (Sub.cons rfl (Sub.cons rfl (Sub.cons rfl (Sub.cons rfl (Sub.cons rfl (Sub.cons rfl (Sub.cons rfl (Sub.cons rfl (Sub.cons rfl (Sub.cons rfl Sub.nil))))))))))))))))))))))) ?_
    refine W.sr ?_
    refine G.r (Runs.lds (vs := [_, _]) ty25) ?_
    refine G.e (Eff.call call37 rfl rfl (Blocks15_ok (nd := ((at_ ([⟨nd3, ad4, cp5, es6⟩, ⟨nd, ra, rc, rx⟩] : List GrV) ((k : Nat) : Int)).n)) (Sl.fit (HeldGr.at hhg (i := ((k : Nat) : Int)) (by omega) (by omega)) (Fit.of_sublist (by repeat (first | exact List.Sublist.refl _ | apply List.Sublist.cons_cons | apply List.Sublist.cons | exact List.sublist_append_right _ _ | apply sub_app)))) (by have := hxl (by omega); omega))) ?_
    rintro _ _ ⟨_, _, ⟨ad28, cp29, rs30, rfl, hrs30, rfl⟩, rfl, rfl⟩
    refine G.fit (J := vc 23 (.slice ad28 rs30.length cp29) (rs30) :: vc 23 (.slice ad25 rs27.length cp26) (rs27) :: vc 3 (.slice ad23 (jointsG ((at_ ([⟨nd3, ad4, cp5, es6⟩, ⟨nd, ra, rc, rx⟩] : List GrV) ((k : Nat) : Int)).n) ((at_ ([⟨nd3, ad4, cp5, es6⟩, ⟨nd, ra, rc, rx⟩] : List GrV) ((k : Nat) : Int)).xs)).length cp24) (jointsG ((at_ ([⟨nd3, ad4, cp5, es6⟩, ⟨nd, ra, rc, rx⟩] : List GrV) ((k : Nat) : Int)).n) ((at_ ([⟨nd3, ad4, cp5, es6⟩, ⟨nd, ra, rc, rx⟩] : List GrV) ((k : Nat) : Int)).xs)) :: vc 3 (.slice ad21 (jointsG ((at_ ([⟨nd3, ad4, cp5, es6⟩, ⟨nd, ra, rc, rx⟩] : List GrV) ((k : Nat) : Int)).n) ((at_ ([⟨nd3, ad4, cp5, es6⟩, ⟨nd, ra, rc, rx⟩] : List GrV) ((k : Nat) : Int)).xs)).length cp22) (jointsG ((at_ ([⟨nd3, ad4, cp5, es6⟩, ⟨nd, ra, rc, rx⟩] : List GrV) ((k : Nat) : Int)).n) ((at_ ([⟨nd3, ad4, cp5, es6⟩, ⟨nd, ra, rc, rx⟩] : List GrV) ((k : Nat) : Int)).xs)) :: vc 38 (.slice ad19 (bridgesG ((at_ ([⟨nd3, ad4, cp5, es6⟩, ⟨nd, ra, rc, rx⟩] : List GrV) ((k : Nat) : Int)).n) ((at_ ([⟨nd3, ad4, cp5, es6⟩, ⟨nd, ra, rc, rx⟩] : List GrV) ((k : Nat) : Int)).xs)).length cp20) (bridgesG ((at_ ([⟨nd3, ad4, cp5, es6⟩, ⟨nd, ra, rc, rx⟩] : List GrV) ((k : Nat) : Int)).n) ((at_ ([⟨nd3, ad4, cp5, es6⟩, ⟨nd, ra, rc, rx⟩] : List GrV) ((k : Nat) : Int)).xs)) :: vc 38 (.slice ad17 (bridgesG ((at_ ([⟨nd3, ad4, cp5, es6⟩, ⟨nd, ra, rc, rx⟩] : List GrV) ((k : Nat) : Int)).n) ((at_ ([⟨nd3, ad4, cp5, es6⟩, ⟨nd, ra, rc, rx⟩] : List GrV) ((k : Nat) : Int)).xs)).length cp18) (bridgesG ((at_ ([⟨nd3, ad4, cp5, es6⟩, ⟨nd, ra, rc, rx⟩] : List GrV) ((k : Nat) : Int)).n) ((at_ ([⟨nd3, ad4, cp5, es6⟩, ⟨nd, ra, rc, rx⟩] : List GrV) ((k : Nat) : Int)).xs)) :: vc 22 (.slice ad14 rs16.length cp15) (rs16) :: vc 22 (.slice ad11 rs13.length cp12) (rs13) :: blk b10 [I64 ((at_ ([⟨nd3, ad4, cp5, es6⟩, ⟨nd, ra, rc, rx⟩] : List GrV) ((k : Nat) : Int)).n), .slice (at_ ([⟨nd3, ad4, cp5, es6⟩, ⟨nd, ra, rc, rx⟩] : List GrV) ((k : Nat) : Int)).a (at_ ([⟨nd3, ad4, cp5, es6⟩, ⟨nd, ra, rc, rx⟩] : List GrV) ((k : Nat) : Int)).xs.length (at_ ([⟨nd3, ad4, cp5, es6⟩, ⟨nd, ra, rc, rx⟩] : List GrV) ((k : Nat) : Int)).c] 25 :: vc 25 (.slice ad9 2 2) (([⟨nd3, ad4, cp5, es6⟩, ⟨nd, ra, rc, rx⟩] : List GrV)) :: blk b8 [I64 (nd3), .slice ad4 es6.length cp5] 25 :: vc 38 (.slice ad4 es6.length cp5) (es6) :: blk dk2 [.slice la ln lc, I64 (iqz)] 96 :: blk b1 [I64 (nd), .slice ra rx.length rc] 25 :: (ownR 38 rs30 ++ (ownR 38 rs27 ++ (ownR 3 rs16 ++ (ownR 3 rs13 ++ I))))) Fit.s ?_
    refine G.r (Runs.move rfl) ?_
    refine G.r (Runs.extract rfl rfl) ?_
    refine G.r (Runs.extract rfl rfl) ?_
    refine G.r (Runs.assign rfl) ?_
    refine G.r (Runs.assign rfl) ?_
    refine G.nt ?_
    refine W.sub (L' := [(32, _), (31, _), (30, _), (29, _), (28, _), (27, _), (26, _), (25, _), (24, _), (23, _), (22, _), (21, _), (20, _), (19, _), (18, _), (17, _), (16, _), (2, _), (3, _), (4, _), (5, _), (13, _), (63, _), (64, _), (65, _)]) (Sub.cons rfl (Sub.cons rfl (Sub.cons rfl (Sub.cons rfl (Sub.cons rfl (Sub.cons rfl (Sub.cons rfl (Sub.cons rfl (Sub.cons rfl (Sub.cons rfl (Sub.cons rfl (Sub.cons rfl (Sub.cons rfl (Sub.cons rfl (Sub.cons rfl (Sub.cons rfl (Sub.cons rfl (Sub.cons rfl (Sub.cons rfl (Sub.cons rfl (Sub.cons rfl (Sub.cons rfl (Sub.cons rfl (Sub.cons rfl (Sub.cons rfl Sub.nil))))))))))))))))))))))))) ?_
    refine W.seq ?_
    refine W.sr ?_
    refine G.r (Runs.move rfl) ?_
    refine G.r (Runs.move rfl) ?_
    refine G.r (Runs.neq rfl rfl) ?_
    refine G.r (Runs.move rfl) ?_
    refine G.split (d := 112) rfl (fun g112 => ?_) (fun g112 => ?_)
    ·exact absurd rfl g112
    ·refine G.ro (Runs.move rfl) ?_
     refine G.ro (Runs.move rfl) ?_
     refine G.ro (Runs.neq rfl rfl) ?_
     refine G.r (Runs.pickf rfl rfl) ?_
     refine G.r (Runs.move rfl) ?_
     refine G.split (d := 117) rfl (fun g117 => ?_) (fun g117 => ?_)
     ·exact absurd rfl g117
     ·refine G.ro (Runs.move rfl) ?_
      refine G.ro (Runs.move rfl) ?_
      refine G.ro (Runs.neq rfl rfl) ?_
      refine G.r (Runs.pickf rfl rfl) ?_
      refine G.r (Runs.move rfl) ?_
      refine G.split (d := 122) rfl (fun g122 => ?_) (fun g122 => ?_)
      ·exact absurd rfl g122
      ·refine G.ro (Runs.move rfl) ?_
       refine G.ro (Runs.move rfl) ?_
       refine G.ro (Runs.neq rfl rfl) ?_
       refine G.r (Runs.pickf rfl rfl) ?_
       refine G.r (Runs.move rfl) ?_
       refine G.split (d := 127) rfl (fun g127 => ?_) (fun g127 => ?_)
       ·exact absurd rfl g127
       ·refine G.ro (Runs.move rfl) ?_
        refine G.ro (Runs.move rfl) ?_
        refine G.eff (Wanted.on rfl rfl rfl) (Eff.call call38 rfl rfl (SameAll_ok Sl.o Sl.o (ownR_in (e := 3) (rs := rs13) (fun x hx => by repeat (first | exact List.mem_append_left _ hx | apply List.mem_append_right | apply List.mem_cons_of_mem))) (ownR_in (e := 3) (rs := rs16) (fun x hx => by repeat (first | exact List.mem_append_left _ hx | apply List.mem_append_right | apply List.mem_cons_of_mem))))) ?_
        rintro _ _ ⟨_, _, ⟨rfl, rfl⟩, rfl, rfl⟩
        refine G.ro (Runs.notd rfl) ?_
        refine G.r (Runs.pickf rfl rfl) ?_
        refine G.r (Runs.move rfl) ?_
        refine G.split (d := 133) rfl (fun g133 => ?_) (fun g133 => ?_)
        ·exact absurd (by rw [hrs16, hrs13]) g133
        ·refine G.ro (Runs.move rfl) ?_
         refine G.ro (Runs.move rfl) ?_
         refine G.eff (Wanted.on rfl rfl rfl) (Eff.call call39 rfl rfl (SameEdges_ok Sl.o Sl.o)) ?_
         rintro _ _ ⟨_, _, ⟨rfl, rfl⟩, rfl, rfl⟩
         refine G.ro (Runs.notd rfl) ?_
         refine G.r (Runs.pickf rfl rfl) ?_
         refine G.r (Runs.move rfl) ?_
         refine G.split (d := 139) rfl (fun g139 => ?_) (fun g139 => ?_)
         ·exact absurd rfl g139
         ·refine G.ro (Runs.move rfl) ?_
          refine G.ro (Runs.move rfl) ?_
          refine G.eff (Wanted.on rfl rfl rfl) (Eff.call call27 rfl rfl (Same_ok Sl.o Sl.o)) ?_
          rintro _ _ ⟨_, _, ⟨rfl, rfl⟩, rfl, rfl⟩
          refine G.ro (Runs.notd rfl) ?_
          refine G.r (Runs.pickf rfl rfl) ?_
          refine G.r (Runs.move rfl) ?_
          refine G.split (d := 145) rfl (fun g145 => ?_) (fun g145 => ?_)
          ·exact absurd rfl g145
          ·refine G.ro (Runs.move rfl) ?_
           refine G.ro (Runs.move rfl) ?_
           refine G.eff (Wanted.on rfl rfl rfl) (Eff.call call40 rfl rfl (SameB_ok Sl.o Sl.o (ownR_in (e := 38) (rs := rs27) (fun x hx => by repeat (first | exact List.mem_append_left _ hx | apply List.mem_append_right | apply List.mem_cons_of_mem))) (ownR_in (e := 38) (rs := rs30) (fun x hx => by repeat (first | exact List.mem_append_left _ hx | apply List.mem_append_right | apply List.mem_cons_of_mem))))) ?_
           rintro _ _ ⟨_, _, ⟨rfl, rfl⟩, rfl, rfl⟩
           refine G.ro (Runs.notd rfl) ?_
           refine G.r (Runs.pickf rfl rfl) ?_
           refine G.nt ?_
           refine W.sub (L' := [(150, _), (16, _), (2, _), (3, _), (4, _), (5, _), (13, _), (63, _), (64, _), (65, _)]) (Sub.cons rfl (Sub.cons rfl (Sub.cons rfl (Sub.cons rfl (Sub.cons rfl (Sub.cons rfl (Sub.cons rfl (Sub.cons rfl (Sub.cons rfl (Sub.cons rfl Sub.nil)))))))))) ?_
           refine W.ite rfl (fun c150 => ?_) (fun c150 => ?_)
           ·exact absurd (by rw [hrs30, hrs27]) c150
           ·refine W.skip ?_
            refine V.then ?_
            refine W.seq ?_
            refine W.sr ?_
            refine G.r (Runs.move rfl) ?_
            refine G.r (Runs.move rfl) ?_
            refine G.r (Runs.buildArr (cells := [_, _]) ty63 Tryd.underlying63 ty3 rfl rfl) ?_
            refine G.r (Runs.move rfl) ?_
            refine G.e (Eff.call call22 rfl rfl (Next_ok (by repeat (first | exact AtF.head _ _ | apply AtF.tail)) (Sl.f hl) (by omega) (by omega))) ?_
            rintro _ _ ⟨_, _, ⟨x31, i32, rfl, hx31, hi32, rfl⟩, rfl, rfl⟩
            show G Tryd.prog κ _ _ _ _ ([(155, I64 (x31)), (154, .pointer (some ⟨dk2, 0, none⟩)), (153, .agg #[I64 (u), I64 (v)]), (152, I64 (v)), (151, I64 (u)), (150, .bool (decide (¬ (rs27.map RowG.xs = rs30.map RowG.xs)))), (16, .pointer (some ⟨b10, 0, none⟩)), (2, .slice fa fx.length fc), (3, .slice wa wx.length wc), (4, I64 (u)), (5, I64 (v)), (13, .pointer (some ⟨dk2, 0, none⟩)), (63, .slice ad9 2 2), (64, I64 (((2 : Nat) : Int))), (65, I64 (((k : Nat) : Int)))] : Env) (vc 23 (.slice ad28 rs30.length cp29) (rs30) :: vc 23 (.slice ad25 rs27.length cp26) (rs27) :: vc 3 (.slice ad23 (jointsG ((at_ ([⟨nd3, ad4, cp5, es6⟩, ⟨nd, ra, rc, rx⟩] : List GrV) ((k : Nat) : Int)).n) ((at_ ([⟨nd3, ad4, cp5, es6⟩, ⟨nd, ra, rc, rx⟩] : List GrV) ((k : Nat) : Int)).xs)).length cp24) (jointsG ((at_ ([⟨nd3, ad4, cp5, es6⟩, ⟨nd, ra, rc, rx⟩] : List GrV) ((k : Nat) : Int)).n) ((at_ ([⟨nd3, ad4, cp5, es6⟩, ⟨nd, ra, rc, rx⟩] : List GrV) ((k : Nat) : Int)).xs)) :: vc 3 (.slice ad21 (jointsG ((at_ ([⟨nd3, ad4, cp5, es6⟩, ⟨nd, ra, rc, rx⟩] : List GrV) ((k : Nat) : Int)).n) ((at_ ([⟨nd3, ad4, cp5, es6⟩, ⟨nd, ra, rc, rx⟩] : List GrV) ((k : Nat) : Int)).xs)).length cp22) (jointsG ((at_ ([⟨nd3, ad4, cp5, es6⟩, ⟨nd, ra, rc, rx⟩] : List GrV) ((k : Nat) : Int)).n) ((at_ ([⟨nd3, ad4, cp5, es6⟩, ⟨nd, ra, rc, rx⟩] : List GrV) ((k : Nat) : Int)).xs)) :: vc 38 (.slice ad19 (bridgesG ((at_ ([⟨nd3, ad4, cp5, es6⟩, ⟨nd, ra, rc, rx⟩] : List GrV) ((k : Nat) : Int)).n) ((at_ ([⟨nd3, ad4, cp5, es6⟩, ⟨nd, ra, rc, rx⟩] : List GrV) ((k : Nat) : Int)).xs)).length cp20) (bridgesG ((at_ ([⟨nd3, ad4, cp5, es6⟩, ⟨nd, ra, rc, rx⟩] : List GrV) ((k : Nat) : Int)).n) ((at_ ([⟨nd3, ad4, cp5, es6⟩, ⟨nd, ra, rc, rx⟩] : List GrV) ((k : Nat) : Int)).xs)) :: vc 38 (.slice ad17 (bridgesG ((at_ ([⟨nd3, ad4, cp5, es6⟩, ⟨nd, ra, rc, rx⟩] : List GrV) ((k : Nat) : Int)).n) ((at_ ([⟨nd3, ad4, cp5, es6⟩, ⟨nd, ra, rc, rx⟩] : List GrV) ((k : Nat) : Int)).xs)).length cp18) (bridgesG ((at_ ([⟨nd3, ad4, cp5, es6⟩, ⟨nd, ra, rc, rx⟩] : List GrV) ((k : Nat) : Int)).n) ((at_ ([⟨nd3, ad4, cp5, es6⟩, ⟨nd, ra, rc, rx⟩] : List GrV) ((k : Nat) : Int)).xs)) :: vc 22 (.slice ad14 rs16.length cp15) (rs16) :: vc 22 (.slice ad11 rs13.length cp12) (rs13) :: blk b10 [I64 ((at_ ([⟨nd3, ad4, cp5, es6⟩, ⟨nd, ra, rc, rx⟩] : List GrV) ((k : Nat) : Int)).n), .slice (at_ ([⟨nd3, ad4, cp5, es6⟩, ⟨nd, ra, rc, rx⟩] : List GrV) ((k : Nat) : Int)).a (at_ ([⟨nd3, ad4, cp5, es6⟩, ⟨nd, ra, rc, rx⟩] : List GrV) ((k : Nat) : Int)).xs.length (at_ ([⟨nd3, ad4, cp5, es6⟩, ⟨nd, ra, rc, rx⟩] : List GrV) ((k : Nat) : Int)).c] 25 :: vc 25 (.slice ad9 2 2) (([⟨nd3, ad4, cp5, es6⟩, ⟨nd, ra, rc, rx⟩] : List GrV)) :: blk b8 [I64 (nd3), .slice ad4 es6.length cp5] 25 :: vc 38 (.slice ad4 es6.length cp5) (es6) :: blk dk2 [.slice la ln lc, I64 (i32)] 96 :: blk b1 [I64 (nd), .slice ra rx.length rc] 25 :: (ownR 38 rs30 ++ (ownR 38 rs27 ++ (ownR 3 rs16 ++ (ownR 3 rs13 ++ I)))))
            refine G.r (Runs.move rfl) ?_
            refine G.e (Eff.call call22 rfl rfl (Next_ok (by repeat (first | exact AtF.head _ _ | apply AtF.tail)) (Sl.f hl) (by omega) (by omega))) ?_
            rintro _ _ ⟨_, _, ⟨x33, i34, rfl, hx33, hi34, rfl⟩, rfl, rfl⟩
            show G Tryd.prog κ _ _ _ _ ([(157, I64 (x33)), (156, .pointer (some ⟨dk2, 0, none⟩)), (155, I64 (x31)), (154, .pointer (some ⟨dk2, 0, none⟩)), (153, .agg #[I64 (u), I64 (v)]), (152, I64 (v)), (151, I64 (u)), (150, .bool (decide (¬ (rs27.map RowG.xs = rs30.map RowG.xs)))), (16, .pointer (some ⟨b10, 0, none⟩)), (2, .slice fa fx.length fc), (3, .slice wa wx.length wc), (4, I64 (u)), (5, I64 (v)), (13, .pointer (some ⟨dk2, 0, none⟩)), (63, .slice ad9 2 2), (64, I64 (((2 : Nat) : Int))), (65, I64 (((k : Nat) : Int)))] : Env) (vc 23 (.slice ad28 rs30.length cp29) (rs30) :: vc 23 (.slice ad25 rs27.length cp26) (rs27) :: vc 3 (.slice ad23 (jointsG ((at_ ([⟨nd3, ad4, cp5, es6⟩, ⟨nd, ra, rc, rx⟩] : List GrV) ((k : Nat) : Int)).n) ((at_ ([⟨nd3, ad4, cp5, es6⟩, ⟨nd, ra, rc, rx⟩] : List GrV) ((k : Nat) : Int)).xs)).length cp24) (jointsG ((at_ ([⟨nd3, ad4, cp5, es6⟩, ⟨nd, ra, rc, rx⟩] : List GrV) ((k : Nat) : Int)).n) ((at_ ([⟨nd3, ad4, cp5, es6⟩, ⟨nd, ra, rc, rx⟩] : List GrV) ((k : Nat) : Int)).xs)) :: vc 3 (.slice ad21 (jointsG ((at_ ([⟨nd3, ad4, cp5, es6⟩, ⟨nd, ra, rc, rx⟩] : List GrV) ((k : Nat) : Int)).n) ((at_ ([⟨nd3, ad4, cp5, es6⟩, ⟨nd, ra, rc, rx⟩] : List GrV) ((k : Nat) : Int)).xs)).length cp22) (jointsG ((at_ ([⟨nd3, ad4, cp5, es6⟩, ⟨nd, ra, rc, rx⟩] : List GrV) ((k : Nat) : Int)).n) ((at_ ([⟨nd3, ad4, cp5, es6⟩, ⟨nd, ra, rc, rx⟩] : List GrV) ((k : Nat) : Int)).xs)) :: vc 38 (.slice ad19 (bridgesG ((at_ ([⟨nd3, ad4, cp5, es6⟩, ⟨nd, ra, rc, rx⟩] : List GrV) ((k : Nat) : Int)).n) ((at_ ([⟨nd3, ad4, cp5, es6⟩, ⟨nd, ra, rc, rx⟩] : List GrV) ((k : Nat) : Int)).xs)).length cp20) (bridgesG ((at_ ([⟨nd3, ad4, cp5, es6⟩, ⟨nd, ra, rc, rx⟩] : List GrV) ((k : Nat) : Int)).n) ((at_ ([⟨nd3, ad4, cp5, es6⟩, ⟨nd, ra, rc, rx⟩] : List GrV) ((k : Nat) : Int)).xs)) :: vc 38 (.slice ad17 (bridgesG ((at_ ([⟨nd3, ad4, cp5, es6⟩, ⟨nd, ra, rc, rx⟩] : List GrV) ((k : Nat) : Int)).n) ((at_ ([⟨nd3, ad4, cp5, es6⟩, ⟨nd, ra, rc, rx⟩] : List GrV) ((k : Nat) : Int)).xs)).length cp18) (bridgesG ((at_ ([⟨nd3, ad4, cp5, es6⟩, ⟨nd, ra, rc, rx⟩] : List GrV) ((k : Nat) : Int)).n) ((at_ ([⟨nd3, ad4, cp5, es6⟩, ⟨nd, ra, rc, rx⟩] : List GrV) ((k : Nat) : Int)).xs)) :: vc 22 (.slice ad14 rs16.length cp15) (rs16) :: vc 22 (.slice ad11 rs13.length cp12) (rs13) :: blk b10 [I64 ((at_ ([⟨nd3, ad4, cp5, es6⟩, ⟨nd, ra, rc, rx⟩] : List GrV) ((k : Nat) : Int)).n), .slice (at_ ([⟨nd3, ad4, cp5, es6⟩, ⟨nd, ra, rc, rx⟩] : List GrV) ((k : Nat) : Int)).a (at_ ([⟨nd3, ad4, cp5, es6⟩, ⟨nd, ra, rc, rx⟩] : List GrV) ((k : Nat) : Int)).xs.length (at_ ([⟨nd3, ad4, cp5, es6⟩, ⟨nd, ra, rc, rx⟩] : List GrV) ((k : Nat) : Int)).c] 25 :: vc 25 (.slice ad9 2 2) (([⟨nd3, ad4, cp5, es6⟩, ⟨nd, ra, rc, rx⟩] : List GrV)) :: blk b8 [I64 (nd3), .slice ad4 es6.length cp5] 25 :: vc 38 (.slice ad4 es6.length cp5) (es6) :: blk dk2 [.slice la ln lc, I64 (i34)] 96 :: blk b1 [I64 (nd), .slice ra rx.length rc] 25 :: (ownR 38 rs30 ++ (ownR 38 rs27 ++ (ownR 3 rs16 ++ (ownR 3 rs13 ++ I)))))
            refine G.r (Runs.buildArr (cells := [_, _]) ty63 Tryd.underlying63 ty3 rfl rfl) ?_
            refine G.e (Eff.bs (α := Pt) (cs := [_, _, _, _]) (xs := [⟨u, v⟩, ⟨x31, x33⟩]) Tryd.underlying64 ty63 rfl rfl (by decide) (by decide) rfl rfl rfl rfl) ?_
            rintro _ _ ⟨ad35, rfl, rfl⟩
            refine G.r (Runs.lens Tryd.underlying64 rfl) ?_
            refine G.r (Runs.move rfl) ?_
            refine G.nt ?_
            refine W.sub (L' := [(161, _), (160, _), (159, _), (16, _), (2, _), (3, _), (4, _), (5, _), (13, _), (63, _), (64, _), (65, _)]) (Sub.cons rfl (Sub.cons rfl (Sub.cons rfl (Sub.cons rfl (Sub.cons rfl (Sub.cons rfl (Sub.cons rfl (Sub.cons rfl (Sub.cons rfl (Sub.cons rfl (Sub.cons rfl (Sub.cons rfl Sub.nil)))))))))))) ?_
            refine W.block ?_
            refine W.loop (σ := Nat) (fun s => ([(2, .slice fa fx.length fc), (3, .slice wa wx.length wc), (4, I64 (u)), (5, I64 (v)), (13, .pointer (some ⟨dk2, 0, none⟩)), (16, .pointer (some ⟨b10, 0, none⟩)), (63, .slice ad9 2 2), (64, I64 (((2 : Nat) : Int))), (65, I64 (((k : Nat) : Int))), (159, .slice ad35 2 2), (160, I64 (((2 : Nat) : Int))), (161, I64 (((s : Nat) : Int)))] : Env)) (fun s => vc 63 (.slice ad35 2 2) (([⟨u, v⟩, ⟨x31, x33⟩] : List Pt)) :: vc 23 (.slice ad28 rs30.length cp29) (rs30) :: vc 23 (.slice ad25 rs27.length cp26) (rs27) :: vc 3 (.slice ad23 (jointsG ((at_ ([⟨nd3, ad4, cp5, es6⟩, ⟨nd, ra, rc, rx⟩] : List GrV) ((k : Nat) : Int)).n) ((at_ ([⟨nd3, ad4, cp5, es6⟩, ⟨nd, ra, rc, rx⟩] : List GrV) ((k : Nat) : Int)).xs)).length cp24) (jointsG ((at_ ([⟨nd3, ad4, cp5, es6⟩, ⟨nd, ra, rc, rx⟩] : List GrV) ((k : Nat) : Int)).n) ((at_ ([⟨nd3, ad4, cp5, es6⟩, ⟨nd, ra, rc, rx⟩] : List GrV) ((k : Nat) : Int)).xs)) :: vc 3 (.slice ad21 (jointsG ((at_ ([⟨nd3, ad4, cp5, es6⟩, ⟨nd, ra, rc, rx⟩] : List GrV) ((k : Nat) : Int)).n) ((at_ ([⟨nd3, ad4, cp5, es6⟩, ⟨nd, ra, rc, rx⟩] : List GrV) ((k : Nat) : Int)).xs)).length cp22) (jointsG ((at_ ([⟨nd3, ad4, cp5, es6⟩, ⟨nd, ra, rc, rx⟩] : List GrV) ((k : Nat) : Int)).n) ((at_ ([⟨nd3, ad4, cp5, es6⟩, ⟨nd, ra, rc, rx⟩] : List GrV) ((k : Nat) : Int)).xs)) :: vc 38 (.slice ad19 (bridgesG ((at_ ([⟨nd3, ad4, cp5, es6⟩, ⟨nd, ra, rc, rx⟩] : List GrV) ((k : Nat) : Int)).n) ((at_ ([⟨nd3, ad4, cp5, es6⟩, ⟨nd, ra, rc, rx⟩] : List GrV) ((k : Nat) : Int)).xs)).length cp20) (bridgesG ((at_ ([⟨nd3, ad4, cp5, es6⟩, ⟨nd, ra, rc, rx⟩] : List GrV) ((k : Nat) : Int)).n) ((at_ ([⟨nd3, ad4, cp5, es6⟩, ⟨nd, ra, rc, rx⟩] : List GrV) ((k : Nat) : Int)).xs)) :: vc 38 (.slice ad17 (bridgesG ((at_ ([⟨nd3, ad4, cp5, es6⟩, ⟨nd, ra, rc, rx⟩] : List GrV) ((k : Nat) : Int)).n) ((at_ ([⟨nd3, ad4, cp5, es6⟩, ⟨nd, ra, rc, rx⟩] : List GrV) ((k : Nat) : Int)).xs)).length cp18) (bridgesG ((at_ ([⟨nd3, ad4, cp5, es6⟩, ⟨nd, ra, rc, rx⟩] : List GrV) ((k : Nat) : Int)).n) ((at_ ([⟨nd3, ad4, cp5, es6⟩, ⟨nd, ra, rc, rx⟩] : List GrV) ((k : Nat) : Int)).xs)) :: vc 22 (.slice ad14 rs16.length cp15) (rs16) :: vc 22 (.slice ad11 rs13.length cp12) (rs13) :: blk b10 [I64 ((at_ ([⟨nd3, ad4, cp5, es6⟩, ⟨nd, ra, rc, rx⟩] : List GrV) ((k : Nat) : Int)).n), .slice (at_ ([⟨nd3, ad4, cp5, es6⟩, ⟨nd, ra, rc, rx⟩] : List GrV) ((k : Nat) : Int)).a (at_ ([⟨nd3, ad4, cp5, es6⟩, ⟨nd, ra, rc, rx⟩] : List GrV) ((k : Nat) : Int)).xs.length (at_ ([⟨nd3, ad4, cp5, es6⟩, ⟨nd, ra, rc, rx⟩] : List GrV) ((k : Nat) : Int)).c] 25 :: vc 25 (.slice ad9 2 2) (([⟨nd3, ad4, cp5, es6⟩, ⟨nd, ra, rc, rx⟩] : List GrV)) :: blk b8 [I64 (nd3), .slice ad4 es6.length cp5] 25 :: vc 38 (.slice ad4 es6.length cp5) (es6) :: blk dk2 [.slice la ln lc, I64 (i34)] 96 :: blk b1 [I64 (nd), .slice ra rx.length rc] 25 :: (ownR 38 rs30 ++ (ownR 38 rs27 ++ (ownR 3 rs16 ++ (ownR 3 rs13 ++ I))))) (fun s => (s ≤ ([⟨u, v⟩, ⟨x31, x33⟩] : List Pt).length)) (fun s => ([⟨u, v⟩, ⟨x31, x33⟩] : List Pt).length - s) (0) (show ((0 : Nat) ≤ ([⟨u, v⟩, ⟨x31, x33⟩] : List Pt).length) from (by omega)) (Sub.cons rfl (Sub.cons rfl (Sub.cons rfl (Sub.cons rfl (Sub.cons rfl (Sub.cons rfl (Sub.cons rfl (Sub.cons rfl (Sub.cons rfl (Sub.cons rfl (Sub.cons rfl (Sub.cons lookO Sub.nil)))))))))))) (show Fit κ _ (vc 63 (.slice ad35 2 2) (([⟨u, v⟩, ⟨x31, x33⟩] : List Pt)) :: vc 23 (.slice ad28 rs30.length cp29) (rs30) :: vc 23 (.slice ad25 rs27.length cp26) (rs27) :: vc 3 (.slice ad23 (jointsG ((at_ ([⟨nd3, ad4, cp5, es6⟩, ⟨nd, ra, rc, rx⟩] : List GrV) ((k : Nat) : Int)).n) ((at_ ([⟨nd3, ad4, cp5, es6⟩, ⟨nd, ra, rc, rx⟩] : List GrV) ((k : Nat) : Int)).xs)).length cp24) (jointsG ((at_ ([⟨nd3, ad4, cp5, es6⟩, ⟨nd, ra, rc, rx⟩] : List GrV) ((k : Nat) : Int)).n) ((at_ ([⟨nd3, ad4, cp5, es6⟩, ⟨nd, ra, rc, rx⟩] : List GrV) ((k : Nat) : Int)).xs)) :: vc 3 (.slice ad21 (jointsG ((at_ ([⟨nd3, ad4, cp5, es6⟩, ⟨nd, ra, rc, rx⟩] : List GrV) ((k : Nat) : Int)).n) ((at_ ([⟨nd3, ad4, cp5, es6⟩, ⟨nd, ra, rc, rx⟩] : List GrV) ((k : Nat) : Int)).xs)).length cp22) (jointsG ((at_ ([⟨nd3, ad4, cp5, es6⟩, ⟨nd, ra, rc, rx⟩] : List GrV) ((k : Nat) : Int)).n) ((at_ ([⟨nd3, ad4, cp5, es6⟩, ⟨nd, ra, rc, rx⟩] : List GrV) ((k : Nat) : Int)).xs)) :: vc 38 (.slice ad19 (bridgesG ((at_ ([⟨nd3, ad4, cp5, es6⟩, ⟨nd, ra, rc, rx⟩] : List GrV) ((k : Nat) : Int)).n) ((at_ ([⟨nd3, ad4, cp5, es6⟩, ⟨nd, ra, rc, rx⟩] : List GrV) ((k : Nat) : Int)).xs)).length cp20) (bridgesG ((at_ ([⟨nd3, ad4, cp5, es6⟩, ⟨nd, ra, rc, rx⟩] : List GrV) ((k : Nat) : Int)).n) ((at_ ([⟨nd3, ad4, cp5, es6⟩, ⟨nd, ra, rc, rx⟩] : List GrV) ((k : Nat) : Int)).xs)) :: vc 38 (.slice ad17 (bridgesG ((at_ ([⟨nd3, ad4, cp5, es6⟩, ⟨nd, ra, rc, rx⟩] : List GrV) ((k : Nat) : Int)).n) ((at_ ([⟨nd3, ad4, cp5, es6⟩, ⟨nd, ra, rc, rx⟩] : List GrV) ((k : Nat) : Int)).xs)).length cp18) (bridgesG ((at_ ([⟨nd3, ad4, cp5, es6⟩, ⟨nd, ra, rc, rx⟩] : List GrV) ((k : Nat) : Int)).n) ((at_ ([⟨nd3, ad4, cp5, es6⟩, ⟨nd, ra, rc, rx⟩] : List GrV) ((k : Nat) : Int)).xs)) :: vc 22 (.slice ad14 rs16.length cp15) (rs16) :: vc 22 (.slice ad11 rs13.length cp12) (rs13) :: blk b10 [I64 ((at_ ([⟨nd3, ad4, cp5, es6⟩, ⟨nd, ra, rc, rx⟩] : List GrV) ((k : Nat) : Int)).n), .slice (at_ ([⟨nd3, ad4, cp5, es6⟩, ⟨nd, ra, rc, rx⟩] : List GrV) ((k : Nat) : Int)).a (at_ ([⟨nd3, ad4, cp5, es6⟩, ⟨nd, ra, rc, rx⟩] : List GrV) ((k : Nat) : Int)).xs.length (at_ ([⟨nd3, ad4, cp5, es6⟩, ⟨nd, ra, rc, rx⟩] : List GrV) ((k : Nat) : Int)).c] 25 :: vc 25 (.slice ad9 2 2) (([⟨nd3, ad4, cp5, es6⟩, ⟨nd, ra, rc, rx⟩] : List GrV)) :: blk b8 [I64 (nd3), .slice ad4 es6.length cp5] 25 :: vc 38 (.slice ad4 es6.length cp5) (es6) :: blk dk2 [.slice la ln lc, I64 (i34)] 96 :: blk b1 [I64 (nd), .slice ra rx.length rc] 25 :: (ownR 38 rs30 ++ (ownR 38 rs27 ++ (ownR 3 rs16 ++ (ownR 3 rs13 ++ I))))) from Fit.sub) ?_
            rintro j hp
            have hj : (j ≤ ([⟨u, v⟩, ⟨x31, x33⟩] : List Pt).length) := hp
            show W Tryd.prog κ 241 _ _ ([(2, .slice fa fx.length fc), (3, .slice wa wx.length wc), (4, I64 (u)), (5, I64 (v)), (13, .pointer (some ⟨dk2, 0, none⟩)), (16, .pointer (some ⟨b10, 0, none⟩)), (63, .slice ad9 2 2), (64, I64 (((2 : Nat) : Int))), (65, I64 (((k : Nat) : Int))), (159, .slice ad35 2 2), (160, I64 (((2 : Nat) : Int))), (161, I64 (((j : Nat) : Int)))] : Env) (vc 63 (.slice ad35 2 2) (([⟨u, v⟩, ⟨x31, x33⟩] : List Pt)) :: vc 23 (.slice ad28 rs30.length cp29) (rs30) :: vc 23 (.slice ad25 rs27.length cp26) (rs27) :: vc 3 (.slice ad23 (jointsG ((at_ ([⟨nd3, ad4, cp5, es6⟩, ⟨nd, ra, rc, rx⟩] : List GrV) ((k : Nat) : Int)).n) ((at_ ([⟨nd3, ad4, cp5, es6⟩, ⟨nd, ra, rc, rx⟩] : List GrV) ((k : Nat) : Int)).xs)).length cp24) (jointsG ((at_ ([⟨nd3, ad4, cp5, es6⟩, ⟨nd, ra, rc, rx⟩] : List GrV) ((k : Nat) : Int)).n) ((at_ ([⟨nd3, ad4, cp5, es6⟩, ⟨nd, ra, rc, rx⟩] : List GrV) ((k : Nat) : Int)).xs)) :: vc 3 (.slice ad21 (jointsG ((at_ ([⟨nd3, ad4, cp5, es6⟩, ⟨nd, ra, rc, rx⟩] : List GrV) ((k : Nat) : Int)).n) ((at_ ([⟨nd3, ad4, cp5, es6⟩, ⟨nd, ra, rc, rx⟩] : List GrV) ((k : Nat) : Int)).xs)).length cp22) (jointsG ((at_ ([⟨nd3, ad4, cp5, es6⟩, ⟨nd, ra, rc, rx⟩] : List GrV) ((k : Nat) : Int)).n) ((at_ ([⟨nd3, ad4, cp5, es6⟩, ⟨nd, ra, rc, rx⟩] : List GrV) ((k : Nat) : Int)).xs)) :: vc 38 (.slice ad19 (bridgesG ((at_ ([⟨nd3, ad4, cp5, es6⟩, ⟨nd, ra, rc, rx⟩] : List GrV) ((k : Nat) : Int)).n) ((at_ ([⟨nd3, ad4, cp5, es6⟩, ⟨nd, ra, rc, rx⟩] : List GrV) ((k : Nat) : Int)).xs)).length cp20) (bridgesG ((at_ ([⟨nd3, ad4, cp5, es6⟩, ⟨nd, ra, rc, rx⟩] : List GrV) ((k : Nat) : Int)).n) ((at_ ([⟨nd3, ad4, cp5, es6⟩, ⟨nd, ra, rc, rx⟩] : List GrV) ((k : Nat) : Int)).xs)) :: vc 38 (.slice ad17 (bridgesG ((at_ ([⟨nd3, ad4, cp5, es6⟩, ⟨nd, ra, rc, rx⟩] : List GrV) ((k : Nat) : Int)).n) ((at_ ([⟨nd3, ad4, cp5, es6⟩, ⟨nd, ra, rc, rx⟩] : List GrV) ((k : Nat) : Int)).xs)).length cp18) (bridgesG ((at_ ([⟨nd3, ad4, cp5, es6⟩, ⟨nd, ra, rc, rx⟩] : List GrV) ((k : Nat) : Int)).n) ((at_ ([⟨nd3, ad4, cp5, es6⟩, ⟨nd, ra, rc, rx⟩] : List GrV) ((k : Nat) : Int)).xs)) :: vc 22 (.slice ad14 rs16.length cp15) (rs16) :: vc 22 (.slice ad11 rs13.length cp12) (rs13) :: blk b10 [I64 ((at_ ([⟨nd3, ad4, cp5, es6⟩, ⟨nd, ra, rc, rx⟩] : List GrV) ((k : Nat) : Int)).n), .slice (at_ ([⟨nd3, ad4, cp5, es6⟩, ⟨nd, ra, rc, rx⟩] : List GrV) ((k : Nat) : Int)).a (at_ ([⟨nd3, ad4, cp5, es6⟩, ⟨nd, ra, rc, rx⟩] : List GrV) ((k : Nat) : Int)).xs.length (at_ ([⟨nd3, ad4, cp5, es6⟩, ⟨nd, ra, rc, rx⟩] : List GrV) ((k : Nat) : Int)).c] 25 :: vc 25 (.slice ad9 2 2) (([⟨nd3, ad4, cp5, es6⟩, ⟨nd, ra, rc, rx⟩] : List GrV)) :: blk b8 [I64 (nd3), .slice ad4 es6.length cp5] 25 :: vc 38 (.slice ad4 es6.length cp5) (es6) :: blk dk2 [.slice la ln lc, I64 (i34)] 96 :: blk b1 [I64 (nd), .slice ra rx.length rc] 25 :: (ownR 38 rs30 ++ (ownR 38 rs27 ++ (ownR 3 rs16 ++ (ownR 3 rs13 ++ I)))))
            have hj2 : ([⟨u, v⟩, ⟨x31, x33⟩] : List Pt).length = 2 := rfl
            refine W.sr ?_
            refine G.r (Runs.lss rfl rfl) ?_
            refine G.nt ?_
            refine W.seq ?_
            refine W.ite rfl (fun c162 => ?_) (fun c162 => ?_)
            ·refine W.skip ?_
             refine V.then ?_
             refine W.seq ?_
             refine W.block ?_
             refine W.sr ?_
             refine G.r (Runs.idx (α := Pt) (xs := ([⟨u, v⟩, ⟨x31, x33⟩] : List Pt)) Tryd.underlying64 ty63 rfl rfl Sl.o (by omega) (by omega)) ?_
             refine G.r (Runs.gets (α := Pt) (xs := ([⟨u, v⟩, ⟨x31, x33⟩] : List Pt)) ty63 rfl Sl.o (by omega) (by omega)) ?_
             refine G.e (Eff.alloc ty63 rfl) ?_
             rintro _ _ ⟨b36, rfl, rfl⟩
             refine G.e (Eff.st (cs := [_, _]) (vs := [_, _]) (cs' := [_, _]) ty63) ?_
             rintro _ _ ⟨rfl, rfl⟩
             refine G.nt ?_
             refine W.sub (L' := [(34, _), (2, _), (3, _), (4, _), (5, _), (13, _), (16, _), (63, _), (64, _), (65, _), (159, _), (160, _), (161, _)]) (Sub.cons rfl (Sub.cons rfl (Sub.cons rfl (Sub.cons rfl (Sub.cons rfl (Sub.cons rfl (Sub.cons rfl (Sub.cons rfl (Sub.cons rfl (Sub.cons rfl (Sub.cons rfl (Sub.cons rfl (Sub.cons rfl Sub.nil))))))))))))) ?_
             refine W.sr ?_
             refine G.r (Runs.lds (vs := [_, _]) ty25) ?_
             refine G.r (Runs.idxArr Tryd.underlying63 ty2 rfl rfl (by omega) (by omega)) ?_
             refine G.r (Runs.ld ty3) ?_
             refine G.r (Runs.idxArr Tryd.underlying63 ty2 rfl rfl (by omega) (by omega)) ?_
             refine G.r (Runs.ld ty3) ?_
             refine G.e (Eff.call call30 rfl rfl (SameC_ok (nd := ((at_ ([⟨nd3, ad4, cp5, es6⟩, ⟨nd, ra, rc, rx⟩] : List GrV) ((k : Nat) : Int)).n)) (Sl.fit (HeldGr.at hhg (i := ((k : Nat) : Int)) (by omega) (by omega)) (Fit.of_sublist (by repeat (first | exact List.Sublist.refl _ | apply List.Sublist.cons_cons | apply List.Sublist.cons | exact List.sublist_append_right _ _ | apply sub_app)))) ((at_ ([⟨u, v⟩, ⟨x31, x33⟩] : List Pt) ((j : Nat) : Int)).u) ((at_ ([⟨u, v⟩, ⟨x31, x33⟩] : List Pt) ((j : Nat) : Int)).v) (TabRd.fit hT Fit.m))) ?_
             rintro _ _ ⟨_, _, ⟨rfl, rfl⟩, rfl, rfl⟩
             refine G.r (Runs.move rfl) ?_
             refine G.r (Runs.extract rfl rfl) ?_
             refine G.r (Runs.extract rfl rfl) ?_
             refine G.r (Runs.assign rfl) ?_
             refine G.r (Runs.assign rfl) ?_
             refine G.nt ?_
             refine W.sub (L' := [(36, _), (35, _), (34, _), (2, _), (3, _), (4, _), (5, _), (13, _), (16, _), (63, _), (64, _), (65, _), (159, _), (160, _), (161, _)]) (Sub.cons rfl (Sub.cons rfl (Sub.cons rfl (Sub.cons rfl (Sub.cons rfl (Sub.cons rfl (Sub.cons rfl (Sub.cons rfl (Sub.cons rfl (Sub.cons rfl (Sub.cons rfl (Sub.cons rfl (Sub.cons rfl (Sub.cons rfl (Sub.cons rfl Sub.nil))))))))))))))) ?_
             refine W.sr ?_
             refine G.r (Runs.lds (vs := [_, _]) ty25) ?_
             refine G.r (Runs.idxArr Tryd.underlying63 ty2 rfl rfl (by omega) (by omega)) ?_
             refine G.r (Runs.ld ty3) ?_
             refine G.r (Runs.idxArr Tryd.underlying63 ty2 rfl rfl (by omega) (by omega)) ?_
             refine G.r (Runs.ld ty3) ?_
             refine G.e (Eff.call call32 rfl rfl (Same15_ok (nd := ((at_ ([⟨nd3, ad4, cp5, es6⟩, ⟨nd, ra, rc, rx⟩] : List GrV) ((k : Nat) : Int)).n)) (Sl.fit (HeldGr.at hhg (i := ((k : Nat) : Int)) (by omega) (by omega)) (Fit.of_sublist (by repeat (first | exact List.Sublist.refl _ | apply List.Sublist.cons_cons | apply List.Sublist.cons | exact List.sublist_append_right _ _ | apply sub_app)))) ((at_ ([⟨u, v⟩, ⟨x31, x33⟩] : List Pt) ((j : Nat) : Int)).u) ((at_ ([⟨u, v⟩, ⟨x31, x33⟩] : List Pt) ((j : Nat) : Int)).v) (by have := hxl (by omega); omega))) ?_
             rintro _ _ ⟨_, _, ⟨rfl, rfl⟩, rfl, rfl⟩
             refine G.r (Runs.move rfl) ?_
             refine G.r (Runs.extract rfl rfl) ?_
             refine G.r (Runs.extract rfl rfl) ?_
             refine G.r (Runs.assign rfl) ?_
             refine G.r (Runs.assign rfl) ?_
             refine G.nt ?_
             refine W.sub (L' := [(38, _), (37, _), (36, _), (35, _), (2, _), (3, _), (4, _), (5, _), (13, _), (16, _), (63, _), (64, _), (65, _), (159, _), (160, _), (161, _)]) (Sub.cons rfl (Sub.cons rfl (Sub.cons rfl (Sub.cons rfl (Sub.cons rfl (Sub.cons rfl (Sub.cons rfl (Sub.cons rfl (Sub.cons rfl (Sub.cons rfl (Sub.cons rfl (Sub.cons rfl (Sub.cons rfl (Sub.cons rfl (Sub.cons rfl (Sub.cons rfl Sub.nil)))))))))))))))) ?_
             refine W.sr ?_
             refine G.r (Runs.move rfl) ?_
             refine G.r (Runs.move rfl) ?_
             refine G.r (Runs.neqb Tryd.underlying4 rfl rfl) ?_
             refine G.r (Runs.move rfl) ?_
             refine G.split (d := 186) rfl (fun g186 => ?_) (fun g186 => ?_)
             ·exact absurd rfl g186
             ·refine G.ro (Runs.move rfl) ?_
              refine G.ro (Runs.move rfl) ?_
              refine G.ro (Runs.neq rfl rfl) ?_
              refine G.r (Runs.pickf rfl rfl) ?_
              refine G.nt ?_
              refine W.sub (L' := [(190, _), (2, _), (3, _), (4, _), (5, _), (13, _), (16, _), (63, _), (64, _), (65, _), (159, _), (160, _), (161, _)]) (Sub.cons rfl (Sub.cons rfl (Sub.cons rfl (Sub.cons rfl (Sub.cons rfl (Sub.cons rfl (Sub.cons rfl (Sub.cons rfl (Sub.cons rfl (Sub.cons rfl (Sub.cons rfl (Sub.cons rfl (Sub.cons rfl Sub.nil))))))))))))) ?_
              refine W.ite rfl (fun c190 => ?_) (fun c190 => ?_)
              ·exact absurd rfl c190
              ·refine W.skip ?_
               refine V.block_normal ?_
               refine V.then ?_
               refine W.region ?_
               refine G.r (Runs.add rfl rfl (by unfold InR; omega)) ?_
               refine G.r (Runs.move rfl) ?_
               refine G.nil ?_
               exact V.next ((j + 1)) (show ((j + 1 : Nat) ≤ ([⟨u, v⟩, ⟨x31, x33⟩] : List Pt).length) from (by omega)) (show ([⟨u, v⟩, ⟨x31, x33⟩] : List Pt).length - (j + 1 : Nat) < ([⟨u, v⟩, ⟨x31, x33⟩] : List Pt).length - j from (by omega)) (Sub.cons rfl (Sub.cons rfl (Sub.cons rfl (Sub.cons rfl (Sub.cons rfl (Sub.cons rfl (Sub.cons rfl (Sub.cons rfl (Sub.cons rfl (Sub.cons rfl (Sub.cons rfl (Sub.cons lookO Sub.nil)))))))))))) (show Fit κ _ (vc 63 (.slice ad35 2 2) (([⟨u, v⟩, ⟨x31, x33⟩] : List Pt)) :: vc 23 (.slice ad28 rs30.length cp29) (rs30) :: vc 23 (.slice ad25 rs27.length cp26) (rs27) :: vc 3 (.slice ad23 (jointsG ((at_ ([⟨nd3, ad4, cp5, es6⟩, ⟨nd, ra, rc, rx⟩] : List GrV) ((k : Nat) : Int)).n) ((at_ ([⟨nd3, ad4, cp5, es6⟩, ⟨nd, ra, rc, rx⟩] : List GrV) ((k : Nat) : Int)).xs)).length cp24) (jointsG ((at_ ([⟨nd3, ad4, cp5, es6⟩, ⟨nd, ra, rc, rx⟩] : List GrV) ((k : Nat) : Int)).n) ((at_ ([⟨nd3, ad4, cp5, es6⟩, ⟨nd, ra, rc, rx⟩] : List GrV) ((k : Nat) : Int)).xs)) :: vc 3 (.slice ad21 (jointsG ((at_ ([⟨nd3, ad4, cp5, es6⟩, ⟨nd, ra, rc, rx⟩] : List GrV) ((k : Nat) : Int)).n) ((at_ ([⟨nd3, ad4, cp5, es6⟩, ⟨nd, ra, rc, rx⟩] : List GrV) ((k : Nat) : Int)).xs)).length cp22) (jointsG ((at_ ([⟨nd3, ad4, cp5, es6⟩, ⟨nd, ra, rc, rx⟩] : List GrV) ((k : Nat) : Int)).n) ((at_ ([⟨nd3, ad4, cp5, es6⟩, ⟨nd, ra, rc, rx⟩] : List GrV) ((k : Nat) : Int)).xs)) :: vc 38 (.slice ad19 (bridgesG ((at_ ([⟨nd3, ad4, cp5, es6⟩, ⟨nd, ra, rc, rx⟩] : List GrV) ((k : Nat) : Int)).n) ((at_ ([⟨nd3, ad4, cp5, es6⟩, ⟨nd, ra, rc, rx⟩] : List GrV) ((k : Nat) : Int)).xs)).length cp20) (bridgesG ((at_ ([⟨nd3, ad4, cp5, es6⟩, ⟨nd, ra, rc, rx⟩] : List GrV) ((k : Nat) : Int)).n) ((at_ ([⟨nd3, ad4, cp5, es6⟩, ⟨nd, ra, rc, rx⟩] : List GrV) ((k : Nat) : Int)).xs)) :: vc 38 (.slice ad17 (bridgesG ((at_ ([⟨nd3, ad4, cp5, es6⟩, ⟨nd, ra, rc, rx⟩] : List GrV) ((k : Nat) : Int)).n) ((at_ ([⟨nd3, ad4, cp5, es6⟩, ⟨nd, ra, rc, rx⟩] : List GrV) ((k : Nat) : Int)).xs)).length cp18) (bridgesG ((at_ ([⟨nd3, ad4, cp5, es6⟩, ⟨nd, ra, rc, rx⟩] : List GrV) ((k : Nat) : Int)).n) ((at_ ([⟨nd3, ad4, cp5, es6⟩, ⟨nd, ra, rc, rx⟩] : List GrV) ((k : Nat) : Int)).xs)) :: vc 22 (.slice ad14 rs16.length cp15) (rs16) :: vc 22 (.slice ad11 rs13.length cp12) (rs13) :: blk b10 [I64 ((at_ ([⟨nd3, ad4, cp5, es6⟩, ⟨nd, ra, rc, rx⟩] : List GrV) ((k : Nat) : Int)).n), .slice (at_ ([⟨nd3, ad4, cp5, es6⟩, ⟨nd, ra, rc, rx⟩] : List GrV) ((k : Nat) : Int)).a (at_ ([⟨nd3, ad4, cp5, es6⟩, ⟨nd, ra, rc, rx⟩] : List GrV) ((k : Nat) : Int)).xs.length (at_ ([⟨nd3, ad4, cp5, es6⟩, ⟨nd, ra, rc, rx⟩] : List GrV) ((k : Nat) : Int)).c] 25 :: vc 25 (.slice ad9 2 2) (([⟨nd3, ad4, cp5, es6⟩, ⟨nd, ra, rc, rx⟩] : List GrV)) :: blk b8 [I64 (nd3), .slice ad4 es6.length cp5] 25 :: vc 38 (.slice ad4 es6.length cp5) (es6) :: blk dk2 [.slice la ln lc, I64 (i34)] 96 :: blk b1 [I64 (nd), .slice ra rx.length rc] 25 :: (ownR 38 rs30 ++ (ownR 38 rs27 ++ (ownR 3 rs16 ++ (ownR 3 rs13 ++ I))))) from (Fit.of_sublist (by repeat (first | exact List.Sublist.refl _ | apply List.Sublist.cons_cons | apply List.Sublist.cons | exact List.sublist_append_right _ _ | apply sub_app))))
            ·refine W.exit ?_
             refine V.then_exit ?_
             refine V.then_exit ?_
             refine V.block_hit ?_
             refine V.then ?_
             refine W.sr ?_
             refine G.r (Runs.move rfl) ?_
             refine G.r (Runs.move rfl) ?_
             refine G.r (Runs.buildArr (cells := [_, _]) ty65 Tryd.underlying65 ty22 rfl rfl) ?_
             refine G.r (Runs.move rfl) ?_
             refine G.e (Eff.call call21 rfl rfl (Set_at (by repeat (first | exact AtF.head _ _ | apply AtF.tail)) (fun _ => Sl.fit hl Fit.m) (by omega) (by omega))) ?_
             rintro _ _ ⟨_, _, ⟨ad38, cp39, o40, i37, rfl, ho40, hlo40, hi37, rfl⟩, rfl, rfl⟩
             show G Tryd.prog κ _ _ _ _ ([(196, .slice ad38 o40.length cp39), (195, .pointer (some ⟨dk2, 0, none⟩)), (194, .agg #[.slice fa fx.length fc, .slice wa wx.length wc]), (193, .slice wa wx.length wc), (192, .slice fa fx.length fc), (162, .bool (decide (((j : Nat) : Int) < ((2 : Nat) : Int)))), (2, .slice fa fx.length fc), (3, .slice wa wx.length wc), (4, I64 (u)), (5, I64 (v)), (13, .pointer (some ⟨dk2, 0, none⟩)), (16, .pointer (some ⟨b10, 0, none⟩)), (63, .slice ad9 2 2), (64, I64 (((2 : Nat) : Int))), (65, I64 (((k : Nat) : Int))), (159, .slice ad35 2 2), (160, I64 (((2 : Nat) : Int))), (161, I64 (((j : Nat) : Int)))] : Env) (vc 3 (.slice ad38 o40.length cp39) (o40) :: vc 63 (.slice ad35 2 2) (([⟨u, v⟩, ⟨x31, x33⟩] : List Pt)) :: vc 23 (.slice ad28 rs30.length cp29) (rs30) :: vc 23 (.slice ad25 rs27.length cp26) (rs27) :: vc 3 (.slice ad23 (jointsG ((at_ ([⟨nd3, ad4, cp5, es6⟩, ⟨nd, ra, rc, rx⟩] : List GrV) ((k : Nat) : Int)).n) ((at_ ([⟨nd3, ad4, cp5, es6⟩, ⟨nd, ra, rc, rx⟩] : List GrV) ((k : Nat) : Int)).xs)).length cp24) (jointsG ((at_ ([⟨nd3, ad4, cp5, es6⟩, ⟨nd, ra, rc, rx⟩] : List GrV) ((k : Nat) : Int)).n) ((at_ ([⟨nd3, ad4, cp5, es6⟩, ⟨nd, ra, rc, rx⟩] : List GrV) ((k : Nat) : Int)).xs)) :: vc 3 (.slice ad21 (jointsG ((at_ ([⟨nd3, ad4, cp5, es6⟩, ⟨nd, ra, rc, rx⟩] : List GrV) ((k : Nat) : Int)).n) ((at_ ([⟨nd3, ad4, cp5, es6⟩, ⟨nd, ra, rc, rx⟩] : List GrV) ((k : Nat) : Int)).xs)).length cp22) (jointsG ((at_ ([⟨nd3, ad4, cp5, es6⟩, ⟨nd, ra, rc, rx⟩] : List GrV) ((k : Nat) : Int)).n) ((at_ ([⟨nd3, ad4, cp5, es6⟩, ⟨nd, ra, rc, rx⟩] : List GrV) ((k : Nat) : Int)).xs)) :: vc 38 (.slice ad19 (bridgesG ((at_ ([⟨nd3, ad4, cp5, es6⟩, ⟨nd, ra, rc, rx⟩] : List GrV) ((k : Nat) : Int)).n) ((at_ ([⟨nd3, ad4, cp5, es6⟩, ⟨nd, ra, rc, rx⟩] : List GrV) ((k : Nat) : Int)).xs)).length cp20) (bridgesG ((at_ ([⟨nd3, ad4, cp5, es6⟩, ⟨nd, ra, rc, rx⟩] : List GrV) ((k : Nat) : Int)).n) ((at_ ([⟨nd3, ad4, cp5, es6⟩, ⟨nd, ra, rc, rx⟩] : List GrV) ((k : Nat) : Int)).xs)) :: vc 38 (.slice ad17 (bridgesG ((at_ ([⟨nd3, ad4, cp5, es6⟩, ⟨nd, ra, rc, rx⟩] : List GrV) ((k : Nat) : Int)).n) ((at_ ([⟨nd3, ad4, cp5, es6⟩, ⟨nd, ra, rc, rx⟩] : List GrV) ((k : Nat) : Int)).xs)).length cp18) (bridgesG ((at_ ([⟨nd3, ad4, cp5, es6⟩, ⟨nd, ra, rc, rx⟩] : List GrV) ((k : Nat) : Int)).n) ((at_ ([⟨nd3, ad4, cp5, es6⟩, ⟨nd, ra, rc, rx⟩] : List GrV) ((k : Nat) : Int)).xs)) :: vc 22 (.slice ad14 rs16.length cp15) (rs16) :: vc 22 (.slice ad11 rs13.length cp12) (rs13) :: blk b10 [I64 ((at_ ([⟨nd3, ad4, cp5, es6⟩, ⟨nd, ra, rc, rx⟩] : List GrV) ((k : Nat) : Int)).n), .slice (at_ ([⟨nd3, ad4, cp5, es6⟩, ⟨nd, ra, rc, rx⟩] : List GrV) ((k : Nat) : Int)).a (at_ ([⟨nd3, ad4, cp5, es6⟩, ⟨nd, ra, rc, rx⟩] : List GrV) ((k : Nat) : Int)).xs.length (at_ ([⟨nd3, ad4, cp5, es6⟩, ⟨nd, ra, rc, rx⟩] : List GrV) ((k : Nat) : Int)).c] 25 :: vc 25 (.slice ad9 2 2) (([⟨nd3, ad4, cp5, es6⟩, ⟨nd, ra, rc, rx⟩] : List GrV)) :: blk b8 [I64 (nd3), .slice ad4 es6.length cp5] 25 :: vc 38 (.slice ad4 es6.length cp5) (es6) :: blk dk2 [.slice la ln lc, I64 (i37)] 96 :: blk b1 [I64 (nd), .slice ra rx.length rc] 25 :: (ownR 38 rs30 ++ (ownR 38 rs27 ++ (ownR 3 rs16 ++ (ownR 3 rs13 ++ I)))))
             refine G.r (Runs.move rfl) ?_
             refine G.e (Eff.call call21 rfl rfl (Set_at (by repeat (first | exact AtF.head _ _ | apply AtF.tail)) (fun _ => Sl.fit hl Fit.m) (by omega) (by omega))) ?_
             rintro _ _ ⟨_, _, ⟨ad42, cp43, o44, i41, rfl, ho44, hlo44, hi41, rfl⟩, rfl, rfl⟩
             show G Tryd.prog κ _ _ _ _ ([(198, .slice ad42 o44.length cp43), (197, .pointer (some ⟨dk2, 0, none⟩)), (196, .slice ad38 o40.length cp39), (195, .pointer (some ⟨dk2, 0, none⟩)), (194, .agg #[.slice fa fx.length fc, .slice wa wx.length wc]), (193, .slice wa wx.length wc), (192, .slice fa fx.length fc), (162, .bool (decide (((j : Nat) : Int) < ((2 : Nat) : Int)))), (2, .slice fa fx.length fc), (3, .slice wa wx.length wc), (4, I64 (u)), (5, I64 (v)), (13, .pointer (some ⟨dk2, 0, none⟩)), (16, .pointer (some ⟨b10, 0, none⟩)), (63, .slice ad9 2 2), (64, I64 (((2 : Nat) : Int))), (65, I64 (((k : Nat) : Int))), (159, .slice ad35 2 2), (160, I64 (((2 : Nat) : Int))), (161, I64 (((j : Nat) : Int)))] : Env) (vc 3 (.slice ad42 o44.length cp43) (o44) :: vc 3 (.slice ad38 o40.length cp39) (o40) :: vc 63 (.slice ad35 2 2) (([⟨u, v⟩, ⟨x31, x33⟩] : List Pt)) :: vc 23 (.slice ad28 rs30.length cp29) (rs30) :: vc 23 (.slice ad25 rs27.length cp26) (rs27) :: vc 3 (.slice ad23 (jointsG ((at_ ([⟨nd3, ad4, cp5, es6⟩, ⟨nd, ra, rc, rx⟩] : List GrV) ((k : Nat) : Int)).n) ((at_ ([⟨nd3, ad4, cp5, es6⟩, ⟨nd, ra, rc, rx⟩] : List GrV) ((k : Nat) : Int)).xs)).length cp24) (jointsG ((at_ ([⟨nd3, ad4, cp5, es6⟩, ⟨nd, ra, rc, rx⟩] : List GrV) ((k : Nat) : Int)).n) ((at_ ([⟨nd3, ad4, cp5, es6⟩, ⟨nd, ra, rc, rx⟩] : List GrV) ((k : Nat) : Int)).xs)) :: vc 3 (.slice ad21 (jointsG ((at_ ([⟨nd3, ad4, cp5, es6⟩, ⟨nd, ra, rc, rx⟩] : List GrV) ((k : Nat) : Int)).n) ((at_ ([⟨nd3, ad4, cp5, es6⟩, ⟨nd, ra, rc, rx⟩] : List GrV) ((k : Nat) : Int)).xs)).length cp22) (jointsG ((at_ ([⟨nd3, ad4, cp5, es6⟩, ⟨nd, ra, rc, rx⟩] : List GrV) ((k : Nat) : Int)).n) ((at_ ([⟨nd3, ad4, cp5, es6⟩, ⟨nd, ra, rc, rx⟩] : List GrV) ((k : Nat) : Int)).xs)) :: vc 38 (.slice ad19 (bridgesG ((at_ ([⟨nd3, ad4, cp5, es6⟩, ⟨nd, ra, rc, rx⟩] : List GrV) ((k : Nat) : Int)).n) ((at_ ([⟨nd3, ad4, cp5, es6⟩, ⟨nd, ra, rc, rx⟩] : List GrV) ((k : Nat) : Int)).xs)).length cp20) (bridgesG ((at_ ([⟨nd3, ad4, cp5, es6⟩, ⟨nd, ra, rc, rx⟩] : List GrV) ((k : Nat) : Int)).n) ((at_ ([⟨nd3, ad4, cp5, es6⟩, ⟨nd, ra, rc, rx⟩] : List GrV) ((k : Nat) : Int)).xs)) :: vc 38 (.slice ad17 (bridgesG ((at_ ([⟨nd3, ad4, cp5, es6⟩, ⟨nd, ra, rc, rx⟩] : List GrV) ((k : Nat) : Int)).n) ((at_ ([⟨nd3, ad4, cp5, es6⟩, ⟨nd, ra, rc, rx⟩] : List GrV) ((k : Nat) : Int)).xs)).length cp18) (bridgesG ((at_ ([⟨nd3, ad4, cp5, es6⟩, ⟨nd, ra, rc, rx⟩] : List GrV) ((k : Nat) : Int)).n) ((at_ ([⟨nd3, ad4, cp5, es6⟩, ⟨nd, ra, rc, rx⟩] : List GrV) ((k : Nat) : Int)).xs)) :: vc 22 (.slice ad14 rs16.length cp15) (rs16) :: vc 22 (.slice ad11 rs13.length cp12) (rs13) :: blk b10 [I64 ((at_ ([⟨nd3, ad4, cp5, es6⟩, ⟨nd, ra, rc, rx⟩] : List GrV) ((k : Nat) : Int)).n), .slice (at_ ([⟨nd3, ad4, cp5, es6⟩, ⟨nd, ra, rc, rx⟩] : List GrV) ((k : Nat) : Int)).a (at_ ([⟨nd3, ad4, cp5, es6⟩, ⟨nd, ra, rc, rx⟩] : List GrV) ((k : Nat) : Int)).xs.length (at_ ([⟨nd3, ad4, cp5, es6⟩, ⟨nd, ra, rc, rx⟩] : List GrV) ((k : Nat) : Int)).c] 25 :: vc 25 (.slice ad9 2 2) (([⟨nd3, ad4, cp5, es6⟩, ⟨nd, ra, rc, rx⟩] : List GrV)) :: blk b8 [I64 (nd3), .slice ad4 es6.length cp5] 25 :: vc 38 (.slice ad4 es6.length cp5) (es6) :: blk dk2 [.slice la ln lc, I64 (i41)] 96 :: blk b1 [I64 (nd), .slice ra rx.length rc] 25 :: (ownR 38 rs30 ++ (ownR 38 rs27 ++ (ownR 3 rs16 ++ (ownR 3 rs13 ++ I)))))
             refine G.r (Runs.buildArr (cells := [_, _]) ty65 Tryd.underlying65 ty22 rfl rfl) ?_
             refine G.r (Runs.move rfl) ?_
             refine G.e (Eff.call call22 rfl rfl (Next_ok (by repeat (first | exact AtF.head _ _ | apply AtF.tail)) (Sl.f hl) (by omega) (by omega))) ?_
             rintro _ _ ⟨_, _, ⟨x45, i46, rfl, hx45, hi46, rfl⟩, rfl, rfl⟩
             show G Tryd.prog κ _ _ _ _ ([(201, I64 (x45)), (200, .pointer (some ⟨dk2, 0, none⟩)), (199, .agg #[.slice ad38 o40.length cp39, .slice ad42 o44.length cp43]), (198, .slice ad42 o44.length cp43), (197, .pointer (some ⟨dk2, 0, none⟩)), (196, .slice ad38 o40.length cp39), (195, .pointer (some ⟨dk2, 0, none⟩)), (194, .agg #[.slice fa fx.length fc, .slice wa wx.length wc]), (193, .slice wa wx.length wc), (192, .slice fa fx.length fc), (162, .bool (decide (((j : Nat) : Int) < ((2 : Nat) : Int)))), (2, .slice fa fx.length fc), (3, .slice wa wx.length wc), (4, I64 (u)), (5, I64 (v)), (13, .pointer (some ⟨dk2, 0, none⟩)), (16, .pointer (some ⟨b10, 0, none⟩)), (63, .slice ad9 2 2), (64, I64 (((2 : Nat) : Int))), (65, I64 (((k : Nat) : Int))), (159, .slice ad35 2 2), (160, I64 (((2 : Nat) : Int))), (161, I64 (((j : Nat) : Int)))] : Env) (vc 3 (.slice ad42 o44.length cp43) (o44) :: vc 3 (.slice ad38 o40.length cp39) (o40) :: vc 63 (.slice ad35 2 2) (([⟨u, v⟩, ⟨x31, x33⟩] : List Pt)) :: vc 23 (.slice ad28 rs30.length cp29) (rs30) :: vc 23 (.slice ad25 rs27.length cp26) (rs27) :: vc 3 (.slice ad23 (jointsG ((at_ ([⟨nd3, ad4, cp5, es6⟩, ⟨nd, ra, rc, rx⟩] : List GrV) ((k : Nat) : Int)).n) ((at_ ([⟨nd3, ad4, cp5, es6⟩, ⟨nd, ra, rc, rx⟩] : List GrV) ((k : Nat) : Int)).xs)).length cp24) (jointsG ((at_ ([⟨nd3, ad4, cp5, es6⟩, ⟨nd, ra, rc, rx⟩] : List GrV) ((k : Nat) : Int)).n) ((at_ ([⟨nd3, ad4, cp5, es6⟩, ⟨nd, ra, rc, rx⟩] : List GrV) ((k : Nat) : Int)).xs)) :: vc 3 (.slice ad21 (jointsG ((at_ ([⟨nd3, ad4, cp5, es6⟩, ⟨nd, ra, rc, rx⟩] : List GrV) ((k : Nat) : Int)).n) ((at_ ([⟨nd3, ad4, cp5, es6⟩, ⟨nd, ra, rc, rx⟩] : List GrV) ((k : Nat) : Int)).xs)).length cp22) (jointsG ((at_ ([⟨nd3, ad4, cp5, es6⟩, ⟨nd, ra, rc, rx⟩] : List GrV) ((k : Nat) : Int)).n) ((at_ ([⟨nd3, ad4, cp5, es6⟩, ⟨nd, ra, rc, rx⟩] : List GrV) ((k : Nat) : Int)).xs)) :: vc 38 (.slice ad19 (bridgesG ((at_ ([⟨nd3, ad4, cp5, es6⟩, ⟨nd, ra, rc, rx⟩] : List GrV) ((k : Nat) : Int)).n) ((at_ ([⟨nd3, ad4, cp5, es6⟩, ⟨nd, ra, rc, rx⟩] : List GrV) ((k : Nat) : Int)).xs)).length cp20) (bridgesG ((at_ ([⟨nd3, ad4, cp5, es6⟩, ⟨nd, ra, rc, rx⟩] : List GrV) ((k : Nat) : Int)).n) ((at_ ([⟨nd3, ad4, cp5, es6⟩, ⟨nd, ra, rc, rx⟩] : List GrV) ((k : Nat) : Int)).xs)) :: vc 38 (.slice ad17 (bridgesG ((at_ ([⟨nd3, ad4, cp5, es6⟩, ⟨nd, ra, rc, rx⟩] : List GrV) ((k : Nat) : Int)).n) ((at_ ([⟨nd3, ad4, cp5, es6⟩, ⟨nd, ra, rc, rx⟩] : List GrV) ((k : Nat) : Int)).xs)).length cp18) (bridgesG ((at_ ([⟨nd3, ad4, cp5, es6⟩, ⟨nd, ra, rc, rx⟩] : List GrV) ((k : Nat) : Int)).n) ((at_ ([⟨nd3, ad4, cp5, es6⟩, ⟨nd, ra, rc, rx⟩] : List GrV) ((k : Nat) : Int)).xs)) :: vc 22 (.slice ad14 rs16.length cp15) (rs16) :: vc 22 (.slice ad11 rs13.length cp12) (rs13) :: blk b10 [I64 ((at_ ([⟨nd3, ad4, cp5, es6⟩, ⟨nd, ra, rc, rx⟩] : List GrV) ((k : Nat) : Int)).n), .slice (at_ ([⟨nd3, ad4, cp5, es6⟩, ⟨nd, ra, rc, rx⟩] : List GrV) ((k : Nat) : Int)).a (at_ ([⟨nd3, ad4, cp5, es6⟩, ⟨nd, ra, rc, rx⟩] : List GrV) ((k : Nat) : Int)).xs.length (at_ ([⟨nd3, ad4, cp5, es6⟩, ⟨nd, ra, rc, rx⟩] : List GrV) ((k : Nat) : Int)).c] 25 :: vc 25 (.slice ad9 2 2) (([⟨nd3, ad4, cp5, es6⟩, ⟨nd, ra, rc, rx⟩] : List GrV)) :: blk b8 [I64 (nd3), .slice ad4 es6.length cp5] 25 :: vc 38 (.slice ad4 es6.length cp5) (es6) :: blk dk2 [.slice la ln lc, I64 (i46)] 96 :: blk b1 [I64 (nd), .slice ra rx.length rc] 25 :: (ownR 38 rs30 ++ (ownR 38 rs27 ++ (ownR 3 rs16 ++ (ownR 3 rs13 ++ I)))))
             refine G.e (Eff.bs (α := Int) (cs := [_]) (xs := [x45]) Tryd.underlying22 ty3 rfl rfl (by decide) (by decide) rfl rfl rfl rfl) ?_
             rintro _ _ ⟨ad47, rfl, rfl⟩
             refine G.e (Eff.call call29 rfl rfl (Range_ok 8)) ?_
             rintro _ _ ⟨_, _, ⟨ad48, cp49, rfl, rfl⟩, rfl, rfl⟩
             refine G.r (Runs.buildArr (cells := [_, _]) ty65 Tryd.underlying65 ty22 rfl rfl) ?_
             refine G.e (Eff.bs (α := PrV) (cs := [.slice fa fx.length fc, .slice wa wx.length wc, .slice ad38 o40.length cp39, .slice ad42 o44.length cp43, .slice ad47 1 1, .slice ad48 (rangeI 8).length cp49]) (xs := [⟨fa, fc, fx, wa, wc, wx⟩, ⟨ad38, cp39, o40, ad42, cp43, o44⟩, ⟨ad47, 1, ([x45] : List Int), ad48, cp49, rangeI 8⟩]) Tryd.underlying66 ty65 rfl rfl (by decide) (by decide) rfl (by kernel_rfl) rfl rfl) ?_
             rintro _ _ ⟨ad50, rfl, rfl⟩
             have hhp : HeldPr κ (vc 3 (.slice ad48 (rangeI 8).length cp49) (rangeI 8) :: vc 3 (.slice ad47 1 1) (([x45] : List Int)) :: vc 3 (.slice ad42 o44.length cp43) (o44) :: vc 3 (.slice ad38 o40.length cp39) (o40) :: I) ([⟨fa, fc, fx, wa, wc, wx⟩, ⟨ad38, cp39, o40, ad42, cp43, o44⟩, ⟨ad47, 1, ([x45] : List Int), ad48, cp49, rangeI 8⟩] : List PrV) := (HeldPr.cons (show Sl κ _ (.slice fa fx.length fc) (fx) from (Sl.f hfr)) (show Sl κ _ (.slice wa wx.length wc) (wx) from (Sl.f hwi)) (HeldPr.cons (show Sl κ _ (.slice ad38 o40.length cp39) (o40) from Sl.o) (show Sl κ _ (.slice ad42 o44.length cp43) (o44) from Sl.o) (HeldPr.cons (show Sl κ _ (.slice ad47 1 1) (([x45] : List Int)) from Sl.o) (show Sl κ _ (.slice ad48 (rangeI 8).length cp49) (rangeI 8) from Sl.o) HeldPr.nil)))
             have hp3 : ([⟨fa, fc, fx, wa, wc, wx⟩, ⟨ad38, cp39, o40, ad42, cp43, o44⟩, ⟨ad47, 1, ([x45] : List Int), ad48, cp49, rangeI 8⟩] : List PrV).length = 3 := rfl
             have hr8 : (rangeI 8).length = 8 := by decide +kernel
             have hpb : ∀ r ∈ ([⟨fa, fc, fx, wa, wc, wx⟩, ⟨ad38, cp39, o40, ad42, cp43, o44⟩, ⟨ad47, 1, ([x45] : List Int), ad48, cp49, rangeI 8⟩] : List PrV), r.xs1.length ≤ 1000 ∧ r.xs2.length ≤ 1000 := by intro r hr; simp only [List.mem_cons, List.not_mem_nil, or_false] at hr; rcases hr with rfl | rfl | rfl <;> dsimp only <;> (first | omega | (simp only [List.length_cons, List.length_nil]; omega))
             refine G.r (Runs.lens Tryd.underlying66 rfl) ?_
             refine G.r (Runs.move rfl) ?_
             refine G.nt ?_
             refine W.sub (L' := [(207, _), (206, _), (205, _), (2, _), (3, _), (4, _), (5, _), (13, _), (16, _), (63, _), (64, _), (65, _)]) (Sub.cons rfl (Sub.cons rfl (Sub.cons rfl (Sub.cons rfl (Sub.cons rfl (Sub.cons rfl (Sub.cons rfl (Sub.cons rfl (Sub.cons rfl (Sub.cons rfl (Sub.cons rfl (Sub.cons rfl Sub.nil)))))))))))) ?_
             refine W.block ?_
             refine W.loop (σ := Nat) (fun s => ([(2, .slice fa fx.length fc), (3, .slice wa wx.length wc), (4, I64 (u)), (5, I64 (v)), (13, .pointer (some ⟨dk2, 0, none⟩)), (16, .pointer (some ⟨b10, 0, none⟩)), (63, .slice ad9 2 2), (64, I64 (((2 : Nat) : Int))), (65, I64 (((k : Nat) : Int))), (205, .slice ad50 3 3), (206, I64 (((3 : Nat) : Int))), (207, I64 (((s : Nat) : Int)))] : Env)) (fun s => vc 65 (.slice ad50 3 3) (([⟨fa, fc, fx, wa, wc, wx⟩, ⟨ad38, cp39, o40, ad42, cp43, o44⟩, ⟨ad47, 1, ([x45] : List Int), ad48, cp49, rangeI 8⟩] : List PrV)) :: vc 3 (.slice ad48 (rangeI 8).length cp49) (rangeI 8) :: vc 3 (.slice ad47 1 1) (([x45] : List Int)) :: vc 3 (.slice ad42 o44.length cp43) (o44) :: vc 3 (.slice ad38 o40.length cp39) (o40) :: vc 63 (.slice ad35 2 2) (([⟨u, v⟩, ⟨x31, x33⟩] : List Pt)) :: vc 23 (.slice ad28 rs30.length cp29) (rs30) :: vc 23 (.slice ad25 rs27.length cp26) (rs27) :: vc 3 (.slice ad23 (jointsG ((at_ ([⟨nd3, ad4, cp5, es6⟩, ⟨nd, ra, rc, rx⟩] : List GrV) ((k : Nat) : Int)).n) ((at_ ([⟨nd3, ad4, cp5, es6⟩, ⟨nd, ra, rc, rx⟩] : List GrV) ((k : Nat) : Int)).xs)).length cp24) (jointsG ((at_ ([⟨nd3, ad4, cp5, es6⟩, ⟨nd, ra, rc, rx⟩] : List GrV) ((k : Nat) : Int)).n) ((at_ ([⟨nd3, ad4, cp5, es6⟩, ⟨nd, ra, rc, rx⟩] : List GrV) ((k : Nat) : Int)).xs)) :: vc 3 (.slice ad21 (jointsG ((at_ ([⟨nd3, ad4, cp5, es6⟩, ⟨nd, ra, rc, rx⟩] : List GrV) ((k : Nat) : Int)).n) ((at_ ([⟨nd3, ad4, cp5, es6⟩, ⟨nd, ra, rc, rx⟩] : List GrV) ((k : Nat) : Int)).xs)).length cp22) (jointsG ((at_ ([⟨nd3, ad4, cp5, es6⟩, ⟨nd, ra, rc, rx⟩] : List GrV) ((k : Nat) : Int)).n) ((at_ ([⟨nd3, ad4, cp5, es6⟩, ⟨nd, ra, rc, rx⟩] : List GrV) ((k : Nat) : Int)).xs)) :: vc 38 (.slice ad19 (bridgesG ((at_ ([⟨nd3, ad4, cp5, es6⟩, ⟨nd, ra, rc, rx⟩] : List GrV) ((k : Nat) : Int)).n) ((at_ ([⟨nd3, ad4, cp5, es6⟩, ⟨nd, ra, rc, rx⟩] : List GrV) ((k : Nat) : Int)).xs)).length cp20) (bridgesG ((at_ ([⟨nd3, ad4, cp5, es6⟩, ⟨nd, ra, rc, rx⟩] : List GrV) ((k : Nat) : Int)).n) ((at_ ([⟨nd3, ad4, cp5, es6⟩, ⟨nd, ra, rc, rx⟩] : List GrV) ((k : Nat) : Int)).xs)) :: vc 38 (.slice ad17 (bridgesG ((at_ ([⟨nd3, ad4, cp5, es6⟩, ⟨nd, ra, rc, rx⟩] : List GrV) ((k : Nat) : Int)).n) ((at_ ([⟨nd3, ad4, cp5, es6⟩, ⟨nd, ra, rc, rx⟩] : List GrV) ((k : Nat) : Int)).xs)).length cp18) (bridgesG ((at_ ([⟨nd3, ad4, cp5, es6⟩, ⟨nd, ra, rc, rx⟩] : List GrV) ((k : Nat) : Int)).n) ((at_ ([⟨nd3, ad4, cp5, es6⟩, ⟨nd, ra, rc, rx⟩] : List GrV) ((k : Nat) : Int)).xs)) :: vc 22 (.slice ad14 rs16.length cp15) (rs16) :: vc 22 (.slice ad11 rs13.length cp12) (rs13) :: blk b10 [I64 ((at_ ([⟨nd3, ad4, cp5, es6⟩, ⟨nd, ra, rc, rx⟩] : List GrV) ((k : Nat) : Int)).n), .slice (at_ ([⟨nd3, ad4, cp5, es6⟩, ⟨nd, ra, rc, rx⟩] : List GrV) ((k : Nat) : Int)).a (at_ ([⟨nd3, ad4, cp5, es6⟩, ⟨nd, ra, rc, rx⟩] : List GrV) ((k : Nat) : Int)).xs.length (at_ ([⟨nd3, ad4, cp5, es6⟩, ⟨nd, ra, rc, rx⟩] : List GrV) ((k : Nat) : Int)).c] 25 :: vc 25 (.slice ad9 2 2) (([⟨nd3, ad4, cp5, es6⟩, ⟨nd, ra, rc, rx⟩] : List GrV)) :: blk b8 [I64 (nd3), .slice ad4 es6.length cp5] 25 :: vc 38 (.slice ad4 es6.length cp5) (es6) :: blk dk2 [.slice la ln lc, I64 (i46)] 96 :: blk b1 [I64 (nd), .slice ra rx.length rc] 25 :: (ownR 38 rs30 ++ (ownR 38 rs27 ++ (ownR 3 rs16 ++ (ownR 3 rs13 ++ I))))) (fun s => (s ≤ ([⟨fa, fc, fx, wa, wc, wx⟩, ⟨ad38, cp39, o40, ad42, cp43, o44⟩, ⟨ad47, 1, ([x45] : List Int), ad48, cp49, rangeI 8⟩] : List PrV).length)) (fun s => ([⟨fa, fc, fx, wa, wc, wx⟩, ⟨ad38, cp39, o40, ad42, cp43, o44⟩, ⟨ad47, 1, ([x45] : List Int), ad48, cp49, rangeI 8⟩] : List PrV).length - s) (0) (show ((0 : Nat) ≤ ([⟨fa, fc, fx, wa, wc, wx⟩, ⟨ad38, cp39, o40, ad42, cp43, o44⟩, ⟨ad47, 1, ([x45] : List Int), ad48, cp49, rangeI 8⟩] : List PrV).length) from (by omega)) (Sub.cons rfl (Sub.cons rfl (Sub.cons rfl (Sub.cons rfl (Sub.cons rfl (Sub.cons rfl (Sub.cons rfl (Sub.cons rfl (Sub.cons rfl (Sub.cons rfl (Sub.cons rfl (Sub.cons lookO Sub.nil)))))))))))) (show Fit κ _ (vc 65 (.slice ad50 3 3) (([⟨fa, fc, fx, wa, wc, wx⟩, ⟨ad38, cp39, o40, ad42, cp43, o44⟩, ⟨ad47, 1, ([x45] : List Int), ad48, cp49, rangeI 8⟩] : List PrV)) :: vc 3 (.slice ad48 (rangeI 8).length cp49) (rangeI 8) :: vc 3 (.slice ad47 1 1) (([x45] : List Int)) :: vc 3 (.slice ad42 o44.length cp43) (o44) :: vc 3 (.slice ad38 o40.length cp39) (o40) :: vc 63 (.slice ad35 2 2) (([⟨u, v⟩, ⟨x31, x33⟩] : List Pt)) :: vc 23 (.slice ad28 rs30.length cp29) (rs30) :: vc 23 (.slice ad25 rs27.length cp26) (rs27) :: vc 3 (.slice ad23 (jointsG ((at_ ([⟨nd3, ad4, cp5, es6⟩, ⟨nd, ra, rc, rx⟩] : List GrV) ((k : Nat) : Int)).n) ((at_ ([⟨nd3, ad4, cp5, es6⟩, ⟨nd, ra, rc, rx⟩] : List GrV) ((k : Nat) : Int)).xs)).length cp24) (jointsG ((at_ ([⟨nd3, ad4, cp5, es6⟩, ⟨nd, ra, rc, rx⟩] : List GrV) ((k : Nat) : Int)).n) ((at_ ([⟨nd3, ad4, cp5, es6⟩, ⟨nd, ra, rc, rx⟩] : List GrV) ((k : Nat) : Int)).xs)) :: vc 3 (.slice ad21 (jointsG ((at_ ([⟨nd3, ad4, cp5, es6⟩, ⟨nd, ra, rc, rx⟩] : List GrV) ((k : Nat) : Int)).n) ((at_ ([⟨nd3, ad4, cp5, es6⟩, ⟨nd, ra, rc, rx⟩] : List GrV) ((k : Nat) : Int)).xs)).length cp22) (jointsG ((at_ ([⟨nd3, ad4, cp5, es6⟩, ⟨nd, ra, rc, rx⟩] : List GrV) ((k : Nat) : Int)).n) ((at_ ([⟨nd3, ad4, cp5, es6⟩, ⟨nd, ra, rc, rx⟩] : List GrV) ((k : Nat) : Int)).xs)) :: vc 38 (.slice ad19 (bridgesG ((at_ ([⟨nd3, ad4, cp5, es6⟩, ⟨nd, ra, rc, rx⟩] : List GrV) ((k : Nat) : Int)).n) ((at_ ([⟨nd3, ad4, cp5, es6⟩, ⟨nd, ra, rc, rx⟩] : List GrV) ((k : Nat) : Int)).xs)).length cp20) (bridgesG ((at_ ([⟨nd3, ad4, cp5, es6⟩, ⟨nd, ra, rc, rx⟩] : List GrV) ((k : Nat) : Int)).n) ((at_ ([⟨nd3, ad4, cp5, es6⟩, ⟨nd, ra, rc, rx⟩] : List GrV) ((k : Nat) : Int)).xs)) :: vc 38 (.slice ad17 (bridgesG ((at_ ([⟨nd3, ad4, cp5, es6⟩, ⟨nd, ra, rc, rx⟩] : List GrV) ((k : Nat) : Int)).n) ((at_ ([⟨nd3, ad4, cp5, es6⟩, ⟨nd, ra, rc, rx⟩] : List GrV) ((k : Nat) : Int)).xs)).length cp18) (bridgesG ((at_ ([⟨nd3, ad4, cp5, es6⟩, ⟨nd, ra, rc, rx⟩] : List GrV) ((k : Nat) : Int)).n) ((at_ ([⟨nd3, ad4, cp5, es6⟩, ⟨nd, ra, rc, rx⟩] : List GrV) ((k : Nat) : Int)).xs)) :: vc 22 (.slice ad14 rs16.length cp15) (rs16) :: vc 22 (.slice ad11 rs13.length cp12) (rs13) :: blk b10 [I64 ((at_ ([⟨nd3, ad4, cp5, es6⟩, ⟨nd, ra, rc, rx⟩] : List GrV) ((k : Nat) : Int)).n), .slice (at_ ([⟨nd3, ad4, cp5, es6⟩, ⟨nd, ra, rc, rx⟩] : List GrV) ((k : Nat) : Int)).a (at_ ([⟨nd3, ad4, cp5, es6⟩, ⟨nd, ra, rc, rx⟩] : List GrV) ((k : Nat) : Int)).xs.length (at_ ([⟨nd3, ad4, cp5, es6⟩, ⟨nd, ra, rc, rx⟩] : List GrV) ((k : Nat) : Int)).c] 25 :: vc 25 (.slice ad9 2 2) (([⟨nd3, ad4, cp5, es6⟩, ⟨nd, ra, rc, rx⟩] : List GrV)) :: blk b8 [I64 (nd3), .slice ad4 es6.length cp5] 25 :: vc 38 (.slice ad4 es6.length cp5) (es6) :: blk dk2 [.slice la ln lc, I64 (i46)] 96 :: blk b1 [I64 (nd), .slice ra rx.length rc] 25 :: (ownR 38 rs30 ++ (ownR 38 rs27 ++ (ownR 3 rs16 ++ (ownR 3 rs13 ++ I))))) from Fit.sub) ?_
             rintro q hp
             have hq : (q ≤ ([⟨fa, fc, fx, wa, wc, wx⟩, ⟨ad38, cp39, o40, ad42, cp43, o44⟩, ⟨ad47, 1, ([x45] : List Int), ad48, cp49, rangeI 8⟩] : List PrV).length) := hp
             show W Tryd.prog κ 241 _ _ ([(2, .slice fa fx.length fc), (3, .slice wa wx.length wc), (4, I64 (u)), (5, I64 (v)), (13, .pointer (some ⟨dk2, 0, none⟩)), (16, .pointer (some ⟨b10, 0, none⟩)), (63, .slice ad9 2 2), (64, I64 (((2 : Nat) : Int))), (65, I64 (((k : Nat) : Int))), (205, .slice ad50 3 3), (206, I64 (((3 : Nat) : Int))), (207, I64 (((q : Nat) : Int)))] : Env) (vc 65 (.slice ad50 3 3) (([⟨fa, fc, fx, wa, wc, wx⟩, ⟨ad38, cp39, o40, ad42, cp43, o44⟩, ⟨ad47, 1, ([x45] : List Int), ad48, cp49, rangeI 8⟩] : List PrV)) :: vc 3 (.slice ad48 (rangeI 8).length cp49) (rangeI 8) :: vc 3 (.slice ad47 1 1) (([x45] : List Int)) :: vc 3 (.slice ad42 o44.length cp43) (o44) :: vc 3 (.slice ad38 o40.length cp39) (o40) :: vc 63 (.slice ad35 2 2) (([⟨u, v⟩, ⟨x31, x33⟩] : List Pt)) :: vc 23 (.slice ad28 rs30.length cp29) (rs30) :: vc 23 (.slice ad25 rs27.length cp26) (rs27) :: vc 3 (.slice ad23 (jointsG ((at_ ([⟨nd3, ad4, cp5, es6⟩, ⟨nd, ra, rc, rx⟩] : List GrV) ((k : Nat) : Int)).n) ((at_ ([⟨nd3, ad4, cp5, es6⟩, ⟨nd, ra, rc, rx⟩] : List GrV) ((k : Nat) : Int)).xs)).length cp24) (jointsG ((at_ ([⟨nd3, ad4, cp5, es6⟩, ⟨nd, ra, rc, rx⟩] : List GrV) ((k : Nat) : Int)).n) ((at_ ([⟨nd3, ad4, cp5, es6⟩, ⟨nd, ra, rc, rx⟩] : List GrV) ((k : Nat) : Int)).xs)) :: vc 3 (.slice ad21 (jointsG ((at_ ([⟨nd3, ad4, cp5, es6⟩, ⟨nd, ra, rc, rx⟩] : List GrV) ((k : Nat) : Int)).n) ((at_ ([⟨nd3, ad4, cp5, es6⟩, ⟨nd, ra, rc, rx⟩] : List GrV) ((k : Nat) : Int)).xs)).length cp22) (jointsG ((at_ ([⟨nd3, ad4, cp5, es6⟩, ⟨nd, ra, rc, rx⟩] : List GrV) ((k : Nat) : Int)).n) ((at_ ([⟨nd3, ad4, cp5, es6⟩, ⟨nd, ra, rc, rx⟩] : List GrV) ((k : Nat) : Int)).xs)) :: vc 38 (.slice ad19 (bridgesG ((at_ ([⟨nd3, ad4, cp5, es6⟩, ⟨nd, ra, rc, rx⟩] : List GrV) ((k : Nat) : Int)).n) ((at_ ([⟨nd3, ad4, cp5, es6⟩, ⟨nd, ra, rc, rx⟩] : List GrV) ((k : Nat) : Int)).xs)).length cp20) (bridgesG ((at_ ([⟨nd3, ad4, cp5, es6⟩, ⟨nd, ra, rc, rx⟩] : List GrV) ((k : Nat) : Int)).n) ((at_ ([⟨nd3, ad4, cp5, es6⟩, ⟨nd, ra, rc, rx⟩] : List GrV) ((k : Nat) : Int)).xs)) :: vc 38 (.slice ad17 (bridgesG ((at_ ([⟨nd3, ad4, cp5, es6⟩, ⟨nd, ra, rc, rx⟩] : List GrV) ((k : Nat) : Int)).n) ((at_ ([⟨nd3, ad4, cp5, es6⟩, ⟨nd, ra, rc, rx⟩] : List GrV) ((k : Nat) : Int)).xs)).length cp18) (bridgesG ((at_ ([⟨nd3, ad4, cp5, es6⟩, ⟨nd, ra, rc, rx⟩] : List GrV) ((k : Nat) : Int)).n) ((at_ ([⟨nd3, ad4, cp5, es6⟩, ⟨nd, ra, rc, rx⟩] : List GrV) ((k : Nat) : Int)).xs)) :: vc 22 (.slice ad14 rs16.length cp15) (rs16) :: vc 22 (.slice ad11 rs13.length cp12) (rs13) :: blk b10 [I64 ((at_ ([⟨nd3, ad4, cp5, es6⟩, ⟨nd, ra, rc, rx⟩] : List GrV) ((k : Nat) : Int)).n), .slice (at_ ([⟨nd3, ad4, cp5, es6⟩, ⟨nd, ra, rc, rx⟩] : List GrV) ((k : Nat) : Int)).a (at_ ([⟨nd3, ad4, cp5, es6⟩, ⟨nd, ra, rc, rx⟩] : List GrV) ((k : Nat) : Int)).xs.length (at_ ([⟨nd3, ad4, cp5, es6⟩, ⟨nd, ra, rc, rx⟩] : List GrV) ((k : Nat) : Int)).c] 25 :: vc 25 (.slice ad9 2 2) (([⟨nd3, ad4, cp5, es6⟩, ⟨nd, ra, rc, rx⟩] : List GrV)) :: blk b8 [I64 (nd3), .slice ad4 es6.length cp5] 25 :: vc 38 (.slice ad4 es6.length cp5) (es6) :: blk dk2 [.slice la ln lc, I64 (i46)] 96 :: blk b1 [I64 (nd), .slice ra rx.length rc] 25 :: (ownR 38 rs30 ++ (ownR 38 rs27 ++ (ownR 3 rs16 ++ (ownR 3 rs13 ++ I)))))
             have hqb : q < ([⟨fa, fc, fx, wa, wc, wx⟩, ⟨ad38, cp39, o40, ad42, cp43, o44⟩, ⟨ad47, 1, ([x45] : List Int), ad48, cp49, rangeI 8⟩] : List PrV).length → (at_ ([⟨fa, fc, fx, wa, wc, wx⟩, ⟨ad38, cp39, o40, ad42, cp43, o44⟩, ⟨ad47, 1, ([x45] : List Int), ad48, cp49, rangeI 8⟩] : List PrV) ((q : Nat) : Int)).xs1.length ≤ 1000 ∧ (at_ ([⟨fa, fc, fx, wa, wc, wx⟩, ⟨ad38, cp39, o40, ad42, cp43, o44⟩, ⟨ad47, 1, ([x45] : List Int), ad48, cp49, rangeI 8⟩] : List PrV) ((q : Nat) : Int)).xs2.length ≤ 1000 := fun h => hpb _ (at_mem (by omega) (by omega))
             refine W.sr ?_
             refine G.r (Runs.lss rfl rfl) ?_
             refine G.nt ?_
             refine W.seq ?_
             refine W.ite rfl (fun c208 => ?_) (fun c208 => ?_)
             ·refine W.skip ?_
              refine V.then ?_
              refine W.seq ?_
              refine W.block ?_
              refine W.sr ?_
              refine G.r (Runs.idx (α := PrV) (xs := ([⟨fa, fc, fx, wa, wc, wx⟩, ⟨ad38, cp39, o40, ad42, cp43, o44⟩, ⟨ad47, 1, ([x45] : List Int), ad48, cp49, rangeI 8⟩] : List PrV)) Tryd.underlying66 ty65 rfl rfl Sl.o (by omega) (by omega)) ?_
              refine G.r (Runs.gets (α := PrV) (xs := ([⟨fa, fc, fx, wa, wc, wx⟩, ⟨ad38, cp39, o40, ad42, cp43, o44⟩, ⟨ad47, 1, ([x45] : List Int), ad48, cp49, rangeI 8⟩] : List PrV)) ty65 rfl Sl.o (by omega) (by omega)) ?_
              refine G.e (Eff.alloc ty65 rfl) ?_
              rintro _ _ ⟨b51, rfl, rfl⟩
              refine G.e (Eff.st (cs := [_, _]) (vs := [_, _]) (cs' := [_, _]) ty65) ?_
              rintro _ _ ⟨rfl, rfl⟩
              refine G.nt ?_
              refine W.sub (L' := [(40, _), (2, _), (3, _), (4, _), (5, _), (13, _), (16, _), (63, _), (64, _), (65, _), (205, _), (206, _), (207, _)]) (Sub.cons rfl (Sub.cons rfl (Sub.cons rfl (Sub.cons rfl (Sub.cons rfl (Sub.cons rfl (Sub.cons rfl (Sub.cons rfl (Sub.cons rfl (Sub.cons rfl (Sub.cons rfl (Sub.cons rfl (Sub.cons rfl Sub.nil))))))))))))) ?_
              refine W.sr ?_
              refine G.r (Runs.lds (vs := [_, _]) ty25) ?_
              refine G.r (Runs.idxArr Tryd.underlying65 ty22 rfl rfl (by omega) (by omega)) ?_
              refine G.r (Runs.ld ty22) ?_
              refine G.r (Runs.idxArr Tryd.underlying65 ty22 rfl rfl (by omega) (by omega)) ?_
              refine G.r (Runs.ld ty22) ?_
              refine G.e (Eff.call call23 rfl rfl (CReach_ok (nd := ((at_ ([⟨nd3, ad4, cp5, es6⟩, ⟨nd, ra, rc, rx⟩] : List GrV) ((k : Nat) : Int)).n)) (Sl.fit (HeldGr.at hhg (i := ((k : Nat) : Int)) (by omega) (by omega)) (Fit.of_sublist (by repeat (first | exact List.Sublist.refl _ | apply List.Sublist.cons_cons | apply List.Sublist.cons | exact List.sublist_append_right _ _ | apply sub_app)))) (Sl.fit (HeldPr.at1 hhp (i := ((q : Nat) : Int)) (by omega) (by omega)) (Fit.of_sublist (by repeat (first | exact List.Sublist.refl _ | apply List.Sublist.cons_cons | apply List.Sublist.cons | exact List.sublist_append_right _ _ | apply sub_app)))) (Sl.fit (HeldPr.at2 hhp (i := ((q : Nat) : Int)) (by omega) (by omega)) (Fit.of_sublist (by repeat (first | exact List.Sublist.refl _ | apply List.Sublist.cons_cons | apply List.Sublist.cons | exact List.sublist_append_right _ _ | apply sub_app)))) (TabRd.fit hT Fit.m))) ?_
              rintro _ _ ⟨_, _, ⟨ad52, cp53, rfl, rfl⟩, rfl, rfl⟩
              refine G.r (Runs.move rfl) ?_
              refine G.r (Runs.extract rfl rfl) ?_
              refine G.r (Runs.extract rfl rfl) ?_
              refine G.r (Runs.assign rfl) ?_
              refine G.r (Runs.assign rfl) ?_
              refine G.nt ?_
              refine W.sub (L' := [(42, _), (41, _), (40, _), (2, _), (3, _), (4, _), (5, _), (13, _), (16, _), (63, _), (64, _), (65, _), (205, _), (206, _), (207, _)]) (Sub.cons rfl (Sub.cons rfl (Sub.cons rfl (Sub.cons rfl (Sub.cons rfl (Sub.cons rfl (Sub.cons rfl (Sub.cons rfl (Sub.cons rfl (Sub.cons rfl (Sub.cons rfl (Sub.cons rfl (Sub.cons rfl (Sub.cons rfl (Sub.cons rfl Sub.nil))))))))))))))) ?_
              refine W.sr ?_
              refine G.r (Runs.lds (vs := [_, _]) ty25) ?_
              refine G.r (Runs.idxArr Tryd.underlying65 ty22 rfl rfl (by omega) (by omega)) ?_
              refine G.r (Runs.ld ty22) ?_
              refine G.r (Runs.idxArr Tryd.underlying65 ty22 rfl rfl (by omega) (by omega)) ?_
              refine G.r (Runs.ld ty22) ?_
              refine G.e (Eff.call call41 rfl rfl (ReachE15_ok (nd := ((at_ ([⟨nd3, ad4, cp5, es6⟩, ⟨nd, ra, rc, rx⟩] : List GrV) ((k : Nat) : Int)).n)) (Sl.fit (HeldGr.at hhg (i := ((k : Nat) : Int)) (by omega) (by omega)) (Fit.of_sublist (by repeat (first | exact List.Sublist.refl _ | apply List.Sublist.cons_cons | apply List.Sublist.cons | exact List.sublist_append_right _ _ | apply sub_app)))) (Sl.fit (HeldPr.at1 hhp (i := ((q : Nat) : Int)) (by omega) (by omega)) (Fit.of_sublist (by repeat (first | exact List.Sublist.refl _ | apply List.Sublist.cons_cons | apply List.Sublist.cons | exact List.sublist_append_right _ _ | apply sub_app)))) (Sl.fit (HeldPr.at2 hhp (i := ((q : Nat) : Int)) (by omega) (by omega)) (Fit.of_sublist (by repeat (first | exact List.Sublist.refl _ | apply List.Sublist.cons_cons | apply List.Sublist.cons | exact List.sublist_append_right _ _ | apply sub_app)))) (by omega) (by have := hqb (by omega); omega) (by have := hqb (by omega); omega))) ?_
              rintro _ _ ⟨_, _, ⟨ad54, cp55, rfl, rfl⟩, rfl, rfl⟩
              refine G.r (Runs.move rfl) ?_
              refine G.r (Runs.extract rfl rfl) ?_
              refine G.r (Runs.extract rfl rfl) ?_
              refine G.r (Runs.assign rfl) ?_
              refine G.r (Runs.assign rfl) ?_
              refine G.nt ?_
              refine W.sub (L' := [(44, _), (43, _), (42, _), (41, _), (2, _), (3, _), (4, _), (5, _), (13, _), (16, _), (63, _), (64, _), (65, _), (205, _), (206, _), (207, _)]) (Sub.cons rfl (Sub.cons rfl (Sub.cons rfl (Sub.cons rfl (Sub.cons rfl (Sub.cons rfl (Sub.cons rfl (Sub.cons rfl (Sub.cons rfl (Sub.cons rfl (Sub.cons rfl (Sub.cons rfl (Sub.cons rfl (Sub.cons rfl (Sub.cons rfl (Sub.cons rfl Sub.nil)))))))))))))))) ?_
              refine W.sr ?_
              refine G.r (Runs.move rfl) ?_
              refine G.r (Runs.move rfl) ?_
              refine G.r (Runs.neq rfl rfl) ?_
              refine G.r (Runs.move rfl) ?_
              refine G.split (d := 232) rfl (fun g232 => ?_) (fun g232 => ?_)
              ·exact absurd rfl g232
              ·refine G.ro (Runs.move rfl) ?_
               refine G.ro (Runs.move rfl) ?_
               refine G.eff (Wanted.on rfl rfl rfl) (Eff.call call27 rfl rfl (Same_ok Sl.o Sl.o)) ?_
               rintro _ _ ⟨_, _, ⟨rfl, rfl⟩, rfl, rfl⟩
               refine G.ro (Runs.notd rfl) ?_
               refine G.r (Runs.pickf rfl rfl) ?_
               refine G.nt ?_
               refine W.sub (L' := [(237, _), (2, _), (3, _), (4, _), (5, _), (13, _), (16, _), (63, _), (64, _), (65, _), (205, _), (206, _), (207, _)]) (Sub.cons rfl (Sub.cons rfl (Sub.cons rfl (Sub.cons rfl (Sub.cons rfl (Sub.cons rfl (Sub.cons rfl (Sub.cons rfl (Sub.cons rfl (Sub.cons rfl (Sub.cons rfl (Sub.cons rfl (Sub.cons rfl Sub.nil))))))))))))) ?_
               refine W.ite rfl (fun c237 => ?_) (fun c237 => ?_)
               ·exact absurd rfl c237
               ·refine W.skip ?_
                refine V.block_normal ?_
                refine V.then ?_
                refine W.region ?_
                refine G.r (Runs.add rfl rfl (by unfold InR; omega)) ?_
                refine G.r (Runs.move rfl) ?_
                refine G.nil ?_
                exact V.next ((q + 1)) (show ((q + 1 : Nat) ≤ ([⟨fa, fc, fx, wa, wc, wx⟩, ⟨ad38, cp39, o40, ad42, cp43, o44⟩, ⟨ad47, 1, ([x45] : List Int), ad48, cp49, rangeI 8⟩] : List PrV).length) from (by omega)) (show ([⟨fa, fc, fx, wa, wc, wx⟩, ⟨ad38, cp39, o40, ad42, cp43, o44⟩, ⟨ad47, 1, ([x45] : List Int), ad48, cp49, rangeI 8⟩] : List PrV).length - (q + 1 : Nat) < ([⟨fa, fc, fx, wa, wc, wx⟩, ⟨ad38, cp39, o40, ad42, cp43, o44⟩, ⟨ad47, 1, ([x45] : List Int), ad48, cp49, rangeI 8⟩] : List PrV).length - q from (by omega)) (Sub.cons rfl (Sub.cons rfl (Sub.cons rfl (Sub.cons rfl (Sub.cons rfl (Sub.cons rfl (Sub.cons rfl (Sub.cons rfl (Sub.cons rfl (Sub.cons rfl (Sub.cons rfl (Sub.cons lookO Sub.nil)))))))))))) (show Fit κ _ (vc 65 (.slice ad50 3 3) (([⟨fa, fc, fx, wa, wc, wx⟩, ⟨ad38, cp39, o40, ad42, cp43, o44⟩, ⟨ad47, 1, ([x45] : List Int), ad48, cp49, rangeI 8⟩] : List PrV)) :: vc 3 (.slice ad48 (rangeI 8).length cp49) (rangeI 8) :: vc 3 (.slice ad47 1 1) (([x45] : List Int)) :: vc 3 (.slice ad42 o44.length cp43) (o44) :: vc 3 (.slice ad38 o40.length cp39) (o40) :: vc 63 (.slice ad35 2 2) (([⟨u, v⟩, ⟨x31, x33⟩] : List Pt)) :: vc 23 (.slice ad28 rs30.length cp29) (rs30) :: vc 23 (.slice ad25 rs27.length cp26) (rs27) :: vc 3 (.slice ad23 (jointsG ((at_ ([⟨nd3, ad4, cp5, es6⟩, ⟨nd, ra, rc, rx⟩] : List GrV) ((k : Nat) : Int)).n) ((at_ ([⟨nd3, ad4, cp5, es6⟩, ⟨nd, ra, rc, rx⟩] : List GrV) ((k : Nat) : Int)).xs)).length cp24) (jointsG ((at_ ([⟨nd3, ad4, cp5, es6⟩, ⟨nd, ra, rc, rx⟩] : List GrV) ((k : Nat) : Int)).n) ((at_ ([⟨nd3, ad4, cp5, es6⟩, ⟨nd, ra, rc, rx⟩] : List GrV) ((k : Nat) : Int)).xs)) :: vc 3 (.slice ad21 (jointsG ((at_ ([⟨nd3, ad4, cp5, es6⟩, ⟨nd, ra, rc, rx⟩] : List GrV) ((k : Nat) : Int)).n) ((at_ ([⟨nd3, ad4, cp5, es6⟩, ⟨nd, ra, rc, rx⟩] : List GrV) ((k : Nat) : Int)).xs)).length cp22) (jointsG ((at_ ([⟨nd3, ad4, cp5, es6⟩, ⟨nd, ra, rc, rx⟩] : List GrV) ((k : Nat) : Int)).n) ((at_ ([⟨nd3, ad4, cp5, es6⟩, ⟨nd, ra, rc, rx⟩] : List GrV) ((k : Nat) : Int)).xs)) :: vc 38 (.slice ad19 (bridgesG ((at_ ([⟨nd3, ad4, cp5, es6⟩, ⟨nd, ra, rc, rx⟩] : List GrV) ((k : Nat) : Int)).n) ((at_ ([⟨nd3, ad4, cp5, es6⟩, ⟨nd, ra, rc, rx⟩] : List GrV) ((k : Nat) : Int)).xs)).length cp20) (bridgesG ((at_ ([⟨nd3, ad4, cp5, es6⟩, ⟨nd, ra, rc, rx⟩] : List GrV) ((k : Nat) : Int)).n) ((at_ ([⟨nd3, ad4, cp5, es6⟩, ⟨nd, ra, rc, rx⟩] : List GrV) ((k : Nat) : Int)).xs)) :: vc 38 (.slice ad17 (bridgesG ((at_ ([⟨nd3, ad4, cp5, es6⟩, ⟨nd, ra, rc, rx⟩] : List GrV) ((k : Nat) : Int)).n) ((at_ ([⟨nd3, ad4, cp5, es6⟩, ⟨nd, ra, rc, rx⟩] : List GrV) ((k : Nat) : Int)).xs)).length cp18) (bridgesG ((at_ ([⟨nd3, ad4, cp5, es6⟩, ⟨nd, ra, rc, rx⟩] : List GrV) ((k : Nat) : Int)).n) ((at_ ([⟨nd3, ad4, cp5, es6⟩, ⟨nd, ra, rc, rx⟩] : List GrV) ((k : Nat) : Int)).xs)) :: vc 22 (.slice ad14 rs16.length cp15) (rs16) :: vc 22 (.slice ad11 rs13.length cp12) (rs13) :: blk b10 [I64 ((at_ ([⟨nd3, ad4, cp5, es6⟩, ⟨nd, ra, rc, rx⟩] : List GrV) ((k : Nat) : Int)).n), .slice (at_ ([⟨nd3, ad4, cp5, es6⟩, ⟨nd, ra, rc, rx⟩] : List GrV) ((k : Nat) : Int)).a (at_ ([⟨nd3, ad4, cp5, es6⟩, ⟨nd, ra, rc, rx⟩] : List GrV) ((k : Nat) : Int)).xs.length (at_ ([⟨nd3, ad4, cp5, es6⟩, ⟨nd, ra, rc, rx⟩] : List GrV) ((k : Nat) : Int)).c] 25 :: vc 25 (.slice ad9 2 2) (([⟨nd3, ad4, cp5, es6⟩, ⟨nd, ra, rc, rx⟩] : List GrV)) :: blk b8 [I64 (nd3), .slice ad4 es6.length cp5] 25 :: vc 38 (.slice ad4 es6.length cp5) (es6) :: blk dk2 [.slice la ln lc, I64 (i46)] 96 :: blk b1 [I64 (nd), .slice ra rx.length rc] 25 :: (ownR 38 rs30 ++ (ownR 38 rs27 ++ (ownR 3 rs16 ++ (ownR 3 rs13 ++ I))))) from (Fit.of_sublist (by repeat (first | exact List.Sublist.refl _ | apply List.Sublist.cons_cons | apply List.Sublist.cons | exact List.sublist_append_right _ _ | apply sub_app))))
             ·refine W.exit ?_
              refine V.then_exit ?_
              refine V.then_exit ?_
              refine V.block_hit ?_
              refine V.block_normal ?_
              refine V.then ?_
              refine W.region ?_
              refine G.r (Runs.add rfl rfl (by unfold InR; omega)) ?_
              refine G.r (Runs.move rfl) ?_
              refine G.nil ?_
              exact V.next ((k + 1), (i46)) (show ((k + 1 : Nat) ≤ ([⟨nd3, ad4, cp5, es6⟩, ⟨nd, ra, rc, rx⟩] : List GrV).length) ∧ (0 ≤ (i46 : Int)) from ⟨(by omega), (by omega)⟩) (show ([⟨nd3, ad4, cp5, es6⟩, ⟨nd, ra, rc, rx⟩] : List GrV).length - (k + 1 : Nat) < ([⟨nd3, ad4, cp5, es6⟩, ⟨nd, ra, rc, rx⟩] : List GrV).length - k from (by omega)) (Sub.cons rfl (Sub.cons rfl (Sub.cons rfl (Sub.cons rfl (Sub.cons rfl (Sub.cons rfl (Sub.cons rfl (Sub.cons lookO Sub.nil)))))))) (show Fit κ _ (vc 25 (.slice ad9 2 2) (([⟨nd3, ad4, cp5, es6⟩, ⟨nd, ra, rc, rx⟩] : List GrV)) :: blk b8 [I64 (nd3), .slice ad4 es6.length cp5] 25 :: vc 38 (.slice ad4 es6.length cp5) (es6) :: blk dk2 [.slice la ln lc, I64 ((i46))] 96 :: blk b1 [I64 (nd), .slice ra rx.length rc] 25 :: I) from (Fit.of_sublist (by repeat (first | exact List.Sublist.refl _ | apply List.Sublist.cons_cons | apply List.Sublist.cons | exact List.sublist_append_right _ _ | apply sub_app))))
   ·refine W.exit ?_
    refine V.then_exit ?_
    refine V.then_exit ?_
    refine V.block_hit ?_
    refine V.then ?_
    refine W.sr ?_
    refine G.e (Eff.call call20 rfl rfl (Awake15_ok (TabRd.fit hT Fit.m))) ?_
    rintro _ _ ⟨_, _, ⟨rfl, rfl⟩, rfl, rfl⟩
    refine G.r (Runs.assign rfl) ?_
    refine G.nt ?_
    refine W.ret ?_
    exact V.ret1 rfl rfl (I) Fit.m ⟨rfl, rfl⟩

end Go.Sl
