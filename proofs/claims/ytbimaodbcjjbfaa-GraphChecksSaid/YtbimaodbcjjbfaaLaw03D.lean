/- A part of the proofs of statements of this seat: contracts of functions, and the plain laws that they lean on. No conditions. -/
import Derived.Test.YtbimaodbcjjbfaaGraphQ5
import Derived.Test.YtbimaodbcjjbfaaRunsT
namespace Go.Sl
open Go.Proofs
set_option linter.unusedVariables false
set_option linter.unusedSimpArgs false
set_option maxRecDepth 4000
set_option maxHeartbeats 4000000 in
theorem GraphChecks_walk {κ : Ctx} {I : List Item} {n0 : Int} {ga : Option Addr} {gc : Nat} {gx : List Pt} (hgx : Sl κ I (.slice ga gx.length gc) gx) {la : Option Addr} {ln lc : Nat} {ls : List Int} (hl : Sl κ I (.slice la ln lc) ls) (h : Int) :
    CallS Try.prog κ 12 [.agg #[I64 (n0), .slice ga gx.length gc], .slice la ln lc, I64 (h)] I (fun r J => r = .bool true ∧ I = J) := by
 refine CallS.pull hgx.le fun hmax => ?_
 refine CallS.enter (L := [(0, .agg #[I64 (n0), .slice ga gx.length gc]), (1, .slice la ln lc), (2, I64 (h))]) Try.func12 rfl rfl rfl rfl ?_
 refine W.sr ?_
 refine G.e (Eff.box (cs := [_, _]) rfl rfl rfl) ?_
 rintro _ _ ⟨b1, rfl, rfl⟩
 refine G.r (Runs.assign rfl) ?_
 refine G.nt ?_
 refine W.seq ?_
 refine W.sr ?_
 refine G.r (Runs.fieldAddr fld99_1 rfl) ?_
 refine G.r (Runs.ld ty97) ?_
 refine G.r (Runs.lens Try.underlying97 rfl) ?_
 refine G.r (Runs.gtr rfl rfl) ?_
 refine G.nt ?_
 refine W.ite rfl (fun c21 => ?_) (fun c21 => ?_)
 ·refine W.sr ?_
  refine G.e (Eff.call call68 rfl rfl Awake03_ok) ?_
  rintro _ _ ⟨_, _, ⟨rfl, rfl⟩, rfl, rfl⟩
  refine G.r (Runs.assign rfl) ?_
  refine G.nt ?_
  refine W.ret ?_
  refine V.then_ret ?_
  exact V.ret1 rfl rfl (I) Fit.m ⟨rfl, rfl⟩
 ·refine W.skip ?_
  refine V.then ?_
  refine W.sr ?_
  refine G.r (Runs.move rfl) ?_
  refine G.e (Eff.call call22 rfl rfl New_ok) ?_
  rintro _ _ ⟨_, _, ⟨dk2, rfl, rfl⟩, rfl, rfl⟩
  show G Try.prog κ _ _ _ _ ([(24, .pointer (some ⟨dk2, 0, none⟩)), (23, .slice la ln lc), (21, .bool (decide (300 < ((gx.length : Nat) : Int)))), (20, I64 (((gx.length : Nat) : Int))), (19, .slice ga gx.length gc), (18, .pointer (some ⟨b1, 1, none⟩)), (6, .bool false), (3, .pointer (some ⟨b1, 0, none⟩)), (0, .agg #[I64 (n0), .slice ga gx.length gc]), (1, .slice la ln lc), (2, I64 (h))] : Env) (blk dk2 [.slice la ln lc, I64 (0)] 129 :: blk b1 [I64 (n0), .slice ga gx.length gc] 99 :: I)
  have hi0 : (0 : Int) ≤ 0 := Int.le_refl _
  refine G.r (Runs.assign rfl) ?_
  refine G.nt ?_
  refine W.sr ?_
  refine G.r (Runs.move rfl) ?_
  refine G.e (Eff.call call69 rfl rfl (MkGraph_at (by repeat (first | exact AtF.head _ _ | apply AtF.tail)) (fun _ => Sl.fit hl Fit.m) (by omega)  (by omega))) ?_
  rintro _ _ ⟨_, _, ⟨⟨nd3, ad4, cp5, es6, i7⟩, ⟨⟨rfl, hges6⟩, hi7⟩, rfl⟩, rfl, rfl⟩
  show G Try.prog κ _ _ _ _ ([(26, .agg #[I64 (nd3), .slice ad4 es6.length cp5]), (25, .pointer (some ⟨dk2, 0, none⟩)), (7, .pointer (some ⟨dk2, 0, none⟩)), (24, .pointer (some ⟨dk2, 0, none⟩)), (23, .slice la ln lc), (21, .bool (decide (300 < ((gx.length : Nat) : Int)))), (20, I64 (((gx.length : Nat) : Int))), (19, .slice ga gx.length gc), (18, .pointer (some ⟨b1, 1, none⟩)), (6, .bool false), (3, .pointer (some ⟨b1, 0, none⟩)), (0, .agg #[I64 (n0), .slice ga gx.length gc]), (1, .slice la ln lc), (2, I64 (h))] : Env) (vc 150 (.slice ad4 es6.length cp5) (es6) :: blk dk2 [.slice la ln lc, I64 (i7)] 129 :: blk b1 [I64 (n0), .slice ga gx.length gc] 99 :: I)
  have hi7 : 0 ≤ i7 := hi7
  dsimp only at hges6
  have hel0 := hges6.2.2
  have hnd0 := hges6.1
  have hrng0 := hges6.2.1.rng
  refine G.e (Eff.alloc ty99 rfl) ?_
  rintro _ _ ⟨b8, rfl, rfl⟩
  refine G.e (Eff.st (cs := [_, _]) (vs := [_, _]) (cs' := [_, _]) ty99) ?_
  rintro _ _ ⟨rfl, rfl⟩
  refine G.nt ?_
  refine W.sub (L' := [(8, _), (7, _), (3, _), (2, _)]) (Sub.cons rfl (Sub.cons rfl (Sub.cons rfl (Sub.cons rfl Sub.nil)))) ?_
  refine W.sr ?_
  refine G.r (Runs.move rfl) ?_
  refine G.r (Runs.fieldAddr fld99_0 rfl) ?_
  refine G.r (Runs.ld ty3) ?_
  refine G.e (Eff.call call70 rfl rfl (Raw_at (by repeat (first | exact AtF.head _ _ | apply AtF.tail)) (fun _ => Sl.fit hl Fit.m) (by omega)  (by omega))) ?_
  rintro _ _ ⟨_, _, ⟨⟨ad9, cp10, es11, i12⟩, ⟨⟨rfl, hses11⟩, hi12⟩, rfl⟩, rfl, rfl⟩
  show G Try.prog κ _ _ _ _ ([(30, .slice ad9 es11.length cp10), (29, I64 (nd3)), (28, .pointer (some ⟨b8, 0, none⟩)), (27, .pointer (some ⟨dk2, 0, none⟩)), (8, .pointer (some ⟨b8, 0, none⟩)), (7, .pointer (some ⟨dk2, 0, none⟩)), (3, .pointer (some ⟨b1, 0, none⟩)), (2, I64 (h))] : Env) (vc 150 (.slice ad9 es11.length cp10) (es11) :: blk b8 [I64 (nd3), .slice ad4 es6.length cp5] 99 :: vc 150 (.slice ad4 es6.length cp5) (es6) :: blk dk2 [.slice la ln lc, I64 (i12)] 129 :: blk b1 [I64 (n0), .slice ga gx.length gc] 99 :: I)
  have hi12 : 0 ≤ i12 := hi12
  dsimp only at hses11
  refine G.r (Runs.assign rfl) ?_
  refine G.nt ?_
  refine W.seq ?_
  refine W.seq ?_
  refine W.drawn mixed ?_
  refine A.hold (vc 150 (.slice ad9 es11.length cp10) (es11) :: blk b8 [I64 (nd3), .slice ad4 es6.length cp5] 99 :: vc 150 (.slice ad4 es6.length cp5) (es6) :: blk b1 [I64 (n0), .slice ga gx.length gc] 99 :: I) 13 ?_
  refine D.r 0 rfl (Runs.lds (vs := [_, _]) ty99) ?_ (hJ := Fit.sub)
  refine D.r 1 rfl (Runs.lds (vs := [_, _]) ty99) ?_ (hJ := Fit.sub)
  refine D.r 2 rfl (Runs.move rfl) ?_ (hJ := Fit.sub)
  refine D.r 3 rfl (Runs.lds (vs := [_, _]) ty99) ?_ (hJ := Fit.sub)
  refine D.r 5 rfl (Runs.move rfl) ?_ (hJ := Fit.sub)
  refine D.r 6 rfl (Runs.move rfl) ?_ (hJ := Fit.sub)
  refine D.r 7 rfl (Runs.lds (vs := [_, _]) ty99) ?_ (hJ := Fit.sub)
  refine D.r 12 rfl (Runs.move rfl) ?_ (hJ := Fit.sub)
  refine D.step (rs := [4]) (by kernel_rfl) rfl rfl (all1 ?_)
  refine Step.eff rfl (Wanted.plain rfl) (Eff.call call71 rfl rfl (Spoilt_at (by repeat (first | exact AtF.head _ _ | apply AtF.tail)) (fun _ => Sl.fit hl Fit.m) (by omega) (fun _ => Sl.vec (by repeat (first | exact List.mem_cons_self | apply List.mem_cons_of_mem))) (hges6.2.1.bde (B := 10) (by omega)) (by omega) (by omega))) ?_
  rintro _ _ ⟨_, _, ⟨⟨nd13, ad14, cp15, es16, i17⟩, ⟨⟨rfl, hses16⟩, hi17⟩, rfl⟩, rfl, rfl⟩
  refine ⟨Fit.sub, ?_⟩
  show D Try.prog κ _ _ _ _ _ _ _ ([(35, .agg #[I64 (nd13), .slice ad14 es16.length cp15]), (43, I64 (0)), (38, .agg #[I64 (nd3), .slice ad4 es6.length cp5]), (37, .pointer (some ⟨dk2, 0, none⟩)), (36, .pointer (some ⟨dk2, 0, none⟩)), (34, .agg #[I64 (nd3), .slice ad4 es6.length cp5]), (33, .pointer (some ⟨dk2, 0, none⟩)), (32, .agg #[I64 (nd3), .slice ad4 es6.length cp5]), (31, .agg #[I64 (n0), .slice ga gx.length gc]), (9, .slice ad9 es11.length cp10), (30, .slice ad9 es11.length cp10), (29, I64 (nd3)), (28, .pointer (some ⟨b8, 0, none⟩)), (27, .pointer (some ⟨dk2, 0, none⟩)), (8, .pointer (some ⟨b8, 0, none⟩)), (7, .pointer (some ⟨dk2, 0, none⟩)), (3, .pointer (some ⟨b1, 0, none⟩)), (2, I64 (h))] : Env) (vc 150 (.slice ad14 es16.length cp15) (es16) :: vc 150 (.slice ad9 es11.length cp10) (es11) :: blk b8 [I64 (nd3), .slice ad4 es6.length cp5] 99 :: vc 150 (.slice ad4 es6.length cp5) (es6) :: blk dk2 [.slice la ln lc, I64 (i17)] 129 :: blk b1 [I64 (n0), .slice ga gx.length gc] 99 :: I)
  have hi17 : 0 ≤ i17 := hi17
  dsimp only at hses16
  have hsles16 := hses16.1
  refine D.step (rs := [8]) (by kernel_rfl) rfl rfl (all1 ?_)
  refine Step.eff rfl (Wanted.plain rfl) (Eff.call call71 rfl rfl (Spoilt_at (by repeat (first | exact AtF.head _ _ | apply AtF.tail)) (fun _ => Sl.fit hl Fit.m) (by omega) (fun _ => Sl.vec (by repeat (first | exact List.mem_cons_self | apply List.mem_cons_of_mem))) (hges6.2.1.bde (B := 10) (by omega)) (by omega) (by omega))) ?_
  rintro _ _ ⟨_, _, ⟨⟨nd18, ad19, cp20, es21, i22⟩, ⟨⟨rfl, hses21⟩, hi22⟩, rfl⟩, rfl, rfl⟩
  refine ⟨Fit.sub, ?_⟩
  show D Try.prog κ _ _ _ _ _ _ _ ([(39, .agg #[I64 (nd18), .slice ad19 es21.length cp20]), (35, .agg #[I64 (nd13), .slice ad14 es16.length cp15]), (43, I64 (0)), (38, .agg #[I64 (nd3), .slice ad4 es6.length cp5]), (37, .pointer (some ⟨dk2, 0, none⟩)), (36, .pointer (some ⟨dk2, 0, none⟩)), (34, .agg #[I64 (nd3), .slice ad4 es6.length cp5]), (33, .pointer (some ⟨dk2, 0, none⟩)), (32, .agg #[I64 (nd3), .slice ad4 es6.length cp5]), (31, .agg #[I64 (n0), .slice ga gx.length gc]), (9, .slice ad9 es11.length cp10), (30, .slice ad9 es11.length cp10), (29, I64 (nd3)), (28, .pointer (some ⟨b8, 0, none⟩)), (27, .pointer (some ⟨dk2, 0, none⟩)), (8, .pointer (some ⟨b8, 0, none⟩)), (7, .pointer (some ⟨dk2, 0, none⟩)), (3, .pointer (some ⟨b1, 0, none⟩)), (2, I64 (h))] : Env) (vc 150 (.slice ad19 es21.length cp20) (es21) :: vc 150 (.slice ad14 es16.length cp15) (es16) :: vc 150 (.slice ad9 es11.length cp10) (es11) :: blk b8 [I64 (nd3), .slice ad4 es6.length cp5] 99 :: vc 150 (.slice ad4 es6.length cp5) (es6) :: blk dk2 [.slice la ln lc, I64 (i22)] 129 :: blk b1 [I64 (n0), .slice ga gx.length gc] 99 :: I)
  have hi22 : 0 ≤ i22 := hi22
  dsimp only at hses21
  have hsles21 := hses21.1
  refine D.step (rs := [9]) (by kernel_rfl) rfl rfl (all1 ?_)
  refine Step.eff rfl (Wanted.plain rfl) (Eff.call call71 rfl rfl (Spoilt_at (by repeat (first | exact AtF.head _ _ | apply AtF.tail)) (fun _ => Sl.fit hl Fit.m) (by omega) (fun _ => Sl.vec (by repeat (first | exact List.mem_cons_self | apply List.mem_cons_of_mem))) (hses21.2) (by omega) (by omega))) ?_
  rintro _ _ ⟨_, _, ⟨⟨nd23, ad24, cp25, es26, i27⟩, ⟨⟨rfl, hses26⟩, hi27⟩, rfl⟩, rfl, rfl⟩
  refine ⟨Fit.sub, ?_⟩
  show D Try.prog κ _ _ _ _ _ _ _ ([(40, .agg #[I64 (nd23), .slice ad24 es26.length cp25]), (39, .agg #[I64 (nd18), .slice ad19 es21.length cp20]), (35, .agg #[I64 (nd13), .slice ad14 es16.length cp15]), (43, I64 (0)), (38, .agg #[I64 (nd3), .slice ad4 es6.length cp5]), (37, .pointer (some ⟨dk2, 0, none⟩)), (36, .pointer (some ⟨dk2, 0, none⟩)), (34, .agg #[I64 (nd3), .slice ad4 es6.length cp5]), (33, .pointer (some ⟨dk2, 0, none⟩)), (32, .agg #[I64 (nd3), .slice ad4 es6.length cp5]), (31, .agg #[I64 (n0), .slice ga gx.length gc]), (9, .slice ad9 es11.length cp10), (30, .slice ad9 es11.length cp10), (29, I64 (nd3)), (28, .pointer (some ⟨b8, 0, none⟩)), (27, .pointer (some ⟨dk2, 0, none⟩)), (8, .pointer (some ⟨b8, 0, none⟩)), (7, .pointer (some ⟨dk2, 0, none⟩)), (3, .pointer (some ⟨b1, 0, none⟩)), (2, I64 (h))] : Env) (vc 150 (.slice ad24 es26.length cp25) (es26) :: vc 150 (.slice ad19 es21.length cp20) (es21) :: vc 150 (.slice ad14 es16.length cp15) (es16) :: vc 150 (.slice ad9 es11.length cp10) (es11) :: blk b8 [I64 (nd3), .slice ad4 es6.length cp5] 99 :: vc 150 (.slice ad4 es6.length cp5) (es6) :: blk dk2 [.slice la ln lc, I64 (i27)] 129 :: blk b1 [I64 (n0), .slice ga gx.length gc] 99 :: I)
  have hi27 : 0 ≤ i27 := hi27
  dsimp only at hses26
  have hsles26 := hses26.1
  refine D.step (rs := [10]) (by kernel_rfl) rfl rfl (all1 ?_)
  refine Step.eff rfl (Wanted.plain rfl) (Eff.bs (α := RunV) (cs := [I64 (n0), .slice ga gx.length gc, I64 (nd3), .slice ad4 es6.length cp5, I64 (nd13), .slice ad14 es16.length cp15, I64 (nd23), .slice ad24 es26.length cp25]) (xs := [⟨n0, ga, gc, gx⟩, ⟨nd3, ad4, cp5, es6⟩, ⟨nd13, ad14, cp15, es16⟩, ⟨nd23, ad24, cp25, es26⟩]) Try.underlying103 ty99 rfl rfl (by decide) (by decide) rfl (by kernel_rfl) rfl rfl) ?_
  rintro _ _ ⟨ad28, rfl, rfl⟩
  refine ⟨Fit.sub, ?_⟩
  refine D.r 11 rfl (Runs.lens Try.underlying103 rfl) ?_ (hJ := Fit.sub)
  have hh4 : HeldRuns κ (vc 99 (.slice ad28 4 4) (([⟨n0, ga, gc, gx⟩, ⟨nd3, ad4, cp5, es6⟩, ⟨nd13, ad14, cp15, es16⟩, ⟨nd23, ad24, cp25, es26⟩] : List RunV)) :: vc 150 (.slice ad24 es26.length cp25) (es26) :: vc 150 (.slice ad19 es21.length cp20) (es21) :: vc 150 (.slice ad14 es16.length cp15) (es16) :: vc 150 (.slice ad9 es11.length cp10) (es11) :: blk b8 [I64 (nd3), .slice ad4 es6.length cp5] 99 :: vc 150 (.slice ad4 es6.length cp5) (es6) :: blk dk2 [.slice la ln lc, I64 (i27)] 129 :: blk b1 [I64 (n0), .slice ga gx.length gc] 99 :: I) ([⟨n0, ga, gc, gx⟩, ⟨nd3, ad4, cp5, es6⟩, ⟨nd13, ad14, cp15, es16⟩, ⟨nd23, ad24, cp25, es26⟩] : List RunV) := (HeldRuns.cons (show Sl κ _ (.slice ga gx.length gc) gx from Sl.fit hgx Fit.m) (HeldRuns.cons (show Sl κ _ (.slice ad4 es6.length cp5) es6 from Sl.vec (by repeat (first | exact List.mem_cons_self | apply List.mem_cons_of_mem))) (HeldRuns.cons (show Sl κ _ (.slice ad14 es16.length cp15) es16 from Sl.vec (by repeat (first | exact List.mem_cons_self | apply List.mem_cons_of_mem))) (HeldRuns.cons (show Sl κ _ (.slice ad24 es26.length cp25) es26 from Sl.vec (by repeat (first | exact List.mem_cons_self | apply List.mem_cons_of_mem))) HeldRuns.nil))))
  have hl4 : ([⟨n0, ga, gc, gx⟩, ⟨nd3, ad4, cp5, es6⟩, ⟨nd13, ad14, cp15, es16⟩, ⟨nd23, ad24, cp25, es26⟩] : List RunV).length = 4 := rfl
  refine D.done (by kernel_rfl) ?_
  refine V.then ?_
  refine W.sub (L' := [(42, _), (41, _), (43, _), (9, _), (8, _), (2, _)]) (Sub.cons rfl (Sub.cons rfl (Sub.cons rfl (Sub.cons rfl (Sub.cons rfl (Sub.cons rfl Sub.nil)))))) ?_
  refine W.block ?_
  refine W.loop (σ := Nat) (fun s => ([(2, I64 (h)), (8, .pointer (some ⟨b8, 0, none⟩)), (9, .slice ad9 es11.length cp10), (41, .slice ad28 4 4), (42, I64 (((4 : Nat) : Int))), (43, I64 (((s : Nat) : Int)))] : Env)) (fun s => vc 99 (.slice ad28 4 4) (([⟨n0, ga, gc, gx⟩, ⟨nd3, ad4, cp5, es6⟩, ⟨nd13, ad14, cp15, es16⟩, ⟨nd23, ad24, cp25, es26⟩] : List RunV)) :: vc 150 (.slice ad24 es26.length cp25) (es26) :: vc 150 (.slice ad19 es21.length cp20) (es21) :: vc 150 (.slice ad14 es16.length cp15) (es16) :: vc 150 (.slice ad9 es11.length cp10) (es11) :: blk b8 [I64 (nd3), .slice ad4 es6.length cp5] 99 :: vc 150 (.slice ad4 es6.length cp5) (es6) :: blk dk2 [.slice la ln lc, I64 (i27)] 129 :: blk b1 [I64 (n0), .slice ga gx.length gc] 99 :: I) (fun s => (s ≤ ([⟨n0, ga, gc, gx⟩, ⟨nd3, ad4, cp5, es6⟩, ⟨nd13, ad14, cp15, es16⟩, ⟨nd23, ad24, cp25, es26⟩] : List RunV).length)) (fun s => ([⟨n0, ga, gc, gx⟩, ⟨nd3, ad4, cp5, es6⟩, ⟨nd13, ad14, cp15, es16⟩, ⟨nd23, ad24, cp25, es26⟩] : List RunV).length - s) (0) (show ((0 : Nat) ≤ ([⟨n0, ga, gc, gx⟩, ⟨nd3, ad4, cp5, es6⟩, ⟨nd13, ad14, cp15, es16⟩, ⟨nd23, ad24, cp25, es26⟩] : List RunV).length) from (by omega)) (Sub.cons rfl (Sub.cons rfl (Sub.cons rfl (Sub.cons rfl (Sub.cons rfl (Sub.cons lookO Sub.nil)))))) (show Fit κ _ (vc 99 (.slice ad28 4 4) (([⟨n0, ga, gc, gx⟩, ⟨nd3, ad4, cp5, es6⟩, ⟨nd13, ad14, cp15, es16⟩, ⟨nd23, ad24, cp25, es26⟩] : List RunV)) :: vc 150 (.slice ad24 es26.length cp25) (es26) :: vc 150 (.slice ad19 es21.length cp20) (es21) :: vc 150 (.slice ad14 es16.length cp15) (es16) :: vc 150 (.slice ad9 es11.length cp10) (es11) :: blk b8 [I64 (nd3), .slice ad4 es6.length cp5] 99 :: vc 150 (.slice ad4 es6.length cp5) (es6) :: blk dk2 [.slice la ln lc, I64 (i27)] 129 :: blk b1 [I64 (n0), .slice ga gx.length gc] 99 :: I) from Fit.sub) ?_
  rintro k hp
  have hk : (k ≤ ([⟨n0, ga, gc, gx⟩, ⟨nd3, ad4, cp5, es6⟩, ⟨nd13, ad14, cp15, es16⟩, ⟨nd23, ad24, cp25, es26⟩] : List RunV).length) := hp
  show W Try.prog κ 88 _ _ ([(2, I64 (h)), (8, .pointer (some ⟨b8, 0, none⟩)), (9, .slice ad9 es11.length cp10), (41, .slice ad28 4 4), (42, I64 (((4 : Nat) : Int))), (43, I64 (((k : Nat) : Int)))] : Env) (vc 99 (.slice ad28 4 4) (([⟨n0, ga, gc, gx⟩, ⟨nd3, ad4, cp5, es6⟩, ⟨nd13, ad14, cp15, es16⟩, ⟨nd23, ad24, cp25, es26⟩] : List RunV)) :: vc 150 (.slice ad24 es26.length cp25) (es26) :: vc 150 (.slice ad19 es21.length cp20) (es21) :: vc 150 (.slice ad14 es16.length cp15) (es16) :: vc 150 (.slice ad9 es11.length cp10) (es11) :: blk b8 [I64 (nd3), .slice ad4 es6.length cp5] 99 :: vc 150 (.slice ad4 es6.length cp5) (es6) :: blk dk2 [.slice la ln lc, I64 (i27)] 129 :: blk b1 [I64 (n0), .slice ga gx.length gc] 99 :: I)
  refine W.sr ?_
  refine G.r (Runs.lss rfl rfl) ?_
  refine G.nt ?_
  refine W.seq ?_
  refine W.ite rfl (fun c44 => ?_) (fun c44 => ?_)
  ·refine W.skip ?_
   refine V.then ?_
   refine W.seq ?_
   refine W.block ?_
   refine W.sr ?_
   refine G.r (Runs.idx (α := RunV) (xs := ([⟨n0, ga, gc, gx⟩, ⟨nd3, ad4, cp5, es6⟩, ⟨nd13, ad14, cp15, es16⟩, ⟨nd23, ad24, cp25, es26⟩] : List RunV)) Try.underlying103 ty99 rfl rfl Sl.o (by omega) (by omega)) ?_
   refine G.r (Runs.gets (α := RunV) (xs := ([⟨n0, ga, gc, gx⟩, ⟨nd3, ad4, cp5, es6⟩, ⟨nd13, ad14, cp15, es16⟩, ⟨nd23, ad24, cp25, es26⟩] : List RunV)) ty99 rfl Sl.o (by omega) (by omega)) ?_
   refine G.e (Eff.alloc ty99 rfl) ?_
   rintro _ _ ⟨b29, rfl, rfl⟩
   refine G.e (Eff.st (cs := [_, _]) (vs := [_, _]) (cs' := [_, _]) ty99) ?_
   rintro _ _ ⟨rfl, rfl⟩
   refine G.nt ?_
   refine W.seq ?_
   refine W.drawn mixed ?_
   refine A.hold (blk b29 [I64 ((at_ ([⟨n0, ga, gc, gx⟩, ⟨nd3, ad4, cp5, es6⟩, ⟨nd13, ad14, cp15, es16⟩, ⟨nd23, ad24, cp25, es26⟩] : List RunV) ((k : Nat) : Int)).n), .slice (at_ ([⟨n0, ga, gc, gx⟩, ⟨nd3, ad4, cp5, es6⟩, ⟨nd13, ad14, cp15, es16⟩, ⟨nd23, ad24, cp25, es26⟩] : List RunV) ((k : Nat) : Int)).a (at_ ([⟨n0, ga, gc, gx⟩, ⟨nd3, ad4, cp5, es6⟩, ⟨nd13, ad14, cp15, es16⟩, ⟨nd23, ad24, cp25, es26⟩] : List RunV) ((k : Nat) : Int)).xs.length (at_ ([⟨n0, ga, gc, gx⟩, ⟨nd3, ad4, cp5, es6⟩, ⟨nd13, ad14, cp15, es16⟩, ⟨nd23, ad24, cp25, es26⟩] : List RunV) ((k : Nat) : Int)).c] 99 :: vc 99 (.slice ad28 4 4) (([⟨n0, ga, gc, gx⟩, ⟨nd3, ad4, cp5, es6⟩, ⟨nd13, ad14, cp15, es16⟩, ⟨nd23, ad24, cp25, es26⟩] : List RunV)) :: vc 150 (.slice ad24 es26.length cp25) (es26) :: vc 150 (.slice ad19 es21.length cp20) (es21) :: vc 150 (.slice ad14 es16.length cp15) (es16) :: vc 150 (.slice ad9 es11.length cp10) (es11) :: blk b8 [I64 (nd3), .slice ad4 es6.length cp5] 99 :: vc 150 (.slice ad4 es6.length cp5) (es6) :: blk dk2 [.slice la ln lc, I64 (i27)] 129 :: blk b1 [I64 (n0), .slice ga gx.length gc] 99 :: I) 5 ?_
   refine D.r 0 rfl (Runs.lds (vs := [_, _]) ty99) ?_ (hJ := Fit.sub)
   refine D.r 2 rfl (Runs.lds (vs := [_, _]) ty99) ?_ (hJ := Fit.sub)
   refine D.step (rs := [1]) (by kernel_rfl) rfl rfl (all1 ?_)
   refine Step.eff rfl (Wanted.plain rfl) (Eff.call call72 rfl rfl (CheckGen_ok (Sl.fit (HeldRuns.at hh4 (i := ((k : Nat) : Int)) (by omega) (by omega)) Fit.m))) ?_
   rintro _ _ ⟨_, _, ⟨rfl, rfl⟩, rfl, rfl⟩
   refine ⟨Fit.sub, ?_⟩
   refine D.step (rs := [3]) (by kernel_rfl) rfl rfl (all1 ?_)
   refine Step.eff rfl (Wanted.plain rfl) (Eff.call call73 rfl rfl (Check03G_ok (nd := (at_ ([⟨n0, ga, gc, gx⟩, ⟨nd3, ad4, cp5, es6⟩, ⟨nd13, ad14, cp15, es16⟩, ⟨nd23, ad24, cp25, es26⟩] : List RunV) ((k : Nat) : Int)).n) (Sl.fit (HeldRuns.at hh4 (i := ((k : Nat) : Int)) (by omega) (by omega)) Fit.m))) ?_
   rintro _ _ ⟨_, _, ⟨rfl, rfl⟩, rfl, rfl⟩
   refine ⟨Fit.sub, ?_⟩
   refine D.r 4 rfl (Runs.neq rfl rfl) ?_ (hJ := Fit.sub)
   refine D.done (by kernel_rfl) ?_
   refine V.then ?_
   refine W.sub (L' := [(51, _), (2, _), (8, _), (9, _), (41, _), (42, _), (43, _)]) (Sub.cons rfl (Sub.cons rfl (Sub.cons rfl (Sub.cons rfl (Sub.cons rfl (Sub.cons rfl (Sub.cons rfl Sub.nil))))))) ?_
   refine W.ite rfl (fun c51 => ?_) (fun c51 => ?_)
   ·exact absurd rfl c51
   ·refine W.skip ?_
    refine V.block_normal ?_
    refine V.then ?_
    refine W.region ?_
    refine G.r (Runs.add rfl rfl (by unfold InR; omega)) ?_
    refine G.r (Runs.move rfl) ?_
    refine G.nil ?_
    exact V.next ((k + 1)) (show ((k + 1 : Nat) ≤ ([⟨n0, ga, gc, gx⟩, ⟨nd3, ad4, cp5, es6⟩, ⟨nd13, ad14, cp15, es16⟩, ⟨nd23, ad24, cp25, es26⟩] : List RunV).length) from (by omega)) (show ([⟨n0, ga, gc, gx⟩, ⟨nd3, ad4, cp5, es6⟩, ⟨nd13, ad14, cp15, es16⟩, ⟨nd23, ad24, cp25, es26⟩] : List RunV).length - (k + 1 : Nat) < ([⟨n0, ga, gc, gx⟩, ⟨nd3, ad4, cp5, es6⟩, ⟨nd13, ad14, cp15, es16⟩, ⟨nd23, ad24, cp25, es26⟩] : List RunV).length - k from (by omega)) (Sub.cons rfl (Sub.cons rfl (Sub.cons rfl (Sub.cons rfl (Sub.cons rfl (Sub.cons lookO Sub.nil)))))) (show Fit κ _ (vc 99 (.slice ad28 4 4) (([⟨n0, ga, gc, gx⟩, ⟨nd3, ad4, cp5, es6⟩, ⟨nd13, ad14, cp15, es16⟩, ⟨nd23, ad24, cp25, es26⟩] : List RunV)) :: vc 150 (.slice ad24 es26.length cp25) (es26) :: vc 150 (.slice ad19 es21.length cp20) (es21) :: vc 150 (.slice ad14 es16.length cp15) (es16) :: vc 150 (.slice ad9 es11.length cp10) (es11) :: blk b8 [I64 (nd3), .slice ad4 es6.length cp5] 99 :: vc 150 (.slice ad4 es6.length cp5) (es6) :: blk dk2 [.slice la ln lc, I64 (i27)] 129 :: blk b1 [I64 (n0), .slice ga gx.length gc] 99 :: I) from Fit.sub)
  ·refine W.exit ?_
   refine V.then_exit ?_
   refine V.then_exit ?_
   refine V.block_hit ?_
   refine V.then ?_
   refine W.seq ?_
   refine W.seq ?_
   refine W.drawn mixed ?_
   refine A.hold (vc 99 (.slice ad28 4 4) (([⟨n0, ga, gc, gx⟩, ⟨nd3, ad4, cp5, es6⟩, ⟨nd13, ad14, cp15, es16⟩, ⟨nd23, ad24, cp25, es26⟩] : List RunV)) :: vc 150 (.slice ad24 es26.length cp25) (es26) :: vc 150 (.slice ad19 es21.length cp20) (es21) :: vc 150 (.slice ad14 es16.length cp15) (es16) :: vc 150 (.slice ad9 es11.length cp10) (es11) :: blk b8 [I64 (nd3), .slice ad4 es6.length cp5] 99 :: vc 150 (.slice ad4 es6.length cp5) (es6) :: blk dk2 [.slice la ln lc, I64 (i27)] 129 :: blk b1 [I64 (n0), .slice ga gx.length gc] 99 :: I) 9 ?_
   refine D.r 0 rfl (Runs.fieldAddr fld99_0 rfl) ?_ (hJ := Fit.sub)
   refine D.r 1 rfl (Runs.ld ty3) ?_ (hJ := Fit.sub)
   refine D.r 2 rfl (Runs.move rfl) ?_ (hJ := Fit.sub)
   refine D.r 3 rfl (Runs.move rfl) ?_ (hJ := Fit.sub)
   refine D.r 8 rfl (Runs.move rfl) ?_ (hJ := Fit.sub)
   refine D.step (rs := [4]) (by kernel_rfl) rfl rfl (all1 ?_)
   refine Step.eff rfl (Wanted.plain rfl) (Eff.call call74 rfl rfl (Mod_ok (by omega) (by omega))) ?_
   rintro _ _ ⟨_, _, ⟨x30, rfl, hx30, rfl⟩, rfl, rfl⟩
   refine ⟨Fit.sub, ?_⟩
   refine D.r 5 rfl (Runs.sub rfl rfl (by unfold InR; omega)) ?_ (hJ := Fit.sub)
   refine D.step (rs := [6]) (by kernel_rfl) rfl rfl (all1 ?_)
   refine Step.eff rfl (Wanted.plain rfl) (Eff.bs (α := Int) (cs := [_, _, _]) (xs := [nd3, h, x30 - 3]) Try.underlying22 ty3 rfl rfl (by decide) (by decide) rfl rfl rfl rfl) ?_
   rintro _ _ ⟨ad31, rfl, rfl⟩
   refine ⟨Fit.sub, ?_⟩
   refine D.r 7 rfl (Runs.lens Try.underlying22 rfl) ?_ (hJ := Fit.sub)
   have hl3 : ([nd3, h, x30 - 3] : List Int).length = 3 := rfl
   refine D.done (by kernel_rfl) ?_
   refine V.then ?_
   refine W.sub (L' := [(60, _), (59, _), (61, _), (9, _)]) (Sub.cons rfl (Sub.cons rfl (Sub.cons rfl (Sub.cons rfl Sub.nil)))) ?_
   refine W.block ?_
   refine W.loop (σ := Nat) (fun s => ([(9, .slice ad9 es11.length cp10), (59, .slice ad31 3 3), (60, I64 (((3 : Nat) : Int))), (61, I64 (((s : Nat) : Int)))] : Env)) (fun s => vc 3 (.slice ad31 3 3) (([nd3, h, x30 - 3] : List Int)) :: vc 99 (.slice ad28 4 4) (([⟨n0, ga, gc, gx⟩, ⟨nd3, ad4, cp5, es6⟩, ⟨nd13, ad14, cp15, es16⟩, ⟨nd23, ad24, cp25, es26⟩] : List RunV)) :: vc 150 (.slice ad24 es26.length cp25) (es26) :: vc 150 (.slice ad19 es21.length cp20) (es21) :: vc 150 (.slice ad14 es16.length cp15) (es16) :: vc 150 (.slice ad9 es11.length cp10) (es11) :: blk b8 [I64 (nd3), .slice ad4 es6.length cp5] 99 :: vc 150 (.slice ad4 es6.length cp5) (es6) :: blk dk2 [.slice la ln lc, I64 (i27)] 129 :: blk b1 [I64 (n0), .slice ga gx.length gc] 99 :: I) (fun s => (s ≤ ([nd3, h, x30 - 3] : List Int).length)) (fun s => ([nd3, h, x30 - 3] : List Int).length - s) (0) (show ((0 : Nat) ≤ ([nd3, h, x30 - 3] : List Int).length) from (by omega)) (Sub.cons rfl (Sub.cons rfl (Sub.cons rfl (Sub.cons lookO Sub.nil)))) (show Fit κ _ (vc 3 (.slice ad31 3 3) (([nd3, h, x30 - 3] : List Int)) :: vc 99 (.slice ad28 4 4) (([⟨n0, ga, gc, gx⟩, ⟨nd3, ad4, cp5, es6⟩, ⟨nd13, ad14, cp15, es16⟩, ⟨nd23, ad24, cp25, es26⟩] : List RunV)) :: vc 150 (.slice ad24 es26.length cp25) (es26) :: vc 150 (.slice ad19 es21.length cp20) (es21) :: vc 150 (.slice ad14 es16.length cp15) (es16) :: vc 150 (.slice ad9 es11.length cp10) (es11) :: blk b8 [I64 (nd3), .slice ad4 es6.length cp5] 99 :: vc 150 (.slice ad4 es6.length cp5) (es6) :: blk dk2 [.slice la ln lc, I64 (i27)] 129 :: blk b1 [I64 (n0), .slice ga gx.length gc] 99 :: I) from Fit.sub) ?_
   rintro k hp
   have hk : (k ≤ ([nd3, h, x30 - 3] : List Int).length) := hp
   show W Try.prog κ 88 _ _ ([(9, .slice ad9 es11.length cp10), (59, .slice ad31 3 3), (60, I64 (((3 : Nat) : Int))), (61, I64 (((k : Nat) : Int)))] : Env) (vc 3 (.slice ad31 3 3) (([nd3, h, x30 - 3] : List Int)) :: vc 99 (.slice ad28 4 4) (([⟨n0, ga, gc, gx⟩, ⟨nd3, ad4, cp5, es6⟩, ⟨nd13, ad14, cp15, es16⟩, ⟨nd23, ad24, cp25, es26⟩] : List RunV)) :: vc 150 (.slice ad24 es26.length cp25) (es26) :: vc 150 (.slice ad19 es21.length cp20) (es21) :: vc 150 (.slice ad14 es16.length cp15) (es16) :: vc 150 (.slice ad9 es11.length cp10) (es11) :: blk b8 [I64 (nd3), .slice ad4 es6.length cp5] 99 :: vc 150 (.slice ad4 es6.length cp5) (es6) :: blk dk2 [.slice la ln lc, I64 (i27)] 129 :: blk b1 [I64 (n0), .slice ga gx.length gc] 99 :: I)
   refine W.sr ?_
   refine G.r (Runs.lss rfl rfl) ?_
   refine G.nt ?_
   refine W.seq ?_
   refine W.ite rfl (fun c62 => ?_) (fun c62 => ?_)
   ·refine W.skip ?_
    refine V.then ?_
    refine W.seq ?_
    refine W.block ?_
    refine W.sr ?_
    refine G.r (Runs.idx (α := Int) (xs := ([nd3, h, x30 - 3] : List Int)) Try.underlying22 ty3 rfl rfl Sl.o (by omega) (by omega)) ?_
    refine G.r (Runs.get (xs := ([nd3, h, x30 - 3] : List Int)) ty3 rfl Sl.o (by omega) (by omega)) ?_
    refine G.r (Runs.assign rfl) ?_
    refine G.nt ?_
    refine W.sr ?_
    refine G.r (Runs.move rfl) ?_
    refine G.r (Runs.move rfl) ?_
    refine G.e (Eff.call call75 rfl rfl (OfG_ok (nd := at_ ([nd3, h, x30 - 3] : List Int) ((k : Nat) : Int)) Sl.o (by omega))) ?_
    rintro _ _ ⟨_, _, (⟨hnead32, rfl, rfl⟩ | ⟨ad32, cp33, hzad32, rfl, rfl⟩), rfl, rfl⟩
    ·show G Try.prog κ _ _ _ _ ([(68, .tuple #[.agg #[I64 (0), .slice none 0 0], I64 (ofE (at_ ([nd3, h, x30 - 3] : List Int) ((k : Nat) : Int)) es11)]), (67, .slice ad9 es11.length cp10), (66, I64 (at_ ([nd3, h, x30 - 3] : List Int) ((k : Nat) : Int))), (13, I64 (at_ ([nd3, h, x30 - 3] : List Int) ((k : Nat) : Int))), (64, I64 (at_ ([nd3, h, x30 - 3] : List Int) ((k : Nat) : Int))), (63, elemPtr (.slice ad31 3 3) ((((k : Nat) : Int)).toNat * Enc.sz Int)), (62, .bool (decide (((k : Nat) : Int) < ((3 : Nat) : Int)))), (9, .slice ad9 es11.length cp10), (59, .slice ad31 3 3), (60, I64 (((3 : Nat) : Int))), (61, I64 (((k : Nat) : Int)))] : Env) (vc 3 (.slice ad31 3 3) (([nd3, h, x30 - 3] : List Int)) :: vc 99 (.slice ad28 4 4) (([⟨n0, ga, gc, gx⟩, ⟨nd3, ad4, cp5, es6⟩, ⟨nd13, ad14, cp15, es16⟩, ⟨nd23, ad24, cp25, es26⟩] : List RunV)) :: vc 150 (.slice ad24 es26.length cp25) (es26) :: vc 150 (.slice ad19 es21.length cp20) (es21) :: vc 150 (.slice ad14 es16.length cp15) (es16) :: vc 150 (.slice ad9 es11.length cp10) (es11) :: blk b8 [I64 (nd3), .slice ad4 es6.length cp5] 99 :: vc 150 (.slice ad4 es6.length cp5) (es6) :: blk dk2 [.slice la ln lc, I64 (i27)] 129 :: blk b1 [I64 (n0), .slice ga gx.length gc] 99 :: I)
     refine G.r (Runs.move rfl) ?_
     refine G.r (Runs.extract rfl rfl) ?_
     refine G.r (Runs.extract rfl rfl) ?_
     refine G.e (Eff.alloc ty99 rfl) ?_
     rintro _ _ ⟨b34, rfl, rfl⟩
     refine G.e (Eff.st (cs := [_, _]) (vs := [_, _]) (cs' := [_, _]) ty99) ?_
     rintro _ _ ⟨rfl, rfl⟩
     refine G.r (Runs.assign rfl) ?_
     refine G.nt ?_
     refine W.sub (L' := [(15, _), (14, _), (13, _), (9, _), (59, _), (60, _), (61, _)]) (Sub.cons rfl (Sub.cons rfl (Sub.cons rfl (Sub.cons rfl (Sub.cons rfl (Sub.cons rfl (Sub.cons rfl Sub.nil))))))) ?_
     refine W.sr ?_
     refine G.r (Runs.move rfl) ?_
     refine G.r (Runs.move rfl) ?_
     refine G.e (Eff.call call76 rfl rfl (Of03_ok (nd := at_ ([nd3, h, x30 - 3] : List Int) ((k : Nat) : Int)) Sl.o (by omega))) ?_
     rintro _ _ ⟨_, _, (⟨hnead35, rfl, rfl⟩ | ⟨ad35, cp36, hzad35, rfl, rfl⟩), rfl, rfl⟩
     ·show G Try.prog κ _ _ _ _ ([(74, .tuple #[.agg #[I64 (0), .slice none 0 0], I64 (ofE (at_ ([nd3, h, x30 - 3] : List Int) ((k : Nat) : Int)) es11)]), (73, .slice ad9 es11.length cp10), (72, I64 (at_ ([nd3, h, x30 - 3] : List Int) ((k : Nat) : Int))), (15, I64 (ofE (at_ ([nd3, h, x30 - 3] : List Int) ((k : Nat) : Int)) es11)), (14, .pointer (some ⟨b34, 0, none⟩)), (13, I64 (at_ ([nd3, h, x30 - 3] : List Int) ((k : Nat) : Int))), (9, .slice ad9 es11.length cp10), (59, .slice ad31 3 3), (60, I64 (((3 : Nat) : Int))), (61, I64 (((k : Nat) : Int)))] : Env) (blk b34 [I64 (0), .slice none 0 0] 99 :: vc 3 (.slice ad31 3 3) (([nd3, h, x30 - 3] : List Int)) :: vc 99 (.slice ad28 4 4) (([⟨n0, ga, gc, gx⟩, ⟨nd3, ad4, cp5, es6⟩, ⟨nd13, ad14, cp15, es16⟩, ⟨nd23, ad24, cp25, es26⟩] : List RunV)) :: vc 150 (.slice ad24 es26.length cp25) (es26) :: vc 150 (.slice ad19 es21.length cp20) (es21) :: vc 150 (.slice ad14 es16.length cp15) (es16) :: vc 150 (.slice ad9 es11.length cp10) (es11) :: blk b8 [I64 (nd3), .slice ad4 es6.length cp5] 99 :: vc 150 (.slice ad4 es6.length cp5) (es6) :: blk dk2 [.slice la ln lc, I64 (i27)] 129 :: blk b1 [I64 (n0), .slice ga gx.length gc] 99 :: I)
      refine G.r (Runs.move rfl) ?_
      refine G.r (Runs.extract rfl rfl) ?_
      refine G.r (Runs.extract rfl rfl) ?_
      refine G.e (Eff.alloc ty99 rfl) ?_
      rintro _ _ ⟨b37, rfl, rfl⟩
      refine G.e (Eff.st (cs := [_, _]) (vs := [_, _]) (cs' := [_, _]) ty99) ?_
      rintro _ _ ⟨rfl, rfl⟩
      refine G.r (Runs.assign rfl) ?_
      refine G.nt ?_
      refine W.sub (L' := [(17, _), (16, _), (15, _), (14, _), (9, _), (59, _), (60, _), (61, _)]) (Sub.cons rfl (Sub.cons rfl (Sub.cons rfl (Sub.cons rfl (Sub.cons rfl (Sub.cons rfl (Sub.cons rfl (Sub.cons rfl Sub.nil)))))))) ?_
      refine W.sr ?_
      refine G.r (Runs.move rfl) ?_
      refine G.r (Runs.move rfl) ?_
      refine G.r (Runs.neq rfl rfl) ?_
      refine G.r (Runs.move rfl) ?_
      refine G.split (d := 80) rfl (fun g80 => ?_) (fun g80 => ?_)
      ·exact absurd rfl g80
      ·refine G.ro (Runs.lds (vs := [_, _]) ty99) ?_
       refine G.ro (Runs.lds (vs := [_, _]) ty99) ?_
       refine G.eff (Wanted.on rfl rfl rfl) (Eff.call call77 rfl rfl (Same03_ok (Sl.nil _) (Sl.nil _))) ?_
       rintro _ _ ⟨_, _, ⟨rfl, rfl⟩, rfl, rfl⟩
       refine G.ro (Runs.notd rfl) ?_
       refine G.r (Runs.pickf rfl rfl) ?_
       refine G.nt ?_
       refine W.sub (L' := [(85, _), (9, _), (59, _), (60, _), (61, _)]) (Sub.cons rfl (Sub.cons rfl (Sub.cons rfl (Sub.cons rfl (Sub.cons rfl Sub.nil))))) ?_
       refine W.ite rfl (fun c85 => ?_) (fun c85 => ?_)
       ·exact (c85 ⟨rfl, rfl⟩).elim
       ·refine W.skip ?_
        refine V.block_normal ?_
        refine V.then ?_
        refine W.region ?_
        refine G.r (Runs.add rfl rfl (by unfold InR; omega)) ?_
        refine G.r (Runs.move rfl) ?_
        refine G.nil ?_
        exact V.next ((k + 1)) (show ((k + 1 : Nat) ≤ ([nd3, h, x30 - 3] : List Int).length) from (by omega)) (show ([nd3, h, x30 - 3] : List Int).length - (k + 1 : Nat) < ([nd3, h, x30 - 3] : List Int).length - k from (by omega)) (Sub.cons rfl (Sub.cons rfl (Sub.cons rfl (Sub.cons lookO Sub.nil)))) (show Fit κ _ (vc 3 (.slice ad31 3 3) (([nd3, h, x30 - 3] : List Int)) :: vc 99 (.slice ad28 4 4) (([⟨n0, ga, gc, gx⟩, ⟨nd3, ad4, cp5, es6⟩, ⟨nd13, ad14, cp15, es16⟩, ⟨nd23, ad24, cp25, es26⟩] : List RunV)) :: vc 150 (.slice ad24 es26.length cp25) (es26) :: vc 150 (.slice ad19 es21.length cp20) (es21) :: vc 150 (.slice ad14 es16.length cp15) (es16) :: vc 150 (.slice ad9 es11.length cp10) (es11) :: blk b8 [I64 (nd3), .slice ad4 es6.length cp5] 99 :: vc 150 (.slice ad4 es6.length cp5) (es6) :: blk dk2 [.slice la ln lc, I64 (i27)] 129 :: blk b1 [I64 (n0), .slice ga gx.length gc] 99 :: I) from Fit.sub)
     ·exact absurd hzad35 hnead32
    ·show G Try.prog κ _ _ _ _ ([(68, .tuple #[.agg #[I64 (at_ ([nd3, h, x30 - 3] : List Int) ((k : Nat) : Int)), .slice ad32 (sortB Pt.lt (edgesL es11)).length cp33], I64 (0)]), (67, .slice ad9 es11.length cp10), (66, I64 (at_ ([nd3, h, x30 - 3] : List Int) ((k : Nat) : Int))), (13, I64 (at_ ([nd3, h, x30 - 3] : List Int) ((k : Nat) : Int))), (64, I64 (at_ ([nd3, h, x30 - 3] : List Int) ((k : Nat) : Int))), (63, elemPtr (.slice ad31 3 3) ((((k : Nat) : Int)).toNat * Enc.sz Int)), (62, .bool (decide (((k : Nat) : Int) < ((3 : Nat) : Int)))), (9, .slice ad9 es11.length cp10), (59, .slice ad31 3 3), (60, I64 (((3 : Nat) : Int))), (61, I64 (((k : Nat) : Int)))] : Env) (vc 150 (.slice ad32 (sortB Pt.lt (edgesL es11)).length cp33) (sortB Pt.lt (edgesL es11)) :: vc 3 (.slice ad31 3 3) (([nd3, h, x30 - 3] : List Int)) :: vc 99 (.slice ad28 4 4) (([⟨n0, ga, gc, gx⟩, ⟨nd3, ad4, cp5, es6⟩, ⟨nd13, ad14, cp15, es16⟩, ⟨nd23, ad24, cp25, es26⟩] : List RunV)) :: vc 150 (.slice ad24 es26.length cp25) (es26) :: vc 150 (.slice ad19 es21.length cp20) (es21) :: vc 150 (.slice ad14 es16.length cp15) (es16) :: vc 150 (.slice ad9 es11.length cp10) (es11) :: blk b8 [I64 (nd3), .slice ad4 es6.length cp5] 99 :: vc 150 (.slice ad4 es6.length cp5) (es6) :: blk dk2 [.slice la ln lc, I64 (i27)] 129 :: blk b1 [I64 (n0), .slice ga gx.length gc] 99 :: I)
     refine G.r (Runs.move rfl) ?_
     refine G.r (Runs.extract rfl rfl) ?_
     refine G.r (Runs.extract rfl rfl) ?_
     refine G.e (Eff.alloc ty99 rfl) ?_
     rintro _ _ ⟨b38, rfl, rfl⟩
     refine G.e (Eff.st (cs := [_, _]) (vs := [_, _]) (cs' := [_, _]) ty99) ?_
     rintro _ _ ⟨rfl, rfl⟩
     refine G.r (Runs.assign rfl) ?_
     refine G.nt ?_
     refine W.sub (L' := [(15, _), (14, _), (13, _), (9, _), (59, _), (60, _), (61, _)]) (Sub.cons rfl (Sub.cons rfl (Sub.cons rfl (Sub.cons rfl (Sub.cons rfl (Sub.cons rfl (Sub.cons rfl Sub.nil))))))) ?_
     refine W.sr ?_
     refine G.r (Runs.move rfl) ?_
     refine G.r (Runs.move rfl) ?_
     refine G.e (Eff.call call76 rfl rfl (Of03_ok (nd := at_ ([nd3, h, x30 - 3] : List Int) ((k : Nat) : Int)) Sl.o (by omega))) ?_
     rintro _ _ ⟨_, _, (⟨hnead39, rfl, rfl⟩ | ⟨ad39, cp40, hzad39, rfl, rfl⟩), rfl, rfl⟩
     ·exact absurd hzad32 hnead39
     ·show G Try.prog κ _ _ _ _ ([(74, .tuple #[.agg #[I64 (at_ ([nd3, h, x30 - 3] : List Int) ((k : Nat) : Int)), .slice ad39 (sortB Pt.lt (edgesL es11)).length cp40], I64 (0)]), (73, .slice ad9 es11.length cp10), (72, I64 (at_ ([nd3, h, x30 - 3] : List Int) ((k : Nat) : Int))), (15, I64 (0)), (14, .pointer (some ⟨b38, 0, none⟩)), (13, I64 (at_ ([nd3, h, x30 - 3] : List Int) ((k : Nat) : Int))), (9, .slice ad9 es11.length cp10), (59, .slice ad31 3 3), (60, I64 (((3 : Nat) : Int))), (61, I64 (((k : Nat) : Int)))] : Env) (vc 150 (.slice ad39 (sortB Pt.lt (edgesL es11)).length cp40) (sortB Pt.lt (edgesL es11)) :: blk b38 [I64 (at_ ([nd3, h, x30 - 3] : List Int) ((k : Nat) : Int)), .slice ad32 (sortB Pt.lt (edgesL es11)).length cp33] 99 :: vc 150 (.slice ad32 (sortB Pt.lt (edgesL es11)).length cp33) (sortB Pt.lt (edgesL es11)) :: vc 3 (.slice ad31 3 3) (([nd3, h, x30 - 3] : List Int)) :: vc 99 (.slice ad28 4 4) (([⟨n0, ga, gc, gx⟩, ⟨nd3, ad4, cp5, es6⟩, ⟨nd13, ad14, cp15, es16⟩, ⟨nd23, ad24, cp25, es26⟩] : List RunV)) :: vc 150 (.slice ad24 es26.length cp25) (es26) :: vc 150 (.slice ad19 es21.length cp20) (es21) :: vc 150 (.slice ad14 es16.length cp15) (es16) :: vc 150 (.slice ad9 es11.length cp10) (es11) :: blk b8 [I64 (nd3), .slice ad4 es6.length cp5] 99 :: vc 150 (.slice ad4 es6.length cp5) (es6) :: blk dk2 [.slice la ln lc, I64 (i27)] 129 :: blk b1 [I64 (n0), .slice ga gx.length gc] 99 :: I)
      refine G.r (Runs.move rfl) ?_
      refine G.r (Runs.extract rfl rfl) ?_
      refine G.r (Runs.extract rfl rfl) ?_
      refine G.e (Eff.alloc ty99 rfl) ?_
      rintro _ _ ⟨b41, rfl, rfl⟩
      refine G.e (Eff.st (cs := [_, _]) (vs := [_, _]) (cs' := [_, _]) ty99) ?_
      rintro _ _ ⟨rfl, rfl⟩
      refine G.r (Runs.assign rfl) ?_
      refine G.nt ?_
      refine W.sub (L' := [(17, _), (16, _), (15, _), (14, _), (9, _), (59, _), (60, _), (61, _)]) (Sub.cons rfl (Sub.cons rfl (Sub.cons rfl (Sub.cons rfl (Sub.cons rfl (Sub.cons rfl (Sub.cons rfl (Sub.cons rfl Sub.nil)))))))) ?_
      refine W.sr ?_
      refine G.r (Runs.move rfl) ?_
      refine G.r (Runs.move rfl) ?_
      refine G.r (Runs.neq rfl rfl) ?_
      refine G.r (Runs.move rfl) ?_
      refine G.split (d := 80) rfl (fun g80 => ?_) (fun g80 => ?_)
      ·exact absurd rfl g80
      ·refine G.ro (Runs.lds (vs := [_, _]) ty99) ?_
       refine G.ro (Runs.lds (vs := [_, _]) ty99) ?_
       refine G.eff (Wanted.on rfl rfl rfl) (Eff.call call77 rfl rfl (Same03_ok Sl.o Sl.o)) ?_
       rintro _ _ ⟨_, _, ⟨rfl, rfl⟩, rfl, rfl⟩
       refine G.ro (Runs.notd rfl) ?_
       refine G.r (Runs.pickf rfl rfl) ?_
       refine G.nt ?_
       refine W.sub (L' := [(85, _), (9, _), (59, _), (60, _), (61, _)]) (Sub.cons rfl (Sub.cons rfl (Sub.cons rfl (Sub.cons rfl (Sub.cons rfl Sub.nil))))) ?_
       refine W.ite rfl (fun c85 => ?_) (fun c85 => ?_)
       ·exact (c85 ⟨rfl, rfl⟩).elim
       ·refine W.skip ?_
        refine V.block_normal ?_
        refine V.then ?_
        refine W.region ?_
        refine G.r (Runs.add rfl rfl (by unfold InR; omega)) ?_
        refine G.r (Runs.move rfl) ?_
        refine G.nil ?_
        exact V.next ((k + 1)) (show ((k + 1 : Nat) ≤ ([nd3, h, x30 - 3] : List Int).length) from (by omega)) (show ([nd3, h, x30 - 3] : List Int).length - (k + 1 : Nat) < ([nd3, h, x30 - 3] : List Int).length - k from (by omega)) (Sub.cons rfl (Sub.cons rfl (Sub.cons rfl (Sub.cons lookO Sub.nil)))) (show Fit κ _ (vc 3 (.slice ad31 3 3) (([nd3, h, x30 - 3] : List Int)) :: vc 99 (.slice ad28 4 4) (([⟨n0, ga, gc, gx⟩, ⟨nd3, ad4, cp5, es6⟩, ⟨nd13, ad14, cp15, es16⟩, ⟨nd23, ad24, cp25, es26⟩] : List RunV)) :: vc 150 (.slice ad24 es26.length cp25) (es26) :: vc 150 (.slice ad19 es21.length cp20) (es21) :: vc 150 (.slice ad14 es16.length cp15) (es16) :: vc 150 (.slice ad9 es11.length cp10) (es11) :: blk b8 [I64 (nd3), .slice ad4 es6.length cp5] 99 :: vc 150 (.slice ad4 es6.length cp5) (es6) :: blk dk2 [.slice la ln lc, I64 (i27)] 129 :: blk b1 [I64 (n0), .slice ga gx.length gc] 99 :: I) from Fit.sub)
   ·refine W.exit ?_
    refine V.then_exit ?_
    refine V.then_exit ?_
    refine V.block_hit ?_
    refine V.then ?_
    refine W.sr ?_
    refine G.e (Eff.call call68 rfl rfl Awake03_ok) ?_
    rintro _ _ ⟨_, _, ⟨rfl, rfl⟩, rfl, rfl⟩
    refine G.r (Runs.assign rfl) ?_
    refine G.nt ?_
    refine W.ret ?_
    exact V.ret1 rfl rfl (I) Fit.m ⟨rfl, rfl⟩

end Go.Sl
