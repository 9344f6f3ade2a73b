/- A part of the proofs of statements of this seat: contracts of functions, and the plain laws that they lean on. No conditions. -/
import Derived.Test.YtbimaodbcjjbfaaGreatDoorLookB
import Derived.Test.YtbimaodbcjjbfaaGreatDoorGraphM5
import Derived.Test.YtbimaodbcjjbfaaGreatDoorGraphH5
import Derived.Test.YtbimaodbcjjbfaaGreatDoorRunsX
namespace Go.Sl
open Go.Proofs
set_option linter.unusedVariables false
set_option linter.unusedSimpArgs false
set_option maxRecDepth 4000
set_option maxHeartbeats 4000000 in
theorem GraphLooks_walk {κ : Ctx} {I : List Item} {ra : Option Addr} {rc : Nat} {rx : List Int} (hrx : Sl κ I (.slice ra rx.length rc) rx) {la : Option Addr} {ln lc : Nat} {ls : List Int} (hl : Sl κ I (.slice la ln lc) ls) (u v : Int) (hT : TabRd κ I 0 tzCells) :
    CallS Tryz.prog κ 3 [.slice ra rx.length rc, .slice la ln lc, I64 (u), I64 (v)] I (fun r J => r = .bool true ∧ I = J) := by
 refine CallS.pull hrx.le fun hmax => ?_
 refine CallS.enter (L := [(0, .slice ra rx.length rc), (1, .slice la ln lc), (2, I64 (u)), (3, I64 (v))]) Tryz.func3 rfl rfl rfl rfl ?_
 refine W.sr ?_
 refine G.r (Runs.assign rfl) ?_
 refine G.nt ?_
 refine W.seq ?_
 refine W.sr ?_
 refine G.r (Runs.move rfl) ?_
 refine G.r (Runs.lens Tryz.underlying22 rfl) ?_
 refine G.r (Runs.gtr rfl rfl) ?_
 refine G.nt ?_
 refine W.ite rfl (fun c25 => ?_) (fun c25 => ?_)
 ·refine W.sr ?_
  refine G.e (Eff.call call7 rfl rfl Awake03_ok) ?_
  rintro _ _ ⟨_, _, ⟨rfl, rfl⟩, rfl, rfl⟩
  refine G.r (Runs.assign rfl) ?_
  refine G.nt ?_
  refine W.ret ?_
  refine V.then_ret ?_
  exact V.ret1 rfl rfl (I) Fit.m ⟨rfl, rfl⟩
 ·refine W.skip ?_
  refine V.then ?_
  refine W.sr ?_
  refine G.r (Runs.move rfl) ?_
  refine G.e (Eff.call call8 rfl rfl New_ok) ?_
  rintro _ _ ⟨_, _, ⟨dk1, rfl, rfl⟩, rfl, rfl⟩
  show G Tryz.prog κ _ _ _ _ ([(28, .pointer (some ⟨dk1, 0, none⟩)), (27, .slice la ln lc), (25, .bool (decide (40 < ((rx.length : Nat) : Int)))), (24, I64 (((rx.length : Nat) : Int))), (23, .slice ra rx.length rc), (8, .bool false), (0, .slice ra rx.length rc), (1, .slice la ln lc), (2, I64 (u)), (3, I64 (v))] : Env) (blk dk1 [.slice la ln lc, I64 (0)] 79 :: I)
  have hi0 : (0 : Int) ≤ 0 := Int.le_refl _
  refine G.r (Runs.assign rfl) ?_
  refine G.nt ?_
  refine W.sr ?_
  refine G.r (Runs.move rfl) ?_
  refine G.e (Eff.call call9 rfl rfl (MkGraph_at (by repeat (first | exact AtF.head _ _ | apply AtF.tail)) (fun _ => Sl.fit hl Fit.m) (by omega)  (by omega))) ?_
  rintro _ _ ⟨_, _, ⟨⟨nd2, ad3, cp4, es5, i6⟩, ⟨⟨rfl, hges5⟩, hi6⟩, rfl⟩, rfl, rfl⟩
  show G Tryz.prog κ _ _ _ _ ([(30, .agg #[I64 (nd2), .slice ad3 es5.length cp4]), (29, .pointer (some ⟨dk1, 0, none⟩)), (9, .pointer (some ⟨dk1, 0, none⟩)), (28, .pointer (some ⟨dk1, 0, none⟩)), (27, .slice la ln lc), (25, .bool (decide (40 < ((rx.length : Nat) : Int)))), (24, I64 (((rx.length : Nat) : Int))), (23, .slice ra rx.length rc), (8, .bool false), (0, .slice ra rx.length rc), (1, .slice la ln lc), (2, I64 (u)), (3, I64 (v))] : Env) (vc 52 (.slice ad3 es5.length cp4) (es5) :: blk dk1 [.slice la ln lc, I64 (i6)] 79 :: I)
  have hi6 : 0 ≤ i6 := hi6
  dsimp only at hges5
  refine G.e (Eff.alloc ty28 rfl) ?_
  rintro _ _ ⟨b7, rfl, rfl⟩
  refine G.e (Eff.st (cs := [_, _]) (vs := [_, _]) (cs' := [_, _]) ty28) ?_
  rintro _ _ ⟨rfl, rfl⟩
  have hel0 := hges5.2.2
  have hnd0 := hges5.1
  refine G.nt ?_
  refine W.sub (L' := [(10, _), (9, _), (0, _), (2, _), (3, _)]) (Sub.cons rfl (Sub.cons rfl (Sub.cons rfl (Sub.cons rfl (Sub.cons rfl Sub.nil))))) ?_
  refine W.cut (σ := Int × (Option Addr) × Nat × (List Pt) × Int) (fun s => ([(0, .slice ra rx.length rc), (2, I64 (u)), (3, I64 (v)), (9, .pointer (some ⟨dk1, 0, none⟩)), (10, .pointer (some ⟨b7, 0, none⟩))] : Env)) (fun s => vc 52 (.slice s.2.1 s.2.2.2.1.length s.2.2.1) (s.2.2.2.1) :: blk b7 [I64 (s.1), .slice s.2.1 s.2.2.2.1.length s.2.2.1] 28 :: blk dk1 [.slice la ln lc, I64 (s.2.2.2.2)] 79 :: I) (fun s => (s.2.2.2.1.length ≤ 1000) ∧ (0 ≤ s.2.2.2.2)) ?_ ?_
  ·refine W.sr ?_
   refine G.r (Runs.move rfl) ?_
   refine G.e (Eff.call call10 rfl rfl (Next_ok (by repeat (first | exact AtF.head _ _ | apply AtF.tail)) (Sl.f hl) (by omega) (by omega))) ?_
   rintro _ _ ⟨_, _, ⟨x8, i9, rfl, hx8, hi9, rfl⟩, rfl, rfl⟩
   show G Tryz.prog κ _ _ _ _ ([(32, I64 (x8)), (31, .pointer (some ⟨dk1, 0, none⟩)), (10, .pointer (some ⟨b7, 0, none⟩)), (9, .pointer (some ⟨dk1, 0, none⟩)), (0, .slice ra rx.length rc), (2, I64 (u)), (3, I64 (v))] : Env) (blk b7 [I64 (nd2), .slice ad3 es5.length cp4] 28 :: vc 52 (.slice ad3 es5.length cp4) (es5) :: blk dk1 [.slice la ln lc, I64 (i9)] 79 :: I)
   refine G.r (Runs.eql rfl rfl) ?_
   refine G.nt ?_
   refine W.ite rfl (fun c33 => ?_) (fun c33 => ?_)
   ·refine W.region ?_
    refine G.r (Runs.move rfl) ?_
    refine G.r (Runs.lds (vs := [_, _]) ty28) ?_
    refine G.e (Eff.call call11 rfl rfl (Spoilt_at (by repeat (first | exact AtF.head _ _ | apply AtF.tail)) (fun _ => Sl.fit hl Fit.m) (by omega) (fun _ => Sl.vec (by repeat (first | exact List.mem_cons_self | apply List.mem_cons_of_mem))) (hges5.2.1.bde (B := 10) (by omega)) (by omega) (by omega))) ?_
    rintro _ _ ⟨_, _, ⟨⟨nd10, ad11, cp12, es13, i14⟩, ⟨⟨rfl, hses13⟩, hi14⟩, rfl⟩, rfl, rfl⟩
    show G Tryz.prog κ _ _ _ _ ([(36, .agg #[I64 (nd10), .slice ad11 es13.length cp12]), (35, .agg #[I64 (nd2), .slice ad3 es5.length cp4]), (34, .pointer (some ⟨dk1, 0, none⟩)), (33, .bool (decide (x8 = 0))), (32, I64 (x8)), (31, .pointer (some ⟨dk1, 0, none⟩)), (10, .pointer (some ⟨b7, 0, none⟩)), (9, .pointer (some ⟨dk1, 0, none⟩)), (0, .slice ra rx.length rc), (2, I64 (u)), (3, I64 (v))] : Env) (vc 52 (.slice ad11 es13.length cp12) (es13) :: blk b7 [I64 (nd2), .slice ad3 es5.length cp4] 28 :: vc 52 (.slice ad3 es5.length cp4) (es5) :: blk dk1 [.slice la ln lc, I64 (i14)] 79 :: I)
    have hi14 : 0 ≤ i14 := hi14
    dsimp only at hses13
    have hsles13 := hses13.1
    refine G.e (Eff.st (cs := [_, _]) (vs := [_, _]) (cs' := [_, _]) ty28) ?_
    rintro _ _ ⟨rfl, rfl⟩
    have hsl := hses13.1
    refine G.nil ?_
    exact V.mid ((nd10), (ad11), (cp12), (es13), (i14)) (show ((es13 : List Pt).length ≤ 1000) ∧ (0 ≤ (i14 : Int)) from ⟨(by omega), (by omega)⟩) (Sub.cons rfl (Sub.cons rfl (Sub.cons rfl (Sub.cons rfl (Sub.cons rfl Sub.nil))))) (show Fit κ _ (vc 52 (.slice (ad11) (es13).length (cp12)) ((es13)) :: blk b7 [I64 ((nd10)), .slice (ad11) (es13).length (cp12)] 28 :: blk dk1 [.slice la ln lc, I64 ((i14))] 79 :: I) from (by first | exact Fit.s | exact Fit.sub))
   ·refine W.skip ?_
    exact V.mid ((nd2), (ad3), (cp4), (es5), (i9)) (show ((es5 : List Pt).length ≤ 1000) ∧ (0 ≤ (i9 : Int)) from ⟨(by omega), (by omega)⟩) (Sub.cons rfl (Sub.cons rfl (Sub.cons rfl (Sub.cons rfl (Sub.cons rfl Sub.nil))))) (show Fit κ _ (vc 52 (.slice (ad3) (es5).length (cp4)) ((es5)) :: blk b7 [I64 ((nd2)), .slice (ad3) (es5).length (cp4)] 28 :: blk dk1 [.slice la ln lc, I64 ((i9))] 79 :: I) from (by first | exact Fit.s | exact Fit.sub))
  ·rintro ⟨nd, sa, sc, es, iqz⟩ hp
   obtain ⟨hel, hiqz⟩ : (es.length ≤ 1000) ∧ (0 ≤ iqz) := hp
   show W Tryz.prog κ 173 _ _ ([(0, .slice ra rx.length rc), (2, I64 (u)), (3, I64 (v)), (9, .pointer (some ⟨dk1, 0, none⟩)), (10, .pointer (some ⟨b7, 0, none⟩))] : Env) (vc 52 (.slice sa es.length sc) (es) :: blk b7 [I64 (nd), .slice sa es.length sc] 28 :: blk dk1 [.slice la ln lc, I64 (iqz)] 79 :: I)
   refine W.seq ?_
   refine W.sr ?_
   refine G.r (Runs.move rfl) ?_
   refine G.r (Runs.move rfl) ?_
   refine G.r (Runs.buildArr (cells := [_, _]) ty32 Tryz.underlying32 ty3 rfl rfl) ?_
   refine G.r (Runs.move rfl) ?_
   refine G.e (Eff.call call10 rfl rfl (Next_ok (by repeat (first | exact AtF.head _ _ | apply AtF.tail)) (Sl.f hl) (by omega) (by omega))) ?_
   rintro _ _ ⟨_, _, ⟨x15, i16, rfl, hx15, hi16, rfl⟩, rfl, rfl⟩
   show G Tryz.prog κ _ _ _ _ ([(41, I64 (x15)), (40, .pointer (some ⟨dk1, 0, none⟩)), (39, .agg #[I64 (u), I64 (v)]), (38, I64 (v)), (37, I64 (u)), (0, .slice ra rx.length rc), (2, I64 (u)), (3, I64 (v)), (9, .pointer (some ⟨dk1, 0, none⟩)), (10, .pointer (some ⟨b7, 0, none⟩))] : Env) (vc 52 (.slice sa es.length sc) (es) :: blk b7 [I64 (nd), .slice sa es.length sc] 28 :: blk dk1 [.slice la ln lc, I64 (i16)] 79 :: I)
   refine G.r (Runs.move rfl) ?_
   refine G.e (Eff.call call10 rfl rfl (Next_ok (by repeat (first | exact AtF.head _ _ | apply AtF.tail)) (Sl.f hl) (by omega) (by omega))) ?_
   rintro _ _ ⟨_, _, ⟨x17, i18, rfl, hx17, hi18, rfl⟩, rfl, rfl⟩
   show G Tryz.prog κ _ _ _ _ ([(43, I64 (x17)), (42, .pointer (some ⟨dk1, 0, none⟩)), (41, I64 (x15)), (40, .pointer (some ⟨dk1, 0, none⟩)), (39, .agg #[I64 (u), I64 (v)]), (38, I64 (v)), (37, I64 (u)), (0, .slice ra rx.length rc), (2, I64 (u)), (3, I64 (v)), (9, .pointer (some ⟨dk1, 0, none⟩)), (10, .pointer (some ⟨b7, 0, none⟩))] : Env) (vc 52 (.slice sa es.length sc) (es) :: blk b7 [I64 (nd), .slice sa es.length sc] 28 :: blk dk1 [.slice la ln lc, I64 (i18)] 79 :: I)
   refine G.r (Runs.buildArr (cells := [_, _]) ty32 Tryz.underlying32 ty3 rfl rfl) ?_
   refine G.r (Runs.move rfl) ?_
   refine G.e (Eff.call call10 rfl rfl (Next_ok (by repeat (first | exact AtF.head _ _ | apply AtF.tail)) (Sl.f hl) (by omega) (by omega))) ?_
   rintro _ _ ⟨_, _, ⟨x19, i20, rfl, hx19, hi20, rfl⟩, rfl, rfl⟩
   show G Tryz.prog κ _ _ _ _ ([(46, I64 (x19)), (45, .pointer (some ⟨dk1, 0, none⟩)), (44, .agg #[I64 (x15), I64 (x17)]), (43, I64 (x17)), (42, .pointer (some ⟨dk1, 0, none⟩)), (41, I64 (x15)), (40, .pointer (some ⟨dk1, 0, none⟩)), (39, .agg #[I64 (u), I64 (v)]), (38, I64 (v)), (37, I64 (u)), (0, .slice ra rx.length rc), (2, I64 (u)), (3, I64 (v)), (9, .pointer (some ⟨dk1, 0, none⟩)), (10, .pointer (some ⟨b7, 0, none⟩))] : Env) (vc 52 (.slice sa es.length sc) (es) :: blk b7 [I64 (nd), .slice sa es.length sc] 28 :: blk dk1 [.slice la ln lc, I64 (i20)] 79 :: I)
   refine G.r (Runs.sub rfl rfl (by unfold InR; omega)) ?_
   refine G.r (Runs.move rfl) ?_
   refine G.e (Eff.call call10 rfl rfl (Next_ok (by repeat (first | exact AtF.head _ _ | apply AtF.tail)) (Sl.f hl) (by omega) (by omega))) ?_
   rintro _ _ ⟨_, _, ⟨x21, i22, rfl, hx21, hi22, rfl⟩, rfl, rfl⟩
   show G Tryz.prog κ _ _ _ _ ([(49, I64 (x21)), (48, .pointer (some ⟨dk1, 0, none⟩)), (47, I64 (x19 - 1)), (46, I64 (x19)), (45, .pointer (some ⟨dk1, 0, none⟩)), (44, .agg #[I64 (x15), I64 (x17)]), (43, I64 (x17)), (42, .pointer (some ⟨dk1, 0, none⟩)), (41, I64 (x15)), (40, .pointer (some ⟨dk1, 0, none⟩)), (39, .agg #[I64 (u), I64 (v)]), (38, I64 (v)), (37, I64 (u)), (0, .slice ra rx.length rc), (2, I64 (u)), (3, I64 (v)), (9, .pointer (some ⟨dk1, 0, none⟩)), (10, .pointer (some ⟨b7, 0, none⟩))] : Env) (vc 52 (.slice sa es.length sc) (es) :: blk b7 [I64 (nd), .slice sa es.length sc] 28 :: blk dk1 [.slice la ln lc, I64 (i22)] 79 :: I)
   refine G.r (Runs.buildArr (cells := [_, _]) ty32 Tryz.underlying32 ty3 rfl rfl) ?_
   refine G.e (Eff.bs (α := Pt) (cs := [I64 (u), I64 (v), I64 (x15), I64 (x17), I64 (x19 - 1), I64 (x21)]) (xs := [⟨u, v⟩, ⟨x15, x17⟩, ⟨x19 - 1, x21⟩]) Tryz.underlying33 ty32 rfl rfl (by decide) (by decide) rfl (by kernel_rfl) rfl rfl) ?_
   rintro _ _ ⟨ad23, rfl, rfl⟩
   have hp3 : ([⟨u, v⟩, ⟨x15, x17⟩, ⟨x19 - 1, x21⟩] : List Pt).length = 3 := rfl
   refine G.r (Runs.lens Tryz.underlying33 rfl) ?_
   refine G.r (Runs.move rfl) ?_
   refine G.nt ?_
   refine W.sub (L' := [(53, _), (52, _), (51, _), (0, _), (9, _), (10, _)]) (Sub.cons rfl (Sub.cons rfl (Sub.cons rfl (Sub.cons rfl (Sub.cons rfl (Sub.cons rfl Sub.nil)))))) ?_
   refine W.block ?_
   refine W.loop (σ := Nat) (fun s => ([(0, .slice ra rx.length rc), (9, .pointer (some ⟨dk1, 0, none⟩)), (10, .pointer (some ⟨b7, 0, none⟩)), (51, .slice ad23 3 3), (52, I64 (((3 : Nat) : Int))), (53, I64 (((s : Nat) : Int)))] : Env)) (fun s => vc 32 (.slice ad23 3 3) (([⟨u, v⟩, ⟨x15, x17⟩, ⟨x19 - 1, x21⟩] : List Pt)) :: vc 52 (.slice sa es.length sc) (es) :: blk b7 [I64 (nd), .slice sa es.length sc] 28 :: blk dk1 [.slice la ln lc, I64 (i22)] 79 :: I) (fun s => (s ≤ ([⟨u, v⟩, ⟨x15, x17⟩, ⟨x19 - 1, x21⟩] : List Pt).length)) (fun s => ([⟨u, v⟩, ⟨x15, x17⟩, ⟨x19 - 1, x21⟩] : List Pt).length - s) (0) (show ((0 : Nat) ≤ ([⟨u, v⟩, ⟨x15, x17⟩, ⟨x19 - 1, x21⟩] : List Pt).length) from (by omega)) (Sub.cons rfl (Sub.cons rfl (Sub.cons rfl (Sub.cons rfl (Sub.cons rfl (Sub.cons lookO Sub.nil)))))) (show Fit κ _ (vc 32 (.slice ad23 3 3) (([⟨u, v⟩, ⟨x15, x17⟩, ⟨x19 - 1, x21⟩] : List Pt)) :: vc 52 (.slice sa es.length sc) (es) :: blk b7 [I64 (nd), .slice sa es.length sc] 28 :: blk dk1 [.slice la ln lc, I64 (i22)] 79 :: I) from Fit.sub) ?_
   rintro k hp
   have hk : (k ≤ ([⟨u, v⟩, ⟨x15, x17⟩, ⟨x19 - 1, x21⟩] : List Pt).length) := hp
   show W Tryz.prog κ 173 _ _ ([(0, .slice ra rx.length rc), (9, .pointer (some ⟨dk1, 0, none⟩)), (10, .pointer (some ⟨b7, 0, none⟩)), (51, .slice ad23 3 3), (52, I64 (((3 : Nat) : Int))), (53, I64 (((k : Nat) : Int)))] : Env) (vc 32 (.slice ad23 3 3) (([⟨u, v⟩, ⟨x15, x17⟩, ⟨x19 - 1, x21⟩] : List Pt)) :: vc 52 (.slice sa es.length sc) (es) :: blk b7 [I64 (nd), .slice sa es.length sc] 28 :: blk dk1 [.slice la ln lc, I64 (i22)] 79 :: I)
   refine W.sr ?_
   refine G.r (Runs.lss rfl rfl) ?_
   refine G.nt ?_
   refine W.seq ?_
   refine W.ite rfl (fun c54 => ?_) (fun c54 => ?_)
   ·refine W.skip ?_
    refine V.then ?_
    refine W.seq ?_
    refine W.block ?_
    refine W.sr ?_
    refine G.r (Runs.idx (α := Pt) (xs := ([⟨u, v⟩, ⟨x15, x17⟩, ⟨x19 - 1, x21⟩] : List Pt)) Tryz.underlying33 ty32 rfl rfl Sl.o (by omega) (by omega)) ?_
    refine G.r (Runs.gets (α := Pt) (xs := ([⟨u, v⟩, ⟨x15, x17⟩, ⟨x19 - 1, x21⟩] : List Pt)) ty32 rfl Sl.o (by omega) (by omega)) ?_
    refine G.e (Eff.alloc ty32 rfl) ?_
    rintro _ _ ⟨b24, rfl, rfl⟩
    refine G.e (Eff.st (cs := [_, _]) (vs := [_, _]) (cs' := [_, _]) ty32) ?_
    rintro _ _ ⟨rfl, rfl⟩
    refine G.nt ?_
    refine W.seq ?_
    refine W.drawn mixed ?_
    refine A.hold (blk b24 [I64 ((at_ ([⟨u, v⟩, ⟨x15, x17⟩, ⟨x19 - 1, x21⟩] : List Pt) ((k : Nat) : Int)).u), I64 ((at_ ([⟨u, v⟩, ⟨x15, x17⟩, ⟨x19 - 1, x21⟩] : List Pt) ((k : Nat) : Int)).v)] 32 :: vc 32 (.slice ad23 3 3) (([⟨u, v⟩, ⟨x15, x17⟩, ⟨x19 - 1, x21⟩] : List Pt)) :: vc 52 (.slice sa es.length sc) (es) :: blk b7 [I64 (nd), .slice sa es.length sc] 28 :: blk dk1 [.slice la ln lc, I64 (i22)] 79 :: I) 52 ?_
    refine D.r 0 rfl (Runs.lds (vs := [_, _]) ty28) ?_ (hJ := Fit.sub)
    refine D.r 1 rfl (Runs.idxArr Tryz.underlying32 ty2 rfl rfl (by omega) (by omega)) ?_ (hJ := Fit.sub)
    refine D.r 2 rfl (Runs.ld ty3) ?_ (hJ := Fit.sub)
    refine D.r 3 rfl (Runs.idxArr Tryz.underlying32 ty2 rfl rfl (by omega) (by omega)) ?_ (hJ := Fit.sub)
    refine D.r 4 rfl (Runs.ld ty3) ?_ (hJ := Fit.sub)
    refine D.r 6 rfl (Runs.lds (vs := [_, _]) ty28) ?_ (hJ := Fit.sub)
    refine D.r 7 rfl (Runs.idxArr Tryz.underlying32 ty2 rfl rfl (by omega) (by omega)) ?_ (hJ := Fit.sub)
    refine D.r 8 rfl (Runs.ld ty3) ?_ (hJ := Fit.sub)
    refine D.r 9 rfl (Runs.idxArr Tryz.underlying32 ty2 rfl rfl (by omega) (by omega)) ?_ (hJ := Fit.sub)
    refine D.r 10 rfl (Runs.ld ty3) ?_ (hJ := Fit.sub)
    refine D.step (rs := [5]) (by kernel_rfl) rfl rfl (all1 ?_)
    refine Step.eff rfl (Wanted.plain rfl) (Eff.call call12 rfl rfl (FindG_ok (nd := nd) Sl.o ((at_ ([⟨u, v⟩, ⟨x15, x17⟩, ⟨x19 - 1, x21⟩] : List Pt) ((k : Nat) : Int)).u) ((at_ ([⟨u, v⟩, ⟨x15, x17⟩, ⟨x19 - 1, x21⟩] : List Pt) ((k : Nat) : Int)).v) (by omega))) ?_
    rintro _ _ ⟨_, _, ⟨y25, rfl, hy25, rfl⟩, rfl, rfl⟩
    refine ⟨Fit.sub, ?_⟩
    refine D.step (rs := [11]) (by kernel_rfl) rfl rfl (all1 ?_)
    refine Step.eff rfl (Wanted.plain rfl) (Eff.call call13 rfl rfl (FindP03_ok (nd := nd) Sl.o ((at_ ([⟨u, v⟩, ⟨x15, x17⟩, ⟨x19 - 1, x21⟩] : List Pt) ((k : Nat) : Int)).u) ((at_ ([⟨u, v⟩, ⟨x15, x17⟩, ⟨x19 - 1, x21⟩] : List Pt) ((k : Nat) : Int)).v) )) ?_
    rintro _ _ ⟨_, _, ⟨y26, rfl, hy26, rfl⟩, rfl, rfl⟩
    refine ⟨Fit.sub, ?_⟩
    refine D.r 12 rfl (Runs.neq rfl rfl) ?_ (hJ := Fit.sub)
    refine D.r 13 rfl (Runs.move rfl) ?_ (hJ := Fit.sub)
    refine D.split (d := 70) rfl (fun g70 => ?_) (fun g70 => ?_)
    ·exact absurd (hy25.uniq hy26) g70
    ·refine D.read 14 rfl (by kernel_rfl) (by kernel_rfl) (by kernel_rfl) rfl (by kernel_rfl) (fun _ _ _ _ h => h) (Wanted.on rfl rfl rfl) rfl rfl Fit.sub (Runs.lds (vs := [_, _]) ty28) ?_
     refine D.read 15 rfl (by kernel_rfl) (by kernel_rfl) (by kernel_rfl) rfl (by kernel_rfl) (fun _ _ _ _ h => h) (Wanted.on rfl rfl rfl) rfl rfl Fit.sub (Runs.idxArr Tryz.underlying32 ty2 rfl rfl (by omega) (by omega)) ?_
     refine D.read 16 rfl (by kernel_rfl) (by kernel_rfl) (by kernel_rfl) rfl (by kernel_rfl) (fun _ _ _ _ h => h) (Wanted.on rfl rfl rfl) rfl rfl Fit.sub (Runs.ld ty3) ?_
     refine D.read 18 rfl (by kernel_rfl) (by kernel_rfl) (by kernel_rfl) rfl (by kernel_rfl) (fun _ _ _ _ h => h) (Wanted.on rfl rfl rfl) rfl rfl Fit.sub (Runs.lds (vs := [_, _]) ty28) ?_
     refine D.read 19 rfl (by kernel_rfl) (by kernel_rfl) (by kernel_rfl) rfl (by kernel_rfl) (fun _ _ _ _ h => h) (Wanted.on rfl rfl rfl) rfl rfl Fit.sub (Runs.idxArr Tryz.underlying32 ty2 rfl rfl (by omega) (by omega)) ?_
     refine D.read 20 rfl (by kernel_rfl) (by kernel_rfl) (by kernel_rfl) rfl (by kernel_rfl) (fun _ _ _ _ h => h) (Wanted.on rfl rfl rfl) rfl rfl Fit.sub (Runs.ld ty3) ?_
     refine D.step (rs := [17]) (by kernel_rfl) rfl rfl (all1 ?_)
     refine Step.eff rfl (Wanted.on rfl rfl rfl) (Eff.call call15 rfl rfl (NeighG_ok (nd := nd) Sl.o ((at_ ([⟨u, v⟩, ⟨x15, x17⟩, ⟨x19 - 1, x21⟩] : List Pt) ((k : Nat) : Int)).u) (TabRd.fit hT Fit.m))) ?_
     rintro _ _ ⟨_, _, ⟨ad27, cp28, rfl, rfl⟩, rfl, rfl⟩
     refine ⟨Fit.sub, ?_⟩
     refine D.step (rs := [21]) (by kernel_rfl) rfl rfl (all1 ?_)
     refine Step.eff rfl (Wanted.on rfl rfl rfl) (Eff.call call16 rfl rfl (Neigh03_ok (nd := nd) Sl.o ((at_ ([⟨u, v⟩, ⟨x15, x17⟩, ⟨x19 - 1, x21⟩] : List Pt) ((k : Nat) : Int)).u) (by omega))) ?_
     rintro _ _ ⟨_, _, ⟨ad29, cp30, rfl, rfl⟩, rfl, rfl⟩
     refine ⟨Fit.sub, ?_⟩
     have hnl78 := nbG_len nd es ((at_ ([⟨u, v⟩, ⟨x15, x17⟩, ⟨x19 - 1, x21⟩] : List Pt) ((k : Nat) : Int)).u)
     refine D.step (rs := [22]) (by kernel_rfl) rfl rfl (all1 ?_)
     refine Step.eff rfl (Wanted.on rfl rfl rfl) (Eff.call call14 rfl rfl (Same_ok Sl.o Sl.o)) ?_
     rintro _ _ ⟨_, _, ⟨rfl, rfl⟩, rfl, rfl⟩
     refine ⟨Fit.sub, ?_⟩
     refine D.read 23 rfl (by kernel_rfl) (by kernel_rfl) (by kernel_rfl) rfl (by kernel_rfl) (fun _ _ _ _ h => h) (Wanted.on rfl rfl rfl) rfl rfl Fit.sub (Runs.notd rfl) ?_
     refine D.r 24 rfl (Runs.pickf rfl rfl) ?_ (hJ := Fit.sub)
     refine D.r 25 rfl (Runs.move rfl) ?_ (hJ := Fit.sub)
     refine D.split (d := 82) rfl (fun g82 => ?_) (fun g82 => ?_)
     ·exact absurd rfl g82
     ·refine D.read 26 rfl (by kernel_rfl) (by kernel_rfl) (by kernel_rfl) rfl (by kernel_rfl) (fun _ _ _ _ h => h) (Wanted.on rfl rfl rfl) rfl rfl Fit.sub (Runs.lds (vs := [_, _]) ty28) ?_
      refine D.read 27 rfl (by kernel_rfl) (by kernel_rfl) (by kernel_rfl) rfl (by kernel_rfl) (fun _ _ _ _ h => h) (Wanted.on rfl rfl rfl) rfl rfl Fit.sub (Runs.idxArr Tryz.underlying32 ty2 rfl rfl (by omega) (by omega)) ?_
      refine D.read 28 rfl (by kernel_rfl) (by kernel_rfl) (by kernel_rfl) rfl (by kernel_rfl) (fun _ _ _ _ h => h) (Wanted.on rfl rfl rfl) rfl rfl Fit.sub (Runs.ld ty3) ?_
      refine D.read 30 rfl (by kernel_rfl) (by kernel_rfl) (by kernel_rfl) rfl (by kernel_rfl) (fun _ _ _ _ h => h) (Wanted.on rfl rfl rfl) rfl rfl Fit.sub (Runs.lds (vs := [_, _]) ty28) ?_
      refine D.read 31 rfl (by kernel_rfl) (by kernel_rfl) (by kernel_rfl) rfl (by kernel_rfl) (fun _ _ _ _ h => h) (Wanted.on rfl rfl rfl) rfl rfl Fit.sub (Runs.idxArr Tryz.underlying32 ty2 rfl rfl (by omega) (by omega)) ?_
      refine D.read 32 rfl (by kernel_rfl) (by kernel_rfl) (by kernel_rfl) rfl (by kernel_rfl) (fun _ _ _ _ h => h) (Wanted.on rfl rfl rfl) rfl rfl Fit.sub (Runs.ld ty3) ?_
      refine D.step (rs := [29]) (by kernel_rfl) rfl rfl (all1 ?_)
      refine Step.eff rfl (Wanted.on rfl rfl rfl) (Eff.call call17 rfl rfl (DegreeG_ok (nd := nd) Sl.o ((at_ ([⟨u, v⟩, ⟨x15, x17⟩, ⟨x19 - 1, x21⟩] : List Pt) ((k : Nat) : Int)).v))) ?_
      rintro _ _ ⟨_, _, ⟨rfl, rfl⟩, rfl, rfl⟩
      refine ⟨Fit.sub, ?_⟩
      refine D.step (rs := [33]) (by kernel_rfl) rfl rfl (all1 ?_)
      refine Step.eff rfl (Wanted.on rfl rfl rfl) (Eff.call call18 rfl rfl (Degree03_ok (nd := nd) Sl.o ((at_ ([⟨u, v⟩, ⟨x15, x17⟩, ⟨x19 - 1, x21⟩] : List Pt) ((k : Nat) : Int)).v) (by omega))) ?_
      rintro _ _ ⟨_, _, ⟨rfl, rfl⟩, rfl, rfl⟩
      refine ⟨Fit.sub, ?_⟩
      refine D.read 34 rfl (by kernel_rfl) (by kernel_rfl) (by kernel_rfl) rfl (by kernel_rfl) (fun _ _ _ _ h => h) (Wanted.on rfl rfl rfl) rfl rfl Fit.sub (Runs.neq rfl rfl) ?_
      refine D.r 35 rfl (Runs.pickf rfl rfl) ?_ (hJ := Fit.sub)
      refine D.r 36 rfl (Runs.move rfl) ?_ (hJ := Fit.sub)
      refine D.split (d := 93) rfl (fun g93 => ?_) (fun g93 => ?_)
      ·exact absurd rfl g93
      ·refine D.read 37 rfl (by kernel_rfl) (by kernel_rfl) (by kernel_rfl) rfl (by kernel_rfl) (fun _ _ _ _ h => h) (Wanted.on rfl rfl rfl) rfl rfl Fit.sub (Runs.lds (vs := [_, _]) ty28) ?_
       refine D.read 38 rfl (by kernel_rfl) (by kernel_rfl) (by kernel_rfl) rfl (by kernel_rfl) (fun _ _ _ _ h => h) (Wanted.on rfl rfl rfl) rfl rfl Fit.sub (Runs.idxArr Tryz.underlying32 ty2 rfl rfl (by omega) (by omega)) ?_
       refine D.read 39 rfl (by kernel_rfl) (by kernel_rfl) (by kernel_rfl) rfl (by kernel_rfl) (fun _ _ _ _ h => h) (Wanted.on rfl rfl rfl) rfl rfl Fit.sub (Runs.ld ty3) ?_
       refine D.read 40 rfl (by kernel_rfl) (by kernel_rfl) (by kernel_rfl) rfl (by kernel_rfl) (fun _ _ _ _ h => h) (Wanted.on rfl rfl rfl) rfl rfl Fit.sub (Runs.idxArr Tryz.underlying32 ty2 rfl rfl (by omega) (by omega)) ?_
       refine D.read 41 rfl (by kernel_rfl) (by kernel_rfl) (by kernel_rfl) rfl (by kernel_rfl) (fun _ _ _ _ h => h) (Wanted.on rfl rfl rfl) rfl rfl Fit.sub (Runs.ld ty3) ?_
       refine D.read 43 rfl (by kernel_rfl) (by kernel_rfl) (by kernel_rfl) rfl (by kernel_rfl) (fun _ _ _ _ h => h) (Wanted.on rfl rfl rfl) rfl rfl Fit.sub (Runs.lds (vs := [_, _]) ty28) ?_
       refine D.read 44 rfl (by kernel_rfl) (by kernel_rfl) (by kernel_rfl) rfl (by kernel_rfl) (fun _ _ _ _ h => h) (Wanted.on rfl rfl rfl) rfl rfl Fit.sub (Runs.idxArr Tryz.underlying32 ty2 rfl rfl (by omega) (by omega)) ?_
       refine D.read 45 rfl (by kernel_rfl) (by kernel_rfl) (by kernel_rfl) rfl (by kernel_rfl) (fun _ _ _ _ h => h) (Wanted.on rfl rfl rfl) rfl rfl Fit.sub (Runs.ld ty3) ?_
       refine D.read 46 rfl (by kernel_rfl) (by kernel_rfl) (by kernel_rfl) rfl (by kernel_rfl) (fun _ _ _ _ h => h) (Wanted.on rfl rfl rfl) rfl rfl Fit.sub (Runs.idxArr Tryz.underlying32 ty2 rfl rfl (by omega) (by omega)) ?_
       refine D.read 47 rfl (by kernel_rfl) (by kernel_rfl) (by kernel_rfl) rfl (by kernel_rfl) (fun _ _ _ _ h => h) (Wanted.on rfl rfl rfl) rfl rfl Fit.sub (Runs.ld ty3) ?_
       refine D.step (rs := [42]) (by kernel_rfl) rfl rfl (all1 ?_)
       refine Step.eff rfl (Wanted.on rfl rfl rfl) (Eff.call call19 rfl rfl (CommonG_ok (nd := nd) Sl.o ((at_ ([⟨u, v⟩, ⟨x15, x17⟩, ⟨x19 - 1, x21⟩] : List Pt) ((k : Nat) : Int)).u) ((at_ ([⟨u, v⟩, ⟨x15, x17⟩, ⟨x19 - 1, x21⟩] : List Pt) ((k : Nat) : Int)).v) (TabRd.fit hT Fit.m))) ?_
       rintro _ _ ⟨_, _, ⟨ad31, cp32, rfl, rfl⟩, rfl, rfl⟩
       refine ⟨Fit.sub, ?_⟩
       refine D.step (rs := [48]) (by kernel_rfl) rfl rfl (all1 ?_)
       refine Step.eff rfl (Wanted.on rfl rfl rfl) (Eff.call call20 rfl rfl (Common03_ok (nd := nd) Sl.o ((at_ ([⟨u, v⟩, ⟨x15, x17⟩, ⟨x19 - 1, x21⟩] : List Pt) ((k : Nat) : Int)).u) ((at_ ([⟨u, v⟩, ⟨x15, x17⟩, ⟨x19 - 1, x21⟩] : List Pt) ((k : Nat) : Int)).v) (by omega))) ?_
       rintro _ _ ⟨_, _, ⟨ad33, cp34, rfl, rfl⟩, rfl, rfl⟩
       refine ⟨Fit.sub, ?_⟩
       refine D.step (rs := [49]) (by kernel_rfl) rfl rfl (all1 ?_)
       refine Step.eff rfl (Wanted.on rfl rfl rfl) (Eff.call call14 rfl rfl (Same_ok Sl.o Sl.o)) ?_
       rintro _ _ ⟨_, _, ⟨rfl, rfl⟩, rfl, rfl⟩
       refine ⟨Fit.sub, ?_⟩
       refine D.read 50 rfl (by kernel_rfl) (by kernel_rfl) (by kernel_rfl) rfl (by kernel_rfl) (fun _ _ _ _ h => h) (Wanted.on rfl rfl rfl) rfl rfl Fit.sub (Runs.notd rfl) ?_
       refine D.r 51 rfl (Runs.pickf rfl rfl) ?_ (hJ := Fit.sub)
       refine D.done (by kernel_rfl) ?_
       refine V.then ?_
       refine W.sub (L' := [(108, _), (0, _), (9, _), (10, _), (51, _), (52, _), (53, _)]) (Sub.cons rfl (Sub.cons rfl (Sub.cons rfl (Sub.cons rfl (Sub.cons rfl (Sub.cons rfl (Sub.cons rfl Sub.nil))))))) ?_
       refine W.ite rfl (fun c108 => ?_) (fun c108 => ?_)
       ·exact absurd rfl c108
       ·refine W.skip ?_
        refine V.block_normal ?_
        refine V.then ?_
        refine W.region ?_
        refine G.r (Runs.add rfl rfl (by unfold InR; omega)) ?_
        refine G.r (Runs.move rfl) ?_
        refine G.nil ?_
        exact V.next ((k + 1)) (show ((k + 1 : Nat) ≤ ([⟨u, v⟩, ⟨x15, x17⟩, ⟨x19 - 1, x21⟩] : List Pt).length) from (by omega)) (show ([⟨u, v⟩, ⟨x15, x17⟩, ⟨x19 - 1, x21⟩] : List Pt).length - (k + 1 : Nat) < ([⟨u, v⟩, ⟨x15, x17⟩, ⟨x19 - 1, x21⟩] : List Pt).length - k from (by omega)) (Sub.cons rfl (Sub.cons rfl (Sub.cons rfl (Sub.cons rfl (Sub.cons rfl (Sub.cons lookO Sub.nil)))))) (show Fit κ _ (vc 32 (.slice ad23 3 3) (([⟨u, v⟩, ⟨x15, x17⟩, ⟨x19 - 1, x21⟩] : List Pt)) :: vc 52 (.slice sa es.length sc) (es) :: blk b7 [I64 (nd), .slice sa es.length sc] 28 :: blk dk1 [.slice la ln lc, I64 (i22)] 79 :: I) from Fit.sub)
   ·refine W.exit ?_
    refine V.then_exit ?_
    refine V.then_exit ?_
    refine V.block_hit ?_
    refine V.then ?_
    refine W.seq ?_
    refine W.sr ?_
    refine G.r (Runs.move rfl) ?_
    refine G.r (Runs.move rfl) ?_
    refine G.e (Eff.call call21 rfl rfl (Set_at (by repeat (first | exact AtF.head _ _ | apply AtF.tail)) (fun _ => Sl.fit hl Fit.m) (by omega) (by omega))) ?_
    rintro _ _ ⟨_, _, ⟨ad36, cp37, o38, i35, rfl, ho38, hlo38, hi35, rfl⟩, rfl, rfl⟩
    show G Tryz.prog κ _ _ _ _ ([(112, .slice ad36 o38.length cp37), (111, .pointer (some ⟨dk1, 0, none⟩)), (110, .slice ra rx.length rc), (54, .bool (decide (((k : Nat) : Int) < ((3 : Nat) : Int)))), (0, .slice ra rx.length rc), (9, .pointer (some ⟨dk1, 0, none⟩)), (10, .pointer (some ⟨b7, 0, none⟩)), (51, .slice ad23 3 3), (52, I64 (((3 : Nat) : Int))), (53, I64 (((k : Nat) : Int)))] : Env) (vc 3 (.slice ad36 o38.length cp37) (o38) :: vc 32 (.slice ad23 3 3) (([⟨u, v⟩, ⟨x15, x17⟩, ⟨x19 - 1, x21⟩] : List Pt)) :: vc 52 (.slice sa es.length sc) (es) :: blk b7 [I64 (nd), .slice sa es.length sc] 28 :: blk dk1 [.slice la ln lc, I64 (i35)] 79 :: I)
    refine G.e (Eff.bs (α := (RowG Int)) (cs := [_, _]) (xs := [⟨ra, rc, rx⟩, ⟨ad36, cp37, o38⟩]) Tryz.underlying40 ty22 rfl rfl (by decide) (by decide) rfl rfl rfl rfl) ?_
    rintro _ _ ⟨ad39, rfl, rfl⟩
    have hh4 : HeldAll κ (vc 3 (.slice ad36 o38.length cp37) (o38) :: I) ([⟨ra, rc, rx⟩, ⟨ad36, cp37, o38⟩] : List (RowG Int)) := (HeldAll.cons (show RowG.Held κ _ (⟨ra, rc, rx⟩ : RowG Int) from Sl.fit hrx Fit.m) (HeldAll.cons (show RowG.Held κ _ (⟨ad36, cp37, o38⟩ : RowG Int) from (Sl.vec (by repeat (first | exact List.mem_cons_self | apply List.mem_cons_of_mem)) : Sl κ _ (.slice ad36 o38.length cp37) (o38))) HeldAll.nil))
    have hl4 : ([⟨ra, rc, rx⟩, ⟨ad36, cp37, o38⟩] : List (RowG Int)).length = 2 := rfl
    have hxb : ∀ r ∈ ([⟨ra, rc, rx⟩, ⟨ad36, cp37, o38⟩] : List (RowG Int)), r.xs.length ≤ 1000000 := by intro r hr; simp only [List.mem_cons, List.not_mem_nil, or_false] at hr; rcases hr with rfl | rfl <;> dsimp only <;> omega
    refine G.r (Runs.lens Tryz.underlying40 rfl) ?_
    refine G.r (Runs.move rfl) ?_
    refine G.nt ?_
    refine W.block ?_
    refine W.loop (σ := Nat) (fun s => ([(10, .pointer (some ⟨b7, 0, none⟩)), (113, .slice ad39 2 2), (114, I64 (((2 : Nat) : Int))), (115, I64 (((s : Nat) : Int)))] : Env)) (fun s => vc 22 (.slice ad39 2 2) (([⟨ra, rc, rx⟩, ⟨ad36, cp37, o38⟩] : List (RowG Int))) :: vc 3 (.slice ad36 o38.length cp37) (o38) :: vc 32 (.slice ad23 3 3) (([⟨u, v⟩, ⟨x15, x17⟩, ⟨x19 - 1, x21⟩] : List Pt)) :: vc 52 (.slice sa es.length sc) (es) :: blk b7 [I64 (nd), .slice sa es.length sc] 28 :: blk dk1 [.slice la ln lc, I64 (i35)] 79 :: I) (fun s => (s ≤ ([⟨ra, rc, rx⟩, ⟨ad36, cp37, o38⟩] : List (RowG Int)).length)) (fun s => ([⟨ra, rc, rx⟩, ⟨ad36, cp37, o38⟩] : List (RowG Int)).length - s) (0) (show ((0 : Nat) ≤ ([⟨ra, rc, rx⟩, ⟨ad36, cp37, o38⟩] : List (RowG Int)).length) from (by omega)) (Sub.cons rfl (Sub.cons rfl (Sub.cons rfl (Sub.cons lookO Sub.nil)))) (show Fit κ _ (vc 22 (.slice ad39 2 2) (([⟨ra, rc, rx⟩, ⟨ad36, cp37, o38⟩] : List (RowG Int))) :: vc 3 (.slice ad36 o38.length cp37) (o38) :: vc 32 (.slice ad23 3 3) (([⟨u, v⟩, ⟨x15, x17⟩, ⟨x19 - 1, x21⟩] : List Pt)) :: vc 52 (.slice sa es.length sc) (es) :: blk b7 [I64 (nd), .slice sa es.length sc] 28 :: blk dk1 [.slice la ln lc, I64 (i35)] 79 :: I) from Fit.sub) ?_
    rintro k hp
    have hk : (k ≤ ([⟨ra, rc, rx⟩, ⟨ad36, cp37, o38⟩] : List (RowG Int)).length) := hp
    show W Tryz.prog κ 173 _ _ ([(10, .pointer (some ⟨b7, 0, none⟩)), (113, .slice ad39 2 2), (114, I64 (((2 : Nat) : Int))), (115, I64 (((k : Nat) : Int)))] : Env) (vc 22 (.slice ad39 2 2) (([⟨ra, rc, rx⟩, ⟨ad36, cp37, o38⟩] : List (RowG Int))) :: vc 3 (.slice ad36 o38.length cp37) (o38) :: vc 32 (.slice ad23 3 3) (([⟨u, v⟩, ⟨x15, x17⟩, ⟨x19 - 1, x21⟩] : List Pt)) :: vc 52 (.slice sa es.length sc) (es) :: blk b7 [I64 (nd), .slice sa es.length sc] 28 :: blk dk1 [.slice la ln lc, I64 (i35)] 79 :: I)
    refine W.sr ?_
    refine G.r (Runs.lss rfl rfl) ?_
    refine G.nt ?_
    refine W.seq ?_
    refine W.ite rfl (fun c116 => ?_) (fun c116 => ?_)
    ·refine W.skip ?_
     refine V.then ?_
     refine W.seq ?_
     refine W.block ?_
     refine W.sr ?_
     refine G.r (Runs.idx (α := (RowG Int)) (xs := ([⟨ra, rc, rx⟩, ⟨ad36, cp37, o38⟩] : List (RowG Int))) Tryz.underlying40 ty22 rfl rfl Sl.o (by omega) (by omega)) ?_
     refine G.r (Runs.getf0 (α := (RowG Int)) (xs := ([⟨ra, rc, rx⟩, ⟨ad36, cp37, o38⟩] : List (RowG Int))) (u := .slice (at_ ([⟨ra, rc, rx⟩, ⟨ad36, cp37, o38⟩] : List (RowG Int)) ((k : Nat) : Int)).a (at_ ([⟨ra, rc, rx⟩, ⟨ad36, cp37, o38⟩] : List (RowG Int)) ((k : Nat) : Int)).xs.length (at_ ([⟨ra, rc, rx⟩, ⟨ad36, cp37, o38⟩] : List (RowG Int)) ((k : Nat) : Int)).c) ty22 rfl Sl.o (by omega) (by omega) rfl) ?_
     refine G.r (Runs.assign rfl) ?_
     refine G.nt ?_
     refine W.sr ?_
     refine G.r (Runs.lds (vs := [_, _]) ty28) ?_
     refine G.r (Runs.move rfl) ?_
     refine G.e (Eff.call call22 rfl rfl (InducedG_ok (nd := nd) Sl.o (Sl.fit (HeldAll.at hh4 (i := ((k : Nat) : Int)) (by omega) (by omega)) Fit.sub) (by omega))) ?_
     rintro _ _ ⟨_, _, ⟨ad40, cp41, rfl, rfl⟩, rfl, rfl⟩
     refine G.r (Runs.move rfl) ?_
     refine G.r (Runs.extract rfl rfl) ?_
     refine G.r (Runs.extract rfl rfl) ?_
     refine G.e (Eff.alloc ty28 rfl) ?_
     rintro _ _ ⟨b42, rfl, rfl⟩
     refine G.e (Eff.st (cs := [_, _]) (vs := [_, _]) (cs' := [_, _]) ty28) ?_
     rintro _ _ ⟨rfl, rfl⟩
     refine G.r (Runs.assign rfl) ?_
     refine G.nt ?_
     refine W.sub (L' := [(16, _), (15, _), (14, _), (10, _), (113, _), (114, _), (115, _)]) (Sub.cons rfl (Sub.cons rfl (Sub.cons rfl (Sub.cons rfl (Sub.cons rfl (Sub.cons rfl (Sub.cons rfl Sub.nil))))))) ?_
     refine W.sr ?_
     refine G.r (Runs.lds (vs := [_, _]) ty28) ?_
     refine G.r (Runs.move rfl) ?_
     refine G.e (Eff.call call23 rfl rfl (Induced03_ok (nd := nd) Sl.o (Sl.fit (HeldAll.at hh4 (i := ((k : Nat) : Int)) (by omega) (by omega)) Fit.sub) (by omega))) ?_
     rintro _ _ ⟨_, _, ⟨ad43, cp44, rfl, rfl⟩, rfl, rfl⟩
     refine G.r (Runs.move rfl) ?_
     refine G.r (Runs.extract rfl rfl) ?_
     refine G.r (Runs.extract rfl rfl) ?_
     refine G.e (Eff.alloc ty28 rfl) ?_
     rintro _ _ ⟨b45, rfl, rfl⟩
     refine G.e (Eff.st (cs := [_, _]) (vs := [_, _]) (cs' := [_, _]) ty28) ?_
     rintro _ _ ⟨rfl, rfl⟩
     refine G.r (Runs.assign rfl) ?_
     refine G.nt ?_
     refine W.sub (L' := [(18, _), (17, _), (16, _), (15, _), (14, _), (10, _), (113, _), (114, _), (115, _)]) (Sub.cons rfl (Sub.cons rfl (Sub.cons rfl (Sub.cons rfl (Sub.cons rfl (Sub.cons rfl (Sub.cons rfl (Sub.cons rfl (Sub.cons rfl Sub.nil))))))))) ?_
     refine W.sr ?_
     refine G.r (Runs.lds (vs := [_, _]) ty28) ?_
     refine G.r (Runs.move rfl) ?_
     refine G.e (Eff.call call24 rfl rfl (DensityG_ok (nd := nd) Sl.o (Sl.fit (HeldAll.at hh4 (i := ((k : Nat) : Int)) (by omega) (by omega)) Fit.sub) (by omega))) ?_
     rintro _ _ ⟨_, _, ⟨rfl, rfl⟩, rfl, rfl⟩
     refine G.r (Runs.move rfl) ?_
     refine G.r (Runs.extract rfl rfl) ?_
     refine G.r (Runs.extract rfl rfl) ?_
     refine G.e (Eff.alloc ty45 rfl) ?_
     rintro _ _ ⟨b46, rfl, rfl⟩
     refine G.e (Eff.st (cs := [_, _]) (vs := [_, _]) (cs' := [_, _]) ty45) ?_
     rintro _ _ ⟨rfl, rfl⟩
     refine G.r (Runs.assign rfl) ?_
     refine G.nt ?_
     refine W.sub (L' := [(20, _), (19, _), (18, _), (17, _), (16, _), (15, _), (14, _), (10, _), (113, _), (114, _), (115, _)]) (Sub.cons rfl (Sub.cons rfl (Sub.cons rfl (Sub.cons rfl (Sub.cons rfl (Sub.cons rfl (Sub.cons rfl (Sub.cons rfl (Sub.cons rfl (Sub.cons rfl (Sub.cons rfl Sub.nil))))))))))) ?_
     refine W.sr ?_
     refine G.r (Runs.lds (vs := [_, _]) ty28) ?_
     refine G.r (Runs.move rfl) ?_
     refine G.e (Eff.call call25 rfl rfl (Density03_ok (nd := nd) Sl.o (Sl.fit (HeldAll.at hh4 (i := ((k : Nat) : Int)) (by omega) (by omega)) Fit.sub) (by omega) (hxb _ (at_mem (by omega) (by omega))))) ?_
     rintro _ _ ⟨_, _, ⟨rfl, rfl⟩, rfl, rfl⟩
     refine G.r (Runs.move rfl) ?_
     refine G.r (Runs.extract rfl rfl) ?_
     refine G.r (Runs.extract rfl rfl) ?_
     refine G.e (Eff.alloc ty45 rfl) ?_
     rintro _ _ ⟨b47, rfl, rfl⟩
     refine G.e (Eff.st (cs := [_, _]) (vs := [_, _]) (cs' := [_, _]) ty45) ?_
     rintro _ _ ⟨rfl, rfl⟩
     refine G.r (Runs.assign rfl) ?_
     refine G.nt ?_
     refine W.sub (L' := [(22, _), (21, _), (20, _), (19, _), (18, _), (17, _), (16, _), (15, _), (14, _), (10, _), (113, _), (114, _), (115, _)]) (Sub.cons rfl (Sub.cons rfl (Sub.cons rfl (Sub.cons rfl (Sub.cons rfl (Sub.cons rfl (Sub.cons rfl (Sub.cons rfl (Sub.cons rfl (Sub.cons rfl (Sub.cons rfl (Sub.cons rfl (Sub.cons rfl Sub.nil))))))))))))) ?_
     refine W.seq ?_
     refine W.drawn mixed ?_
     refine A.hold (blk b47 [I64 ((densG nd es ((at_ ([⟨ra, rc, rx⟩, ⟨ad36, cp37, o38⟩] : List (RowG Int)) ((k : Nat) : Int)).xs)).num), I64 ((densG nd es ((at_ ([⟨ra, rc, rx⟩, ⟨ad36, cp37, o38⟩] : List (RowG Int)) ((k : Nat) : Int)).xs)).den)] 45 :: blk b46 [I64 ((densG nd es ((at_ ([⟨ra, rc, rx⟩, ⟨ad36, cp37, o38⟩] : List (RowG Int)) ((k : Nat) : Int)).xs)).num), I64 ((densG nd es ((at_ ([⟨ra, rc, rx⟩, ⟨ad36, cp37, o38⟩] : List (RowG Int)) ((k : Nat) : Int)).xs)).den)] 45 :: blk b45 [I64 (indN nd es), .slice ad43 (indG nd es ((at_ ([⟨ra, rc, rx⟩, ⟨ad36, cp37, o38⟩] : List (RowG Int)) ((k : Nat) : Int)).xs)).length cp44] 28 :: vc 52 (.slice ad43 (indG nd es ((at_ ([⟨ra, rc, rx⟩, ⟨ad36, cp37, o38⟩] : List (RowG Int)) ((k : Nat) : Int)).xs)).length cp44) (indG nd es ((at_ ([⟨ra, rc, rx⟩, ⟨ad36, cp37, o38⟩] : List (RowG Int)) ((k : Nat) : Int)).xs)) :: blk b42 [I64 (indN nd es), .slice ad40 (indG nd es ((at_ ([⟨ra, rc, rx⟩, ⟨ad36, cp37, o38⟩] : List (RowG Int)) ((k : Nat) : Int)).xs)).length cp41] 28 :: vc 52 (.slice ad40 (indG nd es ((at_ ([⟨ra, rc, rx⟩, ⟨ad36, cp37, o38⟩] : List (RowG Int)) ((k : Nat) : Int)).xs)).length cp41) (indG nd es ((at_ ([⟨ra, rc, rx⟩, ⟨ad36, cp37, o38⟩] : List (RowG Int)) ((k : Nat) : Int)).xs)) :: vc 22 (.slice ad39 2 2) (([⟨ra, rc, rx⟩, ⟨ad36, cp37, o38⟩] : List (RowG Int))) :: vc 3 (.slice ad36 o38.length cp37) (o38) :: vc 32 (.slice ad23 3 3) (([⟨u, v⟩, ⟨x15, x17⟩, ⟨x19 - 1, x21⟩] : List Pt)) :: vc 52 (.slice sa es.length sc) (es) :: blk b7 [I64 (nd), .slice sa es.length sc] 28 :: blk dk1 [.slice la ln lc, I64 (i35)] 79 :: I) 28 ?_
     refine D.r 0 rfl (Runs.move rfl) ?_ (hJ := Fit.sub)
     refine D.r 1 rfl (Runs.move rfl) ?_ (hJ := Fit.sub)
     refine D.r 2 rfl (Runs.neq rfl rfl) ?_ (hJ := Fit.sub)
     refine D.r 3 rfl (Runs.move rfl) ?_ (hJ := Fit.sub)
     refine D.split (d := 146) rfl (fun g146 => ?_) (fun g146 => ?_)
     ·exact absurd rfl g146
     ·refine D.read 4 rfl (by kernel_rfl) (by kernel_rfl) (by kernel_rfl) rfl (by kernel_rfl) (fun _ _ _ _ h => h) (Wanted.on rfl rfl rfl) rfl rfl Fit.sub (Runs.lds (vs := [_, _]) ty28) ?_
      refine D.read 5 rfl (by kernel_rfl) (by kernel_rfl) (by kernel_rfl) rfl (by kernel_rfl) (fun _ _ _ _ h => h) (Wanted.on rfl rfl rfl) rfl rfl Fit.sub (Runs.lds (vs := [_, _]) ty28) ?_
      refine D.step (rs := [6]) (by kernel_rfl) rfl rfl (all1 ?_)
      refine Step.eff rfl (Wanted.on rfl rfl rfl) (Eff.call call26 rfl rfl (Same03_ok Sl.o Sl.o)) ?_
      rintro _ _ ⟨_, _, ⟨rfl, rfl⟩, rfl, rfl⟩
      refine ⟨Fit.sub, ?_⟩
      refine D.read 7 rfl (by kernel_rfl) (by kernel_rfl) (by kernel_rfl) rfl (by kernel_rfl) (fun _ _ _ _ h => h) (Wanted.on rfl rfl rfl) rfl rfl Fit.sub (Runs.notd rfl) ?_
      refine D.r 8 rfl (Runs.pickf rfl rfl) ?_ (hJ := Fit.sub)
      refine D.r 9 rfl (Runs.move rfl) ?_ (hJ := Fit.sub)
      refine D.split (d := 152) rfl (fun g152 => ?_) (fun g152 => ?_)
      ·exact (g152 ⟨rfl, rfl⟩).elim
      ·refine D.read 10 rfl (by kernel_rfl) (by kernel_rfl) (by kernel_rfl) rfl (by kernel_rfl) (fun _ _ _ _ h => h) (Wanted.on rfl rfl rfl) rfl rfl Fit.sub (Runs.move rfl) ?_
       refine D.read 11 rfl (by kernel_rfl) (by kernel_rfl) (by kernel_rfl) rfl (by kernel_rfl) (fun _ _ _ _ h => h) (Wanted.on rfl rfl rfl) rfl rfl Fit.sub (Runs.move rfl) ?_
       refine D.read 12 rfl (by kernel_rfl) (by kernel_rfl) (by kernel_rfl) rfl (by kernel_rfl) (fun _ _ _ _ h => h) (Wanted.on rfl rfl rfl) rfl rfl Fit.sub (Runs.neq rfl rfl) ?_
       refine D.r 13 rfl (Runs.pickf rfl rfl) ?_ (hJ := Fit.sub)
       refine D.r 14 rfl (Runs.move rfl) ?_ (hJ := Fit.sub)
       refine D.split (d := 157) rfl (fun g157 => ?_) (fun g157 => ?_)
       ·exact absurd rfl g157
       ·refine D.read 15 rfl (by kernel_rfl) (by kernel_rfl) (by kernel_rfl) rfl (by kernel_rfl) (fun _ _ _ _ h => h) (Wanted.on rfl rfl rfl) rfl rfl Fit.sub (Runs.lds (vs := [_, _]) ty45) ?_
        refine D.read 16 rfl (by kernel_rfl) (by kernel_rfl) (by kernel_rfl) rfl (by kernel_rfl) (fun _ _ _ _ h => h) (Wanted.on rfl rfl rfl) rfl rfl Fit.sub (Runs.lds (vs := [_, _]) ty45) ?_
        refine D.read 17 rfl (by kernel_rfl) (by kernel_rfl) (by kernel_rfl) rfl (by kernel_rfl) (fun _ _ _ _ h => h) (Wanted.on rfl rfl rfl) rfl rfl Fit.sub (Runs.neqT (α := Fr) (a := (densG nd es ((at_ ([⟨ra, rc, rx⟩, ⟨ad36, cp37, o38⟩] : List (RowG Int)) ((k : Nat) : Int)).xs))) (b := (densG nd es ((at_ ([⟨ra, rc, rx⟩, ⟨ad36, cp37, o38⟩] : List (RowG Int)) ((k : Nat) : Int)).xs))) eqt45 rfl rfl) ?_
        refine D.r 18 rfl (Runs.pickf rfl rfl) ?_ (hJ := Fit.sub)
        refine D.r 19 rfl (Runs.move rfl) ?_ (hJ := Fit.sub)
        refine D.split (d := 162) rfl (fun g162 => ?_) (fun g162 => ?_)
        ·exact absurd rfl g162
        ·refine D.read 20 rfl (by kernel_rfl) (by kernel_rfl) (by kernel_rfl) rfl (by kernel_rfl) (fun _ _ _ _ h => h) (Wanted.on rfl rfl rfl) rfl rfl Fit.sub (Runs.lds (vs := [_, _]) ty28) ?_
         refine D.read 21 rfl (by kernel_rfl) (by kernel_rfl) (by kernel_rfl) rfl (by kernel_rfl) (fun _ _ _ _ h => h) (Wanted.on rfl rfl rfl) rfl rfl Fit.sub (Runs.move rfl) ?_
         refine D.read 23 rfl (by kernel_rfl) (by kernel_rfl) (by kernel_rfl) rfl (by kernel_rfl) (fun _ _ _ _ h => h) (Wanted.on rfl rfl rfl) rfl rfl Fit.sub (Runs.lds (vs := [_, _]) ty28) ?_
         refine D.read 24 rfl (by kernel_rfl) (by kernel_rfl) (by kernel_rfl) rfl (by kernel_rfl) (fun _ _ _ _ h => h) (Wanted.on rfl rfl rfl) rfl rfl Fit.sub (Runs.move rfl) ?_
         refine D.step (rs := [22]) (by kernel_rfl) rfl rfl (all1 ?_)
         refine Step.eff rfl (Wanted.on rfl rfl rfl) (Eff.call call27 rfl rfl (InsideG_ok (nd := nd) Sl.o (Sl.fit (HeldAll.at hh4 (i := ((k : Nat) : Int)) (by omega) (by omega)) Fit.sub) (by omega))) ?_
         rintro _ _ ⟨_, _, ⟨rfl, rfl⟩, rfl, rfl⟩
         refine ⟨Fit.sub, ?_⟩
         have hin165 := insideN_le nd es ((at_ ([⟨ra, rc, rx⟩, ⟨ad36, cp37, o38⟩] : List (RowG Int)) ((k : Nat) : Int)).xs)
         refine D.step (rs := [25]) (by kernel_rfl) rfl rfl (all1 ?_)
         refine Step.eff rfl (Wanted.on rfl rfl rfl) (Eff.call call28 rfl rfl (Inside03_ok (nd := nd) Sl.o (Sl.fit (HeldAll.at hh4 (i := ((k : Nat) : Int)) (by omega) (by omega)) Fit.sub) (by omega))) ?_
         rintro _ _ ⟨_, _, ⟨rfl, rfl⟩, rfl, rfl⟩
         refine ⟨Fit.sub, ?_⟩
         have hin168 := insideN_le nd es ((at_ ([⟨ra, rc, rx⟩, ⟨ad36, cp37, o38⟩] : List (RowG Int)) ((k : Nat) : Int)).xs)
         refine D.read 26 rfl (by kernel_rfl) (by kernel_rfl) (by kernel_rfl) rfl (by kernel_rfl) (fun _ _ _ _ h => h) (Wanted.on rfl rfl rfl) rfl rfl Fit.sub (Runs.neq rfl rfl) ?_
         refine D.r 27 rfl (Runs.pickf rfl rfl) ?_ (hJ := Fit.sub)
         refine D.done (by kernel_rfl) ?_
         refine V.then ?_
         refine W.sub (L' := [(170, _), (10, _), (113, _), (114, _), (115, _)]) (Sub.cons rfl (Sub.cons rfl (Sub.cons rfl (Sub.cons rfl (Sub.cons rfl Sub.nil))))) ?_
         refine W.ite rfl (fun c170 => ?_) (fun c170 => ?_)
         ·exact absurd rfl c170
         ·refine W.skip ?_
          refine V.block_normal ?_
          refine V.then ?_
          refine W.region ?_
          refine G.r (Runs.add rfl rfl (by unfold InR; omega)) ?_
          refine G.r (Runs.move rfl) ?_
          refine G.nil ?_
          exact V.next ((k + 1)) (show ((k + 1 : Nat) ≤ ([⟨ra, rc, rx⟩, ⟨ad36, cp37, o38⟩] : List (RowG Int)).length) from (by omega)) (show ([⟨ra, rc, rx⟩, ⟨ad36, cp37, o38⟩] : List (RowG Int)).length - (k + 1 : Nat) < ([⟨ra, rc, rx⟩, ⟨ad36, cp37, o38⟩] : List (RowG Int)).length - k from (by omega)) (Sub.cons rfl (Sub.cons rfl (Sub.cons rfl (Sub.cons lookO Sub.nil)))) (show Fit κ _ (vc 22 (.slice ad39 2 2) (([⟨ra, rc, rx⟩, ⟨ad36, cp37, o38⟩] : List (RowG Int))) :: vc 3 (.slice ad36 o38.length cp37) (o38) :: vc 32 (.slice ad23 3 3) (([⟨u, v⟩, ⟨x15, x17⟩, ⟨x19 - 1, x21⟩] : List Pt)) :: vc 52 (.slice sa es.length sc) (es) :: blk b7 [I64 (nd), .slice sa es.length sc] 28 :: blk dk1 [.slice la ln lc, I64 (i35)] 79 :: I) from Fit.sub)
    ·refine W.exit ?_
     refine V.then_exit ?_
     refine V.then_exit ?_
     refine V.block_hit ?_
     refine V.then ?_
     refine W.sr ?_
     refine G.e (Eff.call call7 rfl rfl Awake03_ok) ?_
     rintro _ _ ⟨_, _, ⟨rfl, rfl⟩, rfl, rfl⟩
     refine G.r (Runs.assign rfl) ?_
     refine G.nt ?_
     refine W.ret ?_
     exact V.ret1 rfl rfl (I) Fit.m ⟨rfl, rfl⟩

end Go.Sl
