/- A part of the proofs of statements of this seat: contracts of functions, and the plain laws that they lean on. No conditions. -/
import Derived.Test.YtbimaodbcjjbfaaGraphM5
namespace Go.Sl
open Go.Proofs
set_option linter.unusedVariables false
set_option linter.unusedSimpArgs false
set_option maxRecDepth 4000
set_option maxHeartbeats 4000000 in
theorem GraphChanges_walk {κ : Ctx} {I : List Item} {la : Option Addr} {ln lc : Nat} {ls : List Int} (hl : Sl κ I (.slice la ln lc) ls) (u v : Int) :
    CallS Try.prog κ 19 [.slice la ln lc, I64 (u), I64 (v)] I (fun r J => r = .bool true ∧ I = J) := by
 refine CallS.enter (L := [(0, .slice la ln lc), (1, I64 (u)), (2, I64 (v))]) Try.func19 rfl rfl rfl rfl ?_
 refine W.sr ?_
 refine G.r (Runs.assign rfl) ?_
 refine G.nt ?_
 refine W.sr ?_
 refine G.r (Runs.move rfl) ?_
 refine G.e (Eff.call call22 rfl rfl New_ok) ?_
 rintro _ _ ⟨_, _, ⟨dk1, rfl, rfl⟩, rfl, rfl⟩
 show G Try.prog κ _ _ _ _ ([(20, .pointer (some ⟨dk1, 0, none⟩)), (19, .slice la ln lc), (6, .bool false), (0, .slice la ln lc), (1, I64 (u)), (2, I64 (v))] : Env) (blk dk1 [.slice la ln lc, I64 (0)] 129 :: I)
 have hi0 : (0 : Int) ≤ 0 := Int.le_refl _
 refine G.r (Runs.assign rfl) ?_
 refine G.nt ?_
 refine W.sr ?_
 refine G.r (Runs.move rfl) ?_
 refine G.e (Eff.call call69 rfl rfl (MkGraph_at (by repeat (first | exact AtF.head _ _ | apply AtF.tail)) (fun _ => Sl.fit hl Fit.m) (by omega)  (by omega))) ?_
 rintro _ _ ⟨_, _, ⟨⟨nd2, ad3, cp4, es5, i6⟩, ⟨⟨rfl, hges5⟩, hi6⟩, rfl⟩, rfl, rfl⟩
 show G Try.prog κ _ _ _ _ ([(22, .agg #[I64 (nd2), .slice ad3 es5.length cp4]), (21, .pointer (some ⟨dk1, 0, none⟩)), (7, .pointer (some ⟨dk1, 0, none⟩)), (20, .pointer (some ⟨dk1, 0, none⟩)), (19, .slice la ln lc), (6, .bool false), (0, .slice la ln lc), (1, I64 (u)), (2, I64 (v))] : Env) (vc 150 (.slice ad3 es5.length cp4) (es5) :: blk dk1 [.slice la ln lc, I64 (i6)] 129 :: I)
 have hi6 : 0 ≤ i6 := hi6
 dsimp only at hges5
 have hel0 := hges5.2.2
 have hnd0 := hges5.1
 refine G.e (Eff.alloc ty99 rfl) ?_
 rintro _ _ ⟨b7, rfl, rfl⟩
 refine G.e (Eff.st (cs := [_, _]) (vs := [_, _]) (cs' := [_, _]) ty99) ?_
 rintro _ _ ⟨rfl, rfl⟩
 refine G.nt ?_
 refine W.cut (σ := Int × (Option Addr) × Nat × (List Pt) × Int) (fun s => ([(1, I64 (u)), (2, I64 (v)), (7, .pointer (some ⟨dk1, 0, none⟩)), (8, .pointer (some ⟨b7, 0, none⟩))] : Env)) (fun s => vc 150 (.slice s.2.1 s.2.2.2.1.length s.2.2.1) (s.2.2.2.1) :: blk b7 [I64 (s.1), .slice s.2.1 s.2.2.2.1.length s.2.2.1] 99 :: blk dk1 [.slice la ln lc, I64 (s.2.2.2.2)] 129 :: I) (fun s => (s.2.2.2.1.length ≤ 1000) ∧ (0 ≤ s.2.2.2.2)) ?_ ?_
 ·refine W.sr ?_
  refine G.r (Runs.move rfl) ?_
  refine G.e (Eff.call call25 rfl rfl (Next_ok (by repeat (first | exact AtF.head _ _ | apply AtF.tail)) (Sl.f hl) (by omega) (by omega))) ?_
  rintro _ _ ⟨_, _, ⟨x8, i9, rfl, hx8, hi9, rfl⟩, rfl, rfl⟩
  show G Try.prog κ _ _ _ _ ([(24, I64 (x8)), (23, .pointer (some ⟨dk1, 0, none⟩)), (8, .pointer (some ⟨b7, 0, none⟩)), (22, .agg #[I64 (nd2), .slice ad3 es5.length cp4]), (21, .pointer (some ⟨dk1, 0, none⟩)), (7, .pointer (some ⟨dk1, 0, none⟩)), (20, .pointer (some ⟨dk1, 0, none⟩)), (19, .slice la ln lc), (6, .bool false), (0, .slice la ln lc), (1, I64 (u)), (2, I64 (v))] : Env) (blk b7 [I64 (nd2), .slice ad3 es5.length cp4] 99 :: vc 150 (.slice ad3 es5.length cp4) (es5) :: blk dk1 [.slice la ln lc, I64 (i9)] 129 :: I)
  refine G.r (Runs.eql rfl rfl) ?_
  refine G.nt ?_
  refine W.ite rfl (fun c25 => ?_) (fun c25 => ?_)
  ·refine W.region ?_
   refine G.r (Runs.move rfl) ?_
   refine G.r (Runs.lds (vs := [_, _]) ty99) ?_
   refine G.e (Eff.call call71 rfl rfl (Spoilt_at (by repeat (first | exact AtF.head _ _ | apply AtF.tail)) (fun _ => Sl.fit hl Fit.m) (by omega) (fun _ => Sl.vec (by repeat (first | exact List.mem_cons_self | apply List.mem_cons_of_mem))) (hges5.2.1.bde (B := 10) (by omega)) (by omega) (by omega))) ?_
   rintro _ _ ⟨_, _, ⟨⟨nd10, ad11, cp12, es13, i14⟩, ⟨⟨rfl, hses13⟩, hi14⟩, rfl⟩, rfl, rfl⟩
   show G Try.prog κ _ _ _ _ ([(28, .agg #[I64 (nd10), .slice ad11 es13.length cp12]), (27, .agg #[I64 (nd2), .slice ad3 es5.length cp4]), (26, .pointer (some ⟨dk1, 0, none⟩)), (25, .bool (decide (x8 = 0))), (24, I64 (x8)), (23, .pointer (some ⟨dk1, 0, none⟩)), (8, .pointer (some ⟨b7, 0, none⟩)), (22, .agg #[I64 (nd2), .slice ad3 es5.length cp4]), (21, .pointer (some ⟨dk1, 0, none⟩)), (7, .pointer (some ⟨dk1, 0, none⟩)), (20, .pointer (some ⟨dk1, 0, none⟩)), (19, .slice la ln lc), (6, .bool false), (0, .slice la ln lc), (1, I64 (u)), (2, I64 (v))] : Env) (vc 150 (.slice ad11 es13.length cp12) (es13) :: blk b7 [I64 (nd2), .slice ad3 es5.length cp4] 99 :: vc 150 (.slice ad3 es5.length cp4) (es5) :: blk dk1 [.slice la ln lc, I64 (i14)] 129 :: I)
   have hi14 : 0 ≤ i14 := hi14
   dsimp only at hses13
   have hsl := hses13.1
   refine G.e (Eff.st (cs := [_, _]) (vs := [_, _]) (cs' := [_, _]) ty99) ?_
   rintro _ _ ⟨rfl, rfl⟩
   refine G.nil ?_
   exact V.mid ((nd10), (ad11), (cp12), (es13), (i14)) (show ((es13 : List Pt).length ≤ 1000) ∧ (0 ≤ (i14 : Int)) from ⟨(by omega), (by omega)⟩) (Sub.cons rfl (Sub.cons rfl (Sub.cons rfl (Sub.cons rfl Sub.nil)))) (show Fit κ _ (vc 150 (.slice (ad11) (es13).length (cp12)) ((es13)) :: blk b7 [I64 ((nd10)), .slice (ad11) (es13).length (cp12)] 99 :: blk dk1 [.slice la ln lc, I64 ((i14))] 129 :: I) from (by first | exact Fit.s | exact Fit.sub))
  ·refine W.skip ?_
   exact V.mid ((nd2), (ad3), (cp4), (es5), (i9)) (show ((es5 : List Pt).length ≤ 1000) ∧ (0 ≤ (i9 : Int)) from ⟨(by omega), (by omega)⟩) (Sub.cons rfl (Sub.cons rfl (Sub.cons rfl (Sub.cons rfl Sub.nil)))) (show Fit κ _ (vc 150 (.slice (ad3) (es5).length (cp4)) ((es5)) :: blk b7 [I64 ((nd2)), .slice (ad3) (es5).length (cp4)] 99 :: blk dk1 [.slice la ln lc, I64 ((i9))] 129 :: I) from (by first | exact Fit.s | exact Fit.sub))
 ·rintro ⟨nd, sa, sc, es, iqz⟩ hp
  obtain ⟨hel, hiqz⟩ : (es.length ≤ 1000) ∧ (0 ≤ iqz) := hp
  show W Try.prog κ 106 _ _ ([(1, I64 (u)), (2, I64 (v)), (7, .pointer (some ⟨dk1, 0, none⟩)), (8, .pointer (some ⟨b7, 0, none⟩))] : Env) (vc 150 (.slice sa es.length sc) (es) :: blk b7 [I64 (nd), .slice sa es.length sc] 99 :: blk dk1 [.slice la ln lc, I64 (iqz)] 129 :: I)
  refine W.seq ?_
  refine W.sr ?_
  refine G.r (Runs.move rfl) ?_
  refine G.r (Runs.move rfl) ?_
  refine G.r (Runs.buildArr (cells := [_, _]) ty60 Try.underlying60 ty3 rfl rfl) ?_
  refine G.r (Runs.move rfl) ?_
  refine G.e (Eff.call call25 rfl rfl (Next_ok (by repeat (first | exact AtF.head _ _ | apply AtF.tail)) (Sl.f hl) (by omega) (by omega))) ?_
  rintro _ _ ⟨_, _, ⟨x15, i16, rfl, hx15, hi16, rfl⟩, rfl, rfl⟩
  show G Try.prog κ _ _ _ _ ([(33, I64 (x15)), (32, .pointer (some ⟨dk1, 0, none⟩)), (31, .agg #[I64 (u), I64 (v)]), (30, I64 (v)), (29, I64 (u)), (1, I64 (u)), (2, I64 (v)), (7, .pointer (some ⟨dk1, 0, none⟩)), (8, .pointer (some ⟨b7, 0, none⟩))] : Env) (vc 150 (.slice sa es.length sc) (es) :: blk b7 [I64 (nd), .slice sa es.length sc] 99 :: blk dk1 [.slice la ln lc, I64 (i16)] 129 :: I)
  refine G.r (Runs.move rfl) ?_
  refine G.e (Eff.call call25 rfl rfl (Next_ok (by repeat (first | exact AtF.head _ _ | apply AtF.tail)) (Sl.f hl) (by omega) (by omega))) ?_
  rintro _ _ ⟨_, _, ⟨x17, i18, rfl, hx17, hi18, rfl⟩, rfl, rfl⟩
  show G Try.prog κ _ _ _ _ ([(35, I64 (x17)), (34, .pointer (some ⟨dk1, 0, none⟩)), (33, I64 (x15)), (32, .pointer (some ⟨dk1, 0, none⟩)), (31, .agg #[I64 (u), I64 (v)]), (30, I64 (v)), (29, I64 (u)), (1, I64 (u)), (2, I64 (v)), (7, .pointer (some ⟨dk1, 0, none⟩)), (8, .pointer (some ⟨b7, 0, none⟩))] : Env) (vc 150 (.slice sa es.length sc) (es) :: blk b7 [I64 (nd), .slice sa es.length sc] 99 :: blk dk1 [.slice la ln lc, I64 (i18)] 129 :: I)
  refine G.r (Runs.buildArr (cells := [_, _]) ty60 Try.underlying60 ty3 rfl rfl) ?_
  refine G.r (Runs.move rfl) ?_
  refine G.e (Eff.call call25 rfl rfl (Next_ok (by repeat (first | exact AtF.head _ _ | apply AtF.tail)) (Sl.f hl) (by omega) (by omega))) ?_
  rintro _ _ ⟨_, _, ⟨x19, i20, rfl, hx19, hi20, rfl⟩, rfl, rfl⟩
  show G Try.prog κ _ _ _ _ ([(38, I64 (x19)), (37, .pointer (some ⟨dk1, 0, none⟩)), (36, .agg #[I64 (x15), I64 (x17)]), (35, I64 (x17)), (34, .pointer (some ⟨dk1, 0, none⟩)), (33, I64 (x15)), (32, .pointer (some ⟨dk1, 0, none⟩)), (31, .agg #[I64 (u), I64 (v)]), (30, I64 (v)), (29, I64 (u)), (1, I64 (u)), (2, I64 (v)), (7, .pointer (some ⟨dk1, 0, none⟩)), (8, .pointer (some ⟨b7, 0, none⟩))] : Env) (vc 150 (.slice sa es.length sc) (es) :: blk b7 [I64 (nd), .slice sa es.length sc] 99 :: blk dk1 [.slice la ln lc, I64 (i20)] 129 :: I)
  refine G.r (Runs.move rfl) ?_
  refine G.e (Eff.call call25 rfl rfl (Next_ok (by repeat (first | exact AtF.head _ _ | apply AtF.tail)) (Sl.f hl) (by omega) (by omega))) ?_
  rintro _ _ ⟨_, _, ⟨x21, i22, rfl, hx21, hi22, rfl⟩, rfl, rfl⟩
  show G Try.prog κ _ _ _ _ ([(40, I64 (x21)), (39, .pointer (some ⟨dk1, 0, none⟩)), (38, I64 (x19)), (37, .pointer (some ⟨dk1, 0, none⟩)), (36, .agg #[I64 (x15), I64 (x17)]), (35, I64 (x17)), (34, .pointer (some ⟨dk1, 0, none⟩)), (33, I64 (x15)), (32, .pointer (some ⟨dk1, 0, none⟩)), (31, .agg #[I64 (u), I64 (v)]), (30, I64 (v)), (29, I64 (u)), (1, I64 (u)), (2, I64 (v)), (7, .pointer (some ⟨dk1, 0, none⟩)), (8, .pointer (some ⟨b7, 0, none⟩))] : Env) (vc 150 (.slice sa es.length sc) (es) :: blk b7 [I64 (nd), .slice sa es.length sc] 99 :: blk dk1 [.slice la ln lc, I64 (i22)] 129 :: I)
  refine G.r (Runs.buildArr (cells := [_, _]) ty60 Try.underlying60 ty3 rfl rfl) ?_
  refine G.e (Eff.bs (α := Pt) (cs := [I64 (u), I64 (v), I64 (x15), I64 (x17), I64 (x19), I64 (x21)]) (xs := [⟨u, v⟩, ⟨x15, x17⟩, ⟨x19, x21⟩]) Try.underlying55 ty60 rfl rfl (by decide) (by decide) rfl (by kernel_rfl) rfl rfl) ?_
  rintro _ _ ⟨ad23, rfl, rfl⟩
  refine G.r (Runs.lens Try.underlying55 rfl) ?_
  have hp3 : ([⟨u, v⟩, ⟨x15, x17⟩, ⟨x19, x21⟩] : List Pt).length = 3 := rfl
  refine G.r (Runs.move rfl) ?_
  refine G.nt ?_
  refine W.sub (L' := [(44, _), (43, _), (42, _), (8, _)]) (Sub.cons rfl (Sub.cons rfl (Sub.cons rfl (Sub.cons rfl Sub.nil)))) ?_
  refine W.block ?_
  refine W.loop (σ := Nat) (fun s => ([(8, .pointer (some ⟨b7, 0, none⟩)), (42, .slice ad23 3 3), (43, I64 (((3 : Nat) : Int))), (44, I64 (((s : Nat) : Int)))] : Env)) (fun s => vc 60 (.slice ad23 3 3) (([⟨u, v⟩, ⟨x15, x17⟩, ⟨x19, x21⟩] : List Pt)) :: vc 150 (.slice sa es.length sc) (es) :: blk b7 [I64 (nd), .slice sa es.length sc] 99 :: blk dk1 [.slice la ln lc, I64 (i22)] 129 :: I) (fun s => (s ≤ ([⟨u, v⟩, ⟨x15, x17⟩, ⟨x19, x21⟩] : List Pt).length)) (fun s => ([⟨u, v⟩, ⟨x15, x17⟩, ⟨x19, x21⟩] : List Pt).length - s) (0) (show ((0 : Nat) ≤ ([⟨u, v⟩, ⟨x15, x17⟩, ⟨x19, x21⟩] : List Pt).length) from (by omega)) (Sub.cons rfl (Sub.cons rfl (Sub.cons rfl (Sub.cons lookO Sub.nil)))) (show Fit κ _ (vc 60 (.slice ad23 3 3) (([⟨u, v⟩, ⟨x15, x17⟩, ⟨x19, x21⟩] : List Pt)) :: vc 150 (.slice sa es.length sc) (es) :: blk b7 [I64 (nd), .slice sa es.length sc] 99 :: blk dk1 [.slice la ln lc, I64 (i22)] 129 :: I) from Fit.sub) ?_
  rintro k hp
  have hk : (k ≤ ([⟨u, v⟩, ⟨x15, x17⟩, ⟨x19, x21⟩] : List Pt).length) := hp
  show W Try.prog κ 106 _ _ ([(8, .pointer (some ⟨b7, 0, none⟩)), (42, .slice ad23 3 3), (43, I64 (((3 : Nat) : Int))), (44, I64 (((k : Nat) : Int)))] : Env) (vc 60 (.slice ad23 3 3) (([⟨u, v⟩, ⟨x15, x17⟩, ⟨x19, x21⟩] : List Pt)) :: vc 150 (.slice sa es.length sc) (es) :: blk b7 [I64 (nd), .slice sa es.length sc] 99 :: blk dk1 [.slice la ln lc, I64 (i22)] 129 :: I)
  refine W.sr ?_
  refine G.r (Runs.lss rfl rfl) ?_
  refine G.nt ?_
  refine W.seq ?_
  refine W.ite rfl (fun c45 => ?_) (fun c45 => ?_)
  ·refine W.skip ?_
   refine V.then ?_
   refine W.seq ?_
   refine W.block ?_
   refine W.sr ?_
   refine G.r (Runs.idx (α := Pt) (xs := ([⟨u, v⟩, ⟨x15, x17⟩, ⟨x19, x21⟩] : List Pt)) Try.underlying55 ty60 rfl rfl Sl.o (by omega) (by omega)) ?_
   refine G.r (Runs.gets (α := Pt) (xs := ([⟨u, v⟩, ⟨x15, x17⟩, ⟨x19, x21⟩] : List Pt)) ty60 rfl Sl.o (by omega) (by omega)) ?_
   refine G.e (Eff.alloc ty60 rfl) ?_
   rintro _ _ ⟨b24, rfl, rfl⟩
   refine G.e (Eff.st (cs := [_, _]) (vs := [_, _]) (cs' := [_, _]) ty60) ?_
   rintro _ _ ⟨rfl, rfl⟩
   refine G.nt ?_
   refine W.sr ?_
   refine G.r (Runs.lds (vs := [_, _]) ty99) ?_
   refine G.r (Runs.idxArr Try.underlying60 ty2 rfl rfl (by omega) (by omega)) ?_
   refine G.r (Runs.ld ty3) ?_
   refine G.r (Runs.idxArr Try.underlying60 ty2 rfl rfl (by omega) (by omega)) ?_
   refine G.r (Runs.ld ty3) ?_
   refine G.e (Eff.call call83 rfl rfl (AddG_ok Sl.o ((at_ ([⟨u, v⟩, ⟨x15, x17⟩, ⟨x19, x21⟩] : List Pt) ((k : Nat) : Int)).u) ((at_ ([⟨u, v⟩, ⟨x15, x17⟩, ⟨x19, x21⟩] : List Pt) ((k : Nat) : Int)).v) (by omega))) ?_
   rintro _ _ ⟨_, _, (⟨hnead25, rfl, rfl⟩ | ⟨ad25, cp26, hzad25, rfl, rfl⟩), rfl, rfl⟩
   ·show G Try.prog κ _ _ _ _ ([(54, .tuple #[.agg #[I64 (0), .slice none 0 0], I64 (addG nd es ((at_ ([⟨u, v⟩, ⟨x15, x17⟩, ⟨x19, x21⟩] : List Pt) ((k : Nat) : Int)).u) ((at_ ([⟨u, v⟩, ⟨x15, x17⟩, ⟨x19, x21⟩] : List Pt) ((k : Nat) : Int)).v))]), (53, I64 ((at_ ([⟨u, v⟩, ⟨x15, x17⟩, ⟨x19, x21⟩] : List Pt) ((k : Nat) : Int)).v)), (52, .pointer (some ⟨b24, 1, none⟩)), (51, I64 ((at_ ([⟨u, v⟩, ⟨x15, x17⟩, ⟨x19, x21⟩] : List Pt) ((k : Nat) : Int)).u)), (50, .pointer (some ⟨b24, 0, none⟩)), (49, .agg #[I64 (nd), .slice sa es.length sc]), (10, .pointer (some ⟨b24, 0, none⟩)), (47, .agg #[I64 ((at_ ([⟨u, v⟩, ⟨x15, x17⟩, ⟨x19, x21⟩] : List Pt) ((k : Nat) : Int)).u), I64 ((at_ ([⟨u, v⟩, ⟨x15, x17⟩, ⟨x19, x21⟩] : List Pt) ((k : Nat) : Int)).v)]), (46, elemPtr (.slice ad23 3 3) ((((k : Nat) : Int)).toNat * Enc.sz Pt)), (45, .bool (decide (((k : Nat) : Int) < ((3 : Nat) : Int)))), (8, .pointer (some ⟨b7, 0, none⟩)), (42, .slice ad23 3 3), (43, I64 (((3 : Nat) : Int))), (44, I64 (((k : Nat) : Int)))] : Env) (blk b24 [I64 ((at_ ([⟨u, v⟩, ⟨x15, x17⟩, ⟨x19, x21⟩] : List Pt) ((k : Nat) : Int)).u), I64 ((at_ ([⟨u, v⟩, ⟨x15, x17⟩, ⟨x19, x21⟩] : List Pt) ((k : Nat) : Int)).v)] 60 :: vc 60 (.slice ad23 3 3) (([⟨u, v⟩, ⟨x15, x17⟩, ⟨x19, x21⟩] : List Pt)) :: vc 150 (.slice sa es.length sc) (es) :: blk b7 [I64 (nd), .slice sa es.length sc] 99 :: blk dk1 [.slice la ln lc, I64 (i22)] 129 :: I)
    refine G.r (Runs.move rfl) ?_
    refine G.r (Runs.extract rfl rfl) ?_
    refine G.r (Runs.extract rfl rfl) ?_
    refine G.e (Eff.alloc ty99 rfl) ?_
    rintro _ _ ⟨b27, rfl, rfl⟩
    refine G.e (Eff.st (cs := [_, _]) (vs := [_, _]) (cs' := [_, _]) ty99) ?_
    rintro _ _ ⟨rfl, rfl⟩
    refine G.r (Runs.assign rfl) ?_
    refine G.nt ?_
    refine W.sub (L' := [(12, _), (11, _), (10, _), (8, _), (42, _), (43, _), (44, _)]) (Sub.cons rfl (Sub.cons rfl (Sub.cons rfl (Sub.cons rfl (Sub.cons rfl (Sub.cons rfl (Sub.cons rfl Sub.nil))))))) ?_
    refine W.sr ?_
    refine G.r (Runs.lds (vs := [_, _]) ty99) ?_
    refine G.r (Runs.idxArr Try.underlying60 ty2 rfl rfl (by omega) (by omega)) ?_
    refine G.r (Runs.ld ty3) ?_
    refine G.r (Runs.idxArr Try.underlying60 ty2 rfl rfl (by omega) (by omega)) ?_
    refine G.r (Runs.ld ty3) ?_
    refine G.e (Eff.call call89 rfl rfl (Add03_ok Sl.o ((at_ ([⟨u, v⟩, ⟨x15, x17⟩, ⟨x19, x21⟩] : List Pt) ((k : Nat) : Int)).u) ((at_ ([⟨u, v⟩, ⟨x15, x17⟩, ⟨x19, x21⟩] : List Pt) ((k : Nat) : Int)).v) (by omega))) ?_
    rintro _ _ ⟨_, _, (⟨hnead28, rfl, rfl⟩ | ⟨ad28, cp29, hzad28, rfl, rfl⟩), rfl, rfl⟩
    ·show G Try.prog κ _ _ _ _ ([(63, .tuple #[.agg #[I64 (0), .slice none 0 0], I64 (addG nd es ((at_ ([⟨u, v⟩, ⟨x15, x17⟩, ⟨x19, x21⟩] : List Pt) ((k : Nat) : Int)).u) ((at_ ([⟨u, v⟩, ⟨x15, x17⟩, ⟨x19, x21⟩] : List Pt) ((k : Nat) : Int)).v))]), (62, I64 ((at_ ([⟨u, v⟩, ⟨x15, x17⟩, ⟨x19, x21⟩] : List Pt) ((k : Nat) : Int)).v)), (61, .pointer (some ⟨b24, 1, none⟩)), (60, I64 ((at_ ([⟨u, v⟩, ⟨x15, x17⟩, ⟨x19, x21⟩] : List Pt) ((k : Nat) : Int)).u)), (59, .pointer (some ⟨b24, 0, none⟩)), (58, .agg #[I64 (nd), .slice sa es.length sc]), (12, I64 (addG nd es ((at_ ([⟨u, v⟩, ⟨x15, x17⟩, ⟨x19, x21⟩] : List Pt) ((k : Nat) : Int)).u) ((at_ ([⟨u, v⟩, ⟨x15, x17⟩, ⟨x19, x21⟩] : List Pt) ((k : Nat) : Int)).v))), (11, .pointer (some ⟨b27, 0, none⟩)), (10, .pointer (some ⟨b24, 0, none⟩)), (8, .pointer (some ⟨b7, 0, none⟩)), (42, .slice ad23 3 3), (43, I64 (((3 : Nat) : Int))), (44, I64 (((k : Nat) : Int)))] : Env) (blk b27 [I64 (0), .slice none 0 0] 99 :: blk b24 [I64 ((at_ ([⟨u, v⟩, ⟨x15, x17⟩, ⟨x19, x21⟩] : List Pt) ((k : Nat) : Int)).u), I64 ((at_ ([⟨u, v⟩, ⟨x15, x17⟩, ⟨x19, x21⟩] : List Pt) ((k : Nat) : Int)).v)] 60 :: vc 60 (.slice ad23 3 3) (([⟨u, v⟩, ⟨x15, x17⟩, ⟨x19, x21⟩] : List Pt)) :: vc 150 (.slice sa es.length sc) (es) :: blk b7 [I64 (nd), .slice sa es.length sc] 99 :: blk dk1 [.slice la ln lc, I64 (i22)] 129 :: I)
     refine G.r (Runs.move rfl) ?_
     refine G.r (Runs.extract rfl rfl) ?_
     refine G.r (Runs.extract rfl rfl) ?_
     refine G.e (Eff.alloc ty99 rfl) ?_
     rintro _ _ ⟨b30, rfl, rfl⟩
     refine G.e (Eff.st (cs := [_, _]) (vs := [_, _]) (cs' := [_, _]) ty99) ?_
     rintro _ _ ⟨rfl, rfl⟩
     refine G.r (Runs.assign rfl) ?_
     refine G.nt ?_
     refine W.sub (L' := [(14, _), (13, _), (12, _), (11, _), (10, _), (8, _), (42, _), (43, _), (44, _)]) (Sub.cons rfl (Sub.cons rfl (Sub.cons rfl (Sub.cons rfl (Sub.cons rfl (Sub.cons rfl (Sub.cons rfl (Sub.cons rfl (Sub.cons rfl Sub.nil))))))))) ?_
     refine W.sr ?_
     refine G.r (Runs.lds (vs := [_, _]) ty99) ?_
     refine G.r (Runs.idxArr Try.underlying60 ty2 rfl rfl (by omega) (by omega)) ?_
     refine G.r (Runs.ld ty3) ?_
     refine G.r (Runs.idxArr Try.underlying60 ty2 rfl rfl (by omega) (by omega)) ?_
     refine G.r (Runs.ld ty3) ?_
     refine G.e (Eff.call call90 rfl rfl (RemG_ok Sl.o ((at_ ([⟨u, v⟩, ⟨x15, x17⟩, ⟨x19, x21⟩] : List Pt) ((k : Nat) : Int)).u) ((at_ ([⟨u, v⟩, ⟨x15, x17⟩, ⟨x19, x21⟩] : List Pt) ((k : Nat) : Int)).v) (by omega))) ?_
     rintro _ _ ⟨_, _, (⟨hnead31, rfl, rfl⟩ | ⟨ad31, cp32, hzad31, rfl, rfl⟩), rfl, rfl⟩
     ·show G Try.prog κ _ _ _ _ ([(72, .tuple #[.agg #[I64 (0), .slice none 0 0], I64 (remG nd es ((at_ ([⟨u, v⟩, ⟨x15, x17⟩, ⟨x19, x21⟩] : List Pt) ((k : Nat) : Int)).u) ((at_ ([⟨u, v⟩, ⟨x15, x17⟩, ⟨x19, x21⟩] : List Pt) ((k : Nat) : Int)).v))]), (71, I64 ((at_ ([⟨u, v⟩, ⟨x15, x17⟩, ⟨x19, x21⟩] : List Pt) ((k : Nat) : Int)).v)), (70, .pointer (some ⟨b24, 1, none⟩)), (69, I64 ((at_ ([⟨u, v⟩, ⟨x15, x17⟩, ⟨x19, x21⟩] : List Pt) ((k : Nat) : Int)).u)), (68, .pointer (some ⟨b24, 0, none⟩)), (67, .agg #[I64 (nd), .slice sa es.length sc]), (14, I64 (addG nd es ((at_ ([⟨u, v⟩, ⟨x15, x17⟩, ⟨x19, x21⟩] : List Pt) ((k : Nat) : Int)).u) ((at_ ([⟨u, v⟩, ⟨x15, x17⟩, ⟨x19, x21⟩] : List Pt) ((k : Nat) : Int)).v))), (13, .pointer (some ⟨b30, 0, none⟩)), (12, I64 (addG nd es ((at_ ([⟨u, v⟩, ⟨x15, x17⟩, ⟨x19, x21⟩] : List Pt) ((k : Nat) : Int)).u) ((at_ ([⟨u, v⟩, ⟨x15, x17⟩, ⟨x19, x21⟩] : List Pt) ((k : Nat) : Int)).v))), (11, .pointer (some ⟨b27, 0, none⟩)), (10, .pointer (some ⟨b24, 0, none⟩)), (8, .pointer (some ⟨b7, 0, none⟩)), (42, .slice ad23 3 3), (43, I64 (((3 : Nat) : Int))), (44, I64 (((k : Nat) : Int)))] : Env) (blk b30 [I64 (0), .slice none 0 0] 99 :: blk b27 [I64 (0), .slice none 0 0] 99 :: blk b24 [I64 ((at_ ([⟨u, v⟩, ⟨x15, x17⟩, ⟨x19, x21⟩] : List Pt) ((k : Nat) : Int)).u), I64 ((at_ ([⟨u, v⟩, ⟨x15, x17⟩, ⟨x19, x21⟩] : List Pt) ((k : Nat) : Int)).v)] 60 :: vc 60 (.slice ad23 3 3) (([⟨u, v⟩, ⟨x15, x17⟩, ⟨x19, x21⟩] : List Pt)) :: vc 150 (.slice sa es.length sc) (es) :: blk b7 [I64 (nd), .slice sa es.length sc] 99 :: blk dk1 [.slice la ln lc, I64 (i22)] 129 :: I)
      refine G.r (Runs.move rfl) ?_
      refine G.r (Runs.extract rfl rfl) ?_
      refine G.r (Runs.extract rfl rfl) ?_
      refine G.e (Eff.alloc ty99 rfl) ?_
      rintro _ _ ⟨b33, rfl, rfl⟩
      refine G.e (Eff.st (cs := [_, _]) (vs := [_, _]) (cs' := [_, _]) ty99) ?_
      rintro _ _ ⟨rfl, rfl⟩
      refine G.r (Runs.assign rfl) ?_
      refine G.nt ?_
      refine W.sub (L' := [(16, _), (15, _), (14, _), (13, _), (12, _), (11, _), (10, _), (8, _), (42, _), (43, _), (44, _)]) (Sub.cons rfl (Sub.cons rfl (Sub.cons rfl (Sub.cons rfl (Sub.cons rfl (Sub.cons rfl (Sub.cons rfl (Sub.cons rfl (Sub.cons rfl (Sub.cons rfl (Sub.cons rfl Sub.nil))))))))))) ?_
      refine W.sr ?_
      refine G.r (Runs.lds (vs := [_, _]) ty99) ?_
      refine G.r (Runs.idxArr Try.underlying60 ty2 rfl rfl (by omega) (by omega)) ?_
      refine G.r (Runs.ld ty3) ?_
      refine G.r (Runs.idxArr Try.underlying60 ty2 rfl rfl (by omega) (by omega)) ?_
      refine G.r (Runs.ld ty3) ?_
      refine G.e (Eff.call call91 rfl rfl (Rem03_ok Sl.o ((at_ ([⟨u, v⟩, ⟨x15, x17⟩, ⟨x19, x21⟩] : List Pt) ((k : Nat) : Int)).u) ((at_ ([⟨u, v⟩, ⟨x15, x17⟩, ⟨x19, x21⟩] : List Pt) ((k : Nat) : Int)).v) (by omega))) ?_
      rintro _ _ ⟨_, _, (⟨hnead34, rfl, rfl⟩ | ⟨ad34, cp35, hzad34, rfl, rfl⟩), rfl, rfl⟩
      ·show G Try.prog κ _ _ _ _ ([(81, .tuple #[.agg #[I64 (0), .slice none 0 0], I64 (remG nd es ((at_ ([⟨u, v⟩, ⟨x15, x17⟩, ⟨x19, x21⟩] : List Pt) ((k : Nat) : Int)).u) ((at_ ([⟨u, v⟩, ⟨x15, x17⟩, ⟨x19, x21⟩] : List Pt) ((k : Nat) : Int)).v))]), (80, I64 ((at_ ([⟨u, v⟩, ⟨x15, x17⟩, ⟨x19, x21⟩] : List Pt) ((k : Nat) : Int)).v)), (79, .pointer (some ⟨b24, 1, none⟩)), (78, I64 ((at_ ([⟨u, v⟩, ⟨x15, x17⟩, ⟨x19, x21⟩] : List Pt) ((k : Nat) : Int)).u)), (77, .pointer (some ⟨b24, 0, none⟩)), (76, .agg #[I64 (nd), .slice sa es.length sc]), (16, I64 (remG nd es ((at_ ([⟨u, v⟩, ⟨x15, x17⟩, ⟨x19, x21⟩] : List Pt) ((k : Nat) : Int)).u) ((at_ ([⟨u, v⟩, ⟨x15, x17⟩, ⟨x19, x21⟩] : List Pt) ((k : Nat) : Int)).v))), (15, .pointer (some ⟨b33, 0, none⟩)), (14, I64 (addG nd es ((at_ ([⟨u, v⟩, ⟨x15, x17⟩, ⟨x19, x21⟩] : List Pt) ((k : Nat) : Int)).u) ((at_ ([⟨u, v⟩, ⟨x15, x17⟩, ⟨x19, x21⟩] : List Pt) ((k : Nat) : Int)).v))), (13, .pointer (some ⟨b30, 0, none⟩)), (12, I64 (addG nd es ((at_ ([⟨u, v⟩, ⟨x15, x17⟩, ⟨x19, x21⟩] : List Pt) ((k : Nat) : Int)).u) ((at_ ([⟨u, v⟩, ⟨x15, x17⟩, ⟨x19, x21⟩] : List Pt) ((k : Nat) : Int)).v))), (11, .pointer (some ⟨b27, 0, none⟩)), (10, .pointer (some ⟨b24, 0, none⟩)), (8, .pointer (some ⟨b7, 0, none⟩)), (42, .slice ad23 3 3), (43, I64 (((3 : Nat) : Int))), (44, I64 (((k : Nat) : Int)))] : Env) (blk b33 [I64 (0), .slice none 0 0] 99 :: blk b30 [I64 (0), .slice none 0 0] 99 :: blk b27 [I64 (0), .slice none 0 0] 99 :: blk b24 [I64 ((at_ ([⟨u, v⟩, ⟨x15, x17⟩, ⟨x19, x21⟩] : List Pt) ((k : Nat) : Int)).u), I64 ((at_ ([⟨u, v⟩, ⟨x15, x17⟩, ⟨x19, x21⟩] : List Pt) ((k : Nat) : Int)).v)] 60 :: vc 60 (.slice ad23 3 3) (([⟨u, v⟩, ⟨x15, x17⟩, ⟨x19, x21⟩] : List Pt)) :: vc 150 (.slice sa es.length sc) (es) :: blk b7 [I64 (nd), .slice sa es.length sc] 99 :: blk dk1 [.slice la ln lc, I64 (i22)] 129 :: I)
       refine G.r (Runs.move rfl) ?_
       refine G.r (Runs.extract rfl rfl) ?_
       refine G.r (Runs.extract rfl rfl) ?_
       refine G.e (Eff.alloc ty99 rfl) ?_
       rintro _ _ ⟨b36, rfl, rfl⟩
       refine G.e (Eff.st (cs := [_, _]) (vs := [_, _]) (cs' := [_, _]) ty99) ?_
       rintro _ _ ⟨rfl, rfl⟩
       refine G.r (Runs.assign rfl) ?_
       refine G.nt ?_
       refine W.sub (L' := [(18, _), (17, _), (16, _), (15, _), (14, _), (13, _), (12, _), (11, _), (8, _), (42, _), (43, _), (44, _)]) (Sub.cons rfl (Sub.cons rfl (Sub.cons rfl (Sub.cons rfl (Sub.cons rfl (Sub.cons rfl (Sub.cons rfl (Sub.cons rfl (Sub.cons rfl (Sub.cons rfl (Sub.cons rfl (Sub.cons rfl Sub.nil)))))))))))) ?_
       refine W.sr ?_
       refine G.r (Runs.move rfl) ?_
       refine G.r (Runs.move rfl) ?_
       refine G.r (Runs.neq rfl rfl) ?_
       refine G.r (Runs.move rfl) ?_
       refine G.split (d := 87) rfl (fun g87 => ?_) (fun g87 => ?_)
       ·exact absurd rfl g87
       ·refine G.ro (Runs.move rfl) ?_
        refine G.ro (Runs.move rfl) ?_
        refine G.ro (Runs.neq rfl rfl) ?_
        refine G.r (Runs.pickf rfl rfl) ?_
        refine G.r (Runs.move rfl) ?_
        refine G.split (d := 92) rfl (fun g92 => ?_) (fun g92 => ?_)
        ·exact absurd rfl g92
        ·refine G.ro (Runs.lds (vs := [_, _]) ty99) ?_
         refine G.ro (Runs.lds (vs := [_, _]) ty99) ?_
         refine G.eff (Wanted.on rfl rfl rfl) (Eff.call call77 rfl rfl (Same03_ok (Sl.nil _) (Sl.nil _))) ?_
         rintro _ _ ⟨_, _, ⟨rfl, rfl⟩, rfl, rfl⟩
         refine G.ro (Runs.notd rfl) ?_
         refine G.r (Runs.pickf rfl rfl) ?_
         refine G.r (Runs.move rfl) ?_
         refine G.split (d := 98) rfl (fun g98 => ?_) (fun g98 => ?_)
         ·exact (g98 ⟨rfl, rfl⟩).elim
         ·refine G.ro (Runs.lds (vs := [_, _]) ty99) ?_
          refine G.ro (Runs.lds (vs := [_, _]) ty99) ?_
          refine G.eff (Wanted.on rfl rfl rfl) (Eff.call call77 rfl rfl (Same03_ok (Sl.nil _) (Sl.nil _))) ?_
          rintro _ _ ⟨_, _, ⟨rfl, rfl⟩, rfl, rfl⟩
          refine G.ro (Runs.notd rfl) ?_
          refine G.r (Runs.pickf rfl rfl) ?_
          refine G.nt ?_
          refine W.sub (L' := [(103, _), (8, _), (42, _), (43, _), (44, _)]) (Sub.cons rfl (Sub.cons rfl (Sub.cons rfl (Sub.cons rfl (Sub.cons rfl Sub.nil))))) ?_
          refine W.ite rfl (fun c103 => ?_) (fun c103 => ?_)
          ·exact (c103 ⟨rfl, rfl⟩).elim
          ·refine W.skip ?_
           refine V.block_normal ?_
           refine V.then ?_
           refine W.region ?_
           refine G.r (Runs.add rfl rfl (by unfold InR; omega)) ?_
           refine G.r (Runs.move rfl) ?_
           refine G.nil ?_
           exact V.next ((k + 1)) (show ((k + 1 : Nat) ≤ ([⟨u, v⟩, ⟨x15, x17⟩, ⟨x19, x21⟩] : List Pt).length) from (by omega)) (show ([⟨u, v⟩, ⟨x15, x17⟩, ⟨x19, x21⟩] : List Pt).length - (k + 1 : Nat) < ([⟨u, v⟩, ⟨x15, x17⟩, ⟨x19, x21⟩] : List Pt).length - k from (by omega)) (Sub.cons rfl (Sub.cons rfl (Sub.cons rfl (Sub.cons lookO Sub.nil)))) (show Fit κ _ (vc 60 (.slice ad23 3 3) (([⟨u, v⟩, ⟨x15, x17⟩, ⟨x19, x21⟩] : List Pt)) :: vc 150 (.slice sa es.length sc) (es) :: blk b7 [I64 (nd), .slice sa es.length sc] 99 :: blk dk1 [.slice la ln lc, I64 (i22)] 129 :: I) from Fit.sub)
      ·exact absurd hzad34 hnead31
     ·show G Try.prog κ _ _ _ _ ([(72, .tuple #[.agg #[I64 (nd), .slice ad31 (without es (edgeP ((at_ ([⟨u, v⟩, ⟨x15, x17⟩, ⟨x19, x21⟩] : List Pt) ((k : Nat) : Int)).u) ((at_ ([⟨u, v⟩, ⟨x15, x17⟩, ⟨x19, x21⟩] : List Pt) ((k : Nat) : Int)).v))).length cp32], I64 (0)]), (71, I64 ((at_ ([⟨u, v⟩, ⟨x15, x17⟩, ⟨x19, x21⟩] : List Pt) ((k : Nat) : Int)).v)), (70, .pointer (some ⟨b24, 1, none⟩)), (69, I64 ((at_ ([⟨u, v⟩, ⟨x15, x17⟩, ⟨x19, x21⟩] : List Pt) ((k : Nat) : Int)).u)), (68, .pointer (some ⟨b24, 0, none⟩)), (67, .agg #[I64 (nd), .slice sa es.length sc]), (14, I64 (addG nd es ((at_ ([⟨u, v⟩, ⟨x15, x17⟩, ⟨x19, x21⟩] : List Pt) ((k : Nat) : Int)).u) ((at_ ([⟨u, v⟩, ⟨x15, x17⟩, ⟨x19, x21⟩] : List Pt) ((k : Nat) : Int)).v))), (13, .pointer (some ⟨b30, 0, none⟩)), (12, I64 (addG nd es ((at_ ([⟨u, v⟩, ⟨x15, x17⟩, ⟨x19, x21⟩] : List Pt) ((k : Nat) : Int)).u) ((at_ ([⟨u, v⟩, ⟨x15, x17⟩, ⟨x19, x21⟩] : List Pt) ((k : Nat) : Int)).v))), (11, .pointer (some ⟨b27, 0, none⟩)), (10, .pointer (some ⟨b24, 0, none⟩)), (8, .pointer (some ⟨b7, 0, none⟩)), (42, .slice ad23 3 3), (43, I64 (((3 : Nat) : Int))), (44, I64 (((k : Nat) : Int)))] : Env) (vc 150 (.slice ad31 (without es (edgeP ((at_ ([⟨u, v⟩, ⟨x15, x17⟩, ⟨x19, x21⟩] : List Pt) ((k : Nat) : Int)).u) ((at_ ([⟨u, v⟩, ⟨x15, x17⟩, ⟨x19, x21⟩] : List Pt) ((k : Nat) : Int)).v))).length cp32) (without es (edgeP ((at_ ([⟨u, v⟩, ⟨x15, x17⟩, ⟨x19, x21⟩] : List Pt) ((k : Nat) : Int)).u) ((at_ ([⟨u, v⟩, ⟨x15, x17⟩, ⟨x19, x21⟩] : List Pt) ((k : Nat) : Int)).v))) :: blk b30 [I64 (0), .slice none 0 0] 99 :: blk b27 [I64 (0), .slice none 0 0] 99 :: blk b24 [I64 ((at_ ([⟨u, v⟩, ⟨x15, x17⟩, ⟨x19, x21⟩] : List Pt) ((k : Nat) : Int)).u), I64 ((at_ ([⟨u, v⟩, ⟨x15, x17⟩, ⟨x19, x21⟩] : List Pt) ((k : Nat) : Int)).v)] 60 :: vc 60 (.slice ad23 3 3) (([⟨u, v⟩, ⟨x15, x17⟩, ⟨x19, x21⟩] : List Pt)) :: vc 150 (.slice sa es.length sc) (es) :: blk b7 [I64 (nd), .slice sa es.length sc] 99 :: blk dk1 [.slice la ln lc, I64 (i22)] 129 :: I)
      refine G.r (Runs.move rfl) ?_
      refine G.r (Runs.extract rfl rfl) ?_
      refine G.r (Runs.extract rfl rfl) ?_
      refine G.e (Eff.alloc ty99 rfl) ?_
      rintro _ _ ⟨b37, rfl, rfl⟩
      refine G.e (Eff.st (cs := [_, _]) (vs := [_, _]) (cs' := [_, _]) ty99) ?_
      rintro _ _ ⟨rfl, rfl⟩
      refine G.r (Runs.assign rfl) ?_
      refine G.nt ?_
      refine W.sub (L' := [(16, _), (15, _), (14, _), (13, _), (12, _), (11, _), (10, _), (8, _), (42, _), (43, _), (44, _)]) (Sub.cons rfl (Sub.cons rfl (Sub.cons rfl (Sub.cons rfl (Sub.cons rfl (Sub.cons rfl (Sub.cons rfl (Sub.cons rfl (Sub.cons rfl (Sub.cons rfl (Sub.cons rfl Sub.nil))))))))))) ?_
      refine W.sr ?_
      refine G.r (Runs.lds (vs := [_, _]) ty99) ?_
      refine G.r (Runs.idxArr Try.underlying60 ty2 rfl rfl (by omega) (by omega)) ?_
      refine G.r (Runs.ld ty3) ?_
      refine G.r (Runs.idxArr Try.underlying60 ty2 rfl rfl (by omega) (by omega)) ?_
      refine G.r (Runs.ld ty3) ?_
      refine G.e (Eff.call call91 rfl rfl (Rem03_ok Sl.o ((at_ ([⟨u, v⟩, ⟨x15, x17⟩, ⟨x19, x21⟩] : List Pt) ((k : Nat) : Int)).u) ((at_ ([⟨u, v⟩, ⟨x15, x17⟩, ⟨x19, x21⟩] : List Pt) ((k : Nat) : Int)).v) (by omega))) ?_
      rintro _ _ ⟨_, _, (⟨hnead38, rfl, rfl⟩ | ⟨ad38, cp39, hzad38, rfl, rfl⟩), rfl, rfl⟩
      ·exact absurd hzad31 hnead38
      ·show G Try.prog κ _ _ _ _ ([(81, .tuple #[.agg #[I64 (nd), .slice ad38 (without es (edgeP ((at_ ([⟨u, v⟩, ⟨x15, x17⟩, ⟨x19, x21⟩] : List Pt) ((k : Nat) : Int)).u) ((at_ ([⟨u, v⟩, ⟨x15, x17⟩, ⟨x19, x21⟩] : List Pt) ((k : Nat) : Int)).v))).length cp39], I64 (0)]), (80, I64 ((at_ ([⟨u, v⟩, ⟨x15, x17⟩, ⟨x19, x21⟩] : List Pt) ((k : Nat) : Int)).v)), (79, .pointer (some ⟨b24, 1, none⟩)), (78, I64 ((at_ ([⟨u, v⟩, ⟨x15, x17⟩, ⟨x19, x21⟩] : List Pt) ((k : Nat) : Int)).u)), (77, .pointer (some ⟨b24, 0, none⟩)), (76, .agg #[I64 (nd), .slice sa es.length sc]), (16, I64 (0)), (15, .pointer (some ⟨b37, 0, none⟩)), (14, I64 (addG nd es ((at_ ([⟨u, v⟩, ⟨x15, x17⟩, ⟨x19, x21⟩] : List Pt) ((k : Nat) : Int)).u) ((at_ ([⟨u, v⟩, ⟨x15, x17⟩, ⟨x19, x21⟩] : List Pt) ((k : Nat) : Int)).v))), (13, .pointer (some ⟨b30, 0, none⟩)), (12, I64 (addG nd es ((at_ ([⟨u, v⟩, ⟨x15, x17⟩, ⟨x19, x21⟩] : List Pt) ((k : Nat) : Int)).u) ((at_ ([⟨u, v⟩, ⟨x15, x17⟩, ⟨x19, x21⟩] : List Pt) ((k : Nat) : Int)).v))), (11, .pointer (some ⟨b27, 0, none⟩)), (10, .pointer (some ⟨b24, 0, none⟩)), (8, .pointer (some ⟨b7, 0, none⟩)), (42, .slice ad23 3 3), (43, I64 (((3 : Nat) : Int))), (44, I64 (((k : Nat) : Int)))] : Env) (vc 150 (.slice ad38 (without es (edgeP ((at_ ([⟨u, v⟩, ⟨x15, x17⟩, ⟨x19, x21⟩] : List Pt) ((k : Nat) : Int)).u) ((at_ ([⟨u, v⟩, ⟨x15, x17⟩, ⟨x19, x21⟩] : List Pt) ((k : Nat) : Int)).v))).length cp39) (without es (edgeP ((at_ ([⟨u, v⟩, ⟨x15, x17⟩, ⟨x19, x21⟩] : List Pt) ((k : Nat) : Int)).u) ((at_ ([⟨u, v⟩, ⟨x15, x17⟩, ⟨x19, x21⟩] : List Pt) ((k : Nat) : Int)).v))) :: blk b37 [I64 (nd), .slice ad31 (without es (edgeP ((at_ ([⟨u, v⟩, ⟨x15, x17⟩, ⟨x19, x21⟩] : List Pt) ((k : Nat) : Int)).u) ((at_ ([⟨u, v⟩, ⟨x15, x17⟩, ⟨x19, x21⟩] : List Pt) ((k : Nat) : Int)).v))).length cp32] 99 :: vc 150 (.slice ad31 (without es (edgeP ((at_ ([⟨u, v⟩, ⟨x15, x17⟩, ⟨x19, x21⟩] : List Pt) ((k : Nat) : Int)).u) ((at_ ([⟨u, v⟩, ⟨x15, x17⟩, ⟨x19, x21⟩] : List Pt) ((k : Nat) : Int)).v))).length cp32) (without es (edgeP ((at_ ([⟨u, v⟩, ⟨x15, x17⟩, ⟨x19, x21⟩] : List Pt) ((k : Nat) : Int)).u) ((at_ ([⟨u, v⟩, ⟨x15, x17⟩, ⟨x19, x21⟩] : List Pt) ((k : Nat) : Int)).v))) :: blk b30 [I64 (0), .slice none 0 0] 99 :: blk b27 [I64 (0), .slice none 0 0] 99 :: blk b24 [I64 ((at_ ([⟨u, v⟩, ⟨x15, x17⟩, ⟨x19, x21⟩] : List Pt) ((k : Nat) : Int)).u), I64 ((at_ ([⟨u, v⟩, ⟨x15, x17⟩, ⟨x19, x21⟩] : List Pt) ((k : Nat) : Int)).v)] 60 :: vc 60 (.slice ad23 3 3) (([⟨u, v⟩, ⟨x15, x17⟩, ⟨x19, x21⟩] : List Pt)) :: vc 150 (.slice sa es.length sc) (es) :: blk b7 [I64 (nd), .slice sa es.length sc] 99 :: blk dk1 [.slice la ln lc, I64 (i22)] 129 :: I)
       refine G.r (Runs.move rfl) ?_
       refine G.r (Runs.extract rfl rfl) ?_
       refine G.r (Runs.extract rfl rfl) ?_
       refine G.e (Eff.alloc ty99 rfl) ?_
       rintro _ _ ⟨b40, rfl, rfl⟩
       refine G.e (Eff.st (cs := [_, _]) (vs := [_, _]) (cs' := [_, _]) ty99) ?_
       rintro _ _ ⟨rfl, rfl⟩
       refine G.r (Runs.assign rfl) ?_
       refine G.nt ?_
       refine W.sub (L' := [(18, _), (17, _), (16, _), (15, _), (14, _), (13, _), (12, _), (11, _), (8, _), (42, _), (43, _), (44, _)]) (Sub.cons rfl (Sub.cons rfl (Sub.cons rfl (Sub.cons rfl (Sub.cons rfl (Sub.cons rfl (Sub.cons rfl (Sub.cons rfl (Sub.cons rfl (Sub.cons rfl (Sub.cons rfl (Sub.cons rfl Sub.nil)))))))))))) ?_
       refine W.sr ?_
       refine G.r (Runs.move rfl) ?_
       refine G.r (Runs.move rfl) ?_
       refine G.r (Runs.neq rfl rfl) ?_
       refine G.r (Runs.move rfl) ?_
       refine G.split (d := 87) rfl (fun g87 => ?_) (fun g87 => ?_)
       ·exact absurd rfl g87
       ·refine G.ro (Runs.move rfl) ?_
        refine G.ro (Runs.move rfl) ?_
        refine G.ro (Runs.neq rfl rfl) ?_
        refine G.r (Runs.pickf rfl rfl) ?_
        refine G.r (Runs.move rfl) ?_
        refine G.split (d := 92) rfl (fun g92 => ?_) (fun g92 => ?_)
        ·exact absurd rfl g92
        ·refine G.ro (Runs.lds (vs := [_, _]) ty99) ?_
         refine G.ro (Runs.lds (vs := [_, _]) ty99) ?_
         refine G.eff (Wanted.on rfl rfl rfl) (Eff.call call77 rfl rfl (Same03_ok (Sl.nil _) (Sl.nil _))) ?_
         rintro _ _ ⟨_, _, ⟨rfl, rfl⟩, rfl, rfl⟩
         refine G.ro (Runs.notd rfl) ?_
         refine G.r (Runs.pickf rfl rfl) ?_
         refine G.r (Runs.move rfl) ?_
         refine G.split (d := 98) rfl (fun g98 => ?_) (fun g98 => ?_)
         ·exact (g98 ⟨rfl, rfl⟩).elim
         ·refine G.ro (Runs.lds (vs := [_, _]) ty99) ?_
          refine G.ro (Runs.lds (vs := [_, _]) ty99) ?_
          refine G.eff (Wanted.on rfl rfl rfl) (Eff.call call77 rfl rfl (Same03_ok Sl.o Sl.o)) ?_
          rintro _ _ ⟨_, _, ⟨rfl, rfl⟩, rfl, rfl⟩
          refine G.ro (Runs.notd rfl) ?_
          refine G.r (Runs.pickf rfl rfl) ?_
          refine G.nt ?_
          refine W.sub (L' := [(103, _), (8, _), (42, _), (43, _), (44, _)]) (Sub.cons rfl (Sub.cons rfl (Sub.cons rfl (Sub.cons rfl (Sub.cons rfl Sub.nil))))) ?_
          refine W.ite rfl (fun c103 => ?_) (fun c103 => ?_)
          ·exact (c103 ⟨rfl, rfl⟩).elim
          ·refine W.skip ?_
           refine V.block_normal ?_
           refine V.then ?_
           refine W.region ?_
           refine G.r (Runs.add rfl rfl (by unfold InR; omega)) ?_
           refine G.r (Runs.move rfl) ?_
           refine G.nil ?_
           exact V.next ((k + 1)) (show ((k + 1 : Nat) ≤ ([⟨u, v⟩, ⟨x15, x17⟩, ⟨x19, x21⟩] : List Pt).length) from (by omega)) (show ([⟨u, v⟩, ⟨x15, x17⟩, ⟨x19, x21⟩] : List Pt).length - (k + 1 : Nat) < ([⟨u, v⟩, ⟨x15, x17⟩, ⟨x19, x21⟩] : List Pt).length - k from (by omega)) (Sub.cons rfl (Sub.cons rfl (Sub.cons rfl (Sub.cons lookO Sub.nil)))) (show Fit κ _ (vc 60 (.slice ad23 3 3) (([⟨u, v⟩, ⟨x15, x17⟩, ⟨x19, x21⟩] : List Pt)) :: vc 150 (.slice sa es.length sc) (es) :: blk b7 [I64 (nd), .slice sa es.length sc] 99 :: blk dk1 [.slice la ln lc, I64 (i22)] 129 :: I) from Fit.sub)
    ·exact absurd hzad28 hnead25
   ·show G Try.prog κ _ _ _ _ ([(54, .tuple #[.agg #[I64 (nd), .slice ad25 (insB Pt.lt es (edgeP ((at_ ([⟨u, v⟩, ⟨x15, x17⟩, ⟨x19, x21⟩] : List Pt) ((k : Nat) : Int)).u) ((at_ ([⟨u, v⟩, ⟨x15, x17⟩, ⟨x19, x21⟩] : List Pt) ((k : Nat) : Int)).v))).length cp26], I64 (0)]), (53, I64 ((at_ ([⟨u, v⟩, ⟨x15, x17⟩, ⟨x19, x21⟩] : List Pt) ((k : Nat) : Int)).v)), (52, .pointer (some ⟨b24, 1, none⟩)), (51, I64 ((at_ ([⟨u, v⟩, ⟨x15, x17⟩, ⟨x19, x21⟩] : List Pt) ((k : Nat) : Int)).u)), (50, .pointer (some ⟨b24, 0, none⟩)), (49, .agg #[I64 (nd), .slice sa es.length sc]), (10, .pointer (some ⟨b24, 0, none⟩)), (47, .agg #[I64 ((at_ ([⟨u, v⟩, ⟨x15, x17⟩, ⟨x19, x21⟩] : List Pt) ((k : Nat) : Int)).u), I64 ((at_ ([⟨u, v⟩, ⟨x15, x17⟩, ⟨x19, x21⟩] : List Pt) ((k : Nat) : Int)).v)]), (46, elemPtr (.slice ad23 3 3) ((((k : Nat) : Int)).toNat * Enc.sz Pt)), (45, .bool (decide (((k : Nat) : Int) < ((3 : Nat) : Int)))), (8, .pointer (some ⟨b7, 0, none⟩)), (42, .slice ad23 3 3), (43, I64 (((3 : Nat) : Int))), (44, I64 (((k : Nat) : Int)))] : Env) (vc 150 (.slice ad25 (insB Pt.lt es (edgeP ((at_ ([⟨u, v⟩, ⟨x15, x17⟩, ⟨x19, x21⟩] : List Pt) ((k : Nat) : Int)).u) ((at_ ([⟨u, v⟩, ⟨x15, x17⟩, ⟨x19, x21⟩] : List Pt) ((k : Nat) : Int)).v))).length cp26) (insB Pt.lt es (edgeP ((at_ ([⟨u, v⟩, ⟨x15, x17⟩, ⟨x19, x21⟩] : List Pt) ((k : Nat) : Int)).u) ((at_ ([⟨u, v⟩, ⟨x15, x17⟩, ⟨x19, x21⟩] : List Pt) ((k : Nat) : Int)).v))) :: blk b24 [I64 ((at_ ([⟨u, v⟩, ⟨x15, x17⟩, ⟨x19, x21⟩] : List Pt) ((k : Nat) : Int)).u), I64 ((at_ ([⟨u, v⟩, ⟨x15, x17⟩, ⟨x19, x21⟩] : List Pt) ((k : Nat) : Int)).v)] 60 :: vc 60 (.slice ad23 3 3) (([⟨u, v⟩, ⟨x15, x17⟩, ⟨x19, x21⟩] : List Pt)) :: vc 150 (.slice sa es.length sc) (es) :: blk b7 [I64 (nd), .slice sa es.length sc] 99 :: blk dk1 [.slice la ln lc, I64 (i22)] 129 :: I)
    refine G.r (Runs.move rfl) ?_
    refine G.r (Runs.extract rfl rfl) ?_
    refine G.r (Runs.extract rfl rfl) ?_
    refine G.e (Eff.alloc ty99 rfl) ?_
    rintro _ _ ⟨b41, rfl, rfl⟩
    refine G.e (Eff.st (cs := [_, _]) (vs := [_, _]) (cs' := [_, _]) ty99) ?_
    rintro _ _ ⟨rfl, rfl⟩
    refine G.r (Runs.assign rfl) ?_
    refine G.nt ?_
    refine W.sub (L' := [(12, _), (11, _), (10, _), (8, _), (42, _), (43, _), (44, _)]) (Sub.cons rfl (Sub.cons rfl (Sub.cons rfl (Sub.cons rfl (Sub.cons rfl (Sub.cons rfl (Sub.cons rfl Sub.nil))))))) ?_
    refine W.sr ?_
    refine G.r (Runs.lds (vs := [_, _]) ty99) ?_
    refine G.r (Runs.idxArr Try.underlying60 ty2 rfl rfl (by omega) (by omega)) ?_
    refine G.r (Runs.ld ty3) ?_
    refine G.r (Runs.idxArr Try.underlying60 ty2 rfl rfl (by omega) (by omega)) ?_
    refine G.r (Runs.ld ty3) ?_
    refine G.e (Eff.call call89 rfl rfl (Add03_ok Sl.o ((at_ ([⟨u, v⟩, ⟨x15, x17⟩, ⟨x19, x21⟩] : List Pt) ((k : Nat) : Int)).u) ((at_ ([⟨u, v⟩, ⟨x15, x17⟩, ⟨x19, x21⟩] : List Pt) ((k : Nat) : Int)).v) (by omega))) ?_
    rintro _ _ ⟨_, _, (⟨hnead42, rfl, rfl⟩ | ⟨ad42, cp43, hzad42, rfl, rfl⟩), rfl, rfl⟩
    ·exact absurd hzad25 hnead42
    ·show G Try.prog κ _ _ _ _ ([(63, .tuple #[.agg #[I64 (nd), .slice ad42 (insB Pt.lt es (edgeP ((at_ ([⟨u, v⟩, ⟨x15, x17⟩, ⟨x19, x21⟩] : List Pt) ((k : Nat) : Int)).u) ((at_ ([⟨u, v⟩, ⟨x15, x17⟩, ⟨x19, x21⟩] : List Pt) ((k : Nat) : Int)).v))).length cp43], I64 (0)]), (62, I64 ((at_ ([⟨u, v⟩, ⟨x15, x17⟩, ⟨x19, x21⟩] : List Pt) ((k : Nat) : Int)).v)), (61, .pointer (some ⟨b24, 1, none⟩)), (60, I64 ((at_ ([⟨u, v⟩, ⟨x15, x17⟩, ⟨x19, x21⟩] : List Pt) ((k : Nat) : Int)).u)), (59, .pointer (some ⟨b24, 0, none⟩)), (58, .agg #[I64 (nd), .slice sa es.length sc]), (12, I64 (0)), (11, .pointer (some ⟨b41, 0, none⟩)), (10, .pointer (some ⟨b24, 0, none⟩)), (8, .pointer (some ⟨b7, 0, none⟩)), (42, .slice ad23 3 3), (43, I64 (((3 : Nat) : Int))), (44, I64 (((k : Nat) : Int)))] : Env) (vc 150 (.slice ad42 (insB Pt.lt es (edgeP ((at_ ([⟨u, v⟩, ⟨x15, x17⟩, ⟨x19, x21⟩] : List Pt) ((k : Nat) : Int)).u) ((at_ ([⟨u, v⟩, ⟨x15, x17⟩, ⟨x19, x21⟩] : List Pt) ((k : Nat) : Int)).v))).length cp43) (insB Pt.lt es (edgeP ((at_ ([⟨u, v⟩, ⟨x15, x17⟩, ⟨x19, x21⟩] : List Pt) ((k : Nat) : Int)).u) ((at_ ([⟨u, v⟩, ⟨x15, x17⟩, ⟨x19, x21⟩] : List Pt) ((k : Nat) : Int)).v))) :: blk b41 [I64 (nd), .slice ad25 (insB Pt.lt es (edgeP ((at_ ([⟨u, v⟩, ⟨x15, x17⟩, ⟨x19, x21⟩] : List Pt) ((k : Nat) : Int)).u) ((at_ ([⟨u, v⟩, ⟨x15, x17⟩, ⟨x19, x21⟩] : List Pt) ((k : Nat) : Int)).v))).length cp26] 99 :: vc 150 (.slice ad25 (insB Pt.lt es (edgeP ((at_ ([⟨u, v⟩, ⟨x15, x17⟩, ⟨x19, x21⟩] : List Pt) ((k : Nat) : Int)).u) ((at_ ([⟨u, v⟩, ⟨x15, x17⟩, ⟨x19, x21⟩] : List Pt) ((k : Nat) : Int)).v))).length cp26) (insB Pt.lt es (edgeP ((at_ ([⟨u, v⟩, ⟨x15, x17⟩, ⟨x19, x21⟩] : List Pt) ((k : Nat) : Int)).u) ((at_ ([⟨u, v⟩, ⟨x15, x17⟩, ⟨x19, x21⟩] : List Pt) ((k : Nat) : Int)).v))) :: blk b24 [I64 ((at_ ([⟨u, v⟩, ⟨x15, x17⟩, ⟨x19, x21⟩] : List Pt) ((k : Nat) : Int)).u), I64 ((at_ ([⟨u, v⟩, ⟨x15, x17⟩, ⟨x19, x21⟩] : List Pt) ((k : Nat) : Int)).v)] 60 :: vc 60 (.slice ad23 3 3) (([⟨u, v⟩, ⟨x15, x17⟩, ⟨x19, x21⟩] : List Pt)) :: vc 150 (.slice sa es.length sc) (es) :: blk b7 [I64 (nd), .slice sa es.length sc] 99 :: blk dk1 [.slice la ln lc, I64 (i22)] 129 :: I)
     refine G.r (Runs.move rfl) ?_
     refine G.r (Runs.extract rfl rfl) ?_
     refine G.r (Runs.extract rfl rfl) ?_
     refine G.e (Eff.alloc ty99 rfl) ?_
     rintro _ _ ⟨b44, rfl, rfl⟩
     refine G.e (Eff.st (cs := [_, _]) (vs := [_, _]) (cs' := [_, _]) ty99) ?_
     rintro _ _ ⟨rfl, rfl⟩
     refine G.r (Runs.assign rfl) ?_
     refine G.nt ?_
     refine W.sub (L' := [(14, _), (13, _), (12, _), (11, _), (10, _), (8, _), (42, _), (43, _), (44, _)]) (Sub.cons rfl (Sub.cons rfl (Sub.cons rfl (Sub.cons rfl (Sub.cons rfl (Sub.cons rfl (Sub.cons rfl (Sub.cons rfl (Sub.cons rfl Sub.nil))))))))) ?_
     refine W.sr ?_
     refine G.r (Runs.lds (vs := [_, _]) ty99) ?_
     refine G.r (Runs.idxArr Try.underlying60 ty2 rfl rfl (by omega) (by omega)) ?_
     refine G.r (Runs.ld ty3) ?_
     refine G.r (Runs.idxArr Try.underlying60 ty2 rfl rfl (by omega) (by omega)) ?_
     refine G.r (Runs.ld ty3) ?_
     refine G.e (Eff.call call90 rfl rfl (RemG_ok Sl.o ((at_ ([⟨u, v⟩, ⟨x15, x17⟩, ⟨x19, x21⟩] : List Pt) ((k : Nat) : Int)).u) ((at_ ([⟨u, v⟩, ⟨x15, x17⟩, ⟨x19, x21⟩] : List Pt) ((k : Nat) : Int)).v) (by omega))) ?_
     rintro _ _ ⟨_, _, (⟨hnead45, rfl, rfl⟩ | ⟨ad45, cp46, hzad45, rfl, rfl⟩), rfl, rfl⟩
     ·show G Try.prog κ _ _ _ _ ([(72, .tuple #[.agg #[I64 (0), .slice none 0 0], I64 (remG nd es ((at_ ([⟨u, v⟩, ⟨x15, x17⟩, ⟨x19, x21⟩] : List Pt) ((k : Nat) : Int)).u) ((at_ ([⟨u, v⟩, ⟨x15, x17⟩, ⟨x19, x21⟩] : List Pt) ((k : Nat) : Int)).v))]), (71, I64 ((at_ ([⟨u, v⟩, ⟨x15, x17⟩, ⟨x19, x21⟩] : List Pt) ((k : Nat) : Int)).v)), (70, .pointer (some ⟨b24, 1, none⟩)), (69, I64 ((at_ ([⟨u, v⟩, ⟨x15, x17⟩, ⟨x19, x21⟩] : List Pt) ((k : Nat) : Int)).u)), (68, .pointer (some ⟨b24, 0, none⟩)), (67, .agg #[I64 (nd), .slice sa es.length sc]), (14, I64 (0)), (13, .pointer (some ⟨b44, 0, none⟩)), (12, I64 (0)), (11, .pointer (some ⟨b41, 0, none⟩)), (10, .pointer (some ⟨b24, 0, none⟩)), (8, .pointer (some ⟨b7, 0, none⟩)), (42, .slice ad23 3 3), (43, I64 (((3 : Nat) : Int))), (44, I64 (((k : Nat) : Int)))] : Env) (blk b44 [I64 (nd), .slice ad42 (insB Pt.lt es (edgeP ((at_ ([⟨u, v⟩, ⟨x15, x17⟩, ⟨x19, x21⟩] : List Pt) ((k : Nat) : Int)).u) ((at_ ([⟨u, v⟩, ⟨x15, x17⟩, ⟨x19, x21⟩] : List Pt) ((k : Nat) : Int)).v))).length cp43] 99 :: vc 150 (.slice ad42 (insB Pt.lt es (edgeP ((at_ ([⟨u, v⟩, ⟨x15, x17⟩, ⟨x19, x21⟩] : List Pt) ((k : Nat) : Int)).u) ((at_ ([⟨u, v⟩, ⟨x15, x17⟩, ⟨x19, x21⟩] : List Pt) ((k : Nat) : Int)).v))).length cp43) (insB Pt.lt es (edgeP ((at_ ([⟨u, v⟩, ⟨x15, x17⟩, ⟨x19, x21⟩] : List Pt) ((k : Nat) : Int)).u) ((at_ ([⟨u, v⟩, ⟨x15, x17⟩, ⟨x19, x21⟩] : List Pt) ((k : Nat) : Int)).v))) :: blk b41 [I64 (nd), .slice ad25 (insB Pt.lt es (edgeP ((at_ ([⟨u, v⟩, ⟨x15, x17⟩, ⟨x19, x21⟩] : List Pt) ((k : Nat) : Int)).u) ((at_ ([⟨u, v⟩, ⟨x15, x17⟩, ⟨x19, x21⟩] : List Pt) ((k : Nat) : Int)).v))).length cp26] 99 :: vc 150 (.slice ad25 (insB Pt.lt es (edgeP ((at_ ([⟨u, v⟩, ⟨x15, x17⟩, ⟨x19, x21⟩] : List Pt) ((k : Nat) : Int)).u) ((at_ ([⟨u, v⟩, ⟨x15, x17⟩, ⟨x19, x21⟩] : List Pt) ((k : Nat) : Int)).v))).length cp26) (insB Pt.lt es (edgeP ((at_ ([⟨u, v⟩, ⟨x15, x17⟩, ⟨x19, x21⟩] : List Pt) ((k : Nat) : Int)).u) ((at_ ([⟨u, v⟩, ⟨x15, x17⟩, ⟨x19, x21⟩] : List Pt) ((k : Nat) : Int)).v))) :: blk b24 [I64 ((at_ ([⟨u, v⟩, ⟨x15, x17⟩, ⟨x19, x21⟩] : List Pt) ((k : Nat) : Int)).u), I64 ((at_ ([⟨u, v⟩, ⟨x15, x17⟩, ⟨x19, x21⟩] : List Pt) ((k : Nat) : Int)).v)] 60 :: vc 60 (.slice ad23 3 3) (([⟨u, v⟩, ⟨x15, x17⟩, ⟨x19, x21⟩] : List Pt)) :: vc 150 (.slice sa es.length sc) (es) :: blk b7 [I64 (nd), .slice sa es.length sc] 99 :: blk dk1 [.slice la ln lc, I64 (i22)] 129 :: I)
      refine G.r (Runs.move rfl) ?_
      refine G.r (Runs.extract rfl rfl) ?_
      refine G.r (Runs.extract rfl rfl) ?_
      refine G.e (Eff.alloc ty99 rfl) ?_
      rintro _ _ ⟨b47, rfl, rfl⟩
      refine G.e (Eff.st (cs := [_, _]) (vs := [_, _]) (cs' := [_, _]) ty99) ?_
      rintro _ _ ⟨rfl, rfl⟩
      refine G.r (Runs.assign rfl) ?_
      refine G.nt ?_
      refine W.sub (L' := [(16, _), (15, _), (14, _), (13, _), (12, _), (11, _), (10, _), (8, _), (42, _), (43, _), (44, _)]) (Sub.cons rfl (Sub.cons rfl (Sub.cons rfl (Sub.cons rfl (Sub.cons rfl (Sub.cons rfl (Sub.cons rfl (Sub.cons rfl (Sub.cons rfl (Sub.cons rfl (Sub.cons rfl Sub.nil))))))))))) ?_
      refine W.sr ?_
      refine G.r (Runs.lds (vs := [_, _]) ty99) ?_
      refine G.r (Runs.idxArr Try.underlying60 ty2 rfl rfl (by omega) (by omega)) ?_
      refine G.r (Runs.ld ty3) ?_
      refine G.r (Runs.idxArr Try.underlying60 ty2 rfl rfl (by omega) (by omega)) ?_
      refine G.r (Runs.ld ty3) ?_
      refine G.e (Eff.call call91 rfl rfl (Rem03_ok Sl.o ((at_ ([⟨u, v⟩, ⟨x15, x17⟩, ⟨x19, x21⟩] : List Pt) ((k : Nat) : Int)).u) ((at_ ([⟨u, v⟩, ⟨x15, x17⟩, ⟨x19, x21⟩] : List Pt) ((k : Nat) : Int)).v) (by omega))) ?_
      rintro _ _ ⟨_, _, (⟨hnead48, rfl, rfl⟩ | ⟨ad48, cp49, hzad48, rfl, rfl⟩), rfl, rfl⟩
      ·show G Try.prog κ _ _ _ _ ([(81, .tuple #[.agg #[I64 (0), .slice none 0 0], I64 (remG nd es ((at_ ([⟨u, v⟩, ⟨x15, x17⟩, ⟨x19, x21⟩] : List Pt) ((k : Nat) : Int)).u) ((at_ ([⟨u, v⟩, ⟨x15, x17⟩, ⟨x19, x21⟩] : List Pt) ((k : Nat) : Int)).v))]), (80, I64 ((at_ ([⟨u, v⟩, ⟨x15, x17⟩, ⟨x19, x21⟩] : List Pt) ((k : Nat) : Int)).v)), (79, .pointer (some ⟨b24, 1, none⟩)), (78, I64 ((at_ ([⟨u, v⟩, ⟨x15, x17⟩, ⟨x19, x21⟩] : List Pt) ((k : Nat) : Int)).u)), (77, .pointer (some ⟨b24, 0, none⟩)), (76, .agg #[I64 (nd), .slice sa es.length sc]), (16, I64 (remG nd es ((at_ ([⟨u, v⟩, ⟨x15, x17⟩, ⟨x19, x21⟩] : List Pt) ((k : Nat) : Int)).u) ((at_ ([⟨u, v⟩, ⟨x15, x17⟩, ⟨x19, x21⟩] : List Pt) ((k : Nat) : Int)).v))), (15, .pointer (some ⟨b47, 0, none⟩)), (14, I64 (0)), (13, .pointer (some ⟨b44, 0, none⟩)), (12, I64 (0)), (11, .pointer (some ⟨b41, 0, none⟩)), (10, .pointer (some ⟨b24, 0, none⟩)), (8, .pointer (some ⟨b7, 0, none⟩)), (42, .slice ad23 3 3), (43, I64 (((3 : Nat) : Int))), (44, I64 (((k : Nat) : Int)))] : Env) (blk b47 [I64 (0), .slice none 0 0] 99 :: blk b44 [I64 (nd), .slice ad42 (insB Pt.lt es (edgeP ((at_ ([⟨u, v⟩, ⟨x15, x17⟩, ⟨x19, x21⟩] : List Pt) ((k : Nat) : Int)).u) ((at_ ([⟨u, v⟩, ⟨x15, x17⟩, ⟨x19, x21⟩] : List Pt) ((k : Nat) : Int)).v))).length cp43] 99 :: vc 150 (.slice ad42 (insB Pt.lt es (edgeP ((at_ ([⟨u, v⟩, ⟨x15, x17⟩, ⟨x19, x21⟩] : List Pt) ((k : Nat) : Int)).u) ((at_ ([⟨u, v⟩, ⟨x15, x17⟩, ⟨x19, x21⟩] : List Pt) ((k : Nat) : Int)).v))).length cp43) (insB Pt.lt es (edgeP ((at_ ([⟨u, v⟩, ⟨x15, x17⟩, ⟨x19, x21⟩] : List Pt) ((k : Nat) : Int)).u) ((at_ ([⟨u, v⟩, ⟨x15, x17⟩, ⟨x19, x21⟩] : List Pt) ((k : Nat) : Int)).v))) :: blk b41 [I64 (nd), .slice ad25 (insB Pt.lt es (edgeP ((at_ ([⟨u, v⟩, ⟨x15, x17⟩, ⟨x19, x21⟩] : List Pt) ((k : Nat) : Int)).u) ((at_ ([⟨u, v⟩, ⟨x15, x17⟩, ⟨x19, x21⟩] : List Pt) ((k : Nat) : Int)).v))).length cp26] 99 :: vc 150 (.slice ad25 (insB Pt.lt es (edgeP ((at_ ([⟨u, v⟩, ⟨x15, x17⟩, ⟨x19, x21⟩] : List Pt) ((k : Nat) : Int)).u) ((at_ ([⟨u, v⟩, ⟨x15, x17⟩, ⟨x19, x21⟩] : List Pt) ((k : Nat) : Int)).v))).length cp26) (insB Pt.lt es (edgeP ((at_ ([⟨u, v⟩, ⟨x15, x17⟩, ⟨x19, x21⟩] : List Pt) ((k : Nat) : Int)).u) ((at_ ([⟨u, v⟩, ⟨x15, x17⟩, ⟨x19, x21⟩] : List Pt) ((k : Nat) : Int)).v))) :: blk b24 [I64 ((at_ ([⟨u, v⟩, ⟨x15, x17⟩, ⟨x19, x21⟩] : List Pt) ((k : Nat) : Int)).u), I64 ((at_ ([⟨u, v⟩, ⟨x15, x17⟩, ⟨x19, x21⟩] : List Pt) ((k : Nat) : Int)).v)] 60 :: vc 60 (.slice ad23 3 3) (([⟨u, v⟩, ⟨x15, x17⟩, ⟨x19, x21⟩] : List Pt)) :: vc 150 (.slice sa es.length sc) (es) :: blk b7 [I64 (nd), .slice sa es.length sc] 99 :: blk dk1 [.slice la ln lc, I64 (i22)] 129 :: I)
       refine G.r (Runs.move rfl) ?_
       refine G.r (Runs.extract rfl rfl) ?_
       refine G.r (Runs.extract rfl rfl) ?_
       refine G.e (Eff.alloc ty99 rfl) ?_
       rintro _ _ ⟨b50, rfl, rfl⟩
       refine G.e (Eff.st (cs := [_, _]) (vs := [_, _]) (cs' := [_, _]) ty99) ?_
       rintro _ _ ⟨rfl, rfl⟩
       refine G.r (Runs.assign rfl) ?_
       refine G.nt ?_
       refine W.sub (L' := [(18, _), (17, _), (16, _), (15, _), (14, _), (13, _), (12, _), (11, _), (8, _), (42, _), (43, _), (44, _)]) (Sub.cons rfl (Sub.cons rfl (Sub.cons rfl (Sub.cons rfl (Sub.cons rfl (Sub.cons rfl (Sub.cons rfl (Sub.cons rfl (Sub.cons rfl (Sub.cons rfl (Sub.cons rfl (Sub.cons rfl Sub.nil)))))))))))) ?_
       refine W.sr ?_
       refine G.r (Runs.move rfl) ?_
       refine G.r (Runs.move rfl) ?_
       refine G.r (Runs.neq rfl rfl) ?_
       refine G.r (Runs.move rfl) ?_
       refine G.split (d := 87) rfl (fun g87 => ?_) (fun g87 => ?_)
       ·exact absurd rfl g87
       ·refine G.ro (Runs.move rfl) ?_
        refine G.ro (Runs.move rfl) ?_
        refine G.ro (Runs.neq rfl rfl) ?_
        refine G.r (Runs.pickf rfl rfl) ?_
        refine G.r (Runs.move rfl) ?_
        refine G.split (d := 92) rfl (fun g92 => ?_) (fun g92 => ?_)
        ·exact absurd rfl g92
        ·refine G.ro (Runs.lds (vs := [_, _]) ty99) ?_
         refine G.ro (Runs.lds (vs := [_, _]) ty99) ?_
         refine G.eff (Wanted.on rfl rfl rfl) (Eff.call call77 rfl rfl (Same03_ok Sl.o Sl.o)) ?_
         rintro _ _ ⟨_, _, ⟨rfl, rfl⟩, rfl, rfl⟩
         refine G.ro (Runs.notd rfl) ?_
         refine G.r (Runs.pickf rfl rfl) ?_
         refine G.r (Runs.move rfl) ?_
         refine G.split (d := 98) rfl (fun g98 => ?_) (fun g98 => ?_)
         ·exact (g98 ⟨rfl, rfl⟩).elim
         ·refine G.ro (Runs.lds (vs := [_, _]) ty99) ?_
          refine G.ro (Runs.lds (vs := [_, _]) ty99) ?_
          refine G.eff (Wanted.on rfl rfl rfl) (Eff.call call77 rfl rfl (Same03_ok (Sl.nil _) (Sl.nil _))) ?_
          rintro _ _ ⟨_, _, ⟨rfl, rfl⟩, rfl, rfl⟩
          refine G.ro (Runs.notd rfl) ?_
          refine G.r (Runs.pickf rfl rfl) ?_
          refine G.nt ?_
          refine W.sub (L' := [(103, _), (8, _), (42, _), (43, _), (44, _)]) (Sub.cons rfl (Sub.cons rfl (Sub.cons rfl (Sub.cons rfl (Sub.cons rfl Sub.nil))))) ?_
          refine W.ite rfl (fun c103 => ?_) (fun c103 => ?_)
          ·exact (c103 ⟨rfl, rfl⟩).elim
          ·refine W.skip ?_
           refine V.block_normal ?_
           refine V.then ?_
           refine W.region ?_
           refine G.r (Runs.add rfl rfl (by unfold InR; omega)) ?_
           refine G.r (Runs.move rfl) ?_
           refine G.nil ?_
           exact V.next ((k + 1)) (show ((k + 1 : Nat) ≤ ([⟨u, v⟩, ⟨x15, x17⟩, ⟨x19, x21⟩] : List Pt).length) from (by omega)) (show ([⟨u, v⟩, ⟨x15, x17⟩, ⟨x19, x21⟩] : List Pt).length - (k + 1 : Nat) < ([⟨u, v⟩, ⟨x15, x17⟩, ⟨x19, x21⟩] : List Pt).length - k from (by omega)) (Sub.cons rfl (Sub.cons rfl (Sub.cons rfl (Sub.cons lookO Sub.nil)))) (show Fit κ _ (vc 60 (.slice ad23 3 3) (([⟨u, v⟩, ⟨x15, x17⟩, ⟨x19, x21⟩] : List Pt)) :: vc 150 (.slice sa es.length sc) (es) :: blk b7 [I64 (nd), .slice sa es.length sc] 99 :: blk dk1 [.slice la ln lc, I64 (i22)] 129 :: I) from Fit.sub)
      ·exact absurd hzad48 hnead45
     ·show G Try.prog κ _ _ _ _ ([(72, .tuple #[.agg #[I64 (nd), .slice ad45 (without es (edgeP ((at_ ([⟨u, v⟩, ⟨x15, x17⟩, ⟨x19, x21⟩] : List Pt) ((k : Nat) : Int)).u) ((at_ ([⟨u, v⟩, ⟨x15, x17⟩, ⟨x19, x21⟩] : List Pt) ((k : Nat) : Int)).v))).length cp46], I64 (0)]), (71, I64 ((at_ ([⟨u, v⟩, ⟨x15, x17⟩, ⟨x19, x21⟩] : List Pt) ((k : Nat) : Int)).v)), (70, .pointer (some ⟨b24, 1, none⟩)), (69, I64 ((at_ ([⟨u, v⟩, ⟨x15, x17⟩, ⟨x19, x21⟩] : List Pt) ((k : Nat) : Int)).u)), (68, .pointer (some ⟨b24, 0, none⟩)), (67, .agg #[I64 (nd), .slice sa es.length sc]), (14, I64 (0)), (13, .pointer (some ⟨b44, 0, none⟩)), (12, I64 (0)), (11, .pointer (some ⟨b41, 0, none⟩)), (10, .pointer (some ⟨b24, 0, none⟩)), (8, .pointer (some ⟨b7, 0, none⟩)), (42, .slice ad23 3 3), (43, I64 (((3 : Nat) : Int))), (44, I64 (((k : Nat) : Int)))] : Env) (vc 150 (.slice ad45 (without es (edgeP ((at_ ([⟨u, v⟩, ⟨x15, x17⟩, ⟨x19, x21⟩] : List Pt) ((k : Nat) : Int)).u) ((at_ ([⟨u, v⟩, ⟨x15, x17⟩, ⟨x19, x21⟩] : List Pt) ((k : Nat) : Int)).v))).length cp46) (without es (edgeP ((at_ ([⟨u, v⟩, ⟨x15, x17⟩, ⟨x19, x21⟩] : List Pt) ((k : Nat) : Int)).u) ((at_ ([⟨u, v⟩, ⟨x15, x17⟩, ⟨x19, x21⟩] : List Pt) ((k : Nat) : Int)).v))) :: blk b44 [I64 (nd), .slice ad42 (insB Pt.lt es (edgeP ((at_ ([⟨u, v⟩, ⟨x15, x17⟩, ⟨x19, x21⟩] : List Pt) ((k : Nat) : Int)).u) ((at_ ([⟨u, v⟩, ⟨x15, x17⟩, ⟨x19, x21⟩] : List Pt) ((k : Nat) : Int)).v))).length cp43] 99 :: vc 150 (.slice ad42 (insB Pt.lt es (edgeP ((at_ ([⟨u, v⟩, ⟨x15, x17⟩, ⟨x19, x21⟩] : List Pt) ((k : Nat) : Int)).u) ((at_ ([⟨u, v⟩, ⟨x15, x17⟩, ⟨x19, x21⟩] : List Pt) ((k : Nat) : Int)).v))).length cp43) (insB Pt.lt es (edgeP ((at_ ([⟨u, v⟩, ⟨x15, x17⟩, ⟨x19, x21⟩] : List Pt) ((k : Nat) : Int)).u) ((at_ ([⟨u, v⟩, ⟨x15, x17⟩, ⟨x19, x21⟩] : List Pt) ((k : Nat) : Int)).v))) :: blk b41 [I64 (nd), .slice ad25 (insB Pt.lt es (edgeP ((at_ ([⟨u, v⟩, ⟨x15, x17⟩, ⟨x19, x21⟩] : List Pt) ((k : Nat) : Int)).u) ((at_ ([⟨u, v⟩, ⟨x15, x17⟩, ⟨x19, x21⟩] : List Pt) ((k : Nat) : Int)).v))).length cp26] 99 :: vc 150 (.slice ad25 (insB Pt.lt es (edgeP ((at_ ([⟨u, v⟩, ⟨x15, x17⟩, ⟨x19, x21⟩] : List Pt) ((k : Nat) : Int)).u) ((at_ ([⟨u, v⟩, ⟨x15, x17⟩, ⟨x19, x21⟩] : List Pt) ((k : Nat) : Int)).v))).length cp26) (insB Pt.lt es (edgeP ((at_ ([⟨u, v⟩, ⟨x15, x17⟩, ⟨x19, x21⟩] : List Pt) ((k : Nat) : Int)).u) ((at_ ([⟨u, v⟩, ⟨x15, x17⟩, ⟨x19, x21⟩] : List Pt) ((k : Nat) : Int)).v))) :: blk b24 [I64 ((at_ ([⟨u, v⟩, ⟨x15, x17⟩, ⟨x19, x21⟩] : List Pt) ((k : Nat) : Int)).u), I64 ((at_ ([⟨u, v⟩, ⟨x15, x17⟩, ⟨x19, x21⟩] : List Pt) ((k : Nat) : Int)).v)] 60 :: vc 60 (.slice ad23 3 3) (([⟨u, v⟩, ⟨x15, x17⟩, ⟨x19, x21⟩] : List Pt)) :: vc 150 (.slice sa es.length sc) (es) :: blk b7 [I64 (nd), .slice sa es.length sc] 99 :: blk dk1 [.slice la ln lc, I64 (i22)] 129 :: I)
      refine G.r (Runs.move rfl) ?_
      refine G.r (Runs.extract rfl rfl) ?_
      refine G.r (Runs.extract rfl rfl) ?_
      refine G.e (Eff.alloc ty99 rfl) ?_
      rintro _ _ ⟨b51, rfl, rfl⟩
      refine G.e (Eff.st (cs := [_, _]) (vs := [_, _]) (cs' := [_, _]) ty99) ?_
      rintro _ _ ⟨rfl, rfl⟩
      refine G.r (Runs.assign rfl) ?_
      refine G.nt ?_
      refine W.sub (L' := [(16, _), (15, _), (14, _), (13, _), (12, _), (11, _), (10, _), (8, _), (42, _), (43, _), (44, _)]) (Sub.cons rfl (Sub.cons rfl (Sub.cons rfl (Sub.cons rfl (Sub.cons rfl (Sub.cons rfl (Sub.cons rfl (Sub.cons rfl (Sub.cons rfl (Sub.cons rfl (Sub.cons rfl Sub.nil))))))))))) ?_
      refine W.sr ?_
      refine G.r (Runs.lds (vs := [_, _]) ty99) ?_
      refine G.r (Runs.idxArr Try.underlying60 ty2 rfl rfl (by omega) (by omega)) ?_
      refine G.r (Runs.ld ty3) ?_
      refine G.r (Runs.idxArr Try.underlying60 ty2 rfl rfl (by omega) (by omega)) ?_
      refine G.r (Runs.ld ty3) ?_
      refine G.e (Eff.call call91 rfl rfl (Rem03_ok Sl.o ((at_ ([⟨u, v⟩, ⟨x15, x17⟩, ⟨x19, x21⟩] : List Pt) ((k : Nat) : Int)).u) ((at_ ([⟨u, v⟩, ⟨x15, x17⟩, ⟨x19, x21⟩] : List Pt) ((k : Nat) : Int)).v) (by omega))) ?_
      rintro _ _ ⟨_, _, (⟨hnead52, rfl, rfl⟩ | ⟨ad52, cp53, hzad52, rfl, rfl⟩), rfl, rfl⟩
      ·exact absurd hzad45 hnead52
      ·show G Try.prog κ _ _ _ _ ([(81, .tuple #[.agg #[I64 (nd), .slice ad52 (without es (edgeP ((at_ ([⟨u, v⟩, ⟨x15, x17⟩, ⟨x19, x21⟩] : List Pt) ((k : Nat) : Int)).u) ((at_ ([⟨u, v⟩, ⟨x15, x17⟩, ⟨x19, x21⟩] : List Pt) ((k : Nat) : Int)).v))).length cp53], I64 (0)]), (80, I64 ((at_ ([⟨u, v⟩, ⟨x15, x17⟩, ⟨x19, x21⟩] : List Pt) ((k : Nat) : Int)).v)), (79, .pointer (some ⟨b24, 1, none⟩)), (78, I64 ((at_ ([⟨u, v⟩, ⟨x15, x17⟩, ⟨x19, x21⟩] : List Pt) ((k : Nat) : Int)).u)), (77, .pointer (some ⟨b24, 0, none⟩)), (76, .agg #[I64 (nd), .slice sa es.length sc]), (16, I64 (0)), (15, .pointer (some ⟨b51, 0, none⟩)), (14, I64 (0)), (13, .pointer (some ⟨b44, 0, none⟩)), (12, I64 (0)), (11, .pointer (some ⟨b41, 0, none⟩)), (10, .pointer (some ⟨b24, 0, none⟩)), (8, .pointer (some ⟨b7, 0, none⟩)), (42, .slice ad23 3 3), (43, I64 (((3 : Nat) : Int))), (44, I64 (((k : Nat) : Int)))] : Env) (vc 150 (.slice ad52 (without es (edgeP ((at_ ([⟨u, v⟩, ⟨x15, x17⟩, ⟨x19, x21⟩] : List Pt) ((k : Nat) : Int)).u) ((at_ ([⟨u, v⟩, ⟨x15, x17⟩, ⟨x19, x21⟩] : List Pt) ((k : Nat) : Int)).v))).length cp53) (without es (edgeP ((at_ ([⟨u, v⟩, ⟨x15, x17⟩, ⟨x19, x21⟩] : List Pt) ((k : Nat) : Int)).u) ((at_ ([⟨u, v⟩, ⟨x15, x17⟩, ⟨x19, x21⟩] : List Pt) ((k : Nat) : Int)).v))) :: blk b51 [I64 (nd), .slice ad45 (without es (edgeP ((at_ ([⟨u, v⟩, ⟨x15, x17⟩, ⟨x19, x21⟩] : List Pt) ((k : Nat) : Int)).u) ((at_ ([⟨u, v⟩, ⟨x15, x17⟩, ⟨x19, x21⟩] : List Pt) ((k : Nat) : Int)).v))).length cp46] 99 :: vc 150 (.slice ad45 (without es (edgeP ((at_ ([⟨u, v⟩, ⟨x15, x17⟩, ⟨x19, x21⟩] : List Pt) ((k : Nat) : Int)).u) ((at_ ([⟨u, v⟩, ⟨x15, x17⟩, ⟨x19, x21⟩] : List Pt) ((k : Nat) : Int)).v))).length cp46) (without es (edgeP ((at_ ([⟨u, v⟩, ⟨x15, x17⟩, ⟨x19, x21⟩] : List Pt) ((k : Nat) : Int)).u) ((at_ ([⟨u, v⟩, ⟨x15, x17⟩, ⟨x19, x21⟩] : List Pt) ((k : Nat) : Int)).v))) :: blk b44 [I64 (nd), .slice ad42 (insB Pt.lt es (edgeP ((at_ ([⟨u, v⟩, ⟨x15, x17⟩, ⟨x19, x21⟩] : List Pt) ((k : Nat) : Int)).u) ((at_ ([⟨u, v⟩, ⟨x15, x17⟩, ⟨x19, x21⟩] : List Pt) ((k : Nat) : Int)).v))).length cp43] 99 :: vc 150 (.slice ad42 (insB Pt.lt es (edgeP ((at_ ([⟨u, v⟩, ⟨x15, x17⟩, ⟨x19, x21⟩] : List Pt) ((k : Nat) : Int)).u) ((at_ ([⟨u, v⟩, ⟨x15, x17⟩, ⟨x19, x21⟩] : List Pt) ((k : Nat) : Int)).v))).length cp43) (insB Pt.lt es (edgeP ((at_ ([⟨u, v⟩, ⟨x15, x17⟩, ⟨x19, x21⟩] : List Pt) ((k : Nat) : Int)).u) ((at_ ([⟨u, v⟩, ⟨x15, x17⟩, ⟨x19, x21⟩] : List Pt) ((k : Nat) : Int)).v))) :: blk b41 [I64 (nd), .slice ad25 (insB Pt.lt es (edgeP ((at_ ([⟨u, v⟩, ⟨x15, x17⟩, ⟨x19, x21⟩] : List Pt) ((k : Nat) : Int)).u) ((at_ ([⟨u, v⟩, ⟨x15, x17⟩, ⟨x19, x21⟩] : List Pt) ((k : Nat) : Int)).v))).length cp26] 99 :: vc 150 (.slice ad25 (insB Pt.lt es (edgeP ((at_ ([⟨u, v⟩, ⟨x15, x17⟩, ⟨x19, x21⟩] : List Pt) ((k : Nat) : Int)).u) ((at_ ([⟨u, v⟩, ⟨x15, x17⟩, ⟨x19, x21⟩] : List Pt) ((k : Nat) : Int)).v))).length cp26) (insB Pt.lt es (edgeP ((at_ ([⟨u, v⟩, ⟨x15, x17⟩, ⟨x19, x21⟩] : List Pt) ((k : Nat) : Int)).u) ((at_ ([⟨u, v⟩, ⟨x15, x17⟩, ⟨x19, x21⟩] : List Pt) ((k : Nat) : Int)).v))) :: blk b24 [I64 ((at_ ([⟨u, v⟩, ⟨x15, x17⟩, ⟨x19, x21⟩] : List Pt) ((k : Nat) : Int)).u), I64 ((at_ ([⟨u, v⟩, ⟨x15, x17⟩, ⟨x19, x21⟩] : List Pt) ((k : Nat) : Int)).v)] 60 :: vc 60 (.slice ad23 3 3) (([⟨u, v⟩, ⟨x15, x17⟩, ⟨x19, x21⟩] : List Pt)) :: vc 150 (.slice sa es.length sc) (es) :: blk b7 [I64 (nd), .slice sa es.length sc] 99 :: blk dk1 [.slice la ln lc, I64 (i22)] 129 :: I)
       refine G.r (Runs.move rfl) ?_
       refine G.r (Runs.extract rfl rfl) ?_
       refine G.r (Runs.extract rfl rfl) ?_
       refine G.e (Eff.alloc ty99 rfl) ?_
       rintro _ _ ⟨b54, rfl, rfl⟩
       refine G.e (Eff.st (cs := [_, _]) (vs := [_, _]) (cs' := [_, _]) ty99) ?_
       rintro _ _ ⟨rfl, rfl⟩
       refine G.r (Runs.assign rfl) ?_
       refine G.nt ?_
       refine W.sub (L' := [(18, _), (17, _), (16, _), (15, _), (14, _), (13, _), (12, _), (11, _), (8, _), (42, _), (43, _), (44, _)]) (Sub.cons rfl (Sub.cons rfl (Sub.cons rfl (Sub.cons rfl (Sub.cons rfl (Sub.cons rfl (Sub.cons rfl (Sub.cons rfl (Sub.cons rfl (Sub.cons rfl (Sub.cons rfl (Sub.cons rfl Sub.nil)))))))))))) ?_
       refine W.sr ?_
       refine G.r (Runs.move rfl) ?_
       refine G.r (Runs.move rfl) ?_
       refine G.r (Runs.neq rfl rfl) ?_
       refine G.r (Runs.move rfl) ?_
       refine G.split (d := 87) rfl (fun g87 => ?_) (fun g87 => ?_)
       ·exact absurd rfl g87
       ·refine G.ro (Runs.move rfl) ?_
        refine G.ro (Runs.move rfl) ?_
        refine G.ro (Runs.neq rfl rfl) ?_
        refine G.r (Runs.pickf rfl rfl) ?_
        refine G.r (Runs.move rfl) ?_
        refine G.split (d := 92) rfl (fun g92 => ?_) (fun g92 => ?_)
        ·exact absurd rfl g92
        ·refine G.ro (Runs.lds (vs := [_, _]) ty99) ?_
         refine G.ro (Runs.lds (vs := [_, _]) ty99) ?_
         refine G.eff (Wanted.on rfl rfl rfl) (Eff.call call77 rfl rfl (Same03_ok Sl.o Sl.o)) ?_
         rintro _ _ ⟨_, _, ⟨rfl, rfl⟩, rfl, rfl⟩
         refine G.ro (Runs.notd rfl) ?_
         refine G.r (Runs.pickf rfl rfl) ?_
         refine G.r (Runs.move rfl) ?_
         refine G.split (d := 98) rfl (fun g98 => ?_) (fun g98 => ?_)
         ·exact (g98 ⟨rfl, rfl⟩).elim
         ·refine G.ro (Runs.lds (vs := [_, _]) ty99) ?_
          refine G.ro (Runs.lds (vs := [_, _]) ty99) ?_
          refine G.eff (Wanted.on rfl rfl rfl) (Eff.call call77 rfl rfl (Same03_ok Sl.o Sl.o)) ?_
          rintro _ _ ⟨_, _, ⟨rfl, rfl⟩, rfl, rfl⟩
          refine G.ro (Runs.notd rfl) ?_
          refine G.r (Runs.pickf rfl rfl) ?_
          refine G.nt ?_
          refine W.sub (L' := [(103, _), (8, _), (42, _), (43, _), (44, _)]) (Sub.cons rfl (Sub.cons rfl (Sub.cons rfl (Sub.cons rfl (Sub.cons rfl Sub.nil))))) ?_
          refine W.ite rfl (fun c103 => ?_) (fun c103 => ?_)
          ·exact (c103 ⟨rfl, rfl⟩).elim
          ·refine W.skip ?_
           refine V.block_normal ?_
           refine V.then ?_
           refine W.region ?_
           refine G.r (Runs.add rfl rfl (by unfold InR; omega)) ?_
           refine G.r (Runs.move rfl) ?_
           refine G.nil ?_
           exact V.next ((k + 1)) (show ((k + 1 : Nat) ≤ ([⟨u, v⟩, ⟨x15, x17⟩, ⟨x19, x21⟩] : List Pt).length) from (by omega)) (show ([⟨u, v⟩, ⟨x15, x17⟩, ⟨x19, x21⟩] : List Pt).length - (k + 1 : Nat) < ([⟨u, v⟩, ⟨x15, x17⟩, ⟨x19, x21⟩] : List Pt).length - k from (by omega)) (Sub.cons rfl (Sub.cons rfl (Sub.cons rfl (Sub.cons lookO Sub.nil)))) (show Fit κ _ (vc 60 (.slice ad23 3 3) (([⟨u, v⟩, ⟨x15, x17⟩, ⟨x19, x21⟩] : List Pt)) :: vc 150 (.slice sa es.length sc) (es) :: blk b7 [I64 (nd), .slice sa es.length sc] 99 :: blk dk1 [.slice la ln lc, I64 (i22)] 129 :: I) from Fit.sub)
  ·refine W.exit ?_
   refine V.then_exit ?_
   refine V.then_exit ?_
   refine V.block_hit ?_
   refine V.then ?_
   refine W.sr ?_
   refine G.e (Eff.call call68 rfl rfl Awake03_ok) ?_
   rintro _ _ ⟨_, _, ⟨rfl, rfl⟩, rfl, rfl⟩
   refine G.r (Runs.assign rfl) ?_
   refine G.nt ?_
   refine W.ret ?_
   exact V.ret1 rfl rfl (I) Fit.m ⟨rfl, rfl⟩

end Go.Sl
