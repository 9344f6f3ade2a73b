/- A part of the proofs of statements of this seat: contracts of functions, and the plain laws that they lean on. No conditions. -/
import Derived.Test.YtbimaodbcjjbfaaGreatDoorReach9
import Derived.Test.YtbimaodbcjjbfaaGreatDoorDir8
import Derived.Test.YtbimaodbcjjbfaaGreatDoorGraphH5
import Derived.Test.YtbimaodbcjjbfaaGreatDoorRunsT
import Derived.Test.YtbimaodbcjjbfaaGreatDoorSets
namespace Go.Sl
open Go.Proofs
set_option linter.unusedVariables false
set_option linter.unusedSimpArgs false
set_option maxRecDepth 4000
theorem CmpA_ok {κ : Ctx} {I : List Item} (a c : Pt) :
    CallS Tryz.prog κ 71 [.agg #[I64 (a.u), I64 (a.v)], .agg #[I64 (c.u), I64 (c.v)]] I (fun r J => r = I64 (Pt.cmp a c) ∧ I = J) := by
 refine CallS.enter (L := [(0, .agg #[I64 (a.u), I64 (a.v)]), (1, .agg #[I64 (c.u), I64 (c.v)])]) Tryz.func71 rfl rfl rfl rfl ?_
 refine W.sr ?_
 refine G.e (Eff.box (cs := [_, _]) rfl rfl rfl) ?_
 rintro _ _ ⟨b1, rfl, rfl⟩
 refine G.e (Eff.box (cs := [_, _]) rfl rfl rfl) ?_
 rintro _ _ ⟨b2, rfl, rfl⟩
 refine G.r (Runs.assign rfl) ?_
 refine G.nt ?_
 refine W.seq ?_
 refine W.drawn mixed ?_
 refine A.hold (blk b2 [I64 (c.u), I64 (c.v)] 32 :: blk b1 [I64 (a.u), I64 (a.v)] 32 :: I) 4 ?_
 refine D.r 0 rfl (Runs.sliceBlk Tryz.underlying32 ty3 rfl (by decide)) ?_ (hJ := Fit.sub)
 refine D.r 1 rfl (Runs.sliceBlk Tryz.underlying32 ty3 rfl (by decide)) ?_ (hJ := Fit.sub)
 refine D.step (rs := [2]) (by kernel_rfl) rfl rfl (all1 ?_)
 refine Step.eff rfl (Wanted.plain rfl) (Eff.call call72 rfl rfl (CompareD_ok (Sl.arr (xs := arL a) (BlkRd.of (by repeat (first | exact List.mem_cons_self | apply List.mem_cons_of_mem))) rfl rfl (by decide)) (Sl.arr (xs := arL c) (BlkRd.of (by repeat (first | exact List.mem_cons_self | apply List.mem_cons_of_mem))) rfl rfl (by decide)))) ?_
 rintro _ _ ⟨_, _, ⟨rfl, rfl⟩, rfl, rfl⟩
 refine ⟨Fit.sub, ?_⟩
 refine D.r 3 rfl (Runs.assign rfl) ?_ (hJ := Fit.sub)
 refine D.done (by kernel_rfl) ?_
 refine V.then ?_
 refine W.ret ?_
 exact V.ret1 rfl rfl (I) Fit.m ⟨by rw [cmp_arL], rfl⟩

open Go.Proofs Go.Shelf Go.Sort in
theorem SortD_ok {κ : Ctx} {I : List Item} {a : Option Addr} {c : Nat} {xs : List Pt} (hsz : xs.length < 1000000000) :
    CallS Tryz.prog κ 70 [.slice a xs.length c, .func (.func 71) #[] #[]] (vc 32 (.slice a xs.length c) xs :: I) fun r J => ∃ ys : List Pt, (r = .tuple #[] ∧ SortedP xs ys ∧ ys.length = xs.length) ∧ J = [] ++ vc 32 (.slice a xs.length c) ys :: I :=
  (sort_any (α := Pt) (ρ := Tryz.sort70_ren) Tryz.sort70 Tryz.isAgg32 Tryz.sizeOf32 Pt.cmp swo_pt 71 #[] (enters_of Tryz.func71 (by kernel_rfl) rfl) (fun x y W => lays_of (CmpA_ok x y)) (by omega)).mono fun r J ⟨ys, ⟨h1, h2, h3⟩, h4⟩ =>
    ⟨ys, ⟨h1, ⟨h2, h3.imp fun {a b} h => by rw [← Pt.cmp_lt]; exact of_decide_eq_false h⟩, h2.length_eq⟩, by rw [h4, h2.length_eq]⟩
theorem SortD_at {κ : Ctx} {I : List Item} {F : Item → List Item} {a : Option Addr} {c : Nat} {xs : List Pt} (hat : AtF I (vc 32 (.slice a xs.length c) xs) F) (hsz : xs.length < 1000000000) :
    CallS Tryz.prog κ 70 [.slice a xs.length c, .func (.func 71) #[] #[]] I fun r J => ∃ ys : List Pt, (r = .tuple #[] ∧ SortedP xs ys ∧ ys.length = xs.length) ∧ J = [] ++ F (vc 32 (.slice a xs.length c) ys) :=
  CallS.at (Z := fun _ => []) (X := fun ys : List Pt => vc 32 (.slice a xs.length c) ys) (Post := fun r ys => r = .tuple #[] ∧ SortedP xs ys ∧ ys.length = xs.length) hat fun J _ _ => SortD_ok hsz

theorem CloneA {κ : Ctx} {I : List Item} {a : Option Addr} {c : Nat} {xs : List Pt} (hl : Sl κ I (.slice a xs.length c) xs) (hb : xs.length ≤ 1000000000) :
    CallS Tryz.prog κ 69 [.slice a xs.length c] I (fun r J => ∃ a' c', r = .slice a' xs.length c' ∧ J = vc 32 (.slice a' xs.length c') xs :: I) := by
 refine CallS.pull (p := a.isNone = true → xs = [] ∧ c = 0) (fun w hs hn => hl.isNone w hs hn) fun hnone => ?_
 refine CallS.enter (L := [(0, .slice a xs.length c)]) Tryz.func69 rfl rfl rfl rfl ?_
 refine W.sr ?_
 refine G.r (Runs.assign rfl) ?_
 refine G.nt ?_
 refine W.seq ?_
 refine W.sr ?_
 refine G.r (Runs.move rfl) ?_
 refine G.r (Runs.eqnil Tryz.underlying33 rfl rfl) ?_
 refine G.nt ?_
 refine W.cond rfl (fun c4 => ?_) (fun c4 => ?_)
 ·refine W.sr ?_
  refine G.r (Runs.assign rfl) ?_
  refine G.nt ?_
  refine W.ret ?_
  refine V.then_ret ?_
  obtain ⟨hx0, _⟩ := hnone c4
  subst hx0
  exact V.ret1 rfl rfl (vc 32 (.slice none ([] : List Pt).length 0) ([] : List Pt) :: I) (Fit.nilvc _ _) ⟨none, 0, rfl, rfl⟩
 ·refine W.skip ?_
  refine V.then ?_
  refine W.sr ?_
  refine G.e (Eff.bs0 (α := Pt) Tryz.underlying33 ty32 rfl) ?_
  rintro _ _ ⟨ad1, rfl, rfl⟩
  refine G.r (Runs.move rfl) ?_
  refine G.e (Eff.app (α := Pt) (e := 32) (xs := ([] : List Pt)) (ys := xs) Tryz.underlying33 ty32 rfl rfl rfl (by repeat (first | exact List.mem_cons_self | apply List.mem_cons_of_mem)) (Sl.f hl) (by simp only [List.length_nil]; omega) (by decide) rfl (fun _ _ => (by repeat (first | exact At.head _ _ _ | apply At.tail)))) ?_
  rintro _ _ ⟨ad2, cp3, rfl, rfl⟩
  refine G.r (Runs.assign rfl) ?_
  refine G.nt ?_
  refine W.ret ?_
  exact V.ret1 rfl rfl (vc 32 (.slice ad2 xs.length cp3) xs :: I) Fit.sub ⟨ad2, cp3, rfl, rfl⟩

theorem Ends1_ok {κ : Ctx} {I : List Item} {b : Nat} {nd : Int} (hB : BlkRd κ I b [I64 nd] 3) (x : Pt) :
    CallS Tryz.prog κ 67 [.agg #[I64 (x.u), I64 (x.v)], .pointer (some ⟨b, 0, none⟩)] I (fun r J => r = .bool (!decide (endsP nd x.u x.v)) ∧ I = J) := by
 refine CallS.enter (L := [(0, .agg #[I64 (x.u), I64 (x.v)]), (1, .pointer (some ⟨b, 0, none⟩))]) Tryz.func67 rfl rfl rfl rfl ?_
 refine W.sr ?_
 refine G.e (Eff.box (cs := [_, _]) rfl rfl rfl) ?_
 rintro _ _ ⟨b1, rfl, rfl⟩
 refine G.r (Runs.assign rfl) ?_
 refine G.nt ?_
 refine W.sr ?_
 refine G.r (Runs.loadB ty3 rfl (BlkRd.fit hB Fit.m) rfl) ?_
 refine G.r (Runs.idxArr Tryz.underlying32 ty2 rfl rfl (by omega) (by omega)) ?_
 refine G.r (Runs.ld ty3) ?_
 refine G.r (Runs.idxArr Tryz.underlying32 ty2 rfl rfl (by omega) (by omega)) ?_
 refine G.r (Runs.ld ty3) ?_
 refine G.e (Eff.call call68 rfl rfl (Ends_ok nd x.u x.v)) ?_
 rintro _ _ ⟨_, _, ⟨rfl, rfl⟩, rfl, rfl⟩
 refine G.r (Runs.notd rfl) ?_
 refine G.r (Runs.assign rfl) ?_
 refine G.nt ?_
 refine W.ret ?_
 exact V.ret1 rfl rfl (I) Fit.m ⟨by simp, rfl⟩

theorem any_ends {nd : Int} {l : List Pt} (h : ∀ a ∈ l, endsP nd a.u a.v) : (l.any fun a : Pt => !decide (endsP nd a.u a.v)) = false := by
  rw [List.any_eq_false]
  intro x hx
  rw [decide_eq_true (h x hx)]; decide

theorem OfD_ok {κ : Ctx} {I : List Item} {nd : Int} {a0 : Option Addr} {c0 : Nat} {l : List Pt} (hl : Sl κ I (.slice a0 l.length c0) l) (hn : 0 ≤ nd ∧ nd ≤ 64) (he : ∀ a ∈ l, endsP nd a.u a.v) (hb : l.length ≤ 1000000) :
    CallS Tryz.prog κ 29 [I64 (nd), .slice a0 l.length c0] I (fun r J => ∃ a c, r = .tuple #[.agg #[I64 nd, .slice a (sortB Pt.lt l).length c], I64 0] ∧ J = vc 32 (.slice a (sortB Pt.lt l).length c) (sortB Pt.lt l) :: I) := by
 refine CallS.pull hl.le fun hmax => ?_
 refine CallS.enter (L := [(0, I64 (nd)), (1, .slice a0 l.length c0)]) Tryz.func29 rfl rfl rfl rfl ?_
 refine W.sr ?_
 refine G.e (Eff.box (cs := [_]) rfl rfl rfl) ?_
 rintro _ _ ⟨b1, rfl, rfl⟩
 refine G.e (Eff.alloc ty54 rfl) ?_
 rintro _ _ ⟨b2, rfl, rfl⟩
 refine G.r (Runs.assign rfl) ?_
 refine G.nt ?_
 refine W.seq ?_
 refine W.sr ?_
 refine G.r (Runs.ld ty3) ?_
 refine G.r (Runs.lss rfl rfl) ?_
 refine G.r (Runs.move rfl) ?_
 refine G.split (d := 8) rfl (fun g8 => ?_) (fun g8 => ?_)
 ·exact absurd g8 (by omega)
 ·refine G.ro (Runs.ld ty3) ?_
  refine G.ro (Runs.gtr rfl rfl) ?_
  refine G.r (Runs.pickf rfl rfl) ?_
  refine G.nt ?_
  refine W.ite rfl (fun c11 => ?_) (fun c11 => ?_)
  ·exact absurd c11 (by omega)
  ·refine W.skip ?_
   refine V.then ?_
   refine W.seq ?_
   refine W.sr ?_
   refine G.r (Runs.move rfl) ?_
   refine G.r (Runs.makeFunc rfl rfl) ?_
   refine G.e (Eff.call call66 rfl rfl (ContainsFuncP (Sl.f hl) (show Says Tryz.prog κ _ 67 [.pointer (some ⟨b1, 0, none⟩)] (fun a : Pt => !decide (endsP nd a.u a.v)) from ⟨call67, fun x K hK => Ends1_ok (nd := nd) (BlkRd.fit (BlkRd.of (by repeat (first | exact List.mem_cons_self | apply List.mem_cons_of_mem))) hK) x⟩))) ?_
   rintro _ _ ⟨_, _, ⟨rfl, rfl⟩, rfl, rfl⟩
   refine G.nt ?_
   refine W.sub (L' := [(15, _), (4, _), (2, _), (1, _)]) (Sub.cons rfl (Sub.cons rfl (Sub.cons rfl (Sub.cons rfl Sub.nil)))) ?_
   refine W.cond rfl (fun c15 => ?_) (fun c15 => ?_)
   ·exact absurd c15 (by rw [any_ends he]; decide)
   ·refine W.skip ?_
    refine V.then ?_
    refine W.sr ?_
    refine G.r (Runs.move rfl) ?_
    refine G.e (Eff.call call69 rfl rfl (CloneA (xs := l) (Sl.f hl) (by omega))) ?_
    rintro _ _ ⟨_, _, ⟨ad3, cp4, rfl, rfl⟩, rfl, rfl⟩
    refine G.r (Runs.assign rfl) ?_
    refine G.nt ?_
    refine W.sr ?_
    refine G.r (Runs.move rfl) ?_
    refine G.e (Eff.call call70 rfl rfl (SortD_at (by repeat (first | exact AtF.head _ _ | apply AtF.tail)) (by omega))) ?_
    rintro _ _ ⟨_, _, ⟨ys5, ⟨rfl, hsys5, hlys5⟩, rfl⟩, rfl, rfl⟩
    show G Tryz.prog κ _ _ _ _ ([(20, .tuple #[]), (19, .slice ad3 l.length cp4), (1, .slice ad3 l.length cp4), (18, .slice ad3 l.length cp4), (17, .slice a0 l.length c0), (15, .bool (l.any (fun a : Pt => !decide (endsP nd a.u a.v)))), (4, .pointer (some ⟨b2, 0, none⟩)), (2, .pointer (some ⟨b1, 0, none⟩)), (1, .slice a0 l.length c0)] : Env) (vc 32 (.slice ad3 l.length cp4) (ys5) :: blk b2 [I64 (0), .slice none 0 0] 54 :: blk b1 [I64 (nd)] 3 :: I)
    refine G.nt ?_
    refine W.seq ?_
    refine W.drawn mixed ?_
    refine A.hold (blk b2 [I64 (0), .slice none 0 0] 54 :: blk b1 [I64 (nd)] 3 :: I) 4 ?_
    refine D.r 0 rfl (Runs.ld ty3) ?_ (hJ := Fit.sub)
    refine D.r 1 rfl (Runs.move rfl) ?_ (hJ := Fit.sub)
    refine D.step (rs := [2]) (by kernel_rfl) rfl rfl (all1 ?_)
    refine Step.eff rfl (Wanted.plain rfl) (Eff.call call73 rfl rfl (CompactP_at (by repeat (first | exact AtF.head _ _ | apply AtF.tail)) (by omega) (by omega))) ?_
    rintro _ _ ⟨_, _, ⟨_, ⟨rfl, rfl⟩, rfl⟩, rfl, rfl⟩
    refine ⟨Fit.sub, ?_⟩
    show D Tryz.prog κ _ _ _ _ _ _ _ ([(23, .slice ad3 (compactN ys5 ys5.length).length cp4), (22, .slice ad3 l.length cp4), (21, I64 (nd)), (20, .tuple #[]), (19, .slice ad3 l.length cp4), (1, .slice ad3 l.length cp4), (18, .slice ad3 l.length cp4), (17, .slice a0 l.length c0), (15, .bool (l.any (fun a : Pt => !decide (endsP nd a.u a.v)))), (4, .pointer (some ⟨b2, 0, none⟩)), (2, .pointer (some ⟨b1, 0, none⟩)), (1, .slice a0 l.length c0)] : Env) (vc 32 (.slice ad3 (compactN ys5 ys5.length).length cp4) (compactN ys5 ys5.length) :: blk b2 [I64 (0), .slice none 0 0] 54 :: blk b1 [I64 (nd)] 3 :: I)
    refine D.r 3 rfl (Runs.build (cells := [_, _]) ty54 Tryz.underlying54 pl54 rfl rfl) ?_ (hJ := Fit.sub)
    refine D.stop (by kernel_rfl) ?_
    refine A.eff (i := 4) (by kernel_rfl) rfl (Wanted.plain rfl) (Eff.st (cs := [_, _]) (vs := [_, _]) (cs' := [_, _]) ty54) ?_
    rintro _ _ ⟨rfl, rfl⟩
    refine A.read (i := 5) (by kernel_rfl) rfl (Wanted.plain rfl) rfl rfl (Runs.assign rfl) ?_
    refine A.done (by kernel_rfl) ?_
    refine V.then ?_
    refine W.sub (L' := [(5, _), (4, _)]) (Sub.cons rfl (Sub.cons rfl Sub.nil)) ?_
    refine W.ret ?_
    have hM := compactN_of hsys5
    exact V.retc1 rfl ty54 rfl rfl (by repeat (first | exact List.mem_cons_self | apply List.mem_cons_of_mem)) rfl (vc 32 (.slice ad3 (sortB Pt.lt l).length cp4) (sortB Pt.lt l) :: I) (by rw [← hM]; exact Fit.sub) ⟨ad3, cp4, by first | (rw [← hM]; done) | (rw [← hM]; rfl), rfl⟩

end Go.Sl
namespace Go.Sl
open Go.Proofs
set_option linter.unusedVariables false
set_option linter.unusedSimpArgs false
set_option maxRecDepth 4000
theorem aw_best : bestG 3 (sortB Pt.lt ([⟨1, 2⟩, ⟨0, 2⟩, ⟨1, 2⟩] : List Pt)) = ⟨[0, 1], [2], 2, ⟨2, 1⟩⟩ := by decide +kernel
theorem aw_chk : checkD 3 (sortB Pt.lt ([⟨1, 2⟩, ⟨0, 2⟩, ⟨1, 2⟩] : List Pt)) = 0 := by decide +kernel
theorem aw_len : ((sortB Pt.lt ([⟨1, 2⟩, ⟨0, 2⟩, ⟨1, 2⟩] : List Pt)).length : Int) = 2 := by decide +kernel
theorem bestG_eq {nd : Int} {ars : List Pt} (hd : DgOk nd ars) : bestG nd ars = bestF (outB nd ars) := by unfold bestG; rw [if_neg (by rw [checkD_ok.2 hd]; decide)]
theorem bestG_val {nd : Int} {ars : List Pt} (hd : DgOk nd ars) (h6 : nd ≤ 6) : FrV (bestG nd ars).sq := by rw [bestG_eq hd]; exact best_val (rowsD_of hd h6)
theorem outB_ln {nd : Int} {ars : List Pt} (hd : DgOk nd ars) : ((outB nd ars).length : Int) = nd := by rw [outB_len]; have := hd.rng; omega
theorem arcN_out {nd : Int} {ars : List Pt} (hd : DgOk nd ars) {v w : Int} (hv : 0 ≤ v) (hw : 0 ≤ w) : arcN (outB nd ars) v w = if (⟨v, w⟩ : Pt) ∈ ars then 1 else 0 := by
  have h := outB_bit hd v w.toNat hv
  rw [show ((w.toNat : Nat) : Int) = w by omega] at h
  unfold arcN
  by_cases hm : (⟨v, w⟩ : Pt) ∈ ars
  · rw [if_pos (h.2 hm), if_pos hm]
  · rw [if_neg (fun hh => hm (h.1 hh)), if_neg hm]
theorem dg_sort {nd : Int} {l : List Pt} (hn : 0 ≤ nd ∧ nd ≤ 64) (h : ∀ a ∈ l, endsP nd a.u a.v) : DgOk nd (sortB Pt.lt l) := ⟨hn, Pt.lin.sortB l, fun a ha => h a ((mem_sortB _ _).1 ha)⟩
set_option maxHeartbeats 1000000 in
theorem Awake23_ok {κ : Ctx} {I : List Item} (hT : TabRd κ I 0 tzCells) :
    CallS Tryz.prog κ 36 [] I (fun r J => r = .bool true ∧ I = J) := by
 refine CallS.enter (L := []) Tryz.func36 rfl rfl rfl rfl ?_
 refine W.sr ?_
 refine G.r (Runs.assign rfl) ?_
 refine G.nt ?_
 refine W.sr ?_
 refine G.r (Runs.buildArr (cells := [_, _]) ty32 Tryz.underlying32 ty3 rfl rfl) ?_
 refine G.r (Runs.buildArr (cells := [_, _]) ty32 Tryz.underlying32 ty3 rfl rfl) ?_
 refine G.r (Runs.buildArr (cells := [_, _]) ty32 Tryz.underlying32 ty3 rfl rfl) ?_
 refine G.e (Eff.bs (α := Pt) (cs := [I64 (1), I64 (2), I64 (0), I64 (2), I64 (1), I64 (2)]) (xs := [⟨1, 2⟩, ⟨0, 2⟩, ⟨1, 2⟩]) Tryz.underlying33 ty32 rfl rfl (by decide) (by decide) rfl (by kernel_rfl) rfl rfl) ?_
 rintro _ _ ⟨ad1, rfl, rfl⟩
 refine G.e (Eff.call call29 rfl rfl (OfD_ok (nd := 3) (l := ([⟨1, 2⟩, ⟨0, 2⟩, ⟨1, 2⟩] : List Pt)) Sl.o (by omega) (by decide) (by simp))) ?_
 rintro _ _ ⟨_, _, ⟨ad2, cp3, rfl, rfl⟩, rfl, rfl⟩
 refine G.r (Runs.move rfl) ?_
 refine G.r (Runs.extract rfl rfl) ?_
 refine G.r (Runs.extract rfl rfl) ?_
 refine G.e (Eff.alloc ty54 rfl) ?_
 rintro _ _ ⟨b4, rfl, rfl⟩
 refine G.e (Eff.st (cs := [_, _]) (vs := [_, _]) (cs' := [_, _]) ty54) ?_
 rintro _ _ ⟨rfl, rfl⟩
 refine G.r (Runs.assign rfl) ?_
 refine G.nt ?_
 refine W.sr ?_
 refine G.r (Runs.lds (vs := [_, _]) ty54) ?_
 refine G.e (Eff.call call30 rfl rfl (BestD_ok (nd := 3) Sl.o (fun _ => by omega) (TabRd.fit hT Fit.m))) ?_
 rintro _ _ ⟨_, _, ⟨ad5, cp6, ad7, cp8, rfl, rfl⟩, rfl, rfl⟩
 refine G.r (Runs.move rfl) ?_
 refine G.r (Runs.extract rfl rfl) ?_
 refine G.r (Runs.extract rfl rfl) ?_
 refine G.e (Eff.alloc ty58 rfl) ?_
 rintro _ _ ⟨b9, rfl, rfl⟩
 refine G.e (Eff.st (cs := [_, _, _, _, _]) (vs := [_, _, _, _, _]) (cs' := [_, _, _, _, _]) ty58) ?_
 rintro _ _ ⟨rfl, rfl⟩
 refine G.r (Runs.assign rfl) ?_
 refine G.nt ?_
 refine W.sub (L' := [(4, _), (3, _), (2, _), (1, _)]) (Sub.cons rfl (Sub.cons rfl (Sub.cons rfl (Sub.cons rfl Sub.nil)))) ?_
 refine W.sr ?_
 refine G.r (Runs.move rfl) ?_
 refine G.r (Runs.eql rfl rfl) ?_
 refine G.r (Runs.move rfl) ?_
 refine G.split (d := 20) rfl (fun g20 => ?_) (fun g20 => ?_)
 ·refine G.ro (Runs.move rfl) ?_
  refine G.ro (Runs.eql rfl rfl) ?_
  refine G.r (Runs.pickt rfl rfl) ?_
  refine G.r (Runs.move rfl) ?_
  refine G.split (d := 24) rfl (fun g24 => ?_) (fun g24 => ?_)
  ·refine G.ro (Runs.fieldAddr fld54_1 rfl) ?_
   refine G.ro (Runs.ld ty33) ?_
   refine G.ro (Runs.lens Tryz.underlying33 rfl) ?_
   refine G.ro (Runs.eql rfl rfl) ?_
   refine G.r (Runs.pickt rfl rfl) ?_
   refine G.r (Runs.move rfl) ?_
   refine G.split (d := 30) rfl (fun g30 => ?_) (fun g30 => ?_)
   ·refine G.ro (Runs.fieldAddr fld58_0 rfl) ?_
    refine G.ro (Runs.ld ty22) ?_
    refine G.eff (Wanted.on rfl rfl rfl) (Eff.bs (α := Int) (cs := [_, _]) (xs := [0, 1]) Tryz.underlying22 ty3 rfl rfl (by decide) (by decide) rfl rfl rfl rfl) ?_
    rintro _ _ ⟨ad10, rfl, rfl⟩
    refine G.eff (Wanted.on rfl rfl rfl) (Eff.call call14 rfl rfl (Same_ok Sl.o Sl.o)) ?_
    rintro _ _ ⟨_, _, ⟨rfl, rfl⟩, rfl, rfl⟩
    refine G.r (Runs.pickt rfl rfl) ?_
    refine G.r (Runs.move rfl) ?_
    refine G.split (d := 36) rfl (fun g36 => ?_) (fun g36 => ?_)
    ·refine G.ro (Runs.fieldAddr fld58_1 rfl) ?_
     refine G.ro (Runs.ld ty22) ?_
     refine G.eff (Wanted.on rfl rfl rfl) (Eff.bs (α := Int) (cs := [_]) (xs := [2]) Tryz.underlying22 ty3 rfl rfl (by decide) (by decide) rfl rfl rfl rfl) ?_
     rintro _ _ ⟨ad11, rfl, rfl⟩
     refine G.eff (Wanted.on rfl rfl rfl) (Eff.call call14 rfl rfl (Same_ok Sl.o Sl.o)) ?_
     rintro _ _ ⟨_, _, ⟨rfl, rfl⟩, rfl, rfl⟩
     refine G.r (Runs.pickt rfl rfl) ?_
     refine G.r (Runs.move rfl) ?_
     refine G.split (d := 42) rfl (fun g42 => ?_) (fun g42 => ?_)
     ·refine G.ro (Runs.fieldAddr fld58_2 rfl) ?_
      refine G.ro (Runs.ld ty3) ?_
      refine G.ro (Runs.eql rfl rfl) ?_
      refine G.r (Runs.pickt rfl rfl) ?_
      refine G.r (Runs.move rfl) ?_
      refine G.split (d := 47) rfl (fun g47 => ?_) (fun g47 => ?_)
      ·refine G.ro (Runs.fieldAddr fld58_3 rfl) ?_
       refine G.ro (Runs.lds (vs := [_, _]) ty45) ?_
       refine G.ro (Runs.build (cells := [_, _]) ty45 Tryz.underlying45 pl45 rfl rfl) ?_
       refine G.ro (Runs.eqlT (α := Fr) (a := (bestG 3 (sortB Pt.lt ([⟨1, 2⟩, ⟨0, 2⟩, ⟨1, 2⟩] : List Pt))).sq) (b := (⟨2, 1⟩ : Fr)) eqt45 rfl rfl) ?_
       refine G.r (Runs.pickt rfl rfl) ?_
       refine G.r (Runs.assign rfl) ?_
       refine G.nt ?_
       refine W.sub (L' := [(0, _)]) (Sub.cons rfl Sub.nil) ?_
       refine W.ret ?_
       exact V.ret1 rfl rfl (I) Fit.m ⟨by rw [aw_best]; rfl, rfl⟩
      ·exact absurd (by rw [aw_best]) g47
     ·exact absurd (by rw [aw_best]) g42
    ·exact absurd (by rw [aw_best]) g36
   ·exact absurd aw_len g30
  ·exact absurd aw_chk g24
 ·exact absurd rfl g20

end Go.Sl
