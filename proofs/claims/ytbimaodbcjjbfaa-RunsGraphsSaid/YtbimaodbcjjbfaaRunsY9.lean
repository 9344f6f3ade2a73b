/- A part of the proofs of statements of this seat: contracts of functions, and the plain laws that they lean on. No conditions. -/
import Derived.Test.YtbimaodbcjjbfaaGraphG5
import Derived.Test.YtbimaodbcjjbfaaRunsS
import Derived.Test.YtbimaodbcjjbfaaRunsV4
namespace Go.Sl
open Go.Proofs
set_option linter.unusedVariables false
set_option linter.unusedSimpArgs false
set_option maxRecDepth 4000
theorem nblocks_div {k : Int} {l : List Pt} (hk : 1 ≤ k) : ((nblocks k.toNat l : Nat) : Int) = (((l.length : Nat) : Int) + k - 1) / k := by
  obtain ⟨m, rfl⟩ : ∃ m : Nat, k = (m : Int) := ⟨k.toNat, by omega⟩
  rw [Int.toNat_natCast]
  unfold nblocks
  rw [Int.natCast_ediv]
  congr 1
  omega

set_option maxHeartbeats 4000000 in
theorem RunsGraphs_walk {κ : Ctx} {I : List Item} {la : Option Addr} {ln lc : Nat} {ls : List Int} {sz8 : Int} (hl : Sl κ I (.slice la ln lc) ls) (h8 : 0 ≤ sz8 ∧ sz8 ≤ 255) :
    CallS Try.prog κ 14 [.slice la ln lc, .int .u8 (sz8)] I (fun r J => r = .bool true ∧ I = J) := by
 have ht20 : 0 ≤ Int.tmod sz8 20 ∧ Int.tmod sz8 20 < 20 := by rw [Int.tmod_eq_emod_of_nonneg h8.1]; omega
 refine CallS.enter (L := [(0, .slice la ln lc), (1, .int .u8 (sz8))]) Try.func14 rfl rfl rfl rfl ?_
 refine W.sr ?_
 refine G.r (Runs.assign rfl) ?_
 refine G.nt ?_
 refine W.seq ?_
 refine W.sr ?_
 refine G.r (Runs.move rfl) ?_
 refine G.e (Eff.call call42 rfl rfl Few_ok) ?_
 rintro _ _ ⟨_, _, ⟨rfl, rfl⟩, rfl, rfl⟩
 refine G.r (Runs.notd rfl) ?_
 refine G.nt ?_
 refine W.ite rfl (fun c25 => ?_) (fun c25 => ?_)
 ·refine W.sr ?_
  refine G.e (Eff.call call43 rfl rfl Awake34_ok) ?_
  rintro _ _ ⟨_, _, ⟨rfl, rfl⟩, rfl, rfl⟩
  refine G.r (Runs.assign rfl) ?_
  refine G.nt ?_
  refine W.ret ?_
  refine V.then_ret ?_
  exact V.ret1 rfl rfl (I) Fit.m ⟨rfl, rfl⟩
 ·refine W.skip ?_
  refine V.then ?_
  refine W.sr ?_
  refine G.r (Runs.move rfl) ?_
  refine G.e (Eff.call call22 rfl rfl New_ok) ?_
  rintro _ _ ⟨_, _, ⟨dk1, rfl, rfl⟩, rfl, rfl⟩
  show G Try.prog κ _ _ _ _ ([(28, .pointer (some ⟨dk1, 0, none⟩)), (27, .slice la ln lc), (25, .bool (decide (¬ (((ln : Nat) : Int) ≤ 500)))), (24, .bool (decide (((ln : Nat) : Int) ≤ 500))), (23, .slice la ln lc), (4, .bool false), (0, .slice la ln lc), (1, .int .u8 (sz8))] : Env) (blk dk1 [.slice la ln lc, I64 (0)] 129 :: I)
  have hi0 : (0 : Int) ≤ 0 := Int.le_refl _
  refine G.r (Runs.assign rfl) ?_
  refine G.nt ?_
  refine W.sr ?_
  refine G.r (Runs.move rfl) ?_
  refine G.e (Eff.call call69 rfl rfl (MkGraph_at (by repeat (first | exact AtF.head _ _ | apply AtF.tail)) (fun _ => Sl.fit hl Fit.m) (by omega)  (by omega))) ?_
  rintro _ _ ⟨_, _, ⟨⟨nd2, ad3, cp4, es5, i6⟩, ⟨⟨rfl, hges5⟩, hi6⟩, rfl⟩, rfl, rfl⟩
  show G Try.prog κ _ _ _ _ ([(30, .agg #[I64 (nd2), .slice ad3 es5.length cp4]), (29, .pointer (some ⟨dk1, 0, none⟩)), (5, .pointer (some ⟨dk1, 0, none⟩)), (28, .pointer (some ⟨dk1, 0, none⟩)), (27, .slice la ln lc), (25, .bool (decide (¬ (((ln : Nat) : Int) ≤ 500)))), (24, .bool (decide (((ln : Nat) : Int) ≤ 500))), (23, .slice la ln lc), (4, .bool false), (0, .slice la ln lc), (1, .int .u8 (sz8))] : Env) (vc 150 (.slice ad3 es5.length cp4) (es5) :: blk dk1 [.slice la ln lc, I64 (i6)] 129 :: I)
  have hi6 : 0 ≤ i6 := hi6
  dsimp only at hges5
  have hG := hges5.2.1
  have hel := hges5.2.2
  have hnd := hges5.1
  have hbl := both_len es5
  refine G.e (Eff.alloc ty99 rfl) ?_
  rintro _ _ ⟨b7, rfl, rfl⟩
  refine G.e (Eff.st (cs := [_, _]) (vs := [_, _]) (cs' := [_, _]) ty99) ?_
  rintro _ _ ⟨rfl, rfl⟩
  refine G.nt ?_
  refine W.sr ?_
  refine G.r (Runs.move rfl) ?_
  refine G.r (Runs.rem rfl rfl (by omega)) ?_
  refine G.r (Runs.convI Try.underlying5 Try.underlying3 rfl (by unfold InR; omega)) ?_
  refine G.r (Runs.add rfl rfl (by unfold InR; omega)) ?_
  refine G.r (Runs.assign rfl) ?_
  refine G.nt ?_
  refine W.sub (L' := [(7, _), (6, _), (5, _)]) (Sub.cons rfl (Sub.cons rfl (Sub.cons rfl Sub.nil))) ?_
  refine W.sr ?_
  refine G.r (Runs.lds (vs := [_, _]) ty99) ?_
  refine G.r (Runs.move rfl) ?_
  refine G.e (Eff.call call81 rfl rfl (Build_ok Sl.o hG (sz := 1 + (Int.tmod sz8 20)) (by omega) (by omega))) ?_
  rintro _ _ ⟨_, _, ⟨ad8, cp9, rfl, rfl⟩, rfl, rfl⟩
  refine G.r (Runs.move rfl) ?_
  refine G.r (Runs.extract rfl rfl) ?_
  refine G.r (Runs.extract rfl rfl) ?_
  refine G.e (Eff.alloc ty57 rfl) ?_
  rintro _ _ ⟨b10, rfl, rfl⟩
  refine G.e (Eff.st (cs := [_, _]) (vs := [_, _]) (cs' := [_, _]) ty57) ?_
  rintro _ _ ⟨rfl, rfl⟩
  refine G.r (Runs.assign rfl) ?_
  refine G.nt ?_
  refine W.sr ?_
  refine G.r (Runs.lds (vs := [_, _]) ty57) ?_
  refine G.r (Runs.fieldAddr fld99_0 rfl) ?_
  refine G.r (Runs.ld ty3) ?_
  refine G.e (Eff.call call82 rfl rfl (RGraph_ok Sl.o (hG.both (by omega)) (by have := hG.rng; omega) (fun p hp => by have := hG.mem_both hp; omega) hG.both_sym (by omega))) ?_
  rintro _ _ ⟨_, _, ⟨ad11, cp12, rfl, rfl⟩, rfl, rfl⟩
  refine G.r (Runs.move rfl) ?_
  refine G.r (Runs.extract rfl rfl) ?_
  refine G.r (Runs.extract rfl rfl) ?_
  refine G.e (Eff.alloc ty99 rfl) ?_
  rintro _ _ ⟨b13, rfl, rfl⟩
  refine G.e (Eff.st (cs := [_, _]) (vs := [_, _]) (cs' := [_, _]) ty99) ?_
  rintro _ _ ⟨rfl, rfl⟩
  refine G.r (Runs.assign rfl) ?_
  refine G.nt ?_
  refine W.sub (L' := [(11, _), (10, _), (9, _), (8, _), (7, _), (6, _), (5, _)]) (Sub.cons rfl (Sub.cons rfl (Sub.cons rfl (Sub.cons rfl (Sub.cons rfl (Sub.cons rfl (Sub.cons rfl Sub.nil))))))) ?_
  refine W.seq ?_
  refine W.seq ?_
  refine W.drawn mixed ?_
  refine A.hold (blk b13 [I64 (nd2), .slice ad11 (List.filter (fun p => decide (p.u < p.v)) (both es5)).length cp12] 99 :: vc 150 (.slice ad11 (List.filter (fun p => decide (p.u < p.v)) (both es5)).length cp12) (List.filter (fun p => decide (p.u < p.v)) (both es5)) :: blk b10 [I64 (1 + (Int.tmod sz8 20)), .slice ad8 (both es5).length cp9] 57 :: vc 60 (.slice ad8 (both es5).length cp9) (both es5) :: blk b7 [I64 (nd2), .slice ad3 es5.length cp4] 99 :: vc 150 (.slice ad3 es5.length cp4) (es5) :: blk dk1 [.slice la ln lc, I64 (i6)] 129 :: I) 26 ?_
  refine D.r 0 rfl (Runs.move rfl) ?_
  refine D.r 1 rfl (Runs.neq rfl rfl) ?_
  refine D.r 2 rfl (Runs.move rfl) ?_
  refine D.split (d := 50) rfl (fun g50 => ?_) (fun g50 => ?_)
  ·exact absurd rfl g50
  ·refine D.ro 3 rfl (Runs.move rfl) ?_
   refine D.ro 4 rfl (Runs.neq rfl rfl) ?_
   refine D.r 5 rfl (Runs.pickf rfl rfl) ?_
   refine D.r 6 rfl (Runs.move rfl) ?_
   refine D.split (d := 54) rfl (fun g54 => ?_) (fun g54 => ?_)
   ·exact absurd rfl g54
   ·refine D.ro 7 rfl (Runs.lds (vs := [_, _]) ty99) ?_
    refine D.ro 8 rfl (Runs.lds (vs := [_, _]) ty99) ?_
    refine D.step (rs := [9]) (by kernel_rfl) rfl rfl (all1 ?_)
    refine Step.eff rfl (Wanted.on rfl rfl rfl) (Eff.call call77 rfl rfl (Same03_ok Sl.o Sl.o)) ?_
    rintro _ _ ⟨_, _, ⟨rfl, rfl⟩, rfl, rfl⟩
    refine ⟨Fit.m, ?_⟩
    refine D.ro 10 rfl (Runs.notd rfl) ?_
    refine D.r 11 rfl (Runs.pickf rfl rfl) ?_
    refine D.r 12 rfl (Runs.move rfl) ?_
    refine D.split (d := 60) rfl (fun g60 => ?_) (fun g60 => ?_)
    ·exact absurd ⟨rfl, hG.both_up.symm⟩ g60
    ·refine D.ro 13 rfl (Runs.lds (vs := [_, _]) ty57) ?_
     refine D.ro 15 rfl (Runs.fieldAddr fld99_1 rfl) ?_
     refine D.ro 16 rfl (Runs.ld ty97) ?_
     refine D.ro 17 rfl (Runs.lens Try.underlying97 rfl) ?_
     refine D.ro 18 rfl (Runs.mul rfl rfl (by unfold InR; omega)) ?_
     refine D.ro 19 rfl (Runs.move rfl) ?_
     refine D.ro 20 rfl (Runs.add rfl rfl (by unfold InR; omega)) ?_
     refine D.ro 21 rfl (Runs.sub rfl rfl (by unfold InR; omega)) ?_
     refine D.ro 22 rfl (Runs.move rfl) ?_
     refine D.ro 23 rfl (Runs.quo rfl rfl (by omega) (by omega) (by unfold InR; omega)) ?_
     refine D.step (rs := [14]) (by kernel_rfl) rfl rfl (all1 ?_)
     refine Step.eff rfl (Wanted.on rfl rfl rfl) (Eff.call call45 rfl rfl (Blocks_ok Sl.o (hG.both (by omega)) (by omega))) ?_
     rintro _ _ ⟨_, _, ⟨rfl, rfl⟩, rfl, rfl⟩
     refine ⟨Fit.m, ?_⟩
     refine D.ro 24 rfl (Runs.neq rfl rfl) ?_
     refine D.r 25 rfl (Runs.pickf rfl rfl) ?_
     refine D.done (by kernel_rfl) ?_
     refine V.then ?_
     refine W.sub (L' := [(73, _), (8, _), (7, _), (6, _), (5, _)]) (Sub.cons rfl (Sub.cons rfl (Sub.cons rfl (Sub.cons rfl (Sub.cons rfl Sub.nil))))) ?_
     refine W.ite rfl (fun c73 => ?_) (fun c73 => ?_)
     ·exact absurd (by rw [nblocks_div (by omega), hG.both_length]; congr 1) c73
     ·refine W.skip ?_
      refine V.then ?_
      refine W.sr ?_
      refine G.r (Runs.move rfl) ?_
      refine G.e (Eff.call call25 rfl rfl (Next_ok (by repeat (first | exact AtF.head _ _ | apply AtF.tail)) (Sl.f hl) (by omega) (by omega))) ?_
      rintro _ _ ⟨_, _, ⟨x14, i15, rfl, hx14, hi15, rfl⟩, rfl, rfl⟩
      show G Try.prog κ _ _ _ _ ([(75, I64 (x14)), (74, .pointer (some ⟨dk1, 0, none⟩)), (73, .bool (decide (((nblocks (1 + (Int.tmod sz8 20)).toNat (both es5) : Nat) : Int) ≠ ((((2 * ((es5.length : Nat) : Int)) + (1 + (Int.tmod sz8 20))) - 1) / (1 + (Int.tmod sz8 20)))))), (8, .pointer (some ⟨b10, 0, none⟩)), (7, I64 (1 + (Int.tmod sz8 20))), (6, .pointer (some ⟨b7, 0, none⟩)), (5, .pointer (some ⟨dk1, 0, none⟩))] : Env) (blk b13 [I64 (nd2), .slice ad11 (List.filter (fun p => decide (p.u < p.v)) (both es5)).length cp12] 99 :: vc 150 (.slice ad11 (List.filter (fun p => decide (p.u < p.v)) (both es5)).length cp12) (List.filter (fun p => decide (p.u < p.v)) (both es5)) :: blk b10 [I64 (1 + (Int.tmod sz8 20)), .slice ad8 (both es5).length cp9] 57 :: vc 60 (.slice ad8 (both es5).length cp9) (both es5) :: blk b7 [I64 (nd2), .slice ad3 es5.length cp4] 99 :: vc 150 (.slice ad3 es5.length cp4) (es5) :: blk dk1 [.slice la ln lc, I64 (i15)] 129 :: I)
      refine G.r (Runs.move rfl) ?_
      refine G.e (Eff.call call25 rfl rfl (Next_ok (by repeat (first | exact AtF.head _ _ | apply AtF.tail)) (Sl.f hl) (by omega) (by omega))) ?_
      rintro _ _ ⟨_, _, ⟨x16, i17, rfl, hx16, hi17, rfl⟩, rfl, rfl⟩
      show G Try.prog κ _ _ _ _ ([(77, I64 (x16)), (76, .pointer (some ⟨dk1, 0, none⟩)), (75, I64 (x14)), (74, .pointer (some ⟨dk1, 0, none⟩)), (73, .bool (decide (((nblocks (1 + (Int.tmod sz8 20)).toNat (both es5) : Nat) : Int) ≠ ((((2 * ((es5.length : Nat) : Int)) + (1 + (Int.tmod sz8 20))) - 1) / (1 + (Int.tmod sz8 20)))))), (8, .pointer (some ⟨b10, 0, none⟩)), (7, I64 (1 + (Int.tmod sz8 20))), (6, .pointer (some ⟨b7, 0, none⟩)), (5, .pointer (some ⟨dk1, 0, none⟩))] : Env) (blk b13 [I64 (nd2), .slice ad11 (List.filter (fun p => decide (p.u < p.v)) (both es5)).length cp12] 99 :: vc 150 (.slice ad11 (List.filter (fun p => decide (p.u < p.v)) (both es5)).length cp12) (List.filter (fun p => decide (p.u < p.v)) (both es5)) :: blk b10 [I64 (1 + (Int.tmod sz8 20)), .slice ad8 (both es5).length cp9] 57 :: vc 60 (.slice ad8 (both es5).length cp9) (both es5) :: blk b7 [I64 (nd2), .slice ad3 es5.length cp4] 99 :: vc 150 (.slice ad3 es5.length cp4) (es5) :: blk dk1 [.slice la ln lc, I64 (i17)] 129 :: I)
      refine G.r (Runs.assign rfl) ?_
      refine G.r (Runs.assign rfl) ?_
      refine G.nt ?_
      refine W.sr ?_
      refine G.r (Runs.move rfl) ?_
      refine G.r (Runs.move rfl) ?_
      refine G.r (Runs.buildArr (cells := [_, _]) ty60 Try.underlying60 ty3 rfl rfl) ?_
      refine G.r (Runs.move rfl) ?_
      refine G.r (Runs.move rfl) ?_
      refine G.r (Runs.buildArr (cells := [_, _]) ty60 Try.underlying60 ty3 rfl rfl) ?_
      refine G.e (Eff.bs (α := Pt) (cs := [_, _, _, _]) (xs := [⟨x14, x16⟩, ⟨x16, x14⟩]) Try.underlying55 ty60 rfl rfl (by decide) (by decide) rfl rfl rfl rfl) ?_
      rintro _ _ ⟨ad18, rfl, rfl⟩
      refine G.r (Runs.assign rfl) ?_
      refine G.nt ?_
      refine W.sub (L' := [(14, _), (13, _), (12, _), (8, _), (7, _), (6, _)]) (Sub.cons rfl (Sub.cons rfl (Sub.cons rfl (Sub.cons rfl (Sub.cons rfl (Sub.cons rfl Sub.nil)))))) ?_
      refine W.seq ?_
      refine W.sr ?_
      refine G.r (Runs.lds (vs := [_, _]) ty99) ?_
      refine G.r (Runs.move rfl) ?_
      refine G.r (Runs.move rfl) ?_
      refine G.e (Eff.call call83 rfl rfl (AddG_ok Sl.o x14 x16 (by omega))) ?_
      rintro _ _ ⟨_, _, (⟨hnead19, rfl, rfl⟩ | ⟨ad19, cp20, hzad19, rfl, rfl⟩), rfl, rfl⟩
      ·show G Try.prog κ _ _ _ _ ([(89, .tuple #[.agg #[I64 (0), .slice none 0 0], I64 (addG nd2 es5 x14 x16)]), (88, I64 (x16)), (87, I64 (x14)), (86, .agg #[I64 (nd2), .slice ad3 es5.length cp4]), (14, .slice ad18 2 2), (13, I64 (x16)), (12, I64 (x14)), (8, .pointer (some ⟨b10, 0, none⟩)), (7, I64 (1 + (Int.tmod sz8 20))), (6, .pointer (some ⟨b7, 0, none⟩))] : Env) (vc 60 (.slice ad18 2 2) (([⟨x14, x16⟩, ⟨x16, x14⟩] : List Pt)) :: blk b13 [I64 (nd2), .slice ad11 (List.filter (fun p => decide (p.u < p.v)) (both es5)).length cp12] 99 :: vc 150 (.slice ad11 (List.filter (fun p => decide (p.u < p.v)) (both es5)).length cp12) (List.filter (fun p => decide (p.u < p.v)) (both es5)) :: blk b10 [I64 (1 + (Int.tmod sz8 20)), .slice ad8 (both es5).length cp9] 57 :: vc 60 (.slice ad8 (both es5).length cp9) (both es5) :: blk b7 [I64 (nd2), .slice ad3 es5.length cp4] 99 :: vc 150 (.slice ad3 es5.length cp4) (es5) :: blk dk1 [.slice la ln lc, I64 (i17)] 129 :: I)
       refine G.r (Runs.move rfl) ?_
       refine G.r (Runs.extract rfl rfl) ?_
       refine G.r (Runs.extract rfl rfl) ?_
       refine G.e (Eff.alloc ty99 rfl) ?_
       rintro _ _ ⟨b21, rfl, rfl⟩
       refine G.e (Eff.st (cs := [_, _]) (vs := [_, _]) (cs' := [_, _]) ty99) ?_
       rintro _ _ ⟨rfl, rfl⟩
       refine G.r (Runs.assign rfl) ?_
       refine G.nt ?_
       refine W.sub (L' := [(16, _), (15, _), (14, _), (8, _), (7, _)]) (Sub.cons rfl (Sub.cons rfl (Sub.cons rfl (Sub.cons rfl (Sub.cons rfl Sub.nil))))) ?_
       refine W.sr ?_
       refine G.r (Runs.move rfl) ?_
       refine G.r (Runs.eql rfl rfl) ?_
       refine G.nt ?_
       refine W.ite rfl (fun c93 => ?_) (fun c93 => ?_)
       ·exact absurd c93 hnead19
       ·refine W.skip ?_
        refine V.then ?_
        refine W.sr ?_
        refine G.e (Eff.call call43 rfl rfl Awake34_ok) ?_
        rintro _ _ ⟨_, _, ⟨rfl, rfl⟩, rfl, rfl⟩
        refine G.r (Runs.assign rfl) ?_
        refine G.nt ?_
        refine W.ret ?_
        exact V.ret1 rfl rfl (I) Fit.m ⟨rfl, rfl⟩
      ·show G Try.prog κ _ _ _ _ ([(89, .tuple #[.agg #[I64 (nd2), .slice ad19 (insB Pt.lt es5 (edgeP x14 x16)).length cp20], I64 (0)]), (88, I64 (x16)), (87, I64 (x14)), (86, .agg #[I64 (nd2), .slice ad3 es5.length cp4]), (14, .slice ad18 2 2), (13, I64 (x16)), (12, I64 (x14)), (8, .pointer (some ⟨b10, 0, none⟩)), (7, I64 (1 + (Int.tmod sz8 20))), (6, .pointer (some ⟨b7, 0, none⟩))] : Env) (vc 150 (.slice ad19 (insB Pt.lt es5 (edgeP x14 x16)).length cp20) (insB Pt.lt es5 (edgeP x14 x16)) :: vc 60 (.slice ad18 2 2) (([⟨x14, x16⟩, ⟨x16, x14⟩] : List Pt)) :: blk b13 [I64 (nd2), .slice ad11 (List.filter (fun p => decide (p.u < p.v)) (both es5)).length cp12] 99 :: vc 150 (.slice ad11 (List.filter (fun p => decide (p.u < p.v)) (both es5)).length cp12) (List.filter (fun p => decide (p.u < p.v)) (both es5)) :: blk b10 [I64 (1 + (Int.tmod sz8 20)), .slice ad8 (both es5).length cp9] 57 :: vc 60 (.slice ad8 (both es5).length cp9) (both es5) :: blk b7 [I64 (nd2), .slice ad3 es5.length cp4] 99 :: vc 150 (.slice ad3 es5.length cp4) (es5) :: blk dk1 [.slice la ln lc, I64 (i17)] 129 :: I)
       refine G.r (Runs.move rfl) ?_
       refine G.r (Runs.extract rfl rfl) ?_
       refine G.r (Runs.extract rfl rfl) ?_
       refine G.e (Eff.alloc ty99 rfl) ?_
       rintro _ _ ⟨b22, rfl, rfl⟩
       refine G.e (Eff.st (cs := [_, _]) (vs := [_, _]) (cs' := [_, _]) ty99) ?_
       rintro _ _ ⟨rfl, rfl⟩
       refine G.r (Runs.assign rfl) ?_
       refine G.nt ?_
       refine W.sub (L' := [(16, _), (15, _), (14, _), (8, _), (7, _)]) (Sub.cons rfl (Sub.cons rfl (Sub.cons rfl (Sub.cons rfl (Sub.cons rfl Sub.nil))))) ?_
       refine W.sr ?_
       refine G.r (Runs.move rfl) ?_
       refine G.r (Runs.eql rfl rfl) ?_
       refine G.nt ?_
       refine W.ite rfl (fun c93 => ?_) (fun c93 => ?_)
       ·refine W.sr ?_
        refine G.r (Runs.lds (vs := [_, _]) ty57) ?_
        have hzz := addG_zero.1 hzad19
        have hrun : RunOk (1 + Int.tmod sz8 20) (both es5) := hG.both (by omega)
        have hpr : ∀ p ∈ ([⟨x14, x16⟩, ⟨x16, x14⟩] : List Pt), p.right := by intro p hp; have hq := hzz.2.1; have hr := hG.rng; unfold endsP at hq; simp only [List.mem_cons, List.not_mem_nil, or_false] at hp; unfold Pt.right; rcases hp with rfl | rfl <;> (simp only; omega)
        have hEl := insB_len (lt := Pt.lt) (edgeP x14 x16) es5
        have hpl2 : ([⟨x14, x16⟩, ⟨x16, x14⟩] : List Pt).length = 2 := rfl
        refine G.r (Runs.move rfl) ?_
        refine G.e (Eff.call call66 rfl rfl (Patch_ok (l := both es5) (add := ([⟨x14, x16⟩, ⟨x16, x14⟩] : List Pt)) (cut := ([] : List Pt)) Sl.o Sl.o (Sl.nil _) (by repeat (first | assumption | exact right_nil | refine RunOk.patch ?_ ?_ | refine right_app ?_ ?_)) (by repeat (first | assumption | exact right_nil | refine RunOk.patch ?_ ?_ | refine right_app ?_ ?_)) (by repeat (first | assumption | exact right_nil | refine RunOk.patch ?_ ?_ | refine right_app ?_ ?_)) (by simp only [List.length_append, List.length_nil] at *; omega))) ?_
        rintro _ _ ⟨_, _, ⟨ad23, cp24, rfl, rfl⟩, rfl, rfl⟩
        have hplad23 := patchL_len (both es5) ([⟨x14, x16⟩, ⟨x16, x14⟩] : List Pt) ([] : List Pt)
        refine G.r (Runs.move rfl) ?_
        refine G.r (Runs.extract rfl rfl) ?_
        refine G.r (Runs.extract rfl rfl) ?_
        refine G.e (Eff.alloc ty57 rfl) ?_
        rintro _ _ ⟨b25, rfl, rfl⟩
        refine G.e (Eff.st (cs := [_, _]) (vs := [_, _]) (cs' := [_, _]) ty57) ?_
        rintro _ _ ⟨rfl, rfl⟩
        refine G.r (Runs.assign rfl) ?_
        refine G.nt ?_
        refine W.sub (L' := [(18, _), (17, _), (15, _), (14, _), (8, _), (7, _)]) (Sub.cons rfl (Sub.cons rfl (Sub.cons rfl (Sub.cons rfl (Sub.cons rfl (Sub.cons rfl Sub.nil)))))) ?_
        refine W.sr ?_
        refine G.r (Runs.lds (vs := [_, _]) ty99) ?_
        refine G.r (Runs.move rfl) ?_
        refine G.e (Eff.call call81 rfl rfl (Build_ok Sl.o (hG.add hzz.2.1) (sz := 1 + (Int.tmod sz8 20)) (by omega) (by omega))) ?_
        rintro _ _ ⟨_, _, ⟨ad26, cp27, rfl, rfl⟩, rfl, rfl⟩
        refine G.r (Runs.move rfl) ?_
        refine G.r (Runs.extract rfl rfl) ?_
        refine G.r (Runs.extract rfl rfl) ?_
        refine G.e (Eff.alloc ty57 rfl) ?_
        rintro _ _ ⟨b28, rfl, rfl⟩
        refine G.e (Eff.st (cs := [_, _]) (vs := [_, _]) (cs' := [_, _]) ty57) ?_
        rintro _ _ ⟨rfl, rfl⟩
        refine G.r (Runs.assign rfl) ?_
        refine G.nt ?_
        refine W.sub (L' := [(20, _), (19, _), (18, _), (17, _), (14, _), (8, _)]) (Sub.cons rfl (Sub.cons rfl (Sub.cons rfl (Sub.cons rfl (Sub.cons rfl (Sub.cons rfl Sub.nil)))))) ?_
        refine W.sr ?_
        refine G.r (Runs.lds (vs := [_, _]) ty57) ?_
        refine G.r (Runs.move rfl) ?_
        refine G.e (Eff.call call66 rfl rfl (Patch_ok (l := patchL (both es5) ([⟨x14, x16⟩, ⟨x16, x14⟩] : List Pt) ([] : List Pt)) (add := ([] : List Pt)) (cut := ([⟨x14, x16⟩, ⟨x16, x14⟩] : List Pt)) Sl.o (Sl.nil _) Sl.o (by repeat (first | assumption | exact right_nil | refine RunOk.patch ?_ ?_ | refine right_app ?_ ?_)) (by repeat (first | assumption | exact right_nil | refine RunOk.patch ?_ ?_ | refine right_app ?_ ?_)) (by repeat (first | assumption | exact right_nil | refine RunOk.patch ?_ ?_ | refine right_app ?_ ?_)) (by simp only [List.length_append, List.length_nil] at *; omega))) ?_
        rintro _ _ ⟨_, _, ⟨ad29, cp30, rfl, rfl⟩, rfl, rfl⟩
        have hplad29 := patchL_len (patchL (both es5) ([⟨x14, x16⟩, ⟨x16, x14⟩] : List Pt) ([] : List Pt)) ([] : List Pt) ([⟨x14, x16⟩, ⟨x16, x14⟩] : List Pt)
        refine G.r (Runs.move rfl) ?_
        refine G.r (Runs.extract rfl rfl) ?_
        refine G.r (Runs.extract rfl rfl) ?_
        refine G.e (Eff.alloc ty57 rfl) ?_
        rintro _ _ ⟨b31, rfl, rfl⟩
        refine G.e (Eff.st (cs := [_, _]) (vs := [_, _]) (cs' := [_, _]) ty57) ?_
        rintro _ _ ⟨rfl, rfl⟩
        refine G.r (Runs.assign rfl) ?_
        refine G.nt ?_
        refine W.sub (L' := [(22, _), (21, _), (20, _), (19, _), (18, _), (17, _), (8, _)]) (Sub.cons rfl (Sub.cons rfl (Sub.cons rfl (Sub.cons rfl (Sub.cons rfl (Sub.cons rfl (Sub.cons rfl Sub.nil))))))) ?_
        refine W.sr ?_
        refine G.r (Runs.move rfl) ?_
        refine G.r (Runs.neq rfl rfl) ?_
        refine G.r (Runs.move rfl) ?_
        refine G.split (d := 114) rfl (fun g114 => ?_) (fun g114 => ?_)
        ·exact absurd rfl g114
        ·refine G.ro (Runs.move rfl) ?_
         refine G.ro (Runs.neq rfl rfl) ?_
         refine G.r (Runs.pickf rfl rfl) ?_
         refine G.r (Runs.move rfl) ?_
         refine G.split (d := 118) rfl (fun g118 => ?_) (fun g118 => ?_)
         ·exact absurd rfl g118
         ·refine G.ro (Runs.move rfl) ?_
          refine G.ro (Runs.neq rfl rfl) ?_
          refine G.r (Runs.pickf rfl rfl) ?_
          refine G.r (Runs.move rfl) ?_
          refine G.split (d := 122) rfl (fun g122 => ?_) (fun g122 => ?_)
          ·exact absurd rfl g122
          ·refine G.ro (Runs.lds (vs := [_, _]) ty57) ?_
           refine G.ro (Runs.lds (vs := [_, _]) ty57) ?_
           refine G.eff (Wanted.on rfl rfl rfl) (Eff.call call67 rfl rfl (Same34_ok Sl.o Sl.o)) ?_
           rintro _ _ ⟨_, _, ⟨rfl, rfl⟩, rfl, rfl⟩
           refine G.ro (Runs.notd rfl) ?_
           refine G.r (Runs.pickf rfl rfl) ?_
           refine G.r (Runs.move rfl) ?_
           refine G.split (d := 128) rfl (fun g128 => ?_) (fun g128 => ?_)
           ·exact absurd ⟨rfl, both_patch hG hzz.2.1⟩ g128
           ·refine G.ro (Runs.lds (vs := [_, _]) ty57) ?_
            refine G.ro (Runs.lds (vs := [_, _]) ty57) ?_
            refine G.eff (Wanted.on rfl rfl rfl) (Eff.call call67 rfl rfl (Same34_ok Sl.o Sl.o)) ?_
            rintro _ _ ⟨_, _, ⟨rfl, rfl⟩, rfl, rfl⟩
            refine G.ro (Runs.notd rfl) ?_
            refine G.r (Runs.pickf rfl rfl) ?_
            refine G.nt ?_
            refine W.sub (L' := [(133, _)]) (Sub.cons rfl Sub.nil) ?_
            refine W.ite rfl (fun c133 => ?_) (fun c133 => ?_)
            ·exact absurd ⟨rfl, both_unpatch hG hzz.2.1 hzz.2.2⟩ c133
            ·refine W.skip ?_
             refine V.then ?_
             refine W.sr ?_
             refine G.e (Eff.call call43 rfl rfl Awake34_ok) ?_
             rintro _ _ ⟨_, _, ⟨rfl, rfl⟩, rfl, rfl⟩
             refine G.r (Runs.assign rfl) ?_
             refine G.nt ?_
             refine W.ret ?_
             exact V.ret1 rfl rfl (I) Fit.m ⟨rfl, rfl⟩
       ·exact absurd rfl c93

end Go.Sl
