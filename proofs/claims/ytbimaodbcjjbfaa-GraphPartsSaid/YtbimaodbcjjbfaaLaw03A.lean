/- A part of the proofs of statements of this seat: contracts of functions, and the plain laws that they lean on. No conditions. -/
import Derived.Test.YtbimaodbcjjbfaaGraphK5
namespace Go.Sl
open Go.Proofs
set_option linter.unusedVariables false
set_option linter.unusedSimpArgs false
set_option maxRecDepth 4000
set_option maxHeartbeats 4000000 in
theorem GraphParts_walk {κ : Ctx} {I : List Item} {la : Option Addr} {ln lc : Nat} {ls : List Int} (hl : Sl κ I (.slice la ln lc) ls) :
    CallS Try.prog κ 13 [.slice la ln lc] I (fun r J => r = .bool true ∧ I = J) := by
 refine CallS.enter (L := [(0, .slice la ln lc)]) Try.func13 rfl rfl rfl rfl ?_
 refine W.sr ?_
 refine G.r (Runs.assign rfl) ?_
 refine G.nt ?_
 refine W.sr ?_
 refine G.r (Runs.move rfl) ?_
 refine G.e (Eff.call call22 rfl rfl New_ok) ?_
 rintro _ _ ⟨_, _, ⟨dk1, rfl, rfl⟩, rfl, rfl⟩
 show G Try.prog κ _ _ _ _ ([(8, .pointer (some ⟨dk1, 0, none⟩)), (7, .slice la ln lc), (2, .bool false), (0, .slice la ln lc)] : Env) (blk dk1 [.slice la ln lc, I64 (0)] 129 :: I)
 have hi0 : (0 : Int) ≤ 0 := Int.le_refl _
 refine G.r (Runs.assign rfl) ?_
 refine G.nt ?_
 refine W.sr ?_
 refine G.r (Runs.move rfl) ?_
 refine G.e (Eff.call call69 rfl rfl (MkGraph_at (by repeat (first | exact AtF.head _ _ | apply AtF.tail)) (fun _ => Sl.fit hl Fit.m) (by omega)  (by omega))) ?_
 rintro _ _ ⟨_, _, ⟨⟨nd2, ad3, cp4, es5, i6⟩, ⟨⟨rfl, hges5⟩, hi6⟩, rfl⟩, rfl, rfl⟩
 show G Try.prog κ _ _ _ _ ([(10, .agg #[I64 (nd2), .slice ad3 es5.length cp4]), (9, .pointer (some ⟨dk1, 0, none⟩)), (3, .pointer (some ⟨dk1, 0, none⟩)), (8, .pointer (some ⟨dk1, 0, none⟩)), (7, .slice la ln lc), (2, .bool false), (0, .slice la ln lc)] : Env) (vc 150 (.slice ad3 es5.length cp4) (es5) :: blk dk1 [.slice la ln lc, I64 (i6)] 129 :: I)
 have hi6 : 0 ≤ i6 := hi6
 dsimp only at hges5
 have hG := hges5.2.1
 have hel := hges5.2.2
 have hnd := hges5.1
 refine G.e (Eff.alloc ty99 rfl) ?_
 rintro _ _ ⟨b7, rfl, rfl⟩
 refine G.e (Eff.st (cs := [_, _]) (vs := [_, _]) (cs' := [_, _]) ty99) ?_
 rintro _ _ ⟨rfl, rfl⟩
 refine G.nt ?_
 refine W.sr ?_
 refine G.r (Runs.move rfl) ?_
 refine G.e (Eff.call call26 rfl rfl (Set_at (by repeat (first | exact AtF.head _ _ | apply AtF.tail)) (fun _ => Sl.fit hl Fit.m) (by omega) (by omega))) ?_
 rintro _ _ ⟨_, _, ⟨ad9, cp10, o11, i8, rfl, ho11, hlo11, hi8, rfl⟩, rfl, rfl⟩
 show G Try.prog κ _ _ _ _ ([(12, .slice ad9 o11.length cp10), (11, .pointer (some ⟨dk1, 0, none⟩)), (4, .pointer (some ⟨b7, 0, none⟩)), (10, .agg #[I64 (nd2), .slice ad3 es5.length cp4]), (9, .pointer (some ⟨dk1, 0, none⟩)), (3, .pointer (some ⟨dk1, 0, none⟩)), (8, .pointer (some ⟨dk1, 0, none⟩)), (7, .slice la ln lc), (2, .bool false), (0, .slice la ln lc)] : Env) (vc 3 (.slice ad9 o11.length cp10) (o11) :: blk b7 [I64 (nd2), .slice ad3 es5.length cp4] 99 :: vc 150 (.slice ad3 es5.length cp4) (es5) :: blk dk1 [.slice la ln lc, I64 (i8)] 129 :: I)
 refine G.r (Runs.move rfl) ?_
 refine G.e (Eff.call call26 rfl rfl (Set_at (by repeat (first | exact AtF.head _ _ | apply AtF.tail)) (fun _ => Sl.fit hl Fit.m) (by omega) (by omega))) ?_
 rintro _ _ ⟨_, _, ⟨ad13, cp14, o15, i12, rfl, ho15, hlo15, hi12, rfl⟩, rfl, rfl⟩
 show G Try.prog κ _ _ _ _ ([(14, .slice ad13 o15.length cp14), (13, .pointer (some ⟨dk1, 0, none⟩)), (12, .slice ad9 o11.length cp10), (11, .pointer (some ⟨dk1, 0, none⟩)), (4, .pointer (some ⟨b7, 0, none⟩)), (10, .agg #[I64 (nd2), .slice ad3 es5.length cp4]), (9, .pointer (some ⟨dk1, 0, none⟩)), (3, .pointer (some ⟨dk1, 0, none⟩)), (8, .pointer (some ⟨dk1, 0, none⟩)), (7, .slice la ln lc), (2, .bool false), (0, .slice la ln lc)] : Env) (vc 3 (.slice ad13 o15.length cp14) (o15) :: vc 3 (.slice ad9 o11.length cp10) (o11) :: blk b7 [I64 (nd2), .slice ad3 es5.length cp4] 99 :: vc 150 (.slice ad3 es5.length cp4) (es5) :: blk dk1 [.slice la ln lc, I64 (i12)] 129 :: I)
 refine G.r (Runs.assign rfl) ?_
 refine G.r (Runs.assign rfl) ?_
 have hla : o11.length ≤ 9 := by omega
 have hlb : o15.length ≤ 9 := by omega
 have hpl := parts_le o11 o15 hG
 refine G.nt ?_
 refine W.sub (L' := [(6, _), (5, _), (4, _)]) (Sub.cons rfl (Sub.cons rfl (Sub.cons rfl Sub.nil))) ?_
 refine W.seq ?_
 refine W.drawn mixed ?_
 refine A.hold (vc 3 (.slice ad13 o15.length cp14) (o15) :: vc 3 (.slice ad9 o11.length cp10) (o11) :: blk b7 [I64 (nd2), .slice ad3 es5.length cp4] 99 :: vc 150 (.slice ad3 es5.length cp4) (es5) :: blk dk1 [.slice la ln lc, I64 (i12)] 129 :: I) 39 ?_
 refine D.r 0 rfl (Runs.lds (vs := [_, _]) ty99) ?_ (hJ := Fit.sub)
 refine D.r 1 rfl (Runs.move rfl) ?_ (hJ := Fit.sub)
 refine D.r 3 rfl (Runs.lds (vs := [_, _]) ty99) ?_ (hJ := Fit.sub)
 refine D.r 4 rfl (Runs.move rfl) ?_ (hJ := Fit.sub)
 refine D.r 7 rfl (Runs.lds (vs := [_, _]) ty99) ?_ (hJ := Fit.sub)
 refine D.r 8 rfl (Runs.move rfl) ?_ (hJ := Fit.sub)
 refine D.r 9 rfl (Runs.move rfl) ?_ (hJ := Fit.sub)
 refine D.r 12 rfl (Runs.lds (vs := [_, _]) ty99) ?_ (hJ := Fit.sub)
 refine D.r 13 rfl (Runs.move rfl) ?_ (hJ := Fit.sub)
 refine D.r 14 rfl (Runs.move rfl) ?_ (hJ := Fit.sub)
 refine D.step (rs := [2]) (by kernel_rfl) rfl rfl (all1 ?_)
 refine Step.eff rfl (Wanted.plain rfl) (Eff.call call78 rfl rfl (InsideG_ok (nd := nd2) Sl.o Sl.o (by omega))) ?_
 rintro _ _ ⟨_, _, ⟨rfl, rfl⟩, rfl, rfl⟩
 refine ⟨Fit.sub, ?_⟩
 have hin17 := insideN_le nd2 es5 o11
 refine D.step (rs := [5]) (by kernel_rfl) rfl rfl (all1 ?_)
 refine Step.eff rfl (Wanted.plain rfl) (Eff.call call78 rfl rfl (InsideG_ok (nd := nd2) Sl.o Sl.o (by omega))) ?_
 rintro _ _ ⟨_, _, ⟨rfl, rfl⟩, rfl, rfl⟩
 refine ⟨Fit.sub, ?_⟩
 have hin20 := insideN_le nd2 es5 o15
 refine D.r 6 rfl (Runs.add rfl rfl (by unfold InR; omega)) ?_ (hJ := Fit.sub)
 refine D.step (rs := [10]) (by kernel_rfl) rfl rfl (all1 ?_)
 refine Step.eff rfl (Wanted.plain rfl) (Eff.call call39 rfl rfl (Union_ok Sl.o Sl.o (by omega))) ?_
 rintro _ _ ⟨_, _, ⟨ad16, cp17, rfl, rfl⟩, rfl, rfl⟩
 refine ⟨Fit.sub, ?_⟩
 refine D.step (rs := [11]) (by kernel_rfl) rfl rfl (all1 ?_)
 refine Step.eff rfl (Wanted.plain rfl) (Eff.call call78 rfl rfl (InsideG_ok (nd := nd2) Sl.o Sl.o (by omega))) ?_
 rintro _ _ ⟨_, _, ⟨rfl, rfl⟩, rfl, rfl⟩
 refine ⟨Fit.sub, ?_⟩
 have hin26 := insideN_le nd2 es5 (ofL (o11 ++ o15))
 refine D.step (rs := [15]) (by kernel_rfl) rfl rfl (all1 ?_)
 refine Step.eff rfl (Wanted.plain rfl) (Eff.call call79 rfl rfl (Meet_ok Sl.o Sl.o (by omega))) ?_
 rintro _ _ ⟨_, _, ⟨ad18, cp19, rfl, rfl⟩, rfl, rfl⟩
 refine ⟨Fit.sub, ?_⟩
 refine D.step (rs := [16]) (by kernel_rfl) rfl rfl (all1 ?_)
 refine Step.eff rfl (Wanted.plain rfl) (Eff.call call78 rfl rfl (InsideG_ok (nd := nd2) Sl.o Sl.o (by omega))) ?_
 rintro _ _ ⟨_, _, ⟨rfl, rfl⟩, rfl, rfl⟩
 refine ⟨Fit.sub, ?_⟩
 have hin31 := insideN_le nd2 es5 (meetL o11 o15)
 refine D.r 17 rfl (Runs.add rfl rfl (by unfold InR; omega)) ?_ (hJ := Fit.sub)
 refine D.r 18 rfl (Runs.leq rfl rfl) ?_ (hJ := Fit.sub)
 refine D.r 19 rfl (Runs.move rfl) ?_ (hJ := Fit.sub)
 refine D.split (d := 34) rfl (fun g34 => ?_) (fun g34 => ?_)
 ·refine D.read 20 rfl (by kernel_rfl) (by kernel_rfl) (by kernel_rfl) rfl (by kernel_rfl) (fun _ _ _ _ h => h) (Wanted.on rfl rfl rfl) rfl rfl Fit.sub (Runs.lds (vs := [_, _]) ty99) ?_
  refine D.read 21 rfl (by kernel_rfl) (by kernel_rfl) (by kernel_rfl) rfl (by kernel_rfl) (fun _ _ _ _ h => h) (Wanted.on rfl rfl rfl) rfl rfl Fit.sub (Runs.fieldAddr fld99_0 rfl) ?_
  refine D.read 22 rfl (by kernel_rfl) (by kernel_rfl) (by kernel_rfl) rfl (by kernel_rfl) (fun _ _ _ _ h => h) (Wanted.on rfl rfl rfl) rfl rfl Fit.sub (Runs.ld ty3) ?_
  refine D.read 25 rfl (by kernel_rfl) (by kernel_rfl) (by kernel_rfl) rfl (by kernel_rfl) (fun _ _ _ _ h => h) (Wanted.on rfl rfl rfl) rfl rfl Fit.sub (Runs.fieldAddr fld99_1 rfl) ?_
  refine D.read 26 rfl (by kernel_rfl) (by kernel_rfl) (by kernel_rfl) rfl (by kernel_rfl) (fun _ _ _ _ h => h) (Wanted.on rfl rfl rfl) rfl rfl Fit.sub (Runs.ld ty97) ?_
  refine D.read 27 rfl (by kernel_rfl) (by kernel_rfl) (by kernel_rfl) rfl (by kernel_rfl) (fun _ _ _ _ h => h) (Wanted.on rfl rfl rfl) rfl rfl Fit.sub (Runs.lens Try.underlying97 rfl) ?_
  refine D.step (rs := [23]) (by kernel_rfl) rfl rfl (all1 ?_)
  refine Step.eff rfl (Wanted.on rfl rfl rfl) (Eff.call call80 rfl rfl (Range_ok nd2)) ?_
  rintro _ _ ⟨_, _, ⟨ad20, cp21, rfl, rfl⟩, rfl, rfl⟩
  refine ⟨Fit.sub, ?_⟩
  refine D.step (rs := [24]) (by kernel_rfl) rfl rfl (all1 ?_)
  refine Step.eff rfl (Wanted.on rfl rfl rfl) (Eff.call call78 rfl rfl (InsideG_ok (nd := nd2) Sl.o Sl.o (by omega))) ?_
  rintro _ _ ⟨_, _, ⟨rfl, rfl⟩, rfl, rfl⟩
  refine ⟨Fit.sub, ?_⟩
  have hin39 := insideN_le nd2 es5 (rangeI nd2)
  refine D.read 28 rfl (by kernel_rfl) (by kernel_rfl) (by kernel_rfl) rfl (by kernel_rfl) (fun _ _ _ _ h => h) (Wanted.on rfl rfl rfl) rfl rfl Fit.sub (Runs.eql rfl rfl) ?_
  refine D.r 29 rfl (Runs.pickt rfl rfl) ?_ (hJ := Fit.sub)
  refine D.r 30 rfl (Runs.move rfl) ?_ (hJ := Fit.sub)
  refine D.split (d := 45) rfl (fun g45 => ?_) (fun g45 => ?_)
  ·refine D.read 31 rfl (by kernel_rfl) (by kernel_rfl) (by kernel_rfl) rfl (by kernel_rfl) (fun _ _ _ _ h => h) (Wanted.on rfl rfl rfl) rfl rfl Fit.sub (Runs.lds (vs := [_, _]) ty99) ?_
   refine D.step (rs := [32]) (by kernel_rfl) rfl rfl (all1 ?_)
   refine Step.eff rfl (Wanted.on rfl rfl rfl) (Eff.call call78 rfl rfl (InsideG_ok (nd := nd2) Sl.o (Sl.nil _) (by omega))) ?_
   rintro _ _ ⟨_, _, ⟨rfl, rfl⟩, rfl, rfl⟩
   refine ⟨Fit.sub, ?_⟩
   have hin47 := insideN_le nd2 es5 ([] : List Int)
   refine D.read 33 rfl (by kernel_rfl) (by kernel_rfl) (by kernel_rfl) rfl (by kernel_rfl) (fun _ _ _ _ h => h) (Wanted.on rfl rfl rfl) rfl rfl Fit.sub (Runs.eql rfl rfl) ?_
   refine D.r 34 rfl (Runs.pickt rfl rfl) ?_ (hJ := Fit.sub)
   refine D.r 35 rfl (Runs.move rfl) ?_ (hJ := Fit.sub)
   refine D.split (d := 50) rfl (fun g50 => ?_) (fun g50 => ?_)
   ·refine D.step (rs := [36]) (by kernel_rfl) rfl rfl (all1 ?_)
    refine Step.eff rfl (Wanted.on rfl rfl rfl) (Eff.call call68 rfl rfl Awake03_ok) ?_
    rintro _ _ ⟨_, _, ⟨rfl, rfl⟩, rfl, rfl⟩
    refine ⟨Fit.sub, ?_⟩
    refine D.r 37 rfl (Runs.pickt rfl rfl) ?_ (hJ := Fit.sub)
    refine D.r 38 rfl (Runs.assign rfl) ?_ (hJ := Fit.sub)
    refine D.done (by kernel_rfl) ?_
    refine V.then ?_
    refine W.sub (L' := [(2, _)]) (Sub.cons rfl Sub.nil) ?_
    refine W.ret ?_
    exact V.ret1 rfl rfl (I) Fit.m ⟨rfl, rfl⟩
   ·exact absurd (by rw [inside_none hG]; rfl) g50
  ·exact absurd (by rw [inside_all hG]) g45
 ·exact absurd (by omega) g34

end Go.Sl
