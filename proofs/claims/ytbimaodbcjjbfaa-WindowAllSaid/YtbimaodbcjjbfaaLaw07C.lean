/- A part of the proofs of statements of this seat: contracts of functions, and the plain laws that they lean on. No conditions. -/
import Derived.Test.YtbimaodbcjjbfaaWinZD
namespace Go.Sl
open Go.Proofs
set_option linter.unusedVariables false
set_option linter.unusedSimpArgs false
set_option maxRecDepth 4000
set_option maxHeartbeats 2000000 in
theorem WindowAll_walk {κ : Ctx} {I : List Item} {la : Option Addr} {ln lc : Nat} {ls : List Int} (hl : Sl κ I (.slice la ln lc) ls) :
    CallS Try.prog κ 18 [.slice la ln lc] I (fun r J => r = .bool true ∧ I = J) := by
 refine CallS.enter (L := [(0, .slice la ln lc)]) Try.func18 rfl rfl rfl rfl ?_
 refine W.sr ?_
 refine G.r (Runs.assign rfl) ?_
 refine G.nt ?_
 refine W.sr ?_
 refine G.r (Runs.move rfl) ?_
 refine G.e (Eff.call call22 rfl rfl New_ok) ?_
 rintro _ _ ⟨_, _, ⟨dk1, rfl, rfl⟩, rfl, rfl⟩
 show G Try.prog κ _ _ _ _ ([(13, .pointer (some ⟨dk1, 0, none⟩)), (12, .slice la ln lc), (2, .bool false), (0, .slice la ln lc)] : Env) (blk dk1 [.slice la ln lc, I64 (0)] 129 :: I)
 have hi0 : (0 : Int) ≤ 0 := Int.le_refl _
 refine G.r (Runs.assign rfl) ?_
 refine G.nt ?_
 refine W.sr ?_
 refine G.r (Runs.move rfl) ?_
 refine G.e (Eff.call call25 rfl rfl (Next_ok (by repeat (first | exact AtF.head _ _ | apply AtF.tail)) (Sl.f hl) (by omega) (by omega))) ?_
 rintro _ _ ⟨_, _, ⟨x2, i3, rfl, hx2, hi3, rfl⟩, rfl, rfl⟩
 show G Try.prog κ _ _ _ _ ([(15, I64 (x2)), (14, .pointer (some ⟨dk1, 0, none⟩)), (3, .pointer (some ⟨dk1, 0, none⟩)), (13, .pointer (some ⟨dk1, 0, none⟩)), (12, .slice la ln lc), (2, .bool false), (0, .slice la ln lc)] : Env) (blk dk1 [.slice la ln lc, I64 (i3)] 129 :: I)
 refine G.r (Runs.add rfl rfl (by unfold InR; omega)) ?_
 refine G.r (Runs.assign rfl) ?_
 refine G.nt ?_
 refine W.sr ?_
 refine G.r (Runs.move rfl) ?_
 refine G.r (Runs.move rfl) ?_
 refine G.e (Eff.call call84 rfl rfl (MkEvents_at (by repeat (first | exact AtF.head _ _ | apply AtF.tail)) (fun _ => Sl.fit hl Fit.m) (by omega)  (by omega) (by omega))) ?_
 rintro _ _ ⟨_, _, ⟨⟨ad4, cp5, es6, i7⟩, ⟨⟨rfl, hses6⟩, hi7⟩, rfl⟩, rfl, rfl⟩
 show G Try.prog κ _ _ _ _ ([(19, .slice ad4 es6.length cp5), (18, I64 (2 + x2)), (17, .pointer (some ⟨dk1, 0, none⟩)), (4, I64 (2 + x2)), (16, I64 (2 + x2)), (15, I64 (x2)), (14, .pointer (some ⟨dk1, 0, none⟩)), (3, .pointer (some ⟨dk1, 0, none⟩)), (13, .pointer (some ⟨dk1, 0, none⟩)), (12, .slice la ln lc), (2, .bool false), (0, .slice la ln lc)] : Env) (vc 122 (.slice ad4 es6.length cp5) (es6) :: blk dk1 [.slice la ln lc, I64 (i7)] 129 :: I)
 have hi7 : 0 ≤ i7 := hi7
 dsimp only at hses6
 refine G.r (Runs.assign rfl) ?_
 have hSt : StOk (2 + x2) es6 := hses6.1.st (by omega) (by omega)
 have hSl := hses6.2
 refine G.nt ?_
 refine W.sr ?_
 refine G.r (Runs.move rfl) ?_
 refine G.r (Runs.move rfl) ?_
 refine G.r (Runs.build (cells := [_, _, _]) ty73 Try.underlying73 pl73 rfl rfl) ?_
 refine G.e (Eff.call call85 rfl rfl (Slide_yes (nd := (2 + x2)) (kd := 1) (wd := 0) (mo := 0) (es := es6) Sl.o (slideE_zero hSt ckw1))) ?_
 rintro _ _ ⟨_, _, ⟨ad8, cp9, rfl, rfl⟩, rfl, rfl⟩
 show G Try.prog κ _ _ _ _ ([(24, .tuple #[.slice ad8 ((slideS 1 0 0 es6).2).length cp9, I64 (0)]), (23, .agg #[I64 (1), I64 (0), I64 (0)]), (22, .slice ad4 es6.length cp5), (21, I64 (2 + x2)), (5, .slice ad4 es6.length cp5), (19, .slice ad4 es6.length cp5), (18, I64 (2 + x2)), (17, .pointer (some ⟨dk1, 0, none⟩)), (4, I64 (2 + x2)), (16, I64 (2 + x2)), (15, I64 (x2)), (14, .pointer (some ⟨dk1, 0, none⟩)), (3, .pointer (some ⟨dk1, 0, none⟩)), (13, .pointer (some ⟨dk1, 0, none⟩)), (12, .slice la ln lc), (2, .bool false), (0, .slice la ln lc)] : Env) (vc 122 (.slice ad8 ((slideS 1 0 0 es6).2).length cp9) ((slideS 1 0 0 es6).2) :: vc 122 (.slice ad4 es6.length cp5) (es6) :: blk dk1 [.slice la ln lc, I64 (i7)] 129 :: I)
 refine G.r (Runs.move rfl) ?_
 refine G.r (Runs.extract rfl rfl) ?_
 refine G.r (Runs.extract rfl rfl) ?_
 refine G.r (Runs.assign rfl) ?_
 refine G.r (Runs.assign rfl) ?_
 refine G.nt ?_
 refine W.sub (L' := [(7, _), (6, _), (5, _), (4, _)]) (Sub.cons rfl (Sub.cons rfl (Sub.cons rfl (Sub.cons rfl Sub.nil)))) ?_
 refine W.sr ?_
 refine G.r (Runs.move rfl) ?_
 refine G.r (Runs.move rfl) ?_
 refine G.r (Runs.build (cells := [_, _, _]) ty73 Try.underlying73 pl73 rfl rfl) ?_
 refine G.e (Eff.call call85 rfl rfl (Slide_yes (nd := (2 + x2)) (kd := 2) (wd := 1000) (mo := 0) (es := es6) Sl.o (slideE_zero hSt ckw2w))) ?_
 rintro _ _ ⟨_, _, ⟨ad10, cp11, rfl, rfl⟩, rfl, rfl⟩
 show G Try.prog κ _ _ _ _ ([(31, .tuple #[.slice ad10 ((slideS 2 1000 0 es6).2).length cp11, I64 (0)]), (30, .agg #[I64 (2), I64 (1000), I64 (0)]), (29, .slice ad4 es6.length cp5), (28, I64 (2 + x2)), (7, I64 (0)), (6, .slice ad8 ((slideS 1 0 0 es6).2).length cp9), (5, .slice ad4 es6.length cp5), (4, I64 (2 + x2))] : Env) (vc 122 (.slice ad10 ((slideS 2 1000 0 es6).2).length cp11) ((slideS 2 1000 0 es6).2) :: vc 122 (.slice ad8 ((slideS 1 0 0 es6).2).length cp9) ((slideS 1 0 0 es6).2) :: vc 122 (.slice ad4 es6.length cp5) (es6) :: blk dk1 [.slice la ln lc, I64 (i7)] 129 :: I)
 refine G.r (Runs.move rfl) ?_
 refine G.r (Runs.extract rfl rfl) ?_
 refine G.r (Runs.extract rfl rfl) ?_
 refine G.r (Runs.assign rfl) ?_
 refine G.r (Runs.assign rfl) ?_
 refine G.nt ?_
 refine W.sr ?_
 refine G.r (Runs.move rfl) ?_
 refine G.r (Runs.move rfl) ?_
 refine G.r (Runs.build (cells := [_, _, _]) ty73 Try.underlying73 pl73 rfl rfl) ?_
 refine G.e (Eff.call call85 rfl rfl (Slide_yes (nd := (2 + x2)) (kd := 3) (wd := 0) (mo := 100) (es := es6) Sl.o (slideE_zero hSt ckw3m))) ?_
 rintro _ _ ⟨_, _, ⟨ad12, cp13, rfl, rfl⟩, rfl, rfl⟩
 show G Try.prog κ _ _ _ _ ([(38, .tuple #[.slice ad12 ((slideS 3 0 100 es6).2).length cp13, I64 (0)]), (37, .agg #[I64 (3), I64 (0), I64 (100)]), (36, .slice ad4 es6.length cp5), (35, I64 (2 + x2)), (9, I64 (0)), (8, .slice ad10 ((slideS 2 1000 0 es6).2).length cp11), (33, I64 (0)), (32, .slice ad10 ((slideS 2 1000 0 es6).2).length cp11), (27, .tuple #[.slice ad10 ((slideS 2 1000 0 es6).2).length cp11, I64 (0)]), (31, .tuple #[.slice ad10 ((slideS 2 1000 0 es6).2).length cp11, I64 (0)]), (30, .agg #[I64 (2), I64 (1000), I64 (0)]), (29, .slice ad4 es6.length cp5), (28, I64 (2 + x2)), (7, I64 (0)), (6, .slice ad8 ((slideS 1 0 0 es6).2).length cp9), (5, .slice ad4 es6.length cp5), (4, I64 (2 + x2))] : Env) (vc 122 (.slice ad12 ((slideS 3 0 100 es6).2).length cp13) ((slideS 3 0 100 es6).2) :: vc 122 (.slice ad10 ((slideS 2 1000 0 es6).2).length cp11) ((slideS 2 1000 0 es6).2) :: vc 122 (.slice ad8 ((slideS 1 0 0 es6).2).length cp9) ((slideS 1 0 0 es6).2) :: vc 122 (.slice ad4 es6.length cp5) (es6) :: blk dk1 [.slice la ln lc, I64 (i7)] 129 :: I)
 refine G.r (Runs.move rfl) ?_
 refine G.r (Runs.extract rfl rfl) ?_
 refine G.r (Runs.extract rfl rfl) ?_
 refine G.r (Runs.assign rfl) ?_
 refine G.r (Runs.assign rfl) ?_
 refine G.nt ?_
 refine W.sub (L' := [(11, _), (10, _), (9, _), (8, _), (7, _), (6, _), (5, _)]) (Sub.cons rfl (Sub.cons rfl (Sub.cons rfl (Sub.cons rfl (Sub.cons rfl (Sub.cons rfl (Sub.cons rfl Sub.nil))))))) ?_
 refine W.sr ?_
 refine G.r (Runs.move rfl) ?_
 refine G.r (Runs.move rfl) ?_
 refine G.r (Runs.add rfl rfl (by unfold InR; omega)) ?_
 refine G.r (Runs.move rfl) ?_
 refine G.r (Runs.add rfl rfl (by unfold InR; omega)) ?_
 refine G.r (Runs.eql rfl rfl) ?_
 refine G.r (Runs.move rfl) ?_
 refine G.split (d := 47) rfl (fun g47 => ?_) (fun g47 => ?_)
 ·refine G.ro (Runs.move rfl) ?_
  refine G.ro (Runs.move rfl) ?_
  refine G.eff (Wanted.on rfl rfl rfl) (Eff.call call58 rfl rfl (Same4_ok Sl.o Sl.o)) ?_
  rintro _ _ ⟨_, _, ⟨rfl, rfl⟩, rfl, rfl⟩
  refine G.r (Runs.pickt rfl rfl) ?_
  refine G.r (Runs.move rfl) ?_
  refine G.split (d := 52) rfl (fun g52 => ?_) (fun g52 => ?_)
  ·refine G.ro (Runs.move rfl) ?_
   refine G.ro (Runs.move rfl) ?_
   refine G.eff (Wanted.on rfl rfl rfl) (Eff.call call58 rfl rfl (Same4_ok Sl.o Sl.o)) ?_
   rintro _ _ ⟨_, _, ⟨rfl, rfl⟩, rfl, rfl⟩
   refine G.r (Runs.pickt rfl rfl) ?_
   refine G.r (Runs.move rfl) ?_
   refine G.split (d := 57) rfl (fun g57 => ?_) (fun g57 => ?_)
   ·refine G.ro (Runs.move rfl) ?_
    refine G.ro (Runs.move rfl) ?_
    refine G.eff (Wanted.on rfl rfl rfl) (Eff.call call58 rfl rfl (Same4_ok Sl.o Sl.o)) ?_
    rintro _ _ ⟨_, _, ⟨rfl, rfl⟩, rfl, rfl⟩
    refine G.r (Runs.pickt rfl rfl) ?_
    refine G.r (Runs.move rfl) ?_
    refine G.split (d := 62) rfl (fun g62 => ?_) (fun g62 => ?_)
    ·refine G.eff (Wanted.on rfl rfl rfl) (Eff.call call49 rfl rfl Awake7_ok) ?_
     rintro _ _ ⟨_, _, ⟨rfl, rfl⟩, rfl, rfl⟩
     refine G.r (Runs.pickt rfl rfl) ?_
     refine G.r (Runs.assign rfl) ?_
     refine G.nt ?_
     refine W.sub (L' := [(2, _)]) (Sub.cons rfl Sub.nil) ?_
     refine W.ret ?_
     exact V.ret1 rfl rfl (I) Fit.m ⟨rfl, rfl⟩
    ·exact absurd (many_same hSt (by omega)) g62
   ·exact absurd (wide_same hSt hses6.1.tm) g57
  ·exact absurd (all_same 0 0 es6) g52
 ·exact absurd rfl g47

end Go.Sl
