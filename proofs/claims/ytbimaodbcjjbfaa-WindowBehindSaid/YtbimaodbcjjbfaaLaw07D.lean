/- A part of the proofs of statements of this seat: contracts of functions, and the plain laws that they lean on. No conditions. -/
import Derived.Test.YtbimaodbcjjbfaaWinZD
namespace Go.Sl
open Go.Proofs
set_option linter.unusedVariables false
set_option linter.unusedSimpArgs false
set_option maxRecDepth 4000
set_option maxHeartbeats 4000000 in
theorem WindowBehind_walk {κ : Ctx} {I : List Item} {la : Option Addr} {ln lc : Nat} {ls : List Int} (hl : Sl κ I (.slice la ln lc) ls) (h : Int) :
    CallS Try.prog κ 16 [.slice la ln lc, I64 (h)] I (fun r J => r = .bool true ∧ I = J) := by
 refine CallS.enter (L := [(0, .slice la ln lc), (1, I64 (h))]) Try.func16 rfl rfl rfl rfl ?_
 refine W.sr ?_
 refine G.r (Runs.assign rfl) ?_
 refine G.nt ?_
 refine W.sr ?_
 refine G.r (Runs.move rfl) ?_
 refine G.e (Eff.call call22 rfl rfl New_ok) ?_
 rintro _ _ ⟨_, _, ⟨dk1, rfl, rfl⟩, rfl, rfl⟩
 show G Try.prog κ _ _ _ _ ([(21, .pointer (some ⟨dk1, 0, none⟩)), (20, .slice la ln lc), (4, .bool false), (0, .slice la ln lc), (1, I64 (h))] : Env) (blk dk1 [.slice la ln lc, I64 (0)] 129 :: I)
 have hi0 : (0 : Int) ≤ 0 := Int.le_refl _
 refine G.r (Runs.assign rfl) ?_
 refine G.nt ?_
 refine W.sr ?_
 refine G.r (Runs.move rfl) ?_
 refine G.e (Eff.call call25 rfl rfl (Next_ok (by repeat (first | exact AtF.head _ _ | apply AtF.tail)) (Sl.f hl) (by omega) (by omega))) ?_
 rintro _ _ ⟨_, _, ⟨x2, i3, rfl, hx2, hi3, rfl⟩, rfl, rfl⟩
 show G Try.prog κ _ _ _ _ ([(23, I64 (x2)), (22, .pointer (some ⟨dk1, 0, none⟩)), (5, .pointer (some ⟨dk1, 0, none⟩)), (21, .pointer (some ⟨dk1, 0, none⟩)), (20, .slice la ln lc), (4, .bool false), (0, .slice la ln lc), (1, I64 (h))] : Env) (blk dk1 [.slice la ln lc, I64 (i3)] 129 :: I)
 refine G.r (Runs.add rfl rfl (by unfold InR; omega)) ?_
 refine G.r (Runs.assign rfl) ?_
 refine G.nt ?_
 refine W.sr ?_
 refine G.r (Runs.move rfl) ?_
 refine G.r (Runs.move rfl) ?_
 refine G.e (Eff.call call84 rfl rfl (MkEvents_at (by repeat (first | exact AtF.head _ _ | apply AtF.tail)) (fun _ => Sl.fit hl Fit.m) (by omega)  (by omega) (by omega))) ?_
 rintro _ _ ⟨_, _, ⟨⟨ad4, cp5, es6, i7⟩, ⟨⟨rfl, hses6⟩, hi7⟩, rfl⟩, rfl, rfl⟩
 show G Try.prog κ _ _ _ _ ([(27, .slice ad4 es6.length cp5), (26, I64 (2 + x2)), (25, .pointer (some ⟨dk1, 0, none⟩)), (6, I64 (2 + x2)), (24, I64 (2 + x2)), (23, I64 (x2)), (22, .pointer (some ⟨dk1, 0, none⟩)), (5, .pointer (some ⟨dk1, 0, none⟩)), (21, .pointer (some ⟨dk1, 0, none⟩)), (20, .slice la ln lc), (4, .bool false), (0, .slice la ln lc), (1, I64 (h))] : Env) (vc 122 (.slice ad4 es6.length cp5) (es6) :: blk dk1 [.slice la ln lc, I64 (i7)] 129 :: I)
 have hi7 : 0 ≤ i7 := hi7
 dsimp only at hses6
 refine G.r (Runs.assign rfl) ?_
 have hSt : StOk (2 + x2) es6 := hses6.1.st (by omega) (by omega)
 have hSl := hses6.2
 refine G.nt ?_
 refine W.sub (L' := [(7, _), (6, _), (1, _)]) (Sub.cons rfl (Sub.cons rfl (Sub.cons rfl Sub.nil))) ?_
 refine W.sr ?_
 refine G.r (Runs.move rfl) ?_
 refine G.e (Eff.call call74 rfl rfl (Mod_ok (by omega) (by omega))) ?_
 rintro _ _ ⟨_, _, ⟨x8, rfl, hx8, rfl⟩, rfl, rfl⟩
 refine G.r (Runs.add rfl rfl (by unfold InR; omega)) ?_
 refine G.r (Runs.build (cells := [_, _, _]) ty73 Try.underlying73 pl73 rfl rfl) ?_
 refine G.e (Eff.alloc ty73 rfl) ?_
 rintro _ _ ⟨b9, rfl, rfl⟩
 refine G.e (Eff.st (cs := [_, _, _]) (vs := [_, _, _]) (cs' := [_, _, _]) ty73) ?_
 rintro _ _ ⟨rfl, rfl⟩
 refine G.nt ?_
 refine W.sr ?_
 refine G.r (Runs.move rfl) ?_
 refine G.r (Runs.move rfl) ?_
 refine G.r (Runs.lds (vs := [_, _, _]) ty73) ?_
 refine G.e (Eff.call call85 rfl rfl (Slide_yes (nd := (2 + x2)) (kd := 2) (wd := (1 + x8)) (mo := 0) (es := es6) Sl.o (slideE_zero hSt (ckw2 (by omega))))) ?_
 rintro _ _ ⟨_, _, ⟨ad10, cp11, rfl, rfl⟩, rfl, rfl⟩
 show G Try.prog κ _ _ _ _ ([(36, .tuple #[.slice ad10 ((slideS 2 (1 + x8) 0 es6).2).length cp11, I64 (0)]), (35, .agg #[I64 (2), I64 (1 + x8), I64 (0)]), (34, .slice ad4 es6.length cp5), (33, I64 (2 + x2)), (8, .pointer (some ⟨b9, 0, none⟩)), (31, .agg #[I64 (2), I64 (1 + x8), I64 (0)]), (30, I64 (1 + x8)), (29, I64 (x8)), (28, I64 (h)), (7, .slice ad4 es6.length cp5), (6, I64 (2 + x2)), (1, I64 (h))] : Env) (vc 122 (.slice ad10 ((slideS 2 (1 + x8) 0 es6).2).length cp11) ((slideS 2 (1 + x8) 0 es6).2) :: blk b9 [I64 (2), I64 (1 + x8), I64 (0)] 73 :: vc 122 (.slice ad4 es6.length cp5) (es6) :: blk dk1 [.slice la ln lc, I64 (i7)] 129 :: I)
 refine G.r (Runs.move rfl) ?_
 refine G.r (Runs.extract rfl rfl) ?_
 refine G.r (Runs.extract rfl rfl) ?_
 refine G.r (Runs.assign rfl) ?_
 refine G.r (Runs.assign rfl) ?_
 have hB : BehB (2 + x2) (1 + x8) es6 es6.length (slideS 2 (1 + x8) 0 es6) := by have h := BehB.all (wd := 1 + x8) (mo := 0) hSt (by omega) es6.length (Nat.le_refl _); rwa [List.take_length] at h
 have hBs := hB.sum
 refine G.nt ?_
 refine W.sub (L' := [(10, _), (9, _), (8, _), (7, _), (6, _)]) (Sub.cons rfl (Sub.cons rfl (Sub.cons rfl (Sub.cons rfl (Sub.cons rfl Sub.nil))))) ?_
 refine W.seq ?_
 refine W.sr ?_
 refine G.r (Runs.move rfl) ?_
 refine G.r (Runs.neq rfl rfl) ?_
 refine G.nt ?_
 refine W.ite rfl (fun c40 => ?_) (fun c40 => ?_)
 ·exact absurd rfl c40
 ·refine W.skip ?_
  refine V.then ?_
  refine W.seq ?_
  refine W.sr ?_
  refine G.r (Runs.move rfl) ?_
  refine G.r (Runs.lens Try.underlying81 rfl) ?_
  refine G.r (Runs.eql rfl rfl) ?_
  refine G.nt ?_
  refine W.ite rfl (fun c43 => ?_) (fun c43 => ?_)
  ·refine W.sr ?_
   refine G.r (Runs.move rfl) ?_
   refine G.r (Runs.lens Try.underlying81 rfl) ?_
   refine G.r (Runs.eql rfl rfl) ?_
   refine G.r (Runs.move rfl) ?_
   refine G.split (d := 47) rfl (fun g47 => ?_) (fun g47 => ?_)
   ·refine G.eff (Wanted.on rfl rfl rfl) (Eff.call call49 rfl rfl Awake7_ok) ?_
    rintro _ _ ⟨_, _, ⟨rfl, rfl⟩, rfl, rfl⟩
    refine G.r (Runs.pickt rfl rfl) ?_
    refine G.r (Runs.assign rfl) ?_
    refine G.nt ?_
    refine W.sub (L' := [(4, _)]) (Sub.cons rfl Sub.nil) ?_
    refine W.ret ?_
    refine V.then_ret ?_
    exact V.ret1 rfl rfl (I) Fit.m ⟨rfl, rfl⟩
   ·exact absurd (by rw [List.eq_nil_of_length_eq_zero (show es6.length = 0 by omega)]; rfl) g47
  ·refine W.skip ?_
   refine V.then ?_
   refine W.sr ?_
   refine G.r (Runs.move rfl) ?_
   refine G.r (Runs.build (cells := [_, _]) ty71 Try.underlying71 pl71 rfl rfl) ?_
   refine G.r (Runs.move rfl) ?_
   refine G.e (Eff.call call87 rfl rfl (CallS.fit (J := vc 158 (.slice none 0 0) (([] : List Lk)) :: vc 122 (.slice ad10 ((slideS 2 (1 + x8) 0 es6).2).length cp11) ((slideS 2 (1 + x8) 0 es6).2) :: blk b9 [I64 (2), I64 (1 + x8), I64 (0)] 73 :: vc 122 (.slice ad4 es6.length cp5) (es6) :: blk dk1 [.slice la ln lc, I64 (i7)] 129 :: I) (Fit.nilvc 158 _) (All5_base (nd := 2 + x2) (xs := ([] : List Lk)) (es := (slideS 2 (1 + x8) 0 es6).2) Sl.o (valNil hSt.nodes) (fun j hj => hB.fit _ (at_mem (by omega) (by omega))) (by simp only [List.length_nil]; omega)))) ?_
   rintro _ _ ⟨_, _, ⟨⟨ad12, cp13, nn14⟩, rfl, rfl⟩, rfl, rfl⟩
   show G Try.prog κ _ _ _ _ ([(54, .tuple #[.agg #[I64 (2 + x2), .slice ad12 (List.foldl stepL ([] : List Lk) ((slideS 2 (1 + x8) 0 es6).2)).length cp13], I64 (nn14), I64 (0)]), (53, .slice ad10 ((slideS 2 (1 + x8) 0 es6).2).length cp11), (52, .agg #[I64 (2 + x2), .slice none 0 0]), (51, I64 (2 + x2)), (43, .bool (decide (((es6.length : Nat) : Int) = 0))), (42, I64 (((es6.length : Nat) : Int))), (41, .slice ad4 es6.length cp5), (40, .bool (decide (0 ≠ 0))), (39, I64 (0)), (10, I64 (0)), (9, .slice ad10 ((slideS 2 (1 + x8) 0 es6).2).length cp11), (8, .pointer (some ⟨b9, 0, none⟩)), (7, .slice ad4 es6.length cp5), (6, I64 (2 + x2))] : Env) (vc 158 (.slice ad12 (List.foldl stepL ([] : List Lk) ((slideS 2 (1 + x8) 0 es6).2)).length cp13) (List.foldl stepL ([] : List Lk) ((slideS 2 (1 + x8) 0 es6).2)) :: vc 122 (.slice ad10 ((slideS 2 (1 + x8) 0 es6).2).length cp11) ((slideS 2 (1 + x8) 0 es6).2) :: blk b9 [I64 (2), I64 (1 + x8), I64 (0)] 73 :: vc 122 (.slice ad4 es6.length cp5) (es6) :: blk dk1 [.slice la ln lc, I64 (i7)] 129 :: I)
   refine G.r (Runs.move rfl) ?_
   refine G.r (Runs.extract rfl rfl) ?_
   refine G.r (Runs.extract rfl rfl) ?_
   refine G.r (Runs.extract rfl rfl) ?_
   refine G.e (Eff.alloc ty71 rfl) ?_
   rintro _ _ ⟨b15, rfl, rfl⟩
   refine G.e (Eff.st (cs := [_, _]) (vs := [_, _]) (cs' := [_, _]) ty71) ?_
   rintro _ _ ⟨rfl, rfl⟩
   refine G.r (Runs.assign rfl) ?_
   refine G.r (Runs.assign rfl) ?_
   refine G.nt ?_
   refine W.sub (L' := [(13, _), (11, _), (9, _), (8, _), (7, _), (6, _)]) (Sub.cons rfl (Sub.cons rfl (Sub.cons rfl (Sub.cons rfl (Sub.cons rfl (Sub.cons rfl Sub.nil)))))) ?_
   refine W.sr ?_
   refine G.r (Runs.move rfl) ?_
   refine G.r (Runs.build (cells := [_, _]) ty71 Try.underlying71 pl71 rfl rfl) ?_
   refine G.r (Runs.move rfl) ?_
   refine G.e (Eff.call call87 rfl rfl (CallS.fit (J := vc 158 (.slice none 0 0) (([] : List Lk)) :: blk b15 [I64 (2 + x2), .slice ad12 (List.foldl stepL ([] : List Lk) ((slideS 2 (1 + x8) 0 es6).2)).length cp13] 71 :: vc 158 (.slice ad12 (List.foldl stepL ([] : List Lk) ((slideS 2 (1 + x8) 0 es6).2)).length cp13) (List.foldl stepL ([] : List Lk) ((slideS 2 (1 + x8) 0 es6).2)) :: vc 122 (.slice ad10 ((slideS 2 (1 + x8) 0 es6).2).length cp11) ((slideS 2 (1 + x8) 0 es6).2) :: blk b9 [I64 (2), I64 (1 + x8), I64 (0)] 73 :: vc 122 (.slice ad4 es6.length cp5) (es6) :: blk dk1 [.slice la ln lc, I64 (i7)] 129 :: I) (Fit.nilvc 158 _) (All5_base (nd := 2 + x2) (xs := ([] : List Lk)) (es := es6) Sl.o (valNil hSt.nodes) hSt.fit (by simp only [List.length_nil]; omega)))) ?_
   rintro _ _ ⟨_, _, ⟨⟨ad16, cp17, nn18⟩, rfl, rfl⟩, rfl, rfl⟩
   show G Try.prog κ _ _ _ _ ([(62, .tuple #[.agg #[I64 (2 + x2), .slice ad16 (List.foldl stepL ([] : List Lk) es6).length cp17], I64 (nn18), I64 (0)]), (61, .slice ad4 es6.length cp5), (60, .agg #[I64 (2 + x2), .slice none 0 0]), (59, I64 (2 + x2)), (13, I64 (0)), (11, .pointer (some ⟨b15, 0, none⟩)), (9, .slice ad10 ((slideS 2 (1 + x8) 0 es6).2).length cp11), (8, .pointer (some ⟨b9, 0, none⟩)), (7, .slice ad4 es6.length cp5), (6, I64 (2 + x2))] : Env) (vc 158 (.slice ad16 (List.foldl stepL ([] : List Lk) es6).length cp17) (List.foldl stepL ([] : List Lk) es6) :: blk b15 [I64 (2 + x2), .slice ad12 (List.foldl stepL ([] : List Lk) ((slideS 2 (1 + x8) 0 es6).2)).length cp13] 71 :: vc 158 (.slice ad12 (List.foldl stepL ([] : List Lk) ((slideS 2 (1 + x8) 0 es6).2)).length cp13) (List.foldl stepL ([] : List Lk) ((slideS 2 (1 + x8) 0 es6).2)) :: vc 122 (.slice ad10 ((slideS 2 (1 + x8) 0 es6).2).length cp11) ((slideS 2 (1 + x8) 0 es6).2) :: blk b9 [I64 (2), I64 (1 + x8), I64 (0)] 73 :: vc 122 (.slice ad4 es6.length cp5) (es6) :: blk dk1 [.slice la ln lc, I64 (i7)] 129 :: I)
   refine G.r (Runs.move rfl) ?_
   refine G.r (Runs.extract rfl rfl) ?_
   refine G.r (Runs.extract rfl rfl) ?_
   refine G.r (Runs.extract rfl rfl) ?_
   refine G.e (Eff.alloc ty71 rfl) ?_
   rintro _ _ ⟨b19, rfl, rfl⟩
   refine G.e (Eff.st (cs := [_, _]) (vs := [_, _]) (cs' := [_, _]) ty71) ?_
   rintro _ _ ⟨rfl, rfl⟩
   refine G.r (Runs.assign rfl) ?_
   refine G.r (Runs.assign rfl) ?_
   have hTl : lastT es6 es6.length = (at_ es6 (((es6.length : Nat) : Int) - 1)).tm := by unfold lastT; rw [if_neg (by omega)]
   have hTb := (hSt.fit (es6.length - 1) (by omega)).tm
   rw [show ((es6.length - 1 : Nat) : Int) = (((es6.length : Nat) : Int) - 1) by omega] at hTb
   have hXv := steps_val hSt.nodes es6 [] (valNil hSt.nodes) hSt.mem
   have hXt := steps_tm es6 [] (fun x hx => by cases hx) hSt.le_last
   rw [hTl] at hXt
   have hXl := steps_len es6 []
   rw [List.length_nil] at hXl
   refine G.nt ?_
   refine W.sub (L' := [(14, _), (13, _), (11, _), (9, _), (8, _), (7, _)]) (Sub.cons rfl (Sub.cons rfl (Sub.cons rfl (Sub.cons rfl (Sub.cons rfl (Sub.cons rfl Sub.nil)))))) ?_
   refine W.cut (σ := Nat × (Option Addr) × Nat) (fun s => ([(9, .slice ad10 ((slideS 2 (1 + x8) 0 es6).2).length cp11), (11, .pointer (some ⟨b15, 0, none⟩)), (13, I64 (0)), (17, .pointer (some ⟨s.1, 0, none⟩)), (18, I64 (0))] : Env)) (fun s => blk s.1 [I64 (2 + x2), .slice s.2.1 (List.filter (inW 2 (1 + x8) 0 (at_ es6 (((es6.length : Nat) : Int) - 1)).tm (List.foldl stepL [] es6)) (List.foldl stepL [] es6)).length s.2.2] 71 :: vc 158 (.slice s.2.1 (List.filter (inW 2 (1 + x8) 0 (at_ es6 (((es6.length : Nat) : Int) - 1)).tm (List.foldl stepL [] es6)) (List.foldl stepL [] es6)).length s.2.2) (List.filter (inW 2 (1 + x8) 0 (at_ es6 (((es6.length : Nat) : Int) - 1)).tm (List.foldl stepL [] es6)) (List.foldl stepL [] es6)) :: blk b19 [I64 (2 + x2), .slice ad16 (List.foldl stepL ([] : List Lk) es6).length cp17] 71 :: vc 158 (.slice ad16 (List.foldl stepL ([] : List Lk) es6).length cp17) (List.foldl stepL ([] : List Lk) es6) :: blk b15 [I64 (2 + x2), .slice ad12 (List.foldl stepL ([] : List Lk) ((slideS 2 (1 + x8) 0 es6).2)).length cp13] 71 :: vc 158 (.slice ad12 (List.foldl stepL ([] : List Lk) ((slideS 2 (1 + x8) 0 es6).2)).length cp13) (List.foldl stepL ([] : List Lk) ((slideS 2 (1 + x8) 0 es6).2)) :: vc 122 (.slice ad10 ((slideS 2 (1 + x8) 0 es6).2).length cp11) ((slideS 2 (1 + x8) 0 es6).2) :: blk b9 [I64 (2), I64 (1 + x8), I64 (0)] 73 :: vc 122 (.slice ad4 es6.length cp5) (es6) :: blk dk1 [.slice la ln lc, I64 (i7)] 129 :: I) (fun s => True) ?_ ?_
   ·refine W.drawn mixed ?_
    refine A.hold (blk b19 [I64 (2 + x2), .slice ad16 (List.foldl stepL ([] : List Lk) es6).length cp17] 71 :: vc 158 (.slice ad16 (List.foldl stepL ([] : List Lk) es6).length cp17) (List.foldl stepL ([] : List Lk) es6) :: blk b15 [I64 (2 + x2), .slice ad12 (List.foldl stepL ([] : List Lk) ((slideS 2 (1 + x8) 0 es6).2)).length cp13] 71 :: vc 158 (.slice ad12 (List.foldl stepL ([] : List Lk) ((slideS 2 (1 + x8) 0 es6).2)).length cp13) (List.foldl stepL ([] : List Lk) ((slideS 2 (1 + x8) 0 es6).2)) :: vc 122 (.slice ad10 ((slideS 2 (1 + x8) 0 es6).2).length cp11) ((slideS 2 (1 + x8) 0 es6).2) :: blk b9 [I64 (2), I64 (1 + x8), I64 (0)] 73 :: vc 122 (.slice ad4 es6.length cp5) (es6) :: blk dk1 [.slice la ln lc, I64 (i7)] 129 :: I) 16 ?_
    refine D.r 0 rfl (Runs.lds (vs := [_, _]) ty71) ?_ (hJ := Fit.sub)
    refine D.r 1 rfl (Runs.lds (vs := [_, _, _]) ty73) ?_ (hJ := Fit.sub)
    refine D.r 2 rfl (Runs.move rfl) ?_ (hJ := Fit.sub)
    refine D.r 3 rfl (Runs.move rfl) ?_ (hJ := Fit.sub)
    refine D.r 4 rfl (Runs.lens Try.underlying81 rfl) ?_ (hJ := Fit.sub)
    refine D.r 5 rfl (Runs.sub rfl rfl (by unfold InR; omega)) ?_ (hJ := Fit.sub)
    refine D.r 6 rfl (Runs.idx (α := Ev) (xs := es6) Try.underlying81 ty122 rfl rfl Sl.o (by omega) (by omega)) ?_ (hJ := Fit.sub)
    refine D.r 7 rfl (Runs.fld (α := Ev) (xs := es6) fld122_1 rfl Sl.o (by omega)) ?_ (hJ := Fit.sub)
    refine D.r 8 rfl (Runs.getf (α := Ev) (xs := es6) (u := I64 ((at_ es6 (((es6.length : Nat) : Int) - 1)).tm)) ty3 rfl Sl.o (by omega) (by omega) rfl) ?_ (hJ := Fit.sub)
    refine D.step (rs := [9, 13]) (by kernel_rfl) rfl rfl (all2 ?_ (all1 ?_))
    ·refine Step.eff rfl (Wanted.plain rfl) (Eff.call call53 rfl rfl (Present_yes (nd := 2 + x2) (kd := 2) (wd := (1 + x8)) (mo := 0) (nw := ((at_ es6 (((es6.length : Nat) : Int) - 1)).tm)) (xs := List.foldl stepL ([] : List Lk) es6) Sl.o (by omega) (ask_of (ckw2 (by omega)) hXv hTb hXt))) ?_
     rintro _ _ ⟨_, _, ⟨ad20, cp21, rfl, rfl⟩, rfl, rfl⟩
     refine ⟨Fit.sub, ?_⟩
     show D Try.prog κ _ _ _ _ _ _ _ ([(76, .tuple #[.agg #[I64 (2 + x2), .slice ad20 (List.filter (inW 2 (1 + x8) 0 ((at_ es6 (((es6.length : Nat) : Int) - 1)).tm) (List.foldl stepL ([] : List Lk) es6)) (List.foldl stepL ([] : List Lk) es6)).length cp21], I64 (0)]), (75, I64 ((at_ es6 (((es6.length : Nat) : Int) - 1)).tm)), (74, elemPtr (.slice ad4 es6.length cp5) ((((es6.length : Nat) : Int) - 1).toNat * Enc.sz Ev + 1)), (73, elemPtr (.slice ad4 es6.length cp5) ((((es6.length : Nat) : Int) - 1).toNat * Enc.sz Ev)), (72, I64 (((es6.length : Nat) : Int) - 1)), (71, I64 (((es6.length : Nat) : Int))), (70, .slice ad4 es6.length cp5), (69, .slice ad4 es6.length cp5), (68, .agg #[I64 (2), I64 (1 + x8), I64 (0)]), (67, .agg #[I64 (2 + x2), .slice ad16 (List.foldl stepL ([] : List Lk) es6).length cp17]), (14, .pointer (some ⟨b19, 0, none⟩)), (13, I64 (0)), (11, .pointer (some ⟨b15, 0, none⟩)), (9, .slice ad10 ((slideS 2 (1 + x8) 0 es6).2).length cp11), (8, .pointer (some ⟨b9, 0, none⟩)), (7, .slice ad4 es6.length cp5)] : Env) (vc 158 (.slice ad20 (List.filter (inW 2 (1 + x8) 0 ((at_ es6 (((es6.length : Nat) : Int) - 1)).tm) (List.foldl stepL ([] : List Lk) es6)) (List.foldl stepL ([] : List Lk) es6)).length cp21) (List.filter (inW 2 (1 + x8) 0 ((at_ es6 (((es6.length : Nat) : Int) - 1)).tm) (List.foldl stepL ([] : List Lk) es6)) (List.foldl stepL ([] : List Lk) es6)) :: blk b19 [I64 (2 + x2), .slice ad16 (List.foldl stepL ([] : List Lk) es6).length cp17] 71 :: vc 158 (.slice ad16 (List.foldl stepL ([] : List Lk) es6).length cp17) (List.foldl stepL ([] : List Lk) es6) :: blk b15 [I64 (2 + x2), .slice ad12 (List.foldl stepL ([] : List Lk) ((slideS 2 (1 + x8) 0 es6).2)).length cp13] 71 :: vc 158 (.slice ad12 (List.foldl stepL ([] : List Lk) ((slideS 2 (1 + x8) 0 es6).2)).length cp13) (List.foldl stepL ([] : List Lk) ((slideS 2 (1 + x8) 0 es6).2)) :: vc 122 (.slice ad10 ((slideS 2 (1 + x8) 0 es6).2).length cp11) ((slideS 2 (1 + x8) 0 es6).2) :: blk b9 [I64 (2), I64 (1 + x8), I64 (0)] 73 :: vc 122 (.slice ad4 es6.length cp5) (es6) :: blk dk1 [.slice la ln lc, I64 (i7)] 129 :: I)
     refine D.r 10 rfl (Runs.move rfl) ?_ (hJ := Fit.sub)
     refine D.r 11 rfl (Runs.extract rfl rfl) ?_ (hJ := Fit.sub)
     refine D.r 12 rfl (Runs.extract rfl rfl) ?_ (hJ := Fit.sub)
     refine D.step (rs := [13]) (by kernel_rfl) rfl rfl (all1 ?_)
     refine Step.eff rfl (Wanted.plain rfl) (Eff.alloc ty71 rfl) ?_
     rintro _ _ ⟨b22, rfl, rfl⟩
     refine ⟨Fit.sub, ?_⟩
     refine D.step (rs := [14]) (by kernel_rfl) rfl rfl (all1 ?_)
     refine Step.eff rfl (Wanted.plain rfl) (Eff.st (cs := [_, _]) (vs := [_, _]) (cs' := [_, _]) ty71) ?_
     rintro _ _ ⟨rfl, rfl⟩
     refine ⟨Fit.sub, ?_⟩
     refine D.r 15 rfl (Runs.assign rfl) ?_ (hJ := Fit.sub)
     refine D.done (by kernel_rfl) ?_
     exact V.mid ((b22), (ad20), (cp21)) (show True from trivial) (Sub.cons rfl (Sub.cons rfl (Sub.cons rfl (Sub.cons (lookV rfl (by first | rfl | simp)) (Sub.cons rfl Sub.nil))))) (show Fit κ _ (blk (b22) [I64 (2 + x2), .slice (ad20) (List.filter (inW 2 (1 + x8) 0 (at_ es6 (((es6.length : Nat) : Int) - 1)).tm (List.foldl stepL [] es6)) (List.foldl stepL [] es6)).length (cp21)] 71 :: vc 158 (.slice (ad20) (List.filter (inW 2 (1 + x8) 0 (at_ es6 (((es6.length : Nat) : Int) - 1)).tm (List.foldl stepL [] es6)) (List.foldl stepL [] es6)).length (cp21)) (List.filter (inW 2 (1 + x8) 0 (at_ es6 (((es6.length : Nat) : Int) - 1)).tm (List.foldl stepL [] es6)) (List.foldl stepL [] es6)) :: blk b19 [I64 (2 + x2), .slice ad16 (List.foldl stepL ([] : List Lk) es6).length cp17] 71 :: vc 158 (.slice ad16 (List.foldl stepL ([] : List Lk) es6).length cp17) (List.foldl stepL ([] : List Lk) es6) :: blk b15 [I64 (2 + x2), .slice ad12 (List.foldl stepL ([] : List Lk) ((slideS 2 (1 + x8) 0 es6).2)).length cp13] 71 :: vc 158 (.slice ad12 (List.foldl stepL ([] : List Lk) ((slideS 2 (1 + x8) 0 es6).2)).length cp13) (List.foldl stepL ([] : List Lk) ((slideS 2 (1 + x8) 0 es6).2)) :: vc 122 (.slice ad10 ((slideS 2 (1 + x8) 0 es6).2).length cp11) ((slideS 2 (1 + x8) 0 es6).2) :: blk b9 [I64 (2), I64 (1 + x8), I64 (0)] 73 :: vc 122 (.slice ad4 es6.length cp5) (es6) :: blk dk1 [.slice la ln lc, I64 (i7)] 129 :: I) from Fit.s)
    ·refine Step.eff rfl (Wanted.plain rfl) (Eff.alloc ty71 rfl) ?_
     rintro _ _ ⟨b23, rfl, rfl⟩
     refine ⟨Fit.sub, ?_⟩
     refine D.step (rs := [9]) (by kernel_rfl) rfl rfl (all1 ?_)
     refine Step.eff rfl (Wanted.plain rfl) (Eff.call call53 rfl rfl (Present_yes (nd := 2 + x2) (kd := 2) (wd := (1 + x8)) (mo := 0) (nw := ((at_ es6 (((es6.length : Nat) : Int) - 1)).tm)) (xs := List.foldl stepL ([] : List Lk) es6) Sl.o (by omega) (ask_of (ckw2 (by omega)) hXv hTb hXt))) ?_
     rintro _ _ ⟨_, _, ⟨ad24, cp25, rfl, rfl⟩, rfl, rfl⟩
     refine ⟨Fit.sub, ?_⟩
     show D Try.prog κ _ _ _ _ _ _ _ ([(76, .tuple #[.agg #[I64 (2 + x2), .slice ad24 (List.filter (inW 2 (1 + x8) 0 ((at_ es6 (((es6.length : Nat) : Int) - 1)).tm) (List.foldl stepL ([] : List Lk) es6)) (List.foldl stepL ([] : List Lk) es6)).length cp25], I64 (0)]), (17, .pointer (some ⟨b23, 0, none⟩)), (75, I64 ((at_ es6 (((es6.length : Nat) : Int) - 1)).tm)), (74, elemPtr (.slice ad4 es6.length cp5) ((((es6.length : Nat) : Int) - 1).toNat * Enc.sz Ev + 1)), (73, elemPtr (.slice ad4 es6.length cp5) ((((es6.length : Nat) : Int) - 1).toNat * Enc.sz Ev)), (72, I64 (((es6.length : Nat) : Int) - 1)), (71, I64 (((es6.length : Nat) : Int))), (70, .slice ad4 es6.length cp5), (69, .slice ad4 es6.length cp5), (68, .agg #[I64 (2), I64 (1 + x8), I64 (0)]), (67, .agg #[I64 (2 + x2), .slice ad16 (List.foldl stepL ([] : List Lk) es6).length cp17]), (14, .pointer (some ⟨b19, 0, none⟩)), (13, I64 (0)), (11, .pointer (some ⟨b15, 0, none⟩)), (9, .slice ad10 ((slideS 2 (1 + x8) 0 es6).2).length cp11), (8, .pointer (some ⟨b9, 0, none⟩)), (7, .slice ad4 es6.length cp5)] : Env) (vc 158 (.slice ad24 (List.filter (inW 2 (1 + x8) 0 ((at_ es6 (((es6.length : Nat) : Int) - 1)).tm) (List.foldl stepL ([] : List Lk) es6)) (List.foldl stepL ([] : List Lk) es6)).length cp25) (List.filter (inW 2 (1 + x8) 0 ((at_ es6 (((es6.length : Nat) : Int) - 1)).tm) (List.foldl stepL ([] : List Lk) es6)) (List.foldl stepL ([] : List Lk) es6)) :: blk b23 [I64 (0), .slice none 0 0] 71 :: blk b19 [I64 (2 + x2), .slice ad16 (List.foldl stepL ([] : List Lk) es6).length cp17] 71 :: vc 158 (.slice ad16 (List.foldl stepL ([] : List Lk) es6).length cp17) (List.foldl stepL ([] : List Lk) es6) :: blk b15 [I64 (2 + x2), .slice ad12 (List.foldl stepL ([] : List Lk) ((slideS 2 (1 + x8) 0 es6).2)).length cp13] 71 :: vc 158 (.slice ad12 (List.foldl stepL ([] : List Lk) ((slideS 2 (1 + x8) 0 es6).2)).length cp13) (List.foldl stepL ([] : List Lk) ((slideS 2 (1 + x8) 0 es6).2)) :: vc 122 (.slice ad10 ((slideS 2 (1 + x8) 0 es6).2).length cp11) ((slideS 2 (1 + x8) 0 es6).2) :: blk b9 [I64 (2), I64 (1 + x8), I64 (0)] 73 :: vc 122 (.slice ad4 es6.length cp5) (es6) :: blk dk1 [.slice la ln lc, I64 (i7)] 129 :: I)
     refine D.r 10 rfl (Runs.move rfl) ?_ (hJ := Fit.sub)
     refine D.r 11 rfl (Runs.extract rfl rfl) ?_ (hJ := Fit.sub)
     refine D.r 12 rfl (Runs.extract rfl rfl) ?_ (hJ := Fit.sub)
     refine D.step (rs := [14]) (by kernel_rfl) rfl rfl (all1 ?_)
     refine Step.eff rfl (Wanted.plain rfl) (Eff.st (cs := [_, _]) (vs := [_, _]) (cs' := [_, _]) ty71) ?_
     rintro _ _ ⟨rfl, rfl⟩
     refine ⟨Fit.sub, ?_⟩
     refine D.r 15 rfl (Runs.assign rfl) ?_ (hJ := Fit.sub)
     refine D.done (by kernel_rfl) ?_
     exact V.mid ((b23), (ad24), (cp25)) (show True from trivial) (Sub.cons rfl (Sub.cons rfl (Sub.cons rfl (Sub.cons (lookV rfl (by first | rfl | simp)) (Sub.cons rfl Sub.nil))))) (show Fit κ _ (blk (b23) [I64 (2 + x2), .slice (ad24) (List.filter (inW 2 (1 + x8) 0 (at_ es6 (((es6.length : Nat) : Int) - 1)).tm (List.foldl stepL [] es6)) (List.foldl stepL [] es6)).length (cp25)] 71 :: vc 158 (.slice (ad24) (List.filter (inW 2 (1 + x8) 0 (at_ es6 (((es6.length : Nat) : Int) - 1)).tm (List.foldl stepL [] es6)) (List.foldl stepL [] es6)).length (cp25)) (List.filter (inW 2 (1 + x8) 0 (at_ es6 (((es6.length : Nat) : Int) - 1)).tm (List.foldl stepL [] es6)) (List.foldl stepL [] es6)) :: blk b19 [I64 (2 + x2), .slice ad16 (List.foldl stepL ([] : List Lk) es6).length cp17] 71 :: vc 158 (.slice ad16 (List.foldl stepL ([] : List Lk) es6).length cp17) (List.foldl stepL ([] : List Lk) es6) :: blk b15 [I64 (2 + x2), .slice ad12 (List.foldl stepL ([] : List Lk) ((slideS 2 (1 + x8) 0 es6).2)).length cp13] 71 :: vc 158 (.slice ad12 (List.foldl stepL ([] : List Lk) ((slideS 2 (1 + x8) 0 es6).2)).length cp13) (List.foldl stepL ([] : List Lk) ((slideS 2 (1 + x8) 0 es6).2)) :: vc 122 (.slice ad10 ((slideS 2 (1 + x8) 0 es6).2).length cp11) ((slideS 2 (1 + x8) 0 es6).2) :: blk b9 [I64 (2), I64 (1 + x8), I64 (0)] 73 :: vc 122 (.slice ad4 es6.length cp5) (es6) :: blk dk1 [.slice la ln lc, I64 (i7)] 129 :: I) from Fit.s)
   ·rintro ⟨bz, az, cz⟩ hp
    show W Try.prog κ 111 _ _ ([(9, .slice ad10 ((slideS 2 (1 + x8) 0 es6).2).length cp11), (11, .pointer (some ⟨b15, 0, none⟩)), (13, I64 (0)), (17, .pointer (some ⟨bz, 0, none⟩)), (18, I64 (0))] : Env) (blk bz [I64 (2 + x2), .slice az (List.filter (inW 2 (1 + x8) 0 (at_ es6 (((es6.length : Nat) : Int) - 1)).tm (List.foldl stepL [] es6)) (List.foldl stepL [] es6)).length cz] 71 :: vc 158 (.slice az (List.filter (inW 2 (1 + x8) 0 (at_ es6 (((es6.length : Nat) : Int) - 1)).tm (List.foldl stepL [] es6)) (List.foldl stepL [] es6)).length cz) (List.filter (inW 2 (1 + x8) 0 (at_ es6 (((es6.length : Nat) : Int) - 1)).tm (List.foldl stepL [] es6)) (List.foldl stepL [] es6)) :: blk b19 [I64 (2 + x2), .slice ad16 (List.foldl stepL ([] : List Lk) es6).length cp17] 71 :: vc 158 (.slice ad16 (List.foldl stepL ([] : List Lk) es6).length cp17) (List.foldl stepL ([] : List Lk) es6) :: blk b15 [I64 (2 + x2), .slice ad12 (List.foldl stepL ([] : List Lk) ((slideS 2 (1 + x8) 0 es6).2)).length cp13] 71 :: vc 158 (.slice ad12 (List.foldl stepL ([] : List Lk) ((slideS 2 (1 + x8) 0 es6).2)).length cp13) (List.foldl stepL ([] : List Lk) ((slideS 2 (1 + x8) 0 es6).2)) :: vc 122 (.slice ad10 ((slideS 2 (1 + x8) 0 es6).2).length cp11) ((slideS 2 (1 + x8) 0 es6).2) :: blk b9 [I64 (2), I64 (1 + x8), I64 (0)] 73 :: vc 122 (.slice ad4 es6.length cp5) (es6) :: blk dk1 [.slice la ln lc, I64 (i7)] 129 :: I)
    refine W.seq ?_
    refine W.sr ?_
    refine G.r (Runs.assign rfl) ?_
    refine G.nt ?_
    refine W.block ?_
    refine W.loop (σ := Nat) (fun s => ([(9, .slice ad10 ((slideS 2 (1 + x8) 0 es6).2).length cp11), (11, .pointer (some ⟨b15, 0, none⟩)), (13, I64 (0)), (17, .pointer (some ⟨bz, 0, none⟩)), (18, I64 (0)), (19, I64 (((s : Nat) : Int)))] : Env)) (fun s => blk bz [I64 (2 + x2), .slice az (List.filter (inW 2 (1 + x8) 0 (at_ es6 (((es6.length : Nat) : Int) - 1)).tm (List.foldl stepL [] es6)) (List.foldl stepL [] es6)).length cz] 71 :: vc 158 (.slice az (List.filter (inW 2 (1 + x8) 0 (at_ es6 (((es6.length : Nat) : Int) - 1)).tm (List.foldl stepL [] es6)) (List.foldl stepL [] es6)).length cz) (List.filter (inW 2 (1 + x8) 0 (at_ es6 (((es6.length : Nat) : Int) - 1)).tm (List.foldl stepL [] es6)) (List.foldl stepL [] es6)) :: blk b19 [I64 (2 + x2), .slice ad16 (List.foldl stepL ([] : List Lk) es6).length cp17] 71 :: vc 158 (.slice ad16 (List.foldl stepL ([] : List Lk) es6).length cp17) (List.foldl stepL ([] : List Lk) es6) :: blk b15 [I64 (2 + x2), .slice ad12 (List.foldl stepL ([] : List Lk) ((slideS 2 (1 + x8) 0 es6).2)).length cp13] 71 :: vc 158 (.slice ad12 (List.foldl stepL ([] : List Lk) ((slideS 2 (1 + x8) 0 es6).2)).length cp13) (List.foldl stepL ([] : List Lk) ((slideS 2 (1 + x8) 0 es6).2)) :: vc 122 (.slice ad10 ((slideS 2 (1 + x8) 0 es6).2).length cp11) ((slideS 2 (1 + x8) 0 es6).2) :: blk b9 [I64 (2), I64 (1 + x8), I64 (0)] 73 :: vc 122 (.slice ad4 es6.length cp5) (es6) :: blk dk1 [.slice la ln lc, I64 (i7)] 129 :: I) (fun s => (1 ≤ s)) (fun s => (slideS 2 (1 + x8) 0 es6).2.length - s) (1) (show (1 ≤ (1 : Nat)) from (by omega)) (Sub.cons rfl (Sub.cons rfl (Sub.cons rfl (Sub.cons rfl (Sub.cons rfl (Sub.cons lookO Sub.nil)))))) (show Fit κ _ (blk bz [I64 (2 + x2), .slice az (List.filter (inW 2 (1 + x8) 0 (at_ es6 (((es6.length : Nat) : Int) - 1)).tm (List.foldl stepL [] es6)) (List.foldl stepL [] es6)).length cz] 71 :: vc 158 (.slice az (List.filter (inW 2 (1 + x8) 0 (at_ es6 (((es6.length : Nat) : Int) - 1)).tm (List.foldl stepL [] es6)) (List.foldl stepL [] es6)).length cz) (List.filter (inW 2 (1 + x8) 0 (at_ es6 (((es6.length : Nat) : Int) - 1)).tm (List.foldl stepL [] es6)) (List.foldl stepL [] es6)) :: blk b19 [I64 (2 + x2), .slice ad16 (List.foldl stepL ([] : List Lk) es6).length cp17] 71 :: vc 158 (.slice ad16 (List.foldl stepL ([] : List Lk) es6).length cp17) (List.foldl stepL ([] : List Lk) es6) :: blk b15 [I64 (2 + x2), .slice ad12 (List.foldl stepL ([] : List Lk) ((slideS 2 (1 + x8) 0 es6).2)).length cp13] 71 :: vc 158 (.slice ad12 (List.foldl stepL ([] : List Lk) ((slideS 2 (1 + x8) 0 es6).2)).length cp13) (List.foldl stepL ([] : List Lk) ((slideS 2 (1 + x8) 0 es6).2)) :: vc 122 (.slice ad10 ((slideS 2 (1 + x8) 0 es6).2).length cp11) ((slideS 2 (1 + x8) 0 es6).2) :: blk b9 [I64 (2), I64 (1 + x8), I64 (0)] 73 :: vc 122 (.slice ad4 es6.length cp5) (es6) :: blk dk1 [.slice la ln lc, I64 (i7)] 129 :: I) from Fit.sub) ?_
    rintro k hp
    have hk : (1 ≤ k) := hp
    show W Try.prog κ 111 _ _ ([(9, .slice ad10 ((slideS 2 (1 + x8) 0 es6).2).length cp11), (11, .pointer (some ⟨b15, 0, none⟩)), (13, I64 (0)), (17, .pointer (some ⟨bz, 0, none⟩)), (18, I64 (0)), (19, I64 (((k : Nat) : Int)))] : Env) (blk bz [I64 (2 + x2), .slice az (List.filter (inW 2 (1 + x8) 0 (at_ es6 (((es6.length : Nat) : Int) - 1)).tm (List.foldl stepL [] es6)) (List.foldl stepL [] es6)).length cz] 71 :: vc 158 (.slice az (List.filter (inW 2 (1 + x8) 0 (at_ es6 (((es6.length : Nat) : Int) - 1)).tm (List.foldl stepL [] es6)) (List.foldl stepL [] es6)).length cz) (List.filter (inW 2 (1 + x8) 0 (at_ es6 (((es6.length : Nat) : Int) - 1)).tm (List.foldl stepL [] es6)) (List.foldl stepL [] es6)) :: blk b19 [I64 (2 + x2), .slice ad16 (List.foldl stepL ([] : List Lk) es6).length cp17] 71 :: vc 158 (.slice ad16 (List.foldl stepL ([] : List Lk) es6).length cp17) (List.foldl stepL ([] : List Lk) es6) :: blk b15 [I64 (2 + x2), .slice ad12 (List.foldl stepL ([] : List Lk) ((slideS 2 (1 + x8) 0 es6).2)).length cp13] 71 :: vc 158 (.slice ad12 (List.foldl stepL ([] : List Lk) ((slideS 2 (1 + x8) 0 es6).2)).length cp13) (List.foldl stepL ([] : List Lk) ((slideS 2 (1 + x8) 0 es6).2)) :: vc 122 (.slice ad10 ((slideS 2 (1 + x8) 0 es6).2).length cp11) ((slideS 2 (1 + x8) 0 es6).2) :: blk b9 [I64 (2), I64 (1 + x8), I64 (0)] 73 :: vc 122 (.slice ad4 es6.length cp5) (es6) :: blk dk1 [.slice la ln lc, I64 (i7)] 129 :: I)
    refine W.seq ?_
    refine W.sr ?_
    refine G.r (Runs.move rfl) ?_
    refine G.r (Runs.move rfl) ?_
    refine G.r (Runs.lens Try.underlying81 rfl) ?_
    refine G.r (Runs.lss rfl rfl) ?_
    refine G.nt ?_
    refine W.ite rfl (fun c82 => ?_) (fun c82 => ?_)
    ·refine W.skip ?_
     refine V.then ?_
     refine W.seq ?_
     refine W.block ?_
     refine W.seq ?_
     refine W.drawn mixed ?_
     refine A.hold (blk bz [I64 (2 + x2), .slice az (List.filter (inW 2 (1 + x8) 0 (at_ es6 (((es6.length : Nat) : Int) - 1)).tm (List.foldl stepL [] es6)) (List.foldl stepL [] es6)).length cz] 71 :: vc 158 (.slice az (List.filter (inW 2 (1 + x8) 0 (at_ es6 (((es6.length : Nat) : Int) - 1)).tm (List.foldl stepL [] es6)) (List.foldl stepL [] es6)).length cz) (List.filter (inW 2 (1 + x8) 0 (at_ es6 (((es6.length : Nat) : Int) - 1)).tm (List.foldl stepL [] es6)) (List.foldl stepL [] es6)) :: blk b19 [I64 (2 + x2), .slice ad16 (List.foldl stepL ([] : List Lk) es6).length cp17] 71 :: vc 158 (.slice ad16 (List.foldl stepL ([] : List Lk) es6).length cp17) (List.foldl stepL ([] : List Lk) es6) :: blk b15 [I64 (2 + x2), .slice ad12 (List.foldl stepL ([] : List Lk) ((slideS 2 (1 + x8) 0 es6).2)).length cp13] 71 :: vc 158 (.slice ad12 (List.foldl stepL ([] : List Lk) ((slideS 2 (1 + x8) 0 es6).2)).length cp13) (List.foldl stepL ([] : List Lk) ((slideS 2 (1 + x8) 0 es6).2)) :: vc 122 (.slice ad10 ((slideS 2 (1 + x8) 0 es6).2).length cp11) ((slideS 2 (1 + x8) 0 es6).2) :: blk b9 [I64 (2), I64 (1 + x8), I64 (0)] 73 :: vc 122 (.slice ad4 es6.length cp5) (es6) :: blk dk1 [.slice la ln lc, I64 (i7)] 129 :: I) 12 ?_
     refine D.r 0 rfl (Runs.move rfl) ?_ (hJ := Fit.sub)
     refine D.r 1 rfl (Runs.move rfl) ?_ (hJ := Fit.sub)
     refine D.r 2 rfl (Runs.sub rfl rfl (by unfold InR; omega)) ?_ (hJ := Fit.sub)
     refine D.r 3 rfl (Runs.idx (α := Ev) (xs := (slideS 2 (1 + x8) 0 es6).2) Try.underlying81 ty122 rfl rfl Sl.o (by omega) (by omega)) ?_ (hJ := Fit.sub)
     refine D.r 4 rfl (Runs.fld (α := Ev) (xs := (slideS 2 (1 + x8) 0 es6).2) fld122_1 rfl Sl.o (by omega)) ?_ (hJ := Fit.sub)
     refine D.r 5 rfl (Runs.getf (α := Ev) (xs := (slideS 2 (1 + x8) 0 es6).2) (u := I64 ((at_ ((slideS 2 (1 + x8) 0 es6).2) (((k : Nat) : Int) - 1)).tm)) ty3 rfl Sl.o (by omega) (by omega) rfl) ?_ (hJ := Fit.sub)
     refine D.r 6 rfl (Runs.move rfl) ?_ (hJ := Fit.sub)
     refine D.r 7 rfl (Runs.move rfl) ?_ (hJ := Fit.sub)
     refine D.r 8 rfl (Runs.idx (α := Ev) (xs := (slideS 2 (1 + x8) 0 es6).2) Try.underlying81 ty122 rfl rfl Sl.o (by omega) (by omega)) ?_ (hJ := Fit.sub)
     refine D.r 9 rfl (Runs.fld (α := Ev) (xs := (slideS 2 (1 + x8) 0 es6).2) fld122_1 rfl Sl.o (by omega)) ?_ (hJ := Fit.sub)
     refine D.r 10 rfl (Runs.getf (α := Ev) (xs := (slideS 2 (1 + x8) 0 es6).2) (u := I64 ((at_ ((slideS 2 (1 + x8) 0 es6).2) ((k : Nat) : Int)).tm)) ty3 rfl Sl.o (by omega) (by omega) rfl) ?_ (hJ := Fit.sub)
     refine D.r 11 rfl (Runs.gtr rfl rfl) ?_ (hJ := Fit.sub)
     refine D.done (by kernel_rfl) ?_
     refine V.then ?_
     refine W.sub (L' := [(96, _), (9, _), (11, _), (13, _), (17, _), (18, _), (19, _)]) (Sub.cons rfl (Sub.cons rfl (Sub.cons rfl (Sub.cons rfl (Sub.cons rfl (Sub.cons rfl (Sub.cons rfl Sub.nil))))))) ?_
     refine W.ite rfl (fun c96 => ?_) (fun c96 => ?_)
     ·exact absurd (pw_next hB.asc hk (by omega)) (by omega)
     ·refine W.skip ?_
      refine V.block_normal ?_
      refine V.then ?_
      refine W.region ?_
      refine G.r (Runs.move rfl) ?_
      refine G.r (Runs.add rfl rfl (by unfold InR; omega)) ?_
      refine G.r (Runs.assign rfl) ?_
      refine G.nil ?_
      exact V.next ((k + 1)) (show (1 ≤ (k + 1 : Nat)) from (by omega)) (show (slideS 2 (1 + x8) 0 es6).2.length - (k + 1 : Nat) < (slideS 2 (1 + x8) 0 es6).2.length - k from (by omega)) (Sub.cons rfl (Sub.cons rfl (Sub.cons rfl (Sub.cons rfl (Sub.cons rfl (Sub.cons lookO Sub.nil)))))) (show Fit κ _ (blk bz [I64 (2 + x2), .slice az (List.filter (inW 2 (1 + x8) 0 (at_ es6 (((es6.length : Nat) : Int) - 1)).tm (List.foldl stepL [] es6)) (List.foldl stepL [] es6)).length cz] 71 :: vc 158 (.slice az (List.filter (inW 2 (1 + x8) 0 (at_ es6 (((es6.length : Nat) : Int) - 1)).tm (List.foldl stepL [] es6)) (List.foldl stepL [] es6)).length cz) (List.filter (inW 2 (1 + x8) 0 (at_ es6 (((es6.length : Nat) : Int) - 1)).tm (List.foldl stepL [] es6)) (List.foldl stepL [] es6)) :: blk b19 [I64 (2 + x2), .slice ad16 (List.foldl stepL ([] : List Lk) es6).length cp17] 71 :: vc 158 (.slice ad16 (List.foldl stepL ([] : List Lk) es6).length cp17) (List.foldl stepL ([] : List Lk) es6) :: blk b15 [I64 (2 + x2), .slice ad12 (List.foldl stepL ([] : List Lk) ((slideS 2 (1 + x8) 0 es6).2)).length cp13] 71 :: vc 158 (.slice ad12 (List.foldl stepL ([] : List Lk) ((slideS 2 (1 + x8) 0 es6).2)).length cp13) (List.foldl stepL ([] : List Lk) ((slideS 2 (1 + x8) 0 es6).2)) :: vc 122 (.slice ad10 ((slideS 2 (1 + x8) 0 es6).2).length cp11) ((slideS 2 (1 + x8) 0 es6).2) :: blk b9 [I64 (2), I64 (1 + x8), I64 (0)] 73 :: vc 122 (.slice ad4 es6.length cp5) (es6) :: blk dk1 [.slice la ln lc, I64 (i7)] 129 :: I) from Fit.sub)
    ·refine W.exit ?_
     refine V.then_exit ?_
     refine V.then_exit ?_
     refine V.block_hit ?_
     refine V.then ?_
     refine W.sr ?_
     refine G.r (Runs.move rfl) ?_
     refine G.r (Runs.eql rfl rfl) ?_
     refine G.r (Runs.move rfl) ?_
     refine G.split (d := 99) rfl (fun g99 => ?_) (fun g99 => ?_)
     ·refine G.ro (Runs.move rfl) ?_
      refine G.ro (Runs.eql rfl rfl) ?_
      refine G.r (Runs.pickt rfl rfl) ?_
      refine G.r (Runs.move rfl) ?_
      refine G.split (d := 103) rfl (fun g103 => ?_) (fun g103 => ?_)
      ·refine G.ro (Runs.lds (vs := [_, _]) ty71) ?_
       refine G.ro (Runs.lds (vs := [_, _]) ty71) ?_
       refine G.eff (Wanted.on rfl rfl rfl) (Eff.call call57 rfl rfl (Same5_ok Sl.o Sl.o)) ?_
       rintro _ _ ⟨_, _, ⟨rfl, rfl⟩, rfl, rfl⟩
       refine G.r (Runs.pickt rfl rfl) ?_
       refine G.r (Runs.move rfl) ?_
       refine G.split (d := 108) rfl (fun g108 => ?_) (fun g108 => ?_)
       ·refine G.eff (Wanted.on rfl rfl rfl) (Eff.call call49 rfl rfl Awake7_ok) ?_
        rintro _ _ ⟨_, _, ⟨rfl, rfl⟩, rfl, rfl⟩
        refine G.r (Runs.pickt rfl rfl) ?_
        refine G.r (Runs.assign rfl) ?_
        refine G.nt ?_
        refine W.sub (L' := [(4, _)]) (Sub.cons rfl Sub.nil) ?_
        refine W.ret ?_
        exact V.ret1 rfl rfl (I) Fit.m ⟨rfl, rfl⟩
       ·exact absurd ⟨rfl, by rw [← hB.st, hB.al, List.take_length, inW_alive, hTl]⟩ g108
      ·exact absurd rfl g103
     ·exact absurd rfl g99

end Go.Sl
