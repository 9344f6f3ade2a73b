/- A part of the proofs of statements of this seat: contracts of functions, and the plain laws that they lean on. No conditions. -/
import Derived.Test.YtfkcohmipjhfcaaGreatDoorT16
set_option linter.unusedVariables false
set_option linter.unusedSimpArgs false
set_option linter.unusedSectionVars false
namespace Go.Sl
open Go.Proofs
set_option maxRecDepth 4000
set_option maxHeartbeats 4000000 in
theorem Apply5_ok {κ : Ctx} {I : List Item} {nd : Int} {e : Ev} {va : Value} {xs : List Lk} (hl : Sl κ I va xs) (hval : checkS nd xs = 0) (hfit : FitOk nd e) (hsz : xs.length ≤ 1000000) :
    CallS Tryz.prog κ 94 [.agg #[I64 (nd), va], .agg #[I64 (e.kd), I64 (e.tm), I64 (e.u), I64 (e.v), I64 (e.w), I64 (e.lb), I64 (e.sg)]] I (fun r J => ∃ y : Option Addr × Nat × Option Addr × Nat × Nat, (r = .tuple #[.agg #[I64 nd, .slice y.1 (stepL xs e).length y.2.1], .slice y.2.2.1 y.2.2.2.1 y.2.2.2.2, I64 0] ∧ y.2.2.2.1 ≤ 2 * xs.length + 1) ∧ J = vc 146 (.slice y.1 (stepL xs e).length y.2.1) (stepL xs e) :: I) := by
 refine Bz hl.le fun hmax => ?_
 refine Ce2 Tryz.func94 rfl rfl ?_
 refine Ah (Ge1 (Bd (cs := [_, _]) rfl rfl rfl) fun b1 => Ge1 (Bd (cs := [_, _, _, _, _, _, _]) rfl rfl rfl) fun b2 => Ge1 (A4 ty111 rfl) fun b3 => Ga rfl (Ga rfl (Af (Ax (Ah (Gl2 ty111 ?_))))))
 refine Gc0 (Ap call129 rfl rfl (CheckS5_ok (nd := nd) (Bh hl))) ?_
 refine Ga rfl (Af (Ah (Gm rfl (Gr (Be rfl rfl) (Af (A7 rfl (fun c19 => ?_) (fun c19 => ?_)))))))
 ·exact absurd hval c19
 ·refine A0 (Ai (Ax (Ah (Gl7 ty108 ?_))))
  refine Gc0 (Ap call155 rfl rfl (CheckE4_ok e)) ?_
  refine Ga rfl (Af (Ar (S4 8 4 3 2 rfl rfl rfl rfl) (Ah (Gm rfl (Gr (Be rfl rfl) (Af (A7 rfl (fun c25 => ?_) (fun c25 => ?_))))))))
  ·exact absurd hfit.chk c25
  ·refine A0 (Ai (Ax (Ah (Gf fld108_2 rfl (Gl ty3 ?_)))))
   refine Gf fld111_0 rfl (Gl ty3 ?_)
   refine Gr (B7 rfl rfl) (Gm rfl (A6 (d := 33) rfl (fun g33 => ?_) (fun g33 => ?_)))
   ·exact absurd hfit.fits om
   ·refine Gro (Aa fld108_3 rfl) (Gro (Aq ty3) ?_)
    refine Gro (Aa fld111_0 rfl) (Gro (Aq ty3) ?_)
    refine Gro (B7 rfl rfl) (Gr (Aj rfl rfl) (Af (Ar (S4 39 4 3 2 rfl rfl rfl rfl) (A7 rfl (fun c39 => ?_) (fun c39 => ?_)))))
    ·exact absurd hfit.fits om
    ·refine A0 (Ai (Ah (Gf fld111_0 rfl (Gl ty3 ?_))))
     refine Gr (Bg (cells := [_, _]) ty111 Cy pl111 rfl rfl) (Ge1 (A4 ty111 rfl) fun b4 => Ge0 (B4 ty111) ?_)
     refine Af (Ah (Ga rfl ?_))
     have hasc := (checkS_ok hval).2.2
     have hfk := hfit.kind
     refine Af (Ah (Gf fld108_2 rfl (Gl ty3 ?_)))
     refine Gf fld108_3 rfl (Gl ty3 ?_)
     refine Gr (Runs.min rfl rfl) (Gf fld108_2 rfl (Gl ty3 ?_))
     refine Gf fld108_3 rfl (Gl ty3 ?_)
     refine Gr (Runs.max rfl rfl) (Gf fld108_4 rfl (Gl ty3 ?_))
     refine Gf fld108_5 rfl (Gl ty3 ?_)
     refine Gf fld108_6 rfl (Gl ty3 ?_)
     refine Gf fld108_1 rfl (Gl ty3 ?_)
     refine Gr (Bg (cells := [_, _, _, _, _, _]) ty146 Tryz.underlying146 pl146 rfl rfl) (Ge1 (A4 ty146 rfl) fun b5 => Ge0 (Di ty146) ?_)
     show G Tryz.prog κ _ _ _ _ ([(11, .pointer (some ⟨b5, 0, none⟩)), (62, .agg #[I64 (if e.v < e.u then e.v else e.u), I64 (if e.u < e.v then e.v else e.u), I64 (e.w), I64 (e.lb), I64 (e.sg), I64 (e.tm)]), (61, I64 (e.tm)), (60, .pointer (some ⟨b2, 1, none⟩)), (59, I64 (e.sg)), (58, .pointer (some ⟨b2, 6, none⟩)), (57, I64 (e.lb)), (56, .pointer (some ⟨b2, 5, none⟩)), (55, I64 (e.w)), (54, .pointer (some ⟨b2, 4, none⟩)), (53, I64 (if e.u < e.v then e.v else e.u)), (52, I64 (e.v)), (51, .pointer (some ⟨b2, 3, none⟩)), (50, I64 (e.u)), (49, .pointer (some ⟨b2, 2, none⟩)), (48, I64 (if e.v < e.u then e.v else e.u)), (47, I64 (e.v)), (46, .pointer (some ⟨b2, 3, none⟩)), (45, I64 (e.u)), (44, .pointer (some ⟨b2, 2, none⟩)), (10, .slice none 0 0), (9, .pointer (some ⟨b4, 0, none⟩)), (43, .agg #[I64 (nd), .slice none 0 0]), (42, I64 (nd)), (41, .pointer (some ⟨b1, 0, none⟩)), (39, .bool (decide (nd ≤ e.v))), (4, .pointer (some ⟨b3, 0, none⟩)), (3, .pointer (some ⟨b2, 0, none⟩)), (2, .pointer (some ⟨b1, 0, none⟩))] : Env) (blk b5 [I64 ((lkOf e).u), I64 ((lkOf e).v), I64 ((lkOf e).w), I64 ((lkOf e).lb), I64 ((lkOf e).sg), I64 ((lkOf e).tm)] 146 :: blk b4 [I64 (nd), .slice none 0 0] 111 :: blk b3 [I64 (0), .slice none 0 0] 111 :: blk b2 [I64 (e.kd), I64 (e.tm), I64 (e.u), I64 (e.v), I64 (e.w), I64 (e.lb), I64 (e.sg)] 108 :: blk b1 [I64 (nd), va] 111 :: I)
     refine Af (Ar (S6 11 10 9 4 3 2 rfl rfl rfl rfl rfl rfl) (Ah (Gf fld108_0 rfl (Gl ty3 ?_))))
     refine Gr (Be rfl rfl) (Ga rfl (Af (Ax (Ah (Gf fld111_1 rfl (Gl ty109 ?_))))))
     refine Gr (Bs (α := Lk) (xs := xs) Ak rfl (Bh hl)) (Gm rfl (Af (Ar (S9 69 68 67 12 11 10 9 4 3 rfl rfl rfl rfl rfl rfl rfl rfl rfl) (A5 (Bx (σ := Nat × (Option Addr) × Nat × (Option Addr) × Nat × (List Lk) × (List Ev) × Bool) (fun s => ([(3, .pointer (some ⟨b2, 0, none⟩)), (4, .pointer (some ⟨b3, 0, none⟩)), (9, .pointer (some ⟨b4, 0, none⟩)), (10, .slice s.2.2.2.1 s.2.2.2.2.2.2.1.length s.2.2.2.2.1), (11, .pointer (some ⟨b5, 0, none⟩)), (12, .bool (s.2.2.2.2.2.2.2)), (67, va), (68, I64 (((xs.length : Nat) : Int))), (69, I64 (((s.1 : Nat) : Int)))] : Env)) (fun s => blk b4 [I64 (nd), .slice s.2.1 s.2.2.2.2.2.1.length s.2.2.1] 111 :: vc 146 (.slice s.2.1 s.2.2.2.2.2.1.length s.2.2.1) (s.2.2.2.2.2.1) :: vc 108 (.slice s.2.2.2.1 s.2.2.2.2.2.2.1.length s.2.2.2.2.1) (s.2.2.2.2.2.2.1) :: blk b5 [I64 ((lkOf e).u), I64 ((lkOf e).v), I64 ((lkOf e).w), I64 ((lkOf e).lb), I64 ((lkOf e).sg), I64 ((lkOf e).tm)] 146 :: blk b3 [I64 (0), .slice none 0 0] 111 :: blk b2 [I64 (e.kd), I64 (e.tm), I64 (e.u), I64 (e.v), I64 (e.w), I64 (e.lb), I64 (e.sg)] 108 :: blk b1 [I64 (nd), va] 111 :: I) (fun s => (s.1 ≤ xs.length) ∧ (ApI xs e s.1 s.2.2.2.2.2.1 s.2.2.2.2.2.2.2) ∧ (s.2.2.2.2.2.2.1.length ≤ 2 * s.1)) (fun s => xs.length - s.1) (0, none, 0, none, 0, [], [], decide (e.kd ≠ 1)) (show ((0 : Nat) ≤ xs.length) ∧ (ApI xs e (0 : Nat) ([] : List Lk) (decide (e.kd ≠ 1) : Bool)) ∧ (([] : List Ev).length ≤ 2 * (0 : Nat)) from ⟨om, ApI.start, (by simp)⟩) (Ab rfl (Ab rfl (Ab rfl (Ab (Dg rfl (by first | rfl | simp)) (Ab rfl (Ab (Dg rfl (by first | rfl | simp)) (Ab rfl (Ab rfl (Ab Cg Bp))))))))) (show Fit κ _ (blk b4 [I64 (nd), .slice (none) ([]).length (0)] 111 :: vc 146 (.slice (none) ([]).length (0)) (([])) :: vc 108 (.slice (none) ([]).length (0)) (([])) :: blk b5 [I64 ((lkOf e).u), I64 ((lkOf e).v), I64 ((lkOf e).w), I64 ((lkOf e).lb), I64 ((lkOf e).sg), I64 ((lkOf e).tm)] 146 :: blk b3 [I64 (0), .slice none 0 0] 111 :: blk b2 [I64 (e.kd), I64 (e.tm), I64 (e.u), I64 (e.v), I64 (e.w), I64 (e.lb), I64 (e.sg)] 108 :: blk b1 [I64 (nd), va] 111 :: I) from (Cj (Bv 108 _) (Cj (Bv 146 _) Bw))) ?_)))))
     rintro ⟨k, a1, c1, a2, c2, O, chg, q⟩ hp
     dsimp only at hp ⊢
     obtain ⟨hk, hA, hcg⟩ := hp
     refine Ah (Gr (Bb rfl rfl) (Af (Ax (A7 rfl (fun c70 => ?_) (fun c70 => ?_)))))
     ·refine A0 (Ai (Ax (A5 (Ah (Gr (A8 (α := Lk) (xs := xs) Ak ty146 rfl rfl (Bh hl) om om) (Gr (Bq (α := Lk) (xs := xs) ty146 rfl (Bh hl) om om) (Ge1 (A4 ty146 rfl) fun b6 => Ge0 (Di ty146) ?_)))))))
      refine Af (W.cut (σ := (Option Addr) × Nat × (Option Addr) × Nat × (List Lk) × (List Ev) × Bool) (fun s => ([(3, .pointer (some ⟨b2, 0, none⟩)), (4, .pointer (some ⟨b3, 0, none⟩)), (9, .pointer (some ⟨b4, 0, none⟩)), (10, .slice s.2.2.1 s.2.2.2.2.2.1.length s.2.2.2.1), (11, .pointer (some ⟨b5, 0, none⟩)), (12, .bool (s.2.2.2.2.2.2)), (14, .pointer (some ⟨b6, 0, none⟩)), (67, va), (68, I64 (((xs.length : Nat) : Int))), (69, I64 ((k : Int)))] : Env)) (fun s => blk b4 [I64 (nd), .slice s.1 s.2.2.2.2.1.length s.2.1] 111 :: vc 146 (.slice s.1 s.2.2.2.2.1.length s.2.1) (s.2.2.2.2.1) :: vc 108 (.slice s.2.2.1 s.2.2.2.2.2.1.length s.2.2.2.1) (s.2.2.2.2.2.1) :: blk b6 [I64 ((at_ xs (k : Int)).u), I64 ((at_ xs (k : Int)).v), I64 ((at_ xs (k : Int)).w), I64 ((at_ xs (k : Int)).lb), I64 ((at_ xs (k : Int)).sg), I64 ((at_ xs (k : Int)).tm)] 146 :: blk b5 [I64 ((lkOf e).u), I64 ((lkOf e).v), I64 ((lkOf e).w), I64 ((lkOf e).lb), I64 ((lkOf e).sg), I64 ((lkOf e).tm)] 146 :: blk b3 [I64 (0), .slice none 0 0] 111 :: blk b2 [I64 (e.kd), I64 (e.tm), I64 (e.u), I64 (e.v), I64 (e.w), I64 (e.lb), I64 (e.sg)] 108 :: blk b1 [I64 (nd), va] 111 :: I) (fun s => (ApI xs e k s.2.2.2.2.1 s.2.2.2.2.2.2) ∧ ((!s.2.2.2.2.2.2) = true → ¬ Pt.lt (lkOf e).p (at_ xs (k : Int)).p) ∧ (s.2.2.2.2.2.1.length ≤ 2 * k + 1)) ?_ ?_)
      ·refine Ax (Bj mixed (Br (blk b6 [I64 ((at_ xs (k : Int)).u), I64 ((at_ xs (k : Int)).v), I64 ((at_ xs (k : Int)).w), I64 ((at_ xs (k : Int)).lb), I64 ((at_ xs (k : Int)).sg), I64 ((at_ xs (k : Int)).tm)] 146 :: blk b4 [I64 (nd), .slice a1 O.length c1] 111 :: vc 146 (.slice a1 O.length c1) (O) :: vc 108 (.slice a2 chg.length c2) (chg) :: blk b5 [I64 ((lkOf e).u), I64 ((lkOf e).v), I64 ((lkOf e).w), I64 ((lkOf e).lb), I64 ((lkOf e).sg), I64 ((lkOf e).tm)] 146 :: blk b3 [I64 (0), .slice none 0 0] 111 :: blk b2 [I64 (e.kd), I64 (e.tm), I64 (e.u), I64 (e.v), I64 (e.w), I64 (e.lb), I64 (e.sg)] 108 :: blk b1 [I64 (nd), va] 111 :: I) 9 (Dr 0 rfl (Ac rfl) (Dr 1 rfl (Cl rfl) (Dr 2 rfl (Ac rfl) (D.splitb (d := 75) rfl (fun g75 => ?_) (fun g75 => ?_)))))))
       ·refine Dro 3 rfl (Bk (vs := [_, _, _, _, _, _]) ty146) ?_
        refine Dro 5 rfl (Bk (vs := [_, _, _, _, _, _]) ty146) ?_
        refine Ds1 4 (Sc0 rfl (Ap call130 rfl rfl (Edge5_ok (lkOf e))) ?_)
        refine Ds1 6 (Sc0 rfl (Ap call130 rfl rfl (Edge5_ok (at_ xs (k : Int)))) ?_)
        refine Ds1 7 (Sc0 rfl (Ap call84 rfl rfl (Before03_ok (lkOf e).p (at_ xs (k : Int)).p)) ?_)
        refine Dr 8 rfl (Al rfl rfl) (Dz (Ai (Ar (S11 81 14 3 4 9 10 11 12 67 68 69 rfl rfl rfl rfl rfl rfl rfl rfl rfl rfl rfl) (A7 rfl (fun c81 => ?_) (fun c81 => ?_)))))
        ·refine Bj mixed (Br (blk b6 [I64 ((at_ xs (k : Int)).u), I64 ((at_ xs (k : Int)).v), I64 ((at_ xs (k : Int)).w), I64 ((at_ xs (k : Int)).lb), I64 ((at_ xs (k : Int)).sg), I64 ((at_ xs (k : Int)).tm)] 146 :: blk b5 [I64 ((lkOf e).u), I64 ((lkOf e).v), I64 ((lkOf e).w), I64 ((lkOf e).lb), I64 ((lkOf e).sg), I64 ((lkOf e).tm)] 146 :: blk b3 [I64 (0), .slice none 0 0] 111 :: blk b2 [I64 (e.kd), I64 (e.tm), I64 (e.u), I64 (e.v), I64 (e.w), I64 (e.lb), I64 (e.sg)] 108 :: blk b1 [I64 (nd), va] 111 :: I) 16 (Dr 0 rfl (Aa fld111_1 rfl) (Dr 2 rfl (Bk (vs := [_, _, _, _, _, _]) ty146) ?_)))
         refine Dr 5 rfl (Ac rfl) (Dr 6 rfl (Bk (vs := [_, _, _, _, _, _]) ty146) ?_)
         refine Dr 7 rfl (Aa fld108_1 rfl) (Dr 8 rfl (Aq ty3) ?_)
         refine C1 (rs := [1, 3]) kr rfl rfl (D3 ?_ (D9 ?_))
         ·refine Sr rfl (Aq ty109) A3 ?_
          refine Ds1 3 (Se1 rfl (B0 (α := Lk) (cs := [I64 ((lkOf e).u), I64 ((lkOf e).v), I64 ((lkOf e).w), I64 ((lkOf e).lb), I64 ((lkOf e).sg), I64 ((lkOf e).tm)]) (xs := [⟨(lkOf e).u, (lkOf e).v, (lkOf e).w, (lkOf e).lb, (lkOf e).sg, (lkOf e).tm⟩]) Ak ty146 rfl rfl dc dc rfl kr rfl rfl) fun ad7 => ?_)
          refine Ds1 4 (Se2 rfl (B5 (α := Lk) (e := 146) (xs := O) (ys := ([⟨(lkOf e).u, (lkOf e).v, (lkOf e).w, (lkOf e).lb, (lkOf e).sg, (lkOf e).tm⟩] : List Lk)) Ak ty146 rfl rfl rfl mm Bo (by have hol3 := hA.len; first | (simp only [List.length_append, List.length_cons, List.length_nil]; omega) | (have hol4 := hA2.len; simp only [List.length_append, List.length_cons, List.length_nil]; omega)) dc rfl (fun _ _ => am)) fun ad8 cp9 => ?_)
          refine Dr 12 rfl (Aa fld111_1 rfl) (Ds1 9 (Sc0 rfl (Ap call163 rfl rfl (Set5_ok (lkOf e) e.tm)) ?_))
          refine Ds1 10 (Se1 rfl (B0 (α := Ev) (cs := [I64 (1), I64 (e.tm), I64 ((lkOf e).u), I64 ((lkOf e).v), I64 ((lkOf e).w), I64 ((lkOf e).lb), I64 ((lkOf e).sg)]) (xs := [⟨1, e.tm, (lkOf e).u, (lkOf e).v, (lkOf e).w, (lkOf e).lb, (lkOf e).sg⟩]) Aw ty108 rfl rfl dc dc rfl kr rfl rfl) fun ad10 => ?_)
          refine Ds1 11 (Se2 rfl (B5 (α := Ev) (e := 108) (xs := chg) (ys := ([⟨1, e.tm, (lkOf e).u, (lkOf e).v, (lkOf e).w, (lkOf e).lb, (lkOf e).sg⟩] : List Ev)) Aw ty108 rfl rfl rfl mm Bo (by have hol3 := hA.len; first | (simp only [List.length_append, List.length_cons, List.length_nil]; omega) | (have hol4 := hA2.len; simp only [List.length_append, List.length_cons, List.length_nil]; omega)) dc rfl (fun _ _ => am)) fun ad11 cp12 => ?_)
          refine Ds1 13 (Se0 rfl (Dw ty109) ?_)
          exact Dr 14 rfl (A9 rfl) (Dr 15 rfl (A9 rfl) (Dz (Dk ((ad8), (cp9), (ad11), (cp12), (O ++ ([⟨(lkOf e).u, (lkOf e).v, (lkOf e).w, (lkOf e).lb, (lkOf e).sg, (lkOf e).tm⟩] : List Lk)), (chg ++ ([⟨1, e.tm, (lkOf e).u, (lkOf e).v, (lkOf e).w, (lkOf e).lb, (lkOf e).sg⟩] : List Ev)), (true)) (by dsimp only; exact ⟨(by first | exact hA.ins hasc om g75 c81 | exact hA), (by intro h; first | exact absurd h dc | exact c81 | (rw [h] at g75; cases g75)), olp⟩))))
         ·refine Se1 rfl (B0 (α := Lk) (cs := [I64 ((lkOf e).u), I64 ((lkOf e).v), I64 ((lkOf e).w), I64 ((lkOf e).lb), I64 ((lkOf e).sg), I64 ((lkOf e).tm)]) (xs := [⟨(lkOf e).u, (lkOf e).v, (lkOf e).w, (lkOf e).lb, (lkOf e).sg, (lkOf e).tm⟩]) Ak ty146 rfl rfl dc dc rfl kr rfl rfl) fun ad13 => ?_
          refine Ds1 1 (Sr rfl (Aq ty109) A3 ?_)
          refine Ds1 4 (Se2 rfl (B5 (α := Lk) (e := 146) (xs := O) (ys := ([⟨(lkOf e).u, (lkOf e).v, (lkOf e).w, (lkOf e).lb, (lkOf e).sg, (lkOf e).tm⟩] : List Lk)) Ak ty146 rfl rfl rfl mm Bo (by have hol3 := hA.len; first | (simp only [List.length_append, List.length_cons, List.length_nil]; omega) | (have hol4 := hA2.len; simp only [List.length_append, List.length_cons, List.length_nil]; omega)) dc rfl (fun _ _ => am)) fun ad14 cp15 => ?_)
          refine Dr 12 rfl (Aa fld111_1 rfl) (Ds1 9 (Sc0 rfl (Ap call163 rfl rfl (Set5_ok (lkOf e) e.tm)) ?_))
          refine Ds1 10 (Se1 rfl (B0 (α := Ev) (cs := [I64 (1), I64 (e.tm), I64 ((lkOf e).u), I64 ((lkOf e).v), I64 ((lkOf e).w), I64 ((lkOf e).lb), I64 ((lkOf e).sg)]) (xs := [⟨1, e.tm, (lkOf e).u, (lkOf e).v, (lkOf e).w, (lkOf e).lb, (lkOf e).sg⟩]) Aw ty108 rfl rfl dc dc rfl kr rfl rfl) fun ad16 => ?_)
          refine Ds1 11 (Se2 rfl (B5 (α := Ev) (e := 108) (xs := chg) (ys := ([⟨1, e.tm, (lkOf e).u, (lkOf e).v, (lkOf e).w, (lkOf e).lb, (lkOf e).sg⟩] : List Ev)) Aw ty108 rfl rfl rfl mm Bo (by have hol3 := hA.len; first | (simp only [List.length_append, List.length_cons, List.length_nil]; omega) | (have hol4 := hA2.len; simp only [List.length_append, List.length_cons, List.length_nil]; omega)) dc rfl (fun _ _ => am)) fun ad17 cp18 => ?_)
          refine Ds1 13 (Se0 rfl (Dw ty109) ?_)
          exact Dr 14 rfl (A9 rfl) (Dr 15 rfl (A9 rfl) (Dz (Dk ((ad14), (cp15), (ad17), (cp18), (O ++ ([⟨(lkOf e).u, (lkOf e).v, (lkOf e).w, (lkOf e).lb, (lkOf e).sg, (lkOf e).tm⟩] : List Lk)), (chg ++ ([⟨1, e.tm, (lkOf e).u, (lkOf e).v, (lkOf e).w, (lkOf e).lb, (lkOf e).sg⟩] : List Ev)), (true)) (by dsimp only; exact ⟨(by first | exact hA.ins hasc om g75 c81 | exact hA), (by intro h; first | exact absurd h dc | exact c81 | (rw [h] at g75; cases g75)), olp⟩))))
        ·exact A0 (Dk ((a1), (c1), (a2), (c2), (O), (chg), (q)) (by dsimp only; exact ⟨(by first | exact hA.ins hasc om g75 c81 | exact hA), (by intro h; first | exact absurd h dc | exact c81 | (rw [h] at g75; cases g75)), olp⟩))
       ·exact Dpo 3 rfl (Dpo 5 rfl (Dpo 4 rfl (Dpo 6 rfl (Dpo 7 rfl (Dr 8 rfl (Aj rfl rfl) (Dz (Ai (Ar (S11 81 14 3 4 9 10 11 12 67 68 69 rfl rfl rfl rfl rfl rfl rfl rfl rfl rfl rfl) (C2 rfl (A0 (Dk ((a1), (c1), (a2), (c2), (O), (chg), (q)) (by dsimp only; exact ⟨(by first | exact hA.ins hasc om g75 c81 | exact hA), (by intro h; first | exact absurd h dc | exact c81 | (rw [h] at g75; cases g75)), olp⟩))))))))))))
      ·rintro ⟨a3, c3, a4, c4, O2, chg2, q2⟩ hp
       obtain ⟨hA2, hM, hc2⟩ : (ApI xs e k O2 q2) ∧ ((!q2) = true → ¬ Pt.lt (lkOf e).p (at_ xs (k : Int)).p) ∧ (chg2.length ≤ 2 * k + 1) := hp
       show W Tryz.prog κ 180 _ _ ([(3, .pointer (some ⟨b2, 0, none⟩)), (4, .pointer (some ⟨b3, 0, none⟩)), (9, .pointer (some ⟨b4, 0, none⟩)), (10, .slice a4 chg2.length c4), (11, .pointer (some ⟨b5, 0, none⟩)), (12, .bool (q2)), (14, .pointer (some ⟨b6, 0, none⟩)), (67, va), (68, I64 (((xs.length : Nat) : Int))), (69, I64 ((k : Int)))] : Env) (blk b4 [I64 (nd), .slice a3 O2.length c3] 111 :: vc 146 (.slice a3 O2.length c3) (O2) :: vc 108 (.slice a4 chg2.length c4) (chg2) :: blk b6 [I64 ((at_ xs (k : Int)).u), I64 ((at_ xs (k : Int)).v), I64 ((at_ xs (k : Int)).w), I64 ((at_ xs (k : Int)).lb), I64 ((at_ xs (k : Int)).sg), I64 ((at_ xs (k : Int)).tm)] 146 :: blk b5 [I64 ((lkOf e).u), I64 ((lkOf e).v), I64 ((lkOf e).w), I64 ((lkOf e).lb), I64 ((lkOf e).sg), I64 ((lkOf e).tm)] 146 :: blk b3 [I64 (0), .slice none 0 0] 111 :: blk b2 [I64 (e.kd), I64 (e.tm), I64 (e.u), I64 (e.v), I64 (e.w), I64 (e.lb), I64 (e.sg)] 108 :: blk b1 [I64 (nd), va] 111 :: I)
       refine Ax (Bj mixed (Br (blk b4 [I64 (nd), .slice a3 O2.length c3] 111 :: vc 146 (.slice a3 O2.length c3) (O2) :: vc 108 (.slice a4 chg2.length c4) (chg2) :: blk b6 [I64 ((at_ xs (k : Int)).u), I64 ((at_ xs (k : Int)).v), I64 ((at_ xs (k : Int)).w), I64 ((at_ xs (k : Int)).lb), I64 ((at_ xs (k : Int)).sg), I64 ((at_ xs (k : Int)).tm)] 146 :: blk b5 [I64 ((lkOf e).u), I64 ((lkOf e).v), I64 ((lkOf e).w), I64 ((lkOf e).lb), I64 ((lkOf e).sg), I64 ((lkOf e).tm)] 146 :: blk b3 [I64 (0), .slice none 0 0] 111 :: blk b2 [I64 (e.kd), I64 (e.tm), I64 (e.u), I64 (e.v), I64 (e.w), I64 (e.lb), I64 (e.sg)] 108 :: blk b1 [I64 (nd), va] 111 :: I) 6 (Dr 0 rfl (Bk (vs := [_, _, _, _, _, _]) ty146) ?_)))
       refine Dr 2 rfl (Bk (vs := [_, _, _, _, _, _]) ty146) ?_
       refine Ds1 1 (Sc0 rfl (Ap call130 rfl rfl (Edge5_ok (at_ xs (k : Int)))) ?_)
       refine Ds1 3 (Sc0 rfl (Ap call130 rfl rfl (Edge5_ok (lkOf e))) ?_)
       refine Dr 4 rfl (Runs.eqlT (α := Pt) (a := (at_ xs (k : Int)).p) (b := (lkOf e).p) eqt135 rfl rfl) (Dr 5 rfl (A9 rfl) (Dz (Ai (Ar (S11 15 3 4 9 10 11 12 14 67 68 69 rfl rfl rfl rfl rfl rfl rfl rfl rfl rfl rfl) (A5 (W.cut (σ := Bool) (fun s => ([(3, .pointer (some ⟨b2, 0, none⟩)), (4, .pointer (some ⟨b3, 0, none⟩)), (9, .pointer (some ⟨b4, 0, none⟩)), (10, .slice a4 chg2.length c4), (11, .pointer (some ⟨b5, 0, none⟩)), (12, .bool (q2)), (14, .pointer (some ⟨b6, 0, none⟩)), (15, .bool (decide (((at_ xs (k : Int)).p) = ((lkOf e).p)))), (67, va), (68, I64 (((xs.length : Nat) : Int))), (69, I64 ((k : Int))), (106, .bool (s))] : Env)) (fun s => blk b4 [I64 (nd), .slice a3 O2.length c3] 111 :: vc 146 (.slice a3 O2.length c3) (O2) :: vc 108 (.slice a4 chg2.length c4) (chg2) :: blk b6 [I64 ((at_ xs (k : Int)).u), I64 ((at_ xs (k : Int)).v), I64 ((at_ xs (k : Int)).w), I64 ((at_ xs (k : Int)).lb), I64 ((at_ xs (k : Int)).sg), I64 ((at_ xs (k : Int)).tm)] 146 :: blk b5 [I64 ((lkOf e).u), I64 ((lkOf e).v), I64 ((lkOf e).w), I64 ((lkOf e).lb), I64 ((lkOf e).sg), I64 ((lkOf e).tm)] 146 :: blk b3 [I64 (0), .slice none 0 0] 111 :: blk b2 [I64 (e.kd), I64 (e.tm), I64 (e.u), I64 (e.v), I64 (e.w), I64 (e.lb), I64 (e.sg)] 108 :: blk b1 [I64 (nd), va] 111 :: I) (fun s => (s = decide (e.kd = 1 ∧ (at_ xs (k : Int)).p = (lkOf e).p))) ?_ ?_))))))
       ·refine A2 (Gf fld108_0 rfl (Gl ty3 ?_))
        refine Gr (Bf rfl rfl) (Gm rfl (A6 (d := 110) rfl (fun g110 => ?_) (fun g110 => ?_)))
        ·exact Gro (Ac rfl) (Gr (Al rfl rfl) (Ga rfl (Bi (Dk ((decide (((at_ xs (k : Int)).p) = ((lkOf e).p)))) (by first | exact decide_eq_decide.2 ⟨fun h => ⟨by omega, h⟩, fun h => h.2⟩ | exact (decide_eq_false (fun h => by omega)).symm) (hI := by (try dsimp only); exact (C4 _))))))
        ·exact Gpo (Gr (Aj rfl rfl) (Ga rfl (Bi (Dk ((false)) (by first | exact decide_eq_decide.2 ⟨fun h => ⟨by omega, h⟩, fun h => h.2⟩ | exact (decide_eq_false (fun h => by omega)).symm) (hI := by (try dsimp only); exact (C4 _))))))
       ·rintro y hp
        have hy : (y = decide (e.kd = 1 ∧ (at_ xs (k : Int)).p = (lkOf e).p)) := hp
        show W Tryz.prog κ 180 _ _ ([(3, .pointer (some ⟨b2, 0, none⟩)), (4, .pointer (some ⟨b3, 0, none⟩)), (9, .pointer (some ⟨b4, 0, none⟩)), (10, .slice a4 chg2.length c4), (11, .pointer (some ⟨b5, 0, none⟩)), (12, .bool (q2)), (14, .pointer (some ⟨b6, 0, none⟩)), (15, .bool (decide (((at_ xs (k : Int)).p) = ((lkOf e).p)))), (67, va), (68, I64 (((xs.length : Nat) : Int))), (69, I64 ((k : Int))), (106, .bool (y))] : Env) (blk b4 [I64 (nd), .slice a3 O2.length c3] 111 :: vc 146 (.slice a3 O2.length c3) (O2) :: vc 108 (.slice a4 chg2.length c4) (chg2) :: blk b6 [I64 ((at_ xs (k : Int)).u), I64 ((at_ xs (k : Int)).v), I64 ((at_ xs (k : Int)).w), I64 ((at_ xs (k : Int)).lb), I64 ((at_ xs (k : Int)).sg), I64 ((at_ xs (k : Int)).tm)] 146 :: blk b5 [I64 ((lkOf e).u), I64 ((lkOf e).v), I64 ((lkOf e).w), I64 ((lkOf e).lb), I64 ((lkOf e).sg), I64 ((lkOf e).tm)] 146 :: blk b3 [I64 (0), .slice none 0 0] 111 :: blk b2 [I64 (e.kd), I64 (e.tm), I64 (e.u), I64 (e.v), I64 (e.w), I64 (e.lb), I64 (e.sg)] 108 :: blk b1 [I64 (nd), va] 111 :: I)
        refine Ed rfl (fun c106 => ?_) (fun c106 => ?_)
        ·refine Ax (Ah (Gl6 ty146 ?_))
         refine Gl6 ty146 ?_
         refine Gr (Runs.neqT (α := Lk) (a := (at_ xs (k : Int))) (b := (lkOf e)) eqt146 rfl rfl) (Af (Ar (S9 115 3 4 9 10 11 67 68 69 rfl rfl rfl rfl rfl rfl rfl rfl rfl) (A7 rfl (fun c115 => ?_) (fun c115 => ?_))))
         ·refine A2 (Gm rfl (Gl6 ty146 ?_))
          refine Gf fld108_1 rfl (Gl ty3 ?_)
          refine Gc0 (Ap call163 rfl rfl (Set5_ok (lkOf e) e.tm)) ?_
          refine Ge1 (B0 (α := Ev) (cs := [I64 (1), I64 (e.tm), I64 ((lkOf e).u), I64 ((lkOf e).v), I64 ((lkOf e).w), I64 ((lkOf e).lb), I64 ((lkOf e).sg)]) (xs := [⟨1, e.tm, (lkOf e).u, (lkOf e).v, (lkOf e).w, (lkOf e).lb, (lkOf e).sg⟩]) Aw ty108 rfl rfl dc dc rfl kr rfl rfl) fun ad19 => ?_
          refine Ge2 (B5 (α := Ev) (e := 108) (xs := chg2) (ys := ([⟨1, e.tm, (lkOf e).u, (lkOf e).v, (lkOf e).w, (lkOf e).lb, (lkOf e).sg⟩] : List Ev)) Aw ty108 rfl rfl rfl mm Bo (by have hol3 := hA.len; first | (simp only [List.length_append, List.length_cons, List.length_nil]; omega) | (have hol4 := hA2.len; simp only [List.length_append, List.length_cons, List.length_nil]; omega)) dc rfl (fun _ _ => am)) fun ad20 cp21 => ?_
          refine Ga rfl (Af (Ar (S8 10 3 4 9 11 67 68 69 rfl rfl rfl rfl rfl rfl rfl rfl) (A2 (Gf fld111_1 rfl (Gl ty109 ?_)))))
          refine Gl6 ty146 ?_
          refine Ge1 (B0 (α := Lk) (cs := [I64 ((lkOf e).u), I64 ((lkOf e).v), I64 ((lkOf e).w), I64 ((lkOf e).lb), I64 ((lkOf e).sg), I64 ((lkOf e).tm)]) (xs := [⟨(lkOf e).u, (lkOf e).v, (lkOf e).w, (lkOf e).lb, (lkOf e).sg, (lkOf e).tm⟩]) Ak ty146 rfl rfl dc dc rfl kr rfl rfl) fun ad22 => ?_
          refine Ge2 (B5 (α := Lk) (e := 146) (xs := O2) (ys := ([⟨(lkOf e).u, (lkOf e).v, (lkOf e).w, (lkOf e).lb, (lkOf e).sg, (lkOf e).tm⟩] : List Lk)) Ak ty146 rfl rfl rfl mm Bo (by have hol3 := hA.len; first | (simp only [List.length_append, List.length_cons, List.length_nil]; omega) | (have hol4 := hA2.len; simp only [List.length_append, List.length_cons, List.length_nil]; omega)) dc rfl (fun _ _ => am)) fun ad23 cp24 => ?_
          refine Gf fld111_1 rfl (Ge0 (Dw ty109) ?_)
          exact Ga rfl (Bi (Am (Am (Ai (Ar (S9 12 10 3 4 9 11 67 68 69 rfl rfl rfl rfl rfl rfl rfl rfl rfl) (A2 (Gr (Rad rfl rfl) (Gm rfl (Bi (B8 ((k + 1), (ad23), (cp24), (ad20), (cp21), (O2 ++ ([⟨(lkOf e).u, (lkOf e).v, (lkOf e).w, (lkOf e).lb, (lkOf e).sg, (lkOf e).tm⟩] : List Lk)), (chg2 ++ ([⟨1, e.tm, (lkOf e).u, (lkOf e).v, (lkOf e).w, (lkOf e).lb, (lkOf e).sg⟩] : List Ev)), (true)) (by dsimp only; exact ⟨om, (by first | exact hA2.hit hasc om (of_decide_eq_true (hy.symm.trans c106)).1 (of_decide_eq_true (hy.symm.trans c106)).2 | exact hA2.drop om (of_decide_eq_true (hz.symm.trans c129)).1 (of_decide_eq_true (hz.symm.trans c129)).2 | exact hA2.keep hasc om hM (fun h1 h2 => of_decide_eq_false (hy.symm.trans c106) ⟨h1, h2⟩) (fun h1 => Classical.byContradiction fun hh => of_decide_eq_false (hz.symm.trans c129) ⟨h1, by simpa using hh⟩)), olp⟩)))))))))))
         ·refine A0 (Ai (A2 (Gf fld111_1 rfl (Gl ty109 ?_))))
          refine Gl6 ty146 ?_
          refine Ge1 (B0 (α := Lk) (cs := [I64 ((lkOf e).u), I64 ((lkOf e).v), I64 ((lkOf e).w), I64 ((lkOf e).lb), I64 ((lkOf e).sg), I64 ((lkOf e).tm)]) (xs := [⟨(lkOf e).u, (lkOf e).v, (lkOf e).w, (lkOf e).lb, (lkOf e).sg, (lkOf e).tm⟩]) Ak ty146 rfl rfl dc dc rfl kr rfl rfl) fun ad25 => ?_
          refine Ge2 (B5 (α := Lk) (e := 146) (xs := O2) (ys := ([⟨(lkOf e).u, (lkOf e).v, (lkOf e).w, (lkOf e).lb, (lkOf e).sg, (lkOf e).tm⟩] : List Lk)) Ak ty146 rfl rfl rfl mm Bo (by have hol3 := hA.len; first | (simp only [List.length_append, List.length_cons, List.length_nil]; omega) | (have hol4 := hA2.len; simp only [List.length_append, List.length_cons, List.length_nil]; omega)) dc rfl (fun _ _ => am)) fun ad26 cp27 => ?_
          refine Gf fld111_1 rfl (Ge0 (Dw ty109) ?_)
          exact Ga rfl (Bi (Am (Am (Ai (Ar (S9 12 3 4 9 10 11 67 68 69 rfl rfl rfl rfl rfl rfl rfl rfl rfl) (A2 (Gr (Rad rfl rfl) (Gm rfl (Bi (B8 ((k + 1), (ad26), (cp27), (a4), (c4), (O2 ++ ([⟨(lkOf e).u, (lkOf e).v, (lkOf e).w, (lkOf e).lb, (lkOf e).sg, (lkOf e).tm⟩] : List Lk)), (chg2), (true)) (by dsimp only; exact ⟨om, (by first | exact hA2.hit hasc om (of_decide_eq_true (hy.symm.trans c106)).1 (of_decide_eq_true (hy.symm.trans c106)).2 | exact hA2.drop om (of_decide_eq_true (hz.symm.trans c129)).1 (of_decide_eq_true (hz.symm.trans c129)).2 | exact hA2.keep hasc om hM (fun h1 h2 => of_decide_eq_false (hy.symm.trans c106) ⟨h1, h2⟩) (fun h1 => Classical.byContradiction fun hh => of_decide_eq_false (hz.symm.trans c129) ⟨h1, by simpa using hh⟩)), olp⟩)))))))))))
        ·refine W.cut (σ := Bool) (fun s => ([(3, .pointer (some ⟨b2, 0, none⟩)), (4, .pointer (some ⟨b3, 0, none⟩)), (9, .pointer (some ⟨b4, 0, none⟩)), (10, .slice a4 chg2.length c4), (11, .pointer (some ⟨b5, 0, none⟩)), (12, .bool (q2)), (14, .pointer (some ⟨b6, 0, none⟩)), (67, va), (68, I64 (((xs.length : Nat) : Int))), (69, I64 ((k : Int))), (129, .bool (s))] : Env)) (fun s => blk b4 [I64 (nd), .slice a3 O2.length c3] 111 :: vc 146 (.slice a3 O2.length c3) (O2) :: vc 108 (.slice a4 chg2.length c4) (chg2) :: blk b6 [I64 ((at_ xs (k : Int)).u), I64 ((at_ xs (k : Int)).v), I64 ((at_ xs (k : Int)).w), I64 ((at_ xs (k : Int)).lb), I64 ((at_ xs (k : Int)).sg), I64 ((at_ xs (k : Int)).tm)] 146 :: blk b5 [I64 ((lkOf e).u), I64 ((lkOf e).v), I64 ((lkOf e).w), I64 ((lkOf e).lb), I64 ((lkOf e).sg), I64 ((lkOf e).tm)] 146 :: blk b3 [I64 (0), .slice none 0 0] 111 :: blk b2 [I64 (e.kd), I64 (e.tm), I64 (e.u), I64 (e.v), I64 (e.w), I64 (e.lb), I64 (e.sg)] 108 :: blk b1 [I64 (nd), va] 111 :: I) (fun s => (s = decide (e.kd ≠ 1 ∧ hitE e (at_ xs (k : Int)) = true))) ?_ ?_
         ·refine A2 (Gf fld108_0 rfl (Gl ty3 ?_))
          refine Gr (Bf rfl rfl) (Gm rfl (A6 (d := 133) rfl (fun g133 => ?_) (fun g133 => ?_)))
          ·refine Gro (Ac rfl) (Gr (Al rfl rfl) (Gm rfl (A6 (d := 136) rfl (fun g136 => ?_) (fun g136 => ?_))))
           ·exact Gpo (Gpo (Gpo (Gpo (Gpu (Gpu (Gpu (Gpu (Gpu (Gpu (Gpu (Gpu (Gpu (Gpu (Gpu (Gpu (Gpo (Gr (Al rfl rfl) (Ga rfl (Bi (Dk ((true)) (by first | (exfalso; omega) | exact (decide_eq_true ⟨by omega, by first | (rw [hit_two om]; exact decide_eq_true asm) | (rw [hit_oth om]; exact decide_eq_true om)⟩).symm | exact (decide_eq_false (fun h => by first | omega | (have h2 := h.2; first | (rw [hit_two om] at h2; exact absurd (of_decide_eq_true h2) asm) | (rw [hit_oth om] at h2; have h3 := of_decide_eq_true h2; omega)))).symm | exact decide_eq_decide.2 ⟨fun h => ⟨by omega, by rw [hit_oth om]; exact decide_eq_true (.inr h)⟩, fun h => by have h2 := h.2; rw [hit_oth om] at h2; have h3 := of_decide_eq_true h2; omega⟩) (hI := by (try dsimp only); exact (C4 _))))))))))))))))))))))
           ·refine Gro (Aa fld108_0 rfl) (Gro (Aq ty3) ?_)
            refine Gro (Bf rfl rfl) (Gro (Ac rfl) (A6 (d := 140) rfl (fun g140 => ?_) (fun g140 => ?_)))
            ·refine Gro (Aa fld146_0 rfl) (Gro (Aq ty3) ?_)
             refine Gro (Aa fld108_2 rfl) (Gro (Aq ty3) ?_)
             refine Gro (Bf rfl rfl) (Gro (Ac rfl) (A6 (d := 146) rfl (fun g146 => ?_) (fun g146 => ?_)))
             ·exact Gpo (Gpo (Gpo (Gpo (Gpo (Gro (Al rfl rfl) (Gro (Al rfl rfl) (Gr (Aj rfl rfl) (Ga rfl (Bi (Dk ((true)) (by first | (exfalso; omega) | exact (decide_eq_true ⟨by omega, by first | (rw [hit_two om]; exact decide_eq_true asm) | (rw [hit_oth om]; exact decide_eq_true om)⟩).symm | exact (decide_eq_false (fun h => by first | omega | (have h2 := h.2; first | (rw [hit_two om] at h2; exact absurd (of_decide_eq_true h2) asm) | (rw [hit_oth om] at h2; have h3 := of_decide_eq_true h2; omega)))).symm | exact decide_eq_decide.2 ⟨fun h => ⟨by omega, by rw [hit_oth om]; exact decide_eq_true (.inr h)⟩, fun h => by have h2 := h.2; rw [hit_oth om] at h2; have h3 := of_decide_eq_true h2; omega⟩) (hI := by (try dsimp only); exact (C4 _))))))))))))
             ·refine Gro (Aa fld146_1 rfl) (Gro (Aq ty3) ?_)
              refine Gro (Aa fld108_2 rfl) (Gro (Aq ty3) ?_)
              exact Gro (Bf rfl rfl) (Gro (Aj rfl rfl) (Gro (Al rfl rfl) (Gr (Aj rfl rfl) (Ga rfl (Bi (Dk ((decide (((at_ xs (k : Int)).v) = e.u))) (by first | (exfalso; omega) | exact (decide_eq_true ⟨by omega, by first | (rw [hit_two om]; exact decide_eq_true asm) | (rw [hit_oth om]; exact decide_eq_true om)⟩).symm | exact (decide_eq_false (fun h => by first | omega | (have h2 := h.2; first | (rw [hit_two om] at h2; exact absurd (of_decide_eq_true h2) asm) | (rw [hit_oth om] at h2; have h3 := of_decide_eq_true h2; omega)))).symm | exact decide_eq_decide.2 ⟨fun h => ⟨by omega, by rw [hit_oth om]; exact decide_eq_true (.inr h)⟩, fun h => by have h2 := h.2; rw [hit_oth om] at h2; have h3 := of_decide_eq_true h2; omega⟩) (hI := by (try dsimp only); exact (C4 _))))))))
            ·exact Gpo (Gpo (Gpo (Gpo (Gpo (Gpo (Gpu (Gpu (Gpu (Gpu (Gpu (Gpo (Gro (Aj rfl rfl) (Gr (Aj rfl rfl) (Ga rfl (Bi (Dk ((false)) (by first | (exfalso; omega) | exact (decide_eq_true ⟨by omega, by first | (rw [hit_two om]; exact decide_eq_true asm) | (rw [hit_oth om]; exact decide_eq_true om)⟩).symm | exact (decide_eq_false (fun h => by first | omega | (have h2 := h.2; first | (rw [hit_two om] at h2; exact absurd (of_decide_eq_true h2) asm) | (rw [hit_oth om] at h2; have h3 := of_decide_eq_true h2; omega)))).symm | exact decide_eq_decide.2 ⟨fun h => ⟨by omega, by rw [hit_oth om]; exact decide_eq_true (.inr h)⟩, fun h => by have h2 := h.2; rw [hit_oth om] at h2; have h3 := of_decide_eq_true h2; omega⟩) (hI := by (try dsimp only); exact (C4 _))))))))))))))))))
          ·refine Gpo (Gr (Aj rfl rfl) (Gm rfl (Gro (Aa fld108_0 rfl) (Gro (Aq ty3) ?_))))
           refine Gro (Bf rfl rfl) (Gro (Ac rfl) (A6 (d := 140) rfl (fun g140 => ?_) (fun g140 => ?_)))
           ·refine Gro (Aa fld146_0 rfl) (Gro (Aq ty3) ?_)
            refine Gro (Aa fld108_2 rfl) (Gro (Aq ty3) ?_)
            refine Gro (Bf rfl rfl) (Gro (Ac rfl) (A6 (d := 146) rfl (fun g146 => ?_) (fun g146 => ?_)))
            ·exact Gpo (Gpo (Gpo (Gpo (Gpo (Gro (Al rfl rfl) (Gro (Al rfl rfl) (Gr (Aj rfl rfl) (Ga rfl (Bi (Dk ((true)) (by first | (exfalso; omega) | exact (decide_eq_true ⟨by omega, by first | (rw [hit_two om]; exact decide_eq_true asm) | (rw [hit_oth om]; exact decide_eq_true om)⟩).symm | exact (decide_eq_false (fun h => by first | omega | (have h2 := h.2; first | (rw [hit_two om] at h2; exact absurd (of_decide_eq_true h2) asm) | (rw [hit_oth om] at h2; have h3 := of_decide_eq_true h2; omega)))).symm | exact decide_eq_decide.2 ⟨fun h => ⟨by omega, by rw [hit_oth om]; exact decide_eq_true (.inr h)⟩, fun h => by have h2 := h.2; rw [hit_oth om] at h2; have h3 := of_decide_eq_true h2; omega⟩) (hI := by (try dsimp only); exact (C4 _))))))))))))
            ·refine Gro (Aa fld146_1 rfl) (Gro (Aq ty3) ?_)
             refine Gro (Aa fld108_2 rfl) (Gro (Aq ty3) ?_)
             exact Gro (Bf rfl rfl) (Gro (Aj rfl rfl) (Gro (Al rfl rfl) (Gr (Aj rfl rfl) (Ga rfl (Bi (Dk ((decide (((at_ xs (k : Int)).v) = e.u))) (by first | (exfalso; omega) | exact (decide_eq_true ⟨by omega, by first | (rw [hit_two om]; exact decide_eq_true asm) | (rw [hit_oth om]; exact decide_eq_true om)⟩).symm | exact (decide_eq_false (fun h => by first | omega | (have h2 := h.2; first | (rw [hit_two om] at h2; exact absurd (of_decide_eq_true h2) asm) | (rw [hit_oth om] at h2; have h3 := of_decide_eq_true h2; omega)))).symm | exact decide_eq_decide.2 ⟨fun h => ⟨by omega, by rw [hit_oth om]; exact decide_eq_true (.inr h)⟩, fun h => by have h2 := h.2; rw [hit_oth om] at h2; have h3 := of_decide_eq_true h2; omega⟩) (hI := by (try dsimp only); exact (C4 _))))))))
           ·exact Gpo (Gpo (Gpo (Gpo (Gpo (Gpo (Gpu (Gpu (Gpu (Gpu (Gpu (Gpo (Gro (Aj rfl rfl) (Gr (Aj rfl rfl) (Ga rfl (Bi (Dk ((false)) (by first | (exfalso; omega) | exact (decide_eq_true ⟨by omega, by first | (rw [hit_two om]; exact decide_eq_true asm) | (rw [hit_oth om]; exact decide_eq_true om)⟩).symm | exact (decide_eq_false (fun h => by first | omega | (have h2 := h.2; first | (rw [hit_two om] at h2; exact absurd (of_decide_eq_true h2) asm) | (rw [hit_oth om] at h2; have h3 := of_decide_eq_true h2; omega)))).symm | exact decide_eq_decide.2 ⟨fun h => ⟨by omega, by rw [hit_oth om]; exact decide_eq_true (.inr h)⟩, fun h => by have h2 := h.2; rw [hit_oth om] at h2; have h3 := of_decide_eq_true h2; omega⟩) (hI := by (try dsimp only); exact (C4 _))))))))))))))))))
         ·rintro z hp
          have hz : (z = decide (e.kd ≠ 1 ∧ hitE e (at_ xs (k : Int)) = true)) := hp
          show W Tryz.prog κ 180 _ _ ([(3, .pointer (some ⟨b2, 0, none⟩)), (4, .pointer (some ⟨b3, 0, none⟩)), (9, .pointer (some ⟨b4, 0, none⟩)), (10, .slice a4 chg2.length c4), (11, .pointer (some ⟨b5, 0, none⟩)), (12, .bool (q2)), (14, .pointer (some ⟨b6, 0, none⟩)), (67, va), (68, I64 (((xs.length : Nat) : Int))), (69, I64 ((k : Int))), (129, .bool (z))] : Env) (blk b4 [I64 (nd), .slice a3 O2.length c3] 111 :: vc 146 (.slice a3 O2.length c3) (O2) :: vc 108 (.slice a4 chg2.length c4) (chg2) :: blk b6 [I64 ((at_ xs (k : Int)).u), I64 ((at_ xs (k : Int)).v), I64 ((at_ xs (k : Int)).w), I64 ((at_ xs (k : Int)).lb), I64 ((at_ xs (k : Int)).sg), I64 ((at_ xs (k : Int)).tm)] 146 :: blk b5 [I64 ((lkOf e).u), I64 ((lkOf e).v), I64 ((lkOf e).w), I64 ((lkOf e).lb), I64 ((lkOf e).sg), I64 ((lkOf e).tm)] 146 :: blk b3 [I64 (0), .slice none 0 0] 111 :: blk b2 [I64 (e.kd), I64 (e.tm), I64 (e.u), I64 (e.v), I64 (e.w), I64 (e.lb), I64 (e.sg)] 108 :: blk b1 [I64 (nd), va] 111 :: I)
          refine Ed rfl (fun c129 => ?_) (fun c129 => ?_)
          ·refine A2 (Gm rfl (Gl6 ty146 ?_))
           refine Gf fld108_1 rfl (Gl ty3 ?_)
           refine Gc0 (Ap call164 rfl rfl (Cut5_ok (at_ xs (k : Int)) e.tm)) ?_
           refine Ge1 (B0 (α := Ev) (cs := [I64 (2), I64 (e.tm), I64 ((at_ xs (k : Int)).u), I64 ((at_ xs (k : Int)).v), I64 (0), I64 (0), I64 (0)]) (xs := [⟨2, e.tm, (at_ xs (k : Int)).u, (at_ xs (k : Int)).v, 0, 0, 0⟩]) Aw ty108 rfl rfl dc dc rfl kr rfl rfl) fun ad28 => ?_
           refine Ge2 (B5 (α := Ev) (e := 108) (xs := chg2) (ys := ([⟨2, e.tm, (at_ xs (k : Int)).u, (at_ xs (k : Int)).v, 0, 0, 0⟩] : List Ev)) Aw ty108 rfl rfl rfl mm Bo (by have hol3 := hA.len; first | (simp only [List.length_append, List.length_cons, List.length_nil]; omega) | (have hol4 := hA2.len; simp only [List.length_append, List.length_cons, List.length_nil]; omega)) dc rfl (fun _ _ => am)) fun ad29 cp30 => ?_
           exact Ga rfl (Bi (Am (Am (Ai (Ar (S9 10 3 4 9 11 12 67 68 69 rfl rfl rfl rfl rfl rfl rfl rfl rfl) (A2 (Gr (Rad rfl rfl) (Gm rfl (Bi (B8 ((k + 1), (a3), (c3), (ad29), (cp30), (O2), (chg2 ++ ([⟨2, e.tm, (at_ xs (k : Int)).u, (at_ xs (k : Int)).v, 0, 0, 0⟩] : List Ev)), (q2)) (by dsimp only; exact ⟨om, (by first | exact hA2.hit hasc om (of_decide_eq_true (hy.symm.trans c106)).1 (of_decide_eq_true (hy.symm.trans c106)).2 | exact hA2.drop om (of_decide_eq_true (hz.symm.trans c129)).1 (of_decide_eq_true (hz.symm.trans c129)).2 | exact hA2.keep hasc om hM (fun h1 h2 => of_decide_eq_false (hy.symm.trans c106) ⟨h1, h2⟩) (fun h1 => Classical.byContradiction fun hh => of_decide_eq_false (hz.symm.trans c129) ⟨h1, by simpa using hh⟩)), olp⟩)))))))))))
          ·refine A2 (Gf fld111_1 rfl (Gl ty109 ?_))
           refine Gl6 ty146 ?_
           refine Ge1 (B0 (α := Lk) (cs := [I64 ((at_ xs (k : Int)).u), I64 ((at_ xs (k : Int)).v), I64 ((at_ xs (k : Int)).w), I64 ((at_ xs (k : Int)).lb), I64 ((at_ xs (k : Int)).sg), I64 ((at_ xs (k : Int)).tm)]) (xs := [⟨(at_ xs (k : Int)).u, (at_ xs (k : Int)).v, (at_ xs (k : Int)).w, (at_ xs (k : Int)).lb, (at_ xs (k : Int)).sg, (at_ xs (k : Int)).tm⟩]) Ak ty146 rfl rfl dc dc rfl kr rfl rfl) fun ad31 => ?_
           refine Ge2 (B5 (α := Lk) (e := 146) (xs := O2) (ys := ([⟨(at_ xs (k : Int)).u, (at_ xs (k : Int)).v, (at_ xs (k : Int)).w, (at_ xs (k : Int)).lb, (at_ xs (k : Int)).sg, (at_ xs (k : Int)).tm⟩] : List Lk)) Ak ty146 rfl rfl rfl mm Bo (by have hol3 := hA.len; first | (simp only [List.length_append, List.length_cons, List.length_nil]; omega) | (have hol4 := hA2.len; simp only [List.length_append, List.length_cons, List.length_nil]; omega)) dc rfl (fun _ _ => am)) fun ad32 cp33 => ?_
           refine Gf fld111_1 rfl (Ge0 (Dw ty109) ?_)
           exact Bi (Am (Am (Ai (Ar (S9 3 4 9 10 11 12 67 68 69 rfl rfl rfl rfl rfl rfl rfl rfl rfl) (A2 (Gr (Rad rfl rfl) (Gm rfl (Bi (B8 ((k + 1), (ad32), (cp33), (a4), (c4), (O2 ++ ([⟨(at_ xs (k : Int)).u, (at_ xs (k : Int)).v, (at_ xs (k : Int)).w, (at_ xs (k : Int)).lb, (at_ xs (k : Int)).sg, (at_ xs (k : Int)).tm⟩] : List Lk)), (chg2), (q2)) (by dsimp only; exact ⟨om, (by first | exact hA2.hit hasc om (of_decide_eq_true (hy.symm.trans c106)).1 (of_decide_eq_true (hy.symm.trans c106)).2 | exact hA2.drop om (of_decide_eq_true (hz.symm.trans c129)).1 (of_decide_eq_true (hz.symm.trans c129)).2 | exact hA2.keep hasc om hM (fun h1 h2 => of_decide_eq_false (hy.symm.trans c106) ⟨h1, h2⟩) (fun h1 => Classical.byContradiction fun hh => of_decide_eq_false (hz.symm.trans c129) ⟨h1, by simpa using hh⟩)), olp⟩))))))))))
     ·refine Bu (As (As (Ba (Ai (Ax (Ah (Gm rfl (Gr (Cl rfl) (Af (Ed rfl (fun c164 => ?_) (fun c164 => ?_)))))))))))
      ·refine Bj mixed (Br (blk b5 [I64 ((lkOf e).u), I64 ((lkOf e).v), I64 ((lkOf e).w), I64 ((lkOf e).lb), I64 ((lkOf e).sg), I64 ((lkOf e).tm)] 146 :: blk b3 [I64 (0), .slice none 0 0] 111 :: blk b2 [I64 (e.kd), I64 (e.tm), I64 (e.u), I64 (e.v), I64 (e.w), I64 (e.lb), I64 (e.sg)] 108 :: blk b1 [I64 (nd), va] 111 :: I) 15 (Dr 0 rfl (Aa fld111_1 rfl) (Dr 2 rfl (Bk (vs := [_, _, _, _, _, _]) ty146) ?_)))
       refine Dr 5 rfl (Ac rfl) (Dr 6 rfl (Bk (vs := [_, _, _, _, _, _]) ty146) ?_)
       refine Dr 7 rfl (Aa fld108_1 rfl) (Dr 8 rfl (Aq ty3) ?_)
       refine C1 (rs := [1, 3]) kr rfl rfl (D3 ?_ (D9 ?_))
       ·refine Sr rfl (Aq ty109) A3 ?_
        refine Ds1 3 (Se1 rfl (B0 (α := Lk) (cs := [I64 ((lkOf e).u), I64 ((lkOf e).v), I64 ((lkOf e).w), I64 ((lkOf e).lb), I64 ((lkOf e).sg), I64 ((lkOf e).tm)]) (xs := [⟨(lkOf e).u, (lkOf e).v, (lkOf e).w, (lkOf e).lb, (lkOf e).sg, (lkOf e).tm⟩]) Ak ty146 rfl rfl dc dc rfl kr rfl rfl) fun ad34 => ?_)
        refine Ds1 4 (Se2 rfl (B5 (α := Lk) (e := 146) (xs := O) (ys := ([⟨(lkOf e).u, (lkOf e).v, (lkOf e).w, (lkOf e).lb, (lkOf e).sg, (lkOf e).tm⟩] : List Lk)) Ak ty146 rfl rfl rfl mm Bo (by have hol3 := hA.len; first | (simp only [List.length_append, List.length_cons, List.length_nil]; omega) | (have hol4 := hA2.len; simp only [List.length_append, List.length_cons, List.length_nil]; omega)) dc rfl (fun _ _ => am)) fun ad35 cp36 => ?_)
        refine Dr 12 rfl (Aa fld111_1 rfl) (Ds1 9 (Sc0 rfl (Ap call163 rfl rfl (Set5_ok (lkOf e) e.tm)) ?_))
        refine Ds1 10 (Se1 rfl (B0 (α := Ev) (cs := [I64 (1), I64 (e.tm), I64 ((lkOf e).u), I64 ((lkOf e).v), I64 ((lkOf e).w), I64 ((lkOf e).lb), I64 ((lkOf e).sg)]) (xs := [⟨1, e.tm, (lkOf e).u, (lkOf e).v, (lkOf e).w, (lkOf e).lb, (lkOf e).sg⟩]) Aw ty108 rfl rfl dc dc rfl kr rfl rfl) fun ad37 => ?_)
        refine Ds1 11 (Se2 rfl (B5 (α := Ev) (e := 108) (xs := chg) (ys := ([⟨1, e.tm, (lkOf e).u, (lkOf e).v, (lkOf e).w, (lkOf e).lb, (lkOf e).sg⟩] : List Ev)) Aw ty108 rfl rfl rfl mm Bo (by have hol3 := hA.len; first | (simp only [List.length_append, List.length_cons, List.length_nil]; omega) | (have hol4 := hA2.len; simp only [List.length_append, List.length_cons, List.length_nil]; omega)) dc rfl (fun _ _ => am)) fun ad38 cp39 => ?_)
        refine Ds1 13 (Se0 rfl (Dw ty109) ?_)
        refine Dr 14 rfl (A9 rfl) (Dz (Ai (Ar (S3 10 4 9 rfl rfl rfl) (Ah (Gl2 ty111 ?_)))))
        refine Gm rfl (Ge0 (B4 ty111) ?_)
        refine Ga rfl (Ga rfl (Af (Ay ?_)))
        have hE : O ++ ([⟨(lkOf e).u, (lkOf e).v, (lkOf e).w, (lkOf e).lb, (lkOf e).sg, (lkOf e).tm⟩] : List Lk) = (stepL xs e) := by first | exact hA.fin om asm | exact hA.finIns om asm
        exact V.retc2 rfl ty111 rfl rfl rfl mm rfl (vc 146 (.slice ad35 (stepL xs e).length cp36) (stepL xs e) :: I) (by rw [← hE]; exact A3) ⟨⟨ad35, cp36, ad38, (chg ++ ([⟨1, e.tm, (lkOf e).u, (lkOf e).v, (lkOf e).w, (lkOf e).lb, (lkOf e).sg⟩] : List Ev)).length, cp39⟩, ⟨by rw [← hE] <;> rfl, by first | (show _ ≤ 2 * xs.length + 1; omega) | (show _ ≤ 2 * xs.length + 1; simp only [List.length_append, List.length_cons, List.length_nil]; omega)⟩, rfl⟩
       ·refine Se1 rfl (B0 (α := Lk) (cs := [I64 ((lkOf e).u), I64 ((lkOf e).v), I64 ((lkOf e).w), I64 ((lkOf e).lb), I64 ((lkOf e).sg), I64 ((lkOf e).tm)]) (xs := [⟨(lkOf e).u, (lkOf e).v, (lkOf e).w, (lkOf e).lb, (lkOf e).sg, (lkOf e).tm⟩]) Ak ty146 rfl rfl dc dc rfl kr rfl rfl) fun ad40 => ?_
        refine Ds1 1 (Sr rfl (Aq ty109) A3 ?_)
        refine Ds1 4 (Se2 rfl (B5 (α := Lk) (e := 146) (xs := O) (ys := ([⟨(lkOf e).u, (lkOf e).v, (lkOf e).w, (lkOf e).lb, (lkOf e).sg, (lkOf e).tm⟩] : List Lk)) Ak ty146 rfl rfl rfl mm Bo (by have hol3 := hA.len; first | (simp only [List.length_append, List.length_cons, List.length_nil]; omega) | (have hol4 := hA2.len; simp only [List.length_append, List.length_cons, List.length_nil]; omega)) dc rfl (fun _ _ => am)) fun ad41 cp42 => ?_)
        refine Dr 12 rfl (Aa fld111_1 rfl) (Ds1 9 (Sc0 rfl (Ap call163 rfl rfl (Set5_ok (lkOf e) e.tm)) ?_))
        refine Ds1 10 (Se1 rfl (B0 (α := Ev) (cs := [I64 (1), I64 (e.tm), I64 ((lkOf e).u), I64 ((lkOf e).v), I64 ((lkOf e).w), I64 ((lkOf e).lb), I64 ((lkOf e).sg)]) (xs := [⟨1, e.tm, (lkOf e).u, (lkOf e).v, (lkOf e).w, (lkOf e).lb, (lkOf e).sg⟩]) Aw ty108 rfl rfl dc dc rfl kr rfl rfl) fun ad43 => ?_)
        refine Ds1 11 (Se2 rfl (B5 (α := Ev) (e := 108) (xs := chg) (ys := ([⟨1, e.tm, (lkOf e).u, (lkOf e).v, (lkOf e).w, (lkOf e).lb, (lkOf e).sg⟩] : List Ev)) Aw ty108 rfl rfl rfl mm Bo (by have hol3 := hA.len; first | (simp only [List.length_append, List.length_cons, List.length_nil]; omega) | (have hol4 := hA2.len; simp only [List.length_append, List.length_cons, List.length_nil]; omega)) dc rfl (fun _ _ => am)) fun ad44 cp45 => ?_)
        refine Ds1 13 (Se0 rfl (Dw ty109) ?_)
        refine Dr 14 rfl (A9 rfl) (Dz (Ai (Ar (S3 10 4 9 rfl rfl rfl) (Ah (Gl2 ty111 ?_)))))
        refine Gm rfl (Ge0 (B4 ty111) ?_)
        refine Ga rfl (Ga rfl (Af (Ay ?_)))
        have hE : O ++ ([⟨(lkOf e).u, (lkOf e).v, (lkOf e).w, (lkOf e).lb, (lkOf e).sg, (lkOf e).tm⟩] : List Lk) = (stepL xs e) := by first | exact hA.fin om asm | exact hA.finIns om asm
        exact V.retc2 rfl ty111 rfl rfl rfl mm rfl (vc 146 (.slice ad41 (stepL xs e).length cp42) (stepL xs e) :: I) (by rw [← hE]; exact A3) ⟨⟨ad41, cp42, ad44, (chg ++ ([⟨1, e.tm, (lkOf e).u, (lkOf e).v, (lkOf e).w, (lkOf e).lb, (lkOf e).sg⟩] : List Ev)).length, cp45⟩, ⟨by rw [← hE] <;> rfl, by first | (show _ ≤ 2 * xs.length + 1; omega) | (show _ ≤ 2 * xs.length + 1; simp only [List.length_append, List.length_cons, List.length_nil]; omega)⟩, rfl⟩
      ·refine A0 (Ai (Ah (Gl2 ty111 ?_)))
       refine Gm rfl (Ge0 (B4 ty111) ?_)
       refine Ga rfl (Ga rfl (Af (Ar (S3 6 5 4 rfl rfl rfl) (Ay ?_))))
       have hE : O = (stepL xs e) := by first | exact hA.fin om asm | exact hA.finIns om asm
       exact V.retc2 rfl ty111 rfl rfl rfl mm rfl (vc 146 (.slice a1 (stepL xs e).length c1) (stepL xs e) :: I) (by rw [← hE]; exact A3) ⟨⟨a1, c1, a2, chg.length, c2⟩, ⟨by rw [← hE] <;> rfl, by first | (show _ ≤ 2 * xs.length + 1; omega) | (show _ ≤ 2 * xs.length + 1; simp only [List.length_append, List.length_cons, List.length_nil]; omega)⟩, rfl⟩
variable {κ : Ctx} {I : List Item}
theorem upk_yes {E : List Ev} {T : Int} {k : Nat} (h : k < E.length) (hc : (at_ E (k : Int)).tm ≤ T) : linksL (List.filter (upT T) (List.take (k + 1) E)) = stepL (linksL (List.filter (upT T) (List.take k E))) (at_ E (k : Int)) := by
 rw [Cv E k h, List.filter_append, List.filter_cons_of_pos (by unfold upT; exact decide_eq_true hc), linksL_app]; rfl
theorem upk_no {E : List Ev} {T : Int} {k : Nat} (h : k < E.length) (hc : ¬ (at_ E (k : Int)).tm ≤ T) : linksL (List.filter (upT T) (List.take (k + 1) E)) = linksL (List.filter (upT T) (List.take k E)) := by
 rw [Cv E k h, List.filter_append, List.filter_cons_of_neg (by unfold upT; simp [hc])]; simp
theorem sub_val {nd : Int} (h0 : 0 ≤ nd ∧ nd ≤ 64) {E : List Ev} (hE : ∀ e ∈ E, FitOk nd e) : checkS nd (linksL E) = 0 := steps_val h0 _ _ (valNil h0) hE
theorem up_val {nd T : Int} (h0 : 0 ≤ nd ∧ nd ≤ 64) {E : List Ev} (hE : ∀ e ∈ E, FitOk nd e) (k : Nat) : checkS nd (linksL (List.filter (upT T) (List.take k E))) = 0 := sub_val h0 fun e he => hE e (List.mem_of_mem_take (List.mem_filter.1 he).1)
theorem up_val0 {nd T : Int} (h0 : 0 ≤ nd ∧ nd ≤ 64) {E : List Ev} (hE : ∀ e ∈ E, FitOk nd e) : checkS nd (linksL (List.filter (upT T) E)) = 0 := sub_val h0 fun e he => hE e (List.mem_filter.1 he).1
theorem up_ask {nd kd wd mo T : Int} (hw : checkW kd wd mo = 0) (h0 : 0 ≤ nd ∧ nd ≤ 64) {E : List Ev} (hE : ∀ e ∈ E, FitOk nd e) (hT : 0 ≤ T ∧ T ≤ 1048576) : askE nd (linksL (List.filter (upT T) E)) kd wd mo T = 0 :=
 ask_of hw (up_val0 h0 hE) hT (steps_tm _ _ (fun x hx => by cases hx) fun e he => of_decide_eq_true (List.mem_filter.1 he).2)
theorem Check08_ok {nd : Int} {va : Value} {es : List Ev} (hl : Sl κ I va es) (hst : StOk nd es) :
    CallS Tryz.prog κ 86 [I64 (nd), va] I (fun r J => r = I64 0 ∧ I = J) := by
 refine Bz hl.le fun hmax => ?_
 refine Ce2 Tryz.func86 rfl rfl ?_
 refine Ah (Ga rfl (Af (Ax (Ah (Gm rfl (Gr (Bb rfl rfl) (Gm rfl (A6 (d := 10) rfl (fun g10 => ?_) (fun g10 => ?_)))))))))
 ·exact absurd g10 (by have := hst.nodes; omega)
 ·refine Gro (Ac rfl) (Gro (Bt rfl rfl) (Gr (Aj rfl rfl) (Af (A7 rfl (fun c13 => ?_) (fun c13 => ?_)))))
  ·exact absurd c13 (by have := hst.nodes; omega)
  ·refine A0 (Ai (Ax (Ah (Gm rfl (Gr (Bs (α := Ev) (xs := es) Aw rfl (Bh hl)) (Gr (Bt rfl rfl) (Af (A7 rfl (fun c16 => ?_) (fun c16 => ?_)))))))))
   ·exact absurd c16 (by have := hst.len; omega)
   ·refine A0 (Ai (Ax (Ah (Gm rfl (Gr (Bs (α := Ev) (xs := es) Aw rfl (Bh hl)) (Gm rfl (Af (Ar (S5 19 18 17 0 1 rfl rfl rfl rfl rfl) (A5 (Bx (σ := Nat) (fun s => ([(0, I64 (nd)), (1, va), (17, va), (18, I64 (((es.length : Nat) : Int))), (19, I64 (((s : Nat) : Int)))] : Env)) (fun s => I) (fun s => (s ≤ es.length)) (fun s => es.length - s) (0) (show ((0 : Nat) ≤ es.length) from om) (Ab rfl (Ab rfl (Ab rfl (Ab rfl (Ab Cg Bp))))) (show Fit κ _ (I) from A3) ?_))))))))))
    rintro k hp
    have hk := hp
    refine Ah (Gr (Bb rfl rfl) (Af (Ax (A7 rfl (fun c20 => ?_) (fun c20 => ?_)))))
    ·refine A0 (Ai (Ax (A5 (Ah (Gm rfl (Gr (A8 (α := Ev) (xs := es) Aw ty108 rfl rfl (Bh hl) om om) (Gr (Bq (α := Ev) (xs := es) ty108 rfl (Bh hl) om om) ?_)))))))
     have hfe := hst.fit k om
     have hto := hst.asc k om
     refine Ge1 (A4 ty108 rfl) fun b1 => Ga rfl (Ge0 (Es7_7 ty108) ?_)
     refine Af (Ax (Ah (Gl7 ty108 ?_)))
     refine Gc0 (Ap call155 rfl rfl (CheckE4_ok (at_ es (k : Int)))) ?_
     refine Ga rfl (Af (Ar (S8 7 5 6 0 1 17 18 19 rfl rfl rfl rfl rfl rfl rfl rfl) (Ah (Gm rfl (Gr (Be rfl rfl) (Af (A7 rfl (fun c27 => ?_) (fun c27 => ?_))))))))
     ·exact absurd hfe.chk c27
     ·refine A0 (Ai (Ax (Ah (Gf fld108_2 rfl (Gl ty3 ?_)))))
      refine Gm rfl (Gr (B7 rfl rfl) (Gm rfl (A6 (d := 33) rfl (fun g33 => ?_) (fun g33 => ?_))))
      ·exact absurd hfe.fits om
      ·refine Gro (Aa fld108_3 rfl) (Gro (Aq ty3) ?_)
       refine Gro (Ac rfl) (Gro (B7 rfl rfl) (Gr (Aj rfl rfl) (Af (Ar (S8 38 5 6 0 1 17 18 19 rfl rfl rfl rfl rfl rfl rfl rfl) (A7 rfl (fun c38 => ?_) (fun c38 => ?_))))))
       ·exact absurd hfe.fits om
       ·refine A0 (Ai (Ax (Bj mixed (Br (blk b1 [I64 ((at_ es (k : Int)).kd), I64 ((at_ es (k : Int)).tm), I64 ((at_ es (k : Int)).u), I64 ((at_ es (k : Int)).v), I64 ((at_ es (k : Int)).w), I64 ((at_ es (k : Int)).lb), I64 ((at_ es (k : Int)).sg)] 108 :: I) 13 (Dr 0 rfl (Ac rfl) (Dr 1 rfl (Bt rfl rfl) (Dr 2 rfl (Ac rfl) (Dl (d := 41) rfl (fun g41 => ?_) (fun g41 => ?_)))))))))
        ·refine Dro 3 rfl (Ac rfl) (Dro 4 rfl (Ac rfl) (Dro 5 rfl (Rsu rfl rfl) (Dro 6 rfl (A8 (α := Ev) (xs := es) Aw ty108 rfl rfl (Bh hl) om om) (Dro 7 rfl (C3 (α := Ev) (xs := es) fld108_1 rfl (Bh hl) om) (Dro 8 rfl (De (α := Ev) (xs := es) (u := I64 ((at_ es ((k : Int) - 1)).tm)) ty3 rfl (Bh hl) om om rfl) (Dro 9 rfl (Aa fld108_1 rfl) (Dro 10 rfl (Aq ty3) ?_)))))))
         refine Dro 11 rfl (Bt rfl rfl) (Dr 12 rfl (Al rfl rfl) (Dz (Ai (Ar (S6 51 0 1 17 18 19 rfl rfl rfl rfl rfl rfl) (A7 rfl (fun c51 => ?_) (fun c51 => ?_))))))
         ·unfold lastT at hto; rw [if_neg om] at hto; omega
         ·exact A0 (Am (Ai (A2 (Gr (Rad rfl rfl) (Gm rfl (Bi (B8 ((k + 1)) om)))))))
        ·exact Dpo 3 rfl (Dpo 4 rfl (Dpo 5 rfl (Dpo 6 rfl (Dpo 7 rfl (Dpo 8 rfl (Dpo 9 rfl (Dpo 10 rfl (Dpo 11 rfl (Dr 12 rfl (Aj rfl rfl) (Dz (Ai (Ar (S6 51 0 1 17 18 19 rfl rfl rfl rfl rfl rfl) (C2 rfl (A0 (Am (Ai (A2 (Gr (Rad rfl rfl) (Gm rfl (Bi (B8 ((k + 1)) om)))))))))))))))))))))
    ·exact Bu (As (As (Ba (Ai (Ah (Ga rfl (Af (Ay (Av rfl rfl (I) Az ⟨rfl, rfl⟩)))))))))
theorem Graph5_ok {nd : Int} {va : Value} {xs : List Lk} (hl : Sl κ I va xs) (hv : checkS nd xs = 0) (hsz : xs.length ≤ 100000) :
    CallS Tryz.prog κ 69 [.agg #[I64 (nd), va]] I (fun r J => ∃ a c, r = .tuple #[.agg #[I64 nd, .slice a (edgesK xs).length c], I64 0] ∧ J = vc 135 (.slice a (edgesK xs).length c) (edgesK xs) :: I) := by
 refine Bz hl.le fun hmax => ?_
 refine Ce1 Tryz.func69 rfl rfl ?_
 refine Ah (Ge1 (Bd (cs := [_, _]) rfl rfl rfl) fun b1 => Ge1 (A4 ty48 rfl) fun b2 => Ga rfl (Af (Ax (Ah (Gl2 ty111 ?_)))))
 refine Gc0 (Ap call129 rfl rfl (CheckS5_ok (nd := nd) (Bh hl))) ?_
 refine Ga rfl (Af (Ah (Gm rfl (Gr (Be rfl rfl) (Af (A7 rfl (fun c11 => ?_) (fun c11 => ?_)))))))
 ·exact absurd hv c11
 ·refine A0 (Ai (Ah (Gf fld111_0 rfl (Gl ty3 ?_))))
  refine Gr (Bg (cells := [_, _]) ty48 Tryz.underlying48 pl48 rfl rfl) (Ge1 (A4 ty48 rfl) fun b3 => Ge0 (B4 ty48) ?_)
  refine Af (Ax (Ah (Gf fld111_1 rfl (Gl ty109 ?_))))
  refine Gr (Bs (α := Lk) (xs := xs) Ak rfl (Bh hl)) (Gm rfl (Af (Ar (S5 20 19 18 5 2 rfl rfl rfl rfl rfl) (A5 (Bx (σ := Nat × (Option Addr) × Nat × (List Pt)) (fun s => ([(2, .pointer (some ⟨b2, 0, none⟩)), (5, .pointer (some ⟨b3, 0, none⟩)), (18, va), (19, I64 (((xs.length : Nat) : Int))), (20, I64 (((s.1 : Nat) : Int)))] : Env)) (fun s => vc 135 (.slice s.2.1 s.2.2.2.length s.2.2.1) (s.2.2.2) :: blk b3 [I64 (nd), .slice s.2.1 s.2.2.2.length s.2.2.1] 48 :: blk b2 [I64 (0), .slice none 0 0] 48 :: blk b1 [I64 (nd), va] 111 :: I) (fun s => (s.1 ≤ xs.length) ∧ (s.2.2.2 = edgesK (xs.take s.1))) (fun s => xs.length - s.1) (0, none, 0, []) (show ((0 : Nat) ≤ xs.length) ∧ (([] : List Pt) = edgesK (xs.take (0 : Nat))) from ⟨om, rfl⟩) (Ab rfl (Ab rfl (Ab rfl (Ab rfl (Ab Cg Bp))))) (show Fit κ _ (vc 135 (.slice (none) ([]).length (0)) (([])) :: blk b3 [I64 (nd), .slice (none) ([]).length (0)] 48 :: blk b2 [I64 (0), .slice none 0 0] 48 :: blk b1 [I64 (nd), va] 111 :: I) from (Cj (Bv (α := Pt) _ _) Bw)) ?_)))))
  rintro ⟨k, a, c, out⟩ hp
  dsimp only at hp ⊢
  obtain ⟨hk, ho⟩ := hp
  have hol : out.length = k := by rw [ho, edgesK_len, List.length_take]; omega
  refine Ah (Gr (Bb rfl rfl) (Af (Ax (A7 rfl (fun c21 => ?_) (fun c21 => ?_)))))
  ·refine A0 (Ai (Ax (A5 (Ah (Gr (A8 (α := Lk) (xs := xs) Ak ty146 rfl rfl (Bh hl) om om) (Gr (Bq (α := Lk) (xs := xs) ty146 rfl (Bh hl) om om) (Ge1 (A4 ty146 rfl) fun b4 => Ge0 (Di ty146) ?_)))))))
   refine Af (Bj mixed (Br (blk b4 [I64 ((at_ xs (k : Int)).u), I64 ((at_ xs (k : Int)).v), I64 ((at_ xs (k : Int)).w), I64 ((at_ xs (k : Int)).lb), I64 ((at_ xs (k : Int)).sg), I64 ((at_ xs (k : Int)).tm)] 146 :: blk b2 [I64 (0), .slice none 0 0] 48 :: blk b1 [I64 (nd), va] 111 :: I) 8 (Dr 0 rfl (Aa fld48_1 rfl) (Dr 2 rfl (Bk (vs := [_, _, _, _, _, _]) ty146) ?_))))
   refine C1 (rs := [1, 3]) kr rfl rfl (D3 ?_ (D9 ?_))
   ·refine Sr rfl (Aq ty46) A3 ?_
    refine Ds1 3 (Sc0 rfl (Ap call130 rfl rfl (Edge5_ok (at_ xs (k : Int)))) ?_)
    refine Ds1 4 (Se1 rfl (B0 (α := Pt) (cs := [_, _]) (xs := [⟨(at_ xs (k : Int)).p.u, (at_ xs (k : Int)).p.v⟩]) Bm ty135 rfl rfl dc dc rfl rfl rfl rfl) fun ad5 => ?_)
    refine Ds1 5 (Se2 rfl (B5 (α := Pt) (e := 135) (xs := out) (ys := ([⟨(at_ xs (k : Int)).p.u, (at_ xs (k : Int)).p.v⟩] : List Pt)) Bm ty135 rfl rfl rfl mm Bo lcn dc rfl (fun _ _ => am)) fun ad6 cp7 => ?_)
    refine Dr 6 rfl (Aa fld48_1 rfl) (Ds1 7 (Se0 rfl (Dw ty46) ?_))
    exact Dz (Am (Ai (Ar (S5 2 5 18 19 20 rfl rfl rfl rfl rfl) (A2 (Gr (Rad rfl rfl) (Gm rfl (Bi (B8 ((k + 1), (ad6), (cp7), (out ++ ([⟨(at_ xs (k : Int)).p.u, (at_ xs (k : Int)).p.v⟩] : List Pt))) (by dsimp only; exact ⟨om, (by rw [edgesK_take om, ← ho]; rfl)⟩)))))))))
   ·refine Sc0 rfl (Ap call130 rfl rfl (Edge5_ok (at_ xs (k : Int)))) ?_
    refine C1 (rs := [1, 4]) kr rfl rfl (D3 ?_ (D9 ?_))
    ·refine Sr rfl (Aq ty46) A3 ?_
     refine Ds1 4 (Se1 rfl (B0 (α := Pt) (cs := [_, _]) (xs := [⟨(at_ xs (k : Int)).p.u, (at_ xs (k : Int)).p.v⟩]) Bm ty135 rfl rfl dc dc rfl rfl rfl rfl) fun ad8 => ?_)
     refine Ds1 5 (Se2 rfl (B5 (α := Pt) (e := 135) (xs := out) (ys := ([⟨(at_ xs (k : Int)).p.u, (at_ xs (k : Int)).p.v⟩] : List Pt)) Bm ty135 rfl rfl rfl mm Bo lcn dc rfl (fun _ _ => am)) fun ad9 cp10 => ?_)
     refine Dr 6 rfl (Aa fld48_1 rfl) (Ds1 7 (Se0 rfl (Dw ty46) ?_))
     exact Dz (Am (Ai (Ar (S5 2 5 18 19 20 rfl rfl rfl rfl rfl) (A2 (Gr (Rad rfl rfl) (Gm rfl (Bi (B8 ((k + 1), (ad9), (cp10), (out ++ ([⟨(at_ xs (k : Int)).p.u, (at_ xs (k : Int)).p.v⟩] : List Pt))) (by dsimp only; exact ⟨om, (by rw [edgesK_take om, ← ho]; rfl)⟩)))))))))
    ·refine Se1 rfl (B0 (α := Pt) (cs := [_, _]) (xs := [⟨(at_ xs (k : Int)).p.u, (at_ xs (k : Int)).p.v⟩]) Bm ty135 rfl rfl dc dc rfl rfl rfl rfl) fun ad11 => ?_
     refine Ds1 1 (Sr rfl (Aq ty46) A3 ?_)
     refine Ds1 5 (Se2 rfl (B5 (α := Pt) (e := 135) (xs := out) (ys := ([⟨(at_ xs (k : Int)).p.u, (at_ xs (k : Int)).p.v⟩] : List Pt)) Bm ty135 rfl rfl rfl mm Bo lcn dc rfl (fun _ _ => am)) fun ad12 cp13 => ?_)
     refine Dr 6 rfl (Aa fld48_1 rfl) (Ds1 7 (Se0 rfl (Dw ty46) ?_))
     exact Dz (Am (Ai (Ar (S5 2 5 18 19 20 rfl rfl rfl rfl rfl) (A2 (Gr (Rad rfl rfl) (Gm rfl (Bi (B8 ((k + 1), (ad12), (cp13), (out ++ ([⟨(at_ xs (k : Int)).p.u, (at_ xs (k : Int)).p.v⟩] : List Pt))) (by dsimp only; exact ⟨om, (by rw [edgesK_take om, ← ho]; rfl)⟩)))))))))
  ·refine Bu (As (As (Ba (Ai (Ah (Gl2 ty48 ?_))))))
   refine Ge0 (B4 ty48) ?_
   refine Ga rfl (Af (Ay ?_))
   have hE : out = edgesK xs := by rw [ho, List.take_of_length_le om]
   exact Cz rfl ty48 rfl rfl mm rfl (vc 135 (.slice a (edgesK xs).length c) (edgesK xs) :: I) (by rw [← hE]; exact Bw) ⟨a, c, by rw [← hE] <;> rfl, rfl⟩
set_option maxHeartbeats 1000000 in
theorem Some43_base {κ : Ctx} {I : List Item} {b : Nat} {lv : Value} {ls : List Int} {i : Int}  (hl : ∀ q, Sl κ (deck b lv q :: I) lv ls) (h0 : 0 ≤ i)   :
    CallS Tryz.prog κ 42 [.pointer (some ⟨b, 0, none⟩)] (blk b [lv, I64 (i)] 125 :: I) (fun r J => ∃ y : Int × (Option Addr) × Nat × (List Ev) × Int × Int × Int × Int, ((r = .tuple #[I64 y.1, .slice y.2.1 y.2.2.2.1.length y.2.2.1, .agg #[I64 y.2.2.2.2.1, I64 y.2.2.2.2.2.1, I64 y.2.2.2.2.2.2.1]] ∧ HistOk y.1 y.2.2.2.2.1 y.2.2.2.2.2.1 y.2.2.2.2.2.2.1 y.2.2.2.1 ∧ y.2.2.2.1.length ≤ 12 ∧ (2 ≤ y.1 ∧ y.1 ≤ 6)) ∧ 0 ≤ y.2.2.2.2.2.2.2) ∧ J = [vc 108 (.slice y.2.1 y.2.2.2.1.length y.2.2.1) y.2.2.2.1] ++ deck b lv y.2.2.2.2.2.2.2 :: I) := by
 refine Ce1 Tryz.func42 rfl rfl ?_
 refine Ah (Ga rfl (Ga rfl (Ge1 (A4 ty31 rfl) fun b1 => Af (Ah (Gm rfl (G.e (Ap call19 rfl rfl (Next_ok (by repeat (first | exact AtF.head _ _ | apply AtF.tail)) (Cf (hl _) Az) om om)) ?_))))))
 rintro _ _ ⟨_, _, ⟨x2, i3, rfl, hx2, hi3, rfl⟩, rfl, rfl⟩
 show G Tryz.prog κ _ _ _ _ ([(7, I64 (x2)), (6, .pointer (some ⟨b, 0, none⟩)), (4, .pointer (some ⟨b1, 0, none⟩)), (3, .slice none 0 0), (2, I64 (0)), (0, .pointer (some ⟨b, 0, none⟩))] : Env) (blk b1 [I64 (0), I64 (0), I64 (0)] 31 :: blk b [lv, I64 (i3)] 125 :: I)
 refine Gr (Rad rfl rfl) (Ga rfl (Af (Ah (Gm rfl (Gm rfl (Gm rfl (G.e (Ap call20 rfl rfl (MkEvents_at (by repeat (first | exact AtF.head _ _ | apply AtF.tail)) (fun _ => Cf (hl _) Az) om  om om)) ?_)))))))
 rintro _ _ ⟨_, _, ⟨⟨ad4, cp5, es6, i7⟩, ⟨⟨rfl, hses6⟩, hi7⟩, rfl⟩, rfl, rfl⟩
 show G Tryz.prog κ _ _ _ _ ([(12, .slice ad4 es6.length cp5), (11, I64 (2 + x2)), (10, .pointer (some ⟨b, 0, none⟩)), (9, I64 (2 + x2)), (5, I64 (2 + x2)), (8, I64 (2 + x2)), (7, I64 (x2)), (6, .pointer (some ⟨b, 0, none⟩)), (4, .pointer (some ⟨b1, 0, none⟩)), (3, .slice none 0 0), (2, I64 (0)), (0, .pointer (some ⟨b, 0, none⟩))] : Env) (vc 108 (.slice ad4 es6.length cp5) (es6) :: blk b1 [I64 (0), I64 (0), I64 (0)] 31 :: blk b [lv, I64 (i7)] 125 :: I)
 have hi7 : 0 ≤ i7 := hi7
 dsimp only at hses6
 refine Gm rfl (G.e (Ap call21 rfl rfl (MkWindowV_at (by repeat (first | exact AtF.head _ _ | apply AtF.tail)) (fun _ => Cf (hl _) Az) om  )) ?_)
 rintro _ _ ⟨_, _, ⟨⟨kd8, wd9, mo10, i11⟩, ⟨⟨rfl, hwkd8⟩, hi11⟩, rfl⟩, rfl, rfl⟩
 show G Tryz.prog κ _ _ _ _ ([(14, .agg #[I64 (kd8), I64 (wd9), I64 (mo10)]), (13, .pointer (some ⟨b, 0, none⟩)), (12, .slice ad4 es6.length cp5), (11, I64 (2 + x2)), (10, .pointer (some ⟨b, 0, none⟩)), (9, I64 (2 + x2)), (5, I64 (2 + x2)), (8, I64 (2 + x2)), (7, I64 (x2)), (6, .pointer (some ⟨b, 0, none⟩)), (4, .pointer (some ⟨b1, 0, none⟩)), (3, .slice none 0 0), (2, I64 (0)), (0, .pointer (some ⟨b, 0, none⟩))] : Env) (vc 108 (.slice ad4 es6.length cp5) (es6) :: blk b1 [I64 (0), I64 (0), I64 (0)] 31 :: blk b [lv, I64 (i11)] 125 :: I)
 have hi11 : 0 ≤ i11 := hi11
 refine Ga rfl (Ga rfl (Ge0 (Es3_3 ty31) ?_))
 exact Af (Ar (S3 3 2 4 rfl rfl rfl) (Ay (V.retttc rfl ty31 rfl rfl rfl mm rfl (vc 108 (.slice ad4 es6.length cp5) (es6) :: blk b [lv, I64 (i11)] 125 :: I) Bw ⟨(2 + x2, ad4, cp5, es6, kd8, wd9, mo10, i11), ⟨⟨rfl, ⟨hses6.1.st om om, hwkd8⟩, by show es6.length ≤ 12; have h9 := hses6.2; omega, by show 2 ≤ 2 + x2 ∧ 2 + x2 ≤ 6; omega⟩, by show 0 ≤ i11; omega⟩, rfl⟩)))
theorem Some43_at {κ : Ctx} {I : List Item} {F : Item → List Item} {b : Nat} {lv : Value} {ls : List Int} {i : Int}  (hat : AtF I (deck b lv i) F) (hl : ∀ q, Sl κ (F (deck b lv q)) lv ls) (h0 : 0 ≤ i)   :
  CallS Tryz.prog κ 42 [.pointer (some ⟨b, 0, none⟩)] I fun r J => ∃ y : Int × (Option Addr) × Nat × (List Ev) × Int × Int × Int × Int, ((r = .tuple #[I64 y.1, .slice y.2.1 y.2.2.2.1.length y.2.2.1, .agg #[I64 y.2.2.2.2.1, I64 y.2.2.2.2.2.1, I64 y.2.2.2.2.2.2.1]] ∧ HistOk y.1 y.2.2.2.2.1 y.2.2.2.2.2.1 y.2.2.2.2.2.2.1 y.2.2.2.1 ∧ y.2.2.2.1.length ≤ 12 ∧ (2 ≤ y.1 ∧ y.1 ≤ 6)) ∧ 0 ≤ y.2.2.2.2.2.2.2) ∧ J = [vc 108 (.slice y.2.1 y.2.2.2.1.length y.2.2.1) y.2.2.2.1] ++ F (deck b lv y.2.2.2.2.2.2.2) :=
 D5 (Post := fun r (y : Int × (Option Addr) × Nat × (List Ev) × Int × Int × Int × Int) => (r = .tuple #[I64 y.1, .slice y.2.1 y.2.2.2.1.length y.2.2.1, .agg #[I64 y.2.2.2.2.1, I64 y.2.2.2.2.2.1, I64 y.2.2.2.2.2.2.1]] ∧ HistOk y.1 y.2.2.2.2.1 y.2.2.2.2.2.1 y.2.2.2.2.2.2.1 y.2.2.2.1 ∧ y.2.2.2.1.length ≤ 12 ∧ (2 ≤ y.1 ∧ y.1 ≤ 6)) ∧ 0 ≤ y.2.2.2.2.2.2.2) (Z := fun y : Int × (Option Addr) × Nat × (List Ev) × Int × Int × Int × Int => [vc 108 (.slice y.2.1 y.2.2.2.1.length y.2.2.1) y.2.2.2.1]) (X := fun y : Int × (Option Addr) × Nat × (List Ev) × Int × Int × Int × Int => deck b lv y.2.2.2.2.2.2.2) hat fun J _ hF => Some43_base (fun q => (hl q).fit (hF _)) h0  
set_option maxHeartbeats 1000000 in
theorem At08_ok {κ : Ctx} {I : List Item} {nd tq : Int} {va : Value} {es : List Ev} (hl : Sl κ I va es) (hst : StOk nd es) :
    CallS Tryz.prog κ 68 [I64 (nd), va, I64 (tq)] I (fun r J => ∃ a c, r = .tuple #[.agg #[I64 nd, .slice a (linksL (List.filter (upT tq) es)).length c], I64 0] ∧ J = vc 146 (.slice a (linksL (List.filter (upT tq) es)).length c) (linksL (List.filter (upT tq) es)) :: I) := by
 refine Bz hl.le fun hmax => ?_
 refine Ce3 Tryz.func68 rfl rfl ?_
 refine Ah (Ge1 (A4 ty111 rfl) fun b1 => Ga rfl (Af (Ax (Ah (Gm rfl (Gm rfl (G.e (Ap call86 rfl rfl (Check08_ok (nd := nd) (Bh hl) hst)) ?_)))))))
 rintro _ _ ⟨_, _, ⟨rfl, rfl⟩, rfl, rfl⟩
 refine Ga rfl (Af (Ah (Gm rfl (Gr (Be rfl rfl) (Af (A7 rfl (fun c16 => ?_) (fun c16 => ?_)))))))
 ·exact absurd rfl c16
 ·refine A0 (Ai (Ah (Gm rfl (Gr (Bg (cells := [_, _]) ty111 Cy pl111 rfl rfl) (Ge1 (A4 ty111 rfl) fun b2 => Ge0 (B4 ty111) ?_)))))
  refine Af (Ar (S4 9 6 1 2 rfl rfl rfl rfl) (Ax (Ah (Gm rfl (Gr (Bs (α := Ev) (xs := es) Aw rfl (Bh hl)) (Gm rfl (Af (A5 (Bx (σ := Nat × (Option Addr) × Nat) (fun s => ([(2, I64 (tq)), (6, .pointer (some ⟨b1, 0, none⟩)), (9, .pointer (some ⟨b2, 0, none⟩)), (21, va), (22, I64 (((es.length : Nat) : Int))), (23, I64 (((s.1 : Nat) : Int)))] : Env)) (fun s => vc 146 (.slice s.2.1 (linksL (List.filter (upT tq) (List.take s.1 es))).length s.2.2) (linksL (List.filter (upT tq) (List.take s.1 es))) :: blk b2 [I64 (nd), .slice s.2.1 (linksL (List.filter (upT tq) (List.take s.1 es))).length s.2.2] 111 :: blk b1 [I64 (0), .slice none 0 0] 111 :: I) (fun s => (s.1 ≤ es.length)) (fun s => es.length - s.1) (0, none, 0) (show ((0 : Nat) ≤ es.length) from om) (Ab rfl (Ab rfl (Ab rfl (Ab rfl (Ab rfl (Ab Cg Bp)))))) (show Fit κ _ (vc 146 (.slice (none) (linksL (List.filter (upT tq) (List.take (0) es))).length (0)) (linksL (List.filter (upT tq) (List.take (0) es))) :: blk b2 [I64 (nd), .slice (none) (linksL (List.filter (upT tq) (List.take (0) es))).length (0)] 111 :: blk b1 [I64 (0), .slice none 0 0] 111 :: I) from (Cj (Bv (α := Lk) _ _) Bw)) ?_)))))))))
  rintro ⟨k, a, c⟩ hp
  dsimp only at hp ⊢
  have hk := hp
  refine Ah (Gr (Bb rfl rfl) (Af (Ax (A7 rfl (fun c24 => ?_) (fun c24 => ?_)))))
  ·refine A0 (Ai (Ax (A5 (Ah (Gr (A8 (α := Ev) (xs := es) Aw ty108 rfl rfl (Bh hl) om om) (Gr (Bq (α := Ev) (xs := es) ty108 rfl (Bh hl) om om) (Ge1 (A4 ty108 rfl) fun b3 => Ge0 (Es7_7 ty108) ?_)))))))
   refine Af (Ah (Gf fld108_1 rfl (Gl ty3 ?_)))
   refine Gm rfl (Gr (Dn rfl rfl) (Af (Ar (S8 30 11 2 6 9 21 22 23 rfl rfl rfl rfl rfl rfl rfl rfl) (A7 rfl (fun c30 => ?_) (fun c30 => ?_)))))
   ·refine A2 (Gl2 ty111 ?_)
    refine Gl7 ty108 ?_
    refine G.e (Ap call94 rfl rfl (Apply5_ok (nd := nd) (e := (at_ es (k : Int))) Bo (up_val hst.nodes hst.mem k) (hst.fit k om) (by have := links_len (up_val (T := tq) hst.nodes hst.mem k); omega))) ?_
    rintro _ _ ⟨_, _, ⟨⟨ad4, cp5, ad6, nn7, cp8⟩, ⟨rfl, hnn7⟩, rfl⟩, rfl, rfl⟩
    show G Tryz.prog κ _ _ _ _ ([(34, .tuple #[.agg #[I64 (nd), .slice ad4 (stepL (linksL (List.filter (upT tq) (List.take k es))) (at_ es (k : Int))).length cp5], .slice ad6 nn7 cp8, I64 (0)]), (33, .agg #[I64 ((at_ es (k : Int)).kd), I64 ((at_ es (k : Int)).tm), I64 ((at_ es (k : Int)).u), I64 ((at_ es (k : Int)).v), I64 ((at_ es (k : Int)).w), I64 ((at_ es (k : Int)).lb), I64 ((at_ es (k : Int)).sg)]), (32, .agg #[I64 (nd), .slice a (linksL (List.filter (upT tq) (List.take k es))).length c]), (30, .bool (decide (((at_ es (k : Int)).tm) ≤ tq))), (11, .pointer (some ⟨b3, 0, none⟩)), (2, I64 (tq)), (6, .pointer (some ⟨b1, 0, none⟩)), (9, .pointer (some ⟨b2, 0, none⟩)), (21, va), (22, I64 (((es.length : Nat) : Int))), (23, I64 ((k : Int)))] : Env) (vc 146 (.slice ad4 (stepL (linksL (List.filter (upT tq) (List.take k es))) (at_ es (k : Int))).length cp5) (stepL (linksL (List.filter (upT tq) (List.take k es))) (at_ es (k : Int))) :: blk b3 [I64 ((at_ es (k : Int)).kd), I64 ((at_ es (k : Int)).tm), I64 ((at_ es (k : Int)).u), I64 ((at_ es (k : Int)).v), I64 ((at_ es (k : Int)).w), I64 ((at_ es (k : Int)).lb), I64 ((at_ es (k : Int)).sg)] 108 :: vc 146 (.slice a (linksL (List.filter (upT tq) (List.take k es))).length c) (linksL (List.filter (upT tq) (List.take k es))) :: blk b2 [I64 (nd), .slice a (linksL (List.filter (upT tq) (List.take k es))).length c] 111 :: blk b1 [I64 (0), .slice none 0 0] 111 :: I)
    have hnn7 : nn7 ≤ 2 * (linksL (List.filter (upT tq) (List.take k es))).length + 1 := hnn7
    refine Gm rfl (Gr (A1 rfl rfl) (Gr (A1 rfl rfl) (Gr (A1 rfl rfl) (Ge0 (B4 ty111) ?_))))
    exact Bi (Am (Ai (Ar (S6 2 6 9 21 22 23 rfl rfl rfl rfl rfl rfl) (A2 (Gr (Rad rfl rfl) (Gm rfl (Bi (B8 ((k + 1), (ad4), (cp5)) (by dsimp only; exact om) (hI := by (try dsimp only); exact (by first | (rw [upk_yes om c30]; exact Bw) | (rw [upk_no om c30]; exact Bw)))))))))))
   ·exact A0 (Am (Ai (A2 (Gr (Rad rfl rfl) (Gm rfl (Bi (B8 ((k + 1), (a), (c)) (by dsimp only; exact om) (hI := by (try dsimp only); exact (by first | (rw [upk_yes om c30]; exact Bw) | (rw [upk_no om c30]; exact Bw))))))))))
  ·refine Bu (As (As (Ba (Ai (Ah (Gl2 ty111 ?_))))))
   refine Ge0 (B4 ty111) ?_
   refine Ga rfl (Af (Ay ?_))
   have hE : linksL (List.filter (upT tq) (List.take k es)) = (linksL (List.filter (upT tq) es)) := by rw [List.take_of_length_le om]
   exact Cz rfl ty111 rfl rfl mm rfl (vc 146 (.slice a (linksL (List.filter (upT tq) es)).length c) (linksL (List.filter (upT tq) es)) :: I) (by rw [← hE]; exact Bw) ⟨a, c, by rw [← hE] <;> rfl, rfl⟩
section
variable {nd kd wd mo t : Int} {es : List Ev}
theorem hist_up (h : HistOk nd kd wd mo es) (t : Int) : HistOk nd kd wd mo (es.filter (upT t)) := by
 obtain ⟨k, hk, h1, h2⟩ := h.st.cutAt t
 rw [up_take (fun i hi _ => h1 i hi) h2]
 exact ⟨h.st.take k, h.win⟩
theorem upf_yes {k : Nat} (h : k < es.length) (hc : (at_ es (k : Int)).tm ≤ t) : List.filter (upT t) (List.take (k + 1) es) = List.filter (upT t) (List.take k es) ++ [at_ es (k : Int)] := by
 rw [Cv es k h, List.filter_append, List.filter_cons_of_pos (by unfold upT; exact decide_eq_true hc)]; rfl
theorem upf_no {k : Nat} (h : k < es.length) (hc : ¬ (at_ es (k : Int)).tm ≤ t) : List.filter (upT t) (List.take (k + 1) es) = List.filter (upT t) (List.take k es) := by
 rw [Cv es k h, List.filter_append, List.filter_cons_of_neg (by unfold upT; simp [hc])]; simp
theorem atG_early (h : HistOk nd kd wd mo es) (ht : 0 ≤ t ∧ t ≤ 1048576) : atG kd wd mo (es.filter (upT t)) t = atG kd wd mo es t := by
 unfold atG; rw [atK_early h (hist_up h t) ht]
theorem atG_all (h : HistOk nd kd wd mo es) (ht : 0 ≤ t ∧ t ≤ 1048576) (hk : kd = 1) : atG kd wd mo es t = edgesK (linksL (es.filter (upT t))) := by
 unfold atG; rw [atK_up h ht, if_neg om, if_neg om]; rfl
theorem atG_age (h : HistOk nd kd wd mo es) (ht : 0 ≤ t ∧ t ≤ 1048576) (hk : kd = 2) : atG kd wd mo es t = edgesK (List.filter (inW kd wd mo t (linksL (es.filter (upT t)))) (linksL (es.filter (upT t)))) := by
 unfold atG; rw [atK_up h ht, if_pos hk]; subst hk; rw [inW_alive]; rfl
theorem atG_cnt (h : HistOk nd kd wd mo es) (ht : 0 ≤ t ∧ t ≤ 1048576) (hk : kd = 3) : ((atG kd wd mo es t).length : Int) ≤ mo := by
 unfold atG
 rw [edgesK_len, atK_up h ht, if_neg om, if_pos hk]
 have h' := hist_up h t
 subst hk
 rcases checkW_cases h.win with ⟨h1, _⟩ | ⟨h1, _⟩ | ⟨_, _, hm⟩
 ·exact absurd h1 dc
 ·exact absurd h1 dc
 ·have hC := CntB.all h'.st hm.1 (es.filter (upT t)).length (Nat.le_refl _)
  rw [List.take_length] at hC
  have := hC.len
  rw [hC.st] at this
  exact this
end
end Go.Sl
