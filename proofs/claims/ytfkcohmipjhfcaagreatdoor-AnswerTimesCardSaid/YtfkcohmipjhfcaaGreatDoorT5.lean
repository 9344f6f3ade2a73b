/- A part of the proofs of statements of this seat: contracts of functions, and the plain laws that they lean on. No conditions. -/
import Derived.Test.YtfkcohmipjhfcaaGreatDoorT4
set_option linter.unusedVariables false
set_option linter.unusedSimpArgs false
set_option linter.unusedSectionVars false
namespace Go.Sl
open Go.Proofs
set_option maxRecDepth 4000
variable {κ : Ctx} {I : List Item}
theorem Lk.cmp_lt (a c : Lk) : Lk.cmp a c < 0 ↔ Lk.lt a c := Pt.cmp_lt _ _
def askE (nd : Int) (xs : List Lk) (kd wd mo nw : Int) : Int := if checkW kd wd mo ≠ 0 then checkW kd wd mo else if checkS nd xs ≠ 0 then checkS nd xs else if nw < 0 ∨ 1048576 < nw ∨ xs.any (fun x => decide (nw < x.tm)) = true then 9 else 0
theorem CheckS_ok {nd : Int} {va : Value} {xs : List Lk} (hl : Sl κ I va xs) :
    CallS Tryz.prog κ 214 [.agg #[I64 (nd), va]] I (fun r J => r = I64 (checkS nd xs) ∧ I = J) := by
 refine Bz hl.le fun hmax => ?_
 refine Ce1 Tryz.func214 rfl rfl ?_
 refine Ah (Ge1 (Bd (cs := [_, _]) rfl rfl rfl) fun b1 => Ga rfl (Af (Ax (Ah (Gf fld111_0 rfl (Gl ty3 ?_))))))
 refine Gr (Bb rfl rfl) (Gm rfl (A6 (d := 8) rfl (fun g8 => ?_) (fun g8 => ?_)))
 ·exact Gpo (Gpo (Gpo (Gr (Al rfl rfl) (Af (B6 rfl (Ah (Ga rfl (Af (Ay (Ad (Av rfl rfl (I) Az ⟨by rw [show checkS nd xs = 1 from (by first | (unfold checkS; rw [if_pos om]; done) | exact hs.trans ((Ci om (by rw [badL_one om asm]; decide)).trans (badL_one om asm)))], rfl⟩)))))))))))
 ·refine Gro (Aa fld111_0 rfl) (Gro (Aq ty3) ?_)
  refine Gro (Bt rfl rfl) (Gr (Aj rfl rfl) (Af (A7 rfl (fun c12 => ?_) (fun c12 => ?_))))
  ·exact Ah (Ga rfl (Af (Ay (Ad (Av rfl rfl (I) Az ⟨by rw [show checkS nd xs = 1 from (by first | (unfold checkS; rw [if_pos om]; done) | exact hs.trans ((Ci om (by rw [badL_one om asm]; decide)).trans (badL_one om asm)))], rfl⟩)))))
  ·refine A0 (Ai (Ax (Ah (Gf fld111_1 rfl (Gl ty109 ?_)))))
   refine Gr (Bs (α := Lk) (xs := xs) Ak rfl (Bh hl)) (Gm rfl (Af (Ar (S4 16 15 14 1 rfl rfl rfl rfl) (A5 (Bx (σ := Nat) (fun s => ([(1, .pointer (some ⟨b1, 0, none⟩)), (14, va), (15, I64 (((xs.length : Nat) : Int))), (16, I64 (((s : Nat) : Int)))] : Env)) (fun s => blk b1 [I64 (nd), va] 111 :: I) (fun s => (s ≤ xs.length) ∧ (checkS nd xs = scanL (badL nd) Lk.lt (prevAt xs s) (xs.drop s))) (fun s => xs.length - s) (0) (show ((0 : Nat) ≤ xs.length) ∧ (checkS nd xs = scanL (badL nd) Lk.lt (prevAt xs (0 : Nat)) (xs.drop (0 : Nat))) from ⟨om, (by unfold checkS; rw [if_neg om]; rfl)⟩) (Ab rfl (Ab rfl (Ab rfl (Ab Cg Bp)))) (show Fit κ _ (blk b1 [I64 (nd), va] 111 :: I) from A3) ?_)))))
   rintro k hp
   obtain ⟨hk, hs⟩ := hp
   refine Ah (Gr (Bb rfl rfl) (Af (Ax (A7 rfl (fun c17 => ?_) (fun c17 => ?_)))))
   ·refine A0 (Ai (Ax (A5 (Ah (Gm rfl (Gr (A8 (α := Lk) (xs := xs) Ak ty146 rfl rfl (Bh hl) om om) (Gr (Bq (α := Lk) (xs := xs) ty146 rfl (Bh hl) om om) (Ge1 (A4 ty146 rfl) fun b2 => Ga rfl (Ge0 (Di ty146) ?_)))))))))
    refine Af (A5 (Ah (Gf fld146_0 rfl (Gl ty3 ?_))))
    refine Gr (Bb rfl rfl) (Gm rfl (A6 (d := 25) rfl (fun g25 => ?_) (fun g25 => ?_)))
    ·exact Gpo (Gpo (Gpo (Gpo (Gpo (Gr (Al rfl rfl) (Gm rfl (Gpo (Gpo (Gpo (Gpo (Gpo (Gr (Al rfl rfl) (Ga rfl (Af (Ar (S7 21 3 4 1 14 15 16 rfl rfl rfl rfl rfl rfl rfl) (B6 rfl (Ah (Ga rfl (Af (Ay (Au (Au (Ad (Ad (Au (Ad (Av rfl rfl (I) Az ⟨by rw [show checkS nd xs = 6 from (hs.trans ((Ci om (by rw [badL_six om]; decide)).trans (badL_six om)))], rfl⟩)))))))))))))))))))))))))))
    ·refine Gro (Aa fld146_0 rfl) (Gro (Aq ty3) ?_)
     refine Gro (Aa fld146_1 rfl) (Gro (Aq ty3) ?_)
     refine Gro (B7 rfl rfl) (Gr (Aj rfl rfl) (Gm rfl (A6 (d := 32) rfl (fun g32 => ?_) (fun g32 => ?_))))
     ·exact Gpo (Gpo (Gpo (Gpo (Gpo (Gr (Al rfl rfl) (Ga rfl (Af (Ar (S7 21 3 4 1 14 15 16 rfl rfl rfl rfl rfl rfl rfl) (B6 rfl (Ah (Ga rfl (Af (Ay (Au (Au (Ad (Ad (Au (Ad (Av rfl rfl (I) Az ⟨by rw [show checkS nd xs = 6 from (hs.trans ((Ci om (by rw [badL_six om]; decide)).trans (badL_six om)))], rfl⟩))))))))))))))))))))
     ·refine Gro (Aa fld146_1 rfl) (Gro (Aq ty3) ?_)
      refine Gro (Aa fld111_0 rfl) (Gro (Aq ty3) ?_)
      refine Gro (B7 rfl rfl) (Gr (Aj rfl rfl) (Ga rfl (Af (Ar (S7 21 3 4 1 14 15 16 rfl rfl rfl rfl rfl rfl rfl) (A7 rfl (fun c21 => ?_) (fun c21 => ?_))))))
      ·exact Ah (Ga rfl (Af (Ay (Au (Au (Ad (Ad (Au (Ad (Av rfl rfl (I) Az ⟨by rw [show checkS nd xs = 6 from (hs.trans ((Ci om (by rw [badL_six om]; decide)).trans (badL_six om)))], rfl⟩))))))))))
      ·refine Ah (Gf fld146_2 rfl (Gl ty3 ?_))
       refine Gf fld146_3 rfl (Gl ty3 ?_)
       refine Gf fld146_4 rfl (Gl ty3 ?_)
       refine Gc0 (Ap call251 rfl rfl (RightW_ok ((at_ xs (k : Int)).w) ((at_ xs (k : Int)).lb) ((at_ xs (k : Int)).sg))) ?_
       refine Gr (Cm rfl) (Ga rfl (Af (Ar (S7 39 3 4 1 14 15 16 rfl rfl rfl rfl rfl rfl rfl) (A7 rfl (fun c39 => ?_) (fun c39 => ?_)))))
       ·exact Ah (Ga rfl (Af (Ay (Au (Au (Ad (Ad (Au (Ad (Av rfl rfl (I) Az ⟨by rw [show checkS nd xs = 1 from (by first | (unfold checkS; rw [if_pos om]; done) | exact hs.trans ((Ci om (by rw [badL_one om asm]; decide)).trans (badL_one om asm)))], rfl⟩))))))))))
       ·refine Ah (Gf fld146_5 rfl (Gl ty3 ?_))
        refine Gr (Bb rfl rfl) (Gm rfl (A6 (d := 52) rfl (fun g52 => ?_) (fun g52 => ?_)))
        ·exact Gpo (Gpo (Gpo (Gr (Al rfl rfl) (Ga rfl (Af (Ar (S7 48 3 4 1 14 15 16 rfl rfl rfl rfl rfl rfl rfl) (B6 rfl (Ah (Ga rfl (Af (Ay (Au (Au (Ad (Ad (Au (Ad (Av rfl rfl (I) Az ⟨by rw [show checkS nd xs = 9 from (hs.trans ((Ci om (by rw [badL_nine om (by first | assumption | exact Classical.not_not.1 asm | exact Classical.byContradiction fun h => c47 (by rw [if_neg h]; decide)) om]; decide)).trans (badL_nine om (by first | assumption | exact Classical.not_not.1 asm | exact Classical.byContradiction fun h => c47 (by rw [if_neg h]; decide)) om)))], rfl⟩))))))))))))))))))
        ·refine Gro (Aa fld146_5 rfl) (Gro (Aq ty3) ?_)
         refine Gro (Bt rfl rfl) (Gr (Aj rfl rfl) (Ga rfl (Af (Ar (S7 48 3 4 1 14 15 16 rfl rfl rfl rfl rfl rfl rfl) (A7 rfl (fun c48 => ?_) (fun c48 => ?_))))))
         ·exact Ah (Ga rfl (Af (Ay (Au (Au (Ad (Ad (Au (Ad (Av rfl rfl (I) Az ⟨by rw [show checkS nd xs = 9 from (hs.trans ((Ci om (by rw [badL_nine om (by first | assumption | exact Classical.not_not.1 asm | exact Classical.byContradiction fun h => c47 (by rw [if_neg h]; decide)) om]; decide)).trans (badL_nine om (by first | assumption | exact Classical.not_not.1 asm | exact Classical.byContradiction fun h => c47 (by rw [if_neg h]; decide)) om)))], rfl⟩))))))))))
         ·refine Ax (Bj mixed (Br (blk b2 [I64 ((at_ xs (k : Int)).u), I64 ((at_ xs (k : Int)).v), I64 ((at_ xs (k : Int)).w), I64 ((at_ xs (k : Int)).lb), I64 ((at_ xs (k : Int)).sg), I64 ((at_ xs (k : Int)).tm)] 146 :: blk b1 [I64 (nd), va] 111 :: I) 14 (Dr 0 rfl (Ac rfl) (Dr 1 rfl (Bt rfl rfl) (Dr 2 rfl (Ac rfl) (Dl (d := 60) rfl (fun g60 => ?_) (fun g60 => ?_)))))))
          ·refine Dro 3 rfl (Aa fld111_1 rfl) (Dro 4 rfl (Aq ty109) ?_)
           refine Dro 5 rfl (Ac rfl) (Dro 6 rfl (Rsu rfl rfl) (Dro 7 rfl (A8 (α := Lk) (xs := xs) Ak ty146 rfl rfl (Bh hl) om om) (Dro 8 rfl (Bq (α := Lk) (xs := xs) ty146 rfl (Bh hl) om om) (Dro 9 rfl (Bk (vs := [_, _, _, _, _, _]) ty146) ?_))))
           refine Ds1 10 (Sc0 rfl (Ap call255 rfl rfl (OrderL_ok (at_ xs ((k : Int) - 1)) (at_ xs (k : Int)))) ?_)
           refine Dro 11 rfl (B7 rfl rfl) (Dr 12 rfl (Al rfl rfl) (Dr 13 rfl (A9 rfl) (Dz (Ai (Ar (S5 57 1 14 15 16 rfl rfl rfl rfl rfl) (A7 rfl (fun c57 => ?_) (fun c57 => ?_)))))))
           ·exact Ah (Ga rfl (Af (Ay (Au (Au (Ad (Ad (Au (Ad (Av rfl rfl (I) Az ⟨by rw [show checkS nd xs = 5 from (hs.trans (scanL_order om (badL_zero om (by first | assumption | exact Classical.not_not.1 asm | exact Classical.byContradiction fun h => c47 (by rw [if_neg h]; decide)) om) om (by first | assumption | (intro h; have := (Lk.cmp_lt _ _).2 h; omega))))], rfl⟩))))))))))
           ·exact A0 (Am (Am (Ai (A2 (Gr (Rad rfl rfl) (Gm rfl (Bi (B8 ((k + 1)) ⟨om, (hs.trans (Ec om (badL_zero om (by first | assumption | exact Classical.not_not.1 asm | exact Classical.byContradiction fun h => c47 (by rw [if_neg h]; decide)) om) (fun h0 => by first | omega | exact (Lk.cmp_lt _ _).1 om | exact Classical.not_not.1 asm)))⟩))))))))
          ·exact Dpo 3 rfl (Dpo 4 rfl (Dpo 5 rfl (Dpo 6 rfl (Dpo 7 rfl (Dpo 8 rfl (Dpo 9 rfl (Dpo 10 rfl (Dpo 11 rfl (Dr 12 rfl (Aj rfl rfl) (Dr 13 rfl (A9 rfl) (Dz (Ai (Ar (S5 57 1 14 15 16 rfl rfl rfl rfl rfl) (C2 rfl (A0 (Am (Am (Ai (A2 (Gr (Rad rfl rfl) (Gm rfl (Bi (B8 ((k + 1)) ⟨om, (hs.trans (Ec om (badL_zero om (by first | assumption | exact Classical.not_not.1 asm | exact Classical.byContradiction fun h => c47 (by rw [if_neg h]; decide)) om) (fun h0 => by first | omega | exact (Lk.cmp_lt _ _).1 om | exact Classical.not_not.1 asm)))⟩)))))))))))))))))))))))
   ·exact Bu (As (As (Ba (Ai (Ah (Ga rfl (Af (Ay (Av rfl rfl (I) Az ⟨by rw [show checkS nd xs = 0 from (hs.trans (scanL_end om))], rfl⟩)))))))))
theorem CheckS5_ok {nd : Int} {va : Value} {xs : List Lk} (hl : Sl κ I va xs) :
    CallS Tryz.prog κ 129 [.agg #[I64 (nd), va]] I (fun r J => r = I64 (checkS nd xs) ∧ I = J) := by
 refine Bz hl.le fun hmax => ?_
 refine Ce1 Tryz.func129 rfl rfl ?_
 refine Ah (Ge1 (Bd (cs := [_, _]) rfl rfl rfl) fun b1 => Ga rfl (Af (Ax (Ah (Gf fld111_0 rfl (Gl ty3 ?_))))))
 refine Gr (Bb rfl rfl) (Gm rfl (A6 (d := 9) rfl (fun g9 => ?_) (fun g9 => ?_)))
 ·exact Gpo (Gpo (Gpo (Gr (Al rfl rfl) (Af (B6 rfl (Ah (Ga rfl (Af (Ay (Ad (Av rfl rfl (I) Az ⟨by rw [show checkS nd xs = 1 from (by first | (unfold checkS; rw [if_pos om]; done) | exact hs.trans ((Ci om (by rw [badL_one om asm]; decide)).trans (badL_one om asm)))], rfl⟩)))))))))))
 ·refine Gro (Aa fld111_0 rfl) (Gro (Aq ty3) ?_)
  refine Gro (Bt rfl rfl) (Gr (Aj rfl rfl) (Af (A7 rfl (fun c13 => ?_) (fun c13 => ?_))))
  ·exact Ah (Ga rfl (Af (Ay (Ad (Av rfl rfl (I) Az ⟨by rw [show checkS nd xs = 1 from (by first | (unfold checkS; rw [if_pos om]; done) | exact hs.trans ((Ci om (by rw [badL_one om asm]; decide)).trans (badL_one om asm)))], rfl⟩)))))
  ·refine A0 (Ai (Ax (Ah (Gf fld111_1 rfl (Gl ty109 ?_)))))
   refine Gr (Bs (α := Lk) (xs := xs) Ak rfl (Bh hl)) (Gm rfl (Af (Ar (S4 17 16 15 1 rfl rfl rfl rfl) (A5 (Bx (σ := Nat) (fun s => ([(1, .pointer (some ⟨b1, 0, none⟩)), (15, va), (16, I64 (((xs.length : Nat) : Int))), (17, I64 (((s : Nat) : Int)))] : Env)) (fun s => blk b1 [I64 (nd), va] 111 :: I) (fun s => (s ≤ xs.length) ∧ (checkS nd xs = scanL (badL nd) Lk.lt (prevAt xs s) (xs.drop s))) (fun s => xs.length - s) (0) (show ((0 : Nat) ≤ xs.length) ∧ (checkS nd xs = scanL (badL nd) Lk.lt (prevAt xs (0 : Nat)) (xs.drop (0 : Nat))) from ⟨om, (by unfold checkS; rw [if_neg om]; rfl)⟩) (Ab rfl (Ab rfl (Ab rfl (Ab Cg Bp)))) (show Fit κ _ (blk b1 [I64 (nd), va] 111 :: I) from A3) ?_)))))
   rintro k hp
   obtain ⟨hk, hs⟩ := hp
   refine Ah (Gr (Bb rfl rfl) (Af (Ax (A7 rfl (fun c18 => ?_) (fun c18 => ?_)))))
   ·refine A0 (Ai (Ax (A5 (Ah (Gm rfl (Gr (A8 (α := Lk) (xs := xs) Ak ty146 rfl rfl (Bh hl) om om) (Gr (Bq (α := Lk) (xs := xs) ty146 rfl (Bh hl) om om) (Ge1 (A4 ty146 rfl) fun b2 => Ga rfl (Ge0 (Di ty146) ?_)))))))))
    refine Af (Ax (Ah (Gf fld146_0 rfl (Gl ty3 ?_))))
    refine Gr (Bb rfl rfl) (Gm rfl (A6 (d := 25) rfl (fun g25 => ?_) (fun g25 => ?_)))
    ·exact Gpo (Gpo (Gpo (Gpo (Gpo (Gr (Al rfl rfl) (Gm rfl (Gpo (Gpo (Gpo (Gpo (Gpo (Gr (Al rfl rfl) (Af (Ar (S7 38 3 4 1 15 16 17 rfl rfl rfl rfl rfl rfl rfl) (B6 rfl (Ah (Ga rfl (Af (Ay (Ad (Au (Ad (Ad (Au (Ad (Av rfl rfl (I) Az ⟨by rw [show checkS nd xs = 6 from (hs.trans ((Ci om (by rw [badL_six om]; decide)).trans (badL_six om)))], rfl⟩))))))))))))))))))))))))))
    ·refine Gro (Aa fld146_0 rfl) (Gro (Aq ty3) ?_)
     refine Gro (Aa fld146_1 rfl) (Gro (Aq ty3) ?_)
     refine Gro (B7 rfl rfl) (Gr (Aj rfl rfl) (Gm rfl (A6 (d := 32) rfl (fun g32 => ?_) (fun g32 => ?_))))
     ·exact Gpo (Gpo (Gpo (Gpo (Gpo (Gr (Al rfl rfl) (Af (Ar (S7 38 3 4 1 15 16 17 rfl rfl rfl rfl rfl rfl rfl) (B6 rfl (Ah (Ga rfl (Af (Ay (Ad (Au (Ad (Ad (Au (Ad (Av rfl rfl (I) Az ⟨by rw [show checkS nd xs = 6 from (hs.trans ((Ci om (by rw [badL_six om]; decide)).trans (badL_six om)))], rfl⟩)))))))))))))))))))
     ·refine Gro (Aa fld146_1 rfl) (Gro (Aq ty3) ?_)
      refine Gro (Aa fld111_0 rfl) (Gro (Aq ty3) ?_)
      refine Gro (B7 rfl rfl) (Gr (Aj rfl rfl) (Af (Ar (S7 38 3 4 1 15 16 17 rfl rfl rfl rfl rfl rfl rfl) (A7 rfl (fun c38 => ?_) (fun c38 => ?_)))))
      ·exact Ah (Ga rfl (Af (Ay (Ad (Au (Ad (Ad (Au (Ad (Av rfl rfl (I) Az ⟨by rw [show checkS nd xs = 6 from (hs.trans ((Ci om (by rw [badL_six om]; decide)).trans (badL_six om)))], rfl⟩))))))))))
      ·refine A0 (Ai (Ax (Ah (Gf fld146_2 rfl (Gl ty3 ?_)))))
       refine Gf fld146_3 rfl (Gl ty3 ?_)
       refine Gf fld146_4 rfl (Gl ty3 ?_)
       refine Gc0 (Ap call205 rfl rfl (Attr4_ok ((at_ xs (k : Int)).w) ((at_ xs (k : Int)).lb) ((at_ xs (k : Int)).sg))) ?_
       refine Ga rfl (Af (Ar (S7 5 3 4 1 15 16 17 rfl rfl rfl rfl rfl rfl rfl) (Ah (Gm rfl (Gr (Be rfl rfl) (Af (A7 rfl (fun c47 => ?_) (fun c47 => ?_))))))))
       ·refine Ah (Gm rfl (Ga rfl (Af (Ay (Ad (Au (Ad (Ad (Au (Ad ?_))))))))))
        have hnr : ¬ rightW (at_ xs (k : Int)).w (at_ xs (k : Int)).lb (at_ xs (k : Int)).sg := fun h => c47 (if_pos h)
        exact Av rfl rfl (I) Az ⟨by rw [if_neg hnr, show checkS nd xs = 1 from (by first | (unfold checkS; rw [if_pos om]; done) | exact hs.trans ((Ci om (by rw [badL_one om asm]; decide)).trans (badL_one om asm)))], rfl⟩
       ·refine A0 (Ai (Ax (Ah (Gf fld146_5 rfl (Gl ty3 ?_)))))
        refine Gr (Bb rfl rfl) (Gm rfl (A6 (d := 52) rfl (fun g52 => ?_) (fun g52 => ?_)))
        ·exact Gpo (Gpo (Gpo (Gr (Al rfl rfl) (Af (Ar (S7 56 3 4 1 15 16 17 rfl rfl rfl rfl rfl rfl rfl) (B6 rfl (Ah (Ga rfl (Af (Ay (Ad (Au (Ad (Ad (Au (Ad (Av rfl rfl (I) Az ⟨by rw [show checkS nd xs = 9 from (hs.trans ((Ci om (by rw [badL_nine om (by first | assumption | exact Classical.not_not.1 asm | exact Classical.byContradiction fun h => c47 (by rw [if_neg h]; decide)) om]; decide)).trans (badL_nine om (by first | assumption | exact Classical.not_not.1 asm | exact Classical.byContradiction fun h => c47 (by rw [if_neg h]; decide)) om)))], rfl⟩)))))))))))))))))
        ·refine Gro (Aa fld146_5 rfl) (Gro (Aq ty3) ?_)
         refine Gro (Bt rfl rfl) (Gr (Aj rfl rfl) (Af (Ar (S7 56 3 4 1 15 16 17 rfl rfl rfl rfl rfl rfl rfl) (A7 rfl (fun c56 => ?_) (fun c56 => ?_)))))
         ·exact Ah (Ga rfl (Af (Ay (Ad (Au (Ad (Ad (Au (Ad (Av rfl rfl (I) Az ⟨by rw [show checkS nd xs = 9 from (hs.trans ((Ci om (by rw [badL_nine om (by first | assumption | exact Classical.not_not.1 asm | exact Classical.byContradiction fun h => c47 (by rw [if_neg h]; decide)) om]; decide)).trans (badL_nine om (by first | assumption | exact Classical.not_not.1 asm | exact Classical.byContradiction fun h => c47 (by rw [if_neg h]; decide)) om)))], rfl⟩))))))))))
         ·refine A0 (Ai (Ax (Bj mixed (Br (blk b2 [I64 ((at_ xs (k : Int)).u), I64 ((at_ xs (k : Int)).v), I64 ((at_ xs (k : Int)).w), I64 ((at_ xs (k : Int)).lb), I64 ((at_ xs (k : Int)).sg), I64 ((at_ xs (k : Int)).tm)] 146 :: blk b1 [I64 (nd), va] 111 :: I) 15 (Dr 0 rfl (Ac rfl) (Dr 1 rfl (Bt rfl rfl) (Dr 2 rfl (Ac rfl) (Dl (d := 59) rfl (fun g59 => ?_) (fun g59 => ?_)))))))))
          ·refine Dro 3 rfl (Aa fld111_1 rfl) (Dro 4 rfl (Aq ty109) ?_)
           refine Dro 5 rfl (Ac rfl) (Dro 6 rfl (Rsu rfl rfl) (Dro 7 rfl (A8 (α := Lk) (xs := xs) Ak ty146 rfl rfl (Bh hl) om om) (Dro 8 rfl (Bq (α := Lk) (xs := xs) ty146 rfl (Bh hl) om om) (Dro 10 rfl (Bk (vs := [_, _, _, _, _, _]) ty146) ?_))))
           refine Ds1 9 (Sc0 rfl (Ap call130 rfl rfl (Edge5_ok (at_ xs ((k : Int) - 1)))) ?_)
           refine Ds1 11 (Sc0 rfl (Ap call130 rfl rfl (Edge5_ok (at_ xs (k : Int)))) ?_)
           refine Ds1 12 (Sc0 rfl (Ap call84 rfl rfl (Before03_ok (at_ xs ((k : Int) - 1)).p (at_ xs (k : Int)).p)) ?_)
           refine Dro 13 rfl (Cm rfl) (Dr 14 rfl (Al rfl rfl) (Dz (Ai (Ar (S5 71 1 15 16 17 rfl rfl rfl rfl rfl) (A7 rfl (fun c71 => ?_) (fun c71 => ?_))))))
           ·exact Ah (Ga rfl (Af (Ay (Au (Ad (Ad (Au (Ad (Av rfl rfl (I) Az ⟨by rw [show checkS nd xs = 5 from (hs.trans (scanL_order om (badL_zero om (by first | assumption | exact Classical.not_not.1 asm | exact Classical.byContradiction fun h => c47 (by rw [if_neg h]; decide)) om) om (by first | assumption | (intro h; have := (Lk.cmp_lt _ _).2 h; omega))))], rfl⟩)))))))))
           ·exact A0 (Am (Ai (A2 (Gr (Rad rfl rfl) (Gm rfl (Bi (B8 ((k + 1)) ⟨om, (hs.trans (Ec om (badL_zero om (by first | assumption | exact Classical.not_not.1 asm | exact Classical.byContradiction fun h => c47 (by rw [if_neg h]; decide)) om) (fun h0 => by first | omega | exact (Lk.cmp_lt _ _).1 om | exact Classical.not_not.1 asm)))⟩)))))))
          ·exact Dpo 3 rfl (Dpo 4 rfl (Dpo 5 rfl (Dpo 6 rfl (Dpo 7 rfl (Dpo 8 rfl (Dpo 10 rfl (Dpo 9 rfl (Dpo 11 rfl (Dpo 12 rfl (Dpo 13 rfl (Dr 14 rfl (Aj rfl rfl) (Dz (Ai (Ar (S5 71 1 15 16 17 rfl rfl rfl rfl rfl) (C2 rfl (A0 (Am (Ai (A2 (Gr (Rad rfl rfl) (Gm rfl (Bi (B8 ((k + 1)) ⟨om, (hs.trans (Ec om (badL_zero om (by first | assumption | exact Classical.not_not.1 asm | exact Classical.byContradiction fun h => c47 (by rw [if_neg h]; decide)) om) (fun h0 => by first | omega | exact (Lk.cmp_lt _ _).1 om | exact Classical.not_not.1 asm)))⟩)))))))))))))))))))))))
   ·exact Bu (As (As (Ba (Ai (Ah (Ga rfl (Af (Ay (Av rfl rfl (I) Az ⟨by rw [show checkS nd xs = 0 from (hs.trans (scanL_end om))], rfl⟩)))))))))
theorem Wrong_ok {κ : Ctx} {I : List Item} {nd kd wd mo nw : Int} {va : Value} {xs : List Lk} (hl : Sl κ I va xs) :
    CallS Tryz.prog κ 131 [.agg #[I64 (nd), va], .agg #[I64 (kd), I64 (wd), I64 (mo)], I64 (nw)] I (fun r J => r = I64 (askE nd xs kd wd mo nw) ∧ I = J) := by
 refine Bz hl.le fun hmax => ?_
 refine Ce3 Tryz.func131 rfl rfl ?_
 refine Ah (Ge1 (Bd (cs := [_, _]) rfl rfl rfl) fun b1 => Ge1 (Bd (cs := [_, _, _]) rfl rfl rfl) fun b2 => Ga rfl (Af (Ax (Ah (Gl3 ty31 ?_)))))
 refine Gc0 (Ap call85 rfl rfl (CheckW7_ok kd wd mo)) ?_
 refine Ga rfl (Af (Ah (Gm rfl (Gr (Be rfl rfl) (Af (A7 rfl (fun c14 => ?_) (fun c14 => ?_)))))))
 ·exact Ah (Gm rfl (Ga rfl (Af (Ay (Ad (Av rfl rfl (I) Az ⟨by rw [show askE nd xs kd wd mo nw = checkW kd wd mo from (by unfold askE; rw [if_pos c14])], rfl⟩))))))
 ·refine A0 (Ai (Ax (Ah (Gl2 ty111 ?_))))
  refine Gc0 (Ap call129 rfl rfl (CheckS5_ok (nd := nd) (Bh hl))) ?_
  refine Ga rfl (Af (Ar (S3 8 3 2 rfl rfl rfl) (Ah (Gm rfl (Gr (Be rfl rfl) (Af (A7 rfl (fun c19 => ?_) (fun c19 => ?_))))))))
  ·exact Ah (Gm rfl (Ga rfl (Af (Ay (Ad (Av rfl rfl (I) Az ⟨by rw [show askE nd xs kd wd mo nw = checkS nd xs from (by unfold askE; rw [if_neg c14, if_pos c19])], rfl⟩))))))
  ·refine A0 (Ai (Ax (Ah (Gm rfl (Gr (Bb rfl rfl) (Gm rfl (A6 (d := 23) rfl (fun g23 => ?_) (fun g23 => ?_))))))))
   ·exact Gpo (Gpo (Gr (Al rfl rfl) (Af (B6 rfl (Ah (Ga rfl (Af (Ay (Ad (Av rfl rfl (I) Az ⟨by rw [show askE nd xs kd wd mo nw = 9 from (by unfold askE; rw [if_neg c14, if_neg c19, if_pos (by first | omega | (simp only [*]; done) | exact .inr (.inr asm) | exact .inr (.inr (List.any_eq_true.2 ⟨_, Ch (i := (k : Int)) om om, decide_eq_true c37⟩)))])], rfl⟩))))))))))
   ·refine Gro (Ac rfl) (Gro (Bt rfl rfl) (Gr (Aj rfl rfl) (Af (A7 rfl (fun c26 => ?_) (fun c26 => ?_)))))
    ·exact Ah (Ga rfl (Af (Ay (Ad (Av rfl rfl (I) Az ⟨by rw [show askE nd xs kd wd mo nw = 9 from (by unfold askE; rw [if_neg c14, if_neg c19, if_pos (by first | omega | (simp only [*]; done) | exact .inr (.inr asm) | exact .inr (.inr (List.any_eq_true.2 ⟨_, Ch (i := (k : Int)) om om, decide_eq_true c37⟩)))])], rfl⟩)))))
    ·refine A0 (Ai (Ax (Ah (Gf fld111_1 rfl (Gl ty109 ?_)))))
     refine Gr (Bs (α := Lk) (xs := xs) Ak rfl (Bh hl)) (Gm rfl (Af (Ar (S4 30 29 28 2 rfl rfl rfl rfl) (A5 (Bx (σ := Nat) (fun s => ([(2, I64 (nw)), (28, va), (29, I64 (((xs.length : Nat) : Int))), (30, I64 (((s : Nat) : Int)))] : Env)) (fun s => blk b2 [I64 (kd), I64 (wd), I64 (mo)] 31 :: blk b1 [I64 (nd), va] 111 :: I) (fun s => (s ≤ xs.length) ∧ (∀ j, j < s → ¬ nw < (at_ xs (j : Int)).tm)) (fun s => xs.length - s) (0) (show ((0 : Nat) ≤ xs.length) ∧ (∀ j, j < (0 : Nat) → ¬ nw < (at_ xs (j : Int)).tm) from ⟨om, all_zero⟩) (Ab rfl (Ab rfl (Ab rfl (Ab Cg Bp)))) (show Fit κ _ (blk b2 [I64 (kd), I64 (wd), I64 (mo)] 31 :: blk b1 [I64 (nd), va] 111 :: I) from A3) ?_)))))
     rintro k hp
     obtain ⟨hk, hn⟩ := hp
     refine Ah (Gr (Bb rfl rfl) (Af (Ax (A7 rfl (fun c31 => ?_) (fun c31 => ?_)))))
     ·refine A0 (Ai (Ax (A5 (Ah (Gr (A8 (α := Lk) (xs := xs) Ak ty146 rfl rfl (Bh hl) om om) (Gr (Bq (α := Lk) (xs := xs) ty146 rfl (Bh hl) om om) (Ge1 (A4 ty146 rfl) fun b3 => Ge0 (Di ty146) ?_)))))))
      refine Af (Ah (Gf fld146_5 rfl (Gl ty3 ?_)))
      refine Gm rfl (Gr (Bt rfl rfl) (Af (A7 rfl (fun c37 => ?_) (fun c37 => ?_))))
      ·exact Ah (Ga rfl (Af (Ay (Au (Ad (Ad (Au (Ad (Av rfl rfl (I) Az ⟨by rw [show askE nd xs kd wd mo nw = 9 from (by unfold askE; rw [if_neg c14, if_neg c19, if_pos (by first | omega | (simp only [*]; done) | exact .inr (.inr asm) | exact .inr (.inr (List.any_eq_true.2 ⟨_, Ch (i := (k : Int)) om om, decide_eq_true c37⟩)))])], rfl⟩)))))))))
      ·exact A0 (Am (Ai (A2 (Gr (Rad rfl rfl) (Gm rfl (Bi (B8 ((k + 1)) ⟨om, (all_succ hn c37)⟩)))))))
     ·exact Bu (As (As (Ba (Ai (Ah (Ga rfl (Af (Ay (Av rfl rfl (I) Az ⟨by rw [show askE nd xs kd wd mo nw = 0 from (by unfold askE; rw [if_neg c14, if_neg c19, if_neg (by rintro (h | h | h) <;> first | omega | (obtain ⟨x, hx, h2⟩ := List.any_eq_true.1 h; obtain ⟨j, hj, rfl⟩ := mem_at hx; exact hn j om (of_decide_eq_true h2)))])], rfl⟩)))))))))
variable {κ : Ctx} {I : List Item}
theorem All1_ok (x : Lk) :
    CallS Tryz.prog κ 295 [.agg #[I64 (x.u), I64 (x.v), I64 (x.w), I64 (x.lb), I64 (x.sg), I64 (x.tm)]] I (fun r J => r = .bool true ∧ I = J) := by
 refine Ce1 Tryz.func295 rfl rfl ?_
 exact Ah (Ge1 (Bd (cs := [_, _, _, _, _, _]) rfl rfl rfl) fun b1 => Ga rfl (Af (Ah (Ga rfl (Af (Ay (Av rfl rfl (I) Az ⟨rfl, rfl⟩)))))))
theorem Age1_ok {b c : Nat} {nw kd wd mo : Int} (hb : BlkRd κ I b [I64 nw] 3) (hc : BlkRd κ I c [I64 kd, I64 wd, I64 mo] 31) (x : Lk) :
    CallS Tryz.prog κ 297 [.agg #[I64 (x.u), I64 (x.v), I64 (x.w), I64 (x.lb), I64 (x.sg), I64 (x.tm)], .pointer (some ⟨b, 0, none⟩), .pointer (some ⟨c, 0, none⟩)] I (fun r J => r = .bool (decide (IntKind.i64.wrap (nw - x.tm) < wd)) ∧ I = J) := by
 refine Ce3 Tryz.func297 rfl rfl ?_
 refine Ah (Ge1 (Bd (cs := [_, _, _, _, _, _]) rfl rfl rfl) fun b1 => Ga rfl (Af (Ah (Gr (Cu ty3 rfl (Cp hb Az) rfl) (Gf fld146_5 rfl (Gl ty3 ?_))))))
 exact Gr (Runs.subw rfl rfl) (Gf fld31_1 rfl (Gr (Cu ty3 rfl (Cp hc Az) rfl) (Gr (Bb rfl rfl) (Ga rfl (Af (Ay (Av rfl rfl (I) Az ⟨rfl, rfl⟩)))))))
theorem flk_yes {p : Lk → Bool} {xs : List Lk} {k : Nat} (hk : k < xs.length) (h : p (at_ xs (k : Int)) = true) : (xs.take (k + 1)).filter p = (xs.take k).filter p ++ [at_ xs (k : Int)] := by
 rw [Cv xs k hk, List.filter_append]; simp [h]
theorem flk_no {p : Lk → Bool} {xs : List Lk} {k : Nat} (hk : k < xs.length) (h : p (at_ xs (k : Int)) = false) : (xs.take (k + 1)).filter p = (xs.take k).filter p := by
 rw [Cv xs k hk, List.filter_append]; simp [h]
theorem Rule1_ok {nd kd wd mo nw : Int} {va : Value} :
    CallS Tryz.prog κ 294 [.agg #[I64 (nd), va], .agg #[I64 (kd), I64 (wd), I64 (mo)], I64 (nw)] I (fun r J => r = .func (.func 295) #[] #[] ∧ I = J) := by
 refine Ce3 Tryz.func294 rfl rfl ?_
 exact Ah (Ge1 (Bd (cs := [_, _]) rfl rfl rfl) fun b1 => Ge1 (Bd (cs := [_, _, _]) rfl rfl rfl) fun b2 => Ga rfl (Af (Ah (Ga rfl (Af (Ay (Av rfl rfl (I) Az ⟨rfl, rfl⟩)))))))
theorem Rule2_ok {nd kd wd mo nw : Int} {va : Value} :
    CallS Tryz.prog κ 296 [.agg #[I64 (nd), va], .agg #[I64 (kd), I64 (wd), I64 (mo)], I64 (nw)] I (fun r J => ∃ b c, r = .func (.func 297) #[] #[.pointer (some ⟨b, 0, none⟩), .pointer (some ⟨c, 0, none⟩)] ∧ J = blk b [I64 nw] 3 :: blk c [I64 kd, I64 wd, I64 mo] 31 :: I) := by
 refine Ce3 Tryz.func296 rfl rfl ?_
 exact Ah (Ge1 (Bd (cs := [_, _]) rfl rfl rfl) fun b1 => Ge1 (Bd (cs := [_, _, _]) rfl rfl rfl) fun b2 => Ge1 (Bd (cs := [_]) rfl rfl rfl) fun b3 => Ga rfl (Af (Ah (Gr (D1 rfl rfl) (Ga rfl (Af (Ay (Av rfl rfl (blk b3 [I64 (nw)] 3 :: blk b2 [I64 (kd), I64 (wd), I64 (mo)] 31 :: I) A3 ⟨b3, b2, rfl, rfl⟩))))))))
theorem Rules_ok  :
    CallS Tryz.prog κ 253 [] I (fun r J => ∃ m, r = .map (some m) ∧ J = mp m [({ key := I64 (1), val := .func (.func 294) #[] #[], born := 0 } : MapEntry), ({ key := I64 (2), val := .func (.func 296) #[] #[], born := 1 } : MapEntry), ({ key := I64 (3), val := .func (.func 298) #[] #[], born := 2 } : MapEntry)] 3 :: I) := by
 refine Ce0 Tryz.func253 rfl rfl ?_
 refine Ah (Ga rfl (Af (Ah (Ge1 (Eff.makeMap rfl) fun mr1 => ?_))))
 refine Ge0 (Cq C8 Bl rfl rfl rfl rfl rfl am) ?_
 refine Ge0 (Cq C8 Bl rfl rfl rfl rfl rfl am) ?_
 refine Ge0 (Cq C8 Bl rfl rfl rfl rfl rfl am) ?_
 exact Gm rfl (Ga rfl (Af (Ay (Av rfl rfl (mp mr1 [({ key := I64 (1), val := .func (.func 294) #[] #[], born := 0 } : MapEntry), ({ key := I64 (2), val := .func (.func 296) #[] #[], born := 1 } : MapEntry), ({ key := I64 (3), val := .func (.func 298) #[] #[], born := 2 } : MapEntry)] 3 :: I) A3 ⟨mr1, rfl, rfl⟩))))
variable {κ : Ctx} {I : List Item}
def Lk.lcmp (a c : Lk) : Int := orL [cmpI c.tm a.tm, Lk.cmp c a]
def Lk.late (a c : Lk) : Prop := c.tm < a.tm ∨ (a.tm = c.tm ∧ Lk.lt c a)
instance : DecidableRel Lk.late := fun a c => by unfold Lk.late; infer_instance
theorem Lk.lcmp_lt (a c : Lk) : Lk.lcmp a c < 0 ↔ Lk.late a c := by
 unfold Lk.lcmp Lk.late
 rw [← Lk.cmp_lt]
 simp only [orL, cmpI]
 generalize Lk.cmp c a = z
 (repeat' split) <;> omega
def SortedK (xs ys : List Lk) : Prop := ys.Perm xs ∧ ys.Pairwise fun a b => ¬ Lk.late b a
open Go.Proofs Go.Shelf Go.Sort in
theorem swo_lk : SWO (ltOf Lk.lcmp) where
 irrefl x := decide_eq_false fun h => by rw [Lk.lcmp_lt] at h; unfold Lk.late Lk.lt Pt.lt Lk.p at h; simp only at h; omega
 trans x y z h1 h2 := decide_eq_true (by
  have a := of_decide_eq_true h1
  have b := of_decide_eq_true h2
  rw [Lk.lcmp_lt] at a b ⊢
  unfold Lk.late Lk.lt Pt.lt Lk.p at a b ⊢
  simp only at a b ⊢
  omega)
 ntrans x y z h1 h2 := decide_eq_false fun h => by
  have a := of_decide_eq_false h1
  have b := of_decide_eq_false h2
  rw [Lk.lcmp_lt] at a b h
  unfold Lk.late Lk.lt Pt.lt Lk.p at a b h
  simp only at a b h
  omega
theorem CloneL {a : Option Addr} {c : Nat} {xs : List Lk} (hl : Sl κ I (.slice a xs.length c) xs) (hb : xs.length ≤ 1000000000) :
    CallS Tryz.prog κ 216 [.slice a xs.length c] I (fun r J => ∃ a' c', r = .slice a' xs.length c' ∧ J = vc 146 (.slice a' xs.length c') xs :: I) := by
 refine Bz (p := a.isNone = true → xs = [] ∧ c = 0) (fun w hs hn => hl.isNone w hs hn) fun hnone => ?_
 refine Ce1 Tryz.func216 rfl rfl ?_
 refine Ah (Ga rfl (Af (Ax (Ah (Gm rfl (Gr (Runs.eqnil Ak rfl rfl) (Af (Ed rfl (fun c4 => ?_) (fun c4 => ?_)))))))))
 ·refine Ah (Ga rfl (Af (Ay (Ad ?_))))
  obtain ⟨hx0, _⟩ := hnone c4
  subst hx0
  exact Av rfl rfl (vc 146 (.slice none ([] : List Lk).length 0) ([] : List Lk) :: I) (Bv _ _) ⟨none, 0, rfl, rfl⟩
 ·refine A0 (Ai (Ah (Ge1 (Eff.bs0 (α := Lk) Ak ty146 rfl) fun ad1 => ?_)))
  refine Gm rfl (Ge2 (B5 (α := Lk) (e := 146) (xs := ([] : List Lk)) (ys := xs) Ak ty146 rfl rfl rfl mm (Bh hl) (by simp only [List.length_nil]; omega) dc rfl (fun _ _ => am)) fun ad2 cp3 => ?_)
  exact Ga rfl (Af (Ay (Av rfl rfl (vc 146 (.slice ad2 xs.length cp3) xs :: I) A3 ⟨ad2, cp3, rfl, rfl⟩)))
theorem LastCmp_ok (a c : Lk) :
    CallS Tryz.prog κ 322 [.agg #[I64 (a.u), I64 (a.v), I64 (a.w), I64 (a.lb), I64 (a.sg), I64 (a.tm)], .agg #[I64 (c.u), I64 (c.v), I64 (c.w), I64 (c.lb), I64 (c.sg), I64 (c.tm)]] I (fun r J => r = I64 (Lk.lcmp a c) ∧ I = J) := by
 refine Ce2 Tryz.func322 rfl rfl ?_
 refine Ah (Ge1 (Bd (cs := [_, _, _, _, _, _]) rfl rfl rfl) fun b1 => Ge1 (Bd (cs := [_, _, _, _, _, _]) rfl rfl rfl) fun b2 => Ga rfl (Af (Ax (Bj mixed (Br (blk b2 [I64 (c.u), I64 (c.v), I64 (c.w), I64 (c.lb), I64 (c.sg), I64 (c.tm)] 146 :: blk b1 [I64 (a.u), I64 (a.v), I64 (a.w), I64 (a.lb), I64 (a.sg), I64 (a.tm)] 146 :: I) 10 (Dr 0 rfl (Aa fld146_5 rfl) (Dr 1 rfl (Aq ty3) ?_)))))))
 refine Dr 2 rfl (Aa fld146_5 rfl) (Dr 3 rfl (Aq ty3) ?_)
 refine Dr 5 rfl (Bk (vs := [_, _, _, _, _, _]) ty146) ?_
 refine Dr 6 rfl (Bk (vs := [_, _, _, _, _, _]) ty146) ?_
 refine Ds1 4 (Sc0 rfl (Ap call225 rfl rfl (Compare_ok c.tm a.tm)) ?_)
 refine Ds1 7 (Sc0 rfl (Ap call255 rfl rfl (OrderL_ok c a)) ?_)
 refine Ds1 8 (Se1 rfl (B0 (α := Int) (cs := [_, _]) (xs := [cmpI c.tm a.tm, Lk.cmp c a]) Ao ty3 rfl rfl dc dc rfl rfl rfl rfl) fun ad3 => ?_)
 refine Ds1 9 (Sc0 rfl (Ap call224 rfl rfl (Or_ok Bo)) ?_)
 refine Db kr ?_
 refine A.read (i := 10) kr rfl (B9 rfl) rfl rfl (A9 rfl) ?_
 refine Dc kr ?_
 exact Ai (Ar (S1 4 rfl) (Ay (Av rfl rfl (I) Az ⟨rfl, rfl⟩)))
open Go.Proofs Go.Shelf Go.Sort in
theorem SortK_ok {κ : Ctx} {I : List Item} {a : Option Addr} {c : Nat} {xs : List Lk} (hsz : xs.length < 1000000000) :
  CallS Tryz.prog κ 321 [.slice a xs.length c, .func (.func 322) #[] #[]] (vc 146 (.slice a xs.length c) xs :: I) fun r J => ∃ ys : List Lk, (r = .tuple #[] ∧ SortedK xs ys ∧ ys.length = xs.length) ∧ J = [] ++ vc 146 (.slice a xs.length c) ys :: I :=
 (sort_any (α := Lk) (ρ := Tryz.sort321_ren) Tryz.sort321 Tryz.isAgg146 Tryz.sizeOf146 Lk.lcmp swo_lk 322 #[] (enters_of Tryz.func322 (by kernel_rfl) rfl) (fun x y W => lays_of (LastCmp_ok x y)) om).mono fun r J ⟨ys, ⟨h1, h2, h3⟩, h4⟩ =>
  ⟨ys, ⟨h1, ⟨h2, h3.imp fun {a b} h => by rw [← Lk.lcmp_lt]; exact of_decide_eq_false h⟩, h2.length_eq⟩, by rw [h4, h2.length_eq]⟩
theorem SortK_at {F : Item → List Item} {a : Option Addr} {n c : Nat} {xs : List Lk} (hat : AtF I (vc 146 (.slice a n c) xs) F) (hn : xs.length = n) (hsz : xs.length < 1000000000) :
  CallS Tryz.prog κ 321 [.slice a n c, .func (.func 322) #[] #[]] I fun r J => ∃ ys : List Lk, (r = .tuple #[] ∧ SortedK xs ys ∧ ys.length = n) ∧ J = [] ++ F (vc 146 (.slice a n c) ys) :=
 D5 (Z := fun _ => []) (X := fun ys : List Lk => vc 146 (.slice a n c) ys) (Post := fun r ys => r = .tuple #[] ∧ SortedK xs ys ∧ ys.length = n) hat fun J _ _ => by subst hn; exact SortK_ok hsz
theorem Last_ok {nd mo : Int} {a0 : Option Addr} {c0 : Nat} {xs : List Lk} (hl : Sl κ I (.slice a0 xs.length c0) xs) (h0 : 0 ≤ mo) (hsz : xs.length ≤ 1000000) :
    CallS Tryz.prog κ 299 [.agg #[I64 (nd), .slice a0 xs.length c0], I64 (mo)] I (fun r J => ∃ (a : Option Addr) (c : Nat) (ys : List Lk) (m : Nat), r = .slice a (List.take m ys).length c ∧ (SortedK xs ys ∧ ys.length = xs.length ∧ (m : Int) ≤ mo ∧ m ≤ xs.length ∧ ((m : Int) = mo ∨ m = xs.length)) ∧ J = vc 146 (.slice a xs.length c) ys :: I) := by
 refine Ce2 Tryz.func299 rfl rfl ?_
 refine Ah (Ge1 (Bd (cs := [_, _]) rfl rfl rfl) fun b1 => Ga rfl (Af (Ah (Gf fld111_1 rfl (Gl ty109 ?_)))))
 refine G.e (Ap call216 rfl rfl (CloneL (xs := xs) (Bh hl) om)) ?_
 rintro _ _ ⟨_, _, ⟨ad2, cp3, rfl, rfl⟩, rfl, rfl⟩
 refine Ga rfl (Af (Ah (Gm rfl (G.e (Ap call321 rfl rfl (SortK_at (by repeat (first | exact AtF.head _ _ | apply AtF.tail)) rfl om)) ?_))))
 rintro _ _ ⟨_, _, ⟨ys4, ⟨rfl, hsys4, hlys4⟩, rfl⟩, rfl, rfl⟩
 show G Tryz.prog κ _ _ _ _ ([(10, .tuple #[]), (9, .slice ad2 xs.length cp3), (5, .slice ad2 xs.length cp3), (8, .slice ad2 xs.length cp3), (7, .slice a0 xs.length c0), (6, .pointer (some ⟨b1, 1, none⟩)), (4, .slice none 0 0), (2, .pointer (some ⟨b1, 0, none⟩)), (0, .agg #[I64 (nd), .slice a0 xs.length c0]), (1, I64 (mo))] : Env) (vc 146 (.slice ad2 xs.length cp3) (ys4) :: blk b1 [I64 (nd), .slice a0 xs.length c0] 111 :: I)
 refine Af (Ah (Gm rfl (Gm rfl (Gm rfl (Gr (B2 Ak rfl) (Gr (Runs.min rfl rfl) (Gr (Runs.hi (α := Lk) (xs := ys4) (h := (if ((xs.length : Nat) : Int) < mo then ((xs.length : Nat) : Int) else mo).toNat) Ak ty146 rfl rfl om Bo (by split <;> omega)) (Ga rfl (Af (Ar (S1 4 rfl) (Ay ?_)))))))))))
 have hmn : (((((if ((xs.length : Nat) : Int) < mo then ((xs.length : Nat) : Int) else mo).toNat)) : Nat) : Int) ≤ mo ∧ (((if ((xs.length : Nat) : Int) < mo then ((xs.length : Nat) : Int) else mo).toNat)) ≤ xs.length ∧ ((((((if ((xs.length : Nat) : Int) < mo then ((xs.length : Nat) : Int) else mo).toNat)) : Nat) : Int) = mo ∨ (((if ((xs.length : Nat) : Int) < mo then ((xs.length : Nat) : Int) else mo).toNat)) = xs.length) := by split <;> omega
 exact Av rfl rfl (vc 146 (.slice ad2 xs.length cp3) (ys4) :: I) A3 ⟨ad2, cp3, ys4, ((if ((xs.length : Nat) : Int) < mo then ((xs.length : Nat) : Int) else mo).toNat), rfl, ⟨hsys4, hlys4, hmn⟩, rfl⟩
theorem IndexL_ok {v : Value} {xs : List Lk} (hl : Sl κ I v xs) (x : Lk) :
    CallS Tryz.prog κ 323 [v, .agg #[I64 (x.u), I64 (x.v), I64 (x.w), I64 (x.lb), I64 (x.sg), I64 (x.tm)]] I (fun r J => ∃ y : Int, r = I64 y ∧ (0 ≤ y ↔ x ∈ xs) ∧ I = J) := by
 refine Bz hl.le fun hmax => ?_
 refine Ce2 Tryz.func323 rfl rfl ?_
 refine Ah (Ge1 (Bd (cs := [_, _, _, _, _, _]) rfl rfl rfl) fun b1 => Ga rfl (Af (Ax (Ah (Gm rfl (Gr (Bs (α := Lk) (xs := xs) Ak rfl (Bh hl)) (Gm rfl (Af (A5 (Bx (σ := Nat) (fun s => ([(0, v), (3, .pointer (some ⟨b1, 0, none⟩)), (7, I64 (((xs.length : Nat) : Int))), (8, I64 (((s : Nat) : Int)))] : Env)) (fun s => blk b1 [I64 (x.u), I64 (x.v), I64 (x.w), I64 (x.lb), I64 (x.sg), I64 (x.tm)] 146 :: I) (fun s => (s ≤ xs.length) ∧ (∀ j, j < s → at_ xs (j : Int) ≠ x)) (fun s => xs.length - s) (0) (show ((0 : Nat) ≤ xs.length) ∧ (∀ j, j < (0 : Nat) → at_ xs (j : Int) ≠ x) from ⟨om, all_zero⟩) (Ab rfl (Ab rfl (Ab rfl (Ab Cg Bp)))) (show Fit κ _ (blk b1 [I64 (x.u), I64 (x.v), I64 (x.w), I64 (x.lb), I64 (x.sg), I64 (x.tm)] 146 :: I) from A3) ?_))))))))))
 rintro k hp
 obtain ⟨hk, hn⟩ := hp
 refine Ah (Gr (Bb rfl rfl) (Af (Ax (A7 rfl (fun c9 => ?_) (fun c9 => ?_)))))
 ·refine A0 (Ai (Ax (A5 (Ah (Gm rfl (Ga rfl (Af (Ax (Bj mixed (Br (blk b1 [I64 (x.u), I64 (x.v), I64 (x.w), I64 (x.lb), I64 (x.sg), I64 (x.tm)] 146 :: I) 6 (Dr 0 rfl (Bk (vs := [_, _, _, _, _, _]) ty146) ?_)))))))))))
  refine Dr 1 rfl (Ac rfl) (Dr 2 rfl (Ac rfl) (Dr 3 rfl (A8 (α := Lk) (xs := xs) Ak ty146 rfl rfl (Bh hl) om om) (Dr 4 rfl (Bq (α := Lk) (xs := xs) ty146 rfl (Bh hl) om om) (Dr 5 rfl (Runs.eqlT (α := Lk) (a := x) (b := (at_ xs (k : Int))) eqt146 rfl rfl) (Dz (Ai (A7 rfl (fun c16 => ?_) (fun c16 => ?_))))))))
  ·refine Ah (Gm rfl (Ga rfl (Af (Ar (S1 4 rfl) (Ay (Au (Ad (Ad (Au (Ad ?_))))))))))
   have hm : x ∈ xs := by rw [show x = at_ xs (k : Int) from c16]; exact Ch om om
   exact Av rfl rfl (I) Az ⟨_, rfl, ⟨fun _ => hm, fun _ => by omega⟩, rfl⟩
  ·exact A0 (Am (Ai (A2 (Gr (Rad rfl rfl) (Gm rfl (Bi (B8 ((k + 1)) ⟨om, (all_succ hn (fun e => c16 e.symm))⟩)))))))
 ·refine Bu (As (As (Ba (Ai (Ah (Ga rfl (Af (Ay ?_))))))))
  have hm : x ∉ xs := not_mem_at hn om
  exact Av rfl rfl (I) Az ⟨_, rfl, ⟨fun h => absurd h dc, fun h => absurd h hm⟩, rfl⟩
theorem ContainsL_ok {v : Value} {xs : List Lk} (hl : Sl κ I v xs) (x : Lk) :
    CallS Tryz.prog κ 301 [v, .agg #[I64 (x.u), I64 (x.v), I64 (x.w), I64 (x.lb), I64 (x.sg), I64 (x.tm)]] I (fun r J => r = .bool (decide (x ∈ xs)) ∧ I = J) := by
 refine Ce2 Tryz.func301 rfl rfl ?_
 refine Ah (Ge1 (Bd (cs := [_, _, _, _, _, _]) rfl rfl rfl) fun b1 => Ga rfl (Af (Ah (Gm rfl (Gl6 ty146 ?_)))))
 refine G.e (Ap call323 rfl rfl (IndexL_ok (Bh hl) x)) ?_
 rintro _ _ ⟨_, _, ⟨y2, rfl, hy2, rfl⟩, rfl, rfl⟩
 exact Gr (B7 rfl rfl) (Ga rfl (Af (Ay (Av rfl rfl (I) Az ⟨by rw [decide_eq_decide.2 asm], rfl⟩))))
theorem Last1_ok {b : Nat} {v : Value} {zs : List Lk} (hb : BlkRd κ I b [v] 109) (hz : Sl κ I v zs) (x : Lk) :
    CallS Tryz.prog κ 300 [.agg #[I64 (x.u), I64 (x.v), I64 (x.w), I64 (x.lb), I64 (x.sg), I64 (x.tm)], .pointer (some ⟨b, 0, none⟩)] I (fun r J => r = .bool (decide (x ∈ zs)) ∧ I = J) := by
 refine Ce2 Tryz.func300 rfl rfl ?_
 refine Ah (Ge1 (Bd (cs := [_, _, _, _, _, _]) rfl rfl rfl) fun b1 => Ga rfl (Af (Ah (Gr (Cu ty109 rfl (Cp hb Az) rfl) (Gl6 ty146 ?_)))))
 refine Gc0 (Ap call301 rfl rfl (ContainsL_ok (Bh hz) x)) ?_
 exact Ga rfl (Af (Ay (Av rfl rfl (I) Az ⟨rfl, rfl⟩)))
theorem Rule3_ok {nd kd wd mo nw : Int} {a0 : Option Addr} {c0 : Nat} {xs : List Lk} (hl : Sl κ I (.slice a0 xs.length c0) xs) (h0 : 0 ≤ mo) (hsz : xs.length ≤ 1000000) :
    CallS Tryz.prog κ 298 [.agg #[I64 (nd), .slice a0 xs.length c0], .agg #[I64 (kd), I64 (wd), I64 (mo)], I64 (nw)] I (fun r J => ∃ (b : Nat) (a : Option Addr) (c : Nat) (ys : List Lk) (m : Nat), r = .func (.func 300) #[] #[.pointer (some ⟨b, 0, none⟩)] ∧ (SortedK xs ys ∧ ys.length = xs.length ∧ (m : Int) ≤ mo ∧ m ≤ xs.length ∧ ((m : Int) = mo ∨ m = xs.length)) ∧ J = blk b [.slice a (List.take m ys).length c] 109 :: vc 146 (.slice a xs.length c) ys :: I) := by
 refine Ce3 Tryz.func298 rfl rfl ?_
 refine Ah (Ge1 (Bd (cs := [_, _]) rfl rfl rfl) fun b1 => Ge1 (Bd (cs := [_, _, _]) rfl rfl rfl) fun b2 => Ga rfl (Af (Ah (Gl2 ty111 ?_))))
 refine Gf fld31_2 rfl (Gl ty3 ?_)
 refine G.e (Ap call299 rfl rfl (Last_ok (nd := nd) (Bh hl) h0 om)) ?_
 rintro _ _ ⟨_, _, ⟨ad3, cp4, ys5, mm6, rfl, hzys5, rfl⟩, rfl, rfl⟩
 refine Ge1 (A4 ty109 rfl) fun b7 => Ge0 (Da (cs := [_]) (vs := [_]) (cs' := [_]) ty109) ?_
 exact Af (Ah (Gr (D1 rfl rfl) (Ga rfl (Af (Ay (Av rfl rfl (blk b7 [.slice ad3 (List.take mm6 ys5).length cp4] 109 :: vc 146 (.slice ad3 xs.length cp4) (ys5) :: I) A3 ⟨b7, ad3, cp4, ys5, mm6, rfl, hzys5, rfl⟩))))))
end Go.Sl
/- Windows: what is present. The plain laws. No Go. No conditions. -/
namespace Go.Sl
theorem scan0 {n : Int} : ∀ (xs : List Lk) (q : Lk), scanL (badL n) Lk.lt (some q) xs = 0 → (∀ x ∈ xs, badL n x = 0) ∧ (q :: xs).Pairwise Lk.lt
 | [], q, _ => by simp
 | p :: ps, q, h => by
  simp only [scanL] at h
  by_cases hb : badL n p = 0
  ·rw [if_neg (by simp [hb])] at h
   by_cases hl : Lk.lt q p
   ·rw [if_pos hl] at h
    obtain ⟨h1, h2⟩ := scan0 ps p h
    refine ⟨fun x hx => ?_, List.pairwise_cons.2 ⟨fun x hx => ?_, h2⟩⟩
    ·rcases List.mem_cons.1 hx with rfl | hx
     ·exact hb
     ·exact h1 x hx
    ·rcases List.mem_cons.1 hx with rfl | hx
     ·exact hl
     ·exact Pt.lin.tr _ _ _ hl ((List.pairwise_cons.1 h2).1 x hx)
   ·rw [if_neg hl] at h; cases h
  ·rw [if_pos hb] at h; exact absurd h hb
theorem checkS_ok {n : Int} {xs : List Lk} (h : checkS n xs = 0) : (0 ≤ n ∧ n ≤ 64) ∧ (∀ x ∈ xs, badL n x = 0) ∧ xs.Pairwise Lk.lt := by
 unfold checkS at h
 by_cases hn : n < 0 ∨ 64 < n
 ·rw [if_pos hn] at h; cases h
 ·rw [if_neg hn] at h
  refine ⟨by omega, ?_⟩
  cases xs with
  | nil => exact ⟨(fun x hx => by cases hx), List.Pairwise.nil⟩
  | cons p ps =>
   simp only [scanL] at h
   by_cases hb : badL n p = 0
   ·rw [if_neg (by simp [hb])] at h
    obtain ⟨h1, h2⟩ := scan0 ps p h
    exact ⟨fun x hx => by
     rcases List.mem_cons.1 hx with rfl | hx
     ·exact hb
     ·exact h1 x hx, h2⟩
   ·rw [if_pos hb] at h; exact absurd h hb
theorem badL_tm {n : Int} {l : Lk} (h : badL n l = 0) : 0 ≤ l.tm ∧ l.tm ≤ 1048576 := by
 unfold badL at h
 split at h
 ·cases h
 ·split at h
  ·cases h
  ·split at h
   ·cases h
   ·omega
structure AskOk (nd : Int) (xs : List Lk) (kd wd mo nw : Int) : Prop where
 kind : 1 ≤ kd ∧ kd ≤ 3
 width : kd = 2 → 1 ≤ wd ∧ wd ≤ 1048576
 most : kd = 3 → 0 ≤ mo ∧ mo ≤ 2016
 nodes : 0 ≤ nd ∧ nd ≤ 64
 asc : xs.Pairwise Lk.lt
 now : 0 ≤ nw ∧ nw ≤ 1048576
 tm : ∀ x ∈ xs, 0 ≤ x.tm ∧ x.tm ≤ nw
theorem askE_ok {nd : Int} {xs : List Lk} {kd wd mo nw : Int} (h : askE nd xs kd wd mo nw = 0) : AskOk nd xs kd wd mo nw := by
 unfold askE at h
 by_cases h1 : checkW kd wd mo = 0
 ·rw [if_neg (by simp [h1])] at h
  by_cases h2 : checkS nd xs = 0
  ·rw [if_neg (by simp [h2])] at h
   obtain ⟨h3, h4, h5⟩ := checkS_ok h2
   split at h
   ·cases h
   ·rename_i h6
    have hw : (1 ≤ kd ∧ kd ≤ 3) ∧ (kd = 2 → 1 ≤ wd ∧ wd ≤ 1048576) ∧ (kd = 3 → 0 ≤ mo ∧ mo ≤ 2016) := by
     unfold checkW at h1
     split at h1
     ·cases h1
     ·split at h1
      ·cases h1
      ·omega
    refine ⟨hw.1, hw.2.1, hw.2.2, h3, h5, by omega, fun x hx => ?_⟩
    have h7 := badL_tm (h4 x hx)
    refine ⟨h7.1, ?_⟩
    by_cases h8 : nw < x.tm
    ·exact absurd (.inr (.inr (List.any_eq_true.2 ⟨x, hx, decide_eq_true h8⟩))) h6
    ·omega
  ·rw [if_pos h2] at h; exact absurd h h2
 ·rw [if_pos h1] at h; exact absurd h h1
def rankL (xs : List Lk) (x : Lk) : Nat := (xs.filter fun y => decide (Lk.late y x)).length
def inW (kd wd mo nw : Int) (xs : List Lk) (x : Lk) : Bool := if kd = 2 then decide (nw - x.tm < wd) else if kd = 3 then decide ((rankL xs x : Int) < mo) else true
theorem late_irr (x : Lk) : ¬ Lk.late x x := by unfold Lk.late Lk.lt Pt.lt; omega
theorem late_asymm {x y : Lk} (h : Lk.late x y) : ¬ Lk.late y x := by unfold Lk.late Lk.lt Pt.lt at *; omega
theorem rank_at : ∀ (ys : List Lk) (i : Nat) (hi : i < ys.length), ys.Pairwise Lk.late → rankL ys ys[i] = i
 | [], i, hi, _ => absurd hi (by simp)
 | y :: ys, 0, hi, hp => by
  obtain ⟨h1, h2⟩ := List.pairwise_cons.1 hp
  unfold rankL
  rw [List.filter_eq_nil_iff.2 fun z hz => ?_]
  ·rfl
  ·simp only [List.getElem_cons_zero, decide_eq_true_eq]
   rcases List.mem_cons.1 hz with rfl | hz
   ·exact late_irr _
   ·exact late_asymm (h1 z hz)
 | y :: ys, i + 1, hi, hp => by
  obtain ⟨h1, h2⟩ := List.pairwise_cons.1 hp
  have hi' : i < ys.length := by simpa using hi
  have ih := rank_at ys i hi' h2
  unfold rankL at ih ⊢
  rw [List.getElem_cons_succ, List.filter_cons, if_pos (decide_eq_true (h1 _ (List.getElem_mem hi'))), List.length_cons, ih]
theorem sortedK_late {xs ys : List Lk} (h : SortedK xs ys) (ha : xs.Pairwise Lk.lt) : ys.Pairwise Lk.late := by
 have h1 : xs.Pairwise fun a b => Lk.late a b ∨ Lk.late b a := ha.imp fun {a b} hab => by unfold Lk.late Lk.lt Pt.lt at *; omega
 have h2 : ys.Pairwise fun a b => Lk.late a b ∨ Lk.late b a := (h.1.pairwise_iff fun {x y} hxy => hxy.symm).2 h1
 exact (h2.and h.2).imp fun {a b} hab => hab.1.resolve_right hab.2
theorem take_rank {xs ys : List Lk} (h : SortedK xs ys) (ha : xs.Pairwise Lk.lt) {x : Lk} (hx : x ∈ xs) (m : Nat) : x ∈ ys.take m ↔ rankL xs x < m := by
 have hp := sortedK_late h ha
 have hr : ∀ z, rankL xs z = rankL ys z := fun z => by unfold rankL; exact ((h.1.filter _).length_eq).symm
 constructor
 ·intro hm
  obtain ⟨j, hj, he⟩ := List.mem_take_iff_getElem.1 hm
  rw [hr, ← he, rank_at ys j om hp]; omega
 ·intro hm
  obtain ⟨j, hj, he⟩ := List.getElem_of_mem (h.1.mem_iff.2 hx)
  rw [hr, ← he, rank_at ys j hj hp] at hm
  exact List.mem_take_iff_getElem.2 ⟨j, by omega, he⟩
theorem inW_all {kd wd mo nw : Int} {xs : List Lk} (hk : kd = 1) : (xs.filter fun _ => true) = xs.filter (inW kd wd mo nw xs) :=
 List.filter_congr fun x hx => by unfold inW; rw [if_neg om, if_neg om]
theorem inW_age {nd kd wd mo nw : Int} {xs : List Lk} (h : AskOk nd xs kd wd mo nw) (hk : kd = 2) : (xs.filter fun x => decide (IntKind.i64.wrap (nw - x.tm) < wd)) = xs.filter (inW kd wd mo nw xs) :=
 List.filter_congr fun x hx => by
  have h1 := h.tm x hx
  have h2 := h.now
  unfold inW; rw [if_pos hk, InR.wrap (by unfold InR; omega)]
theorem inW_last {nd kd wd mo nw : Int} {xs ys : List Lk} {m : Nat} (h : AskOk nd xs kd wd mo nw) (hk : kd = 3) (hs : SortedK xs ys ∧ ys.length = xs.length ∧ (m : Int) ≤ mo ∧ m ≤ xs.length ∧ ((m : Int) = mo ∨ m = xs.length)) :
  (xs.filter fun x => decide (x ∈ ys.take m)) = xs.filter (inW kd wd mo nw xs) :=
 List.filter_congr fun x hx => by
  unfold inW; rw [if_neg om, if_pos hk, decide_eq_decide, take_rank hs.1 h.asc hx]
  have hlt : rankL xs x < xs.length := by
   have h1 := List.length_filter_le (fun y => decide (Lk.late y x)) xs
   obtain ⟨j, hj, he⟩ := List.getElem_of_mem (hs.1.1.mem_iff.2 hx)
   have h2 : rankL xs x = j := by
    have : rankL xs x = rankL ys x := by unfold rankL; exact ((hs.1.1.filter _).length_eq).symm
    rw [this, ← he, rank_at ys j hj (sortedK_late hs.1 h.asc)]
   omega
  omega
theorem late_ix {xs : List Lk} (ha : xs.Pairwise Lk.lt) {i j : Nat} (hi : i < xs.length) (hj : j < xs.length) : Lk.late (at_ xs (j : Int)) (at_ xs (i : Int)) ↔ ((at_ xs (i : Int)).tm < (at_ xs (j : Int)).tm ∨ ((at_ xs (j : Int)).tm = (at_ xs (i : Int)).tm ∧ i < j)) := by
 unfold Lk.late
 have key : Lk.lt (at_ xs (i : Int)) (at_ xs (j : Int)) ↔ i < j := by
  constructor
  ·intro h
   rcases Nat.lt_trichotomy i j with h1 | h1 | h1
   ·exact h1
   ·subst h1; exact absurd h (Pt.lin.irr _)
   ·exact absurd (Pt.lin.tr _ _ _ h ((pairwise_at xs).1 ha j i h1 hi)) (Pt.lin.irr _)
  ·intro h; exact (pairwise_at xs).1 ha i j h hj
 rw [key]
end Go.Sl
namespace Go.Sl
open Go.Proofs
set_option maxRecDepth 4000
variable {κ : Ctx} {I : List Item}
theorem In7_ok {nd kd wd mo nw : Int} {va : Value} {xs : List Lk} (hl : Sl κ I va xs) {i : Nat} (hi : i < xs.length) (hA : AskOk nd xs kd wd mo nw) :
    CallS Tryz.prog κ 132 [.agg #[I64 (nd), va], .agg #[I64 (kd), I64 (wd), I64 (mo)], I64 (nw), I64 ((i : Int))] I (fun r J => r = .bool (inW kd wd mo nw xs (at_ xs (i : Int))) ∧ I = J) := by
 refine Bz hl.le fun hmax => ?_
 have hti := hA.tm _ (Ch (xs := xs) (i := (i : Int)) om om)
 have hnow := hA.now
 refine Ce4 Tryz.func132 rfl rfl ?_
 refine Ah (Ge1 (Bd (cs := [_, _]) rfl rfl rfl) fun b1 => Ge1 (Bd (cs := [_, _, _]) rfl rfl rfl) fun b2 => Ga rfl (Af (Ax (Ah (Gf fld31_0 rfl (Gl ty3 ?_))))))
 refine Af (A5 (Ah (Gr (Bf rfl rfl) (Ga rfl (Af (A7 rfl (fun c14 => ?_) (fun c14 => ?_)))))))
 ·refine Ax (Bj mixed (Br (blk b2 [I64 (kd), I64 (wd), I64 (mo)] 31 :: blk b1 [I64 (nd), va] 111 :: I) 12 (Dr 0 rfl (Ac rfl) (Dr 1 rfl (Aa fld111_1 rfl) (Dr 2 rfl (Aq ty109) ?_)))))
  refine Dr 3 rfl (Ac rfl) (Dr 4 rfl (A8 (α := Lk) (xs := xs) Ak ty146 rfl rfl (Bh hl) om om) (Dr 5 rfl (C3 (α := Lk) (xs := xs) fld146_5 rfl (Bh hl) om) (Dr 6 rfl (De (α := Lk) (xs := xs) (u := I64 ((at_ xs (i : Int)).tm)) ty3 rfl (Bh hl) om om rfl) (Dr 7 rfl (Rsu rfl rfl) (Dr 8 rfl (Aa fld31_1 rfl) (Dr 9 rfl (Aq ty3) ?_))))))
  exact Dr 10 rfl (Bb rfl rfl) (Dr 11 rfl (A9 rfl) (Dz (Ai (Ar (S1 8 rfl) (Ay (Au (Ad (Av rfl rfl (I) Az ⟨by unfold inW; rw [if_pos c14], rfl⟩))))))))
 ·refine Ah (Gr (Bf rfl rfl) (Ga rfl (Af (A7 rfl (fun c27 => ?_) (fun c27 => ?_)))))
  ·refine Ah (Ga rfl (Af (Ar (S4 9 5 4 3 rfl rfl rfl rfl) (Ax (Ah (Gf fld111_1 rfl (Gl ty109 ?_)))))))
   refine Gr (Bs (α := Lk) (xs := xs) Ak rfl (Bh hl)) (Gm rfl (Af (A5 (Bx (σ := Nat × Int) (fun s => ([(3, I64 ((i : Int))), (4, .pointer (some ⟨b1, 0, none⟩)), (5, .pointer (some ⟨b2, 0, none⟩)), (9, I64 (s.2)), (30, va), (31, I64 (((xs.length : Nat) : Int))), (32, I64 (((s.1 : Nat) : Int)))] : Env)) (fun s => blk b2 [I64 (kd), I64 (wd), I64 (mo)] 31 :: blk b1 [I64 (nd), va] 111 :: I) (fun s => (s.1 ≤ xs.length) ∧ (s.2 = ((((xs.take s.1).filter (fun y => decide (Lk.late y (at_ xs (i : Int))))).length : Nat) : Int))) (fun s => xs.length - s.1) (0, 0) (show ((0 : Nat) ≤ xs.length) ∧ ((0 : Int) = ((((xs.take (0 : Nat)).filter (fun y => decide (Lk.late y (at_ xs (i : Int))))).length : Nat) : Int)) from ⟨om, (by simp)⟩) (Ab rfl (Ab rfl (Ab rfl (Ab Cg (Ab rfl (Ab rfl (Ab Cg Bp))))))) (show Fit κ _ (blk b2 [I64 (kd), I64 (wd), I64 (mo)] 31 :: blk b1 [I64 (nd), va] 111 :: I) from A3) ?_))))
   rintro ⟨k, cn⟩ hp
   dsimp only at hp ⊢
   obtain ⟨hk, hc⟩ := hp
   have hcb : 0 ≤ cn ∧ cn ≤ k := by rw [hc]; have hfl := List.length_filter_le (fun y => decide (Lk.late y (at_ xs (i : Int)))) (xs.take k); rw [List.length_take] at hfl; omega
   refine Ah (Gr (Bb rfl rfl) (Af (Ax (A7 rfl (fun c33 => ?_) (fun c33 => ?_)))))
   ·refine A0 (Ai (Ax (A5 (Ah (Gm rfl (Gr (A8 (α := Lk) (xs := xs) Ak ty146 rfl rfl (Bh hl) om om) (Gr (Bq (α := Lk) (xs := xs) ty146 rfl (Bh hl) om om) (Ge1 (A4 ty146 rfl) fun b3 => Ga rfl (Ge0 (Di ty146) ?_)))))))))
    refine Af (Ax (Bj mixed (Br (blk b3 [I64 ((at_ xs (k : Int)).u), I64 ((at_ xs (k : Int)).v), I64 ((at_ xs (k : Int)).w), I64 ((at_ xs (k : Int)).lb), I64 ((at_ xs (k : Int)).sg), I64 ((at_ xs (k : Int)).tm)] 146 :: blk b2 [I64 (kd), I64 (wd), I64 (mo)] 31 :: blk b1 [I64 (nd), va] 111 :: I) 25 (Dr 0 rfl (Aa fld146_5 rfl) (Dr 1 rfl (Aq ty3) ?_)))))
    refine Dr 2 rfl (Aa fld111_1 rfl) (Dr 3 rfl (Aq ty109) ?_)
    refine Dr 4 rfl (Ac rfl) (Dr 5 rfl (A8 (α := Lk) (xs := xs) Ak ty146 rfl rfl (Bh hl) om om) (Dr 6 rfl (C3 (α := Lk) (xs := xs) fld146_5 rfl (Bh hl) om) (Dr 7 rfl (De (α := Lk) (xs := xs) (u := I64 ((at_ xs (i : Int)).tm)) ty3 rfl (Bh hl) om om rfl) (Dr 8 rfl (Bt rfl rfl) (Dr 9 rfl (Ac rfl) (Dl (d := 46) rfl (fun g46 => ?_) (fun g46 => ?_)))))))
    ·exact Dpo 10 rfl (Dpo 11 rfl (Dpo 12 rfl (Dpo 13 rfl (Dpo 14 rfl (Dpo 15 rfl (Dpo 16 rfl (Dpo 17 rfl (Dpo 18 rfl (Dpo 19 rfl (Dpu 20 rfl (Dpu 21 rfl (Dpu 22 rfl (Dpo 23 rfl (Dr 24 rfl (Al rfl rfl) (Dz (Ai (Ar (S8 61 3 4 5 9 30 31 32 rfl rfl rfl rfl rfl rfl rfl rfl) (B6 rfl (A2 (Gm rfl (Gr (Rad rfl rfl) (Ga rfl (Bi (Am (Ai (A2 (Gr (Rad rfl rfl) (Gm rfl (Bi (B8 ((k + 1), (cn + 1)) (by dsimp only; exact ⟨om, (by first | (rw [flk_yes om (decide_eq_true ((late_ix hA.asc hi om).2 om)), List.length_append, List.length_singleton]; omega) | (rw [flk_no om (decide_eq_false (fun h => by have := (late_ix hA.asc hi om).1 h; omega))]; omega))⟩)))))))))))))))))))))))))))))))
    ·refine Dro 10 rfl (Aa fld146_5 rfl) (Dro 11 rfl (Aq ty3) ?_)
     refine Dro 12 rfl (Aa fld111_1 rfl) (Dro 13 rfl (Aq ty109) ?_)
     refine Dro 14 rfl (Ac rfl) (Dro 15 rfl (A8 (α := Lk) (xs := xs) Ak ty146 rfl rfl (Bh hl) om om) (Dro 16 rfl (C3 (α := Lk) (xs := xs) fld146_5 rfl (Bh hl) om) (Dro 17 rfl (De (α := Lk) (xs := xs) (u := I64 ((at_ xs (i : Int)).tm)) ty3 rfl (Bh hl) om om rfl) (Dro 18 rfl (Bf rfl rfl) (Dro 19 rfl (Ac rfl) (Dl (d := 56) rfl (fun g56 => ?_) (fun g56 => ?_)))))))
     ·refine Dro 20 rfl (Ac rfl) (Dro 21 rfl (Ac rfl) (Dro 22 rfl (Bt rfl rfl) (Dro 23 rfl (Al rfl rfl) (Dr 24 rfl (Aj rfl rfl) (Dz (Ai (Ar (S8 61 3 4 5 9 30 31 32 rfl rfl rfl rfl rfl rfl rfl rfl) (A7 rfl (fun c61 => ?_) (fun c61 => ?_)))))))))
      ·exact A2 (Gm rfl (Gr (Rad rfl rfl) (Ga rfl (Bi (Am (Ai (A2 (Gr (Rad rfl rfl) (Gm rfl (Bi (B8 ((k + 1), (cn + 1)) (by dsimp only; exact ⟨om, (by first | (rw [flk_yes om (decide_eq_true ((late_ix hA.asc hi om).2 om)), List.length_append, List.length_singleton]; omega) | (rw [flk_no om (decide_eq_false (fun h => by have := (late_ix hA.asc hi om).1 h; omega))]; omega))⟩))))))))))))
      ·exact A0 (Am (Ai (A2 (Gr (Rad rfl rfl) (Gm rfl (Bi (B8 ((k + 1), (cn)) (by dsimp only; exact ⟨om, (by first | (rw [flk_yes om (decide_eq_true ((late_ix hA.asc hi om).2 om)), List.length_append, List.length_singleton]; omega) | (rw [flk_no om (decide_eq_false (fun h => by have := (late_ix hA.asc hi om).1 h; omega))]; omega))⟩))))))))
     ·exact Dpo 20 rfl (Dpo 21 rfl (Dpo 22 rfl (Dro 23 rfl (Aj rfl rfl) (Dr 24 rfl (Aj rfl rfl) (Dz (Ai (Ar (S8 61 3 4 5 9 30 31 32 rfl rfl rfl rfl rfl rfl rfl rfl) (C2 rfl (A0 (Am (Ai (A2 (Gr (Rad rfl rfl) (Gm rfl (Bi (B8 ((k + 1), (cn)) (by dsimp only; exact ⟨om, (by first | (rw [flk_yes om (decide_eq_true ((late_ix hA.asc hi om).2 om)), List.length_append, List.length_singleton]; omega) | (rw [flk_no om (decide_eq_false (fun h => by have := (late_ix hA.asc hi om).1 h; omega))]; omega))⟩)))))))))))))))))
   ·refine Bu (As (As (Ba (Ai (Ah (Gm rfl (Gf fld31_2 rfl (Gl ty3 ?_))))))))
    refine Gr (Bb rfl rfl) (Ga rfl (Af (Ay (Au (Ad ?_)))))
    have hrk : cn = ((rankL xs (at_ xs (i : Int)) : Nat) : Int) := by rw [hc, List.take_of_length_le om]; rfl
    exact Av rfl rfl (I) Az ⟨by unfold inW; rw [if_neg c14, if_pos c27, hrk], rfl⟩
  ·exact A0 (Am (Ai (Ah (Ga rfl (Af (Ar (S1 8 rfl) (Ay (Av rfl rfl (I) Az ⟨by unfold inW; rw [if_neg c14, if_neg c27], rfl⟩))))))))
theorem Present7_ok {nd kd wd mo nw : Int} {a0 : Option Addr} {c0 : Nat} {xs : List Lk} (hl : Sl κ I (.slice a0 xs.length c0) xs) (hsz : xs.length ≤ 1000000) :
    CallS Tryz.prog κ 70 [.agg #[I64 (nd), .slice a0 xs.length c0], .agg #[I64 (kd), I64 (wd), I64 (mo)], I64 (nw)] I (fun r J => (askE nd xs kd wd mo nw ≠ 0 ∧ r = .tuple #[.agg #[I64 0, .slice none 0 0], I64 (askE nd xs kd wd mo nw)] ∧ I = J) ∨ (∃ a c, askE nd xs kd wd mo nw = 0 ∧ r = .tuple #[.agg #[I64 nd, .slice a (xs.filter (inW kd wd mo nw xs)).length c], I64 0] ∧ J = vc 146 (.slice a (xs.filter (inW kd wd mo nw xs)).length c) (xs.filter (inW kd wd mo nw xs)) :: I)) := by
 refine Ce3 Tryz.func70 rfl rfl ?_
 refine Ah (Ge1 (Bd (cs := [_, _]) rfl rfl rfl) fun b1 => Ge1 (Bd (cs := [_, _, _]) rfl rfl rfl) fun b2 => Ge1 (A4 ty111 rfl) fun b3 => Ga rfl (Af (Ax (Ah (Gl2 ty111 ?_)))))
 refine Gl3 ty31 ?_
 refine Gm rfl (Gc0 (Ap call131 rfl rfl (Wrong_ok (nd := nd) (kd := kd) (wd := wd) (mo := mo) (nw := nw) (Bh hl))) ?_)
 refine Ga rfl (Af (Ah (Gm rfl (Gr (Be rfl rfl) (Af (Ar (S6 17 8 6 4 3 2 rfl rfl rfl rfl rfl rfl) (A7 rfl (fun c17 => ?_) (fun c17 => ?_))))))))
 ·refine Ah (Gr (Bg (cells := [_, _]) ty111 Cy pl111 rfl rfl) (Gm rfl (Ge0 (B4 ty111) ?_)))
  exact Ga rfl (Af (Ay (Ad (Cz rfl ty111 rfl rfl mm rfl (I) Az (.inl ⟨c17, rfl, rfl⟩)))))
 ·refine A0 (Ai (Ah (Gf fld111_0 rfl (Gl ty3 ?_))))
  refine Gr (Bg (cells := [_, _]) ty111 Cy pl111 rfl rfl) (Ge1 (A4 ty111 rfl) fun b4 => Ge0 (B4 ty111) ?_)
  refine Af (Ax (Ah (Gf fld111_1 rfl (Gl ty109 ?_))))
  refine Gr (B2 Ak rfl) (Gm rfl (Af (Ar (S8 26 25 24 9 6 4 3 2 rfl rfl rfl rfl rfl rfl rfl rfl) (A5 (Bx (σ := Nat × (Option Addr) × Nat × (List Lk)) (fun s => ([(2, I64 (nw)), (3, .pointer (some ⟨b1, 0, none⟩)), (4, .pointer (some ⟨b2, 0, none⟩)), (6, .pointer (some ⟨b3, 0, none⟩)), (9, .pointer (some ⟨b4, 0, none⟩)), (24, .slice a0 xs.length c0), (25, I64 (((xs.length : Nat) : Int))), (26, I64 (((s.1 : Nat) : Int)))] : Env)) (fun s => vc 146 (.slice s.2.1 s.2.2.2.length s.2.2.1) (s.2.2.2) :: blk b4 [I64 (nd), .slice s.2.1 s.2.2.2.length s.2.2.1] 111 :: blk b3 [I64 (0), .slice none 0 0] 111 :: blk b2 [I64 (kd), I64 (wd), I64 (mo)] 31 :: blk b1 [I64 (nd), .slice a0 xs.length c0] 111 :: I) (fun s => (s.1 ≤ xs.length) ∧ (s.2.2.2 = (xs.take s.1).filter (inW kd wd mo nw xs))) (fun s => xs.length - s.1) (0, none, 0, []) (show ((0 : Nat) ≤ xs.length) ∧ (([] : List Lk) = (xs.take (0 : Nat)).filter (inW kd wd mo nw xs)) from ⟨om, rfl⟩) (Ab rfl (Ab rfl (Ab rfl (Ab rfl (Ab rfl (Ab rfl (Ab rfl (Ab Cg Bp)))))))) (show Fit κ _ (vc 146 (.slice (none) ([]).length (0)) (([])) :: blk b4 [I64 (nd), .slice (none) ([]).length (0)] 111 :: blk b3 [I64 (0), .slice none 0 0] 111 :: blk b2 [I64 (kd), I64 (wd), I64 (mo)] 31 :: blk b1 [I64 (nd), .slice a0 xs.length c0] 111 :: I) from (Bv _ _)) ?_)))))
  rintro ⟨k, a, c, out⟩ hp
  dsimp only at hp ⊢
  obtain ⟨hk, ho⟩ := hp
  have hol : out.length ≤ xs.length := by rw [ho]; refine Nat.le_trans (List.length_filter_le _ _) ?_; simp only [List.length_take]; omega
  refine Ah (Gr (Bb rfl rfl) (Af (Ax (A7 rfl (fun c27 => ?_) (fun c27 => ?_)))))
  ·refine A0 (Ai (Ax (A5 (Ah (Gm rfl (Gr (A8 (α := Lk) (xs := xs) Ak ty146 rfl rfl (Bh hl) om om) (Gr (Bq (α := Lk) (xs := xs) ty146 rfl (Bh hl) om om) (Ge1 (A4 ty146 rfl) fun b5 => Ga rfl (Ge0 (Di ty146) ?_)))))))))
   refine Af (Ar (S10 10 11 2 3 4 6 9 24 25 26 rfl rfl rfl rfl rfl rfl rfl rfl rfl rfl) (Ah (Gl2 ty111 ?_)))
   refine Gl3 ty31 ?_
   refine Gm rfl (Gm rfl (Gc0 (Ap call132 rfl rfl (In7_ok (nd := nd) (Bh hl) (i := k) om (askE_ok (Classical.not_not.1 c17)))) ?_))
   refine Af (Ar (S10 35 11 2 3 4 6 9 24 25 26 rfl rfl rfl rfl rfl rfl rfl rfl rfl rfl) (Ed rfl (fun c35 => ?_) (fun c35 => ?_)))
   ·refine A2 (Gf fld111_1 rfl (Gl ty109 ?_))
    refine Gl6 ty146 ?_
    refine Ge1 (B0 (α := Lk) (cs := [I64 ((at_ xs (k : Int)).u), I64 ((at_ xs (k : Int)).v), I64 ((at_ xs (k : Int)).w), I64 ((at_ xs (k : Int)).lb), I64 ((at_ xs (k : Int)).sg), I64 ((at_ xs (k : Int)).tm)]) (xs := [⟨(at_ xs (k : Int)).u, (at_ xs (k : Int)).v, (at_ xs (k : Int)).w, (at_ xs (k : Int)).lb, (at_ xs (k : Int)).sg, (at_ xs (k : Int)).tm⟩]) Ak ty146 rfl rfl dc dc rfl kr rfl rfl) fun ad6 => ?_
    refine Ge2 (B5 (α := Lk) (e := 146) (xs := out) (ys := ([⟨(at_ xs (k : Int)).u, (at_ xs (k : Int)).v, (at_ xs (k : Int)).w, (at_ xs (k : Int)).lb, (at_ xs (k : Int)).sg, (at_ xs (k : Int)).tm⟩] : List Lk)) Ak ty146 rfl rfl rfl mm Bo lcn dc rfl (fun _ _ => am)) fun ad7 cp8 => ?_
    refine Gf fld111_1 rfl (Ge0 (Dw ty109) ?_)
    exact Bi (Am (Ai (Ar (S8 2 3 4 6 9 24 25 26 rfl rfl rfl rfl rfl rfl rfl rfl) (A2 (Gr (Rad rfl rfl) (Gm rfl (Bi (B8 ((k + 1), (ad7), (cp8), (out ++ ([⟨(at_ xs (k : Int)).u, (at_ xs (k : Int)).v, (at_ xs (k : Int)).w, (at_ xs (k : Int)).lb, (at_ xs (k : Int)).sg, (at_ xs (k : Int)).tm⟩] : List Lk))) (by dsimp only; exact ⟨om, (by first | rw [flk_yes om c35, ← ho] | rw [flk_no om c35, ← ho])⟩)))))))))
   ·exact A0 (Am (Ai (A2 (Gr (Rad rfl rfl) (Gm rfl (Bi (B8 ((k + 1), (a), (c), (out)) (by dsimp only; exact ⟨om, (by first | rw [flk_yes om c35, ← ho] | rw [flk_no om c35, ← ho])⟩))))))))
  ·refine Bu (As (As (Ba (Ai (Ah (Gl2 ty111 ?_))))))
   refine Ge0 (B4 ty111) ?_
   refine Ga rfl (Af (Ay ?_))
   have hE : out = (xs.filter (inW kd wd mo nw xs)) := by rw [ho, List.take_of_length_le om]
   subst hE
   exact Cz rfl ty111 rfl rfl mm rfl (vc 146 (.slice a (xs.filter (inW kd wd mo nw xs)).length c) (xs.filter (inW kd wd mo nw xs)) :: I) A3 (.inr ⟨a, c, Classical.not_not.1 c17, rfl, rfl⟩)
end Go.Sl
