/- A part of the proofs of statements of this seat: contracts of functions, and the plain laws that they lean on. No conditions. -/
import Derived.Test.YtfkcohmipjhfcaaGreatDoorT3
import Derived.Shelf.SlSortCmp.NoneTotal
import Derived.Shelf.SlSortCmp.WholeK
set_option linter.unusedVariables false
set_option linter.unusedSimpArgs false
set_option linter.unusedSectionVars false
namespace Go.Sl
open Go.Proofs
set_option maxRecDepth 4000
variable {κ : Ctx} {I : List Item}
abbrev deck (b : Nat) (lv : Value) (i : Int) : Item := blk b [lv, I64 i] 125
theorem Mod_ok {n k : Int} (h1 : 1 ≤ k) (h2 : k ≤ 1000000000000) :
    CallS Tryz.prog κ 76 [I64 (n), I64 (k)] I (fun r J => ∃ x : Int, r = I64 x ∧ (0 ≤ x ∧ x < k) ∧ I = J) := by
 have q1 := Int.tmod_lt_of_pos n (b := k) om
 have q2 := Int.lt_tmod_of_pos n (b := k) om
 refine Ce2 Tryz.func76 rfl rfl ?_
 refine Ah (Ga rfl (Af (Ah (Gm rfl (Gm rfl (Gr (Runs.rem rfl rfl om) (Gm rfl (Gr (Rad rfl rfl) (Gm rfl (Gr (Runs.rem rfl rfl om) (Ga rfl (Af (Ay ?_)))))))))))))
 have t1 := Int.tmod_nonneg k (a := Int.tmod n k + k) om
 have t2 := Int.tmod_lt_of_pos (Int.tmod n k + k) (b := k) om
 exact Av rfl rfl (_) Az ⟨_, rfl, ⟨t1, t2⟩, rfl⟩
theorem Next_base {b : Nat} {lv : Value} {ls : List Int} {i : Int} (hl : Sl κ (deck b lv i :: I) lv ls) (h0 : 0 ≤ i) {n : Int} (hn : n ≤ 1000000000000) :
    CallS Tryz.prog κ 19 [.pointer (some ⟨b, 0, none⟩), I64 (n)] (blk b [lv, I64 (i)] 125 :: I) (fun r J => ∃ y : Int × Int, (r = I64 y.1 ∧ (0 ≤ y.1 ∧ (1 ≤ n → y.1 < n) ∧ (n < 1 → y.1 = 0)) ∧ 0 ≤ y.2) ∧ J = [] ++ deck b lv y.2 :: I) := by
 refine Bz hl.le fun hmax => ?_
 refine Ce2 Tryz.func19 rfl rfl ?_
 refine Ah (Ga rfl (Af (Ax (Ax (Bj mixed (Br (blk b [lv, I64 (i)] 125 :: I) 14 (Dr 0 rfl (Ac rfl) (Dr 1 rfl (Bb rfl rfl) (Dr 2 rfl (Ac rfl) (Dl (d := 8) rfl (fun g8 => ?_) (fun g8 => ?_)))))))))))
 ·exact Dpo 3 rfl (Dpo 4 rfl (Dpo 5 rfl (Dpo 6 rfl (Dpo 7 rfl (Dpo 8 rfl (Dpo 9 rfl (Dpo 10 rfl (Dpo 11 rfl (Dpo 12 rfl (Dr 13 rfl (Al rfl rfl) (Dz (Ai (Ar (S3 19 0 1 rfl rfl rfl) (B6 rfl (Ah (Ga rfl (Af (Ay (Ad (Av rfl rfl (_) Az ⟨(0, i), ⟨rfl, ⟨Int.le_refl _, by intro _; show (0 : Int) < n; omega, fun _ => rfl⟩, h0⟩, rfl⟩))))))))))))))))))))
 ·refine Dro 3 rfl (Ac rfl) (Dro 4 rfl (Bc rfl) (Dro 5 rfl (Aa fld125_1 rfl) (Dro 6 rfl (Aq ty3) ?_)))
  refine Dro 7 rfl (Ac rfl) (Dro 8 rfl (Bc rfl) (Dro 9 rfl (Aa fld125_0 rfl) (Dro 10 rfl (Aq ty22) ?_)))
  refine Dro 11 rfl (Bs (α := Int) (xs := ls) Ao rfl (Bh hl)) (Dro 12 rfl (B7 rfl rfl) (Dr 13 rfl (Aj rfl rfl) (Dz (Ai (Ar (S3 19 0 1 rfl rfl rfl) (A7 rfl (fun c19 => ?_) (fun c19 => ?_)))))))
  ·exact Ah (Ga rfl (Af (Ay (Ad (Av rfl rfl (_) Az ⟨(0, i), ⟨rfl, ⟨Int.le_refl _, by intro _; show (0 : Int) < n; omega, fun _ => rfl⟩, h0⟩, rfl⟩)))))
  ·refine A0 (Ai (Ax (Bj mixed (Br (blk b [lv, I64 (i)] 125 :: I) 11 (Dr 0 rfl (Ac rfl) (Dr 1 rfl (Bc rfl) (Dr 2 rfl (Aa fld125_0 rfl) (Dr 3 rfl (Aq ty22) ?_))))))))
   refine Dr 4 rfl (Ac rfl) (Dr 5 rfl (Bc rfl) (Dr 6 rfl (Aa fld125_1 rfl) (Dr 7 rfl (Aq ty3) ?_)))
   refine Dr 8 rfl (A8 (α := Int) (xs := ls) Ao ty3 rfl rfl (Bh hl) om om) (Dr 9 rfl (Ca (xs := ls) ty3 rfl (Bh hl) om om) (Dr 10 rfl (A9 rfl) (Dz (Ai (Ar (S3 5 0 1 rfl rfl rfl) (Ah (Gm rfl (Gr (Bc rfl) (Gf fld125_1 rfl (Gl ty3 ?_))))))))))
   refine Gr (Rad rfl rfl) (Gr (Bc rfl) (Gf fld125_1 rfl (Ge0 (Dw ty3) ?_)))
   refine Af (Ah (Gm rfl (Gm rfl (G.e (Ap call76 rfl rfl (Mod_ok om om)) ?_))))
   rintro _ _ ⟨_, _, ⟨x1, rfl, hx1, rfl⟩, rfl, rfl⟩
   exact Ga rfl (Af (Ar (S1 4 rfl) (Ay (Av rfl rfl (_) Az ⟨(x1, i + 1), ⟨rfl, ⟨by omega, by omega, by omega⟩, by show 0 ≤ i + 1; omega⟩, rfl⟩))))
theorem Next_ok {F : Item → List Item} {b : Nat} {lv : Value} {ls : List Int} {i : Int} (hat : AtF I (deck b lv i) F) (hl : Sl κ I lv ls) (h0 : 0 ≤ i) {n : Int} (hn : n ≤ 1000000000000) :
  CallS Tryz.prog κ 19 [.pointer (some ⟨b, 0, none⟩), I64 n] I fun r J => ∃ x i', r = I64 x ∧ (0 ≤ x ∧ (1 ≤ n → x < n) ∧ (n < 1 → x = 0)) ∧ 0 ≤ i' ∧ J = F (deck b lv i') :=
 (D5 (Z := fun _ => []) (X := fun y : Int × Int => deck b lv y.2) hat fun _ hJ _ => Next_base (hl.fit hJ) h0 hn).mono fun _ _ ⟨y, ⟨h1, h2, h3⟩, h4⟩ => ⟨y.1, y.2, h1, h2, h3, h4⟩
theorem New_ok {a : Option Addr} {n c : Nat} :
    CallS Tryz.prog κ 18 [.slice a n c] I (fun r J => ∃ b, r = .pointer (some ⟨b, 0, none⟩) ∧ J = deck b (.slice a n c) 0 :: I) := by
 refine Ce1 Tryz.func18 rfl rfl ?_
 exact Ah (Ga rfl (Af (Ah (Gm rfl (Gr (Bg (cells := [_, _]) ty125 Tryz.underlying125 pl125 rfl rfl) (Ge1 (Bd (cs := [_, _]) rfl rfl rfl) fun b1 => Ga rfl (Af (Ay (Av rfl rfl (_) Az ⟨b1, rfl, rfl⟩)))))))))
variable {κ : Ctx} {I : List Item}
theorem IsNaN_ok (n : Int) :
    CallS Tryz.prog κ 277 [I64 (n)] I (fun r J => r = .bool false ∧ I = J) := by
 refine Ce1 Tryz.func277 rfl rfl ?_
 exact Ah (Ga rfl (Af (Ah (Gm rfl (Gm rfl (Gr (Be rfl rfl) (Ga rfl (Af (Ay (Av rfl rfl (I) Az ⟨by simp, rfl⟩))))))))))
theorem Compare_ok (m n : Int) :
    CallS Tryz.prog κ 225 [I64 (m), I64 (n)] I (fun r J => r = I64 (cmpI m n) ∧ I = J) := by
 refine Ce2 Tryz.func225 rfl rfl ?_
 refine Ah (Ga rfl (Af (Ah (Gm rfl (Gc0 (Ap call277 rfl rfl (IsNaN_ok m)) ?_)))))
 refine Ga rfl (Af (Ah (Gm rfl (Gc0 (Ap call277 rfl rfl (IsNaN_ok n)) ?_))))
 refine Ga rfl (Af (Ax (Ah (Gm rfl (Af (C2 rfl (A0 (Ai (Ax (Ah (Gm rfl (Af (C2 rfl (A0 (Ai (Ax (Ah (Gm rfl (Gm rfl (Gr (Bb rfl rfl) (Af (Ar (S3 16 0 1 rfl rfl rfl) (A7 rfl (fun c16 => ?_) (fun c16 => ?_))))))))))))))))))))))))
 ·exact Ah (Ga rfl (Af (Ay (Ad (Av rfl rfl (I) Az ⟨by unfold cmpI; rw [if_pos c16], rfl⟩)))))
 ·refine A0 (Ai (Ax (Ah (Gm rfl (Gm rfl (Gr (Bt rfl rfl) (Af (A7 rfl (fun c19 => ?_) (fun c19 => ?_)))))))))
  ·exact Ah (Ga rfl (Af (Ay (Ad (Av rfl rfl (I) Az ⟨by unfold cmpI; rw [if_neg c16, if_pos c19], rfl⟩)))))
  ·exact A0 (Ai (Ah (Ga rfl (Af (Ay (Av rfl rfl (I) Az ⟨by unfold cmpI; rw [if_neg c16, if_neg c19], rfl⟩))))))
theorem Or_ok {v : Value} {xs : List Int} (hl : Sl κ I v xs) :
    CallS Tryz.prog κ 224 [v] I (fun r J => r = I64 (orL xs) ∧ I = J) := by
 refine Bz hl.le fun hmax => ?_
 refine Ce1 Tryz.func224 rfl rfl ?_
 refine Ah (Ga rfl (Af (Ah (Ga rfl (Af (Ax (Ah (Gm rfl (Gr (Bs (α := Int) (xs := xs) Ao rfl (Bh hl)) (Gm rfl (Af (A5 (Bx (σ := Nat) (fun s => ([(3, I64 (0)), (6, v), (7, I64 (((xs.length : Nat) : Int))), (8, I64 (((s : Nat) : Int)))] : Env)) (fun s => I) (fun s => (s ≤ xs.length) ∧ (orL xs = orL (xs.drop s))) (fun s => xs.length - s) (0) (show ((0 : Nat) ≤ xs.length) ∧ (orL xs = orL (xs.drop (0 : Nat))) from ⟨om, rfl⟩) (Ab rfl (Ab rfl (Ab rfl (Ab Cg Bp)))) (show Fit κ _ (I) from A3) ?_)))))))))))))
 rintro k hp
 obtain ⟨hk, ho⟩ := hp
 refine Ah (Gr (Bb rfl rfl) (Af (Ax (A7 rfl (fun c9 => ?_) (fun c9 => ?_)))))
 ·refine A0 (Ai (Ax (A5 (Ah (Gr (A8 (α := Int) (xs := xs) Ao ty3 rfl rfl (Bh hl) om om) (Gr (Ca (xs := xs) ty3 rfl (Bh hl) om om) (Ga rfl (Af (Ah (Gm rfl (Gm rfl (Gr (Be rfl rfl) (Af (A7 rfl (fun c14 => ?_) (fun c14 => ?_)))))))))))))))
  ·exact Ah (Gm rfl (Ga rfl (Af (Ay (Au (Ad (Ad (Au (Ad (Av rfl rfl (I) Az ⟨by rw [ho, orL_stop om c14], rfl⟩))))))))))
  ·exact A0 (Am (Ai (A2 (Gr (Rad rfl rfl) (Gm rfl (Bi (B8 ((k + 1)) ⟨om, (ho.trans (orL_step om (Decidable.of_not_not c14)))⟩)))))))
 ·exact Bu (As (As (Ba (Ai (Ah (Gm rfl (Ga rfl (Af (Ay (Av rfl rfl (I) Az ⟨by rw [ho, orL_end om], rfl⟩))))))))))
end Go.Sl
namespace Go.Sl
structure GrOk (nodes : Int) (es : List Pt) : Prop where
 rng : 0 ≤ nodes ∧ nodes ≤ 64
 asc : AscP es
 edge : ∀ e ∈ es, 0 ≤ e.u ∧ e.u < e.v ∧ e.v < nodes
section
variable {nodes u v w : Int} {es : List Pt}
end
def badE (nodes : Int) (e : Pt) : Int := if e.u < 0 ∨ e.v ≤ e.u ∨ nodes ≤ e.v then 6 else 0
def checkG (nodes : Int) (es : List Pt) : Int := if nodes < 0 ∨ 64 < nodes then 1 else scanL (badE nodes) Pt.lt none es
theorem badE_zero {nodes : Int} {e : Pt} : badE nodes e = 0 ↔ 0 ≤ e.u ∧ e.u < e.v ∧ e.v < nodes := by
 unfold badE; split <;> omega
theorem checkG_ok {nodes : Int} {es : List Pt} : checkG nodes es = 0 ↔ GrOk nodes es := by
 unfold checkG
 split
 ·rename_i h
  exact ⟨fun e => by omega, fun e => by have := e.rng; omega⟩
 ·rename_i h
  rw [scanL_zero Pt.lin]
  constructor
  ·rintro ⟨h1, h2⟩; exact ⟨by omega, h2, fun e he => badE_zero.1 (h1 e he)⟩
  ·intro h1; exact ⟨fun e he => badE_zero.2 (h1.edge e he), h1.asc⟩
variable {nodes : Int} {es : List Pt}
theorem asc_nodup {l : List Pt} (h : AscP l) : l.Nodup := h.imp fun {a b} h e => Pt.lin.ne h e
end Go.Sl
namespace Go.Sl
open Go.Proofs
set_option maxRecDepth 4000
theorem Before03_ok {κ : Ctx} {I : List Item} (a c : Pt) :
    CallS Tryz.prog κ 84 [.agg #[I64 (a.u), I64 (a.v)], .agg #[I64 (c.u), I64 (c.v)]] I (fun r J => r = .bool (decide (Pt.lt a c)) ∧ I = J) := by
 refine Ce2 Tryz.func84 rfl rfl ?_
 refine Ah (Ge1 (Bd (cs := [_, _]) rfl rfl rfl) fun b1 => Ge1 (Bd (cs := [_, _]) rfl rfl rfl) fun b2 => Ga rfl (Af (Ah (Gf fld135_0 rfl (Gl ty3 ?_)))))
 refine Gf fld135_0 rfl (Gl ty3 ?_)
 refine Gr (Bb rfl rfl) (Gm rfl (A6 (d := 10) rfl (fun g10 => ?_) (fun g10 => ?_)))
 ·exact Gpo (Gpo (Gpo (Gpo (Gpo (Gpo (Gpu (Gpu (Gpu (Gpu (Gpu (Gpo (Gr (Al rfl rfl) (Ga rfl (Af (Ar (S1 4 rfl) (Ay (Av rfl rfl (I) Az ⟨(by first | exact congrArg Value.bool (decide_eq_decide.2 (by unfold Pt.lt; omega)) | exact congrArg Value.bool (decide_eq_true (by unfold Pt.lt; omega)).symm | exact congrArg Value.bool (decide_eq_false (by unfold Pt.lt; omega)).symm), rfl⟩)))))))))))))))))
 ·refine Gro (Aa fld135_0 rfl) (Gro (Aq ty3) ?_)
  refine Gro (Aa fld135_0 rfl) (Gro (Aq ty3) ?_)
  refine Gro (Bf rfl rfl) (Gro (Ac rfl) (A6 (d := 16) rfl (fun g16 => ?_) (fun g16 => ?_)))
  ·refine Gro (Aa fld135_1 rfl) (Gro (Aq ty3) ?_)
   refine Gro (Aa fld135_1 rfl) (Gro (Aq ty3) ?_)
   exact Gro (Bb rfl rfl) (Gro (Al rfl rfl) (Gr (Aj rfl rfl) (Ga rfl (Af (Ar (S1 4 rfl) (Ay (Av rfl rfl (I) Az ⟨(by first | exact congrArg Value.bool (decide_eq_decide.2 (by unfold Pt.lt; omega)) | exact congrArg Value.bool (decide_eq_true (by unfold Pt.lt; omega)).symm | exact congrArg Value.bool (decide_eq_false (by unfold Pt.lt; omega)).symm), rfl⟩)))))))
  ·exact Gpo (Gpo (Gpo (Gpo (Gpo (Gro (Aj rfl rfl) (Gr (Aj rfl rfl) (Ga rfl (Af (Ar (S1 4 rfl) (Ay (Av rfl rfl (I) Az ⟨(by first | exact congrArg Value.bool (decide_eq_decide.2 (by unfold Pt.lt; omega)) | exact congrArg Value.bool (decide_eq_true (by unfold Pt.lt; omega)).symm | exact congrArg Value.bool (decide_eq_false (by unfold Pt.lt; omega)).symm), rfl⟩)))))))))))
def cmpL : List Int → List Int → Int
 | [], [] => 0
 | [], _ :: _ => -1
 | _ :: _, [] => 1
 | x :: xs, y :: ys => if y < x then 1 else if x < y then -1 else cmpL xs ys
theorem cmpL_eq : ∀ xs ys, cmpL xs ys = 0 ↔ xs = ys
 | [], [] => by simp [cmpL]
 | [], _ :: _ => by simp [cmpL]
 | _ :: _, [] => by simp [cmpL]
 | x :: xs, y :: ys => by
  simp only [cmpL]
  split
  ·simp; omega
  ·split
   ·simp; omega
   ·rw [cmpL_eq xs ys]
    have : x = y := by omega
    simp [this]
theorem cmpL_drop (xs ys : List Int) (k : Nat) (hx : k < xs.length) (hy : k < ys.length) (h1 : ¬ at_ ys (k : Int) < at_ xs (k : Int)) (h2 : ¬ at_ xs (k : Int) < at_ ys (k : Int)) : cmpL (xs.drop k) (ys.drop k) = cmpL (xs.drop (k + 1)) (ys.drop (k + 1)) := by
 rw [Cr xs k hx, Cr ys k hy]
 simp only [cmpL]
 rw [if_neg h1, if_neg h2]
theorem cmpL_drop1 (xs ys : List Int) (k : Nat) (hx : k < xs.length) (h : ys.length ≤ k ∨ (k < ys.length ∧ at_ ys (k : Int) < at_ xs (k : Int))) : cmpL (xs.drop k) (ys.drop k) = 1 := by
 rw [Cr xs k hx]
 rcases h with h | ⟨hy, h⟩
 ·rw [List.drop_eq_nil_of_le h]; rfl
 ·rw [Cr ys k hy]; simp only [cmpL]; rw [if_pos h]
theorem cmpL_dropn (xs ys : List Int) (k : Nat) (hx : k < xs.length) (hy : k < ys.length) (h1 : ¬ at_ ys (k : Int) < at_ xs (k : Int)) (h : at_ xs (k : Int) < at_ ys (k : Int)) : cmpL (xs.drop k) (ys.drop k) = -1 := by
 rw [Cr xs k hx, Cr ys k hy]; simp only [cmpL]; rw [if_neg h1, if_pos h]
theorem cmpL_end (xs ys : List Int) (k : Nat) (hx : xs.length ≤ k) : cmpL (xs.drop k) (ys.drop k) = if k < ys.length then -1 else 0 := by
 rw [List.drop_eq_nil_of_le hx]
 split
 ·rename_i h; rw [Cr ys k h]; rfl
 ·rename_i h; rw [List.drop_eq_nil_of_le om]; rfl
theorem Cmp_ok {κ : Ctx} {I : List Item} {u v : Value} {xs ys : List Int} (hu : Sl κ I u xs) (hv : Sl κ I v ys) :
    CallS Tryz.prog κ 61 [u, v] I (fun r J => r = I64 (cmpL xs ys) ∧ I = J) := by
 refine Bz hu.le fun hmax => ?_
 refine Bz hv.le fun hmax2 => ?_
 refine Ce2 Tryz.func61 rfl rfl ?_
 refine Ah (Ga rfl (Af (Ax (Ah (Gm rfl (Gr (Bs (α := Int) (xs := xs) Ao rfl (Bh hu)) (Gm rfl (Af (A5 (Bx (σ := Nat) (fun s => ([(0, u), (1, v), (7, I64 (((xs.length : Nat) : Int))), (8, I64 (((s : Nat) : Int)))] : Env)) (fun s => I) (fun s => (s ≤ xs.length) ∧ (cmpL xs ys = cmpL (xs.drop s) (ys.drop s))) (fun s => xs.length - s) (0) (show ((0 : Nat) ≤ xs.length) ∧ (cmpL xs ys = cmpL (xs.drop (0 : Nat)) (ys.drop (0 : Nat))) from ⟨om, rfl⟩) (Ab rfl (Ab rfl (Ab rfl (Ab Cg Bp)))) (show Fit κ _ (I) from A3) ?_))))))))))
 rintro k hp
 obtain ⟨hk, hc⟩ := hp
 refine Ah (Gr (Bb rfl rfl) (Af (Ax (A7 rfl (fun c9 => ?_) (fun c9 => ?_)))))
 ·refine A0 (Ai (Ax (A5 (Ah (Gm rfl (Ga rfl (Af (A5 (Ax (Bj mixed (Br (I) 16 (Dr 0 rfl (Ac rfl) (Dr 1 rfl (Ac rfl) (Dr 2 rfl (Bs (α := Int) (xs := ys) Ao rfl (Bh hv)) (Dr 3 rfl (B7 rfl rfl) (Dr 4 rfl (Ac rfl) (Dl (d := 16) rfl (fun g16 => ?_) (fun g16 => ?_))))))))))))))))))
  ·exact Dpo 5 rfl (Dpo 6 rfl (Dpo 7 rfl (Dpo 8 rfl (Dpo 9 rfl (Dpo 10 rfl (Dpo 11 rfl (Dpo 12 rfl (Dpo 13 rfl (Dr 14 rfl (Al rfl rfl) (Dr 15 rfl (A9 rfl) (Dz (Ai (Ar (S6 11 5 0 1 7 8 rfl rfl rfl rfl rfl rfl) (B6 rfl (Ah (Ga rfl (Af (Ay (Au (Au (Ad (Ad (Au (Ad (Av rfl rfl (_) Az ⟨by rw [hc, cmpL_drop1 xs ys k om (.inl om)], rfl⟩)))))))))))))))))))))))))
  ·refine Dro 5 rfl (Ac rfl) (Dro 6 rfl (Ac rfl) (Dro 7 rfl (A8 (α := Int) (xs := xs) Ao ty3 rfl rfl (Bh hu) om om) (Dro 8 rfl (Ca (xs := xs) ty3 rfl (Bh hu) om om) (Dro 9 rfl (Ac rfl) (Dro 10 rfl (Ac rfl) (Dro 11 rfl (A8 (α := Int) (xs := ys) Ao ty3 rfl rfl (Bh hv) om om) (Dro 12 rfl (Ca (xs := ys) ty3 rfl (Bh hv) om om) (Dro 13 rfl (Bt rfl rfl) (Dr 14 rfl (Aj rfl rfl) (Dr 15 rfl (A9 rfl) (Dz (Ai (Ar (S6 11 5 0 1 7 8 rfl rfl rfl rfl rfl rfl) (A7 rfl (fun c11 => ?_) (fun c11 => ?_)))))))))))))))
   ·exact Ah (Ga rfl (Af (Ay (Au (Au (Ad (Ad (Au (Ad (Av rfl rfl (_) Az ⟨by rw [hc, cmpL_drop1 xs ys k om (.inr ⟨by omega, by omega⟩)], rfl⟩))))))))))
   ·refine Ax (Bj mixed (Br (I) 10 (Dr 0 rfl (Ac rfl) (Dr 1 rfl (Ac rfl) (Dr 2 rfl (A8 (α := Int) (xs := xs) Ao ty3 rfl rfl (Bh hu) om om) (Dr 3 rfl (Ca (xs := xs) ty3 rfl (Bh hu) om om) (Dr 4 rfl (Ac rfl) (Dr 5 rfl (Ac rfl) (Dr 6 rfl (A8 (α := Int) (xs := ys) Ao ty3 rfl rfl (Bh hv) om om) (Dr 7 rfl (Ca (xs := ys) ty3 rfl (Bh hv) om om) (Dr 8 rfl (Bb rfl rfl) (Dr 9 rfl (A9 rfl) (Dz (Ai (Ar (S5 27 0 1 7 8 rfl rfl rfl rfl rfl) (A7 rfl (fun c27 => ?_) (fun c27 => ?_)))))))))))))))))
    ·exact Ah (Ga rfl (Af (Ay (Au (Au (Ad (Ad (Au (Ad (Av rfl rfl (_) Az ⟨by rw [hc, cmpL_dropn xs ys k om om om om], rfl⟩))))))))))
    ·exact A0 (Am (Am (Ai (A2 (Gr (Rad rfl rfl) (Gm rfl (Bi (B8 ((k + 1)) ⟨om, (hc.trans (cmpL_drop xs ys k om om om om))⟩))))))))
 ·refine Bu (As (As (Ba (Ai (Ax (Ah (Gm rfl (Gr (Bs (α := Int) (xs := xs) Ao rfl (Bh hu)) (Gm rfl (Gr (Bs (α := Int) (xs := ys) Ao rfl (Bh hv)) (Gr (Bb rfl rfl) (Af (A7 rfl (fun c42 => ?_) (fun c42 => ?_))))))))))))))
  ·exact Ah (Ga rfl (Af (Ay (Ad (Av rfl rfl (_) Az ⟨by rw [hc, cmpL_end xs ys k om, if_pos om], rfl⟩)))))
  ·exact A0 (Ai (Ah (Ga rfl (Af (Ay (Av rfl rfl (_) Az ⟨by rw [hc, cmpL_end xs ys k om, if_neg om], rfl⟩))))))
structure Arc where
 frm : Int
 dst : Int
 cap : Int
deriving Inhabited
instance : Enc Arc := ⟨fun a => [I64 a.frm, I64 a.dst, I64 a.cap], 3, by omega, fun _ => rfl, fun a u h => by
 simp only [List.mem_cons, List.not_mem_nil, or_false] at h
 rcases h with rfl | rfl | rfl <;> rfl⟩
structure Net where
 nodes : Int
 source : Int
 sink : Int
 arcs : List Arc
structure Net.Ok (n : Net) : Prop where
 lim : n.nodes ≤ 4200 ∧ n.arcs.length ≤ 16384
 two : 2 ≤ n.nodes
 src : 0 ≤ n.source ∧ n.source < n.nodes
 snk : 0 ≤ n.sink ∧ n.sink < n.nodes
 ne : n.source ≠ n.sink
 arc : ∀ a ∈ n.arcs, (0 ≤ a.frm ∧ a.frm < n.nodes) ∧ (0 ≤ a.dst ∧ a.dst < n.nodes) ∧ a.frm ≠ a.dst ∧ 0 ≤ a.cap ∧ a.cap ≤ 1099511627776
end Go.Sl
namespace Go.Sl
open Go.Proofs Go.Shelf Go.RowKit Go.Lib Go.Sort
section
variable {α : Type} [Enc α] [Inhabited α]
theorem flat_cells (d : Array α) : flatK Enc.enc (Enc.sz α) d = (cells d.toList).toArray := by
 apply Array.ext
 ·simp [cells_length]
 ·intro t h1 h2
  have h1' : t < d.size * Enc.sz α := by simpa using h1
  have hpos : 0 < Enc.sz α := Enc.pos
  have hi : t / Enc.sz α < d.size := Nat.div_lt_of_lt_mul (by rw [Nat.mul_comm]; exact h1')
  have hj : t % Enc.sz α < Enc.sz α := Nat.mod_lt _ hpos
  have e1 : t = t / Enc.sz α * Enc.sz α + t % Enc.sz α := by rw [Nat.mul_comm]; exact (Nat.div_add_mod t (Enc.sz α)).symm
  have e2 := cells_get d.toList (t / Enc.sz α) (t % Enc.sz α) (by simpa using hi) hj
  rw [← e1] at e2
  have e3 : (cells d.toList)[t]? = some ((cells d.toList)[t]'(by simpa using h2)) := List.getElem?_eq_getElem _
  rw [e3] at e2
  have hlen : t % Enc.sz α < (Enc.enc (d.toList[t / Enc.sz α]'(by simpa using hi))).length := by rw [Enc.len]; exact hj
  rw [List.getElem?_eq_getElem hlen] at e2
  have e4 := Option.some.inj e2
  simp only [List.getElem_toArray]
  rw [e4]
  simp [flatK, getElem!_pos, hi, Enc.len, hj]
theorem sort_base {P : Program} {ρ : Ren} {κ : Ctx} {I : List Item} (L : SlLaysF0.n6 P ρ) (aE : ∀ w, (isAgg (ρ.t 24)).run P w = .ok true w) (zE : ∀ w, (Go.sizeOf (ρ.t 24)).run P w = .ok (Enc.sz α) w) (cf : α → α → Int) (hO : SWO (ltOf cf)) (g : Nat) (cb : Array Value)
  (eg : ∀ args w, (callFunc g args).run P w = .ok (.enter g args) w) (hcmp : ∀ (x y : α) (W : World), Calls P g (#[.agg (Enc.enc x).toArray, .agg (Enc.enc y).toArray] ++ cb) W fun e w' => e = .returned (.int .i64 (cf x y)) ∧ ∃ q os', w' = grow (W.drewN q) os')
  {e : TypeId} {ad : Option Addr} {c : Nat} {xs : List α} (hc : 0 < c) (hsz : xs.length < 4611686018427387904) :
  CallS P κ (ρ.f 6) [.slice ad xs.length c, .func (.func g) #[] cb] (vc e (.slice ad xs.length c) xs :: I) fun r J => ∃ ys : List α, (r = .tuple #[] ∧ ys.Perm xs ∧ ys.Pairwise fun a b => ltOf cf b a = false) ∧ J = [] ++ vc e (.slice ad ys.length c) ys :: I := by
 intro w hs
 obtain ⟨hok, _⟩ := hs.ok _ List.mem_cons_self
 obtain ⟨a', cap', hv, hl, hnc, hcm, hcap⟩ := hok
 cases hv
 obtain ⟨b, off, cur, rfl, hb, hsize, hcur⟩ := hcap hc
 have hbw : b < w.heap.size := (Array.getElem?_eq_some_iff.1 hb).1
 have hcl := cells_length xs
 have hle : xs.length * Enc.sz α ≤ c * Enc.sz α := Nat.mul_le_mul_right _ hnc
 have hH : HoldsK Enc.enc (Enc.sz α) w b off xs.toArray := fun j hj => by
  rw [flat_cells] at hj ⊢
  have hj' : j < (cells xs).length := by simpa using hj
  have h1 := hcur j ((cells xs)[j]) (List.getElem?_eq_getElem hj')
  refine ⟨?_, by simp [World.frozen?, hb]⟩
  rw [cell_of_row w b (off + j) cur e (0, 0) hb, h1]
  simp [getElem!_pos, hj']
 have h := AnyQ.slices_SortFunc L (Enc.sz α) aE zE Enc.enc Enc.len Enc.one cf hO g cb b off c xs.toArray w eg (fun m os dk _ x y => hcmp x y _) hH hbw (by simpa using hsz)
 refine Calls.mono h ?_
 rintro e' w' ⟨rfl, d', n, os, ⟨hs1, _, hperm⟩, hsort, rfl⟩
 have hs1' : d'.size = xs.length := by simpa using hs1
 have hperm' : d'.toList.Perm xs := by
  have e1 : d'.extract 0 xs.toArray.size = d' := by rw [← hs1]; simp
  have e2 : xs.toArray.extract 0 xs.toArray.size = xs.toArray := by simp
  rw [e1, e2] at hperm
  exact hperm
 have hlen : d'.toList.length = xs.length := by simpa using hs1'
 refine ⟨_, _, rfl, ⟨d'.toList, ⟨rfl, hperm', ?_⟩, rfl⟩, ?_⟩
 ·rw [List.pairwise_iff_getElem]
  intro i j hi hj hij
  have := hsort i j (Nat.zero_le _) hij (by simpa [hs1'] using hj)
  simp only [Array.length_toList] at hi hj
  rw [getElem!_pos d' i hi, getElem!_pos d' j hj] at this
  simpa using this
 ·show Sep κ _ (vc e (.slice (some ⟨b, off, none⟩) d'.toList.length c) d'.toList :: I)
  refine hs.upd (At.head _ _ _) rfl ⟨rfl, by simp [sortWorldK, putRowK, Sort.grow]⟩ rfl (by simp [sortWorldK, putRowK]) (fun k hk hne => ?_) ?_ fun k hk => .inl ?_
  ·have hkb : k ≠ b := fun ekb => hne (by subst ekb; exact ⟨off, xs.length, c, rfl, hc⟩)
   simp only [sortWorldK, Sort.grow, putRowK, putRow, mapBlock]
   rw [Array.getElem?_append_left (by simpa using hk), Array.getElem?_modify, if_neg (fun e => hkb e.symm)]
   rfl
  ·refine ⟨_, c, rfl, cells_length _, by rw [hlen]; exact hnc, hcm, fun _ => ⟨b, off, putCells id off (flatK Enc.enc (Enc.sz α) d') cur, rfl, ?_, ?_, fun j u hj => ?_⟩⟩
   ·simp only [sortWorldK, Sort.grow, putRowK, putRow, mapBlock]
    rw [Array.getElem?_append_left (by simpa using hbw), Array.getElem?_modify, if_pos rfl]
    show (w.heap[b]?).map _ = _
    rw [hb]; rfl
   ·simpa [putCells] using hsize
   ·have hj' : j < (cells d'.toList).length := (List.getElem?_eq_some_iff.1 hj).1
    have hj2 : j < xs.length * Enc.sz α := by rw [cells_length, hlen] at hj'; exact hj'
    have hoff : off + j < cur.size := by omega
    rw [flat_cells]
    simp only [putCells, Array.getElem?_mapIdx, Array.getElem?_eq_getElem hoff, Option.map_some]
    rw [if_pos ⟨by omega, by simpa using hj'⟩, Nat.add_sub_cancel_left]
    rw [List.getElem?_eq_getElem hj'] at hj
    simpa [getElem!_pos, hj'] using hj
  ·obtain ⟨o', n', c', hv', hc'⟩ := hk
   cases hv'
   exact ⟨off, xs.length, c, rfl, hc⟩
theorem sort_any {P : Program} {ρ : Ren} {κ : Ctx} {I : List Item} (L : SlLaysF0.n6 P ρ) (aE : ∀ w, (isAgg (ρ.t 24)).run P w = .ok true w) (zE : ∀ w, (Go.sizeOf (ρ.t 24)).run P w = .ok (Enc.sz α) w) (cf : α → α → Int) (hO : SWO (ltOf cf)) (g : Nat) (cb : Array Value)
  (eg : ∀ args w, (callFunc g args).run P w = .ok (.enter g args) w) (hcmp : ∀ (x y : α) (W : World), Calls P g (#[.agg (Enc.enc x).toArray, .agg (Enc.enc y).toArray] ++ cb) W fun e w' => e = .returned (.int .i64 (cf x y)) ∧ ∃ q os', w' = grow (W.drewN q) os')
  {e : TypeId} {ad : Option Addr} {c : Nat} {xs : List α} (hsz : xs.length < 4611686018427387904) :
  CallS P κ (ρ.f 6) [.slice ad xs.length c, .func (.func g) #[] cb] (vc e (.slice ad xs.length c) xs :: I) fun r J => ∃ ys : List α, (r = .tuple #[] ∧ ys.Perm xs ∧ ys.Pairwise fun a b => ltOf cf b a = false) ∧ J = [] ++ vc e (.slice ad ys.length c) ys :: I := by
 by_cases hc : 0 < c
 ·exact sort_base L aE zE cf hO g cb eg hcmp hc hsz
 ·intro w hs
  obtain ⟨hok, _⟩ := hs.ok _ List.mem_cons_self
  obtain ⟨a', cap', hv, hl, hnc, hcm, hcap⟩ := hok
  cases hv
  obtain rfl : xs = [] := List.eq_nil_of_length_eq_zero (by omega)
  refine Calls.mono (AnyF.slices_SortFunc_none L ad c _ w) ?_
  rintro e' w' ⟨rfl, rfl⟩
  exact ⟨_, _, rfl, ⟨[], ⟨rfl, List.Perm.nil, List.Pairwise.nil⟩, rfl⟩, hs⟩
end
theorem lays_of {P : Program} {f : FuncId} {args : List Value} {v : Value} {W : World} (h : CallS P ⟨W.os, W.tape, W.output, W.drawn⟩ f args [old W.heap.size W] fun r J => r = v ∧ [old W.heap.size W] = J) :
  Calls P f args.toArray W fun e w' => e = .returned v ∧ ∃ q os', w' = Sort.grow (W.drewN q) os' := (h W (Sep.begin W)).mono fun e w' ⟨r, J, he, ⟨hv, hJ⟩, hs⟩ => by
 subst hv hJ
 refine ⟨he, w'.drawn - W.drawn, w'.heap.extract W.heap.size w'.heap.size, ?_⟩
 have hb := hs.below List.mem_cons_self
 have hok : ∀ k, k < W.heap.size → w'.heap[k]? = W.heap[k]? := (hs.ok _ List.mem_cons_self).1
 have hd := hs.tape.2
 have hheap : w'.heap = W.heap ++ w'.heap.extract W.heap.size w'.heap.size := by
  apply Array.ext_getElem?
  intro k
  by_cases hk : k < W.heap.size
  ·rw [Array.getElem?_append_left hk]; exact hok k hk
  ·rw [Array.getElem?_append_right (by omega), Array.getElem?_extract]
   have hsz := hb.size
   by_cases hk2 : k < w'.heap.size
   ·rw [if_pos (by omega)]; congr 1; omega
   ·rw [Array.getElem?_eq_none (by omega)]
    split
    ·omega
    ·rfl
 have e : W.drawn + (w'.drawn - W.drawn) = w'.drawn := by have : W.drawn ≤ w'.drawn := hd; omega
 have hos : w'.os = W.os := hs.os
 have htp : w'.tape = W.tape := hs.tape.1
 have hou : w'.output = W.output := hs.output
 obtain ⟨heap', tape', drawn', os', out'⟩ := w'
 simp only [Sort.grow, World.drewN] at *
 subst hos htp hou
 rw [e, ← hheap]
end Go.Sl
namespace Go.Proofs
def Tryz.sort321_ren : Go.Shelf.Ren := ⟨fun | 6 => 321 | 15 => 218 | 14 => 337 | 28 => 269 | 29 => 270 | 20 => 343 | 21 => 344 | 22 => 345 | 23 => 346 | 24 => 347 | 25 => 348 | 26 => 349 | 27 => 350 | 46 => 352 | 47 => 305 | 48 => 306 | 49 => 353 | 50 => 354 | 57 => 355 | n => n, fun | 22 => 109 | 24 => 146 | 25 => 279 | 3 => 3 | 39 => 181 | 0 => 0 | 53 => 291 | 55 => 175 | 4 => 4 | 46 => 285 | 45 => 284 | 50 => 273 | 5 => 5 | 9 => 9 | 66 => 320 | 70 => 324 | 76 => 346 | 77 => 259 | n => n, fun | n => n⟩
theorem Tryz.sort321 : Go.Proofs.SlLaysF0.n6 Tryz.prog Tryz.sort321_ren := {
 mixed := by kernel_rfl,
 f6 := ⟨Tryz.f321.name, by decide, Tryz.func321.trans (congrArg some (by kernel_rfl))⟩,
 f14 := ⟨Tryz.f337.name, by decide, Tryz.func337.trans (congrArg some (by kernel_rfl))⟩,
 f15 := Tryz.func218.trans (congrArg some (by kernel_rfl)),
 f20 := ⟨Tryz.f343.name, by decide, Tryz.func343.trans (congrArg some (by kernel_rfl))⟩,
 f21 := ⟨Tryz.f344.name, by decide, Tryz.func344.trans (congrArg some (by kernel_rfl))⟩,
 f22 := ⟨Tryz.f345.name, by decide, Tryz.func345.trans (congrArg some (by kernel_rfl))⟩,
 f23 := ⟨Tryz.f346.name, by decide, Tryz.func346.trans (congrArg some (by kernel_rfl))⟩,
 f24 := ⟨Tryz.f347.name, by decide, Tryz.func347.trans (congrArg some (by kernel_rfl))⟩,
 f25 := ⟨Tryz.f348.name, by decide, Tryz.func348.trans (congrArg some (by kernel_rfl))⟩,
 f26 := ⟨Tryz.f349.name, by decide, Tryz.func349.trans (congrArg some (by kernel_rfl))⟩,
 f27 := ⟨Tryz.f350.name, by decide, Tryz.func350.trans (congrArg some (by kernel_rfl))⟩,
 f28 := Tryz.func269.trans (congrArg some (by kernel_rfl)),
 f29 := Tryz.func270.trans (congrArg some (by kernel_rfl)),
 f46 := ⟨Tryz.f352.name, by decide, Tryz.func352.trans (congrArg some (by kernel_rfl))⟩,
 f47 := Tryz.func305.trans (congrArg some (by kernel_rfl)),
 f48 := Tryz.func306.trans (congrArg some (by kernel_rfl)),
 f49 := ⟨Tryz.f353.name, by decide, Tryz.func353.trans (congrArg some (by kernel_rfl))⟩,
 f50 := ⟨Tryz.f354.name, by decide, Tryz.func354.trans (congrArg some (by kernel_rfl))⟩,
 f57 := ⟨Tryz.f355.name, by decide, Tryz.func355.trans (congrArg some (by kernel_rfl))⟩,
 t0 := Tryz.underlying0,
 a0 := Tryz.isAgg0,
 z0 := Tryz.sizeOf0,
 v0 := Tryz.zeroValue0,
 t3 := Tryz.underlying3,
 a3 := Tryz.isAgg3,
 z3 := Tryz.sizeOf3,
 v3 := Tryz.zeroValue3,
 t4 := Tryz.underlying4,
 a4 := Tryz.isAgg4,
 z4 := Tryz.sizeOf4,
 v4 := Tryz.zeroValue4,
 t5 := Tryz.underlying5,
 a5 := Tryz.isAgg5,
 z5 := Tryz.sizeOf5,
 v5 := Tryz.zeroValue5,
 t9 := Tryz.underlying9,
 a9 := Tryz.isAgg9,
 z9 := Tryz.sizeOf9,
 v9 := Tryz.zeroValue9,
 t22 := Tryz.underlying109,
 a22 := Tryz.isAgg109,
 z22 := Tryz.sizeOf109,
 v22 := Tryz.zeroValue109,
 t25 := Tryz.underlying279,
 a25 := Tryz.isAgg279,
 z25 := Tryz.sizeOf279,
 v25 := Tryz.zeroValue279,
 t39 := Tryz.underlying181,
 a39 := Tryz.isAgg181,
 z39 := Tryz.sizeOf181,
 v39 := Tryz.zeroValue181,
 t45 := Tryz.underlying284,
 a45 := Tryz.isAgg284,
 z45 := Tryz.sizeOf284,
 v45 := Tryz.zeroValue284,
 t46 := Tryz.underlying285,
 a46 := Tryz.isAgg285,
 z46 := Tryz.sizeOf285,
 v46 := Tryz.zeroValue285,
 t50 := Tryz.underlying273,
 a50 := Tryz.isAgg273,
 z50 := Tryz.sizeOf273,
 v50 := Tryz.zeroValue273,
 t53 := Tryz.underlying291,
 a53 := Tryz.isAgg291,
 z53 := Tryz.sizeOf291,
 v53 := Tryz.zeroValue291,
 t55 := Tryz.underlying175,
 a55 := Tryz.isAgg175,
 z55 := Tryz.sizeOf175,
 v55 := Tryz.zeroValue175,
 t66 := Tryz.underlying320,
 a66 := Tryz.isAgg320,
 z66 := Tryz.sizeOf320,
 v66 := Tryz.zeroValue320,
 t70 := Tryz.underlying324,
 a70 := Tryz.isAgg324,
 z70 := Tryz.sizeOf324,
 v70 := Tryz.zeroValue324,
 t76 := Tryz.underlying346,
 a76 := Tryz.isAgg346,
 z76 := Tryz.sizeOf346,
 v76 := Tryz.zeroValue346,
 t77 := Tryz.underlying259,
 a77 := Tryz.isAgg259,
 z77 := Tryz.sizeOf259,
 v77 := Tryz.zeroValue259 }
end Go.Proofs
namespace Go.Sl
open Go.Proofs
set_option maxRecDepth 4000
theorem Order_ok {κ : Ctx} {I : List Item} (a c : Pt) :
    CallS Tryz.prog κ 154 [.agg #[I64 (a.u), I64 (a.v)], .agg #[I64 (c.u), I64 (c.v)]] I (fun r J => r = I64 (Pt.cmp a c) ∧ I = J) := by
 refine Ce2 Tryz.func154 rfl rfl ?_
 refine Ah (Ge1 (Bd (cs := [_, _]) rfl rfl rfl) fun b1 => Ge1 (Bd (cs := [_, _]) rfl rfl rfl) fun b2 => Ga rfl (Af (Ax (Bj mixed (Br (blk b2 [I64 (c.u), I64 (c.v)] 135 :: blk b1 [I64 (a.u), I64 (a.v)] 135 :: I) 12 (Dr 0 rfl (Aa fld135_0 rfl) (Dr 1 rfl (Aq ty3) ?_)))))))
 refine Dr 2 rfl (Aa fld135_0 rfl) (Dr 3 rfl (Aq ty3) ?_)
 refine Dr 5 rfl (Aa fld135_1 rfl) (Dr 6 rfl (Aq ty3) ?_)
 refine Dr 7 rfl (Aa fld135_1 rfl) (Dr 8 rfl (Aq ty3) ?_)
 refine Ds1 4 (Sc0 rfl (Ap call225 rfl rfl (Compare_ok a.u c.u)) ?_)
 refine Ds1 9 (Sc0 rfl (Ap call225 rfl rfl (Compare_ok a.v c.v)) ?_)
 refine Ds1 10 (Se1 rfl (B0 (α := Int) (cs := [_, _]) (xs := [cmpI a.u c.u, cmpI a.v c.v]) Ao ty3 rfl rfl dc dc rfl rfl rfl rfl) fun ad3 => ?_)
 refine Ds1 11 (Sc0 rfl (Ap call224 rfl rfl (Or_ok Bo)) ?_)
 refine Db kr ?_
 refine A.read (i := 12) kr rfl (B9 rfl) rfl rfl (A9 rfl) ?_
 refine Dc kr ?_
 exact Ai (Ar (S1 4 rfl) (Ay (Av rfl rfl (I) Az ⟨by rw [← orL_cmp], rfl⟩)))
end Go.Sl
namespace Go.Sl
open Go.RowKit (Below)
section
variable {P : Program} {κ : Ctx} {N : Frm} {Q : Exit → Act → World → Prop} {L : Env} {I J : List Item} {ops : Array Oper} {rest : List Oper}
variable {d : Option Tmp} {ty : TypeId} {ps : String} {af : Array Edge} {gd : Option (Nat × Bool)}
variable {α : Type} [Enc α] {xs ys R : List α}
def Cmps (P : Program) (κ : Ctx) (I : List Item) (g : FuncId) (caps : List Value) (cf : α → α → Int) : Prop := callable P g = true ∧ ∀ (x y : α) (J : List Item), Fit κ J I → CallS P κ g ([] ++ [.agg (Enc.enc x).toArray, .agg (Enc.enc y).toArray] ++ caps) J fun r J' => r = I64 (cf x y) ∧ J = J'
structure BFound [Inhabited α] (cf : α → α → Int) (xs : List α) (x : α) (i : Nat) (b : Bool) : Prop where
 le : i ≤ xs.length
 low : 0 < i → cf (at_ xs ((i : Int) - 1)) x < 0
 high : i < xs.length → ¬ cf (at_ xs (i : Int)) x < 0
 is : b = decide (i < xs.length ∧ cf (at_ xs (i : Int)) x = 0)
end
end Go.Sl
namespace Go.Sl
section
variable {P : Program}
def flatF (P : Program) : List Field → Nat → Bool
 | [], _ => true
 | f :: fs, o => (f.name != "_") && (match P.underlying f.type with | some (.int .i64) => true | _ => false) && (f.offset == o) && flatF P fs (o + 1)
theorem run_eqFlat (d : Nat) (w : World) (ns ms : List Int) : ∀ (fs : List Field) (o : Nat), flatF P fs o = true → ns.length = o + fs.length → ms.length = o + fs.length →
  (Op.eqFields (d + 1) (ns.map I64).toArray (ms.map I64).toArray fs).run P w = .ok (decide (ns.drop o = ms.drop o)) w
 | [], o, _, hn, hm => by
  have h1 : ns.drop o = [] := List.drop_eq_nil_of_le (by simp at hn; omega)
  have h2 : ms.drop o = [] := List.drop_eq_nil_of_le (by simp at hm; omega)
  simp [Op.eqFields, h1, h2]
 | f :: fs, o, h, hn, hm => by
  simp only [flatF, Bool.and_eq_true, bne_iff_ne, beq_iff_eq] at h
  obtain ⟨⟨⟨h1, h2⟩, h3⟩, h4⟩ := h
  have hu : P.underlying f.type = some (.int .i64) := by
   revert h2
   split
   ·intro _; assumption
   ·intro h; cases h
  simp only [List.length_cons] at hn hm
  have hno : o < ns.length := by omega
  have hmo : o < ms.length := by omega
  have ha : (isAgg f.type).run P w = .ok false w := by simp [isAgg, run_underlying hu]
  have hp : ∀ (ks : List Int) (hk : o < ks.length), (part f.type (ks.map I64).toArray f.offset).run P w = .ok (I64 ks[o]) w := fun ks hk => by
   simp [part, ha, h3, hk]
  have ih := run_eqFlat d w ns ms fs (o + 1) h4 (by omega) (by omega)
  simp only [Op.eqFields, if_pos h1, Sem.run_bind, hp ns hno, hp ms hmo, Result.andThen_ok, run_equalIn_int _ _ _ _ _ _ _ hu]
  have key : (ns.drop o = ms.drop o) ↔ (ns[o] = ms[o] ∧ ns.drop (o + 1) = ms.drop (o + 1)) := by rw [List.drop_eq_getElem_cons hno, List.drop_eq_getElem_cons hmo, List.cons.injEq]
  have key2 : decide (ns.drop o = ms.drop o) = decide (ns[o] = ms[o] ∧ ns.drop (o + 1) = ms.drop (o + 1)) := decide_eq_decide.2 key
  rw [key2]
  by_cases he : ns[o] = ms[o]
  ·simp [he, ih]
  ·simp [he]
theorem EqT.flat {α : Type} [Enc α] [DecidableEq α] {T n : Nat} (ints : α → List Int) (henc : ∀ x, Enc.enc x = (ints x).map I64) (hinj : ∀ x y, ints x = ints y → x = y) (hlen : ∀ x, (ints x).length = n)
  (ht : P.underlying T = some (.struct (P.fieldsOf T))) (hp : P.stoodInHeld T = false) (hf : flatF P (P.fieldsOf T).toList 0 = true) (hn : (P.fieldsOf T).size = n) (hg : P.eqGuardType P.depth T = false) : EqT P T α := by
 refine ⟨fun x y w => ?_, hg⟩
 rw [show (10000 : Nat) = 9999 + 1 from rfl, run_equalIn_struct w 9999 T _ _ ht hp, henc, henc, show (9999 : Nat) = 9998 + 1 from rfl,
  run_eqFlat 9998 w (ints x) (ints y) _ 0 hf (by rw [hlen, Array.length_toList, hn]; omega) (by rw [hlen, Array.length_toList, hn]; omega)]
 congr 1
 rw [List.drop_zero, List.drop_zero, decide_eq_decide]
 exact ⟨hinj x y, fun e => by rw [e]⟩
end
end Go.Sl
namespace Go.Sl
open Go.Proofs
set_option maxRecDepth 4000
variable {κ : Ctx} {I : List Item}
structure Lk where
 u : Int
 v : Int
 w : Int
 lb : Int
 sg : Int
 tm : Int
deriving DecidableEq, Inhabited
instance : Enc Lk := ⟨fun x => [I64 x.u, I64 x.v, I64 x.w, I64 x.lb, I64 x.sg, I64 x.tm], 6, by omega, fun _ => rfl, fun x u h => by
 simp only [List.mem_cons, List.not_mem_nil, or_false] at h
 rcases h with rfl | rfl | rfl | rfl | rfl | rfl <;> rfl⟩
theorem eqt146 : EqT Tryz.prog 146 Lk := EqT.flat (fun p : Lk => [p.u, p.v, p.w, p.lb, p.sg, p.tm]) (fun _ => rfl) (fun x y h => by cases x; cases y; simpa using h) (n := 6) (fun _ => rfl) kr kr kr kr kr
structure Ev where
 kd : Int
 tm : Int
 u : Int
 v : Int
 w : Int
 lb : Int
 sg : Int
deriving DecidableEq, Inhabited
instance : Enc Ev := ⟨fun x => [I64 x.kd, I64 x.tm, I64 x.u, I64 x.v, I64 x.w, I64 x.lb, I64 x.sg], 7, by omega, fun _ => rfl, fun x u h => by
 simp only [List.mem_cons, List.not_mem_nil, or_false] at h
 rcases h with rfl | rfl | rfl | rfl | rfl | rfl | rfl <;> rfl⟩
def Lk.p (l : Lk) : Pt := ⟨l.u, l.v⟩
def Lk.cmp (a c : Lk) : Int := Pt.cmp a.p c.p
def Lk.lt (a c : Lk) : Prop := Pt.lt a.p c.p
instance : DecidableRel Lk.lt := fun a c => by unfold Lk.lt; infer_instance
def rightW (w lb sg : Int) : Prop := 1 ≤ w ∧ w ≤ 1000 ∧ 0 ≤ lb ∧ lb ≤ 15 ∧ (sg = 1 ∨ sg = -1)
instance (w lb sg : Int) : Decidable (rightW w lb sg) := by unfold rightW; infer_instance
def badL (n : Int) (l : Lk) : Int := if l.u < 0 ∨ l.v ≤ l.u ∨ n ≤ l.v then 6 else if ¬ rightW l.w l.lb l.sg then 1 else if l.tm < 0 ∨ 1048576 < l.tm then 9 else 0
def checkS (n : Int) (xs : List Lk) : Int := if n < 0 ∨ 64 < n then 1 else scanL (badL n) Lk.lt none xs
theorem badL_zero {n : Int} {l : Lk} (h1 : ¬ (l.u < 0 ∨ l.v ≤ l.u ∨ n ≤ l.v)) (h2 : rightW l.w l.lb l.sg) (h3 : ¬ (l.tm < 0 ∨ 1048576 < l.tm)) : badL n l = 0 := by
 unfold badL; rw [if_neg h1, if_neg (fun h => h h2), if_neg h3]
theorem badL_six {n : Int} {l : Lk} (h1 : l.u < 0 ∨ l.v ≤ l.u ∨ n ≤ l.v) : badL n l = 6 := by unfold badL; rw [if_pos h1]
theorem badL_one {n : Int} {l : Lk} (h1 : ¬ (l.u < 0 ∨ l.v ≤ l.u ∨ n ≤ l.v)) (h2 : ¬ rightW l.w l.lb l.sg) : badL n l = 1 := by unfold badL; rw [if_neg h1, if_pos h2]
theorem badL_nine {n : Int} {l : Lk} (h1 : ¬ (l.u < 0 ∨ l.v ≤ l.u ∨ n ≤ l.v)) (h2 : rightW l.w l.lb l.sg) (h3 : l.tm < 0 ∨ 1048576 < l.tm) : badL n l = 9 := by unfold badL; rw [if_neg h1, if_neg (fun h => h h2), if_pos h3]
def checkW (kd wd mo : Int) : Int := if kd < 1 ∨ 3 < kd then 8 else if (kd = 2 ∧ (wd < 1 ∨ 1048576 < wd)) ∨ (kd ≠ 2 ∧ wd ≠ 0) ∨ (kd = 3 ∧ (mo < 0 ∨ 2016 < mo)) ∨ (kd ≠ 3 ∧ mo ≠ 0) then 1 else 0
theorem CheckW_ok (kd wd mo : Int) :
    CallS Tryz.prog κ 78 [.agg #[I64 (kd), I64 (wd), I64 (mo)]] I (fun r J => r = I64 (checkW kd wd mo) ∧ I = J) := by
 refine Ce1 Tryz.func78 rfl rfl ?_
 refine Ah (Ge1 (Bd (cs := [_, _, _]) rfl rfl rfl) fun b1 => Ga rfl (Af (Ah (Ga rfl (Ga rfl (Af (Ax (Ah (Gf fld31_0 rfl (Gl ty3 ?_))))))))))
 refine Af (A5 (Ah (Gr (Bf rfl rfl) (Ga rfl (Af (A7 rfl (fun c7 => ?_) (fun c7 => ?_)))))))
 ·refine A0 (Am (Ai (Ax (Ah (Gf fld31_1 rfl (Gl ty3 ?_))))))
  refine Gm rfl (Gr (Be rfl rfl) (Gm rfl (A6 (d := 37) rfl (fun g37 => ?_) (fun g37 => ?_))))
  ·exact Gpo (Gpo (Gpo (Gpo (Gr (Al rfl rfl) (Af (Ar (S1 42 rfl) (B6 rfl (Ah (Ga rfl (Af (Ay (Ad (Av rfl rfl (I) Az ⟨by rw [show checkW kd wd mo = 1 from by unfold checkW; split <;> first | rfl | omega | (split <;> first | rfl | omega)], rfl⟩)))))))))))))
  ·refine Gro (Aa fld31_2 rfl) (Gro (Aq ty3) ?_)
   refine Gro (Ac rfl) (Gro (Be rfl rfl) (Gr (Aj rfl rfl) (Af (Ar (S1 42 rfl) (A7 rfl (fun c42 => ?_) (fun c42 => ?_))))))
   ·exact Ah (Ga rfl (Af (Ay (Ad (Av rfl rfl (I) Az ⟨by rw [show checkW kd wd mo = 1 from by unfold checkW; split <;> first | rfl | omega | (split <;> first | rfl | omega)], rfl⟩)))))
   ·exact A0 (Ai (Ah (Ga rfl (Af (Ay (Av rfl rfl (I) Az ⟨by rw [show checkW kd wd mo = 0 from by unfold checkW; split <;> first | rfl | omega | (split <;> first | rfl | omega)], rfl⟩))))))
 ·refine Ah (Gr (Bf rfl rfl) (Ga rfl (Af (A7 rfl (fun c9 => ?_) (fun c9 => ?_)))))
  ·refine Ax (Ah (Gf fld31_1 rfl (Gl ty3 ?_)))
   refine Gr (Bb rfl rfl) (Gm rfl (A6 (d := 14) rfl (fun g14 => ?_) (fun g14 => ?_)))
   ·exact Gpo (Gpo (Gpo (Gr (Al rfl rfl) (Af (Ar (S3 18 4 1 rfl rfl rfl) (B6 rfl (Ah (Ga rfl (Af (Ay (Ad (Au (Ad (Av rfl rfl (I) Az ⟨by rw [show checkW kd wd mo = 1 from by unfold checkW; split <;> first | rfl | omega | (split <;> first | rfl | omega)], rfl⟩))))))))))))))
   ·refine Gro (Aa fld31_1 rfl) (Gro (Aq ty3) ?_)
    refine Gro (Bt rfl rfl) (Gr (Aj rfl rfl) (Af (Ar (S3 18 4 1 rfl rfl rfl) (A7 rfl (fun c18 => ?_) (fun c18 => ?_)))))
    ·exact Ah (Ga rfl (Af (Ay (Ad (Au (Ad (Av rfl rfl (I) Az ⟨by rw [show checkW kd wd mo = 1 from by unfold checkW; split <;> first | rfl | omega | (split <;> first | rfl | omega)], rfl⟩)))))))
    ·refine A0 (Ai (A2 (Gf fld31_1 rfl (Gl ty3 ?_))))
     refine Ga rfl (Bi (Am (Ai (Ax (Ah (Gf fld31_1 rfl (Gl ty3 ?_)))))))
     refine Gm rfl (Gr (Be rfl rfl) (Gm rfl (A6 (d := 37) rfl (fun g37 => ?_) (fun g37 => ?_))))
     ·exact Gpo (Gpo (Gpo (Gpo (Gr (Al rfl rfl) (Af (Ar (S1 42 rfl) (B6 rfl (Ah (Ga rfl (Af (Ay (Ad (Av rfl rfl (I) Az ⟨by rw [show checkW kd wd mo = 1 from by unfold checkW; split <;> first | rfl | omega | (split <;> first | rfl | omega)], rfl⟩)))))))))))))
     ·refine Gro (Aa fld31_2 rfl) (Gro (Aq ty3) ?_)
      refine Gro (Ac rfl) (Gro (Be rfl rfl) (Gr (Aj rfl rfl) (Af (Ar (S1 42 rfl) (A7 rfl (fun c42 => ?_) (fun c42 => ?_))))))
      ·exact Ah (Ga rfl (Af (Ay (Ad (Av rfl rfl (I) Az ⟨by rw [show checkW kd wd mo = 1 from by unfold checkW; split <;> first | rfl | omega | (split <;> first | rfl | omega)], rfl⟩)))))
      ·exact A0 (Ai (Ah (Ga rfl (Af (Ay (Av rfl rfl (I) Az ⟨by rw [show checkW kd wd mo = 0 from by unfold checkW; split <;> first | rfl | omega | (split <;> first | rfl | omega)], rfl⟩))))))
  ·refine Ah (Gr (Bf rfl rfl) (Ga rfl (Af (A7 rfl (fun c21 => ?_) (fun c21 => ?_)))))
   ·refine Ax (Ah (Gf fld31_2 rfl (Gl ty3 ?_)))
    refine Gr (Bb rfl rfl) (Gm rfl (A6 (d := 26) rfl (fun g26 => ?_) (fun g26 => ?_)))
    ·exact Gpo (Gpo (Gpo (Gr (Al rfl rfl) (Af (Ar (S3 30 3 1 rfl rfl rfl) (B6 rfl (Ah (Ga rfl (Af (Ay (Ad (Au (Ad (Av rfl rfl (I) Az ⟨by rw [show checkW kd wd mo = 1 from by unfold checkW; split <;> first | rfl | omega | (split <;> first | rfl | omega)], rfl⟩))))))))))))))
    ·refine Gro (Aa fld31_2 rfl) (Gro (Aq ty3) ?_)
     refine Gro (Bt rfl rfl) (Gr (Aj rfl rfl) (Af (Ar (S3 30 3 1 rfl rfl rfl) (A7 rfl (fun c30 => ?_) (fun c30 => ?_)))))
     ·exact Ah (Ga rfl (Af (Ay (Ad (Au (Ad (Av rfl rfl (I) Az ⟨by rw [show checkW kd wd mo = 1 from by unfold checkW; split <;> first | rfl | omega | (split <;> first | rfl | omega)], rfl⟩)))))))
     ·refine A0 (Ai (A2 (Gf fld31_2 rfl (Gl ty3 ?_))))
      refine Ga rfl (Bi (Am (Ai (Ax (Ah (Gf fld31_1 rfl (Gl ty3 ?_)))))))
      refine Gm rfl (Gr (Be rfl rfl) (Gm rfl (A6 (d := 37) rfl (fun g37 => ?_) (fun g37 => ?_))))
      ·exact Gpo (Gpo (Gpo (Gpo (Gr (Al rfl rfl) (Af (Ar (S1 42 rfl) (B6 rfl (Ah (Ga rfl (Af (Ay (Ad (Av rfl rfl (I) Az ⟨by rw [show checkW kd wd mo = 1 from by unfold checkW; split <;> first | rfl | omega | (split <;> first | rfl | omega)], rfl⟩)))))))))))))
      ·refine Gro (Aa fld31_2 rfl) (Gro (Aq ty3) ?_)
       refine Gro (Ac rfl) (Gro (Be rfl rfl) (Gr (Aj rfl rfl) (Af (Ar (S1 42 rfl) (A7 rfl (fun c42 => ?_) (fun c42 => ?_))))))
       ·exact Ah (Ga rfl (Af (Ay (Ad (Av rfl rfl (I) Az ⟨by rw [show checkW kd wd mo = 1 from by unfold checkW; split <;> first | rfl | omega | (split <;> first | rfl | omega)], rfl⟩)))))
       ·exact A0 (Ai (Ah (Ga rfl (Af (Ay (Av rfl rfl (I) Az ⟨by rw [show checkW kd wd mo = 0 from by unfold checkW; split <;> first | rfl | omega | (split <;> first | rfl | omega)], rfl⟩))))))
   ·exact Ah (Ga rfl (Af (Ar (S1 2 rfl) (Ay (Au (Ad (Av rfl rfl (I) Az ⟨by rw [show checkW kd wd mo = 8 from by unfold checkW; split <;> first | rfl | omega | (split <;> first | rfl | omega)], rfl⟩)))))))
theorem CheckW7_ok (kd wd mo : Int) :
    CallS Tryz.prog κ 85 [.agg #[I64 (kd), I64 (wd), I64 (mo)]] I (fun r J => r = I64 (checkW kd wd mo) ∧ I = J) := by
 refine Ce1 Tryz.func85 rfl rfl ?_
 refine Ah (Ge1 (Bd (cs := [_, _, _]) rfl rfl rfl) fun b1 => Ga rfl (Af (Ax (Ah (Gf fld31_0 rfl (Gl ty3 ?_))))))
 refine Gr (Bb rfl rfl) (Gm rfl (A6 (d := 6) rfl (fun g6 => ?_) (fun g6 => ?_)))
 ·exact Gpo (Gpo (Gpo (Gr (Al rfl rfl) (Af (B6 rfl (Ah (Ga rfl (Af (Ay (Ad (Av rfl rfl (I) Az ⟨by rw [show checkW kd wd mo = 8 from by unfold checkW; split <;> first | rfl | omega | (split <;> first | rfl | omega)], rfl⟩)))))))))))
 ·refine Gro (Aa fld31_0 rfl) (Gro (Aq ty3) ?_)
  refine Gro (Bt rfl rfl) (Gr (Aj rfl rfl) (Af (A7 rfl (fun c10 => ?_) (fun c10 => ?_))))
  ·exact Ah (Ga rfl (Af (Ay (Ad (Av rfl rfl (I) Az ⟨by rw [show checkW kd wd mo = 8 from by unfold checkW; split <;> first | rfl | omega | (split <;> first | rfl | omega)], rfl⟩)))))
  ·refine A0 (Ai (Ax (Ah (Gf fld31_0 rfl (Gl ty3 ?_)))))
   refine Gr (Bf rfl rfl) (Gm rfl (A6 (d := 14) rfl (fun g14 => ?_) (fun g14 => ?_)))
   ·refine Gro (Aa fld31_1 rfl) (Gro (Aq ty3) ?_)
    refine Gro (Bb rfl rfl) (Gro (Ac rfl) (A6 (d := 18) rfl (fun g18 => ?_) (fun g18 => ?_)))
    ·exact Gpo (Gpo (Gpo (Gro (Al rfl rfl) (Gr (Al rfl rfl) (Gm rfl (Gpo (Gpo (Gpo (Gpo (Gpu (Gpu (Gpu (Gpo (Gr (Al rfl rfl) (Af (Ar (S2 33 1 rfl rfl) (B6 rfl (Ah (Ga rfl (Af (Ay (Ad (Av rfl rfl (I) Az ⟨by rw [show checkW kd wd mo = 1 from by unfold checkW; split <;> first | rfl | omega | (split <;> first | rfl | omega)], rfl⟩)))))))))))))))))))))))
    ·refine Gro (Aa fld31_1 rfl) (Gro (Aq ty3) ?_)
     refine Gro (Bt rfl rfl) (Gro (Aj rfl rfl) (Gr (Al rfl rfl) (Gm rfl (A6 (d := 24) rfl (fun g24 => ?_) (fun g24 => ?_)))))
     ·exact Gpo (Gpo (Gpo (Gpo (Gpu (Gpu (Gpu (Gpo (Gr (Al rfl rfl) (Af (Ar (S2 33 1 rfl rfl) (B6 rfl (Ah (Ga rfl (Af (Ay (Ad (Av rfl rfl (I) Az ⟨by rw [show checkW kd wd mo = 1 from by unfold checkW; split <;> first | rfl | omega | (split <;> first | rfl | omega)], rfl⟩)))))))))))))))))
     ·refine Gro (Aa fld31_0 rfl) (Gro (Aq ty3) ?_)
      refine Gro (Be rfl rfl) (Gro (Ac rfl) (A6 (d := 28) rfl (fun g28 => ?_) (fun g28 => ?_)))
      ·refine Gro (Aa fld31_1 rfl) (Gro (Aq ty3) ?_)
       refine Gro (Be rfl rfl) (Gro (Al rfl rfl) (Gr (Aj rfl rfl) (Af (Ar (S2 33 1 rfl rfl) (A7 rfl (fun c33 => ?_) (fun c33 => ?_))))))
       ·exact Ah (Ga rfl (Af (Ay (Ad (Av rfl rfl (I) Az ⟨by rw [show checkW kd wd mo = 1 from by unfold checkW; split <;> first | rfl | omega | (split <;> first | rfl | omega)], rfl⟩)))))
       ·refine A0 (Ai (Ax (Ah (Gf fld31_0 rfl (Gl ty3 ?_)))))
        refine Gr (Bf rfl rfl) (Gm rfl (A6 (d := 37) rfl (fun g37 => ?_) (fun g37 => ?_)))
        ·refine Gro (Aa fld31_2 rfl) (Gro (Aq ty3) ?_)
         refine Gro (Bb rfl rfl) (Gro (Ac rfl) (A6 (d := 41) rfl (fun g41 => ?_) (fun g41 => ?_)))
         ·exact Gpo (Gpo (Gpo (Gro (Al rfl rfl) (Gr (Al rfl rfl) (Gm rfl (Gpo (Gpo (Gpo (Gpo (Gpu (Gpu (Gpu (Gpo (Gr (Al rfl rfl) (Af (Ar (S1 56 rfl) (B6 rfl (Ah (Ga rfl (Af (Ay (Ad (Av rfl rfl (I) Az ⟨by rw [show checkW kd wd mo = 1 from by unfold checkW; split <;> first | rfl | omega | (split <;> first | rfl | omega)], rfl⟩)))))))))))))))))))))))
         ·refine Gro (Aa fld31_2 rfl) (Gro (Aq ty3) ?_)
          refine Gro (Bt rfl rfl) (Gro (Aj rfl rfl) (Gr (Al rfl rfl) (Gm rfl (A6 (d := 47) rfl (fun g47 => ?_) (fun g47 => ?_)))))
          ·exact Gpo (Gpo (Gpo (Gpo (Gpu (Gpu (Gpu (Gpo (Gr (Al rfl rfl) (Af (Ar (S1 56 rfl) (B6 rfl (Ah (Ga rfl (Af (Ay (Ad (Av rfl rfl (I) Az ⟨by rw [show checkW kd wd mo = 1 from by unfold checkW; split <;> first | rfl | omega | (split <;> first | rfl | omega)], rfl⟩)))))))))))))))))
          ·refine Gro (Aa fld31_0 rfl) (Gro (Aq ty3) ?_)
           refine Gro (Be rfl rfl) (Gro (Ac rfl) (A6 (d := 51) rfl (fun g51 => ?_) (fun g51 => ?_)))
           ·refine Gro (Aa fld31_2 rfl) (Gro (Aq ty3) ?_)
            refine Gro (Be rfl rfl) (Gro (Al rfl rfl) (Gr (Aj rfl rfl) (Af (Ar (S1 56 rfl) (A7 rfl (fun c56 => ?_) (fun c56 => ?_))))))
            ·exact Ah (Ga rfl (Af (Ay (Ad (Av rfl rfl (I) Az ⟨by rw [show checkW kd wd mo = 1 from by unfold checkW; split <;> first | rfl | omega | (split <;> first | rfl | omega)], rfl⟩)))))
            ·exact A0 (Ai (Ah (Ga rfl (Af (Ay (Av rfl rfl (I) Az ⟨by rw [show checkW kd wd mo = 0 from by unfold checkW; split <;> first | rfl | omega | (split <;> first | rfl | omega)], rfl⟩))))))
           ·exact Gpo (Gpo (Gpo (Gro (Aj rfl rfl) (Gr (Aj rfl rfl) (Af (Ar (S1 56 rfl) (C2 rfl (A0 (Ai (Ah (Ga rfl (Af (Ay (Av rfl rfl (I) Az ⟨by rw [show checkW kd wd mo = 0 from by unfold checkW; split <;> first | rfl | omega | (split <;> first | rfl | omega)], rfl⟩))))))))))))))
        ·refine Gpo (Gpo (Gpo (Gpo (Gpu (Gpu (Gpu (Gpo (Gr (Aj rfl rfl) (Gm rfl (Gro (Aa fld31_0 rfl) (Gro (Aq ty3) ?_)))))))))))
         refine Gro (Be rfl rfl) (Gro (Ac rfl) (A6 (d := 51) rfl (fun g51 => ?_) (fun g51 => ?_)))
         ·refine Gro (Aa fld31_2 rfl) (Gro (Aq ty3) ?_)
          refine Gro (Be rfl rfl) (Gro (Al rfl rfl) (Gr (Aj rfl rfl) (Af (Ar (S1 56 rfl) (A7 rfl (fun c56 => ?_) (fun c56 => ?_))))))
          ·exact Ah (Ga rfl (Af (Ay (Ad (Av rfl rfl (I) Az ⟨by rw [show checkW kd wd mo = 1 from by unfold checkW; split <;> first | rfl | omega | (split <;> first | rfl | omega)], rfl⟩)))))
          ·exact A0 (Ai (Ah (Ga rfl (Af (Ay (Av rfl rfl (I) Az ⟨by rw [show checkW kd wd mo = 0 from by unfold checkW; split <;> first | rfl | omega | (split <;> first | rfl | omega)], rfl⟩))))))
         ·exact Gpo (Gpo (Gpo (Gro (Aj rfl rfl) (Gr (Aj rfl rfl) (Af (Ar (S1 56 rfl) (C2 rfl (A0 (Ai (Ah (Ga rfl (Af (Ay (Av rfl rfl (I) Az ⟨by rw [show checkW kd wd mo = 0 from by unfold checkW; split <;> first | rfl | omega | (split <;> first | rfl | omega)], rfl⟩))))))))))))))
      ·refine Gpo (Gpo (Gpo (Gro (Aj rfl rfl) (Gr (Aj rfl rfl) (Af (Ar (S2 33 1 rfl rfl) (C2 rfl (A0 (Ai (Ax (Ah (Gf fld31_0 rfl (Gl ty3 ?_)))))))))))))
       refine Gr (Bf rfl rfl) (Gm rfl (A6 (d := 37) rfl (fun g37 => ?_) (fun g37 => ?_)))
       ·refine Gro (Aa fld31_2 rfl) (Gro (Aq ty3) ?_)
        refine Gro (Bb rfl rfl) (Gro (Ac rfl) (A6 (d := 41) rfl (fun g41 => ?_) (fun g41 => ?_)))
        ·exact Gpo (Gpo (Gpo (Gro (Al rfl rfl) (Gr (Al rfl rfl) (Gm rfl (Gpo (Gpo (Gpo (Gpo (Gpu (Gpu (Gpu (Gpo (Gr (Al rfl rfl) (Af (Ar (S1 56 rfl) (B6 rfl (Ah (Ga rfl (Af (Ay (Ad (Av rfl rfl (I) Az ⟨by rw [show checkW kd wd mo = 1 from by unfold checkW; split <;> first | rfl | omega | (split <;> first | rfl | omega)], rfl⟩)))))))))))))))))))))))
        ·refine Gro (Aa fld31_2 rfl) (Gro (Aq ty3) ?_)
         refine Gro (Bt rfl rfl) (Gro (Aj rfl rfl) (Gr (Al rfl rfl) (Gm rfl (A6 (d := 47) rfl (fun g47 => ?_) (fun g47 => ?_)))))
         ·exact Gpo (Gpo (Gpo (Gpo (Gpu (Gpu (Gpu (Gpo (Gr (Al rfl rfl) (Af (Ar (S1 56 rfl) (B6 rfl (Ah (Ga rfl (Af (Ay (Ad (Av rfl rfl (I) Az ⟨by rw [show checkW kd wd mo = 1 from by unfold checkW; split <;> first | rfl | omega | (split <;> first | rfl | omega)], rfl⟩)))))))))))))))))
         ·refine Gro (Aa fld31_0 rfl) (Gro (Aq ty3) ?_)
          refine Gro (Be rfl rfl) (Gro (Ac rfl) (A6 (d := 51) rfl (fun g51 => ?_) (fun g51 => ?_)))
          ·refine Gro (Aa fld31_2 rfl) (Gro (Aq ty3) ?_)
           refine Gro (Be rfl rfl) (Gro (Al rfl rfl) (Gr (Aj rfl rfl) (Af (Ar (S1 56 rfl) (A7 rfl (fun c56 => ?_) (fun c56 => ?_))))))
           ·exact Ah (Ga rfl (Af (Ay (Ad (Av rfl rfl (I) Az ⟨by rw [show checkW kd wd mo = 1 from by unfold checkW; split <;> first | rfl | omega | (split <;> first | rfl | omega)], rfl⟩)))))
           ·exact A0 (Ai (Ah (Ga rfl (Af (Ay (Av rfl rfl (I) Az ⟨by rw [show checkW kd wd mo = 0 from by unfold checkW; split <;> first | rfl | omega | (split <;> first | rfl | omega)], rfl⟩))))))
          ·exact Gpo (Gpo (Gpo (Gro (Aj rfl rfl) (Gr (Aj rfl rfl) (Af (Ar (S1 56 rfl) (C2 rfl (A0 (Ai (Ah (Ga rfl (Af (Ay (Av rfl rfl (I) Az ⟨by rw [show checkW kd wd mo = 0 from by unfold checkW; split <;> first | rfl | omega | (split <;> first | rfl | omega)], rfl⟩))))))))))))))
       ·refine Gpo (Gpo (Gpo (Gpo (Gpu (Gpu (Gpu (Gpo (Gr (Aj rfl rfl) (Gm rfl (Gro (Aa fld31_0 rfl) (Gro (Aq ty3) ?_)))))))))))
        refine Gro (Be rfl rfl) (Gro (Ac rfl) (A6 (d := 51) rfl (fun g51 => ?_) (fun g51 => ?_)))
        ·refine Gro (Aa fld31_2 rfl) (Gro (Aq ty3) ?_)
         refine Gro (Be rfl rfl) (Gro (Al rfl rfl) (Gr (Aj rfl rfl) (Af (Ar (S1 56 rfl) (A7 rfl (fun c56 => ?_) (fun c56 => ?_))))))
         ·exact Ah (Ga rfl (Af (Ay (Ad (Av rfl rfl (I) Az ⟨by rw [show checkW kd wd mo = 1 from by unfold checkW; split <;> first | rfl | omega | (split <;> first | rfl | omega)], rfl⟩)))))
         ·exact A0 (Ai (Ah (Ga rfl (Af (Ay (Av rfl rfl (I) Az ⟨by rw [show checkW kd wd mo = 0 from by unfold checkW; split <;> first | rfl | omega | (split <;> first | rfl | omega)], rfl⟩))))))
        ·exact Gpo (Gpo (Gpo (Gro (Aj rfl rfl) (Gr (Aj rfl rfl) (Af (Ar (S1 56 rfl) (C2 rfl (A0 (Ai (Ah (Ga rfl (Af (Ay (Av rfl rfl (I) Az ⟨by rw [show checkW kd wd mo = 0 from by unfold checkW; split <;> first | rfl | omega | (split <;> first | rfl | omega)], rfl⟩))))))))))))))
   ·refine Gpo (Gpo (Gpo (Gpo (Gpu (Gpu (Gpu (Gpo (Gr (Aj rfl rfl) (Gm rfl (Gro (Aa fld31_0 rfl) (Gro (Aq ty3) ?_)))))))))))
    refine Gro (Be rfl rfl) (Gro (Ac rfl) (A6 (d := 28) rfl (fun g28 => ?_) (fun g28 => ?_)))
    ·refine Gro (Aa fld31_1 rfl) (Gro (Aq ty3) ?_)
     refine Gro (Be rfl rfl) (Gro (Al rfl rfl) (Gr (Aj rfl rfl) (Af (Ar (S2 33 1 rfl rfl) (A7 rfl (fun c33 => ?_) (fun c33 => ?_))))))
     ·exact Ah (Ga rfl (Af (Ay (Ad (Av rfl rfl (I) Az ⟨by rw [show checkW kd wd mo = 1 from by unfold checkW; split <;> first | rfl | omega | (split <;> first | rfl | omega)], rfl⟩)))))
     ·refine A0 (Ai (Ax (Ah (Gf fld31_0 rfl (Gl ty3 ?_)))))
      refine Gr (Bf rfl rfl) (Gm rfl (A6 (d := 37) rfl (fun g37 => ?_) (fun g37 => ?_)))
      ·refine Gro (Aa fld31_2 rfl) (Gro (Aq ty3) ?_)
       refine Gro (Bb rfl rfl) (Gro (Ac rfl) (A6 (d := 41) rfl (fun g41 => ?_) (fun g41 => ?_)))
       ·exact Gpo (Gpo (Gpo (Gro (Al rfl rfl) (Gr (Al rfl rfl) (Gm rfl (Gpo (Gpo (Gpo (Gpo (Gpu (Gpu (Gpu (Gpo (Gr (Al rfl rfl) (Af (Ar (S1 56 rfl) (B6 rfl (Ah (Ga rfl (Af (Ay (Ad (Av rfl rfl (I) Az ⟨by rw [show checkW kd wd mo = 1 from by unfold checkW; split <;> first | rfl | omega | (split <;> first | rfl | omega)], rfl⟩)))))))))))))))))))))))
       ·refine Gro (Aa fld31_2 rfl) (Gro (Aq ty3) ?_)
        refine Gro (Bt rfl rfl) (Gro (Aj rfl rfl) (Gr (Al rfl rfl) (Gm rfl (A6 (d := 47) rfl (fun g47 => ?_) (fun g47 => ?_)))))
        ·exact Gpo (Gpo (Gpo (Gpo (Gpu (Gpu (Gpu (Gpo (Gr (Al rfl rfl) (Af (Ar (S1 56 rfl) (B6 rfl (Ah (Ga rfl (Af (Ay (Ad (Av rfl rfl (I) Az ⟨by rw [show checkW kd wd mo = 1 from by unfold checkW; split <;> first | rfl | omega | (split <;> first | rfl | omega)], rfl⟩)))))))))))))))))
        ·refine Gro (Aa fld31_0 rfl) (Gro (Aq ty3) ?_)
         refine Gro (Be rfl rfl) (Gro (Ac rfl) (A6 (d := 51) rfl (fun g51 => ?_) (fun g51 => ?_)))
         ·refine Gro (Aa fld31_2 rfl) (Gro (Aq ty3) ?_)
          refine Gro (Be rfl rfl) (Gro (Al rfl rfl) (Gr (Aj rfl rfl) (Af (Ar (S1 56 rfl) (A7 rfl (fun c56 => ?_) (fun c56 => ?_))))))
          ·exact Ah (Ga rfl (Af (Ay (Ad (Av rfl rfl (I) Az ⟨by rw [show checkW kd wd mo = 1 from by unfold checkW; split <;> first | rfl | omega | (split <;> first | rfl | omega)], rfl⟩)))))
          ·exact A0 (Ai (Ah (Ga rfl (Af (Ay (Av rfl rfl (I) Az ⟨by rw [show checkW kd wd mo = 0 from by unfold checkW; split <;> first | rfl | omega | (split <;> first | rfl | omega)], rfl⟩))))))
         ·exact Gpo (Gpo (Gpo (Gro (Aj rfl rfl) (Gr (Aj rfl rfl) (Af (Ar (S1 56 rfl) (C2 rfl (A0 (Ai (Ah (Ga rfl (Af (Ay (Av rfl rfl (I) Az ⟨by rw [show checkW kd wd mo = 0 from by unfold checkW; split <;> first | rfl | omega | (split <;> first | rfl | omega)], rfl⟩))))))))))))))
      ·refine Gpo (Gpo (Gpo (Gpo (Gpu (Gpu (Gpu (Gpo (Gr (Aj rfl rfl) (Gm rfl (Gro (Aa fld31_0 rfl) (Gro (Aq ty3) ?_)))))))))))
       refine Gro (Be rfl rfl) (Gro (Ac rfl) (A6 (d := 51) rfl (fun g51 => ?_) (fun g51 => ?_)))
       ·refine Gro (Aa fld31_2 rfl) (Gro (Aq ty3) ?_)
        refine Gro (Be rfl rfl) (Gro (Al rfl rfl) (Gr (Aj rfl rfl) (Af (Ar (S1 56 rfl) (A7 rfl (fun c56 => ?_) (fun c56 => ?_))))))
        ·exact Ah (Ga rfl (Af (Ay (Ad (Av rfl rfl (I) Az ⟨by rw [show checkW kd wd mo = 1 from by unfold checkW; split <;> first | rfl | omega | (split <;> first | rfl | omega)], rfl⟩)))))
        ·exact A0 (Ai (Ah (Ga rfl (Af (Ay (Av rfl rfl (I) Az ⟨by rw [show checkW kd wd mo = 0 from by unfold checkW; split <;> first | rfl | omega | (split <;> first | rfl | omega)], rfl⟩))))))
       ·exact Gpo (Gpo (Gpo (Gro (Aj rfl rfl) (Gr (Aj rfl rfl) (Af (Ar (S1 56 rfl) (C2 rfl (A0 (Ai (Ah (Ga rfl (Af (Ay (Av rfl rfl (I) Az ⟨by rw [show checkW kd wd mo = 0 from by unfold checkW; split <;> first | rfl | omega | (split <;> first | rfl | omega)], rfl⟩))))))))))))))
    ·refine Gpo (Gpo (Gpo (Gro (Aj rfl rfl) (Gr (Aj rfl rfl) (Af (Ar (S2 33 1 rfl rfl) (C2 rfl (A0 (Ai (Ax (Ah (Gf fld31_0 rfl (Gl ty3 ?_)))))))))))))
     refine Gr (Bf rfl rfl) (Gm rfl (A6 (d := 37) rfl (fun g37 => ?_) (fun g37 => ?_)))
     ·refine Gro (Aa fld31_2 rfl) (Gro (Aq ty3) ?_)
      refine Gro (Bb rfl rfl) (Gro (Ac rfl) (A6 (d := 41) rfl (fun g41 => ?_) (fun g41 => ?_)))
      ·exact Gpo (Gpo (Gpo (Gro (Al rfl rfl) (Gr (Al rfl rfl) (Gm rfl (Gpo (Gpo (Gpo (Gpo (Gpu (Gpu (Gpu (Gpo (Gr (Al rfl rfl) (Af (Ar (S1 56 rfl) (B6 rfl (Ah (Ga rfl (Af (Ay (Ad (Av rfl rfl (I) Az ⟨by rw [show checkW kd wd mo = 1 from by unfold checkW; split <;> first | rfl | omega | (split <;> first | rfl | omega)], rfl⟩)))))))))))))))))))))))
      ·refine Gro (Aa fld31_2 rfl) (Gro (Aq ty3) ?_)
       refine Gro (Bt rfl rfl) (Gro (Aj rfl rfl) (Gr (Al rfl rfl) (Gm rfl (A6 (d := 47) rfl (fun g47 => ?_) (fun g47 => ?_)))))
       ·exact Gpo (Gpo (Gpo (Gpo (Gpu (Gpu (Gpu (Gpo (Gr (Al rfl rfl) (Af (Ar (S1 56 rfl) (B6 rfl (Ah (Ga rfl (Af (Ay (Ad (Av rfl rfl (I) Az ⟨by rw [show checkW kd wd mo = 1 from by unfold checkW; split <;> first | rfl | omega | (split <;> first | rfl | omega)], rfl⟩)))))))))))))))))
       ·refine Gro (Aa fld31_0 rfl) (Gro (Aq ty3) ?_)
        refine Gro (Be rfl rfl) (Gro (Ac rfl) (A6 (d := 51) rfl (fun g51 => ?_) (fun g51 => ?_)))
        ·refine Gro (Aa fld31_2 rfl) (Gro (Aq ty3) ?_)
         refine Gro (Be rfl rfl) (Gro (Al rfl rfl) (Gr (Aj rfl rfl) (Af (Ar (S1 56 rfl) (A7 rfl (fun c56 => ?_) (fun c56 => ?_))))))
         ·exact Ah (Ga rfl (Af (Ay (Ad (Av rfl rfl (I) Az ⟨by rw [show checkW kd wd mo = 1 from by unfold checkW; split <;> first | rfl | omega | (split <;> first | rfl | omega)], rfl⟩)))))
         ·exact A0 (Ai (Ah (Ga rfl (Af (Ay (Av rfl rfl (I) Az ⟨by rw [show checkW kd wd mo = 0 from by unfold checkW; split <;> first | rfl | omega | (split <;> first | rfl | omega)], rfl⟩))))))
        ·exact Gpo (Gpo (Gpo (Gro (Aj rfl rfl) (Gr (Aj rfl rfl) (Af (Ar (S1 56 rfl) (C2 rfl (A0 (Ai (Ah (Ga rfl (Af (Ay (Av rfl rfl (I) Az ⟨by rw [show checkW kd wd mo = 0 from by unfold checkW; split <;> first | rfl | omega | (split <;> first | rfl | omega)], rfl⟩))))))))))))))
     ·refine Gpo (Gpo (Gpo (Gpo (Gpu (Gpu (Gpu (Gpo (Gr (Aj rfl rfl) (Gm rfl (Gro (Aa fld31_0 rfl) (Gro (Aq ty3) ?_)))))))))))
      refine Gro (Be rfl rfl) (Gro (Ac rfl) (A6 (d := 51) rfl (fun g51 => ?_) (fun g51 => ?_)))
      ·refine Gro (Aa fld31_2 rfl) (Gro (Aq ty3) ?_)
       refine Gro (Be rfl rfl) (Gro (Al rfl rfl) (Gr (Aj rfl rfl) (Af (Ar (S1 56 rfl) (A7 rfl (fun c56 => ?_) (fun c56 => ?_))))))
       ·exact Ah (Ga rfl (Af (Ay (Ad (Av rfl rfl (I) Az ⟨by rw [show checkW kd wd mo = 1 from by unfold checkW; split <;> first | rfl | omega | (split <;> first | rfl | omega)], rfl⟩)))))
       ·exact A0 (Ai (Ah (Ga rfl (Af (Ay (Av rfl rfl (I) Az ⟨by rw [show checkW kd wd mo = 0 from by unfold checkW; split <;> first | rfl | omega | (split <;> first | rfl | omega)], rfl⟩))))))
      ·exact Gpo (Gpo (Gpo (Gro (Aj rfl rfl) (Gr (Aj rfl rfl) (Af (Ar (S1 56 rfl) (C2 rfl (A0 (Ai (Ah (Ga rfl (Af (Ay (Av rfl rfl (I) Az ⟨by rw [show checkW kd wd mo = 0 from by unfold checkW; split <;> first | rfl | omega | (split <;> first | rfl | omega)], rfl⟩))))))))))))))
theorem RightW_ok (w lb sg : Int) :
    CallS Tryz.prog κ 251 [I64 (w), I64 (lb), I64 (sg)] I (fun r J => r = .bool (decide (rightW w lb sg)) ∧ I = J) := by
 refine Ce3 Tryz.func251 rfl rfl ?_
 refine Ah (Ga rfl (Af (Ah (Gm rfl (Gr (B7 rfl rfl) (Gm rfl (A6 (d := 9) rfl (fun g9 => ?_) (fun g9 => ?_))))))))
 ·refine Gro (Ac rfl) (Gro (Dn rfl rfl) (Gr (Al rfl rfl) (Gm rfl (A6 (d := 13) rfl (fun g13 => ?_) (fun g13 => ?_)))))
  ·refine Gro (Ac rfl) (Gro (B7 rfl rfl) (Gr (Al rfl rfl) (Gm rfl (A6 (d := 17) rfl (fun g17 => ?_) (fun g17 => ?_)))))
   ·refine Gro (Ac rfl) (Gro (Dn rfl rfl) (Gr (Al rfl rfl) (Gm rfl (A6 (d := 21) rfl (fun g21 => ?_) (fun g21 => ?_)))))
    ·refine Gro (Ac rfl) (Gro (Bf rfl rfl) (Gro (Ac rfl) (A6 (d := 24) rfl (fun g24 => ?_) (fun g24 => ?_))))
     ·exact Gpo (Gpo (Gro (Al rfl rfl) (Gr (Al rfl rfl) (Ga rfl (Af (Ar (S1 6 rfl) (Ay (Av rfl rfl (I) Az ⟨(by first | exact congrArg Value.bool (decide_eq_decide.2 (by unfold rightW; omega)) | exact congrArg Value.bool (decide_eq_true (by unfold rightW; omega)).symm | exact congrArg Value.bool (decide_eq_false (by unfold rightW; omega)).symm), rfl⟩))))))))
     ·exact Gro (Ac rfl) (Gro (Bf rfl rfl) (Gro (Aj rfl rfl) (Gr (Al rfl rfl) (Ga rfl (Af (Ar (S1 6 rfl) (Ay (Av rfl rfl (I) Az ⟨(by first | exact congrArg Value.bool (decide_eq_decide.2 (by unfold rightW; omega)) | exact congrArg Value.bool (decide_eq_true (by unfold rightW; omega)).symm | exact congrArg Value.bool (decide_eq_false (by unfold rightW; omega)).symm), rfl⟩))))))))
    ·exact Gpo (Gpo (Gpo (Gpu (Gpu (Gpo (Gr (Aj rfl rfl) (Ga rfl (Af (Ar (S1 6 rfl) (Ay (Av rfl rfl (I) Az ⟨(by first | exact congrArg Value.bool (decide_eq_decide.2 (by unfold rightW; omega)) | exact congrArg Value.bool (decide_eq_true (by unfold rightW; omega)).symm | exact congrArg Value.bool (decide_eq_false (by unfold rightW; omega)).symm), rfl⟩)))))))))))
   ·exact Gpo (Gpo (Gr (Aj rfl rfl) (Gm rfl (Gpo (Gpo (Gpo (Gpu (Gpu (Gpo (Gr (Aj rfl rfl) (Ga rfl (Af (Ar (S1 6 rfl) (Ay (Av rfl rfl (I) Az ⟨(by first | exact congrArg Value.bool (decide_eq_decide.2 (by unfold rightW; omega)) | exact congrArg Value.bool (decide_eq_true (by unfold rightW; omega)).symm | exact congrArg Value.bool (decide_eq_false (by unfold rightW; omega)).symm), rfl⟩)))))))))))))))
  ·exact Gpo (Gpo (Gr (Aj rfl rfl) (Gm rfl (Gpo (Gpo (Gr (Aj rfl rfl) (Gm rfl (Gpo (Gpo (Gpo (Gpu (Gpu (Gpo (Gr (Aj rfl rfl) (Ga rfl (Af (Ar (S1 6 rfl) (Ay (Av rfl rfl (I) Az ⟨(by first | exact congrArg Value.bool (decide_eq_decide.2 (by unfold rightW; omega)) | exact congrArg Value.bool (decide_eq_true (by unfold rightW; omega)).symm | exact congrArg Value.bool (decide_eq_false (by unfold rightW; omega)).symm), rfl⟩)))))))))))))))))))
 ·exact Gpo (Gpo (Gr (Aj rfl rfl) (Gm rfl (Gpo (Gpo (Gr (Aj rfl rfl) (Gm rfl (Gpo (Gpo (Gr (Aj rfl rfl) (Gm rfl (Gpo (Gpo (Gpo (Gpu (Gpu (Gpo (Gr (Aj rfl rfl) (Ga rfl (Af (Ar (S1 6 rfl) (Ay (Av rfl rfl (I) Az ⟨(by first | exact congrArg Value.bool (decide_eq_decide.2 (by unfold rightW; omega)) | exact congrArg Value.bool (decide_eq_true (by unfold rightW; omega)).symm | exact congrArg Value.bool (decide_eq_false (by unfold rightW; omega)).symm), rfl⟩)))))))))))))))))))))))
theorem From4_ok (n a c : Int) :
    CallS Tryz.prog κ 226 [I64 (n), I64 (a), I64 (c)] I (fun r J => r = .bool (decide (a ≤ n ∧ n ≤ c)) ∧ I = J) := by
 refine Ce3 Tryz.func226 rfl rfl ?_
 refine Ah (Ga rfl (Af (Ah (Gm rfl (Gm rfl (Gr (B7 rfl rfl) (Gm rfl (A6 (d := 10) rfl (fun g10 => ?_) (fun g10 => ?_)))))))))
 ·exact Gro (Ac rfl) (Gro (Ac rfl) (Gro (Dn rfl rfl) (Gr (Al rfl rfl) (Ga rfl (Af (Ar (S1 6 rfl) (Ay (Av rfl rfl (I) Az ⟨(by first | exact congrArg Value.bool (decide_eq_decide.2 (by skip; omega)) | exact congrArg Value.bool (decide_eq_true (by skip; omega)).symm | exact congrArg Value.bool (decide_eq_false (by skip; omega)).symm), rfl⟩))))))))
 ·exact Gpo (Gpo (Gpo (Gr (Aj rfl rfl) (Ga rfl (Af (Ar (S1 6 rfl) (Ay (Av rfl rfl (I) Az ⟨(by first | exact congrArg Value.bool (decide_eq_decide.2 (by skip; omega)) | exact congrArg Value.bool (decide_eq_true (by skip; omega)).symm | exact congrArg Value.bool (decide_eq_false (by skip; omega)).symm), rfl⟩))))))))
theorem Attr4_ok (w lb sg : Int) :
    CallS Tryz.prog κ 205 [I64 (w), I64 (lb), I64 (sg)] I (fun r J => r = I64 (if rightW w lb sg then 0 else 1) ∧ I = J) := by
 refine Ce3 Tryz.func205 rfl rfl ?_
 refine Ah (Ga rfl (Af (Ax (Ah (Gm rfl (Gc0 (Ap call226 rfl rfl (From4_ok w 1 1000)) ?_))))))
 refine Gr (Cm rfl) (Gm rfl (A6 (d := 10) rfl (fun g10 => ?_) (fun g10 => ?_)))
 ·exact Gpo (Gpo (Gpo (Gr (Al rfl rfl) (Gm rfl (Gpo (Gpo (Gpo (Gpu (Gpu (Gpo (Gr (Al rfl rfl) (Af (Ar (S1 22 rfl) (B6 rfl (Ah (Ga rfl (Af (Ay (Ad (Av rfl rfl (I) Az ⟨by rw [if_neg (by unfold rightW; omega)], rfl⟩))))))))))))))))))))
 ·refine Gro (Ac rfl) (Dv (Cc rfl rfl rfl) (Ap call226 rfl rfl (From4_ok lb 0 15)) ?_)
  rintro _ _ ⟨_, _, ⟨rfl, rfl⟩, rfl, rfl⟩
  refine Gro (Cm rfl) (Gr (Aj rfl rfl) (Gm rfl (A6 (d := 15) rfl (fun g15 => ?_) (fun g15 => ?_))))
  ·exact Gpo (Gpo (Gpo (Gpu (Gpu (Gpo (Gr (Al rfl rfl) (Af (Ar (S1 22 rfl) (B6 rfl (Ah (Ga rfl (Af (Ay (Ad (Av rfl rfl (I) Az ⟨by rw [if_neg (by unfold rightW; omega)], rfl⟩)))))))))))))))
  ·refine Gro (Ac rfl) (Gro (Be rfl rfl) (Gro (Ac rfl) (A6 (d := 18) rfl (fun g18 => ?_) (fun g18 => ?_))))
   ·refine Gro (Ac rfl) (Gro (Be rfl rfl) (Gro (Al rfl rfl) (Gr (Aj rfl rfl) (Af (Ar (S1 22 rfl) (A7 rfl (fun c22 => ?_) (fun c22 => ?_)))))))
    ·exact Ah (Ga rfl (Af (Ay (Ad (Av rfl rfl (I) Az ⟨by rw [if_neg (by unfold rightW; omega)], rfl⟩)))))
    ·exact A0 (Ai (Ah (Ga rfl (Af (Ay (Av rfl rfl (I) Az ⟨by rw [if_pos (by unfold rightW; omega)], rfl⟩))))))
   ·exact Gpo (Gpo (Gro (Aj rfl rfl) (Gr (Aj rfl rfl) (Af (Ar (S1 22 rfl) (C2 rfl (A0 (Ai (Ah (Ga rfl (Af (Ay (Av rfl rfl (I) Az ⟨by rw [if_pos (by unfold rightW; omega)], rfl⟩)))))))))))))
theorem OrderL_ok (a c : Lk) :
    CallS Tryz.prog κ 255 [.agg #[I64 (a.u), I64 (a.v), I64 (a.w), I64 (a.lb), I64 (a.sg), I64 (a.tm)], .agg #[I64 (c.u), I64 (c.v), I64 (c.w), I64 (c.lb), I64 (c.sg), I64 (c.tm)]] I (fun r J => r = I64 (Lk.cmp a c) ∧ I = J) := by
 refine Ce2 Tryz.func255 rfl rfl ?_
 refine Ah (Ge1 (Bd (cs := [_, _, _, _, _, _]) rfl rfl rfl) fun b1 => Ge1 (Bd (cs := [_, _, _, _, _, _]) rfl rfl rfl) fun b2 => Ga rfl (Af (Ax (Bj mixed (Br (blk b2 [I64 (c.u), I64 (c.v), I64 (c.w), I64 (c.lb), I64 (c.sg), I64 (c.tm)] 146 :: blk b1 [I64 (a.u), I64 (a.v), I64 (a.w), I64 (a.lb), I64 (a.sg), I64 (a.tm)] 146 :: I) 12 (Dr 0 rfl (Aa fld146_0 rfl) (Dr 1 rfl (Aq ty3) ?_)))))))
 refine Dr 2 rfl (Aa fld146_0 rfl) (Dr 3 rfl (Aq ty3) ?_)
 refine Dr 5 rfl (Aa fld146_1 rfl) (Dr 6 rfl (Aq ty3) ?_)
 refine Dr 7 rfl (Aa fld146_1 rfl) (Dr 8 rfl (Aq ty3) ?_)
 refine Ds1 4 (Sc0 rfl (Ap call225 rfl rfl (Compare_ok a.u c.u)) ?_)
 refine Ds1 9 (Sc0 rfl (Ap call225 rfl rfl (Compare_ok a.v c.v)) ?_)
 refine Ds1 10 (Se1 rfl (B0 (α := Int) (cs := [_, _]) (xs := [cmpI a.u c.u, cmpI a.v c.v]) Ao ty3 rfl rfl dc dc rfl rfl rfl rfl) fun ad3 => ?_)
 refine Ds1 11 (Sc0 rfl (Ap call224 rfl rfl (Or_ok Bo)) ?_)
 refine Db kr ?_
 refine A.read (i := 12) kr rfl (B9 rfl) rfl rfl (A9 rfl) ?_
 refine Dc kr ?_
 exact Ai (Ar (S1 4 rfl) (Ay (Av rfl rfl (I) Az ⟨by rw [show Lk.cmp a c = Pt.cmp ⟨a.u, a.v⟩ ⟨c.u, c.v⟩ from rfl, ← orL_cmp], rfl⟩)))
theorem Edge5_ok (l : Lk) :
    CallS Tryz.prog κ 130 [.agg #[I64 (l.u), I64 (l.v), I64 (l.w), I64 (l.lb), I64 (l.sg), I64 (l.tm)]] I (fun r J => r = .agg #[I64 l.p.u, I64 l.p.v] ∧ I = J) := by
 refine Ce1 Tryz.func130 rfl rfl ?_
 refine Ah (Ge1 (Bd (cs := [_, _, _, _, _, _]) rfl rfl rfl) fun b1 => Ge1 (A4 ty135 rfl) fun b2 => Af (Ah (Gf fld146_0 rfl (Gl ty3 ?_))))
 refine Gf fld146_1 rfl (Gl ty3 ?_)
 refine Gr (Bg (cells := [_, _]) ty135 Tryz.underlying135 pl135 rfl rfl) (Ge0 (B4 ty135) ?_)
 exact Af (Ay (Dh rfl ty135 rfl mm rfl (I) Az ⟨rfl, rfl⟩))
end Go.Sl
namespace Go.Sl
end Go.Sl
namespace Go.Sl
open Go.Proofs
set_option maxRecDepth 4000
theorem at_drop {α : Type} [Inhabited α] (xs : List α) (l : Nat) (i : Int) (h0 : 0 ≤ i) : at_ (xs.drop l) i = at_ xs ((l : Int) + i) := by
 unfold at_
 rw [List.getD_eq_getElem?_getD, List.getD_eq_getElem?_getD, List.getElem?_drop]
 congr 2; omega
end Go.Sl
