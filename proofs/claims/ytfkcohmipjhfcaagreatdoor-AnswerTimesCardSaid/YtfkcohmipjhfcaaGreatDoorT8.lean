/- A part of the proofs of statements of this seat: contracts of functions, and the plain laws that they lean on. No conditions. -/
import Derived.Test.YtfkcohmipjhfcaaGreatDoorT7
set_option linter.unusedVariables false
set_option linter.unusedSimpArgs false
set_option linter.unusedSectionVars false
namespace Go.Sl
open Go.Proofs
set_option maxRecDepth 4000
variable {κ : Ctx} {I : List Item}
theorem ov324 : ∀ args w, (callFunc 324 args).run Tryz.prog w = ((Extern.SlicesOverlaps.overlaps #[109, 109] #[4] args).run Tryz.prog w).andThen fun v w' => .ok (.value v) w' := fun args w => run_callFunc_extern (e := Extern.SlicesOverlaps.overlaps #[109, 109] #[4]) Tryz.func324 kr kr kr kr args w
set_option maxHeartbeats 8000000 in
theorem InsertL_ok {a va : Option Addr} {c vcp i : Nat} {xs ys : List Lk} (hi : i ≤ xs.length) (hy : 0 < ys.length) (hsz : xs.length + ys.length ≤ 1000000000) :
    CallS Tryz.prog κ 303 [.slice a xs.length c, I64 ((i : Int)), .slice va ys.length vcp] (vc 146 (.slice a xs.length c) (xs) :: vc 146 (.slice va ys.length vcp) (ys) :: I) (fun r J => ∃ a' c', r = .slice a' (List.take i xs ++ ys ++ List.drop i xs).length c' ∧ J = vc 146 (.slice a' (List.take i xs ++ ys ++ List.drop i xs).length c') (List.take i xs ++ ys ++ List.drop i xs) :: I) := by
 refine Bz (vc.cap List.mem_cons_self) fun hcap => ?_
 have hRl : (List.take i xs ++ ys ++ List.drop i xs).length = xs.length + ys.length := by simp only [List.length_append, List.length_take, List.length_drop]; omega
 refine Ce3 Tryz.func303 rfl rfl ?_
 refine Ah (Ga rfl (Af (Ah (Gm rfl (Gm rfl (Gr (Runs.lo (α := Lk) (xs := xs) (l := i) Ak ty146 rfl rfl om Bo lat) (Af (Ah (Gm rfl (Gr (B2 Ak rfl) (Ga rfl (Af (Ax (Ah (Gm rfl (Gr (Bf rfl rfl) (Af (A7 rfl (fun c16 => ?_) (fun c16 => ?_)))))))))))))))))))
 ·exact absurd c16 om
 ·refine A0 (Ai (Ah (Gm rfl (Gr (B2 Ak rfl) (Ga rfl (Af (Ar (S5 8 7 0 1 2 rfl rfl rfl rfl rfl) (Ax (Ah (Gm rfl (Gm rfl (Gr (Bf rfl rfl) (Af (A7 rfl (fun c22 => ?_) (fun c22 => ?_)))))))))))))))
  ·refine Ah (Gm rfl (Gm rfl (Ge2 (B5 (α := Lk) (e := 146) (xs := xs) (ys := ys) Ak ty146 rfl rfl rfl mm Bo om dc rfl (fun _ _ => am)) fun ad1 cp2 => ?_)))
   refine Ga rfl (Af (Ay (Ad ?_)))
   have hR : List.take i xs ++ ys ++ List.drop i xs = xs ++ ys := by rw [List.take_of_length_le om, List.drop_eq_nil_of_le om, List.append_nil]
   exact Av rfl rfl (vc 146 (.slice ad1 (List.take i xs ++ ys ++ List.drop i xs).length cp2) (List.take i xs ++ ys ++ List.drop i xs) :: I) (by rw [hR]; exact Bw) ⟨ad1, cp2, by rw [hR], rfl⟩
  ·refine A0 (Ai (Ax (Ah (Gm rfl (Gm rfl (Gr (Rad rfl rfl) (Gm rfl (Gr (Runs.caps Ak rfl) (Gr (Bt rfl rfl) (Af (Ar (S6 31 8 7 0 1 2 rfl rfl rfl rfl rfl rfl) (A7 rfl (fun c31 => ?_) (fun c31 => ?_)))))))))))))
   ·refine Ah (Gm rfl (Gm rfl (Gr (Runs.hiraw (h := i) Ak ty146 rfl rfl om om) (Gm rfl (Gm rfl (Gr (Rad rfl rfl) (Gm rfl (Gr (Rsu rfl rfl) (Ge2 (Eff.grow (α := Lk) (xs := xs) (k := xs.length + ys.length - i) Ak Bl ty146 rfl rfl rfl om Bo om om om om dc rfl) fun ad3 cp4 => ?_)))))))))
    refine Ga rfl (G.pull (p := (List.take i xs ++ List.replicate (xs.length + ys.length - i) (default : Lk)).length ≤ cp4) (vc.cap mm) fun hcap2 => ?_)
    have hZl : (List.take i xs ++ List.replicate (xs.length + ys.length - i) (default : Lk)).length = xs.length + ys.length := by simp only [List.length_append, List.length_take, List.length_replicate]; omega
    refine Af (Ar (S5 9 7 0 1 2 rfl rfl rfl rfl rfl) (Ah (Gm rfl (Gm rfl (Gr (Runs.lo (α := Lk) (xs := List.take i xs ++ List.replicate (xs.length + ys.length - i) (default : Lk)) (l := i) Ak ty146 rfl rfl om Bo lat) (Gm rfl (Ge0 (Eff.copyT (α := Lk) (k := i) (q := ys.length) (R := List.take i xs ++ ys ++ List.replicate (xs.length - i) (default : Lk)) (n := (i + (xs.length + ys.length - i))) Ak ty146 rfl lat rfl Bo lat lat rfl (ins1 hi) lat am) ?_)))))))
    refine Af (Ax (Bj mixed (Br (I) 9 (Dr 0 rfl (Ac rfl) (Dr 1 rfl (Ac rfl) (Dr 2 rfl (Ac rfl) (Dr 3 rfl (Rad rfl rfl) (Dr 4 rfl (D0 (l := (i + ys.length)) Ak ty146 rfl rfl om om om) (Dr 5 rfl (Ac rfl) (Dr 6 rfl (Ac rfl) (Dr 7 rfl (D0 (l := i) Ak ty146 rfl rfl om om om) (Ds1 8 (Se0 rfl (Eff.copyT (α := Lk) (k := (i + ys.length)) (q := (xs.length - i)) (R := List.take i xs ++ ys ++ List.drop i xs) (n := (i + (xs.length + ys.length - i))) Ak ty146 rfl lat rfl (Sl.dropn (Sl.vec (xs := xs) mm) om om) lat lat rfl (ins2 hi) lat am) ?_)))))))))))))
    exact Dz (Ai (Ar (S1 9 rfl) (Ah (Gm rfl (Ga rfl (Af (Ay (Ad (Av rfl rfl (vc 146 (.slice ad3 (List.take i xs ++ ys ++ List.drop i xs).length cp4) (List.take i xs ++ ys ++ List.drop i xs) :: I) (by rw [show (List.take i xs ++ ys ++ List.drop i xs).length = i + (xs.length + ys.length - i) by omega]; exact Bw) ⟨ad3, cp4, by rw [show (List.take i xs ++ ys ++ List.drop i xs).length = i + (xs.length + ys.length - i) by omega], rfl⟩)))))))))
   ·refine A0 (Ai (Ah (Gm rfl (Gm rfl (Gm rfl (Gr (Rad rfl rfl) (Gr (Runs.hiraw (h := xs.length + ys.length) Ak ty146 rfl rfl om om) (Ga rfl (G.room (h := xs.length + ys.length) (by repeat (first | exact AtF.head _ _ | apply AtF.tail)) rfl om om (fun js hjs => ?_))))))))))
    show G Tryz.prog κ _ _ _ _ ([(0, .slice a (xs.length + ys.length) c), (60, .slice a (xs.length + ys.length) c), (59, I64 (((xs.length : Nat) : Int) + ((ys.length : Nat) : Int))), (58, I64 (((ys.length : Nat) : Int))), (57, I64 (((xs.length : Nat) : Int))), (56, .slice a xs.length c), (31, .bool (decide ((c : Int) < (((xs.length : Nat) : Int) + ((ys.length : Nat) : Int))))), (8, I64 (((xs.length : Nat) : Int))), (7, I64 (((ys.length : Nat) : Int))), (0, .slice a xs.length c), (1, I64 ((i : Int))), (2, .slice va ys.length vcp)] : Env) (vec 146 (Enc.sz Lk) (.slice a (xs.length + ys.length) c) (xs.length + ys.length) (cells xs ++ js) :: vc 146 (.slice va ys.length vcp) (ys) :: I)
    refine Af (Ax (Ah (Gm rfl (Gm rfl (Gm rfl (Gm rfl (Gr (Rad rfl rfl) (Gr (D0 (l := (i + ys.length)) Ak ty146 rfl rfl om om om) (Ge0 (Eff.overlaps (k := i + ys.length) ov324 Ak ty146 rfl rfl om om om (show Fit κ _ (vc 146 (.slice va ys.length vcp) ys :: vec 146 (Enc.sz Lk) (.slice a (xs.length + ys.length) c) (xs.length + ys.length) (cells xs ++ js) :: I) from Fit.sp (Sp.pick (Pick.tail _ (Pick.head _ _)) (Sp.refl _))) (Nat.mul_pos om Enc.pos) rfl) ?_)))))))))
    refine Gr (Cl rfl) (Af (Ar (S6 68 0 8 7 1 2 rfl rfl rfl rfl rfl rfl) (B6 rfl (Ax (Bj mixed (Br (I) 9 (Dr 0 rfl (Ac rfl) (Dr 1 rfl (Ac rfl) (Dr 2 rfl (Ac rfl) (Dr 3 rfl (Rad rfl rfl) (Dr 4 rfl (D0 (l := (i + ys.length)) Ak ty146 rfl rfl om om om) (Dr 5 rfl (Ac rfl) (Dr 6 rfl (Ac rfl) (Dr 7 rfl (D0 (l := i) Ak ty146 rfl rfl om om om) (Ds1 8 (Se0 rfl (Eff.copyR (sz := Enc.sz Lk) (n := xs.length + ys.length) (cs := (cells xs ++ js)) (k := (i + ys.length)) (q := (xs.length - i)) Ak ty146 rfl om rfl (SlRd.dropR (SlRd.vec mm) om) om om (ins_one hi) rfl am) ?_))))))))))))))))
    show D Tryz.prog κ _ _ _ _ _ _ _ ([(77, I64 ((((xs.length - i) : Nat) : Int))), (76, .slice (adrop a c i (Enc.sz Lk)) ((xs.length + ys.length) - i) (c - i)), (75, I64 ((i : Int))), (74, .slice a (xs.length + ys.length) c), (73, .slice (adrop a c (i + ys.length) (Enc.sz Lk)) ((xs.length + ys.length) - (i + ys.length)) (c - (i + ys.length))), (72, I64 ((i : Int) + ((ys.length : Nat) : Int))), (71, I64 (((ys.length : Nat) : Int))), (70, I64 ((i : Int))), (69, .slice a (xs.length + ys.length) c), (68, .bool true), (0, .slice a (xs.length + ys.length) c), (8, I64 (((xs.length : Nat) : Int))), (7, I64 (((ys.length : Nat) : Int))), (1, I64 ((i : Int))), (2, .slice va ys.length vcp)] : Env) (vec 146 (Enc.sz Lk) (.slice a (xs.length + ys.length) c) (xs.length + ys.length) (List.take ((i + ys.length) * Enc.sz Lk) (cells xs ++ js) ++ List.take ((xs.length - i) * Enc.sz Lk) (List.drop (i * Enc.sz Lk) (cells xs ++ js)) ++ List.drop ((i + ys.length) * Enc.sz Lk + (xs.length - i) * Enc.sz Lk) (cells xs ++ js)) :: vc 146 (.slice va ys.length vcp) (ys) :: I)
    refine Dz (Ai (Ar (S3 0 1 2 rfl rfl rfl) (Ah (Gm rfl (Gm rfl (Gr (D0 (l := i) Ak ty146 rfl rfl om om om) (Gm rfl (Ge0 (Eff.copyR (sz := Enc.sz Lk) (n := xs.length + ys.length) (cs := (List.take ((i + ys.length) * Enc.sz Lk) (cells xs ++ js) ++ List.take ((xs.length - i) * Enc.sz Lk) (List.drop (i * Enc.sz Lk) (cells xs ++ js)) ++ List.drop ((i + ys.length) * Enc.sz Lk + (xs.length - i) * Enc.sz Lk) (cells xs ++ js))) (k := i) (q := ys.length) Ak ty146 rfl om rfl (show Sl κ _ (.slice va ys.length vcp) ys from (Sl.vec (e := 146) (xs := ys) mm)) om om (fun u hu => cells_one ys u (List.mem_of_mem_take hu)) rfl am) ?_))))))))
    show G Tryz.prog κ _ _ _ _ ([(82, I64 (((ys.length : Nat) : Int))), (81, .slice va ys.length vcp), (80, .slice (adrop a c i (Enc.sz Lk)) ((xs.length + ys.length) - i) (c - i)), (79, I64 ((i : Int))), (78, .slice a (xs.length + ys.length) c), (0, .slice a (xs.length + ys.length) c), (1, I64 ((i : Int))), (2, .slice va ys.length vcp)] : Env) (vec 146 (Enc.sz Lk) (.slice a (xs.length + ys.length) c) (xs.length + ys.length) (List.take (i * Enc.sz Lk) (List.take ((i + ys.length) * Enc.sz Lk) (cells xs ++ js) ++ List.take ((xs.length - i) * Enc.sz Lk) (List.drop (i * Enc.sz Lk) (cells xs ++ js)) ++ List.drop ((i + ys.length) * Enc.sz Lk + (xs.length - i) * Enc.sz Lk) (cells xs ++ js)) ++ List.take (ys.length * Enc.sz Lk) (cells ys) ++ List.drop (i * Enc.sz Lk + ys.length * Enc.sz Lk) (List.take ((i + ys.length) * Enc.sz Lk) (cells xs ++ js) ++ List.take ((xs.length - i) * Enc.sz Lk) (List.drop (i * Enc.sz Lk) (cells xs ++ js)) ++ List.drop ((i + ys.length) * Enc.sz Lk + (xs.length - i) * Enc.sz Lk) (cells xs ++ js))) :: vc 146 (.slice va ys.length vcp) (ys) :: I)
    refine Af (Ah (Gm rfl (Ga rfl (Af (Ay (Ad ?_))))))
    have hC : (List.take (i * Enc.sz Lk) (List.take ((i + ys.length) * Enc.sz Lk) (cells xs ++ js) ++ List.take ((xs.length - i) * Enc.sz Lk) (List.drop (i * Enc.sz Lk) (cells xs ++ js)) ++ List.drop ((i + ys.length) * Enc.sz Lk + (xs.length - i) * Enc.sz Lk) (cells xs ++ js)) ++ List.take (ys.length * Enc.sz Lk) (cells ys) ++ List.drop (i * Enc.sz Lk + ys.length * Enc.sz Lk) (List.take ((i + ys.length) * Enc.sz Lk) (cells xs ++ js) ++ List.take ((xs.length - i) * Enc.sz Lk) (List.drop (i * Enc.sz Lk) (cells xs ++ js)) ++ List.drop ((i + ys.length) * Enc.sz Lk + (xs.length - i) * Enc.sz Lk) (cells xs ++ js))) = cells (List.take i xs ++ ys ++ List.drop i xs) := ins_cells hi hjs
    exact Av rfl rfl (vc 146 (.slice a (List.take i xs ++ ys ++ List.drop i xs).length c) (List.take i xs ++ ys ++ List.drop i xs) :: I) (by rw [hC]; show Fit κ _ (vec 146 _ (.slice a (List.take i xs ++ ys ++ List.drop i xs).length c) (List.take i xs ++ ys ++ List.drop i xs).length (cells (List.take i xs ++ ys ++ List.drop i xs)) :: I); rw [hRl]; exact Bw) ⟨a, c, by rw [hRl], rfl⟩
theorem InsertL_two {a va : Option Addr} {n m c vcp i : Nat} {xs ys : List Lk} {K : List Item} (hf : Fit κ I (vc 146 (.slice a n c) xs :: vc 146 (.slice va m vcp) ys :: K)) (hn : n = xs.length) (hm : m = ys.length) (hi : i ≤ xs.length) (hy : 0 < ys.length) (hsz : xs.length + ys.length ≤ 1000000000) :
  CallS Tryz.prog κ 303 [.slice a n c, I64 (i : Int), .slice va m vcp] I (fun r J => ∃ a' c', r = .slice a' (List.take i xs ++ ys ++ List.drop i xs).length c' ∧ J = vc 146 (.slice a' (List.take i xs ++ ys ++ List.drop i xs).length c') (List.take i xs ++ ys ++ List.drop i xs) :: K) := by
 subst hn hm
 exact Cn hf (InsertL_ok hi hy hsz)
theorem BSearchL {v : Value} {xs : List Lk} (hl : Sl κ I v xs) (x : Lk) {g : FuncId} {cp_ : List Value} {cf : Lk → Lk → Int} (hcb : Cmps Tryz.prog κ I g cp_ cf) (hsz : xs.length ≤ 1000000000000) :
    CallS Tryz.prog κ 302 [v, .agg #[I64 (x.u), I64 (x.v), I64 (x.w), I64 (x.lb), I64 (x.sg), I64 (x.tm)], .func (.func g) #[] cp_.toArray] I (fun r J => ∃ i b, r = .tuple #[I64 ((i : Nat) : Int), .bool b] ∧ BFound cf xs x i b ∧ I = J) := by
 refine Bz hl.le fun hmax => ?_
 refine Ce3 Tryz.func302 rfl rfl ?_
 refine Ah (Ge1 (Bd (cs := [_, _, _, _, _, _]) rfl rfl rfl) fun b1 => Ga rfl (Ga rfl (Af (Ah (Gm rfl (Gr (Bs (α := Lk) (xs := xs) Ak rfl (Bh hl)) (Ga rfl (Af (Ah (Gm rfl (Ga rfl (Ga rfl (Af (Ax (A5 (Bx (σ := Nat × Nat) (fun s => ([(0, v), (2, .func (.func g) #[] cp_.toArray), (4, .pointer (some ⟨b1, 0, none⟩)), (8, I64 (((xs.length : Nat) : Int))), (9, I64 (((s.1 : Nat) : Int))), (10, I64 (((s.2 : Nat) : Int)))] : Env)) (fun s => blk b1 [I64 (x.u), I64 (x.v), I64 (x.w), I64 (x.lb), I64 (x.sg), I64 (x.tm)] 146 :: I) (fun s => (s.1 ≤ s.2) ∧ (s.2 ≤ xs.length) ∧ (0 < s.1 → cf (at_ xs ((s.1 : Int) - 1)) x < 0) ∧ (s.2 < xs.length → ¬ cf (at_ xs (s.2 : Int)) x < 0)) (fun s => s.2 - s.1) (0, xs.length) (show ((0 : Nat) ≤ (xs.length : Nat)) ∧ ((xs.length : Nat) ≤ xs.length) ∧ (0 < (0 : Nat) → cf (at_ xs (((0 : Nat) : Int) - 1)) x < 0) ∧ ((xs.length : Nat) < xs.length → ¬ cf (at_ xs ((xs.length : Nat) : Int)) x < 0) from ⟨om, om, (fun h => absurd h dc), (fun h => absurd h om)⟩) (Ab rfl (Ab rfl (Ab rfl (Ab rfl (Ab Cg (Ab Cg Bp)))))) (show Fit κ _ (blk b1 [I64 (x.u), I64 (x.v), I64 (x.w), I64 (x.lb), I64 (x.sg), I64 (x.tm)] 146 :: I) from A3) ?_))))))))))))))))
 rintro ⟨i, j⟩ hp
 dsimp only at hp ⊢
 obtain ⟨hij, hj, hlo, hhi⟩ := hp
 refine Ax (Ah (Gm rfl (Gm rfl (Gr (Bb rfl rfl) (Af (A7 rfl (fun c17 => ?_) (fun c17 => ?_)))))))
 ·refine A0 (Ai (A5 (Ah (Gm rfl (Gm rfl (Gr (Rad rfl rfl) (Gr (Runs.convU Bl Tryz.underlying181 rfl om) (Gr (Runs.shr1 rfl rfl) (Gr (Runs.convI Tryz.underlying181 Bl rfl (by unfold InR; omega)) (Ga rfl (Af (Ar (S7 11 0 2 4 8 9 10 rfl rfl rfl rfl rfl rfl rfl) (Ax (Bj mixed (Br (blk b1 [I64 (x.u), I64 (x.v), I64 (x.w), I64 (x.lb), I64 (x.sg), I64 (x.tm)] 146 :: I) 8 (Dr 0 rfl (Ac rfl) (Dr 1 rfl (Ac rfl) (Dr 2 rfl (Ac rfl) (Dr 3 rfl (A8 (α := Lk) (xs := xs) Ak ty146 rfl rfl (Bh hl) om om) (Dr 4 rfl (Bq (α := Lk) (xs := xs) ty146 rfl (Bh hl) om om) (Dr 5 rfl (Bk (vs := [_, _, _, _, _, _]) ty146) ?_)))))))))))))))))))))
  refine Ds1 6 (Se rfl (Ct hcb.1 (first := []) (caps := cp_) rfl rfl rfl (hcb.2 (at_ xs (((i : Int) + (j : Int)) / 2)) x _ Az)) ?_)
  rintro _ _ ⟨_, _, ⟨rfl, rfl⟩, rfl, rfl⟩
  refine ⟨A3, ?_⟩
  refine Dr 7 rfl (Bb rfl rfl) (Dz (Ai (Ar (S8 31 11 0 2 4 8 9 10 rfl rfl rfl rfl rfl rfl rfl rfl) (A7 rfl (fun c31 => ?_) (fun c31 => ?_)))))
  ·exact A2 (Gm rfl (Gr (Rad rfl rfl) (Ga rfl (Bi (Am (B8 (((i + j) / 2 + 1), (j)) (by dsimp only; exact ⟨om, om, (fun _ => by rw [show (((i + j) / 2 + 1 : Nat) : Int) - 1 = ((i : Int) + (j : Int)) / 2 by omega]; exact c31), hhi⟩)))))))
  ·exact A2 (Gm rfl (Ga rfl (Bi (Am (B8 ((i), ((i + j) / 2)) (by dsimp only; exact ⟨om, om, hlo, (fun _ => by rw [show (((i + j) / 2 : Nat) : Int) = ((i : Int) + (j : Int)) / 2 by omega]; exact c31)⟩))))))
 ·refine Bu (As (As (Ba (Ai (Ax (Bj mixed (Br (blk b1 [I64 (x.u), I64 (x.v), I64 (x.w), I64 (x.lb), I64 (x.sg), I64 (x.tm)] 146 :: I) 16 (Dr 0 rfl (Ac rfl) (Dr 1 rfl (Ac rfl) (Dr 2 rfl (Ac rfl) (Dr 3 rfl (Bb rfl rfl) (Dr 4 rfl (Ac rfl) (Dl (d := 39) rfl (fun g39 => ?_) (fun g39 => ?_))))))))))))))
  ·refine Dro 5 rfl (Ac rfl) (Dro 6 rfl (Ac rfl) (Dro 7 rfl (Ac rfl) (Dro 8 rfl (A8 (α := Lk) (xs := xs) Ak ty146 rfl rfl (Bh hl) om om) (Dro 9 rfl (Bq (α := Lk) (xs := xs) ty146 rfl (Bh hl) om om) (Dro 10 rfl (Bk (vs := [_, _, _, _, _, _]) ty146) ?_)))))
   refine Ds1 11 (Se rfl (Ct hcb.1 (first := []) (caps := cp_) rfl rfl rfl (hcb.2 (at_ xs (i : Int)) x _ Az)) ?_)
   rintro _ _ ⟨_, _, ⟨rfl, rfl⟩, rfl, rfl⟩
   refine ⟨A3, ?_⟩
   refine Dro 12 rfl (Bf rfl rfl) (Dr 13 rfl (Al rfl rfl) (Dr 14 rfl (A9 rfl) (Dr 15 rfl (A9 rfl) (Dz (Ai (Ar (S2 7 6 rfl rfl) (Ay ?_)))))))
   have hie : i = j := by omega
   subst hie
   exact C6 rfl rfl rfl (I) Az ⟨i, _, rfl, ⟨hj, hlo, hhi, (decide_eq_decide.2 ⟨fun h => ⟨by omega, h⟩, fun h => h.2⟩)⟩, rfl⟩
  ·refine Dpo 5 rfl (Dpo 6 rfl (Dpo 7 rfl (Dpo 8 rfl (Dpo 9 rfl (Dpo 10 rfl (Dpo 11 rfl (Dpo 12 rfl (Dr 13 rfl (Aj rfl rfl) (Dr 14 rfl (A9 rfl) (Dr 15 rfl (A9 rfl) (Dz (Ai (Ar (S2 7 6 rfl rfl) (Ay ?_))))))))))))))
   have hie : i = j := by omega
   subst hie
   exact C6 rfl rfl rfl (I) Az ⟨i, _, rfl, ⟨hj, hlo, hhi, ((decide_eq_false (fun h => by omega)).symm)⟩, rfl⟩
theorem OrderL_cmps : Cmps Tryz.prog κ I 255 [] Lk.cmp := ⟨call255, fun x y J hf => OrderL_ok x y⟩
set_option maxHeartbeats 1000000 in
theorem SetP_base {κ : Ctx} {I : List Item} {e : Ev} {a0 : Option Addr} {c0 : Nat} {xs : List Lk} (ha : xs.Pairwise Lk.lt) (hsz : xs.length ≤ 1000000) :
    CallS Tryz.prog κ 256 [.slice a0 xs.length c0, .agg #[I64 (e.kd), I64 (e.tm), I64 (e.u), I64 (e.v), I64 (e.w), I64 (e.lb), I64 (e.sg)]] (vc 146 (.slice a0 xs.length c0) (xs) :: I) (fun r J => ∃ y : Option Addr × Nat × Value, (r = .tuple #[.slice y.1 (setL (lkOf e) xs).length y.2.1, y.2.2]) ∧ J = [] ++ vc 146 (.slice y.1 (setL (lkOf e) xs).length y.2.1) (setL (lkOf e) xs) :: I) := by
 refine Ce2 Tryz.func256 rfl rfl ?_
 refine Ah (Ge1 (Bd (cs := [_, _, _, _, _, _, _]) rfl rfl rfl) fun b1 => Ga rfl (Ga rfl (Af (Ah (Gf fld108_2 rfl (Gl ty3 ?_))))))
 refine Gf fld108_3 rfl (Gl ty3 ?_)
 refine Gr (Runs.min rfl rfl) (Gf fld108_2 rfl (Gl ty3 ?_))
 refine Gf fld108_3 rfl (Gl ty3 ?_)
 refine Gr (Runs.max rfl rfl) (Gf fld108_4 rfl (Gl ty3 ?_))
 refine Gf fld108_5 rfl (Gl ty3 ?_)
 refine Gf fld108_6 rfl (Gl ty3 ?_)
 refine Gf fld108_1 rfl (Gl ty3 ?_)
 refine Gr (Bg (cells := [_, _, _, _, _, _]) ty146 Tryz.underlying146 pl146 rfl rfl) (Ge1 (A4 ty146 rfl) fun b2 => Ge0 (Di ty146) ?_)
 refine Af (Ar (S3 6 3 0 rfl rfl rfl) (Ah (Gm rfl (Gl6 ty146 ?_))))
 refine G.e (Ap call302 rfl rfl (BSearchL Bo (⟨if e.v < e.u then e.v else e.u, if e.u < e.v then e.v else e.u, e.w, e.lb, e.sg, e.tm⟩ : Lk) OrderL_cmps om)) ?_
 rintro _ _ ⟨_, _, ⟨i3, q4, rfl, hi3, rfl⟩, rfl, rfl⟩
 refine Gm rfl ?_
 have hile := hi3.le
 refine Gr (A1 rfl rfl) (Gr (A1 rfl rfl) (Ga rfl (Ga rfl (Af (Ax (Ax (Bj mixed (Br (blk b2 [I64 (if e.v < e.u then e.v else e.u), I64 (if e.u < e.v then e.v else e.u), I64 (e.w), I64 (e.lb), I64 (e.sg), I64 (e.tm)] 146 :: blk b1 [I64 (e.kd), I64 (e.tm), I64 (e.u), I64 (e.v), I64 (e.w), I64 (e.lb), I64 (e.sg)] 108 :: vc 146 (.slice a0 xs.length c0) (xs) :: I) 9 (Dr 0 rfl (Ac rfl) (Dr 1 rfl (Ac rfl) (D.splitb (d := 35) rfl (fun g35 => ?_) (fun g35 => ?_))))))))))))
 ·have hil := (setL_there hi3 ha g35).1
  refine Dro 2 rfl (Ac rfl) (Dro 3 rfl (Ac rfl) (Dro 4 rfl (A8 (α := Lk) (xs := xs) Ak ty146 rfl rfl Bo om om) (Dro 5 rfl (Bq (α := Lk) (xs := xs) ty146 rfl Bo om om) (Dro 6 rfl (Bk (vs := [_, _, _, _, _, _]) ty146) ?_))))
  refine Dro 7 rfl (Runs.eqlT (α := Lk) (a := (at_ xs (i3 : Int))) (b := (⟨if e.v < e.u then e.v else e.u, if e.u < e.v then e.v else e.u, e.w, e.lb, e.sg, e.tm⟩ : Lk)) eqt146 rfl rfl) (Dr 8 rfl (Al rfl rfl) (Dz (Ai (Ar (S6 42 8 7 6 3 0 rfl rfl rfl rfl rfl rfl) (A7 rfl (fun c42 => ?_) (fun c42 => ?_))))))
  ·refine Ah (Gm rfl (Ga rfl (Ga rfl (Af (Ay (Ad ?_))))))
   have hst : i3 < xs.length ∧ (setL (lkOf e) xs) = xs.set i3 (lkOf e) := setL_there hi3 ha g35
   have hE : xs = (setL (lkOf e) xs) := by rw [hst.2]; exact (set_self (n := lkOf e) hst.1 c42).symm
   exact C6 rfl rfl rfl ([] ++ vc 146 (.slice a0 (setL (lkOf e) xs).length c0) (setL (lkOf e) xs) :: I) (by rw [← hE]; exact A3) ⟨⟨a0, c0, .slice none 0 0⟩, by rw [← hE], rfl⟩
  ·refine A0 (Ai (Ax (Ah (Gm rfl (Gr (Cl rfl) (Af (Ed rfl (fun c45 => ?_) (fun c45 => ?_))))))))
   ·rw [g35] at c45; exact absurd c45 dc
   ·refine Ah (Gm rfl (G.e (Ap call216 rfl rfl (CloneL (xs := xs) Bo om)) ?_))
    rintro _ _ ⟨_, _, ⟨ad5, cp6, rfl, rfl⟩, rfl, rfl⟩
    refine Ga rfl (Af (A2 (Gm rfl (Gm rfl (Gl6 ty146 ?_)))))
    refine Gr (A8 (α := Lk) (xs := xs) Ak ty146 rfl rfl Bo om om) (Ge0 (Df (α := Lk) (xs := xs) (e := 146) (new := ⟨if e.v < e.u then e.v else e.u, if e.u < e.v then e.v else e.u, e.w, e.lb, e.sg, e.tm⟩) ty146 rfl rfl rfl om om am) ?_)
    refine Af (Ar (S3 0 6 3 rfl rfl rfl) (Ax (Bj mixed (Br (vc 146 (.slice ad5 xs.length cp6) (List.set xs ((i3 : Int)).toNat (⟨if e.v < e.u then e.v else e.u, if e.u < e.v then e.v else e.u, e.w, e.lb, e.sg, e.tm⟩)) :: blk b2 [I64 (if e.v < e.u then e.v else e.u), I64 (if e.u < e.v then e.v else e.u), I64 (e.w), I64 (e.lb), I64 (e.sg), I64 (e.tm)] 146 :: vc 146 (.slice a0 xs.length c0) (xs) :: I) 5 (Dr 0 rfl (Aa fld146_0 rfl) (Dr 1 rfl (Aq ty3) ?_))))))
    refine Dr 4 rfl (Aa fld108_2 rfl) (C1 (rs := [2, 5]) kr rfl rfl (D3 ?_ (D9 ?_)))
    ·refine Sr rfl (Aa fld146_1 rfl) A3 ?_
     refine C1 (rs := [3, 5]) kr rfl rfl (D3 ?_ (D9 ?_))
     ·refine Sr rfl (Aq ty3) A3 ?_
      refine Db kr ?_
      refine Ae 5 rfl (Do ty3) ?_
      rintro _ _ ⟨rfl, rfl⟩
      refine A.read (i := 6) kr rfl (B9 rfl) rfl rfl (Aa fld108_3 rfl) ?_
      refine Ae 7 rfl (Do ty3) ?_
      rintro _ _ ⟨rfl, rfl⟩
      refine Dc kr ?_
      refine Ai (Ax (Bj mixed (Br (vc 146 (.slice ad5 xs.length cp6) (List.set xs ((i3 : Int)).toNat (⟨if e.v < e.u then e.v else e.u, if e.u < e.v then e.v else e.u, e.w, e.lb, e.sg, e.tm⟩)) :: blk b2 [I64 (if e.v < e.u then e.v else e.u), I64 (if e.u < e.v then e.v else e.u), I64 (e.w), I64 (e.lb), I64 (e.sg), I64 (e.tm)] 146 :: blk b1 [I64 (e.kd), I64 (e.tm), I64 (if e.v < e.u then e.v else e.u), I64 (if e.u < e.v then e.v else e.u), I64 (e.w), I64 (e.lb), I64 (e.sg)] 108 :: vc 146 (.slice a0 xs.length c0) (xs) :: I) 5 (Dr 0 rfl (Ac rfl) (Dr 1 rfl (Bk (vs := [_, _, _, _, _, _, _]) ty108) ?_)))))
      refine Dr 3 rfl (A9 rfl) (Ds1 2 (Se1 rfl (B0 (α := Ev) (cs := [I64 (e.kd), I64 (e.tm), I64 (if e.v < e.u then e.v else e.u), I64 (if e.u < e.v then e.v else e.u), I64 (e.w), I64 (e.lb), I64 (e.sg)]) (xs := [⟨e.kd, e.tm, if e.v < e.u then e.v else e.u, if e.u < e.v then e.v else e.u, e.w, e.lb, e.sg⟩]) Aw ty108 rfl rfl dc dc rfl kr rfl rfl) fun ad7 => ?_))
      refine Dr 4 rfl (A9 rfl) (Dz (Ai (Ar (S2 5 4 rfl rfl) (Ay ?_))))
      have hE : List.set xs ((i3 : Int)).toNat (⟨if e.v < e.u then e.v else e.u, if e.u < e.v then e.v else e.u, e.w, e.lb, e.sg, e.tm⟩) = (setL (lkOf e) xs) := (setL_there hi3 ha g35).2.symm
      have hEl : (setL (lkOf e) xs).length = xs.length := by rw [← hE, List.length_set]
      exact C6 rfl rfl rfl ([] ++ vc 146 (.slice ad5 (setL (lkOf e) xs).length cp6) (setL (lkOf e) xs) :: I) (by rw [hEl, ← hE]; exact A3) ⟨⟨ad5, cp6, .slice ad7 1 1⟩, by rw [hEl], rfl⟩
     ·refine Se0 rfl (Do ty3) ?_
      refine Ds1 3 (Sr rfl (Aq ty3) A3 ?_)
      refine Ds1 6 (Sr rfl (Aa fld108_3 rfl) A3 ?_)
      refine Ds1 7 (Se0 rfl (Do ty3) ?_)
      refine Dz (Ai (Ax (Bj mixed (Br (vc 146 (.slice ad5 xs.length cp6) (List.set xs ((i3 : Int)).toNat (⟨if e.v < e.u then e.v else e.u, if e.u < e.v then e.v else e.u, e.w, e.lb, e.sg, e.tm⟩)) :: blk b2 [I64 (if e.v < e.u then e.v else e.u), I64 (if e.u < e.v then e.v else e.u), I64 (e.w), I64 (e.lb), I64 (e.sg), I64 (e.tm)] 146 :: blk b1 [I64 (e.kd), I64 (e.tm), I64 (if e.v < e.u then e.v else e.u), I64 (if e.u < e.v then e.v else e.u), I64 (e.w), I64 (e.lb), I64 (e.sg)] 108 :: vc 146 (.slice a0 xs.length c0) (xs) :: I) 5 (Dr 0 rfl (Ac rfl) (Dr 1 rfl (Bk (vs := [_, _, _, _, _, _, _]) ty108) ?_))))))
      refine Dr 3 rfl (A9 rfl) (Ds1 2 (Se1 rfl (B0 (α := Ev) (cs := [I64 (e.kd), I64 (e.tm), I64 (if e.v < e.u then e.v else e.u), I64 (if e.u < e.v then e.v else e.u), I64 (e.w), I64 (e.lb), I64 (e.sg)]) (xs := [⟨e.kd, e.tm, if e.v < e.u then e.v else e.u, if e.u < e.v then e.v else e.u, e.w, e.lb, e.sg⟩]) Aw ty108 rfl rfl dc dc rfl kr rfl rfl) fun ad8 => ?_))
      refine Dr 4 rfl (A9 rfl) (Dz (Ai (Ar (S2 5 4 rfl rfl) (Ay ?_))))
      have hE : List.set xs ((i3 : Int)).toNat (⟨if e.v < e.u then e.v else e.u, if e.u < e.v then e.v else e.u, e.w, e.lb, e.sg, e.tm⟩) = (setL (lkOf e) xs) := (setL_there hi3 ha g35).2.symm
      have hEl : (setL (lkOf e) xs).length = xs.length := by rw [← hE, List.length_set]
      exact C6 rfl rfl rfl ([] ++ vc 146 (.slice ad5 (setL (lkOf e) xs).length cp6) (setL (lkOf e) xs) :: I) (by rw [hEl, ← hE]; exact A3) ⟨⟨ad5, cp6, .slice ad8 1 1⟩, by rw [hEl], rfl⟩
    ·refine Se0 rfl (Do ty3) ?_
     refine Ds1 2 (Sr rfl (Aa fld146_1 rfl) A3 ?_)
     refine Ds1 3 (Sr rfl (Aq ty3) A3 ?_)
     refine Ds1 6 (Sr rfl (Aa fld108_3 rfl) A3 ?_)
     refine Ds1 7 (Se0 rfl (Do ty3) ?_)
     refine Dz (Ai (Ax (Bj mixed (Br (vc 146 (.slice ad5 xs.length cp6) (List.set xs ((i3 : Int)).toNat (⟨if e.v < e.u then e.v else e.u, if e.u < e.v then e.v else e.u, e.w, e.lb, e.sg, e.tm⟩)) :: blk b2 [I64 (if e.v < e.u then e.v else e.u), I64 (if e.u < e.v then e.v else e.u), I64 (e.w), I64 (e.lb), I64 (e.sg), I64 (e.tm)] 146 :: blk b1 [I64 (e.kd), I64 (e.tm), I64 (if e.v < e.u then e.v else e.u), I64 (if e.u < e.v then e.v else e.u), I64 (e.w), I64 (e.lb), I64 (e.sg)] 108 :: vc 146 (.slice a0 xs.length c0) (xs) :: I) 5 (Dr 0 rfl (Ac rfl) (Dr 1 rfl (Bk (vs := [_, _, _, _, _, _, _]) ty108) ?_))))))
     refine Dr 3 rfl (A9 rfl) (Ds1 2 (Se1 rfl (B0 (α := Ev) (cs := [I64 (e.kd), I64 (e.tm), I64 (if e.v < e.u then e.v else e.u), I64 (if e.u < e.v then e.v else e.u), I64 (e.w), I64 (e.lb), I64 (e.sg)]) (xs := [⟨e.kd, e.tm, if e.v < e.u then e.v else e.u, if e.u < e.v then e.v else e.u, e.w, e.lb, e.sg⟩]) Aw ty108 rfl rfl dc dc rfl kr rfl rfl) fun ad9 => ?_))
     refine Dr 4 rfl (A9 rfl) (Dz (Ai (Ar (S2 5 4 rfl rfl) (Ay ?_))))
     have hE : List.set xs ((i3 : Int)).toNat (⟨if e.v < e.u then e.v else e.u, if e.u < e.v then e.v else e.u, e.w, e.lb, e.sg, e.tm⟩) = (setL (lkOf e) xs) := (setL_there hi3 ha g35).2.symm
     have hEl : (setL (lkOf e) xs).length = xs.length := by rw [← hE, List.length_set]
     exact C6 rfl rfl rfl ([] ++ vc 146 (.slice ad5 (setL (lkOf e) xs).length cp6) (setL (lkOf e) xs) :: I) (by rw [hEl, ← hE]; exact A3) ⟨⟨ad5, cp6, .slice ad9 1 1⟩, by rw [hEl], rfl⟩
 ·refine Dpo 2 rfl (Dpo 3 rfl (Dpo 4 rfl (Dpo 5 rfl (Dpo 6 rfl (Dpo 7 rfl (Dr 8 rfl (Aj rfl rfl) (Dz (Ai (Ar (S6 42 8 7 6 3 0 rfl rfl rfl rfl rfl rfl) (C2 rfl (A0 (Ai (Ax (Ah (Gm rfl (Gr (Cl rfl) (Af (Ed rfl (fun c45 => ?_) (fun c45 => ?_)))))))))))))))))))
  ·refine Bj mixed (Br (blk b2 [I64 (if e.v < e.u then e.v else e.u), I64 (if e.u < e.v then e.v else e.u), I64 (e.w), I64 (e.lb), I64 (e.sg), I64 (e.tm)] 146 :: blk b1 [I64 (e.kd), I64 (e.tm), I64 (e.u), I64 (e.v), I64 (e.w), I64 (e.lb), I64 (e.sg)] 108 :: vc 146 (.slice a0 xs.length c0) (xs) :: I) 7 (Dr 0 rfl (Ac rfl) (Dr 2 rfl (Ac rfl) (Dr 3 rfl (Bk (vs := [_, _, _, _, _, _]) ty146) ?_))))
   refine C1 (rs := [1, 4]) kr rfl rfl (D3 ?_ (D9 ?_))
   ·refine Se rfl (Ap call216 rfl rfl (CloneL (xs := xs) Bo om)) ?_
    rintro _ _ ⟨_, _, ⟨ad10, cp11, rfl, rfl⟩, rfl, rfl⟩
    refine ⟨A3, ?_⟩
    refine Ds1 4 (Se1 rfl (B0 (α := Lk) (cs := [I64 (if e.v < e.u then e.v else e.u), I64 (if e.u < e.v then e.v else e.u), I64 (e.w), I64 (e.lb), I64 (e.sg), I64 (e.tm)]) (xs := [⟨if e.v < e.u then e.v else e.u, if e.u < e.v then e.v else e.u, e.w, e.lb, e.sg, e.tm⟩]) Ak ty146 rfl rfl dc dc rfl kr rfl rfl) fun ad12 => ?_)
    refine Ds1 5 (Sc2 rfl (Ap call303 rfl rfl (InsertL_two (i := i3) (xs := xs) (ys := ([⟨if e.v < e.u then e.v else e.u, if e.u < e.v then e.v else e.u, e.w, e.lb, e.sg, e.tm⟩] : List Lk)) (show Fit κ _ (vc 146 (.slice ad10 xs.length cp11) (xs) :: vc 146 (.slice ad12 1 1) (([⟨if e.v < e.u then e.v else e.u, if e.u < e.v then e.v else e.u, e.w, e.lb, e.sg, e.tm⟩] : List Lk)) :: blk b2 [I64 (if e.v < e.u then e.v else e.u), I64 (if e.u < e.v then e.v else e.u), I64 (e.w), I64 (e.lb), I64 (e.sg), I64 (e.tm)] 146 :: blk b1 [I64 (e.kd), I64 (e.tm), I64 (e.u), I64 (e.v), I64 (e.w), I64 (e.lb), I64 (e.sg)] 108 :: vc 146 (.slice a0 xs.length c0) (xs) :: I) from Bw) rfl rfl om (by simp only [List.length_cons]; omega) lcn)) fun ad13 cp14 => ?_)
    show D Tryz.prog κ _ _ _ _ _ _ _ ([(51, .slice ad13 (List.take i3 xs ++ ([⟨if e.v < e.u then e.v else e.u, if e.u < e.v then e.v else e.u, e.w, e.lb, e.sg, e.tm⟩] : List Lk) ++ List.drop i3 xs).length cp14), (50, .slice ad12 1 1), (47, .slice ad10 xs.length cp11), (49, .agg #[I64 (if e.v < e.u then e.v else e.u), I64 (if e.u < e.v then e.v else e.u), I64 (e.w), I64 (e.lb), I64 (e.sg), I64 (e.tm)]), (48, I64 ((i3 : Int))), (46, .slice a0 xs.length c0), (45, .bool (!q4)), (44, .bool (q4)), (42, .bool false), (8, .bool (q4)), (7, I64 ((i3 : Int))), (6, .pointer (some ⟨b2, 0, none⟩)), (3, .pointer (some ⟨b1, 0, none⟩)), (0, .slice a0 xs.length c0)] : Env) (vc 146 (.slice ad13 (List.take i3 xs ++ ([⟨if e.v < e.u then e.v else e.u, if e.u < e.v then e.v else e.u, e.w, e.lb, e.sg, e.tm⟩] : List Lk) ++ List.drop i3 xs).length cp14) (List.take i3 xs ++ ([⟨if e.v < e.u then e.v else e.u, if e.u < e.v then e.v else e.u, e.w, e.lb, e.sg, e.tm⟩] : List Lk) ++ List.drop i3 xs) :: blk b2 [I64 (if e.v < e.u then e.v else e.u), I64 (if e.u < e.v then e.v else e.u), I64 (e.w), I64 (e.lb), I64 (e.sg), I64 (e.tm)] 146 :: blk b1 [I64 (e.kd), I64 (e.tm), I64 (e.u), I64 (e.v), I64 (e.w), I64 (e.lb), I64 (e.sg)] 108 :: vc 146 (.slice a0 xs.length c0) (xs) :: I)
    refine Dr 6 rfl (A9 rfl) (Dz (Ai (Ar (S3 0 6 3 rfl rfl rfl) (Ax (Bj mixed (Br (vc 146 (.slice ad13 (List.take i3 xs ++ ([⟨if e.v < e.u then e.v else e.u, if e.u < e.v then e.v else e.u, e.w, e.lb, e.sg, e.tm⟩] : List Lk) ++ List.drop i3 xs).length cp14) (List.take i3 xs ++ ([⟨if e.v < e.u then e.v else e.u, if e.u < e.v then e.v else e.u, e.w, e.lb, e.sg, e.tm⟩] : List Lk) ++ List.drop i3 xs) :: blk b2 [I64 (if e.v < e.u then e.v else e.u), I64 (if e.u < e.v then e.v else e.u), I64 (e.w), I64 (e.lb), I64 (e.sg), I64 (e.tm)] 146 :: vc 146 (.slice a0 xs.length c0) (xs) :: I) 5 (Dr 0 rfl (Aa fld146_0 rfl) (Dr 1 rfl (Aq ty3) ?_))))))))
    refine Dr 4 rfl (Aa fld108_2 rfl) (C1 (rs := [2, 5]) kr rfl rfl (D3 ?_ (D9 ?_)))
    ·refine Sr rfl (Aa fld146_1 rfl) A3 ?_
     refine C1 (rs := [3, 5]) kr rfl rfl (D3 ?_ (D9 ?_))
     ·refine Sr rfl (Aq ty3) A3 ?_
      refine Db kr ?_
      refine Ae 5 rfl (Do ty3) ?_
      rintro _ _ ⟨rfl, rfl⟩
      refine A.read (i := 6) kr rfl (B9 rfl) rfl rfl (Aa fld108_3 rfl) ?_
      refine Ae 7 rfl (Do ty3) ?_
      rintro _ _ ⟨rfl, rfl⟩
      refine Dc kr ?_
      refine Ai (Ax (Bj mixed (Br (vc 146 (.slice ad13 (List.take i3 xs ++ ([⟨if e.v < e.u then e.v else e.u, if e.u < e.v then e.v else e.u, e.w, e.lb, e.sg, e.tm⟩] : List Lk) ++ List.drop i3 xs).length cp14) (List.take i3 xs ++ ([⟨if e.v < e.u then e.v else e.u, if e.u < e.v then e.v else e.u, e.w, e.lb, e.sg, e.tm⟩] : List Lk) ++ List.drop i3 xs) :: blk b2 [I64 (if e.v < e.u then e.v else e.u), I64 (if e.u < e.v then e.v else e.u), I64 (e.w), I64 (e.lb), I64 (e.sg), I64 (e.tm)] 146 :: blk b1 [I64 (e.kd), I64 (e.tm), I64 (if e.v < e.u then e.v else e.u), I64 (if e.u < e.v then e.v else e.u), I64 (e.w), I64 (e.lb), I64 (e.sg)] 108 :: vc 146 (.slice a0 xs.length c0) (xs) :: I) 5 (Dr 0 rfl (Ac rfl) (Dr 1 rfl (Bk (vs := [_, _, _, _, _, _, _]) ty108) ?_)))))
      refine Dr 3 rfl (A9 rfl) (Ds1 2 (Se1 rfl (B0 (α := Ev) (cs := [I64 (e.kd), I64 (e.tm), I64 (if e.v < e.u then e.v else e.u), I64 (if e.u < e.v then e.v else e.u), I64 (e.w), I64 (e.lb), I64 (e.sg)]) (xs := [⟨e.kd, e.tm, if e.v < e.u then e.v else e.u, if e.u < e.v then e.v else e.u, e.w, e.lb, e.sg⟩]) Aw ty108 rfl rfl dc dc rfl kr rfl rfl) fun ad15 => ?_))
      refine Dr 4 rfl (A9 rfl) (Dz (Ai (Ar (S2 5 4 rfl rfl) (Ay ?_))))
      have hE : List.take i3 xs ++ ([⟨if e.v < e.u then e.v else e.u, if e.u < e.v then e.v else e.u, e.w, e.lb, e.sg, e.tm⟩] : List Lk) ++ List.drop i3 xs = (setL (lkOf e) xs) := (setL_new hi3 ha g35).symm
      exact C6 rfl rfl rfl ([] ++ vc 146 (.slice ad13 (setL (lkOf e) xs).length cp14) (setL (lkOf e) xs) :: I) (by rw [← hE]; exact A3) ⟨⟨ad13, cp14, .slice ad15 1 1⟩, by rw [← hE], rfl⟩
     ·refine Se0 rfl (Do ty3) ?_
      refine Ds1 3 (Sr rfl (Aq ty3) A3 ?_)
      refine Ds1 6 (Sr rfl (Aa fld108_3 rfl) A3 ?_)
      refine Ds1 7 (Se0 rfl (Do ty3) ?_)
      refine Dz (Ai (Ax (Bj mixed (Br (vc 146 (.slice ad13 (List.take i3 xs ++ ([⟨if e.v < e.u then e.v else e.u, if e.u < e.v then e.v else e.u, e.w, e.lb, e.sg, e.tm⟩] : List Lk) ++ List.drop i3 xs).length cp14) (List.take i3 xs ++ ([⟨if e.v < e.u then e.v else e.u, if e.u < e.v then e.v else e.u, e.w, e.lb, e.sg, e.tm⟩] : List Lk) ++ List.drop i3 xs) :: blk b2 [I64 (if e.v < e.u then e.v else e.u), I64 (if e.u < e.v then e.v else e.u), I64 (e.w), I64 (e.lb), I64 (e.sg), I64 (e.tm)] 146 :: blk b1 [I64 (e.kd), I64 (e.tm), I64 (if e.v < e.u then e.v else e.u), I64 (if e.u < e.v then e.v else e.u), I64 (e.w), I64 (e.lb), I64 (e.sg)] 108 :: vc 146 (.slice a0 xs.length c0) (xs) :: I) 5 (Dr 0 rfl (Ac rfl) (Dr 1 rfl (Bk (vs := [_, _, _, _, _, _, _]) ty108) ?_))))))
      refine Dr 3 rfl (A9 rfl) (Ds1 2 (Se1 rfl (B0 (α := Ev) (cs := [I64 (e.kd), I64 (e.tm), I64 (if e.v < e.u then e.v else e.u), I64 (if e.u < e.v then e.v else e.u), I64 (e.w), I64 (e.lb), I64 (e.sg)]) (xs := [⟨e.kd, e.tm, if e.v < e.u then e.v else e.u, if e.u < e.v then e.v else e.u, e.w, e.lb, e.sg⟩]) Aw ty108 rfl rfl dc dc rfl kr rfl rfl) fun ad16 => ?_))
      refine Dr 4 rfl (A9 rfl) (Dz (Ai (Ar (S2 5 4 rfl rfl) (Ay ?_))))
      have hE : List.take i3 xs ++ ([⟨if e.v < e.u then e.v else e.u, if e.u < e.v then e.v else e.u, e.w, e.lb, e.sg, e.tm⟩] : List Lk) ++ List.drop i3 xs = (setL (lkOf e) xs) := (setL_new hi3 ha g35).symm
      exact C6 rfl rfl rfl ([] ++ vc 146 (.slice ad13 (setL (lkOf e) xs).length cp14) (setL (lkOf e) xs) :: I) (by rw [← hE]; exact A3) ⟨⟨ad13, cp14, .slice ad16 1 1⟩, by rw [← hE], rfl⟩
    ·refine Se0 rfl (Do ty3) ?_
     refine Ds1 2 (Sr rfl (Aa fld146_1 rfl) A3 ?_)
     refine Ds1 3 (Sr rfl (Aq ty3) A3 ?_)
     refine Ds1 6 (Sr rfl (Aa fld108_3 rfl) A3 ?_)
     refine Ds1 7 (Se0 rfl (Do ty3) ?_)
     refine Dz (Ai (Ax (Bj mixed (Br (vc 146 (.slice ad13 (List.take i3 xs ++ ([⟨if e.v < e.u then e.v else e.u, if e.u < e.v then e.v else e.u, e.w, e.lb, e.sg, e.tm⟩] : List Lk) ++ List.drop i3 xs).length cp14) (List.take i3 xs ++ ([⟨if e.v < e.u then e.v else e.u, if e.u < e.v then e.v else e.u, e.w, e.lb, e.sg, e.tm⟩] : List Lk) ++ List.drop i3 xs) :: blk b2 [I64 (if e.v < e.u then e.v else e.u), I64 (if e.u < e.v then e.v else e.u), I64 (e.w), I64 (e.lb), I64 (e.sg), I64 (e.tm)] 146 :: blk b1 [I64 (e.kd), I64 (e.tm), I64 (if e.v < e.u then e.v else e.u), I64 (if e.u < e.v then e.v else e.u), I64 (e.w), I64 (e.lb), I64 (e.sg)] 108 :: vc 146 (.slice a0 xs.length c0) (xs) :: I) 5 (Dr 0 rfl (Ac rfl) (Dr 1 rfl (Bk (vs := [_, _, _, _, _, _, _]) ty108) ?_))))))
     refine Dr 3 rfl (A9 rfl) (Ds1 2 (Se1 rfl (B0 (α := Ev) (cs := [I64 (e.kd), I64 (e.tm), I64 (if e.v < e.u then e.v else e.u), I64 (if e.u < e.v then e.v else e.u), I64 (e.w), I64 (e.lb), I64 (e.sg)]) (xs := [⟨e.kd, e.tm, if e.v < e.u then e.v else e.u, if e.u < e.v then e.v else e.u, e.w, e.lb, e.sg⟩]) Aw ty108 rfl rfl dc dc rfl kr rfl rfl) fun ad17 => ?_))
     refine Dr 4 rfl (A9 rfl) (Dz (Ai (Ar (S2 5 4 rfl rfl) (Ay ?_))))
     have hE : List.take i3 xs ++ ([⟨if e.v < e.u then e.v else e.u, if e.u < e.v then e.v else e.u, e.w, e.lb, e.sg, e.tm⟩] : List Lk) ++ List.drop i3 xs = (setL (lkOf e) xs) := (setL_new hi3 ha g35).symm
     exact C6 rfl rfl rfl ([] ++ vc 146 (.slice ad13 (setL (lkOf e) xs).length cp14) (setL (lkOf e) xs) :: I) (by rw [← hE]; exact A3) ⟨⟨ad13, cp14, .slice ad17 1 1⟩, by rw [← hE], rfl⟩
   ·refine Se1 rfl (B0 (α := Lk) (cs := [I64 (if e.v < e.u then e.v else e.u), I64 (if e.u < e.v then e.v else e.u), I64 (e.w), I64 (e.lb), I64 (e.sg), I64 (e.tm)]) (xs := [⟨if e.v < e.u then e.v else e.u, if e.u < e.v then e.v else e.u, e.w, e.lb, e.sg, e.tm⟩]) Ak ty146 rfl rfl dc dc rfl kr rfl rfl) fun ad18 => ?_
    refine Ds1 1 (Se rfl (Ap call216 rfl rfl (CloneL (xs := xs) Bo om)) ?_)
    rintro _ _ ⟨_, _, ⟨ad19, cp20, rfl, rfl⟩, rfl, rfl⟩
    refine ⟨A3, ?_⟩
    refine Ds1 5 (Sc2 rfl (Ap call303 rfl rfl (InsertL_two (i := i3) (xs := xs) (ys := ([⟨if e.v < e.u then e.v else e.u, if e.u < e.v then e.v else e.u, e.w, e.lb, e.sg, e.tm⟩] : List Lk)) (show Fit κ _ (vc 146 (.slice ad19 xs.length cp20) (xs) :: vc 146 (.slice ad18 1 1) (([⟨if e.v < e.u then e.v else e.u, if e.u < e.v then e.v else e.u, e.w, e.lb, e.sg, e.tm⟩] : List Lk)) :: blk b2 [I64 (if e.v < e.u then e.v else e.u), I64 (if e.u < e.v then e.v else e.u), I64 (e.w), I64 (e.lb), I64 (e.sg), I64 (e.tm)] 146 :: blk b1 [I64 (e.kd), I64 (e.tm), I64 (e.u), I64 (e.v), I64 (e.w), I64 (e.lb), I64 (e.sg)] 108 :: vc 146 (.slice a0 xs.length c0) (xs) :: I) from Bw) rfl rfl om (by simp only [List.length_cons]; omega) lcn)) fun ad21 cp22 => ?_)
    show D Tryz.prog κ _ _ _ _ _ _ _ ([(51, .slice ad21 (List.take i3 xs ++ ([⟨if e.v < e.u then e.v else e.u, if e.u < e.v then e.v else e.u, e.w, e.lb, e.sg, e.tm⟩] : List Lk) ++ List.drop i3 xs).length cp22), (47, .slice ad19 xs.length cp20), (50, .slice ad18 1 1), (49, .agg #[I64 (if e.v < e.u then e.v else e.u), I64 (if e.u < e.v then e.v else e.u), I64 (e.w), I64 (e.lb), I64 (e.sg), I64 (e.tm)]), (48, I64 ((i3 : Int))), (46, .slice a0 xs.length c0), (45, .bool (!q4)), (44, .bool (q4)), (42, .bool false), (8, .bool (q4)), (7, I64 ((i3 : Int))), (6, .pointer (some ⟨b2, 0, none⟩)), (3, .pointer (some ⟨b1, 0, none⟩)), (0, .slice a0 xs.length c0)] : Env) (vc 146 (.slice ad21 (List.take i3 xs ++ ([⟨if e.v < e.u then e.v else e.u, if e.u < e.v then e.v else e.u, e.w, e.lb, e.sg, e.tm⟩] : List Lk) ++ List.drop i3 xs).length cp22) (List.take i3 xs ++ ([⟨if e.v < e.u then e.v else e.u, if e.u < e.v then e.v else e.u, e.w, e.lb, e.sg, e.tm⟩] : List Lk) ++ List.drop i3 xs) :: blk b2 [I64 (if e.v < e.u then e.v else e.u), I64 (if e.u < e.v then e.v else e.u), I64 (e.w), I64 (e.lb), I64 (e.sg), I64 (e.tm)] 146 :: blk b1 [I64 (e.kd), I64 (e.tm), I64 (e.u), I64 (e.v), I64 (e.w), I64 (e.lb), I64 (e.sg)] 108 :: vc 146 (.slice a0 xs.length c0) (xs) :: I)
    refine Dr 6 rfl (A9 rfl) (Dz (Ai (Ar (S3 0 6 3 rfl rfl rfl) (Ax (Bj mixed (Br (vc 146 (.slice ad21 (List.take i3 xs ++ ([⟨if e.v < e.u then e.v else e.u, if e.u < e.v then e.v else e.u, e.w, e.lb, e.sg, e.tm⟩] : List Lk) ++ List.drop i3 xs).length cp22) (List.take i3 xs ++ ([⟨if e.v < e.u then e.v else e.u, if e.u < e.v then e.v else e.u, e.w, e.lb, e.sg, e.tm⟩] : List Lk) ++ List.drop i3 xs) :: blk b2 [I64 (if e.v < e.u then e.v else e.u), I64 (if e.u < e.v then e.v else e.u), I64 (e.w), I64 (e.lb), I64 (e.sg), I64 (e.tm)] 146 :: vc 146 (.slice a0 xs.length c0) (xs) :: I) 5 (Dr 0 rfl (Aa fld146_0 rfl) (Dr 1 rfl (Aq ty3) ?_))))))))
    refine Dr 4 rfl (Aa fld108_2 rfl) (C1 (rs := [2, 5]) kr rfl rfl (D3 ?_ (D9 ?_)))
    ·refine Sr rfl (Aa fld146_1 rfl) A3 ?_
     refine C1 (rs := [3, 5]) kr rfl rfl (D3 ?_ (D9 ?_))
     ·refine Sr rfl (Aq ty3) A3 ?_
      refine Db kr ?_
      refine Ae 5 rfl (Do ty3) ?_
      rintro _ _ ⟨rfl, rfl⟩
      refine A.read (i := 6) kr rfl (B9 rfl) rfl rfl (Aa fld108_3 rfl) ?_
      refine Ae 7 rfl (Do ty3) ?_
      rintro _ _ ⟨rfl, rfl⟩
      refine Dc kr ?_
      refine Ai (Ax (Bj mixed (Br (vc 146 (.slice ad21 (List.take i3 xs ++ ([⟨if e.v < e.u then e.v else e.u, if e.u < e.v then e.v else e.u, e.w, e.lb, e.sg, e.tm⟩] : List Lk) ++ List.drop i3 xs).length cp22) (List.take i3 xs ++ ([⟨if e.v < e.u then e.v else e.u, if e.u < e.v then e.v else e.u, e.w, e.lb, e.sg, e.tm⟩] : List Lk) ++ List.drop i3 xs) :: blk b2 [I64 (if e.v < e.u then e.v else e.u), I64 (if e.u < e.v then e.v else e.u), I64 (e.w), I64 (e.lb), I64 (e.sg), I64 (e.tm)] 146 :: blk b1 [I64 (e.kd), I64 (e.tm), I64 (if e.v < e.u then e.v else e.u), I64 (if e.u < e.v then e.v else e.u), I64 (e.w), I64 (e.lb), I64 (e.sg)] 108 :: vc 146 (.slice a0 xs.length c0) (xs) :: I) 5 (Dr 0 rfl (Ac rfl) (Dr 1 rfl (Bk (vs := [_, _, _, _, _, _, _]) ty108) ?_)))))
      refine Dr 3 rfl (A9 rfl) (Ds1 2 (Se1 rfl (B0 (α := Ev) (cs := [I64 (e.kd), I64 (e.tm), I64 (if e.v < e.u then e.v else e.u), I64 (if e.u < e.v then e.v else e.u), I64 (e.w), I64 (e.lb), I64 (e.sg)]) (xs := [⟨e.kd, e.tm, if e.v < e.u then e.v else e.u, if e.u < e.v then e.v else e.u, e.w, e.lb, e.sg⟩]) Aw ty108 rfl rfl dc dc rfl kr rfl rfl) fun ad23 => ?_))
      refine Dr 4 rfl (A9 rfl) (Dz (Ai (Ar (S2 5 4 rfl rfl) (Ay ?_))))
      have hE : List.take i3 xs ++ ([⟨if e.v < e.u then e.v else e.u, if e.u < e.v then e.v else e.u, e.w, e.lb, e.sg, e.tm⟩] : List Lk) ++ List.drop i3 xs = (setL (lkOf e) xs) := (setL_new hi3 ha g35).symm
      exact C6 rfl rfl rfl ([] ++ vc 146 (.slice ad21 (setL (lkOf e) xs).length cp22) (setL (lkOf e) xs) :: I) (by rw [← hE]; exact A3) ⟨⟨ad21, cp22, .slice ad23 1 1⟩, by rw [← hE], rfl⟩
     ·refine Se0 rfl (Do ty3) ?_
      refine Ds1 3 (Sr rfl (Aq ty3) A3 ?_)
      refine Ds1 6 (Sr rfl (Aa fld108_3 rfl) A3 ?_)
      refine Ds1 7 (Se0 rfl (Do ty3) ?_)
      refine Dz (Ai (Ax (Bj mixed (Br (vc 146 (.slice ad21 (List.take i3 xs ++ ([⟨if e.v < e.u then e.v else e.u, if e.u < e.v then e.v else e.u, e.w, e.lb, e.sg, e.tm⟩] : List Lk) ++ List.drop i3 xs).length cp22) (List.take i3 xs ++ ([⟨if e.v < e.u then e.v else e.u, if e.u < e.v then e.v else e.u, e.w, e.lb, e.sg, e.tm⟩] : List Lk) ++ List.drop i3 xs) :: blk b2 [I64 (if e.v < e.u then e.v else e.u), I64 (if e.u < e.v then e.v else e.u), I64 (e.w), I64 (e.lb), I64 (e.sg), I64 (e.tm)] 146 :: blk b1 [I64 (e.kd), I64 (e.tm), I64 (if e.v < e.u then e.v else e.u), I64 (if e.u < e.v then e.v else e.u), I64 (e.w), I64 (e.lb), I64 (e.sg)] 108 :: vc 146 (.slice a0 xs.length c0) (xs) :: I) 5 (Dr 0 rfl (Ac rfl) (Dr 1 rfl (Bk (vs := [_, _, _, _, _, _, _]) ty108) ?_))))))
      refine Dr 3 rfl (A9 rfl) (Ds1 2 (Se1 rfl (B0 (α := Ev) (cs := [I64 (e.kd), I64 (e.tm), I64 (if e.v < e.u then e.v else e.u), I64 (if e.u < e.v then e.v else e.u), I64 (e.w), I64 (e.lb), I64 (e.sg)]) (xs := [⟨e.kd, e.tm, if e.v < e.u then e.v else e.u, if e.u < e.v then e.v else e.u, e.w, e.lb, e.sg⟩]) Aw ty108 rfl rfl dc dc rfl kr rfl rfl) fun ad24 => ?_))
      refine Dr 4 rfl (A9 rfl) (Dz (Ai (Ar (S2 5 4 rfl rfl) (Ay ?_))))
      have hE : List.take i3 xs ++ ([⟨if e.v < e.u then e.v else e.u, if e.u < e.v then e.v else e.u, e.w, e.lb, e.sg, e.tm⟩] : List Lk) ++ List.drop i3 xs = (setL (lkOf e) xs) := (setL_new hi3 ha g35).symm
      exact C6 rfl rfl rfl ([] ++ vc 146 (.slice ad21 (setL (lkOf e) xs).length cp22) (setL (lkOf e) xs) :: I) (by rw [← hE]; exact A3) ⟨⟨ad21, cp22, .slice ad24 1 1⟩, by rw [← hE], rfl⟩
    ·refine Se0 rfl (Do ty3) ?_
     refine Ds1 2 (Sr rfl (Aa fld146_1 rfl) A3 ?_)
     refine Ds1 3 (Sr rfl (Aq ty3) A3 ?_)
     refine Ds1 6 (Sr rfl (Aa fld108_3 rfl) A3 ?_)
     refine Ds1 7 (Se0 rfl (Do ty3) ?_)
     refine Dz (Ai (Ax (Bj mixed (Br (vc 146 (.slice ad21 (List.take i3 xs ++ ([⟨if e.v < e.u then e.v else e.u, if e.u < e.v then e.v else e.u, e.w, e.lb, e.sg, e.tm⟩] : List Lk) ++ List.drop i3 xs).length cp22) (List.take i3 xs ++ ([⟨if e.v < e.u then e.v else e.u, if e.u < e.v then e.v else e.u, e.w, e.lb, e.sg, e.tm⟩] : List Lk) ++ List.drop i3 xs) :: blk b2 [I64 (if e.v < e.u then e.v else e.u), I64 (if e.u < e.v then e.v else e.u), I64 (e.w), I64 (e.lb), I64 (e.sg), I64 (e.tm)] 146 :: blk b1 [I64 (e.kd), I64 (e.tm), I64 (if e.v < e.u then e.v else e.u), I64 (if e.u < e.v then e.v else e.u), I64 (e.w), I64 (e.lb), I64 (e.sg)] 108 :: vc 146 (.slice a0 xs.length c0) (xs) :: I) 5 (Dr 0 rfl (Ac rfl) (Dr 1 rfl (Bk (vs := [_, _, _, _, _, _, _]) ty108) ?_))))))
     refine Dr 3 rfl (A9 rfl) (Ds1 2 (Se1 rfl (B0 (α := Ev) (cs := [I64 (e.kd), I64 (e.tm), I64 (if e.v < e.u then e.v else e.u), I64 (if e.u < e.v then e.v else e.u), I64 (e.w), I64 (e.lb), I64 (e.sg)]) (xs := [⟨e.kd, e.tm, if e.v < e.u then e.v else e.u, if e.u < e.v then e.v else e.u, e.w, e.lb, e.sg⟩]) Aw ty108 rfl rfl dc dc rfl kr rfl rfl) fun ad25 => ?_))
     refine Dr 4 rfl (A9 rfl) (Dz (Ai (Ar (S2 5 4 rfl rfl) (Ay ?_))))
     have hE : List.take i3 xs ++ ([⟨if e.v < e.u then e.v else e.u, if e.u < e.v then e.v else e.u, e.w, e.lb, e.sg, e.tm⟩] : List Lk) ++ List.drop i3 xs = (setL (lkOf e) xs) := (setL_new hi3 ha g35).symm
     exact C6 rfl rfl rfl ([] ++ vc 146 (.slice ad21 (setL (lkOf e) xs).length cp22) (setL (lkOf e) xs) :: I) (by rw [← hE]; exact A3) ⟨⟨ad21, cp22, .slice ad25 1 1⟩, by rw [← hE], rfl⟩
  ·rw [g35] at c45; exact absurd c45 dc
set_option maxHeartbeats 1000000 in
theorem CutP_base {κ : Ctx} {I : List Item} {nw : Int} {a0 : Option Addr} {c0 : Nat} {xs : List Lk} {g : FuncId} {cp_ : List Value} {p : Lk → Bool} (hcb : Says Tryz.prog κ (vc 146 (.slice a0 xs.length c0) xs :: I) g cp_ p) (hsz : xs.length ≤ 1000000) :
    CallS Tryz.prog κ 257 [.slice a0 xs.length c0, I64 (nw), .func (.func g) #[] cp_.toArray] (vc 146 (.slice a0 xs.length c0) (xs) :: I) (fun r J => ∃ y : Option Addr × Nat × Value, (r = .tuple #[.slice y.1 (xs.filter (fun x => !p x)).length y.2.1, y.2.2]) ∧ J = [] ++ vc 146 (.slice y.1 (xs.filter (fun x => !p x)).length y.2.1) (xs.filter (fun x => !p x)) :: I) := by
 refine Ce3 Tryz.func257 rfl rfl ?_
 refine Ah (Ga rfl (Ga rfl (Af (Ah (Gm rfl (G.e (Ap call216 rfl rfl (CloneL (xs := xs) Bo om)) ?_))))))
 rintro _ _ ⟨_, _, ⟨ad1, cp2, rfl, rfl⟩, rfl, rfl⟩
 refine Ga rfl (Af (Ah (Ga rfl (Af (Ax (Ah (Ga rfl (Af (A5 (Bx (σ := Nat × (Option Addr) × Nat × (List Ev)) (fun s => ([(0, .slice ad1 (keepL (fun x => !p x) xs s.1).length cp2), (1, I64 (nw)), (2, .func (.func g) #[] cp_.toArray), (8, .slice s.2.1 s.2.2.2.length s.2.2.1), (9, I64 (((keptN (fun x => !p x) xs s.1 : Nat) : Int)))] : Env)) (fun s => vc 108 (.slice s.2.1 s.2.2.2.length s.2.2.1) (s.2.2.2) :: vc 146 (.slice ad1 (keepL (fun x => !p x) xs s.1).length cp2) ((keepL (fun x => !p x) xs s.1)) :: vc 146 (.slice a0 xs.length c0) (xs) :: I) (fun s => (s.1 ≤ xs.length) ∧ (s.2.2.2.length ≤ s.1)) (fun s => xs.length - s.1) (0, none, 0, []) (show ((0 : Nat) ≤ xs.length) ∧ (([] : List Ev).length ≤ (0 : Nat)) from ⟨om, (by simp)⟩) (Ab (Dg rfl (by first | rfl | (rw [keepL_zero]) | (rw [hky.1]) | (rw [hkl]))) (Ab rfl (Ab rfl (Ab (Dg rfl (by first | rfl | (rw [keepL_zero]) | (rw [hky.1]) | (rw [hkl]))) (Ab (Du rfl (by first | omega | (rw [keptN_zero]; rfl) | (dsimp only; have e1 := hky.2; omega) | (dsimp only; have e1 := hkn; omega))) Bp))))) (show Fit κ _ (vc 108 (.slice (none) ([]).length (0)) (([])) :: vc 146 (.slice ad1 (keepL (fun x => !p x) xs (0)).length cp2) ((keepL (fun x => !p x) xs (0))) :: vc 146 (.slice a0 xs.length c0) (xs) :: I) from (by rw [keepL_zero]; exact Bv _ _)) ?_))))))))))
 rintro ⟨j, a2, c2, chg⟩ hp
 dsimp only at hp ⊢
 obtain ⟨hj, hcg⟩ := hp
 have hkj := keptN_le (P := (fun x => !p x)) (xs := xs) (j := j)
 have hkl0 := keepL_len (P := (fun x => !p x)) (xs := xs) (j := j)
 refine W.pull (vc.cap (xs := (keepL (fun x => !p x) xs j)) mm) fun hcap => ?_
 refine Ax (Ah (Gm rfl (Gm rfl (Gr (B2 Ak rfl) (Gr (Bb rfl rfl) (Af (A7 rfl (fun c15 => ?_) (fun c15 => ?_))))))))
 ·refine A0 (Ai (A5 (Ax (Ah (Gm rfl (Gm rfl (Gm rfl (Gr (A8 (α := Lk) (xs := (keepL (fun x => !p x) xs j)) Ak ty146 rfl rfl Bo om om) (Gr (Bq (α := Lk) (xs := (keepL (fun x => !p x) xs j)) ty146 rfl Bo om om) (G.e (Ct hcb.1 (first := []) (caps := cp_) rfl rfl rfl (hcb.2 (at_ (keepL (fun x => !p x) xs j) ((keptN (fun x => !p x) xs j : Nat) : Int)) _ Az)) ?_))))))))))
  rintro _ _ ⟨_, _, ⟨rfl, rfl⟩, rfl, rfl⟩
  refine Gr (Cl rfl) (Af (Ar (S6 22 0 1 2 8 9 rfl rfl rfl rfl rfl rfl) (Ed rfl (fun c22 => ?_) (fun c22 => ?_))))
  ·refine Ah (Gm rfl (Gr (Rad rfl rfl) (Ga rfl (Af (Bu (As (Ba ?_)))))))
   have hky := keep_yes (P := (fun x => !p x)) (xs := xs) (j := j) om (by rw [← keepL_at (P := (fun x => !p x)) (xs := xs) (j := j) om]; exact c22)
   exact B8 ((j + 1), (a2), (c2), (chg)) (by dsimp only; exact ⟨om, om⟩) (hL := (Ab (Dg rfl (by first | rfl | (rw [keepL_zero]) | (rw [hky.1]) | (rw [hkl]))) (Ab rfl (Ab rfl (Ab (Dg rfl (by first | rfl | (rw [keepL_zero]) | (rw [hky.1]) | (rw [hkl]))) (Ab (Du rfl (by first | omega | (rw [keptN_zero]; rfl) | (dsimp only; have e1 := hky.2; omega) | (dsimp only; have e1 := hkn; omega))) Bp)))))) (hI := by (try dsimp only); exact (by rw [hky.1]; exact A3))
  ·refine A0 (Ai (Ah (Gm rfl ?_)))
   have hpj : (fun x => !p x) (at_ xs (j : Int)) = false := by rw [← keepL_at (P := (fun x => !p x)) (xs := xs) (j := j) om]; exact c22
   have hkn := keep_no (P := (fun x => !p x)) (xs := xs) (j := j) om hpj
   refine Gm rfl (Gm rfl (Gr (A8 (α := Lk) (xs := (keepL (fun x => !p x) xs j)) Ak ty146 rfl rfl Bo om om) (Gr (Bq (α := Lk) (xs := (keepL (fun x => !p x) xs j)) ty146 rfl Bo om om) (Gm rfl (G.e (Ap call254 rfl rfl (Gone_ok (at_ (keepL (fun x => !p x) xs j) ((keptN (fun x => !p x) xs j : Nat) : Int)) nw)) ?_)))))
   rintro _ _ ⟨_, _, ⟨rfl, rfl⟩, rfl, rfl⟩
   refine Ge1 (B0 (α := Ev) (cs := [I64 (2), I64 (nw), I64 ((at_ (keepL (fun x => !p x) xs j) ((keptN (fun x => !p x) xs j : Nat) : Int)).u), I64 ((at_ (keepL (fun x => !p x) xs j) ((keptN (fun x => !p x) xs j : Nat) : Int)).v), I64 (0), I64 (0), I64 (0)]) (xs := [⟨2, nw, (at_ (keepL (fun x => !p x) xs j) ((keptN (fun x => !p x) xs j : Nat) : Int)).u, (at_ (keepL (fun x => !p x) xs j) ((keptN (fun x => !p x) xs j : Nat) : Int)).v, 0, 0, 0⟩]) Aw ty108 rfl rfl dc dc rfl kr rfl rfl) fun ad3 => ?_
   refine Ge2 (B5 (α := Ev) (e := 108) (xs := chg) (ys := ([⟨2, nw, (at_ (keepL (fun x => !p x) xs j) ((keptN (fun x => !p x) xs j : Nat) : Int)).u, (at_ (keepL (fun x => !p x) xs j) ((keptN (fun x => !p x) xs j : Nat) : Int)).v, 0, 0, 0⟩] : List Ev)) Aw ty108 rfl rfl rfl mm Bo lcn dc rfl (fun _ _ => am)) fun ad4 cp5 => ?_
   refine Ga rfl (Af (Ar (S5 8 0 1 2 9 rfl rfl rfl rfl rfl) (Ax (Bj mixed (Br (I) 8 (Dr 0 rfl (Ac rfl) (Dr 1 rfl (Ac rfl) (Dr 2 rfl (D0 (l := keptN (fun x => !p x) xs j) Ak ty146 rfl rfl (by simp only [Int.natCast_add] <;> omega) om om) (Dr 3 rfl (Ac rfl) (Dr 4 rfl (Ac rfl) (Dr 5 rfl (Rad rfl rfl) (Dr 6 rfl (D0 (l := (keptN (fun x => !p x) xs j + 1)) Ak ty146 rfl rfl (by simp only [Int.natCast_add] <;> omega) om om) (Ds1 7 (Se0 rfl (Eff.copyT (α := Lk) (k := keptN (fun x => !p x) xs j) (q := (xs.length - j - 1)) (R := (keepL (fun x => !p x) xs (j + 1)) ++ List.drop (keptN (fun x => !p x) xs j + (xs.length - j - 1)) (keepL (fun x => !p x) xs j)) (n := (keepL (fun x => !p x) xs j).length) Ak ty146 rfl lat rfl (Sl.dropn (Sl.vec (xs := (keepL (fun x => !p x) xs j)) mm) om om) lat lat rfl (keep_copy om hpj rfl) lat am) ?_))))))))))))))
   refine Dz (Ai (A2 (Gm rfl (Gm rfl (Gr (B2 Ak rfl) (Gr (Rsu rfl rfl) (Gr (Runs.hiraw (h := ((keepL (fun x => !p x) xs j).length - 1)) Ak ty146 rfl rfl om om) (Ga rfl ?_))))))))
   have hkl : (keepL (fun x => !p x) xs j).length - 1 = (keepL (fun x => !p x) xs (j + 1)).length := by have h3 := keepL_len (P := (fun x => !p x)) (xs := xs) (j := j + 1); omega
   refine G.fit (J := vc 108 (.slice ad3 1 1) (([⟨2, nw, (at_ (keepL (fun x => !p x) xs j) ((keptN (fun x => !p x) xs j : Nat) : Int)).u, (at_ (keepL (fun x => !p x) xs j) ((keptN (fun x => !p x) xs j : Nat) : Int)).v, 0, 0, 0⟩] : List Ev)) :: vc 108 (.slice ad4 (chg ++ ([⟨2, nw, (at_ (keepL (fun x => !p x) xs j) ((keptN (fun x => !p x) xs j : Nat) : Int)).u, (at_ (keepL (fun x => !p x) xs j) ((keptN (fun x => !p x) xs j : Nat) : Int)).v, 0, 0, 0⟩] : List Ev)).length cp5) (chg ++ ([⟨2, nw, (at_ (keepL (fun x => !p x) xs j) ((keptN (fun x => !p x) xs j : Nat) : Int)).u, (at_ (keepL (fun x => !p x) xs j) ((keptN (fun x => !p x) xs j : Nat) : Int)).v, 0, 0, 0⟩] : List Ev)) :: vc 146 (.slice ad1 (keepL (fun x => !p x) xs (j + 1)).length cp2) ((keepL (fun x => !p x) xs (j + 1))) :: vc 146 (.slice a0 xs.length c0) (xs) :: I) (Fit.upd am (fun w h => by have h4 := cutshort (h := ((keepL (fun x => !p x) xs j).length - 1)) (by rw [List.length_append]; omega) w h; rw [keep_take hkl] at h4; exact h4)) ?_
   exact Bi (Am (B8 ((j + 1), (ad4), (cp5), (chg ++ ([⟨2, nw, (at_ (keepL (fun x => !p x) xs j) ((keptN (fun x => !p x) xs j : Nat) : Int)).u, (at_ (keepL (fun x => !p x) xs j) ((keptN (fun x => !p x) xs j : Nat) : Int)).v, 0, 0, 0⟩] : List Ev))) (by dsimp only; exact ⟨om, lap⟩) (hL := (Ab (Dg rfl (by first | rfl | (rw [keepL_zero]) | (rw [hky.1]) | (rw [hkl]))) (Ab rfl (Ab rfl (Ab (Dg rfl (by first | rfl | (rw [keepL_zero]) | (rw [hky.1]) | (rw [hkl]))) (Ab (Du rfl (by first | omega | (rw [keptN_zero]; rfl) | (dsimp only; have e1 := hky.2; omega) | (dsimp only; have e1 := hkn; omega))) Bp))))))))
 ·refine Bu (As (As (Ba (Ai (Ah (Gm rfl (Gm rfl (Ga rfl (Ga rfl (Af (Ay ?_)))))))))))
  have hE : (keepL (fun x => !p x) xs j) = (xs.filter (fun x => !p x)) := keepL_end om
  exact C6 rfl rfl rfl ([] ++ vc 146 (.slice ad1 (xs.filter (fun x => !p x)).length cp2) (xs.filter (fun x => !p x)) :: I) (by rw [← hE]; exact A3) ⟨⟨ad1, cp2, .slice a2 chg.length c2⟩, by rw [← hE], rfl⟩
variable {κ : Ctx} {I : List Item}
theorem SetP_at {F : Item → List Item} {n : Nat} {e : Ev} {a0 : Option Addr} {c0 : Nat} {xs : List Lk} (hat : AtF I (vc 146 (.slice a0 n c0) xs) F) (hn : n = xs.length) (ha : xs.Pairwise Lk.lt) (hsz : xs.length ≤ 1000000) :
  CallS Tryz.prog κ 256 [.slice a0 n c0, .agg #[I64 (e.kd), I64 (e.tm), I64 (e.u), I64 (e.v), I64 (e.w), I64 (e.lb), I64 (e.sg)]] I fun r J => ∃ y : Option Addr × Nat × Value, (r = .tuple #[.slice y.1 (setL (lkOf e) xs).length y.2.1, y.2.2]) ∧ J = [] ++ F (vc 146 (.slice y.1 (setL (lkOf e) xs).length y.2.1) (setL (lkOf e) xs)) := by
 subst hn
 exact D5 (Post := fun r (y : Option Addr × Nat × Value) => r = .tuple #[.slice y.1 (setL (lkOf e) xs).length y.2.1, y.2.2]) (Z := fun _ => []) (X := fun y : Option Addr × Nat × Value => vc 146 (.slice y.1 (setL (lkOf e) xs).length y.2.1) (setL (lkOf e) xs)) hat fun J hJ _ => SetP_base ha hsz
theorem CutP_at {F : Item → List Item} {n : Nat} {nw : Int} {a0 : Option Addr} {c0 : Nat} {xs : List Lk} {g : FuncId} {cp_ : List Value} {p : Lk → Bool} (hat : AtF I (vc 146 (.slice a0 n c0) xs) F) (hn : n = xs.length) (hcb : Says Tryz.prog κ I g cp_ p) (hsz : xs.length ≤ 1000000) :
  CallS Tryz.prog κ 257 [.slice a0 n c0, I64 (nw), .func (.func g) #[] cp_.toArray] I fun r J => ∃ y : Option Addr × Nat × Value, (r = .tuple #[.slice y.1 (xs.filter (fun x => !p x)).length y.2.1, y.2.2]) ∧ J = [] ++ F (vc 146 (.slice y.1 (xs.filter (fun x => !p x)).length y.2.1) (xs.filter (fun x => !p x))) := by
 subst hn
 exact D5 (Post := fun r (y : Option Addr × Nat × Value) => r = .tuple #[.slice y.1 (xs.filter (fun x => !p x)).length y.2.1, y.2.2]) (Z := fun _ => []) (X := fun y : Option Addr × Nat × Value => vc 146 (.slice y.1 (xs.filter (fun x => !p x)).length y.2.1) (xs.filter (fun x => !p x))) hat fun J hJ _ => CutP_base (hcb.fit hJ) hsz
theorem hitE_two {e : Ev} {l : Lk} (h : e.kd = 2) : hitE e l = decide (l.u = (if e.v < e.u then e.v else e.u) ∧ l.v = (if e.u < e.v then e.v else e.u)) := by unfold hitE; rw [if_pos h]; rfl
theorem hitE_oth {e : Ev} {l : Lk} (h : ¬ e.kd = 2) : hitE e l = decide (l.u = e.u ∨ l.v = e.u) := by unfold hitE; rw [if_neg h]
theorem Step1_ok {b : Nat} {e : Ev} (hk : e.kd = 2) (hb : BlkRd κ I b [I64 (e.kd), I64 (e.tm), I64 (e.u), I64 (e.v), I64 (e.w), I64 (e.lb), I64 (e.sg)] 108) (x : Lk) :
    CallS Tryz.prog κ 258 [.agg #[I64 (x.u), I64 (x.v), I64 (x.w), I64 (x.lb), I64 (x.sg), I64 (x.tm)], .pointer (some ⟨b, 0, none⟩)] I (fun r J => r = .bool (hitE e x) ∧ I = J) := by
 refine Ce2 Tryz.func258 rfl rfl ?_
 refine Ah (Ge1 (Bd (cs := [_, _, _, _, _, _]) rfl rfl rfl) fun b1 => Ga rfl (Af (Ah (Gf fld146_0 rfl (Gl ty3 ?_)))))
 refine Gf fld108_2 rfl (Gr (Cu ty3 rfl (Cp hb Az) rfl) (Gf fld108_3 rfl (Gr (Cu ty3 rfl (Cp hb Az) rfl) (Gr (Runs.min rfl rfl) (Gr (Bf rfl rfl) (Gm rfl (A6 (d := 12) rfl (fun g12 => ?_) (fun g12 => ?_))))))))
 ·refine Gro (Aa fld146_1 rfl) (Gro (Aq ty3) ?_)
  exact Gro (Aa fld108_2 rfl) (Gro (Cu ty3 rfl (Cp hb Az) rfl) (Gro (Aa fld108_3 rfl) (Gro (Cu ty3 rfl (Cp hb Az) rfl) (Gro (Runs.max rfl rfl) (Gro (Bf rfl rfl) (Gr (Al rfl rfl) (Ga rfl (Af (Ar (S1 3 rfl) (Ay (Av rfl rfl (I) Az ⟨by rw [hitE_two hk]; exact (by first | exact congrArg Value.bool (decide_eq_decide.2 (by skip; omega)) | exact congrArg Value.bool (decide_eq_true (by skip; omega)).symm | exact congrArg Value.bool (decide_eq_false (by skip; omega)).symm), rfl⟩)))))))))))
 ·exact Gpo (Gpo (Gpo (Gpo (Gpo (Gpo (Gpo (Gpo (Gr (Aj rfl rfl) (Ga rfl (Af (Ar (S1 3 rfl) (Ay (Av rfl rfl (I) Az ⟨by rw [hitE_two hk]; exact (by first | exact congrArg Value.bool (decide_eq_decide.2 (by skip; omega)) | exact congrArg Value.bool (decide_eq_true (by skip; omega)).symm | exact congrArg Value.bool (decide_eq_false (by skip; omega)).symm), rfl⟩)))))))))))))
theorem Step1_says {b : Nat} {e : Ev} (hk : e.kd = 2) (hb : BlkRd κ I b [I64 (e.kd), I64 (e.tm), I64 (e.u), I64 (e.v), I64 (e.w), I64 (e.lb), I64 (e.sg)] 108) : Says Tryz.prog κ I 258 [.pointer (some ⟨b, 0, none⟩)] (hitE e) := ⟨call258, fun x J hf => Step1_ok hk (hb.fit hf) x⟩
theorem Step2_ok {b : Nat} {e : Ev} (hk : ¬ e.kd = 2) (hb : BlkRd κ I b [I64 (e.kd), I64 (e.tm), I64 (e.u), I64 (e.v), I64 (e.w), I64 (e.lb), I64 (e.sg)] 108) (x : Lk) :
    CallS Tryz.prog κ 259 [.agg #[I64 (x.u), I64 (x.v), I64 (x.w), I64 (x.lb), I64 (x.sg), I64 (x.tm)], .pointer (some ⟨b, 0, none⟩)] I (fun r J => r = .bool (hitE e x) ∧ I = J) := by
 refine Ce2 Tryz.func259 rfl rfl ?_
 refine Ah (Ge1 (Bd (cs := [_, _, _, _, _, _]) rfl rfl rfl) fun b1 => Ga rfl (Af (Ah (Gf fld146_0 rfl (Gl ty3 ?_)))))
 refine Gf fld108_2 rfl (Gr (Cu ty3 rfl (Cp hb Az) rfl) (Gr (Bf rfl rfl) (Gm rfl (A6 (d := 9) rfl (fun g9 => ?_) (fun g9 => ?_)))))
 ·exact Gpo (Gpo (Gpo (Gpo (Gpo (Gr (Al rfl rfl) (Ga rfl (Af (Ar (S1 3 rfl) (Ay (Av rfl rfl (I) Az ⟨by rw [hitE_oth hk]; exact (by first | exact congrArg Value.bool (decide_eq_decide.2 (by skip; omega)) | exact congrArg Value.bool (decide_eq_true (by skip; omega)).symm | exact congrArg Value.bool (decide_eq_false (by skip; omega)).symm), rfl⟩))))))))))
 ·refine Gro (Aa fld146_1 rfl) (Gro (Aq ty3) ?_)
  exact Gro (Aa fld108_2 rfl) (Gro (Cu ty3 rfl (Cp hb Az) rfl) (Gro (Bf rfl rfl) (Gr (Aj rfl rfl) (Ga rfl (Af (Ar (S1 3 rfl) (Ay (Av rfl rfl (I) Az ⟨by rw [hitE_oth hk]; exact (by first | exact congrArg Value.bool (decide_eq_decide.2 (by skip; omega)) | exact congrArg Value.bool (decide_eq_true (by skip; omega)).symm | exact congrArg Value.bool (decide_eq_false (by skip; omega)).symm), rfl⟩))))))))
theorem Step2_says {b : Nat} {e : Ev} (hk : ¬ e.kd = 2) (hb : BlkRd κ I b [I64 (e.kd), I64 (e.tm), I64 (e.u), I64 (e.v), I64 (e.w), I64 (e.lb), I64 (e.sg)] 108) : Says Tryz.prog κ I 259 [.pointer (some ⟨b, 0, none⟩)] (hitE e) := ⟨call259, fun x J hf => Step2_ok hk (hb.fit hf) x⟩
theorem StepP_base {nd : Int} {e : Ev} {a0 : Option Addr} {c0 : Nat} {xs : List Lk} (ha : xs.Pairwise Lk.lt) (hsz : xs.length ≤ 1000000) :
    CallS Tryz.prog κ 215 [.agg #[I64 (nd), .slice a0 xs.length c0], .agg #[I64 (e.kd), I64 (e.tm), I64 (e.u), I64 (e.v), I64 (e.w), I64 (e.lb), I64 (e.sg)]] (vc 146 (.slice a0 xs.length c0) (xs) :: I) (fun r J => ∃ y : Option Addr × Nat × Value, (r = .tuple #[.agg #[I64 nd, .slice y.1 (stepL xs e).length y.2.1], y.2.2]) ∧ J = [] ++ vc 146 (.slice y.1 (stepL xs e).length y.2.1) (stepL xs e) :: I) := by
 refine Ce2 Tryz.func215 rfl rfl ?_
 refine Ah (Ge1 (Bd (cs := [_, _]) rfl rfl rfl) fun b1 => Ge1 (Bd (cs := [_, _, _, _, _, _, _]) rfl rfl rfl) fun b2 => Ge1 (A4 ty111 rfl) fun b3 => Ga rfl (Af (Ah (Ga rfl (Af (Ax (Ah (Gf fld108_0 rfl (Gl ty3 ?_)))))))))
 refine Af (A5 (Ah (Gr (Bf rfl rfl) (Ga rfl (Af (A7 rfl (fun c19 => ?_) (fun c19 => ?_)))))))
 ·refine A2 (Gf fld111_1 rfl (Gl ty109 ?_))
  refine Gl7 ty108 ?_
  refine G.e (Ap call256 rfl rfl (SetP_at (by repeat (first | exact AtF.head _ _ | apply AtF.tail)) rfl ha om)) ?_
  rintro _ _ ⟨_, _, ⟨⟨ad4, cp5, wv6⟩, rfl, rfl⟩, rfl, rfl⟩
  show G Tryz.prog κ _ _ _ _ ([(25, .tuple #[.slice ad4 (setL (lkOf e) xs).length cp5, wv6]), (24, .agg #[I64 (e.kd), I64 (e.tm), I64 (e.u), I64 (e.v), I64 (e.w), I64 (e.lb), I64 (e.sg)]), (23, .slice a0 xs.length c0), (22, .pointer (some ⟨b1, 1, none⟩)), (19, .bool (decide (e.kd = 1))), (20, .bool (decide (e.kd = 1))), (8, I64 (e.kd)), (7, .pointer (some ⟨b2, 0, none⟩)), (6, .slice none 0 0), (5, .slice none 0 0), (4, .pointer (some ⟨b3, 0, none⟩)), (3, .pointer (some ⟨b2, 0, none⟩)), (2, .pointer (some ⟨b1, 0, none⟩)), (0, .agg #[I64 (nd), .slice a0 xs.length c0]), (1, .agg #[I64 (e.kd), I64 (e.tm), I64 (e.u), I64 (e.v), I64 (e.w), I64 (e.lb), I64 (e.sg)])] : Env) (blk b3 [I64 (0), .slice none 0 0] 111 :: blk b2 [I64 (e.kd), I64 (e.tm), I64 (e.u), I64 (e.v), I64 (e.w), I64 (e.lb), I64 (e.sg)] 108 :: blk b1 [I64 (nd), .slice a0 xs.length c0] 111 :: vc 146 (.slice ad4 (setL (lkOf e) xs).length cp5) (setL (lkOf e) xs) :: I)
  refine Gm rfl (Gr (A1 rfl rfl) (Gr (A1 rfl rfl) (Gf fld111_1 rfl (Ge0 (Dw ty109) ?_))))
  refine Ga rfl (Bi (Am (Ai (Ar (S3 6 4 2 rfl rfl rfl) (Ah (Gl2 ty111 ?_))))))
  refine Gm rfl (Ge0 (B4 ty111) ?_)
  refine Ga rfl (Af (Ay ?_))
  have hE : setL (lkOf e) xs = (stepL xs e) := by unfold stepL; rw [if_pos c19]
  exact Cz rfl ty111 rfl rfl mm rfl ([] ++ vc 146 (.slice ad4 (stepL xs e).length cp5) (stepL xs e) :: I) (by rw [← hE]; exact A3) ⟨⟨ad4, cp5, wv6⟩, by rw [← hE] <;> rfl, rfl⟩
 ·refine Ah (Gr (Bf rfl rfl) (Ga rfl (Af (A7 rfl (fun c29 => ?_) (fun c29 => ?_)))))
  ·refine A2 (Gf fld111_1 rfl (Gl ty109 ?_))
   refine Gf fld108_1 rfl (Gl ty3 ?_)
   refine Gr (D1 rfl rfl) (G.e (Ap call257 rfl rfl (CutP_at (by repeat (first | exact AtF.head _ _ | apply AtF.tail)) rfl (Step1_says c29 (Dj mm)) om)) ?_)
   rintro _ _ ⟨_, _, ⟨⟨ad7, cp8, wv9⟩, rfl, rfl⟩, rfl, rfl⟩
   show G Tryz.prog κ _ _ _ _ ([(37, .tuple #[.slice ad7 (List.filter (fun x => !hitE e x) xs).length cp8, wv9]), (36, .func (.func 258) #[] #[.pointer (some ⟨b2, 0, none⟩)]), (35, I64 (e.tm)), (34, .pointer (some ⟨b2, 1, none⟩)), (33, .slice a0 xs.length c0), (32, .pointer (some ⟨b1, 1, none⟩)), (29, .bool (decide (e.kd = 2))), (30, .bool (decide (e.kd = 2))), (19, .bool (decide (e.kd = 1))), (20, .bool (decide (e.kd = 1))), (8, I64 (e.kd)), (7, .pointer (some ⟨b2, 0, none⟩)), (6, .slice none 0 0), (5, .slice none 0 0), (4, .pointer (some ⟨b3, 0, none⟩)), (3, .pointer (some ⟨b2, 0, none⟩)), (2, .pointer (some ⟨b1, 0, none⟩)), (0, .agg #[I64 (nd), .slice a0 xs.length c0]), (1, .agg #[I64 (e.kd), I64 (e.tm), I64 (e.u), I64 (e.v), I64 (e.w), I64 (e.lb), I64 (e.sg)])] : Env) (blk b3 [I64 (0), .slice none 0 0] 111 :: blk b2 [I64 (e.kd), I64 (e.tm), I64 (e.u), I64 (e.v), I64 (e.w), I64 (e.lb), I64 (e.sg)] 108 :: blk b1 [I64 (nd), .slice a0 xs.length c0] 111 :: vc 146 (.slice ad7 (List.filter (fun x => !hitE e x) xs).length cp8) (List.filter (fun x => !hitE e x) xs) :: I)
   refine Gm rfl (Gr (A1 rfl rfl) (Gr (A1 rfl rfl) (Gf fld111_1 rfl (Ge0 (Dw ty109) ?_))))
   refine Ga rfl (Bi (Am (Ai (Ar (S3 6 4 2 rfl rfl rfl) (Ah (Gl2 ty111 ?_))))))
   refine Gm rfl (Ge0 (B4 ty111) ?_)
   refine Ga rfl (Af (Ay ?_))
   have hE : List.filter (fun x => !hitE e x) xs = (stepL xs e) := by unfold stepL; rw [if_neg c19]
   exact Cz rfl ty111 rfl rfl mm rfl ([] ++ vc 146 (.slice ad7 (stepL xs e).length cp8) (stepL xs e) :: I) (by rw [← hE]; exact A3) ⟨⟨ad7, cp8, wv9⟩, by rw [← hE] <;> rfl, rfl⟩
  ·refine A2 (Gf fld111_1 rfl (Gl ty109 ?_))
   refine Gf fld108_1 rfl (Gl ty3 ?_)
   refine Gr (D1 rfl rfl) (G.e (Ap call257 rfl rfl (CutP_at (by repeat (first | exact AtF.head _ _ | apply AtF.tail)) rfl (Step2_says c29 (Dj mm)) om)) ?_)
   rintro _ _ ⟨_, _, ⟨⟨ad10, cp11, wv12⟩, rfl, rfl⟩, rfl, rfl⟩
   show G Tryz.prog κ _ _ _ _ ([(15, .tuple #[.slice ad10 (List.filter (fun x => !hitE e x) xs).length cp11, wv12]), (14, .func (.func 259) #[] #[.pointer (some ⟨b2, 0, none⟩)]), (13, I64 (e.tm)), (12, .pointer (some ⟨b2, 1, none⟩)), (11, .slice a0 xs.length c0), (10, .pointer (some ⟨b1, 1, none⟩)), (29, .bool (decide (e.kd = 2))), (30, .bool (decide (e.kd = 2))), (19, .bool (decide (e.kd = 1))), (20, .bool (decide (e.kd = 1))), (8, I64 (e.kd)), (7, .pointer (some ⟨b2, 0, none⟩)), (6, .slice none 0 0), (5, .slice none 0 0), (4, .pointer (some ⟨b3, 0, none⟩)), (3, .pointer (some ⟨b2, 0, none⟩)), (2, .pointer (some ⟨b1, 0, none⟩)), (0, .agg #[I64 (nd), .slice a0 xs.length c0]), (1, .agg #[I64 (e.kd), I64 (e.tm), I64 (e.u), I64 (e.v), I64 (e.w), I64 (e.lb), I64 (e.sg)])] : Env) (blk b3 [I64 (0), .slice none 0 0] 111 :: blk b2 [I64 (e.kd), I64 (e.tm), I64 (e.u), I64 (e.v), I64 (e.w), I64 (e.lb), I64 (e.sg)] 108 :: blk b1 [I64 (nd), .slice a0 xs.length c0] 111 :: vc 146 (.slice ad10 (List.filter (fun x => !hitE e x) xs).length cp11) (List.filter (fun x => !hitE e x) xs) :: I)
   refine Gm rfl (Gr (A1 rfl rfl) (Gr (A1 rfl rfl) (Gf fld111_1 rfl (Ge0 (Dw ty109) ?_))))
   refine Ga rfl (Bi (Am (Ai (Ar (S3 6 4 2 rfl rfl rfl) (Ah (Gl2 ty111 ?_))))))
   refine Gm rfl (Ge0 (B4 ty111) ?_)
   refine Ga rfl (Af (Ay ?_))
   have hE : List.filter (fun x => !hitE e x) xs = (stepL xs e) := by unfold stepL; rw [if_neg c19]
   exact Cz rfl ty111 rfl rfl mm rfl ([] ++ vc 146 (.slice ad10 (stepL xs e).length cp11) (stepL xs e) :: I) (by rw [← hE]; exact A3) ⟨⟨ad10, cp11, wv12⟩, by rw [← hE] <;> rfl, rfl⟩
theorem StepP_at {F : Item → List Item} {n : Nat} {nd : Int} {e : Ev} {a0 : Option Addr} {c0 : Nat} {xs : List Lk} (hat : AtF I (vc 146 (.slice a0 n c0) xs) F) (hn : n = xs.length) (ha : xs.Pairwise Lk.lt) (hsz : xs.length ≤ 1000000) :
  CallS Tryz.prog κ 215 [.agg #[I64 (nd), .slice a0 n c0], .agg #[I64 (e.kd), I64 (e.tm), I64 (e.u), I64 (e.v), I64 (e.w), I64 (e.lb), I64 (e.sg)]] I fun r J => ∃ y : Option Addr × Nat × Value, (r = .tuple #[.agg #[I64 nd, .slice y.1 (stepL xs e).length y.2.1], y.2.2]) ∧ J = [] ++ F (vc 146 (.slice y.1 (stepL xs e).length y.2.1) (stepL xs e)) := by
 subst hn
 exact D5 (Post := fun r (y : Option Addr × Nat × Value) => r = .tuple #[.agg #[I64 nd, .slice y.1 (stepL xs e).length y.2.1], y.2.2]) (Z := fun _ => []) (X := fun y : Option Addr × Nat × Value => vc 146 (.slice y.1 (stepL xs e).length y.2.1) (stepL xs e)) hat fun J hJ _ => StepP_base ha hsz
end Go.Sl
