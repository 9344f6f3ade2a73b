/- A part of the proofs of statements of this seat: contracts of functions, and the plain laws that they lean on. No conditions. -/
import Derived.Test.YtfkcohmipjhfcaaGreatDoorP4
import Derived.MapKept
set_option linter.unusedVariables false
set_option linter.unusedSimpArgs false
set_option linter.unusedSectionVars false
namespace Go.Sl
open Go.Proofs
set_option maxRecDepth 4000
variable {κ : Ctx} {I : List Item}
theorem sortI_ok {e : TypeId} {ad : Option Addr} {c : Nat} {xs : List Int} (hsz : xs.length < 4611686018427387904) :
  CallS Tryz.prog κ 142 [.slice ad xs.length c] (vc e (.slice ad xs.length c) xs :: I) fun r J => r = .tuple #[] ∧ J = vc e (.slice ad xs.length c) (sortZ xs) :: I :=
 (sortI_any (κ := κ) (I := I) Tryz.sortI (e := e) (ad := ad) (c := c) hsz).mono fun r J ⟨h1, h2⟩ => ⟨h1, by rw [h2, Eb]⟩
theorem CompactI_ok {a : Option Addr} {c : Nat} {xs : List Int} (hsz : xs.length < 1000000000000) :
    CallS Tryz.prog κ 143 [.slice a xs.length c] (vc 3 (.slice a xs.length c) (xs) :: I) (fun r J => r = .slice a (compG xs xs.length).length c ∧ J = vc 3 (.slice a (compG xs xs.length).length c) (compG xs xs.length) :: I) := by
 refine B8 (vc.cap List.mem_cons_self) fun hcap => ?_
 refine Ce1 Tryz.func143 rfl rfl ?_
 refine Ah (Ga rfl (Af (As (Ah (Gm rfl (Gr (Bl Ac rfl) (Gr (Ba rfl rfl) (Af (A7 rfl (fun c8 => ?_) (fun c8 => ?_))))))))))
 ·refine Ah (Gm rfl (Ga rfl (Af (Ay (Aj ?_)))))
  have hc : compG xs xs.length = xs := (compG_take (fun j h1 h2 => by omega) (Nat.le_refl _)).trans (List.take_length)
  exact A3 rfl rfl (vc 3 (.slice a (compG xs xs.length).length c) (compG xs xs.length) :: I) (by rw [hc]; exact Az) ⟨by rw [hc], rfl⟩
 ·refine A2 (Ak (As (Ah (Ga rfl (Af (A0 (Bu (σ := Nat) (fun s => ([(0, .slice a xs.length c), (3, I64 (((s : Nat) : Int)))] : Env)) (fun s => vc 3 (.slice a xs.length c) (xs) :: I) (fun s => (1 ≤ s ∧ s ≤ xs.length) ∧ (∀ j, j < s → 0 < j → at_ xs (j : Int) ≠ at_ xs ((j : Int) - 1))) (fun s => xs.length - s) (1) (show (1 ≤ (1 : Nat) ∧ (1 : Nat) ≤ xs.length) ∧ (∀ j, j < (1 : Nat) → 0 < j → at_ xs (j : Int) ≠ at_ xs ((j : Int) - 1)) from ⟨om, (fun j h1 h2 => by omega)⟩) (Aa rfl (Aa Cf Bg)) (show Fit κ _ (vc 3 (.slice a xs.length c) (xs) :: I) from Az) ?_)))))))
  rintro k hp
  obtain ⟨hk, hne⟩ := hp
  refine As (Ah (Gm rfl (Gm rfl (Gr (Bl Ac rfl) (Gr (Ba rfl rfl) (Af (A7 rfl (fun c13 => ?_) (fun c13 => ?_))))))))
  ·refine A2 (Ak (As (A0 (As (Bj mixed (Bm (vc 3 (.slice a xs.length c) (xs) :: I) 10 (Dr 0 rfl (Ad rfl) (Dr 1 rfl (Ad rfl) (Dr 2 rfl (Ax (α := Int) (xs := xs) Ac ty3 rfl rfl Be om (by first | omega | (simp only [List.length_drop]; omega))) (Dr 3 rfl (Bs (xs := xs) ty3 rfl Be om (by first | omega | (simp only [List.length_drop]; omega))) (Dr 4 rfl (Ad rfl) (Dr 5 rfl (Ad rfl) (Dr 6 rfl (Rsu rfl rfl) (Dr 7 rfl (Ax (α := Int) (xs := xs) Ac ty3 rfl rfl Be om (by first | omega | (simp only [List.length_drop]; omega))) (Dr 8 rfl (Bs (xs := xs) ty3 rfl Be om (by first | omega | (simp only [List.length_drop]; omega))) (Dr 9 rfl (Bi rfl rfl) (Dz (Ak (Aq (S3 25 0 3 rfl rfl rfl) (A7 rfl (fun c25 => ?_) (fun c25 => ?_)))))))))))))))))))))
   ·refine Ah (Gm rfl (Gm rfl (Gr (Ej (α := Int) (xs := xs) (l := k) Ac ty3 rfl rfl om Be om) (Ga rfl (Af (As (Ah (Ga rfl (Af (A0 (Bu (σ := Nat × Nat × (List Int)) (fun s => ([(0, .slice a xs.length c), (3, I64 (((s.1 : Nat) : Int))), (4, .slice (adrop a c k (Enc.sz Int)) (List.drop k xs).length (c - k)), (5, I64 (((s.2.1 : Nat) : Int)))] : Env)) (fun s => vc 3 (.slice a xs.length c) (s.2.2) :: I) (fun s => (1 ≤ s.2.1 ∧ k + s.2.1 ≤ xs.length) ∧ (s.2.2.length = xs.length) ∧ (1 ≤ s.1 ∧ s.1 < k + s.2.1) ∧ (s.2.2.take s.1 = compG xs (k + s.2.1)) ∧ (∀ j, k + s.2.1 ≤ j + 1 → at_ s.2.2 (j : Int) = at_ xs (j : Int))) (fun s => xs.length - (k + s.2.1)) (k, 1, xs) (show (1 ≤ (1 : Nat) ∧ k + (1 : Nat) ≤ xs.length) ∧ ((xs : List Int).length = xs.length) ∧ (1 ≤ (k : Nat) ∧ (k : Nat) < k + (1 : Nat)) ∧ ((xs : List Int).take (k : Nat) = compG xs (k + (1 : Nat))) ∧ (∀ j, k + (1 : Nat) ≤ j + 1 → at_ (xs : List Int) (j : Int) = at_ xs (j : Int)) from ⟨om, om, om, (by rw [← compG_take hne om]; simp only [compG]; rw [if_pos ⟨by omega, c25⟩]), (fun _ _ => rfl)⟩) (Aa rfl (Aa Cf (Aa rfl (Aa Cf Bg)))) (show Fit κ _ (vc 3 (.slice a xs.length c) ((xs)) :: I) from Az) ?_)))))))))))
    rintro ⟨m, q, ys⟩ hp
    dsimp only at hp ⊢
    obtain ⟨hq, hyl, hm, htk, hsame⟩ := hp
    have hdl : (List.drop k xs).length = xs.length - k := List.length_drop
    have hq1 := hsame (k + q) om
    have hq2 := hsame (k + q - 1) om
    rw [show ((k + q - 1 : Nat) : Int) = ((k + q : Nat) : Int) - 1 by omega] at hq2
    refine As (Ah (Gm rfl (Gm rfl (Gr (Bl Ac rfl) (Gr (Ba rfl rfl) (Af (A7 rfl (fun c32 => ?_) (fun c32 => ?_))))))))
    ·refine A2 (Ak (As (A0 (As (Bj mixed (Bm (vc 3 (.slice a xs.length c) (ys) :: I) 10 (Dr 0 rfl (Ad rfl) (Dr 1 rfl (Ad rfl) (Dr 2 rfl (Ax (α := Int) (xs := List.drop k ys) Ac ty3 rfl rfl (Em Be om (by rw [List.length_drop]; omega)) om (by first | omega | (simp only [List.length_drop]; omega))) (Dr 3 rfl (Bs (xs := List.drop k ys) ty3 rfl (Em Be om (by rw [List.length_drop]; omega)) om (by first | omega | (simp only [List.length_drop]; omega))) (Dr 4 rfl (Ad rfl) (Dr 5 rfl (Ad rfl) (Dr 6 rfl (Rsu rfl rfl) (Dr 7 rfl (Ax (α := Int) (xs := List.drop k ys) Ac ty3 rfl rfl (Em Be om (by rw [List.length_drop]; omega)) om (by first | omega | (simp only [List.length_drop]; omega))) (Dr 8 rfl (Bs (xs := List.drop k ys) ty3 rfl (Em Be om (by rw [List.length_drop]; omega)) om (by first | omega | (simp only [List.length_drop]; omega))) (Dr 9 rfl (Bv rfl rfl) (Dz (Ak (Aq (S5 44 0 3 4 5 rfl rfl rfl rfl rfl) (A7 rfl (fun c44 => ?_) (fun c44 => ?_)))))))))))))))))))))
     ·refine Ah (Gm rfl (Gm rfl (Gm rfl (Gm rfl (Gr (Ax (α := Int) (xs := List.drop k ys) Ac ty3 rfl rfl (Em Be om (by rw [List.length_drop]; omega)) om (by first | omega | (simp only [List.length_drop]; omega))) (Gr (Bs (xs := List.drop k ys) ty3 rfl (Em Be om (by rw [List.length_drop]; omega)) om (by first | omega | (simp only [List.length_drop]; omega))) (Gr (Ax (α := Int) (xs := ys) Ac ty3 rfl rfl Be om (by first | omega | (simp only [List.length_drop]; omega))) (Ge0 (Ct (α := Int) (xs := ys) (e := 3) (new := at_ (List.drop k ys) (q : Int)) ty3 rfl rfl rfl om (by first | omega | (simp only [List.length_drop]; omega)) am) ?_))))))))
      refine Af (Av (Gm rfl (Gr (Rad rfl rfl) (Ga rfl (Bf (Ai (Ak (Aq (S4 3 0 4 5 rfl rfl rfl rfl) (Av (Gm rfl (Gr (Rad rfl rfl) (Ga rfl (Bf ?_)))))))))))))
      have hd1 : at_ (List.drop k ys) (q : Int) = at_ ys ((k + q : Nat) : Int) := by rw [at_dropG _ _ _ om]; congr 1
      have hd2 : at_ (List.drop k ys) ((q : Int) - 1) = at_ ys (((k + q : Nat) : Int) - 1) := by rw [at_dropG _ _ _ om]; congr 1; omega
      have hset : List.set ys ((m : Int)).toNat (at_ (List.drop k ys) (q : Int)) = ys.set m (at_ ys ((k + q : Nat) : Int)) := by rw [← hd1]; rfl
      rw [hset]
      rw [hd1, hd2] at c44
      exact B1 ((m + 1), (q + 1), (ys.set m (at_ ys ((k + q : Nat) : Int)))) (by dsimp only; exact ⟨om, (by rw [List.length_set]; exact hyl), om, (by rw [show k + (q + 1) = k + q + 1 by omega]; exact compG_put htk om c44 hq1 hq2), (fun j hj => by rw [at_setn _ _ _ _ om, if_neg om]; exact hsame j om)⟩) (hlt := by (try dsimp only); exact (by simp only [List.length_drop] at *; omega))
     ·refine A2 (Ai (Ak (Av (Gm rfl (Gr (Rad rfl rfl) (Ga rfl (Bf ?_)))))))
      have hd1 : at_ (List.drop k ys) (q : Int) = at_ ys ((k + q : Nat) : Int) := by rw [at_dropG _ _ _ om]; congr 1
      have hd2 : at_ (List.drop k ys) ((q : Int) - 1) = at_ ys (((k + q : Nat) : Int) - 1) := by rw [at_dropG _ _ _ om]; congr 1; omega
      rw [hd1, hd2] at c44
      exact B1 ((m), (q + 1), (ys)) (by dsimp only; exact ⟨om, om, om, (by rw [show k + (q + 1) = k + q + 1 by omega]; exact compG_keep htk om c44 hq1 hq2), (fun j hj => hsame j om)⟩) (hlt := by (try dsimp only); exact (by simp only [List.length_drop] at *; omega))
    ·refine Br (Am (Am (A6 (Ak (Ah (Gm rfl (Gm rfl (Gr (Ej (α := Int) (xs := ys) (l := m) Ac ty3 rfl rfl om Be om) (Ge0 (Eff.clear (α := Int) (k := m) (xs := ys) Ac ty3 (AllOne.cons rfl AllOne.nil) rfl rfl om am) ?_)))))))))
     refine Af (Ah (Gm rfl (Gm rfl (Gr (Runs.hiraw (h := m) Ac ty3 rfl rfl om om) (Ga rfl (Af (Aq (S1 2 rfl) (Ay (Ap (Aj (Aj (Ap (Aj ?_)))))))))))))
     have hc : ys.take m = compG xs xs.length := by rw [htk]; congr 1; omega
     have hcm : (compG xs xs.length).length = m := by rw [← hc, List.length_take, hyl, Nat.min_eq_left om]
     exact A3 rfl rfl (vc 3 (.slice a (compG xs xs.length).length c) (compG xs xs.length) :: I) (by rw [← hc]; exact Az) ⟨by rw [hcm], rfl⟩
   ·exact A2 (Ai (Ak (Av (Gm rfl (Gr (Rad rfl rfl) (Ga rfl (Bf (B1 ((k + 1)) ⟨om, (all_succ hne (fun _ => c25))⟩))))))))
  ·refine Br (Am (Am (A6 (Ak (Ah (Gm rfl (Ga rfl (Af (Ay ?_)))))))))
   have hc : compG xs xs.length = xs := (compG_take (fun j h1 h2 => hne j om h2) (Nat.le_refl _)).trans (List.take_length)
   exact A3 rfl rfl (vc 3 (.slice a (compG xs xs.length).length c) (compG xs xs.length) :: I) (by rw [hc]; exact Az) ⟨by rw [hc], rfl⟩
theorem CloneI {a : Option Addr} {c : Nat} {xs : List Int} (hl : Sl κ I (.slice a xs.length c) xs) (hb : xs.length ≤ 1000000000) :
    CallS Tryz.prog κ 284 [.slice a xs.length c] I (fun r J => ∃ a' c', r = .slice a' xs.length c' ∧ J = vc 3 (.slice a' xs.length c') xs :: I) := by
 refine B8 (p := a.isNone = true → xs = [] ∧ c = 0) (fun w hs hn => hl.isNone w hs hn) fun hnone => ?_
 refine Ce1 Tryz.func284 rfl rfl ?_
 refine Ah (Ga rfl (Af (As (Ah (Gm rfl (Gr (Runs.eqnil Ac rfl rfl) (Af (W.cond rfl (fun c4 => ?_) (fun c4 => ?_)))))))))
 ·refine Ah (Ga rfl (Af (Ay (Aj ?_))))
  obtain ⟨hx0, _⟩ := hnone c4
  subst hx0
  exact A3 rfl rfl (vc 3 (.slice none ([] : List Int).length 0) ([] : List Int) :: I) (Bt _ _) ⟨none, 0, rfl, rfl⟩
 ·refine A2 (Ak (Ah (Ge1 (Eff.bs0 (α := Int) Ac ty3 rfl) fun ad1 => ?_)))
  refine Gm rfl (Ge2 (Ci (α := Int) (e := 3) (xs := ([] : List Int)) (ys := xs) Ac ty3 rfl rfl rfl mm (Bh hl) (by simp only [List.length_nil]; omega) dc rfl (fun _ _ => am)) fun ad2 cp3 => ?_)
  exact Ga rfl (Af (Ay (A3 rfl rfl (vc 3 (.slice ad2 xs.length cp3) xs :: I) Az ⟨ad2, cp3, rfl, rfl⟩)))
variable {κ : Ctx} {I : List Item}
structure Lk where
 u : Int
 v : Int
 w : Int
 lb : Int
 sg : Int
 tm : Int
deriving DecidableEq, Inhabited
instance : Enc Lk := ⟨fun x => [I64 x.u, I64 x.v, I64 x.w, I64 x.lb, I64 x.sg, I64 x.tm], 6, by omega, fun _ => rfl, fun x u h => by
 simp only [List.mem_cons, List.not_mem_nil, or_false] at h
 rcases h with rfl | rfl | rfl | rfl | rfl | rfl <;> rfl⟩
theorem eqt146 : EqT Tryz.prog 146 Lk := EqT.flat (fun p : Lk => [p.u, p.v, p.w, p.lb, p.sg, p.tm]) (fun _ => rfl) (fun x y h => by cases x; cases y; simpa using h) (n := 6) (fun _ => rfl) kr kr kr kr kr
structure Ev where
 kd : Int
 tm : Int
 u : Int
 v : Int
 w : Int
 lb : Int
 sg : Int
deriving DecidableEq, Inhabited
instance : Enc Ev := ⟨fun x => [I64 x.kd, I64 x.tm, I64 x.u, I64 x.v, I64 x.w, I64 x.lb, I64 x.sg], 7, by omega, fun _ => rfl, fun x u h => by
 simp only [List.mem_cons, List.not_mem_nil, or_false] at h
 rcases h with rfl | rfl | rfl | rfl | rfl | rfl | rfl <;> rfl⟩
def Lk.p (l : Lk) : Pt := ⟨l.u, l.v⟩
def Lk.cmp (a c : Lk) : Int := Pt.cmp a.p c.p
def Lk.lt (a c : Lk) : Prop := Pt.lt a.p c.p
instance : DecidableRel Lk.lt := fun a c => by unfold Lk.lt; infer_instance
def rightW (w lb sg : Int) : Prop := 1 ≤ w ∧ w ≤ 1000 ∧ 0 ≤ lb ∧ lb ≤ 15 ∧ (sg = 1 ∨ sg = -1)
instance (w lb sg : Int) : Decidable (rightW w lb sg) := by unfold rightW; infer_instance
def badL (n : Int) (l : Lk) : Int := if l.u < 0 ∨ l.v ≤ l.u ∨ n ≤ l.v then 6 else if ¬ rightW l.w l.lb l.sg then 1 else if l.tm < 0 ∨ 1048576 < l.tm then 9 else 0
def checkS (n : Int) (xs : List Lk) : Int := if n < 0 ∨ 64 < n then 1 else scanL (badL n) Lk.lt none xs
theorem badL_zero {n : Int} {l : Lk} (h1 : ¬ (l.u < 0 ∨ l.v ≤ l.u ∨ n ≤ l.v)) (h2 : rightW l.w l.lb l.sg) (h3 : ¬ (l.tm < 0 ∨ 1048576 < l.tm)) : badL n l = 0 := by
 unfold badL; rw [if_neg h1, if_neg (fun h => h h2), if_neg h3]
theorem badL_six {n : Int} {l : Lk} (h1 : l.u < 0 ∨ l.v ≤ l.u ∨ n ≤ l.v) : badL n l = 6 := by unfold badL; rw [if_pos h1]
theorem badL_one {n : Int} {l : Lk} (h1 : ¬ (l.u < 0 ∨ l.v ≤ l.u ∨ n ≤ l.v)) (h2 : ¬ rightW l.w l.lb l.sg) : badL n l = 1 := by unfold badL; rw [if_neg h1, if_pos h2]
theorem badL_nine {n : Int} {l : Lk} (h1 : ¬ (l.u < 0 ∨ l.v ≤ l.u ∨ n ≤ l.v)) (h2 : rightW l.w l.lb l.sg) (h3 : l.tm < 0 ∨ 1048576 < l.tm) : badL n l = 9 := by unfold badL; rw [if_neg h1, if_neg (fun h => h h2), if_pos h3]
def checkW (kd wd mo : Int) : Int := if kd < 1 ∨ 3 < kd then 8 else if (kd = 2 ∧ (wd < 1 ∨ 1048576 < wd)) ∨ (kd ≠ 2 ∧ wd ≠ 0) ∨ (kd = 3 ∧ (mo < 0 ∨ 2016 < mo)) ∨ (kd ≠ 3 ∧ mo ≠ 0) then 1 else 0
theorem CheckW_ok (kd wd mo : Int) :
    CallS Tryz.prog κ 78 [.agg #[I64 (kd), I64 (wd), I64 (mo)]] I (fun r J => r = I64 (checkW kd wd mo) ∧ I = J) := by
 refine Ce1 Tryz.func78 rfl rfl ?_
 refine Ah (Ge1 (Bd (cs := [_, _, _]) rfl rfl rfl) fun b1 => Ga rfl (Af (Ah (Ga rfl (Ga rfl (Af (As (Ah (Gf fld31_0 rfl (Gl ty3 ?_))))))))))
 refine Af (A0 (Ah (Gr (Bi rfl rfl) (Ga rfl (Af (A7 rfl (fun c7 => ?_) (fun c7 => ?_)))))))
 ·refine A2 (Ai (Ak (As (Ah (Gf fld31_1 rfl (Gl ty3 ?_))))))
  refine Gm rfl (Gr (Bv rfl rfl) (Gm rfl (Bk (d := 37) rfl (fun g37 => ?_) (fun g37 => ?_))))
  ·exact Gpo (Gpo (Gpo (Gpo (Gr (Ao rfl rfl) (Af (Aq (S1 42 rfl) (Co rfl (Ah (Ga rfl (Af (Ay (Aj (A3 rfl rfl (I) A1 ⟨by rw [show checkW kd wd mo = 1 from by unfold checkW; split <;> first | rfl | omega | (split <;> first | rfl | omega)], rfl⟩)))))))))))))
  ·refine Gro (Ab fld31_2 rfl) (Gro (Au ty3) ?_)
   refine Gro (Ad rfl) (Gro (Bv rfl rfl) (Gr (Ar rfl rfl) (Af (Aq (S1 42 rfl) (A7 rfl (fun c42 => ?_) (fun c42 => ?_))))))
   ·exact Ah (Ga rfl (Af (Ay (Aj (A3 rfl rfl (I) A1 ⟨by rw [show checkW kd wd mo = 1 from by unfold checkW; split <;> first | rfl | omega | (split <;> first | rfl | omega)], rfl⟩)))))
   ·exact A2 (Ak (Ah (Ga rfl (Af (Ay (A3 rfl rfl (I) A1 ⟨by rw [show checkW kd wd mo = 0 from by unfold checkW; split <;> first | rfl | omega | (split <;> first | rfl | omega)], rfl⟩))))))
 ·refine Ah (Gr (Bi rfl rfl) (Ga rfl (Af (A7 rfl (fun c9 => ?_) (fun c9 => ?_)))))
  ·refine As (Ah (Gf fld31_1 rfl (Gl ty3 ?_)))
   refine Gr (Ba rfl rfl) (Gm rfl (Bk (d := 14) rfl (fun g14 => ?_) (fun g14 => ?_)))
   ·exact Gpo (Gpo (Gpo (Gr (Ao rfl rfl) (Af (Aq (S3 18 4 1 rfl rfl rfl) (Co rfl (Ah (Ga rfl (Af (Ay (Aj (Ap (Aj (A3 rfl rfl (I) A1 ⟨by rw [show checkW kd wd mo = 1 from by unfold checkW; split <;> first | rfl | omega | (split <;> first | rfl | omega)], rfl⟩))))))))))))))
   ·refine Gro (Ab fld31_1 rfl) (Gro (Au ty3) ?_)
    refine Gro (B0 rfl rfl) (Gr (Ar rfl rfl) (Af (Aq (S3 18 4 1 rfl rfl rfl) (A7 rfl (fun c18 => ?_) (fun c18 => ?_)))))
    ·exact Ah (Ga rfl (Af (Ay (Aj (Ap (Aj (A3 rfl rfl (I) A1 ⟨by rw [show checkW kd wd mo = 1 from by unfold checkW; split <;> first | rfl | omega | (split <;> first | rfl | omega)], rfl⟩)))))))
    ·refine A2 (Ak (Av (Gf fld31_1 rfl (Gl ty3 ?_))))
     refine Ga rfl (Bf (Ai (Ak (As (Ah (Gf fld31_1 rfl (Gl ty3 ?_)))))))
     refine Gm rfl (Gr (Bv rfl rfl) (Gm rfl (Bk (d := 37) rfl (fun g37 => ?_) (fun g37 => ?_))))
     ·exact Gpo (Gpo (Gpo (Gpo (Gr (Ao rfl rfl) (Af (Aq (S1 42 rfl) (Co rfl (Ah (Ga rfl (Af (Ay (Aj (A3 rfl rfl (I) A1 ⟨by rw [show checkW kd wd mo = 1 from by unfold checkW; split <;> first | rfl | omega | (split <;> first | rfl | omega)], rfl⟩)))))))))))))
     ·refine Gro (Ab fld31_2 rfl) (Gro (Au ty3) ?_)
      refine Gro (Ad rfl) (Gro (Bv rfl rfl) (Gr (Ar rfl rfl) (Af (Aq (S1 42 rfl) (A7 rfl (fun c42 => ?_) (fun c42 => ?_))))))
      ·exact Ah (Ga rfl (Af (Ay (Aj (A3 rfl rfl (I) A1 ⟨by rw [show checkW kd wd mo = 1 from by unfold checkW; split <;> first | rfl | omega | (split <;> first | rfl | omega)], rfl⟩)))))
      ·exact A2 (Ak (Ah (Ga rfl (Af (Ay (A3 rfl rfl (I) A1 ⟨by rw [show checkW kd wd mo = 0 from by unfold checkW; split <;> first | rfl | omega | (split <;> first | rfl | omega)], rfl⟩))))))
  ·refine Ah (Gr (Bi rfl rfl) (Ga rfl (Af (A7 rfl (fun c21 => ?_) (fun c21 => ?_)))))
   ·refine As (Ah (Gf fld31_2 rfl (Gl ty3 ?_)))
    refine Gr (Ba rfl rfl) (Gm rfl (Bk (d := 26) rfl (fun g26 => ?_) (fun g26 => ?_)))
    ·exact Gpo (Gpo (Gpo (Gr (Ao rfl rfl) (Af (Aq (S3 30 3 1 rfl rfl rfl) (Co rfl (Ah (Ga rfl (Af (Ay (Aj (Ap (Aj (A3 rfl rfl (I) A1 ⟨by rw [show checkW kd wd mo = 1 from by unfold checkW; split <;> first | rfl | omega | (split <;> first | rfl | omega)], rfl⟩))))))))))))))
    ·refine Gro (Ab fld31_2 rfl) (Gro (Au ty3) ?_)
     refine Gro (B0 rfl rfl) (Gr (Ar rfl rfl) (Af (Aq (S3 30 3 1 rfl rfl rfl) (A7 rfl (fun c30 => ?_) (fun c30 => ?_)))))
     ·exact Ah (Ga rfl (Af (Ay (Aj (Ap (Aj (A3 rfl rfl (I) A1 ⟨by rw [show checkW kd wd mo = 1 from by unfold checkW; split <;> first | rfl | omega | (split <;> first | rfl | omega)], rfl⟩)))))))
     ·refine A2 (Ak (Av (Gf fld31_2 rfl (Gl ty3 ?_))))
      refine Ga rfl (Bf (Ai (Ak (As (Ah (Gf fld31_1 rfl (Gl ty3 ?_)))))))
      refine Gm rfl (Gr (Bv rfl rfl) (Gm rfl (Bk (d := 37) rfl (fun g37 => ?_) (fun g37 => ?_))))
      ·exact Gpo (Gpo (Gpo (Gpo (Gr (Ao rfl rfl) (Af (Aq (S1 42 rfl) (Co rfl (Ah (Ga rfl (Af (Ay (Aj (A3 rfl rfl (I) A1 ⟨by rw [show checkW kd wd mo = 1 from by unfold checkW; split <;> first | rfl | omega | (split <;> first | rfl | omega)], rfl⟩)))))))))))))
      ·refine Gro (Ab fld31_2 rfl) (Gro (Au ty3) ?_)
       refine Gro (Ad rfl) (Gro (Bv rfl rfl) (Gr (Ar rfl rfl) (Af (Aq (S1 42 rfl) (A7 rfl (fun c42 => ?_) (fun c42 => ?_))))))
       ·exact Ah (Ga rfl (Af (Ay (Aj (A3 rfl rfl (I) A1 ⟨by rw [show checkW kd wd mo = 1 from by unfold checkW; split <;> first | rfl | omega | (split <;> first | rfl | omega)], rfl⟩)))))
       ·exact A2 (Ak (Ah (Ga rfl (Af (Ay (A3 rfl rfl (I) A1 ⟨by rw [show checkW kd wd mo = 0 from by unfold checkW; split <;> first | rfl | omega | (split <;> first | rfl | omega)], rfl⟩))))))
   ·exact Ah (Ga rfl (Af (Aq (S1 2 rfl) (Ay (Ap (Aj (A3 rfl rfl (I) A1 ⟨by rw [show checkW kd wd mo = 8 from by unfold checkW; split <;> first | rfl | omega | (split <;> first | rfl | omega)], rfl⟩)))))))
theorem RightW_ok (w lb sg : Int) :
    CallS Tryz.prog κ 251 [I64 (w), I64 (lb), I64 (sg)] I (fun r J => r = .bool (decide (rightW w lb sg)) ∧ I = J) := by
 refine Ce3 Tryz.func251 rfl rfl ?_
 refine Ah (Ga rfl (Af (Ah (Gm rfl (Gr (Cc rfl rfl) (Gm rfl (Bk (d := 9) rfl (fun g9 => ?_) (fun g9 => ?_))))))))
 ·refine Gro (Ad rfl) (Gro (Dy rfl rfl) (Gr (Ao rfl rfl) (Gm rfl (Bk (d := 13) rfl (fun g13 => ?_) (fun g13 => ?_)))))
  ·refine Gro (Ad rfl) (Gro (Cc rfl rfl) (Gr (Ao rfl rfl) (Gm rfl (Bk (d := 17) rfl (fun g17 => ?_) (fun g17 => ?_)))))
   ·refine Gro (Ad rfl) (Gro (Dy rfl rfl) (Gr (Ao rfl rfl) (Gm rfl (Bk (d := 21) rfl (fun g21 => ?_) (fun g21 => ?_)))))
    ·refine Gro (Ad rfl) (Gro (Bi rfl rfl) (Gro (Ad rfl) (Bk (d := 24) rfl (fun g24 => ?_) (fun g24 => ?_))))
     ·exact Gpo (Gpo (Gro (Ao rfl rfl) (Gr (Ao rfl rfl) (Ga rfl (Af (Aq (S1 6 rfl) (Ay (A3 rfl rfl (I) A1 ⟨(by first | exact congrArg Value.bool (decide_eq_decide.2 (by unfold rightW; omega)) | exact congrArg Value.bool (decide_eq_true (by unfold rightW; omega)).symm | exact congrArg Value.bool (decide_eq_false (by unfold rightW; omega)).symm), rfl⟩))))))))
     ·exact Gro (Ad rfl) (Gro (Bi rfl rfl) (Gro (Ar rfl rfl) (Gr (Ao rfl rfl) (Ga rfl (Af (Aq (S1 6 rfl) (Ay (A3 rfl rfl (I) A1 ⟨(by first | exact congrArg Value.bool (decide_eq_decide.2 (by unfold rightW; omega)) | exact congrArg Value.bool (decide_eq_true (by unfold rightW; omega)).symm | exact congrArg Value.bool (decide_eq_false (by unfold rightW; omega)).symm), rfl⟩))))))))
    ·exact Gpo (Gpo (Gpo (Gpu (Gpu (Gpo (Gr (Ar rfl rfl) (Ga rfl (Af (Aq (S1 6 rfl) (Ay (A3 rfl rfl (I) A1 ⟨(by first | exact congrArg Value.bool (decide_eq_decide.2 (by unfold rightW; omega)) | exact congrArg Value.bool (decide_eq_true (by unfold rightW; omega)).symm | exact congrArg Value.bool (decide_eq_false (by unfold rightW; omega)).symm), rfl⟩)))))))))))
   ·exact Gpo (Gpo (Gr (Ar rfl rfl) (Gm rfl (Gpo (Gpo (Gpo (Gpu (Gpu (Gpo (Gr (Ar rfl rfl) (Ga rfl (Af (Aq (S1 6 rfl) (Ay (A3 rfl rfl (I) A1 ⟨(by first | exact congrArg Value.bool (decide_eq_decide.2 (by unfold rightW; omega)) | exact congrArg Value.bool (decide_eq_true (by unfold rightW; omega)).symm | exact congrArg Value.bool (decide_eq_false (by unfold rightW; omega)).symm), rfl⟩)))))))))))))))
  ·exact Gpo (Gpo (Gr (Ar rfl rfl) (Gm rfl (Gpo (Gpo (Gr (Ar rfl rfl) (Gm rfl (Gpo (Gpo (Gpo (Gpu (Gpu (Gpo (Gr (Ar rfl rfl) (Ga rfl (Af (Aq (S1 6 rfl) (Ay (A3 rfl rfl (I) A1 ⟨(by first | exact congrArg Value.bool (decide_eq_decide.2 (by unfold rightW; omega)) | exact congrArg Value.bool (decide_eq_true (by unfold rightW; omega)).symm | exact congrArg Value.bool (decide_eq_false (by unfold rightW; omega)).symm), rfl⟩)))))))))))))))))))
 ·exact Gpo (Gpo (Gr (Ar rfl rfl) (Gm rfl (Gpo (Gpo (Gr (Ar rfl rfl) (Gm rfl (Gpo (Gpo (Gr (Ar rfl rfl) (Gm rfl (Gpo (Gpo (Gpo (Gpu (Gpu (Gpo (Gr (Ar rfl rfl) (Ga rfl (Af (Aq (S1 6 rfl) (Ay (A3 rfl rfl (I) A1 ⟨(by first | exact congrArg Value.bool (decide_eq_decide.2 (by unfold rightW; omega)) | exact congrArg Value.bool (decide_eq_true (by unfold rightW; omega)).symm | exact congrArg Value.bool (decide_eq_false (by unfold rightW; omega)).symm), rfl⟩)))))))))))))))))))))))
theorem OrderL_ok (a c : Lk) :
    CallS Tryz.prog κ 255 [.agg #[I64 (a.u), I64 (a.v), I64 (a.w), I64 (a.lb), I64 (a.sg), I64 (a.tm)], .agg #[I64 (c.u), I64 (c.v), I64 (c.w), I64 (c.lb), I64 (c.sg), I64 (c.tm)]] I (fun r J => r = I64 (Lk.cmp a c) ∧ I = J) := by
 refine Ce2 Tryz.func255 rfl rfl ?_
 refine Ah (Ge1 (Bd (cs := [_, _, _, _, _, _]) rfl rfl rfl) fun b1 => Ge1 (Bd (cs := [_, _, _, _, _, _]) rfl rfl rfl) fun b2 => Ga rfl (Af (As (Bj mixed (Bm (blk b2 [I64 (c.u), I64 (c.v), I64 (c.w), I64 (c.lb), I64 (c.sg), I64 (c.tm)] 146 :: blk b1 [I64 (a.u), I64 (a.v), I64 (a.w), I64 (a.lb), I64 (a.sg), I64 (a.tm)] 146 :: I) 12 (Dr 0 rfl (Ab fld146_0 rfl) (Dr 1 rfl (Au ty3) ?_)))))))
 refine Dr 2 rfl (Ab fld146_0 rfl) (Dr 3 rfl (Au ty3) ?_)
 refine Dr 5 rfl (Ab fld146_1 rfl) (Dr 6 rfl (Au ty3) ?_)
 refine Dr 7 rfl (Ab fld146_1 rfl) (Dr 8 rfl (Au ty3) ?_)
 refine Ds1 4 (Sc0 rfl (Al call225 rfl rfl (Compare_ok a.u c.u)) ?_)
 refine Ds1 9 (Sc0 rfl (Al call225 rfl rfl (Compare_ok a.v c.v)) ?_)
 refine Ds1 10 (Se1 rfl (B3 (α := Int) (cs := [_, _]) (xs := [cmpI a.u c.u, cmpI a.v c.v]) Ac ty3 rfl rfl dc dc rfl rfl rfl rfl) fun ad3 => ?_)
 refine Ds1 11 (Sc0 rfl (Al call224 rfl rfl (Or_ok Be)) ?_)
 refine C6 kr ?_
 refine A.read (i := 12) kr rfl (Cm rfl) rfl rfl (A9 rfl) ?_
 refine C7 kr ?_
 exact Ak (Aq (S1 4 rfl) (Ay (A3 rfl rfl (I) A1 ⟨by rw [show Lk.cmp a c = Pt.cmp ⟨a.u, a.v⟩ ⟨c.u, c.v⟩ from rfl, ← orL_cmp], rfl⟩)))
theorem Lk.cmp_lt (a c : Lk) : Lk.cmp a c < 0 ↔ Lk.lt a c := Pt.cmp_lt _ _
def askE (nd : Int) (xs : List Lk) (kd wd mo nw : Int) : Int := if checkW kd wd mo ≠ 0 then checkW kd wd mo else if checkS nd xs ≠ 0 then checkS nd xs else if nw < 0 ∨ 1048576 < nw ∨ xs.any (fun x => decide (nw < x.tm)) = true then 9 else 0
theorem CheckS_ok {κ : Ctx} {I : List Item} {nd : Int} {va : Value} {xs : List Lk} (hl : Sl κ I va xs) :
    CallS Tryz.prog κ 214 [.agg #[I64 (nd), va]] I (fun r J => r = I64 (checkS nd xs) ∧ I = J) := by
 refine B8 hl.le fun hmax => ?_
 refine Ce1 Tryz.func214 rfl rfl ?_
 refine Ah (Ge1 (Bd (cs := [_, _]) rfl rfl rfl) fun b1 => Ga rfl (Af (As (Ah (Gf fld111_0 rfl (Gl ty3 ?_))))))
 refine Gr (Ba rfl rfl) (Gm rfl (Bk (d := 8) rfl (fun g8 => ?_) (fun g8 => ?_)))
 ·exact Gpo (Gpo (Gpo (Gr (Ao rfl rfl) (Af (Co rfl (Ah (Ga rfl (Af (Ay (Aj (A3 rfl rfl (I) A1 ⟨by rw [show checkS nd xs = 1 from (by first | (unfold checkS; rw [if_pos om]; done) | exact hs.trans ((Dv om (by rw [badL_one om asm]; decide)).trans (badL_one om asm)))], rfl⟩)))))))))))
 ·refine Gro (Ab fld111_0 rfl) (Gro (Au ty3) ?_)
  refine Gro (B0 rfl rfl) (Gr (Ar rfl rfl) (Af (A7 rfl (fun c12 => ?_) (fun c12 => ?_))))
  ·exact Ah (Ga rfl (Af (Ay (Aj (A3 rfl rfl (I) A1 ⟨by rw [show checkS nd xs = 1 from (by first | (unfold checkS; rw [if_pos om]; done) | exact hs.trans ((Dv om (by rw [badL_one om asm]; decide)).trans (badL_one om asm)))], rfl⟩)))))
  ·refine A2 (Ak (As (Ah (Gf fld111_1 rfl (Gl ty109 ?_)))))
   refine Gr (Bz (α := Lk) (xs := xs) Aw rfl (Bh hl)) (Gm rfl (Af (Aq (S4 16 15 14 1 rfl rfl rfl rfl) (A0 (Bu (σ := Nat) (fun s => ([(1, .pointer (some ⟨b1, 0, none⟩)), (14, va), (15, I64 (((xs.length : Nat) : Int))), (16, I64 (((s : Nat) : Int)))] : Env)) (fun s => blk b1 [I64 (nd), va] 111 :: I) (fun s => (s ≤ xs.length) ∧ (checkS nd xs = scanL (badL nd) Lk.lt (prevAt xs s) (xs.drop s))) (fun s => xs.length - s) (0) (show ((0 : Nat) ≤ xs.length) ∧ (checkS nd xs = scanL (badL nd) Lk.lt (prevAt xs (0 : Nat)) (xs.drop (0 : Nat))) from ⟨om, (by unfold checkS; rw [if_neg om]; rfl)⟩) (Aa rfl (Aa rfl (Aa rfl (Aa Cf Bg)))) (show Fit κ _ (blk b1 [I64 (nd), va] 111 :: I) from Az) ?_)))))
   rintro k hp
   obtain ⟨hk, hs⟩ := hp
   refine Ah (Gr (Ba rfl rfl) (Af (As (A7 rfl (fun c17 => ?_) (fun c17 => ?_)))))
   ·refine A2 (Ak (As (A0 (Ah (Gm rfl (Gr (Ax (α := Lk) (xs := xs) Aw ty146 rfl rfl (Bh hl) om om) (Gr (Bp (α := Lk) (xs := xs) ty146 rfl (Bh hl) om om) (Ge1 (A8 ty146 rfl) fun b2 => Ga rfl (Ge0 (Dh ty146) ?_)))))))))
    refine Af (A0 (Ah (Gf fld146_0 rfl (Gl ty3 ?_))))
    refine Gr (Ba rfl rfl) (Gm rfl (Bk (d := 25) rfl (fun g25 => ?_) (fun g25 => ?_)))
    ·exact Gpo (Gpo (Gpo (Gpo (Gpo (Gr (Ao rfl rfl) (Gm rfl (Gpo (Gpo (Gpo (Gpo (Gpo (Gr (Ao rfl rfl) (Ga rfl (Af (Aq (S7 21 3 4 1 14 15 16 rfl rfl rfl rfl rfl rfl rfl) (Co rfl (Ah (Ga rfl (Af (Ay (Ap (Ap (Aj (Aj (Ap (Aj (A3 rfl rfl (I) A1 ⟨by rw [show checkS nd xs = 6 from (hs.trans ((Dv om (by rw [badL_six om]; decide)).trans (badL_six om)))], rfl⟩)))))))))))))))))))))))))))
    ·refine Gro (Ab fld146_0 rfl) (Gro (Au ty3) ?_)
     refine Gro (Ab fld146_1 rfl) (Gro (Au ty3) ?_)
     refine Gro (Cc rfl rfl) (Gr (Ar rfl rfl) (Gm rfl (Bk (d := 32) rfl (fun g32 => ?_) (fun g32 => ?_))))
     ·exact Gpo (Gpo (Gpo (Gpo (Gpo (Gr (Ao rfl rfl) (Ga rfl (Af (Aq (S7 21 3 4 1 14 15 16 rfl rfl rfl rfl rfl rfl rfl) (Co rfl (Ah (Ga rfl (Af (Ay (Ap (Ap (Aj (Aj (Ap (Aj (A3 rfl rfl (I) A1 ⟨by rw [show checkS nd xs = 6 from (hs.trans ((Dv om (by rw [badL_six om]; decide)).trans (badL_six om)))], rfl⟩))))))))))))))))))))
     ·refine Gro (Ab fld146_1 rfl) (Gro (Au ty3) ?_)
      refine Gro (Ab fld111_0 rfl) (Gro (Au ty3) ?_)
      refine Gro (Cc rfl rfl) (Gr (Ar rfl rfl) (Ga rfl (Af (Aq (S7 21 3 4 1 14 15 16 rfl rfl rfl rfl rfl rfl rfl) (A7 rfl (fun c21 => ?_) (fun c21 => ?_))))))
      ·exact Ah (Ga rfl (Af (Ay (Ap (Ap (Aj (Aj (Ap (Aj (A3 rfl rfl (I) A1 ⟨by rw [show checkS nd xs = 6 from (hs.trans ((Dv om (by rw [badL_six om]; decide)).trans (badL_six om)))], rfl⟩))))))))))
      ·refine Ah (Gf fld146_2 rfl (Gl ty3 ?_))
       refine Gf fld146_3 rfl (Gl ty3 ?_)
       refine Gf fld146_4 rfl (Gl ty3 ?_)
       refine Gc0 (Al call251 rfl rfl (RightW_ok ((at_ xs (k : Int)).w) ((at_ xs (k : Int)).lb) ((at_ xs (k : Int)).sg))) ?_
       refine Gr (Dw rfl) (Ga rfl (Af (Aq (S7 39 3 4 1 14 15 16 rfl rfl rfl rfl rfl rfl rfl) (A7 rfl (fun c39 => ?_) (fun c39 => ?_)))))
       ·exact Ah (Ga rfl (Af (Ay (Ap (Ap (Aj (Aj (Ap (Aj (A3 rfl rfl (I) A1 ⟨by rw [show checkS nd xs = 1 from (by first | (unfold checkS; rw [if_pos om]; done) | exact hs.trans ((Dv om (by rw [badL_one om asm]; decide)).trans (badL_one om asm)))], rfl⟩))))))))))
       ·refine Ah (Gf fld146_5 rfl (Gl ty3 ?_))
        refine Gr (Ba rfl rfl) (Gm rfl (Bk (d := 52) rfl (fun g52 => ?_) (fun g52 => ?_)))
        ·exact Gpo (Gpo (Gpo (Gr (Ao rfl rfl) (Ga rfl (Af (Aq (S7 48 3 4 1 14 15 16 rfl rfl rfl rfl rfl rfl rfl) (Co rfl (Ah (Ga rfl (Af (Ay (Ap (Ap (Aj (Aj (Ap (Aj (A3 rfl rfl (I) A1 ⟨by rw [show checkS nd xs = 9 from (hs.trans ((Dv om (by rw [badL_nine om (by first | assumption | exact Classical.not_not.1 asm | exact Classical.byContradiction fun h => c47 (by rw [if_neg h]; decide)) om]; decide)).trans (badL_nine om (by first | assumption | exact Classical.not_not.1 asm | exact Classical.byContradiction fun h => c47 (by rw [if_neg h]; decide)) om)))], rfl⟩))))))))))))))))))
        ·refine Gro (Ab fld146_5 rfl) (Gro (Au ty3) ?_)
         refine Gro (B0 rfl rfl) (Gr (Ar rfl rfl) (Ga rfl (Af (Aq (S7 48 3 4 1 14 15 16 rfl rfl rfl rfl rfl rfl rfl) (A7 rfl (fun c48 => ?_) (fun c48 => ?_))))))
         ·exact Ah (Ga rfl (Af (Ay (Ap (Ap (Aj (Aj (Ap (Aj (A3 rfl rfl (I) A1 ⟨by rw [show checkS nd xs = 9 from (hs.trans ((Dv om (by rw [badL_nine om (by first | assumption | exact Classical.not_not.1 asm | exact Classical.byContradiction fun h => c47 (by rw [if_neg h]; decide)) om]; decide)).trans (badL_nine om (by first | assumption | exact Classical.not_not.1 asm | exact Classical.byContradiction fun h => c47 (by rw [if_neg h]; decide)) om)))], rfl⟩))))))))))
         ·refine As (Bj mixed (Bm (blk b2 [I64 ((at_ xs (k : Int)).u), I64 ((at_ xs (k : Int)).v), I64 ((at_ xs (k : Int)).w), I64 ((at_ xs (k : Int)).lb), I64 ((at_ xs (k : Int)).sg), I64 ((at_ xs (k : Int)).tm)] 146 :: blk b1 [I64 (nd), va] 111 :: I) 14 (Dr 0 rfl (Ad rfl) (Dr 1 rfl (B0 rfl rfl) (Dr 2 rfl (Ad rfl) (C4 (d := 60) rfl (fun g60 => ?_) (fun g60 => ?_)))))))
          ·refine Dro 3 rfl (Ab fld111_1 rfl) (Dro 4 rfl (Au ty109) ?_)
           refine Dro 5 rfl (Ad rfl) (Dro 6 rfl (Rsu rfl rfl) (Dro 7 rfl (Ax (α := Lk) (xs := xs) Aw ty146 rfl rfl (Bh hl) om om) (Dro 8 rfl (Bp (α := Lk) (xs := xs) ty146 rfl (Bh hl) om om) (Dro 9 rfl (Bq (vs := [_, _, _, _, _, _]) ty146) ?_))))
           refine Ds1 10 (Sc0 rfl (Al call255 rfl rfl (OrderL_ok (at_ xs ((k : Int) - 1)) (at_ xs (k : Int)))) ?_)
           refine Dro 11 rfl (Cc rfl rfl) (Dr 12 rfl (Ao rfl rfl) (Dr 13 rfl (A9 rfl) (Dz (Ak (Aq (S5 57 1 14 15 16 rfl rfl rfl rfl rfl) (A7 rfl (fun c57 => ?_) (fun c57 => ?_)))))))
           ·exact Ah (Ga rfl (Af (Ay (Ap (Ap (Aj (Aj (Ap (Aj (A3 rfl rfl (I) A1 ⟨by rw [show checkS nd xs = 5 from (hs.trans (scanL_order om (badL_zero om (by first | assumption | exact Classical.not_not.1 asm | exact Classical.byContradiction fun h => c47 (by rw [if_neg h]; decide)) om) om (by first | assumption | (intro h; have := (Lk.cmp_lt _ _).2 h; omega))))], rfl⟩))))))))))
           ·exact A2 (Ai (Ai (Ak (Av (Gr (Rad rfl rfl) (Gm rfl (Bf (B1 ((k + 1)) ⟨om, (hs.trans (scanL_step om (badL_zero om (by first | assumption | exact Classical.not_not.1 asm | exact Classical.byContradiction fun h => c47 (by rw [if_neg h]; decide)) om) (fun h0 => by first | omega | exact (Lk.cmp_lt _ _).1 om | exact Classical.not_not.1 asm)))⟩))))))))
          ·exact Dpo 3 rfl (Dpo 4 rfl (Dpo 5 rfl (Dpo 6 rfl (Dpo 7 rfl (Dpo 8 rfl (Dpo 9 rfl (Dpo 10 rfl (Dpo 11 rfl (Dr 12 rfl (Ar rfl rfl) (Dr 13 rfl (A9 rfl) (Dz (Ak (Aq (S5 57 1 14 15 16 rfl rfl rfl rfl rfl) (Di rfl (A2 (Ai (Ai (Ak (Av (Gr (Rad rfl rfl) (Gm rfl (Bf (B1 ((k + 1)) ⟨om, (hs.trans (scanL_step om (badL_zero om (by first | assumption | exact Classical.not_not.1 asm | exact Classical.byContradiction fun h => c47 (by rw [if_neg h]; decide)) om) (fun h0 => by first | omega | exact (Lk.cmp_lt _ _).1 om | exact Classical.not_not.1 asm)))⟩)))))))))))))))))))))))
   ·exact Br (Am (Am (A6 (Ak (Ah (Ga rfl (Af (Ay (A3 rfl rfl (I) A1 ⟨by rw [show checkS nd xs = 0 from (hs.trans (scanL_end om))], rfl⟩)))))))))
end Go.Sl
namespace Go.Sl
open Go.RowKit (Below)
def mp (r : Nat) (es : List MapEntry) (cl : Nat) : Item where
 fp k := k = r
 ok w := w.heap[r]? = some (.map es.toArray cl)
 loc w w' h hw := (h r rfl).trans hw
section
variable {P : Program} {κ : Ctx} {N : Frm} {Q : Exit → Act → World → Prop} {L : Env} {I J : List Item} {ops : Array Oper} {rest : List Oper}
variable {d : Option Tmp} {ty : TypeId} {ps : String} {af : Array Edge} {gd : Option (Nat × Bool)}
theorem Eff.makeMap {T dd : Nat} (hN : Nat.blt dd N.n = true) :
  Eff P κ N Q ⟨some dd, .makeMap T none, ty, ps, af, gd⟩ L I fun L' I' => ∃ r, L' = (dd, .map (some r)) :: L ∧ I' = mp r [] 0 :: I :=
 Eff.of_value rfl hN fun a w ha hs =>
  ⟨_, _, _, by simp [execOp, Instr.makeMap, Result.andThen], ⟨_, rfl, rfl⟩, hs.new (hs.alloc (.map #[] 0)) (heap_alloc_new w _) fun k hk => by obtain rfl : k = _ := hk; exact ⟨Nat.le_refl _, by simp⟩⟩
theorem Eff.insertK {x y z : Operand} {T kt et r cl : Nat} {es : List MapEntry} {kd : IntKind} {k v : Value} {I' : List Item} (ht : P.underlying T = some (.map kt et)) (hkt : P.underlying kt = some (.int kd)) (hx : evalO L x = some (.map (some r)))
  (hy : evalO L y = some k) (hz : evalO L z = some v) (hk : MapKept.IsKey (.int kd) k) (hf : Instr.findNow (.int kd) k es 0 = some none) (hat : At I (mp r es cl) (mp r (es ++ [{ key := k, val := v, born := cl }]) (cl + 1)) I') :
  Eff P κ N Q ⟨none, .insert T x y z, ty, ps, af, gd⟩ L I fun L' I'' => L' = L ∧ I'' = I' :=
 Eff.of_skip rfl fun a w ha hs => by
  have hb := (hs.ok _ hat.mem).1
  refine ⟨{ w with heap := w.heap.setIfInBounds r (.map (es ++ [({ key := k, val := v, born := cl } : MapEntry)]).toArray (cl + 1)) }, I', ?_, ⟨rfl, rfl⟩, ?_⟩
  ·simp [execOp, ha.eval hx, ha.eval hy, ha.eval hz, Instr.mapUpdate, run_underlying ht, MapKept.run_getObj_map hb, MapKept.run_checkKey hkt hk, MapKept.run_findKey hkt hf, MapKept.run_setObj_map _ hb, Result.andThen]
  ·exact hs.upd hat rfl ⟨rfl, Nat.le_refl _⟩ rfl (by simp) (fun k _ hne => (MapKept.heap_set hb).2 k fun e => hne e) (MapKept.heap_set hb).1 fun k hk => .inl hk
theorem Runs.lookupK {x y : Operand} {T kt et r cl i : Nat} {es : List MapEntry} {kd : IntKind} {k v : Value} (ht : P.underlying T = some (.map kt et)) (hkt : P.underlying kt = some (.int kd)) (hx : evalO L x = some (.map (some r)))
  (hy : evalO L y = some k) (hk : MapKept.IsKey (.int kd) k) (hm : mp r es cl ∈ J) (hf : Instr.findNow (.int kd) k es 0 = some (some (i, v))) : Runs P κ N ⟨d, .lookup T x y false, ty, ps, af, gd⟩ L J v :=
 fun a w ha hs => by
  have hb := (hs.ok _ hm).1
  simp [execOp, ha.eval hx, ha.eval hy, Instr.lookup, run_underlying ht, MapKept.run_getObj_map hb, MapKept.run_checkKey hkt hk, MapKept.run_findKey hkt hf, Result.andThen]
end
end Go.Sl
namespace Go.Sl
open Go.Proofs
set_option maxRecDepth 4000
variable {κ : Ctx} {I : List Item}
theorem All1_ok (x : Lk) :
    CallS Tryz.prog κ 295 [.agg #[I64 (x.u), I64 (x.v), I64 (x.w), I64 (x.lb), I64 (x.sg), I64 (x.tm)]] I (fun r J => r = .bool true ∧ I = J) := by
 refine Ce1 Tryz.func295 rfl rfl ?_
 exact Ah (Ge1 (Bd (cs := [_, _, _, _, _, _]) rfl rfl rfl) fun b1 => Ga rfl (Af (Ah (Ga rfl (Af (Ay (A3 rfl rfl (I) A1 ⟨rfl, rfl⟩)))))))
theorem Age1_ok {b c : Nat} {nw kd wd mo : Int} (hb : BlkRd κ I b [I64 nw] 3) (hc : BlkRd κ I c [I64 kd, I64 wd, I64 mo] 31) (x : Lk) :
    CallS Tryz.prog κ 297 [.agg #[I64 (x.u), I64 (x.v), I64 (x.w), I64 (x.lb), I64 (x.sg), I64 (x.tm)], .pointer (some ⟨b, 0, none⟩), .pointer (some ⟨c, 0, none⟩)] I (fun r J => r = .bool (decide (IntKind.i64.wrap (nw - x.tm) < wd)) ∧ I = J) := by
 refine Ce3 Tryz.func297 rfl rfl ?_
 refine Ah (Ge1 (Bd (cs := [_, _, _, _, _, _]) rfl rfl rfl) fun b1 => Ga rfl (Af (Ah (Gr (C1 ty3 rfl (Cw hb A1) rfl) (Gf fld146_5 rfl (Gl ty3 ?_))))))
 exact Gr (Runs.subw rfl rfl) (Gf fld31_1 rfl (Gr (C1 ty3 rfl (Cw hc A1) rfl) (Gr (Ba rfl rfl) (Ga rfl (Af (Ay (A3 rfl rfl (I) A1 ⟨rfl, rfl⟩)))))))
theorem Rule1_ok {nd kd wd mo nw : Int} {va : Value} :
    CallS Tryz.prog κ 294 [.agg #[I64 (nd), va], .agg #[I64 (kd), I64 (wd), I64 (mo)], I64 (nw)] I (fun r J => r = .func (.func 295) #[] #[] ∧ I = J) := by
 refine Ce3 Tryz.func294 rfl rfl ?_
 exact Ah (Ge1 (Bd (cs := [_, _]) rfl rfl rfl) fun b1 => Ge1 (Bd (cs := [_, _, _]) rfl rfl rfl) fun b2 => Ga rfl (Af (Ah (Ga rfl (Af (Ay (A3 rfl rfl (I) A1 ⟨rfl, rfl⟩)))))))
theorem Rule2_ok {nd kd wd mo nw : Int} {va : Value} :
    CallS Tryz.prog κ 296 [.agg #[I64 (nd), va], .agg #[I64 (kd), I64 (wd), I64 (mo)], I64 (nw)] I (fun r J => ∃ b c, r = .func (.func 297) #[] #[.pointer (some ⟨b, 0, none⟩), .pointer (some ⟨c, 0, none⟩)] ∧ J = blk b [I64 nw] 3 :: blk c [I64 kd, I64 wd, I64 mo] 31 :: I) := by
 refine Ce3 Tryz.func296 rfl rfl ?_
 exact Ah (Ge1 (Bd (cs := [_, _]) rfl rfl rfl) fun b1 => Ge1 (Bd (cs := [_, _, _]) rfl rfl rfl) fun b2 => Ge1 (Bd (cs := [_]) rfl rfl rfl) fun b3 => Ga rfl (Af (Ah (Gr (Dx rfl rfl) (Ga rfl (Af (Ay (A3 rfl rfl (blk b3 [I64 (nw)] 3 :: blk b2 [I64 (kd), I64 (wd), I64 (mo)] 31 :: I) Az ⟨b3, b2, rfl, rfl⟩))))))))
theorem Rules_ok  :
    CallS Tryz.prog κ 253 [] I (fun r J => ∃ m, r = .map (some m) ∧ J = mp m [({ key := I64 (1), val := .func (.func 294) #[] #[], born := 0 } : MapEntry), ({ key := I64 (2), val := .func (.func 296) #[] #[], born := 1 } : MapEntry), ({ key := I64 (3), val := .func (.func 298) #[] #[], born := 2 } : MapEntry)] 3 :: I) := by
 refine Ce0 Tryz.func253 rfl rfl ?_
 refine Ah (Ga rfl (Af (Ah (Ge1 (Eff.makeMap rfl) fun mr1 => ?_))))
 refine Ge0 (Eff.insertK Dk B2 rfl rfl rfl rfl rfl am) ?_
 refine Ge0 (Eff.insertK Dk B2 rfl rfl rfl rfl rfl am) ?_
 refine Ge0 (Eff.insertK Dk B2 rfl rfl rfl rfl rfl am) ?_
 exact Gm rfl (Ga rfl (Af (Ay (A3 rfl rfl (mp mr1 [({ key := I64 (1), val := .func (.func 294) #[] #[], born := 0 } : MapEntry), ({ key := I64 (2), val := .func (.func 296) #[] #[], born := 1 } : MapEntry), ({ key := I64 (3), val := .func (.func 298) #[] #[], born := 2 } : MapEntry)] 3 :: I) Az ⟨mr1, rfl, rfl⟩))))
variable {κ : Ctx} {I : List Item}
def Lk.lcmp (a c : Lk) : Int := orL [cmpI c.tm a.tm, Lk.cmp c a]
def Lk.late (a c : Lk) : Prop := c.tm < a.tm ∨ (a.tm = c.tm ∧ Lk.lt c a)
instance : DecidableRel Lk.late := fun a c => by unfold Lk.late; infer_instance
theorem Lk.lcmp_lt (a c : Lk) : Lk.lcmp a c < 0 ↔ Lk.late a c := by
 unfold Lk.lcmp Lk.late
 rw [← Lk.cmp_lt]
 simp only [orL, cmpI]
 generalize Lk.cmp c a = z
 (repeat' split) <;> omega
def SortedK (xs ys : List Lk) : Prop := ys.Perm xs ∧ ys.Pairwise fun a b => ¬ Lk.late b a
open Go.Proofs Go.Shelf Go.Sort in
theorem swo_lk : SWO (ltOf Lk.lcmp) where
 irrefl x := decide_eq_false fun h => by rw [Lk.lcmp_lt] at h; unfold Lk.late Lk.lt Pt.lt Lk.p at h; simp only at h; omega
 trans x y z h1 h2 := decide_eq_true (by
  have a := of_decide_eq_true h1
  have b := of_decide_eq_true h2
  rw [Lk.lcmp_lt] at a b ⊢
  unfold Lk.late Lk.lt Pt.lt Lk.p at a b ⊢
  simp only at a b ⊢
  omega)
 ntrans x y z h1 h2 := decide_eq_false fun h => by
  have a := of_decide_eq_false h1
  have b := of_decide_eq_false h2
  rw [Lk.lcmp_lt] at a b h
  unfold Lk.late Lk.lt Pt.lt Lk.p at a b h
  simp only at a b h
  omega
theorem CloneL {a : Option Addr} {c : Nat} {xs : List Lk} (hl : Sl κ I (.slice a xs.length c) xs) (hb : xs.length ≤ 1000000000) :
    CallS Tryz.prog κ 216 [.slice a xs.length c] I (fun r J => ∃ a' c', r = .slice a' xs.length c' ∧ J = vc 146 (.slice a' xs.length c') xs :: I) := by
 refine B8 (p := a.isNone = true → xs = [] ∧ c = 0) (fun w hs hn => hl.isNone w hs hn) fun hnone => ?_
 refine Ce1 Tryz.func216 rfl rfl ?_
 refine Ah (Ga rfl (Af (As (Ah (Gm rfl (Gr (Runs.eqnil Aw rfl rfl) (Af (W.cond rfl (fun c4 => ?_) (fun c4 => ?_)))))))))
 ·refine Ah (Ga rfl (Af (Ay (Aj ?_))))
  obtain ⟨hx0, _⟩ := hnone c4
  subst hx0
  exact A3 rfl rfl (vc 146 (.slice none ([] : List Lk).length 0) ([] : List Lk) :: I) (Bt _ _) ⟨none, 0, rfl, rfl⟩
 ·refine A2 (Ak (Ah (Ge1 (Eff.bs0 (α := Lk) Aw ty146 rfl) fun ad1 => ?_)))
  refine Gm rfl (Ge2 (Ci (α := Lk) (e := 146) (xs := ([] : List Lk)) (ys := xs) Aw ty146 rfl rfl rfl mm (Bh hl) (by simp only [List.length_nil]; omega) dc rfl (fun _ _ => am)) fun ad2 cp3 => ?_)
  exact Ga rfl (Af (Ay (A3 rfl rfl (vc 146 (.slice ad2 xs.length cp3) xs :: I) Az ⟨ad2, cp3, rfl, rfl⟩)))
theorem LastCmp_ok (a c : Lk) :
    CallS Tryz.prog κ 322 [.agg #[I64 (a.u), I64 (a.v), I64 (a.w), I64 (a.lb), I64 (a.sg), I64 (a.tm)], .agg #[I64 (c.u), I64 (c.v), I64 (c.w), I64 (c.lb), I64 (c.sg), I64 (c.tm)]] I (fun r J => r = I64 (Lk.lcmp a c) ∧ I = J) := by
 refine Ce2 Tryz.func322 rfl rfl ?_
 refine Ah (Ge1 (Bd (cs := [_, _, _, _, _, _]) rfl rfl rfl) fun b1 => Ge1 (Bd (cs := [_, _, _, _, _, _]) rfl rfl rfl) fun b2 => Ga rfl (Af (As (Bj mixed (Bm (blk b2 [I64 (c.u), I64 (c.v), I64 (c.w), I64 (c.lb), I64 (c.sg), I64 (c.tm)] 146 :: blk b1 [I64 (a.u), I64 (a.v), I64 (a.w), I64 (a.lb), I64 (a.sg), I64 (a.tm)] 146 :: I) 10 (Dr 0 rfl (Ab fld146_5 rfl) (Dr 1 rfl (Au ty3) ?_)))))))
 refine Dr 2 rfl (Ab fld146_5 rfl) (Dr 3 rfl (Au ty3) ?_)
 refine Dr 5 rfl (Bq (vs := [_, _, _, _, _, _]) ty146) ?_
 refine Dr 6 rfl (Bq (vs := [_, _, _, _, _, _]) ty146) ?_
 refine Ds1 4 (Sc0 rfl (Al call225 rfl rfl (Compare_ok c.tm a.tm)) ?_)
 refine Ds1 7 (Sc0 rfl (Al call255 rfl rfl (OrderL_ok c a)) ?_)
 refine Ds1 8 (Se1 rfl (B3 (α := Int) (cs := [_, _]) (xs := [cmpI c.tm a.tm, Lk.cmp c a]) Ac ty3 rfl rfl dc dc rfl rfl rfl rfl) fun ad3 => ?_)
 refine Ds1 9 (Sc0 rfl (Al call224 rfl rfl (Or_ok Be)) ?_)
 refine C6 kr ?_
 refine A.read (i := 10) kr rfl (Cm rfl) rfl rfl (A9 rfl) ?_
 refine C7 kr ?_
 exact Ak (Aq (S1 4 rfl) (Ay (A3 rfl rfl (I) A1 ⟨rfl, rfl⟩)))
open Go.Proofs Go.Shelf Go.Sort in
theorem SortK_ok {κ : Ctx} {I : List Item} {a : Option Addr} {c : Nat} {xs : List Lk} (hsz : xs.length < 1000000000) :
  CallS Tryz.prog κ 321 [.slice a xs.length c, .func (.func 322) #[] #[]] (vc 146 (.slice a xs.length c) xs :: I) fun r J => ∃ ys : List Lk, (r = .tuple #[] ∧ SortedK xs ys ∧ ys.length = xs.length) ∧ J = [] ++ vc 146 (.slice a xs.length c) ys :: I :=
 (sort_any (α := Lk) (ρ := Tryz.sort321_ren) Tryz.sort321 Tryz.isAgg146 Tryz.sizeOf146 Lk.lcmp swo_lk 322 #[] (enters_of Tryz.func322 (by kernel_rfl) rfl) (fun x y W => lays_of (LastCmp_ok x y)) om).mono fun r J ⟨ys, ⟨h1, h2, h3⟩, h4⟩ =>
  ⟨ys, ⟨h1, ⟨h2, h3.imp fun {a b} h => by rw [← Lk.lcmp_lt]; exact of_decide_eq_false h⟩, h2.length_eq⟩, by rw [h4, h2.length_eq]⟩
theorem SortK_at {F : Item → List Item} {a : Option Addr} {n c : Nat} {xs : List Lk} (hat : AtF I (vc 146 (.slice a n c) xs) F) (hn : xs.length = n) (hsz : xs.length < 1000000000) :
  CallS Tryz.prog κ 321 [.slice a n c, .func (.func 322) #[] #[]] I fun r J => ∃ ys : List Lk, (r = .tuple #[] ∧ SortedK xs ys ∧ ys.length = n) ∧ J = [] ++ F (vc 146 (.slice a n c) ys) :=
 D1 (Z := fun _ => []) (X := fun ys : List Lk => vc 146 (.slice a n c) ys) (Post := fun r ys => r = .tuple #[] ∧ SortedK xs ys ∧ ys.length = n) hat fun J _ _ => by subst hn; exact SortK_ok hsz
theorem Last_ok {nd mo : Int} {a0 : Option Addr} {c0 : Nat} {xs : List Lk} (hl : Sl κ I (.slice a0 xs.length c0) xs) (h0 : 0 ≤ mo) (hsz : xs.length ≤ 1000000) :
    CallS Tryz.prog κ 299 [.agg #[I64 (nd), .slice a0 xs.length c0], I64 (mo)] I (fun r J => ∃ (a : Option Addr) (c : Nat) (ys : List Lk) (m : Nat), r = .slice a (List.take m ys).length c ∧ (SortedK xs ys ∧ ys.length = xs.length ∧ (m : Int) ≤ mo ∧ m ≤ xs.length ∧ ((m : Int) = mo ∨ m = xs.length)) ∧ J = vc 146 (.slice a xs.length c) ys :: I) := by
 refine Ce2 Tryz.func299 rfl rfl ?_
 refine Ah (Ge1 (Bd (cs := [_, _]) rfl rfl rfl) fun b1 => Ga rfl (Af (Ah (Gf fld111_1 rfl (Gl ty109 ?_)))))
 refine G.e (Al call216 rfl rfl (CloneL (xs := xs) (Bh hl) om)) ?_
 rintro _ _ ⟨_, _, ⟨ad2, cp3, rfl, rfl⟩, rfl, rfl⟩
 refine Ga rfl (Af (Ah (Gm rfl (G.e (Al call321 rfl rfl (SortK_at (by repeat (first | exact AtF.head _ _ | apply AtF.tail)) rfl om)) ?_))))
 rintro _ _ ⟨_, _, ⟨ys4, ⟨rfl, hsys4, hlys4⟩, rfl⟩, rfl, rfl⟩
 show G Tryz.prog κ _ _ _ _ ([(10, .tuple #[]), (9, .slice ad2 xs.length cp3), (5, .slice ad2 xs.length cp3), (8, .slice ad2 xs.length cp3), (7, .slice a0 xs.length c0), (6, .pointer (some ⟨b1, 1, none⟩)), (4, .slice none 0 0), (2, .pointer (some ⟨b1, 0, none⟩)), (0, .agg #[I64 (nd), .slice a0 xs.length c0]), (1, I64 (mo))] : Env) (vc 146 (.slice ad2 xs.length cp3) (ys4) :: blk b1 [I64 (nd), .slice a0 xs.length c0] 111 :: I)
 refine Af (Ah (Gm rfl (Gm rfl (Gm rfl (Gr (Bl Aw rfl) (Gr (Runs.min rfl rfl) (Gr (Runs.hi (α := Lk) (xs := ys4) (h := (if ((xs.length : Nat) : Int) < mo then ((xs.length : Nat) : Int) else mo).toNat) Aw ty146 rfl rfl om Be (by split <;> omega)) (Ga rfl (Af (Aq (S1 4 rfl) (Ay ?_)))))))))))
 have hmn : (((((if ((xs.length : Nat) : Int) < mo then ((xs.length : Nat) : Int) else mo).toNat)) : Nat) : Int) ≤ mo ∧ (((if ((xs.length : Nat) : Int) < mo then ((xs.length : Nat) : Int) else mo).toNat)) ≤ xs.length ∧ ((((((if ((xs.length : Nat) : Int) < mo then ((xs.length : Nat) : Int) else mo).toNat)) : Nat) : Int) = mo ∨ (((if ((xs.length : Nat) : Int) < mo then ((xs.length : Nat) : Int) else mo).toNat)) = xs.length) := by split <;> omega
 exact A3 rfl rfl (vc 146 (.slice ad2 xs.length cp3) (ys4) :: I) Az ⟨ad2, cp3, ys4, ((if ((xs.length : Nat) : Int) < mo then ((xs.length : Nat) : Int) else mo).toNat), rfl, ⟨hsys4, hlys4, hmn⟩, rfl⟩
theorem IndexL_ok {v : Value} {xs : List Lk} (hl : Sl κ I v xs) (x : Lk) :
    CallS Tryz.prog κ 323 [v, .agg #[I64 (x.u), I64 (x.v), I64 (x.w), I64 (x.lb), I64 (x.sg), I64 (x.tm)]] I (fun r J => ∃ y : Int, r = I64 y ∧ (0 ≤ y ↔ x ∈ xs) ∧ I = J) := by
 refine B8 hl.le fun hmax => ?_
 refine Ce2 Tryz.func323 rfl rfl ?_
 refine Ah (Ge1 (Bd (cs := [_, _, _, _, _, _]) rfl rfl rfl) fun b1 => Ga rfl (Af (As (Ah (Gm rfl (Gr (Bz (α := Lk) (xs := xs) Aw rfl (Bh hl)) (Gm rfl (Af (A0 (Bu (σ := Nat) (fun s => ([(0, v), (3, .pointer (some ⟨b1, 0, none⟩)), (7, I64 (((xs.length : Nat) : Int))), (8, I64 (((s : Nat) : Int)))] : Env)) (fun s => blk b1 [I64 (x.u), I64 (x.v), I64 (x.w), I64 (x.lb), I64 (x.sg), I64 (x.tm)] 146 :: I) (fun s => (s ≤ xs.length) ∧ (∀ j, j < s → at_ xs (j : Int) ≠ x)) (fun s => xs.length - s) (0) (show ((0 : Nat) ≤ xs.length) ∧ (∀ j, j < (0 : Nat) → at_ xs (j : Int) ≠ x) from ⟨om, all_zero⟩) (Aa rfl (Aa rfl (Aa rfl (Aa Cf Bg)))) (show Fit κ _ (blk b1 [I64 (x.u), I64 (x.v), I64 (x.w), I64 (x.lb), I64 (x.sg), I64 (x.tm)] 146 :: I) from Az) ?_))))))))))
 rintro k hp
 obtain ⟨hk, hn⟩ := hp
 refine Ah (Gr (Ba rfl rfl) (Af (As (A7 rfl (fun c9 => ?_) (fun c9 => ?_)))))
 ·refine A2 (Ak (As (A0 (Ah (Gm rfl (Ga rfl (Af (As (Bj mixed (Bm (blk b1 [I64 (x.u), I64 (x.v), I64 (x.w), I64 (x.lb), I64 (x.sg), I64 (x.tm)] 146 :: I) 6 (Dr 0 rfl (Bq (vs := [_, _, _, _, _, _]) ty146) ?_)))))))))))
  refine Dr 1 rfl (Ad rfl) (Dr 2 rfl (Ad rfl) (Dr 3 rfl (Ax (α := Lk) (xs := xs) Aw ty146 rfl rfl (Bh hl) om om) (Dr 4 rfl (Bp (α := Lk) (xs := xs) ty146 rfl (Bh hl) om om) (Dr 5 rfl (Runs.eqlT (α := Lk) (a := x) (b := (at_ xs (k : Int))) eqt146 rfl rfl) (Dz (Ak (A7 rfl (fun c16 => ?_) (fun c16 => ?_))))))))
  ·refine Ah (Gm rfl (Ga rfl (Af (Aq (S1 4 rfl) (Ay (Ap (Aj (Aj (Ap (Aj ?_))))))))))
   have hm : x ∈ xs := by rw [show x = at_ xs (k : Int) from c16]; exact Ch om om
   exact A3 rfl rfl (I) A1 ⟨_, rfl, ⟨fun _ => hm, fun _ => by omega⟩, rfl⟩
  ·exact A2 (Ai (Ak (Av (Gr (Rad rfl rfl) (Gm rfl (Bf (B1 ((k + 1)) ⟨om, (all_succ hn (fun e => c16 e.symm))⟩)))))))
 ·refine Br (Am (Am (A6 (Ak (Ah (Ga rfl (Af (Ay ?_))))))))
  have hm : x ∉ xs := not_mem_at hn om
  exact A3 rfl rfl (I) A1 ⟨_, rfl, ⟨fun h => absurd h dc, fun h => absurd h hm⟩, rfl⟩
theorem ContainsL_ok {v : Value} {xs : List Lk} (hl : Sl κ I v xs) (x : Lk) :
    CallS Tryz.prog κ 301 [v, .agg #[I64 (x.u), I64 (x.v), I64 (x.w), I64 (x.lb), I64 (x.sg), I64 (x.tm)]] I (fun r J => r = .bool (decide (x ∈ xs)) ∧ I = J) := by
 refine Ce2 Tryz.func301 rfl rfl ?_
 refine Ah (Ge1 (Bd (cs := [_, _, _, _, _, _]) rfl rfl rfl) fun b1 => Ga rfl (Af (Ah (Gm rfl (Gl6 ty146 ?_)))))
 refine G.e (Al call323 rfl rfl (IndexL_ok (Bh hl) x)) ?_
 rintro _ _ ⟨_, _, ⟨y2, rfl, hy2, rfl⟩, rfl, rfl⟩
 exact Gr (Cc rfl rfl) (Ga rfl (Af (Ay (A3 rfl rfl (I) A1 ⟨by rw [decide_eq_decide.2 asm], rfl⟩))))
theorem Last1_ok {b : Nat} {v : Value} {zs : List Lk} (hb : BlkRd κ I b [v] 109) (hz : Sl κ I v zs) (x : Lk) :
    CallS Tryz.prog κ 300 [.agg #[I64 (x.u), I64 (x.v), I64 (x.w), I64 (x.lb), I64 (x.sg), I64 (x.tm)], .pointer (some ⟨b, 0, none⟩)] I (fun r J => r = .bool (decide (x ∈ zs)) ∧ I = J) := by
 refine Ce2 Tryz.func300 rfl rfl ?_
 refine Ah (Ge1 (Bd (cs := [_, _, _, _, _, _]) rfl rfl rfl) fun b1 => Ga rfl (Af (Ah (Gr (C1 ty109 rfl (Cw hb A1) rfl) (Gl6 ty146 ?_)))))
 refine Gc0 (Al call301 rfl rfl (ContainsL_ok (Bh hz) x)) ?_
 exact Ga rfl (Af (Ay (A3 rfl rfl (I) A1 ⟨rfl, rfl⟩)))
theorem Rule3_ok {nd kd wd mo nw : Int} {a0 : Option Addr} {c0 : Nat} {xs : List Lk} (hl : Sl κ I (.slice a0 xs.length c0) xs) (h0 : 0 ≤ mo) (hsz : xs.length ≤ 1000000) :
    CallS Tryz.prog κ 298 [.agg #[I64 (nd), .slice a0 xs.length c0], .agg #[I64 (kd), I64 (wd), I64 (mo)], I64 (nw)] I (fun r J => ∃ (b : Nat) (a : Option Addr) (c : Nat) (ys : List Lk) (m : Nat), r = .func (.func 300) #[] #[.pointer (some ⟨b, 0, none⟩)] ∧ (SortedK xs ys ∧ ys.length = xs.length ∧ (m : Int) ≤ mo ∧ m ≤ xs.length ∧ ((m : Int) = mo ∨ m = xs.length)) ∧ J = blk b [.slice a (List.take m ys).length c] 109 :: vc 146 (.slice a xs.length c) ys :: I) := by
 refine Ce3 Tryz.func298 rfl rfl ?_
 refine Ah (Ge1 (Bd (cs := [_, _]) rfl rfl rfl) fun b1 => Ge1 (Bd (cs := [_, _, _]) rfl rfl rfl) fun b2 => Ga rfl (Af (Ah (Gl2 ty111 ?_))))
 refine Gf fld31_2 rfl (Gl ty3 ?_)
 refine G.e (Al call299 rfl rfl (Last_ok (nd := nd) (Bh hl) h0 om)) ?_
 rintro _ _ ⟨_, _, ⟨ad3, cp4, ys5, mm6, rfl, hzys5, rfl⟩, rfl, rfl⟩
 refine Ge1 (A8 ty109 rfl) fun b7 => Ge0 (Eff.st (cs := [_]) (vs := [_]) (cs' := [_]) ty109) ?_
 exact Af (Ah (Gr (Dx rfl rfl) (Ga rfl (Af (Ay (A3 rfl rfl (blk b7 [.slice ad3 (List.take mm6 ys5).length cp4] 109 :: vc 146 (.slice ad3 xs.length cp4) (ys5) :: I) Az ⟨b7, ad3, cp4, ys5, mm6, rfl, hzys5, rfl⟩))))))
end Go.Sl
/- Windows: what is present. The plain laws. No Go. No conditions. -/
namespace Go.Sl
theorem scan0 {n : Int} : ∀ (xs : List Lk) (q : Lk), scanL (badL n) Lk.lt (some q) xs = 0 → (∀ x ∈ xs, badL n x = 0) ∧ (q :: xs).Pairwise Lk.lt
 | [], q, _ => by simp
 | p :: ps, q, h => by
  simp only [scanL] at h
  by_cases hb : badL n p = 0
  ·rw [if_neg (by simp [hb])] at h
   by_cases hl : Lk.lt q p
   ·rw [if_pos hl] at h
    obtain ⟨h1, h2⟩ := scan0 ps p h
    refine ⟨fun x hx => ?_, List.pairwise_cons.2 ⟨fun x hx => ?_, h2⟩⟩
    ·rcases List.mem_cons.1 hx with rfl | hx
     ·exact hb
     ·exact h1 x hx
    ·rcases List.mem_cons.1 hx with rfl | hx
     ·exact hl
     ·exact Pt.lin.tr _ _ _ hl ((List.pairwise_cons.1 h2).1 x hx)
   ·rw [if_neg hl] at h; cases h
  ·rw [if_pos hb] at h; exact absurd h hb
theorem checkS_ok {n : Int} {xs : List Lk} (h : checkS n xs = 0) : (0 ≤ n ∧ n ≤ 64) ∧ (∀ x ∈ xs, badL n x = 0) ∧ xs.Pairwise Lk.lt := by
 unfold checkS at h
 by_cases hn : n < 0 ∨ 64 < n
 ·rw [if_pos hn] at h; cases h
 ·rw [if_neg hn] at h
  refine ⟨by omega, ?_⟩
  cases xs with
  | nil => exact ⟨(fun x hx => by cases hx), List.Pairwise.nil⟩
  | cons p ps =>
   simp only [scanL] at h
   by_cases hb : badL n p = 0
   ·rw [if_neg (by simp [hb])] at h
    obtain ⟨h1, h2⟩ := scan0 ps p h
    exact ⟨fun x hx => by
     rcases List.mem_cons.1 hx with rfl | hx
     ·exact hb
     ·exact h1 x hx, h2⟩
   ·rw [if_pos hb] at h; exact absurd h hb
theorem badL_tm {n : Int} {l : Lk} (h : badL n l = 0) : 0 ≤ l.tm ∧ l.tm ≤ 1048576 := by
 unfold badL at h
 split at h
 ·cases h
 ·split at h
  ·cases h
  ·split at h
   ·cases h
   ·omega
structure AskOk (nd : Int) (xs : List Lk) (kd wd mo nw : Int) : Prop where
 kind : 1 ≤ kd ∧ kd ≤ 3
 width : kd = 2 → 1 ≤ wd ∧ wd ≤ 1048576
 most : kd = 3 → 0 ≤ mo ∧ mo ≤ 2016
 nodes : 0 ≤ nd ∧ nd ≤ 64
 asc : xs.Pairwise Lk.lt
 now : 0 ≤ nw ∧ nw ≤ 1048576
 tm : ∀ x ∈ xs, 0 ≤ x.tm ∧ x.tm ≤ nw
theorem askE_ok {nd : Int} {xs : List Lk} {kd wd mo nw : Int} (h : askE nd xs kd wd mo nw = 0) : AskOk nd xs kd wd mo nw := by
 unfold askE at h
 by_cases h1 : checkW kd wd mo = 0
 ·rw [if_neg (by simp [h1])] at h
  by_cases h2 : checkS nd xs = 0
  ·rw [if_neg (by simp [h2])] at h
   obtain ⟨h3, h4, h5⟩ := checkS_ok h2
   split at h
   ·cases h
   ·rename_i h6
    have hw : (1 ≤ kd ∧ kd ≤ 3) ∧ (kd = 2 → 1 ≤ wd ∧ wd ≤ 1048576) ∧ (kd = 3 → 0 ≤ mo ∧ mo ≤ 2016) := by
     unfold checkW at h1
     split at h1
     ·cases h1
     ·split at h1
      ·cases h1
      ·omega
    refine ⟨hw.1, hw.2.1, hw.2.2, h3, h5, by omega, fun x hx => ?_⟩
    have h7 := badL_tm (h4 x hx)
    refine ⟨h7.1, ?_⟩
    by_cases h8 : nw < x.tm
    ·exact absurd (.inr (.inr (List.any_eq_true.2 ⟨x, hx, decide_eq_true h8⟩))) h6
    ·omega
  ·rw [if_pos h2] at h; exact absurd h h2
 ·rw [if_pos h1] at h; exact absurd h h1
def rankL (xs : List Lk) (x : Lk) : Nat := (xs.filter fun y => decide (Lk.late y x)).length
def inW (kd wd mo nw : Int) (xs : List Lk) (x : Lk) : Bool := if kd = 2 then decide (nw - x.tm < wd) else if kd = 3 then decide ((rankL xs x : Int) < mo) else true
theorem late_irr (x : Lk) : ¬ Lk.late x x := by unfold Lk.late Lk.lt Pt.lt; omega
theorem late_asymm {x y : Lk} (h : Lk.late x y) : ¬ Lk.late y x := by unfold Lk.late Lk.lt Pt.lt at *; omega
theorem rank_at : ∀ (ys : List Lk) (i : Nat) (hi : i < ys.length), ys.Pairwise Lk.late → rankL ys ys[i] = i
 | [], i, hi, _ => absurd hi (by simp)
 | y :: ys, 0, hi, hp => by
  obtain ⟨h1, h2⟩ := List.pairwise_cons.1 hp
  unfold rankL
  rw [List.filter_eq_nil_iff.2 fun z hz => ?_]
  ·rfl
  ·simp only [List.getElem_cons_zero, decide_eq_true_eq]
   rcases List.mem_cons.1 hz with rfl | hz
   ·exact late_irr _
   ·exact late_asymm (h1 z hz)
 | y :: ys, i + 1, hi, hp => by
  obtain ⟨h1, h2⟩ := List.pairwise_cons.1 hp
  have hi' : i < ys.length := by simpa using hi
  have ih := rank_at ys i hi' h2
  unfold rankL at ih ⊢
  rw [List.getElem_cons_succ, List.filter_cons, if_pos (decide_eq_true (h1 _ (List.getElem_mem hi'))), List.length_cons, ih]
theorem sortedK_late {xs ys : List Lk} (h : SortedK xs ys) (ha : xs.Pairwise Lk.lt) : ys.Pairwise Lk.late := by
 have h1 : xs.Pairwise fun a b => Lk.late a b ∨ Lk.late b a := ha.imp fun {a b} hab => by unfold Lk.late Lk.lt Pt.lt at *; omega
 have h2 : ys.Pairwise fun a b => Lk.late a b ∨ Lk.late b a := (h.1.pairwise_iff fun {x y} hxy => hxy.symm).2 h1
 exact (h2.and h.2).imp fun {a b} hab => hab.1.resolve_right hab.2
theorem take_rank {xs ys : List Lk} (h : SortedK xs ys) (ha : xs.Pairwise Lk.lt) {x : Lk} (hx : x ∈ xs) (m : Nat) : x ∈ ys.take m ↔ rankL xs x < m := by
 have hp := sortedK_late h ha
 have hr : ∀ z, rankL xs z = rankL ys z := fun z => by unfold rankL; exact ((h.1.filter _).length_eq).symm
 constructor
 ·intro hm
  obtain ⟨j, hj, he⟩ := List.mem_take_iff_getElem.1 hm
  rw [hr, ← he, rank_at ys j om hp]; omega
 ·intro hm
  obtain ⟨j, hj, he⟩ := List.getElem_of_mem (h.1.mem_iff.2 hx)
  rw [hr, ← he, rank_at ys j hj hp] at hm
  exact List.mem_take_iff_getElem.2 ⟨j, by omega, he⟩
theorem inW_all {kd wd mo nw : Int} {xs : List Lk} (hk : kd = 1) : (xs.filter fun _ => true) = xs.filter (inW kd wd mo nw xs) :=
 List.filter_congr fun x hx => by unfold inW; rw [if_neg om, if_neg om]
theorem inW_age {nd kd wd mo nw : Int} {xs : List Lk} (h : AskOk nd xs kd wd mo nw) (hk : kd = 2) : (xs.filter fun x => decide (IntKind.i64.wrap (nw - x.tm) < wd)) = xs.filter (inW kd wd mo nw xs) :=
 List.filter_congr fun x hx => by
  have h1 := h.tm x hx
  have h2 := h.now
  unfold inW; rw [if_pos hk, InR.wrap (by unfold InR; omega)]
theorem inW_last {nd kd wd mo nw : Int} {xs ys : List Lk} {m : Nat} (h : AskOk nd xs kd wd mo nw) (hk : kd = 3) (hs : SortedK xs ys ∧ ys.length = xs.length ∧ (m : Int) ≤ mo ∧ m ≤ xs.length ∧ ((m : Int) = mo ∨ m = xs.length)) :
  (xs.filter fun x => decide (x ∈ ys.take m)) = xs.filter (inW kd wd mo nw xs) :=
 List.filter_congr fun x hx => by
  unfold inW; rw [if_neg om, if_pos hk, decide_eq_decide, take_rank hs.1 h.asc hx]
  have hlt : rankL xs x < xs.length := by
   have h1 := List.length_filter_le (fun y => decide (Lk.late y x)) xs
   obtain ⟨j, hj, he⟩ := List.getElem_of_mem (hs.1.1.mem_iff.2 hx)
   have h2 : rankL xs x = j := by
    have : rankL xs x = rankL ys x := by unfold rankL; exact ((hs.1.1.filter _).length_eq).symm
    rw [this, ← he, rank_at ys j hj (sortedK_late hs.1 h.asc)]
   omega
  omega
end Go.Sl
namespace Go.Sl
open Go.Proofs
set_option maxRecDepth 4000
end Go.Sl
