/- A part of the proofs of statements of this seat: contracts of functions, and the plain laws that they lean on. No conditions. -/
import Derived.Test.YtfkcohmipjhfcaaGreatDoorL8
set_option linter.unusedVariables false
set_option linter.unusedSimpArgs false
set_option linter.unusedSectionVars false
namespace Go.Sl
open Go.Proofs
set_option maxRecDepth 4000
set_option maxHeartbeats 1000000 in
theorem PutP_base {κ : Ctx} {I : List Item} {b : Nat} {nd : Int} {a0 o0 : Option Addr} {c0 d0 : Nat} {xs : List Lk} {out : List Ev} {va : Value} {es : List Ev} (hl : Sl κ I va es) (hval : checkS nd xs = 0) (hfit : ∀ j : Nat, j < es.length → FitOk nd (at_ es (j : Int))) (hsz : xs.length + es.length ≤ 1000000) (hso : out.length + es.length ≤ 1000000) :
    CallS Tryz.prog κ 212 [.pointer (some ⟨b, 0, none⟩), va] (blk b [I64 (nd), .slice a0 xs.length c0, .slice o0 out.length d0] 241 :: vc 146 (.slice a0 xs.length c0) (xs) :: vc 108 (.slice o0 out.length d0) (out) :: I) (fun r J => ∃ y : Option Addr × Nat × Option Addr × Nat, r = .tuple #[] ∧ J = blk b [I64 (nd), .slice y.1 (List.foldl stepL xs es).length y.2.1, .slice y.2.2.1 (out ++ es).length y.2.2.2] 241 :: vc 146 (.slice y.1 (List.foldl stepL xs es).length y.2.1) (List.foldl stepL xs es) :: vc 108 (.slice y.2.2.1 (out ++ es).length y.2.2.2) (out ++ es) :: I) := by
 refine Ce2 Tryz.func212 rfl rfl ?_
 refine Ah (Gm rfl (Gr (B0 (α := Ev) (xs := es) A6 rfl (Bi hl)) (Gm rfl (Af (A3 (Bx (σ := Nat × (Option Addr) × Nat × (Option Addr) × Nat) (fun s => ([(0, .pointer (some ⟨b, 0, none⟩)), (6, va), (7, I64 (((es.length : Nat) : Int))), (8, I64 (((s.1 : Nat) : Int)))] : Env)) (fun s => blk b [I64 (nd), .slice s.2.1 (List.foldl stepL xs (List.take s.1 es)).length s.2.2.1, .slice s.2.2.2.1 (out ++ List.take s.1 es).length s.2.2.2.2] 241 :: vc 146 (.slice s.2.1 (List.foldl stepL xs (List.take s.1 es)).length s.2.2.1) (List.foldl stepL xs (List.take s.1 es)) :: vc 108 (.slice s.2.2.2.1 (out ++ List.take s.1 es).length s.2.2.2.2) (out ++ List.take s.1 es) :: I) (fun s => (s.1 ≤ es.length) ∧ (checkS nd (List.foldl stepL xs (List.take s.1 es)) = 0)) (fun s => es.length - s.1) (0, a0, c0, o0, d0) (show ((0 : Nat) ≤ es.length) ∧ (checkS nd (List.foldl stepL xs (List.take (0 : Nat) es)) = 0) from ⟨om, hval⟩) (Aa rfl (Aa rfl (Aa rfl (Aa Ci Bj)))) (show Fit κ _ (blk b [I64 (nd), .slice (a0) (List.foldl stepL xs (List.take (0) es)).length (c0), .slice (o0) (out ++ List.take (0) es).length (d0)] 241 :: vc 146 (.slice (a0) (List.foldl stepL xs (List.take (0) es)).length (c0)) (List.foldl stepL xs (List.take (0) es)) :: vc 108 (.slice (o0) (out ++ List.take (0) es).length (d0)) (out ++ List.take (0) es) :: I) from (by rw [show out ++ List.take 0 es = out from List.append_nil _]; exact Fit.refl _)) ?_))))))
 rintro ⟨k, a1, c1, o1, d1⟩ hp
 dsimp only at hp ⊢
 obtain ⟨hk, hv⟩ := hp
 refine Ah (Gr (A8 rfl rfl) (Af (As (A7 rfl (fun c9 => ?_) (fun c9 => ?_)))))
 ·refine A4 (Aj (As (A3 (Ah (Gr (A0 (α := Ev) (xs := es) A6 ty108 rfl rfl (Bi hl) om om) (Gr (Bs (α := Ev) (xs := es) ty108 rfl (Bi hl) om om) (Ge1 (Ba ty108 rfl) fun b1 => Ge0 (Es7_7 ty108) ?_)))))))
  refine Af (As (Bk mixed (Bp (blk b1 [I64 ((at_ es (k : Int)).kd), I64 ((at_ es (k : Int)).tm), I64 ((at_ es (k : Int)).u), I64 ((at_ es (k : Int)).v), I64 ((at_ es (k : Int)).w), I64 ((at_ es (k : Int)).lb), I64 ((at_ es (k : Int)).sg)] 108 :: I) 13 (Dr 0 rfl (Ad rfl) (Dr 1 rfl (Ad rfl) (Dr 2 rfl (Bg rfl) (Dr 3 rfl (Ac fld241_0 rfl) (Dr 5 rfl (Bm (vs := [_, _, _, _, _, _, _]) ty108) ?_))))))))
  refine Ds1 4 (Sr rfl (Bm (vs := [_, _]) ty111) A2 ?_)
  refine Ds1 6 (Se rfl (Am call215 rfl rfl (StepP_at (by repeat (first | exact AtF.head _ _ | apply AtF.tail)) rfl (checkS_ok hv).2.2 (by have h := steps_len (List.take k es) xs; rw [List.length_take] at h; omega))) ?_)
  rintro _ _ ⟨_, _, ⟨⟨ad2, cp3, wv4⟩, rfl, rfl⟩, rfl, rfl⟩
  refine ⟨A2, ?_⟩
  show D Tryz.prog κ _ _ _ _ _ _ _ ([(19, .tuple #[.agg #[I64 (nd), .slice ad2 (stepL (List.foldl stepL xs (List.take k es)) (at_ es (k : Int))).length cp3], wv4]), (17, .agg #[I64 (nd), .slice a1 (List.foldl stepL xs (List.take k es)).length c1]), (18, .agg #[I64 ((at_ es (k : Int)).kd), I64 ((at_ es (k : Int)).tm), I64 ((at_ es (k : Int)).u), I64 ((at_ es (k : Int)).v), I64 ((at_ es (k : Int)).w), I64 ((at_ es (k : Int)).lb), I64 ((at_ es (k : Int)).sg)]), (16, .pointer (some ⟨b, 0, none⟩)), (15, .pointer (some ⟨b, 0, none⟩)), (14, .pointer (some ⟨b, 0, none⟩)), (13, .pointer (some ⟨b, 0, none⟩)), (5, .pointer (some ⟨b1, 0, none⟩)), (11, .agg #[I64 ((at_ es (k : Int)).kd), I64 ((at_ es (k : Int)).tm), I64 ((at_ es (k : Int)).u), I64 ((at_ es (k : Int)).v), I64 ((at_ es (k : Int)).w), I64 ((at_ es (k : Int)).lb), I64 ((at_ es (k : Int)).sg)]), (10, elemPtr (va) (((k : Int)).toNat * Enc.sz Ev)), (9, .bool (decide ((k : Int) < ((es.length : Nat) : Int)))), (0, .pointer (some ⟨b, 0, none⟩)), (6, va), (7, I64 (((es.length : Nat) : Int))), (8, I64 ((k : Int)))] : Env) (blk b1 [I64 ((at_ es (k : Int)).kd), I64 ((at_ es (k : Int)).tm), I64 ((at_ es (k : Int)).u), I64 ((at_ es (k : Int)).v), I64 ((at_ es (k : Int)).w), I64 ((at_ es (k : Int)).lb), I64 ((at_ es (k : Int)).sg)] 108 :: blk b [I64 (nd), .slice a1 (List.foldl stepL xs (List.take k es)).length c1, .slice o1 (out ++ List.take k es).length d1] 241 :: vc 146 (.slice ad2 (stepL (List.foldl stepL xs (List.take k es)) (at_ es (k : Int))).length cp3) (stepL (List.foldl stepL xs (List.take k es)) (at_ es (k : Int))) :: vc 108 (.slice o1 (out ++ List.take k es).length d1) (out ++ List.take k es) :: I)
  refine Dr 7 rfl (Ad rfl) (Dr 8 rfl (Az rfl rfl) (Dr 9 rfl (Az rfl rfl) (Dr 10 rfl (Bg rfl) (Dr 11 rfl (Ac fld241_0 rfl) (Ds1 12 (Se0 rfl (Eff.st (cs := [_, _, _]) (vs := [_, _]) (cs' := [_, _, _]) ty111) ?_))))))
  refine Dz (Aj (Ap (S5 5 0 6 7 8 rfl rfl rfl rfl rfl) (Bk mixed (Bp (blk b1 [I64 ((at_ es (k : Int)).kd), I64 ((at_ es (k : Int)).tm), I64 ((at_ es (k : Int)).u), I64 ((at_ es (k : Int)).v), I64 ((at_ es (k : Int)).w), I64 ((at_ es (k : Int)).lb), I64 ((at_ es (k : Int)).sg)] 108 :: I) 11 (Dr 0 rfl (Ad rfl) (Dr 1 rfl (Ad rfl) (Dr 2 rfl (Bg rfl) (Dr 3 rfl (Ac fld241_1 rfl) (Dr 5 rfl (Bm (vs := [_, _, _, _, _, _, _]) ty108) ?_)))))))))
  refine Dv (rs := [4, 6]) kr rfl rfl (all2 ?_ (all1 ?_))
  ·refine Sr rfl (Au ty28) A2 ?_
   refine Ds1 6 (Se1 rfl (B5 (α := Ev) (cs := [I64 ((at_ es (k : Int)).kd), I64 ((at_ es (k : Int)).tm), I64 ((at_ es (k : Int)).u), I64 ((at_ es (k : Int)).v), I64 ((at_ es (k : Int)).w), I64 ((at_ es (k : Int)).lb), I64 ((at_ es (k : Int)).sg)]) (xs := [⟨(at_ es (k : Int)).kd, (at_ es (k : Int)).tm, (at_ es (k : Int)).u, (at_ es (k : Int)).v, (at_ es (k : Int)).w, (at_ es (k : Int)).lb, (at_ es (k : Int)).sg⟩]) A6 ty108 rfl rfl dc dc rfl kr rfl rfl) fun ad5 => ?_)
   refine Ds1 7 (Se2 rfl (Ce (α := Ev) (e := 108) (xs := out ++ List.take k es) (ys := ([⟨(at_ es (k : Int)).kd, (at_ es (k : Int)).tm, (at_ es (k : Int)).u, (at_ es (k : Int)).v, (at_ es (k : Int)).w, (at_ es (k : Int)).lb, (at_ es (k : Int)).sg⟩] : List Ev)) A6 ty108 rfl rfl rfl mm Bc (by simp only [List.length_append, List.length_take, List.length_cons, List.length_nil]; omega) dc rfl (fun _ _ => am)) fun ad6 cp7 => ?_)
   refine Dr 8 rfl (Bg rfl) (Dr 9 rfl (Ac fld241_1 rfl) (Ds1 10 (Se0 rfl (Eff.st (cs := [_, _, _]) (vs := [_]) (cs' := [_, _, _]) ty28) ?_)))
   exact Dz (Ai (Aj (Ap (S4 0 6 7 8 rfl rfl rfl rfl) (Av (Gr (Rad rfl rfl) (Gm rfl (Bh (B3 ((k + 1), (ad2), (cp3), (ad6), (cp7)) (by dsimp only; exact ⟨om, (by rw [steps_succ om]; exact stepL_val hv (hfit k om))⟩) (hI := by (try dsimp only); exact (by rw [steps_succ om, out_succ om]; exact A2))))))))))
  ·refine Se1 rfl (B5 (α := Ev) (cs := [I64 ((at_ es (k : Int)).kd), I64 ((at_ es (k : Int)).tm), I64 ((at_ es (k : Int)).u), I64 ((at_ es (k : Int)).v), I64 ((at_ es (k : Int)).w), I64 ((at_ es (k : Int)).lb), I64 ((at_ es (k : Int)).sg)]) (xs := [⟨(at_ es (k : Int)).kd, (at_ es (k : Int)).tm, (at_ es (k : Int)).u, (at_ es (k : Int)).v, (at_ es (k : Int)).w, (at_ es (k : Int)).lb, (at_ es (k : Int)).sg⟩]) A6 ty108 rfl rfl dc dc rfl kr rfl rfl) fun ad8 => ?_
   refine Ds1 4 (Sr rfl (Au ty28) A2 ?_)
   refine Ds1 7 (Se2 rfl (Ce (α := Ev) (e := 108) (xs := out ++ List.take k es) (ys := ([⟨(at_ es (k : Int)).kd, (at_ es (k : Int)).tm, (at_ es (k : Int)).u, (at_ es (k : Int)).v, (at_ es (k : Int)).w, (at_ es (k : Int)).lb, (at_ es (k : Int)).sg⟩] : List Ev)) A6 ty108 rfl rfl rfl mm Bc (by simp only [List.length_append, List.length_take, List.length_cons, List.length_nil]; omega) dc rfl (fun _ _ => am)) fun ad9 cp10 => ?_)
   refine Dr 8 rfl (Bg rfl) (Dr 9 rfl (Ac fld241_1 rfl) (Ds1 10 (Se0 rfl (Eff.st (cs := [_, _, _]) (vs := [_]) (cs' := [_, _, _]) ty28) ?_)))
   exact Dz (Ai (Aj (Ap (S4 0 6 7 8 rfl rfl rfl rfl) (Av (Gr (Rad rfl rfl) (Gm rfl (Bh (B3 ((k + 1), (ad2), (cp3), (ad9), (cp10)) (by dsimp only; exact ⟨om, (by rw [steps_succ om]; exact stepL_val hv (hfit k om))⟩) (hI := by (try dsimp only); exact (by rw [steps_succ om, out_succ om]; exact A2))))))))))
 ·refine Bt (Ao (Ao (A5 ?_)))
  have hk2 : List.take k es = es := List.take_of_length_le om
  exact V.end0 rfl (blk b [I64 (nd), .slice a1 (List.foldl stepL xs es).length c1, .slice o1 (out ++ es).length d1] 241 :: vc 146 (.slice a1 (List.foldl stepL xs es).length c1) (List.foldl stepL xs es) :: vc 108 (.slice o1 (out ++ es).length d1) (out ++ es) :: I) (by rw [hk2]; exact A2) ⟨⟨a1, c1, o1, d1⟩, rfl, rfl⟩
set_option maxHeartbeats 1000000 in
theorem AgeP_base {κ : Ctx} {I : List Item} {b : Nat} {nd wd mo T last : Int} {a0 o0 : Option Addr} {c0 d0 : Nat} {xs : List Lk} {out : List Ev} (hI0 : SlI nd 2 wd last xs) (hw : checkW 2 wd mo = 0) (hT : 0 ≤ last ∧ last ≤ T ∧ T ≤ 1048576) (hsz : xs.length + out.length ≤ 400000) :
    CallS Tryz.prog κ 211 [.pointer (some ⟨b, 0, none⟩), .agg #[I64 (2), I64 (wd), I64 (mo)], I64 (T)] (blk b [I64 (nd), .slice a0 xs.length c0, .slice o0 out.length d0] 241 :: vc 146 (.slice a0 xs.length c0) (xs) :: vc 108 (.slice o0 out.length d0) (out) :: I) (fun r J => ∃ y : Option Addr × Nat × Option Addr × Nat, (r = .tuple #[] ∧ SlI nd 2 wd T (ageL wd mo T xs out).1 ∧ (ageL wd mo T xs out).1.length + (ageL wd mo T xs out).2.length = xs.length + out.length) ∧ J = blk b [I64 (nd), .slice y.1 ((ageL wd mo T xs out).1).length y.2.1, .slice y.2.2.1 ((ageL wd mo T xs out).2).length y.2.2.2] 241 :: vc 146 (.slice y.1 ((ageL wd mo T xs out).1).length y.2.1) ((ageL wd mo T xs out).1) :: vc 108 (.slice y.2.2.1 ((ageL wd mo T xs out).2).length y.2.2.2) ((ageL wd mo T xs out).2) :: I) := by
 refine Ce3 Tryz.func211 rfl rfl ?_
 refine Ah (Ge1 (Be (cs := [_, _, _]) rfl rfl rfl) fun b1 => Af (A3 (Bx (σ := (Option Addr) × Nat × (Option Addr) × Nat × (List Lk) × (List Ev)) (fun s => ([(0, .pointer (some ⟨b, 0, none⟩)), (2, I64 (T)), (4, .pointer (some ⟨b1, 0, none⟩))] : Env)) (fun s => blk b [I64 (nd), .slice s.1 s.2.2.2.2.1.length s.2.1, .slice s.2.2.1 s.2.2.2.2.2.length s.2.2.2.1] 241 :: vc 146 (.slice s.1 s.2.2.2.2.1.length s.2.1) (s.2.2.2.2.1) :: vc 108 (.slice s.2.2.1 s.2.2.2.2.2.length s.2.2.2.1) (s.2.2.2.2.2) :: blk b1 [I64 (2), I64 (wd), I64 (mo)] 31 :: I) (fun s => ((ageL wd mo T xs out) = ageL wd mo T s.2.2.2.2.1 s.2.2.2.2.2) ∧ (SlI nd 2 wd last s.2.2.2.2.1) ∧ (s.2.2.2.2.1.length + s.2.2.2.2.2.length = xs.length + out.length)) (fun s => s.2.2.2.2.1.length) (a0, c0, o0, d0, xs, out) (show ((ageL wd mo T xs out) = ageL wd mo T (xs : List Lk) (out : List Ev)) ∧ (SlI nd 2 wd last (xs : List Lk)) ∧ ((xs : List Lk).length + (out : List Ev).length = xs.length + out.length) from ⟨rfl, hI0, rfl⟩) (Aa rfl (Aa rfl (Aa rfl Bj))) (show Fit κ _ (blk b [I64 (nd), .slice (a0) (xs).length (c0), .slice (o0) (out).length (d0)] 241 :: vc 146 (.slice (a0) (xs).length (c0)) ((xs)) :: vc 108 (.slice (o0) (out).length (d0)) ((out)) :: blk b1 [I64 (2), I64 (wd), I64 (mo)] 31 :: I) from B6) ?_)))
 rintro ⟨a1, c1, o1, d1, ys, zs⟩ hp
 dsimp only at hp ⊢
 obtain ⟨hr, hI, hs⟩ := hp
 refine A3 (As (Bk mixed (Bp (blk b [I64 (nd), .slice a1 ys.length c1, .slice o1 zs.length d1] 241 :: vc 146 (.slice a1 ys.length c1) (ys) :: vc 108 (.slice o1 zs.length d1) (zs) :: blk b1 [I64 (2), I64 (wd), I64 (mo)] 31 :: I) 12 (Dr 0 rfl (Ad rfl) (Dr 1 rfl (Bg rfl) (Dr 2 rfl (Ac fld241_0 rfl) (Dr 3 rfl (Bm (vs := [_, _]) ty111) ?_)))))))
 refine Dr 4 rfl (Ac fld31_1 rfl) (Dr 5 rfl (Au ty3) ?_)
 refine Ds1 6 (Se rfl (Am call252 rfl rfl (First_ok (nd := nd) Bc (checkS_tm' hI.val) (checkW_wd hw))) ?_)
 rintro _ _ ⟨_, _, ⟨zf2, rfl, hfzf2, rfl⟩, rfl, rfl⟩
 refine ⟨A2, ?_⟩
 refine Dr 7 rfl (Ad rfl) (Dr 8 rfl (Az rfl rfl) (Dr 9 rfl (Az rfl rfl) (Dr 10 rfl (A9 rfl) (Dr 11 rfl (A9 rfl) ?_))))
 have hzf := hfzf2
 refine Dz (Aj (Ap (S5 7 6 0 2 4 rfl rfl rfl rfl rfl) (As (Ah (Gm rfl (Gr (Dt rfl) (Gm rfl (Bd (d := 20) rfl (fun g20 => ?_) (fun g20 => ?_)))))))))
 ·refine Gpo (Gpo (Gpo (Gr (Al rfl rfl) (Af (Cn rfl (Ay (Ak (Ar (Ak (Ar ?_))))))))))
  have hstop : ¬ (0 < ys.length ∧ minT ys + wd ≤ T) := (fun h => by have hz := minT_uniq (hzf.1 h.1); omega)
  have hE : (ageL wd mo T xs out) = (ys, zs) := hr.trans (ageL_stop hstop)
  exact V.ret0 rfl (blk b [I64 (nd), .slice a1 ((ageL wd mo T xs out).1).length c1, .slice o1 ((ageL wd mo T xs out).2).length d1] 241 :: vc 146 (.slice a1 ((ageL wd mo T xs out).1).length c1) ((ageL wd mo T xs out).1) :: vc 108 (.slice o1 ((ageL wd mo T xs out).2).length d1) ((ageL wd mo T xs out).2) :: I) (by rw [hE]; exact A2) ⟨⟨a1, c1, o1, d1⟩, ⟨rfl, by rw [hE]; exact hI.later hT.2.1 (fun _ => hstop), by rw [hE]; exact hs⟩, rfl⟩
 ·refine Gro (Ad rfl) (Gro (Ad rfl) (Gro (B7 rfl rfl) (Gr (Aq rfl rfl) (Af (A7 rfl (fun c24 => ?_) (fun c24 => ?_))))))
  ·refine Ay (Ak (Ar (Ak (Ar ?_))))
   have hstop : ¬ (0 < ys.length ∧ minT ys + wd ≤ T) := (fun h => by have hz := minT_uniq (hzf.1 h.1); omega)
   have hE : (ageL wd mo T xs out) = (ys, zs) := hr.trans (ageL_stop hstop)
   exact V.ret0 rfl (blk b [I64 (nd), .slice a1 ((ageL wd mo T xs out).1).length c1, .slice o1 ((ageL wd mo T xs out).2).length d1] 241 :: vc 146 (.slice a1 ((ageL wd mo T xs out).1).length c1) ((ageL wd mo T xs out).1) :: vc 108 (.slice o1 ((ageL wd mo T xs out).2).length d1) ((ageL wd mo T xs out).2) :: I) (by rw [hE]; exact A2) ⟨⟨a1, c1, o1, d1⟩, ⟨rfl, by rw [hE]; exact hI.later hT.2.1 (fun _ => hstop), by rw [hE]; exact hs⟩, rfl⟩
  ·refine A4 (Aj (Bk mixed (Bp (blk b1 [I64 (2), I64 (wd), I64 (mo)] 31 :: I) 9 (Dr 0 rfl (Ad rfl) (Dr 1 rfl (Ad rfl) (Dr 2 rfl (Bg rfl) (Dr 3 rfl (Ac fld241_0 rfl) (Dr 5 rfl (Bm (vs := [_, _, _]) ty31) ?_))))))))
   refine Dr 6 rfl (Ad rfl) (Ds1 4 (Sr rfl (Bm (vs := [_, _]) ty111) A2 ?_))
   refine Ds1 7 (Sc2 rfl (Am call213 rfl rfl (GoneP_ok (nd := nd) Bc om (hI.ask hw (by have hzz := hI.first rfl om; have hz := minT_uniq (hzf.1 om); omega) (by have hzz := hI.first rfl om; have hz := minT_uniq (hzf.1 om); omega)))) fun ad3 cp4 => ?_)
   refine Ds1 8 (Se rfl (Am call212 rfl rfl (Cm (J := blk b [I64 (nd), .slice a1 ys.length c1, .slice o1 zs.length d1] 241 :: vc 146 (.slice a1 ys.length c1) (ys) :: vc 108 (.slice o1 zs.length d1) (zs) :: vc 108 (.slice ad3 (goneL 2 wd mo zf2 ys).length cp4) (goneL 2 wd mo zf2 ys) :: blk b1 [I64 (2), I64 (wd), I64 (mo)] 31 :: I) B6 (PutP_base (nd := nd) (xs := ys) (out := zs) (es := goneL 2 wd mo zf2 ys) Bc (hI.val) (fitgone hI.val (by have hzz := hI.first rfl om; have hz := minT_uniq (hzf.1 om); omega)) (by have h := gone_len 2 wd mo zf2 ys; omega) (by have h := gone_len 2 wd mo zf2 ys; omega)))) ?_)
   rintro _ _ ⟨_, _, ⟨⟨ad5, cp6, ad7, cp8⟩, rfl, rfl⟩, rfl, rfl⟩
   refine ⟨A2, ?_⟩
   show D Tryz.prog κ _ _ _ _ _ _ _ ([(33, .tuple #[]), (32, .slice ad3 (goneL 2 wd mo zf2 ys).length cp4), (29, .agg #[I64 (nd), .slice a1 ys.length c1]), (31, I64 (zf2)), (30, .agg #[I64 (2), I64 (wd), I64 (mo)]), (28, .pointer (some ⟨b, 0, none⟩)), (27, .pointer (some ⟨b, 0, none⟩)), (26, .pointer (some ⟨b, 0, none⟩)), (25, .pointer (some ⟨b, 0, none⟩)), (24, .bool (decide (T < zf2))), (23, .bool (decide (T < zf2))), (22, I64 (T)), (21, I64 (zf2)), (20, .bool false), (20, .bool (decide (¬ (0 < ys.length)))), (19, .bool (decide (¬ (0 < ys.length)))), (18, .bool (decide (0 < ys.length))), (7, .bool (decide (0 < ys.length))), (6, I64 (zf2)), (0, .pointer (some ⟨b, 0, none⟩)), (2, I64 (T)), (4, .pointer (some ⟨b1, 0, none⟩))] : Env) (blk b [I64 (nd), .slice ad5 (List.foldl stepL ys (goneL 2 wd mo zf2 ys)).length cp6, .slice ad7 (zs ++ (goneL 2 wd mo zf2 ys)).length cp8] 241 :: vc 146 (.slice ad5 (List.foldl stepL ys (goneL 2 wd mo zf2 ys)).length cp6) (List.foldl stepL ys (goneL 2 wd mo zf2 ys)) :: vc 108 (.slice ad7 (zs ++ (goneL 2 wd mo zf2 ys)).length cp8) (zs ++ (goneL 2 wd mo zf2 ys)) :: vc 108 (.slice ad3 (goneL 2 wd mo zf2 ys).length cp4) (goneL 2 wd mo zf2 ys) :: blk b1 [I64 (2), I64 (wd), I64 (mo)] 31 :: I)
   refine Dz (Ai ?_)
   have hpos : 0 < ys.length := by omega
   have hz : zf2 = minT ys + wd := minT_uniq (hzf.1 hpos)
   have hg : List.foldl stepL ys (goneL 2 wd mo zf2 ys) = List.filter (inW 2 wd mo zf2 ys) ys := gone_steps hI.val
   have hgl := gone_len 2 wd mo zf2 ys
   have hal : (List.filter (inW 2 wd mo zf2 ys) ys).length < ys.length := by rw [hz]; exact age_less (wd := wd) (mo := mo) hpos
   exact B3 ((ad5), (cp6), (ad7), (cp8), (List.filter (inW 2 wd mo zf2 ys) ys), (zs ++ goneL 2 wd mo zf2 ys)) (by dsimp only; exact ⟨(by rw [hr, ageL_step ⟨hpos, by omega⟩, ← hz]), (hI.filter _), (by rw [List.length_append]; omega)⟩) (hlt := by (try dsimp only); exact hal) (hI := by (try dsimp only); exact (by rw [hg]; exact A2))
variable {κ : Ctx} {I : List Item}
theorem AgeP_two {b : Nat} {nd kd wd mo T last : Int} {a0 o0 : Option Addr} {c0 d0 : Nat} {xs : List Lk} {out : List Ev} (hk : kd = 2) (hI0 : SlI nd kd wd last xs) (hw : checkW kd wd mo = 0) (hT : 0 ≤ last ∧ last ≤ T ∧ T ≤ 1048576) (hsz : xs.length + out.length ≤ 400000) :
  CallS Tryz.prog κ 211 [.pointer (some ⟨b, 0, none⟩), .agg #[I64 kd, I64 wd, I64 mo], I64 T] (blk b [I64 (nd), .slice a0 xs.length c0, .slice o0 out.length d0] 241 :: vc 146 (.slice a0 xs.length c0) (xs) :: vc 108 (.slice o0 out.length d0) (out) :: I) (fun r J => ∃ y : Option Addr × Nat × Option Addr × Nat, (r = .tuple #[] ∧ SlI nd kd wd T (ageL wd mo T xs out).1 ∧ (ageL wd mo T xs out).1.length + (ageL wd mo T xs out).2.length = xs.length + out.length) ∧ J = blk b [I64 (nd), .slice y.1 ((ageL wd mo T xs out).1).length y.2.1, .slice y.2.2.1 ((ageL wd mo T xs out).2).length y.2.2.2] 241 :: vc 146 (.slice y.1 ((ageL wd mo T xs out).1).length y.2.1) ((ageL wd mo T xs out).1) :: vc 108 (.slice y.2.2.1 ((ageL wd mo T xs out).2).length y.2.2.2) ((ageL wd mo T xs out).2) :: I) := by
 subst hk
 exact AgeP_base hI0 hw hT hsz
theorem evStep_three {kd wd mo : Int} {xs : List Lk} {out : List Ev} {e : Ev} {ys : List Lk} {zs : List Ev} (h : agedL kd wd mo e.tm (xs, out) = (ys, zs)) (hk : kd = 3) : evStep kd wd mo (xs, out) e = ((stepL ys e).filter (inW kd wd mo e.tm (stepL ys e)), zs ++ [e] ++ goneL kd wd mo e.tm (stepL ys e)) := by
 unfold evStep windL; rw [h, if_pos hk]
theorem evStep_not {kd wd mo : Int} {xs : List Lk} {out : List Ev} {e : Ev} {ys : List Lk} {zs : List Ev} (h : agedL kd wd mo e.tm (xs, out) = (ys, zs)) (hk : ¬ kd = 3) : evStep kd wd mo (xs, out) e = (stepL ys e, zs ++ [e]) := by
 unfold evStep windL; rw [h, if_neg hk]
theorem checkW_one {kd wd mo : Int} (h : checkW kd wd mo = 0) (hk : kd = 2) : 1 ≤ wd := by
 unfold checkW at h
 split at h
 ·cases h
 ·split at h
  ·cases h
  ·omega
theorem lastT_ge {nd : Int} {es : List Ev} (h : StOk nd es) {k : Nat} (hk : k ≤ es.length) : 0 ≤ lastT es k := by
 cases k with
 | zero => exact Int.le_refl _
 | succ k => rw [lastT_succ]; exact (h.fit k om).tm.1
theorem slideE_st {nd kd wd mo : Int} {es : List Ev} (h1 : ¬ checkW kd wd mo ≠ 0) : slideE nd kd wd mo es = streamE nd es := by unfold slideE; rw [if_neg h1]
set_option maxHeartbeats 1000000 in
theorem Slide_ok {nd kd wd mo : Int} {va : Value} {es : List Ev} (hl : Sl κ I va es) :
    CallS Tryz.prog κ 140 [I64 (nd), va, .agg #[I64 (kd), I64 (wd), I64 (mo)]] I (fun r J => ((slideE nd kd wd mo es) ≠ 0 ∧ r = .tuple #[.slice none 0 0, I64 (slideE nd kd wd mo es)] ∧ I = J) ∨ (∃ a c, (slideE nd kd wd mo es) = 0 ∧ r = .tuple #[.slice a (slideS kd wd mo es).2.length c, I64 0] ∧ J = vc 108 (.slice a (slideS kd wd mo es).2.length c) (slideS kd wd mo es).2 :: I)) := by
 refine B2 hl.le fun hmax => ?_
 refine Ce3 Tryz.func140 rfl rfl ?_
 refine Ah (Ge1 (Be (cs := [_, _, _]) rfl rfl rfl) fun b1 => Ga rfl (Ga rfl (Af (As (Ah (Gl3 ty31 ?_))))))
 refine G.e (Am call78 rfl rfl (CheckW_ok kd wd mo)) ?_
 rintro _ _ ⟨_, _, ⟨rfl, rfl⟩, rfl, rfl⟩
 refine Ga rfl (Af (Ah (Gm rfl (Gr (Bw rfl rfl) (Af (A7 rfl (fun c16 => ?_) (fun c16 => ?_)))))))
 ·refine Ah (Gm rfl (Ga rfl (Ga rfl (Af (Ap (S2 7 6 rfl rfl) (Ay (Ak ?_)))))))
  have hz : (slideE nd kd wd mo es) = checkW kd wd mo := by unfold slideE; rw [if_pos c16]
  exact Cu rfl rfl rfl (I) Ax (.inl ⟨by rw [hz]; exact c16, by rw [hz], rfl⟩)
 ·refine A4 (Aj (As (Ah (Gm rfl (Gm rfl (G.e (Am call139 rfl rfl (Stream_ok (nd := nd) (Bi hl))) ?_))))))
  rintro _ _ ⟨_, _, ⟨rfl, rfl⟩, rfl, rfl⟩
  refine Ga rfl (Af (Ap (S4 9 5 0 1 rfl rfl rfl rfl) (Ah (Gm rfl (Gr (Bw rfl rfl) (Af (A7 rfl (fun c22 => ?_) (fun c22 => ?_))))))))
  ·refine Ah (Gm rfl (Ga rfl (Ga rfl (Af (Ay (Ak ?_))))))
   have hz : (slideE nd kd wd mo es) = streamE nd es := slideE_st c16
   exact Cu rfl rfl rfl (I) Ax (.inl ⟨by rw [hz]; exact c22, by rw [hz], rfl⟩)
  ·refine A4 (Aj (Ah (Gm rfl ?_)))
   have hE := streamE_ok (Classical.not_not.1 c22)
   refine Gr (Bf (cells := [_, _]) ty111 Ef pl111 rfl rfl) (Gr (Bf (cells := [_, _, _]) ty241 Tryz.underlying241 pl241 rfl rfl) (Ge1 (Be (cs := [_, _, _]) rfl rfl rfl) fun b2 => Ga rfl (Af (As (Ah (Gm rfl (Gr (B0 (α := Ev) (xs := es) A6 rfl (Bi hl)) (Gm rfl (Af (Ap (S5 30 29 28 10 5 rfl rfl rfl rfl rfl) (A3 (Bx (σ := Nat × (Option Addr) × Nat × (Option Addr) × Nat × (List Lk) × (List Ev)) (fun s => ([(5, .pointer (some ⟨b1, 0, none⟩)), (10, .pointer (some ⟨b2, 0, none⟩)), (28, va), (29, I64 (((es.length : Nat) : Int))), (30, I64 (((s.1 : Nat) : Int)))] : Env)) (fun s => blk b2 [I64 (nd), .slice s.2.1 s.2.2.2.2.2.1.length s.2.2.1, .slice s.2.2.2.1 s.2.2.2.2.2.2.length s.2.2.2.2.1] 241 :: vc 146 (.slice s.2.1 s.2.2.2.2.2.1.length s.2.2.1) (s.2.2.2.2.2.1) :: vc 108 (.slice s.2.2.2.1 s.2.2.2.2.2.2.length s.2.2.2.2.1) (s.2.2.2.2.2.2) :: blk b1 [I64 (kd), I64 (wd), I64 (mo)] 31 :: I) (fun s => (s.1 ≤ es.length) ∧ (slideS kd wd mo (List.take s.1 es) = (s.2.2.2.2.2.1, s.2.2.2.2.2.2)) ∧ (SlI nd kd wd (lastT es s.1) s.2.2.2.2.2.1) ∧ (s.2.2.2.2.2.1.length + s.2.2.2.2.2.2.length ≤ 2 * s.1)) (fun s => es.length - s.1) (0, none, 0, none, 0, [], []) (show ((0 : Nat) ≤ es.length) ∧ (slideS kd wd mo (List.take (0 : Nat) es) = (([] : List Lk), ([] : List Ev))) ∧ (SlI nd kd wd (lastT es (0 : Nat)) ([] : List Lk)) ∧ (([] : List Lk).length + ([] : List Ev).length ≤ 2 * (0 : Nat)) from ⟨om, rfl, (SlI.nil hE.nodes), (by simp)⟩) (Aa rfl (Aa rfl (Aa rfl (Aa rfl (Aa Ci Bj))))) (show Fit κ _ (blk b2 [I64 (nd), .slice (none) ([]).length (0), .slice (none) ([]).length (0)] 241 :: vc 146 (.slice (none) ([]).length (0)) (([])) :: vc 108 (.slice (none) ([]).length (0)) (([])) :: blk b1 [I64 (kd), I64 (wd), I64 (mo)] 31 :: I) from (Cj (Bv 108 _) (Cj (Bv 146 _) B6))) ?_))))))))))))
   rintro ⟨k, a1, c1, o1, d1, xs, out⟩ hp
   dsimp only at hp ⊢
   obtain ⟨hk, hst, hI, hs⟩ := hp
   have hlen := hE.len
   refine Ah (Gr (A8 rfl rfl) (Af (As (A7 rfl (fun c31 => ?_) (fun c31 => ?_)))))
   ·refine A4 (Aj (As (A3 (Ah (Gr (A0 (α := Ev) (xs := es) A6 ty108 rfl rfl (Bi hl) om om) (Gr (Bs (α := Ev) (xs := es) ty108 rfl (Bi hl) om om) (Ge1 (Ba ty108 rfl) fun b3 => Ge0 (Es7_7 ty108) ?_)))))))
    have hfe := hE.fit k om
    have hto := hE.asc k om
    refine Af (W.cut (σ := (Option Addr) × Nat × (Option Addr) × Nat × (List Lk) × (List Ev)) (fun s => ([(5, .pointer (some ⟨b1, 0, none⟩)), (10, .pointer (some ⟨b2, 0, none⟩)), (12, .pointer (some ⟨b3, 0, none⟩)), (28, va), (29, I64 (((es.length : Nat) : Int))), (30, I64 ((k : Int)))] : Env)) (fun s => blk b2 [I64 (nd), .slice s.1 s.2.2.2.2.1.length s.2.1, .slice s.2.2.1 s.2.2.2.2.2.length s.2.2.2.1] 241 :: vc 146 (.slice s.1 s.2.2.2.2.1.length s.2.1) (s.2.2.2.2.1) :: vc 108 (.slice s.2.2.1 s.2.2.2.2.2.length s.2.2.2.1) (s.2.2.2.2.2) :: blk b3 [I64 ((at_ es (k : Int)).kd), I64 ((at_ es (k : Int)).tm), I64 ((at_ es (k : Int)).u), I64 ((at_ es (k : Int)).v), I64 ((at_ es (k : Int)).w), I64 ((at_ es (k : Int)).lb), I64 ((at_ es (k : Int)).sg)] 108 :: blk b1 [I64 (kd), I64 (wd), I64 (mo)] 31 :: I) (fun s => ((agedL kd wd mo (at_ es (k : Int)).tm (xs, out)) = (s.2.2.2.2.1, s.2.2.2.2.2)) ∧ (SlI nd kd wd (at_ es (k : Int)).tm s.2.2.2.2.1) ∧ (s.2.2.2.2.1.length + s.2.2.2.2.2.length = xs.length + out.length)) ?_ ?_)
    ·refine Ah (Gf fld31_0 rfl (Gl ty3 ?_))
     refine Gr (Bb rfl rfl) (Af (A7 rfl (fun c36 => ?_) (fun c36 => ?_)))
     ·refine Av (Gm rfl (Gl3 ty31 ?_))
      refine Gf fld108_1 rfl (Gl ty3 ?_)
      refine G.e (Am call211 rfl rfl (Cm (J := blk b2 [I64 (nd), .slice a1 xs.length c1, .slice o1 out.length d1] 241 :: vc 146 (.slice a1 xs.length c1) (xs) :: vc 108 (.slice o1 out.length d1) (out) :: blk b3 [I64 ((at_ es (k : Int)).kd), I64 ((at_ es (k : Int)).tm), I64 ((at_ es (k : Int)).u), I64 ((at_ es (k : Int)).v), I64 ((at_ es (k : Int)).w), I64 ((at_ es (k : Int)).lb), I64 ((at_ es (k : Int)).sg)] 108 :: blk b1 [I64 (kd), I64 (wd), I64 (mo)] 31 :: I) B6 (AgeP_two (nd := nd) (T := (at_ es (k : Int)).tm) (xs := xs) (out := out) c36 hI (Classical.not_not.1 c16) ⟨lastT_ge hE om, hto, hfe.tm.2⟩ om))) ?_
      rintro _ _ ⟨_, _, ⟨⟨ad4, cp5, ad6, cp7⟩, ⟨rfl, hag⟩, rfl⟩, rfl, rfl⟩
      show G Tryz.prog κ _ _ _ _ ([(41, .tuple #[]), (40, I64 ((at_ es (k : Int)).tm)), (39, .pointer (some ⟨b3, 1, none⟩)), (38, .agg #[I64 (kd), I64 (wd), I64 (mo)]), (37, .pointer (some ⟨b2, 0, none⟩)), (36, .bool (decide (kd = 2))), (35, I64 (kd)), (34, .pointer (some ⟨b1, 0, none⟩)), (12, .pointer (some ⟨b3, 0, none⟩)), (33, .agg #[I64 ((at_ es (k : Int)).kd), I64 ((at_ es (k : Int)).tm), I64 ((at_ es (k : Int)).u), I64 ((at_ es (k : Int)).v), I64 ((at_ es (k : Int)).w), I64 ((at_ es (k : Int)).lb), I64 ((at_ es (k : Int)).sg)]), (32, elemPtr (va) (((k : Int)).toNat * Enc.sz Ev)), (31, .bool (decide ((k : Int) < ((es.length : Nat) : Int)))), (5, .pointer (some ⟨b1, 0, none⟩)), (10, .pointer (some ⟨b2, 0, none⟩)), (28, va), (29, I64 (((es.length : Nat) : Int))), (30, I64 ((k : Int)))] : Env) (blk b2 [I64 (nd), .slice ad4 ((ageL wd mo ((at_ es (k : Int)).tm) xs out).1).length cp5, .slice ad6 ((ageL wd mo ((at_ es (k : Int)).tm) xs out).2).length cp7] 241 :: vc 146 (.slice ad4 ((ageL wd mo ((at_ es (k : Int)).tm) xs out).1).length cp5) ((ageL wd mo ((at_ es (k : Int)).tm) xs out).1) :: vc 108 (.slice ad6 ((ageL wd mo ((at_ es (k : Int)).tm) xs out).2).length cp7) ((ageL wd mo ((at_ es (k : Int)).tm) xs out).2) :: blk b3 [I64 ((at_ es (k : Int)).kd), I64 ((at_ es (k : Int)).tm), I64 ((at_ es (k : Int)).u), I64 ((at_ es (k : Int)).v), I64 ((at_ es (k : Int)).w), I64 ((at_ es (k : Int)).lb), I64 ((at_ es (k : Int)).sg)] 108 :: blk b1 [I64 (kd), I64 (wd), I64 (mo)] 31 :: I)
      exact Bh (D0 ((ad4), (cp5), (ad6), (cp7), ((ageL wd mo (at_ es (k : Int)).tm xs out).1), ((ageL wd mo (at_ es (k : Int)).tm xs out).2)) (by dsimp only; exact ⟨(by unfold agedL; rw [if_pos c36]), hag.1, hag.2⟩))
     ·exact A4 (D0 ((a1), (c1), (o1), (d1), (xs), (out)) (by dsimp only; exact ⟨(by unfold agedL; rw [if_neg c36]), (hI.later hto (fun h => absurd h c36)), rfl⟩))
    ·rintro ⟨a2, c2, o2, d2, ys, zs⟩ hp
     obtain ⟨hag, hI2, hs2⟩ : ((agedL kd wd mo (at_ es (k : Int)).tm (xs, out)) = (ys, zs)) ∧ (SlI nd kd wd (at_ es (k : Int)).tm ys) ∧ (ys.length + zs.length = xs.length + out.length) := hp
     show W Tryz.prog κ 64 _ _ ([(5, .pointer (some ⟨b1, 0, none⟩)), (10, .pointer (some ⟨b2, 0, none⟩)), (12, .pointer (some ⟨b3, 0, none⟩)), (28, va), (29, I64 (((es.length : Nat) : Int))), (30, I64 ((k : Int)))] : Env) (blk b2 [I64 (nd), .slice a2 ys.length c2, .slice o2 zs.length d2] 241 :: vc 146 (.slice a2 ys.length c2) (ys) :: vc 108 (.slice o2 zs.length d2) (zs) :: blk b3 [I64 ((at_ es (k : Int)).kd), I64 ((at_ es (k : Int)).tm), I64 ((at_ es (k : Int)).u), I64 ((at_ es (k : Int)).v), I64 ((at_ es (k : Int)).w), I64 ((at_ es (k : Int)).lb), I64 ((at_ es (k : Int)).sg)] 108 :: blk b1 [I64 (kd), I64 (wd), I64 (mo)] 31 :: I)
     refine Ah (Gm rfl (Gl7 ty108 ?_))
     refine Ge1 (B5 (α := Ev) (cs := [I64 ((at_ es (k : Int)).kd), I64 ((at_ es (k : Int)).tm), I64 ((at_ es (k : Int)).u), I64 ((at_ es (k : Int)).v), I64 ((at_ es (k : Int)).w), I64 ((at_ es (k : Int)).lb), I64 ((at_ es (k : Int)).sg)]) (xs := [⟨(at_ es (k : Int)).kd, (at_ es (k : Int)).tm, (at_ es (k : Int)).u, (at_ es (k : Int)).v, (at_ es (k : Int)).w, (at_ es (k : Int)).lb, (at_ es (k : Int)).sg⟩]) A6 ty108 rfl rfl dc dc rfl kr rfl rfl) fun ad8 => ?_
     refine G.e (Am call212 rfl rfl (Cm (J := blk b2 [I64 (nd), .slice a2 ys.length c2, .slice o2 zs.length d2] 241 :: vc 146 (.slice a2 ys.length c2) (ys) :: vc 108 (.slice o2 zs.length d2) (zs) :: vc 108 (.slice ad8 1 1) (([⟨(at_ es (k : Int)).kd, (at_ es (k : Int)).tm, (at_ es (k : Int)).u, (at_ es (k : Int)).v, (at_ es (k : Int)).w, (at_ es (k : Int)).lb, (at_ es (k : Int)).sg⟩] : List Ev)) :: blk b3 [I64 ((at_ es (k : Int)).kd), I64 ((at_ es (k : Int)).tm), I64 ((at_ es (k : Int)).u), I64 ((at_ es (k : Int)).v), I64 ((at_ es (k : Int)).w), I64 ((at_ es (k : Int)).lb), I64 ((at_ es (k : Int)).sg)] 108 :: blk b1 [I64 (kd), I64 (wd), I64 (mo)] 31 :: I) B6 (PutP_base (nd := nd) (xs := ys) (out := zs) (es := ([⟨(at_ es (k : Int)).kd, (at_ es (k : Int)).tm, (at_ es (k : Int)).u, (at_ es (k : Int)).v, (at_ es (k : Int)).w, (at_ es (k : Int)).lb, (at_ es (k : Int)).sg⟩] : List Ev)) Bc hI2.val (fitone hfe) (by have h := stepL_len ys (at_ es (k : Int)); have h9 := gone_len kd wd mo (at_ es (k : Int)).tm (stepL ys (at_ es (k : Int))); first | (simp only [List.length_append, List.length_cons, List.length_nil]; omega) | omega) (by have h := stepL_len ys (at_ es (k : Int)); have h9 := gone_len kd wd mo (at_ es (k : Int)).tm (stepL ys (at_ es (k : Int))); first | (simp only [List.length_append, List.length_cons, List.length_nil]; omega) | omega)))) ?_
     rintro _ _ ⟨_, _, ⟨⟨ad9, cp10, ad11, cp12⟩, rfl, rfl⟩, rfl, rfl⟩
     show G Tryz.prog κ _ _ _ _ ([(45, .tuple #[]), (44, .slice ad8 1 1), (43, .agg #[I64 ((at_ es (k : Int)).kd), I64 ((at_ es (k : Int)).tm), I64 ((at_ es (k : Int)).u), I64 ((at_ es (k : Int)).v), I64 ((at_ es (k : Int)).w), I64 ((at_ es (k : Int)).lb), I64 ((at_ es (k : Int)).sg)]), (42, .pointer (some ⟨b2, 0, none⟩)), (5, .pointer (some ⟨b1, 0, none⟩)), (10, .pointer (some ⟨b2, 0, none⟩)), (12, .pointer (some ⟨b3, 0, none⟩)), (28, va), (29, I64 (((es.length : Nat) : Int))), (30, I64 ((k : Int)))] : Env) (blk b2 [I64 (nd), .slice ad9 (List.foldl stepL ys ([⟨(at_ es (k : Int)).kd, (at_ es (k : Int)).tm, (at_ es (k : Int)).u, (at_ es (k : Int)).v, (at_ es (k : Int)).w, (at_ es (k : Int)).lb, (at_ es (k : Int)).sg⟩] : List Ev)).length cp10, .slice ad11 (zs ++ ([⟨(at_ es (k : Int)).kd, (at_ es (k : Int)).tm, (at_ es (k : Int)).u, (at_ es (k : Int)).v, (at_ es (k : Int)).w, (at_ es (k : Int)).lb, (at_ es (k : Int)).sg⟩] : List Ev)).length cp12] 241 :: vc 146 (.slice ad9 (List.foldl stepL ys ([⟨(at_ es (k : Int)).kd, (at_ es (k : Int)).tm, (at_ es (k : Int)).u, (at_ es (k : Int)).v, (at_ es (k : Int)).w, (at_ es (k : Int)).lb, (at_ es (k : Int)).sg⟩] : List Ev)).length cp10) (List.foldl stepL ys ([⟨(at_ es (k : Int)).kd, (at_ es (k : Int)).tm, (at_ es (k : Int)).u, (at_ es (k : Int)).v, (at_ es (k : Int)).w, (at_ es (k : Int)).lb, (at_ es (k : Int)).sg⟩] : List Ev)) :: vc 108 (.slice ad11 (zs ++ ([⟨(at_ es (k : Int)).kd, (at_ es (k : Int)).tm, (at_ es (k : Int)).u, (at_ es (k : Int)).v, (at_ es (k : Int)).w, (at_ es (k : Int)).lb, (at_ es (k : Int)).sg⟩] : List Ev)).length cp12) (zs ++ ([⟨(at_ es (k : Int)).kd, (at_ es (k : Int)).tm, (at_ es (k : Int)).u, (at_ es (k : Int)).v, (at_ es (k : Int)).w, (at_ es (k : Int)).lb, (at_ es (k : Int)).sg⟩] : List Ev)) :: vc 108 (.slice ad8 1 1) (([⟨(at_ es (k : Int)).kd, (at_ es (k : Int)).tm, (at_ es (k : Int)).u, (at_ es (k : Int)).v, (at_ es (k : Int)).w, (at_ es (k : Int)).lb, (at_ es (k : Int)).sg⟩] : List Ev)) :: blk b3 [I64 ((at_ es (k : Int)).kd), I64 ((at_ es (k : Int)).tm), I64 ((at_ es (k : Int)).u), I64 ((at_ es (k : Int)).v), I64 ((at_ es (k : Int)).w), I64 ((at_ es (k : Int)).lb), I64 ((at_ es (k : Int)).sg)] 108 :: blk b1 [I64 (kd), I64 (wd), I64 (mo)] 31 :: I)
     show G Tryz.prog κ _ _ _ _ ([(45, .tuple #[]), (44, .slice ad8 1 1), (43, .agg #[I64 ((at_ es (k : Int)).kd), I64 ((at_ es (k : Int)).tm), I64 ((at_ es (k : Int)).u), I64 ((at_ es (k : Int)).v), I64 ((at_ es (k : Int)).w), I64 ((at_ es (k : Int)).lb), I64 ((at_ es (k : Int)).sg)]), (42, .pointer (some ⟨b2, 0, none⟩)), (5, .pointer (some ⟨b1, 0, none⟩)), (10, .pointer (some ⟨b2, 0, none⟩)), (12, .pointer (some ⟨b3, 0, none⟩)), (28, va), (29, I64 (((es.length : Nat) : Int))), (30, I64 ((k : Int)))] : Env) (blk b2 [I64 (nd), .slice ad9 (stepL ys (at_ es (k : Int))).length cp10, .slice ad11 (zs ++ [(at_ es (k : Int))]).length cp12] 241 :: vc 146 (.slice ad9 (stepL ys (at_ es (k : Int))).length cp10) (stepL ys (at_ es (k : Int))) :: vc 108 (.slice ad11 (zs ++ [(at_ es (k : Int))]).length cp12) (zs ++ [(at_ es (k : Int))]) :: vc 108 (.slice ad8 1 1) (([⟨(at_ es (k : Int)).kd, (at_ es (k : Int)).tm, (at_ es (k : Int)).u, (at_ es (k : Int)).v, (at_ es (k : Int)).w, (at_ es (k : Int)).lb, (at_ es (k : Int)).sg⟩] : List Ev)) :: blk b3 [I64 ((at_ es (k : Int)).kd), I64 ((at_ es (k : Int)).tm), I64 ((at_ es (k : Int)).u), I64 ((at_ es (k : Int)).v), I64 ((at_ es (k : Int)).w), I64 ((at_ es (k : Int)).lb), I64 ((at_ es (k : Int)).sg)] 108 :: blk b1 [I64 (kd), I64 (wd), I64 (mo)] 31 :: I)
     refine Af (Ah (Gf fld31_0 rfl (Gl ty3 ?_)))
     refine Gr (Bb rfl rfl) ?_
     have hI3 : SlI nd kd wd (at_ es (k : Int)).tm (stepL ys (at_ es (k : Int))) := hI2.step hfe rfl (checkW_one (Classical.not_not.1 c16))
     refine Af (A7 rfl (fun c48 => ?_) (fun c48 => ?_))
     ·refine Bk mixed (Bp (blk b3 [I64 ((at_ es (k : Int)).kd), I64 ((at_ es (k : Int)).tm), I64 ((at_ es (k : Int)).u), I64 ((at_ es (k : Int)).v), I64 ((at_ es (k : Int)).w), I64 ((at_ es (k : Int)).lb), I64 ((at_ es (k : Int)).sg)] 108 :: blk b1 [I64 (kd), I64 (wd), I64 (mo)] 31 :: I) 10 (Dr 0 rfl (Ad rfl) (Dr 1 rfl (Ad rfl) (Dr 2 rfl (Bg rfl) (Dr 3 rfl (Ac fld241_0 rfl) (Dr 5 rfl (Bm (vs := [_, _, _]) ty31) ?_))))))
      refine Dr 6 rfl (Ac fld108_1 rfl) (Dr 7 rfl (Au ty3) ?_)
      refine Ds1 4 (Sr rfl (Bm (vs := [_, _]) ty111) A2 ?_)
      refine Ds1 8 (Sc2 rfl (Am call213 rfl rfl (GoneP_ok (nd := nd) Bc (by have h := stepL_len ys (at_ es (k : Int)); show (stepL ys (at_ es (k : Int))).length ≤ 1000000; omega) (hI3.ask (Classical.not_not.1 c16) hfe.tm (Int.le_refl _)))) fun ad13 cp14 => ?_)
      refine Ds1 9 (Se rfl (Am call212 rfl rfl (Cm (J := blk b2 [I64 (nd), .slice ad9 (stepL ys (at_ es (k : Int))).length cp10, .slice ad11 (zs ++ [(at_ es (k : Int))]).length cp12] 241 :: vc 146 (.slice ad9 (stepL ys (at_ es (k : Int))).length cp10) (stepL ys (at_ es (k : Int))) :: vc 108 (.slice ad11 (zs ++ [(at_ es (k : Int))]).length cp12) (zs ++ [(at_ es (k : Int))]) :: vc 108 (.slice ad13 (goneL kd wd mo ((at_ es (k : Int)).tm) (stepL ys (at_ es (k : Int)))).length cp14) (goneL kd wd mo ((at_ es (k : Int)).tm) (stepL ys (at_ es (k : Int)))) :: vc 108 (.slice ad8 1 1) (([⟨(at_ es (k : Int)).kd, (at_ es (k : Int)).tm, (at_ es (k : Int)).u, (at_ es (k : Int)).v, (at_ es (k : Int)).w, (at_ es (k : Int)).lb, (at_ es (k : Int)).sg⟩] : List Ev)) :: blk b3 [I64 ((at_ es (k : Int)).kd), I64 ((at_ es (k : Int)).tm), I64 ((at_ es (k : Int)).u), I64 ((at_ es (k : Int)).v), I64 ((at_ es (k : Int)).w), I64 ((at_ es (k : Int)).lb), I64 ((at_ es (k : Int)).sg)] 108 :: blk b1 [I64 (kd), I64 (wd), I64 (mo)] 31 :: I) B6 (PutP_base (nd := nd) (xs := stepL ys (at_ es (k : Int))) (out := zs ++ [(at_ es (k : Int))]) (es := goneL kd wd mo ((at_ es (k : Int)).tm) (stepL ys (at_ es (k : Int)))) Bc hI3.val (fitgone hI3.val hfe.tm) (by have h := stepL_len ys (at_ es (k : Int)); have h9 := gone_len kd wd mo (at_ es (k : Int)).tm (stepL ys (at_ es (k : Int))); first | (simp only [List.length_append, List.length_cons, List.length_nil]; omega) | omega) (by have h := stepL_len ys (at_ es (k : Int)); have h9 := gone_len kd wd mo (at_ es (k : Int)).tm (stepL ys (at_ es (k : Int))); first | (simp only [List.length_append, List.length_cons, List.length_nil]; omega) | omega)))) ?_)
      rintro _ _ ⟨_, _, ⟨⟨ad15, cp16, ad17, cp18⟩, rfl, rfl⟩, rfl, rfl⟩
      refine ⟨A2, ?_⟩
      show D Tryz.prog κ _ _ _ _ _ _ _ ([(58, .tuple #[]), (57, .slice ad13 (goneL kd wd mo ((at_ es (k : Int)).tm) (stepL ys (at_ es (k : Int)))).length cp14), (53, .agg #[I64 (nd), .slice ad9 (stepL ys (at_ es (k : Int))).length cp10]), (56, I64 ((at_ es (k : Int)).tm)), (55, .pointer (some ⟨b3, 1, none⟩)), (54, .agg #[I64 (kd), I64 (wd), I64 (mo)]), (52, .pointer (some ⟨b2, 0, none⟩)), (51, .pointer (some ⟨b2, 0, none⟩)), (50, .pointer (some ⟨b2, 0, none⟩)), (49, .pointer (some ⟨b2, 0, none⟩)), (48, .bool (decide (kd = 3))), (47, I64 (kd)), (46, .pointer (some ⟨b1, 0, none⟩)), (45, .tuple #[]), (44, .slice ad8 1 1), (43, .agg #[I64 ((at_ es (k : Int)).kd), I64 ((at_ es (k : Int)).tm), I64 ((at_ es (k : Int)).u), I64 ((at_ es (k : Int)).v), I64 ((at_ es (k : Int)).w), I64 ((at_ es (k : Int)).lb), I64 ((at_ es (k : Int)).sg)]), (42, .pointer (some ⟨b2, 0, none⟩)), (5, .pointer (some ⟨b1, 0, none⟩)), (10, .pointer (some ⟨b2, 0, none⟩)), (12, .pointer (some ⟨b3, 0, none⟩)), (28, va), (29, I64 (((es.length : Nat) : Int))), (30, I64 ((k : Int)))] : Env) (blk b2 [I64 (nd), .slice ad15 (List.foldl stepL (stepL ys (at_ es (k : Int))) (goneL kd wd mo ((at_ es (k : Int)).tm) (stepL ys (at_ es (k : Int))))).length cp16, .slice ad17 ((zs ++ [(at_ es (k : Int))]) ++ (goneL kd wd mo ((at_ es (k : Int)).tm) (stepL ys (at_ es (k : Int))))).length cp18] 241 :: vc 146 (.slice ad15 (List.foldl stepL (stepL ys (at_ es (k : Int))) (goneL kd wd mo ((at_ es (k : Int)).tm) (stepL ys (at_ es (k : Int))))).length cp16) (List.foldl stepL (stepL ys (at_ es (k : Int))) (goneL kd wd mo ((at_ es (k : Int)).tm) (stepL ys (at_ es (k : Int))))) :: vc 108 (.slice ad17 ((zs ++ [(at_ es (k : Int))]) ++ (goneL kd wd mo ((at_ es (k : Int)).tm) (stepL ys (at_ es (k : Int))))).length cp18) ((zs ++ [(at_ es (k : Int))]) ++ (goneL kd wd mo ((at_ es (k : Int)).tm) (stepL ys (at_ es (k : Int))))) :: vc 108 (.slice ad13 (goneL kd wd mo ((at_ es (k : Int)).tm) (stepL ys (at_ es (k : Int)))).length cp14) (goneL kd wd mo ((at_ es (k : Int)).tm) (stepL ys (at_ es (k : Int)))) :: vc 108 (.slice ad8 1 1) (([⟨(at_ es (k : Int)).kd, (at_ es (k : Int)).tm, (at_ es (k : Int)).u, (at_ es (k : Int)).v, (at_ es (k : Int)).w, (at_ es (k : Int)).lb, (at_ es (k : Int)).sg⟩] : List Ev)) :: blk b3 [I64 ((at_ es (k : Int)).kd), I64 ((at_ es (k : Int)).tm), I64 ((at_ es (k : Int)).u), I64 ((at_ es (k : Int)).v), I64 ((at_ es (k : Int)).w), I64 ((at_ es (k : Int)).lb), I64 ((at_ es (k : Int)).sg)] 108 :: blk b1 [I64 (kd), I64 (wd), I64 (mo)] 31 :: I)
      refine Dz (Ai (Aj (Ap (S5 5 10 28 29 30 rfl rfl rfl rfl rfl) (Av (Gr (Rad rfl rfl) (Gm rfl (Bh ?_)))))))
      have hgs := gone_steps (kd := kd) (wd := wd) (mo := mo) (nw := (at_ es (k : Int)).tm) hI3.val
      have hgl := gone_len kd wd mo (at_ es (k : Int)).tm (stepL ys (at_ es (k : Int)))
      have hsl := stepL_len ys (at_ es (k : Int))
      exact B3 ((k + 1), (ad15), (cp16), (ad17), (cp18), (List.filter (inW kd wd mo (at_ es (k : Int)).tm (stepL ys (at_ es (k : Int)))) (stepL ys (at_ es (k : Int)))), (zs ++ [(at_ es (k : Int))] ++ goneL kd wd mo (at_ es (k : Int)).tm (stepL ys (at_ es (k : Int))))) (by dsimp only; exact ⟨om, (by rw [slideS_succ om, hst]; exact evStep_three hag c48), (by rw [lastT_succ]; exact hI3.filter _), lap⟩) (hI := by (try dsimp only); exact (by rw [← hgs]; exact A2))
     ·refine A4 (Ai (Aj (Av (Gr (Rad rfl rfl) (Gm rfl (Bh ?_))))))
      have hsl := stepL_len ys (at_ es (k : Int))
      exact B3 ((k + 1), (ad9), (cp10), (ad11), (cp12), ((stepL ys (at_ es (k : Int)))), (zs ++ [(at_ es (k : Int))])) (by dsimp only; exact ⟨om, (by rw [slideS_succ om, hst]; exact evStep_not hag c48), (by rw [lastT_succ]; exact hI3), lap⟩)
   ·refine Bt (Ao (Ao (A5 (Aj (Ah (Gm rfl (Gr (Bg rfl) (Gf fld241_1 rfl (Gl ty28 ?_)))))))))
    refine Ga rfl (Ga rfl (Af (Ay ?_)))
    have hE2 : (slideS kd wd mo es) = (xs, out) := by rw [← hst, show List.take k es = es from List.take_of_length_le om]
    have hz : (slideE nd kd wd mo es) = 0 := (slideE_st c16).trans (Classical.not_not.1 c22)
    exact Cu rfl rfl rfl (vc 108 (.slice o1 (slideS kd wd mo es).2.length d1) (slideS kd wd mo es).2 :: I) (by rw [hE2]; exact A2) (.inr ⟨o1, d1, hz, by rw [hE2], rfl⟩)
theorem eqt135 : EqT Tryz.prog 135 Pt := EqT.flat (fun p : Pt => [p.u, p.v]) (fun _ => rfl) (fun x y h => by cases x; cases y; simpa using h) (n := 2) (fun _ => rfl) kr kr kr kr kr
theorem CheckGen_ok {κ : Ctx} {I : List Item} {nd : Int} {v : Value} {es : List Pt} (hl : Sl κ I v es) :
    CallS Tryz.prog κ 83 [.agg #[I64 (nd), v]] I (fun r J => r = I64 (checkG nd es) ∧ I = J) := by
 refine B2 hl.le fun hmax => ?_
 refine Ce1 Tryz.func83 rfl rfl ?_
 refine Ah (Ge1 (Be (cs := [_, _]) rfl rfl rfl) fun b1 => Ga rfl (Af (As (Ah (Gf fld48_0 rfl (Gl ty3 ?_))))))
 refine Gr (A8 rfl rfl) (Gm rfl (Bd (d := 8) rfl (fun g8 => ?_) (fun g8 => ?_)))
 ·exact Gpo (Gpo (Gpo (Gr (Al rfl rfl) (Af (Cn rfl (Ah (Ga rfl (Af (Ay (Ak (A1 rfl rfl (I) Ax ⟨by rw [show checkG nd es = 1 from (by unfold checkG; rw [if_pos om])], rfl⟩)))))))))))
 ·refine Gro (Ac fld48_0 rfl) (Gro (Au ty3) ?_)
  refine Gro (B7 rfl rfl) (Gr (Aq rfl rfl) (Af (A7 rfl (fun c12 => ?_) (fun c12 => ?_))))
  ·exact Ah (Ga rfl (Af (Ay (Ak (A1 rfl rfl (I) Ax ⟨by rw [show checkG nd es = 1 from (by unfold checkG; rw [if_pos om])], rfl⟩)))))
  ·refine A4 (Aj (As (Ah (Gf fld48_1 rfl (Gl ty46 ?_)))))
   refine Gr (B0 (α := Pt) (xs := es) Bo rfl (Bi hl)) (Gm rfl (Af (Ap (S4 16 15 14 1 rfl rfl rfl rfl) (A3 (Bx (σ := Nat) (fun s => ([(1, .pointer (some ⟨b1, 0, none⟩)), (14, v), (15, I64 (((es.length : Nat) : Int))), (16, I64 (((s : Nat) : Int)))] : Env)) (fun s => blk b1 [I64 (nd), v] 48 :: I) (fun s => (s ≤ es.length) ∧ (checkG nd es = scanL (badE nd) Pt.lt (prevAt es s) (es.drop s))) (fun s => es.length - s) (0) (show ((0 : Nat) ≤ es.length) ∧ (checkG nd es = scanL (badE nd) Pt.lt (prevAt es (0 : Nat)) (es.drop (0 : Nat))) from ⟨om, (by unfold checkG; rw [if_neg om]; rfl)⟩) (Aa rfl (Aa rfl (Aa rfl (Aa Ci Bj)))) (show Fit κ _ (blk b1 [I64 (nd), v] 48 :: I) from A2) ?_)))))
   rintro k hp
   obtain ⟨hk, hs⟩ := hp
   refine Ah (Gr (A8 rfl rfl) (Af (As (A7 rfl (fun c17 => ?_) (fun c17 => ?_)))))
   ·refine A4 (Aj (As (A3 (Ah (Gm rfl (Gr (A0 (α := Pt) (xs := es) Bo ty135 rfl rfl (Bi hl) om om) (Gr (Bs (α := Pt) (xs := es) ty135 rfl (Bi hl) om om) (Ge1 (Ba ty135 rfl) fun b2 => Ga rfl (Ge0 (Co ty135) ?_)))))))))
    refine Af (A3 (Ah (Gf fld135_0 rfl (Gl ty3 ?_))))
    refine Gr (A8 rfl rfl) (Gm rfl (Bd (d := 25) rfl (fun g25 => ?_) (fun g25 => ?_)))
    ·exact Gpo (Gpo (Gpo (Gpo (Gpo (Gr (Al rfl rfl) (Gm rfl (Gpo (Gpo (Gpo (Gpo (Gpo (Gr (Al rfl rfl) (Ga rfl (Af (Ap (S7 21 3 4 1 14 15 16 rfl rfl rfl rfl rfl rfl rfl) (Cn rfl (Ah (Ga rfl (Af (Ay (Ar (Ar (Ak (Ak (Ar (Ak (A1 rfl rfl (I) Ax ⟨by rw [show checkG nd es = 6 from (hs.trans ((Dc om (by unfold badE; rw [if_pos om]; decide)).trans (by unfold badE; rw [if_pos om])))], rfl⟩)))))))))))))))))))))))))))
    ·refine Gro (Ac fld135_0 rfl) (Gro (Au ty3) ?_)
     refine Gro (Ac fld135_1 rfl) (Gro (Au ty3) ?_)
     refine Gro (Cd rfl rfl) (Gr (Aq rfl rfl) (Gm rfl (Bd (d := 32) rfl (fun g32 => ?_) (fun g32 => ?_))))
     ·exact Gpo (Gpo (Gpo (Gpo (Gpo (Gr (Al rfl rfl) (Ga rfl (Af (Ap (S7 21 3 4 1 14 15 16 rfl rfl rfl rfl rfl rfl rfl) (Cn rfl (Ah (Ga rfl (Af (Ay (Ar (Ar (Ak (Ak (Ar (Ak (A1 rfl rfl (I) Ax ⟨by rw [show checkG nd es = 6 from (hs.trans ((Dc om (by unfold badE; rw [if_pos om]; decide)).trans (by unfold badE; rw [if_pos om])))], rfl⟩))))))))))))))))))))
     ·refine Gro (Ac fld135_1 rfl) (Gro (Au ty3) ?_)
      refine Gro (Ac fld48_0 rfl) (Gro (Au ty3) ?_)
      refine Gro (Cd rfl rfl) (Gr (Aq rfl rfl) (Ga rfl (Af (Ap (S7 21 3 4 1 14 15 16 rfl rfl rfl rfl rfl rfl rfl) (A7 rfl (fun c21 => ?_) (fun c21 => ?_))))))
      ·exact Ah (Ga rfl (Af (Ay (Ar (Ar (Ak (Ak (Ar (Ak (A1 rfl rfl (I) Ax ⟨by rw [show checkG nd es = 6 from (hs.trans ((Dc om (by unfold badE; rw [if_pos om]; decide)).trans (by unfold badE; rw [if_pos om])))], rfl⟩))))))))))
      ·refine As (Bk mixed (Bp (blk b2 [I64 ((at_ es (k : Int)).u), I64 ((at_ es (k : Int)).v)] 135 :: blk b1 [I64 (nd), v] 48 :: I) 14 (Dr 0 rfl (Ad rfl) (Dr 1 rfl (B7 rfl rfl) (Dr 2 rfl (Ad rfl) (Do (d := 42) rfl (fun g42 => ?_) (fun g42 => ?_)))))))
       ·refine Dro 3 rfl (Ac fld48_1 rfl) (Dro 4 rfl (Au ty46) ?_)
        refine Dro 5 rfl (Ad rfl) (Dro 6 rfl (Rsu rfl rfl) (Dro 7 rfl (A0 (α := Pt) (xs := es) Bo ty135 rfl rfl (Bi hl) om om) (Dro 8 rfl (Bs (α := Pt) (xs := es) ty135 rfl (Bi hl) om om) (Dro 9 rfl (Bm (vs := [_, _]) ty135) ?_))))
        refine Ds1 10 (Se rfl (Am call154 rfl rfl (Order_ok (at_ es ((k : Int) - 1)) (at_ es (k : Int)))) ?_)
        rintro _ _ ⟨_, _, ⟨rfl, rfl⟩, rfl, rfl⟩
        refine ⟨Ax, ?_⟩
        refine Dro 11 rfl (Cd rfl rfl) (Dr 12 rfl (Al rfl rfl) (Dr 13 rfl (A9 rfl) (Dz (Aj (Ap (S5 39 1 14 15 16 rfl rfl rfl rfl rfl) (A7 rfl (fun c39 => ?_) (fun c39 => ?_)))))))
        ·exact Ah (Ga rfl (Af (Ay (Ar (Ar (Ak (Ak (Ar (Ak (A1 rfl rfl (I) Ax ⟨by rw [show checkG nd es = 5 from (hs.trans (scanL_order om (badE_zero.2 om) om (fun h => by have := (Pt.cmp_lt _ _).2 h; omega)))], rfl⟩))))))))))
        ·exact A4 (Ai (Ai (Aj (Av (Gr (Rad rfl rfl) (Gm rfl (Bh (B3 ((k + 1)) ⟨om, (hs.trans (Et om (badE_zero.2 om) (fun h0 => by first | omega | exact (Pt.cmp_lt _ _).1 om)))⟩))))))))
       ·exact Dpo 3 rfl (Dpo 4 rfl (Dpo 5 rfl (Dpo 6 rfl (Dpo 7 rfl (Dpo 8 rfl (Dpo 9 rfl (Dpo 10 rfl (Dpo 11 rfl (Dr 12 rfl (Aq rfl rfl) (Dr 13 rfl (A9 rfl) (Dz (Aj (Ap (S5 39 1 14 15 16 rfl rfl rfl rfl rfl) (Dj rfl (A4 (Ai (Ai (Aj (Av (Gr (Rad rfl rfl) (Gm rfl (Bh (B3 ((k + 1)) ⟨om, (hs.trans (Et om (badE_zero.2 om) (fun h0 => by first | omega | exact (Pt.cmp_lt _ _).1 om)))⟩)))))))))))))))))))))))
   ·exact Bt (Ao (Ao (A5 (Aj (Ah (Ga rfl (Af (Ay (A1 rfl rfl (I) Ax ⟨by rw [show checkG nd es = 0 from (hs.trans (scanL_end om))], rfl⟩)))))))))
variable {κ : Ctx} {I : List Item}
def bitB (v : Int) : BitVec 64 := if v < 0 ∨ 64 ≤ v then 0#64 else 1#64 <<< v.toNat
def maskB (l : List Int) : BitVec 64 := l.foldl (fun m v => m ||| bitB v) 0#64
def allB (n : Int) : BitVec 64 := if n ≤ 0 then 0#64 else if 64 ≤ n then 18446744073709551615#64 else (1#64 <<< n.toNat) - 1#64
theorem maskB_take {l : List Int} {k : Nat} (h : k < l.length) : maskB (l.take (k + 1)) = maskB (l.take k) ||| bitB (at_ l (k : Int)) := by
 unfold maskB; rw [Cx l k h, List.foldl_append]; rfl
def ones1 (m : BitVec 64) : BitVec 64 := ((m >>> (1 : Int).toNat) &&& 6148914691236517205#64) + (m &&& 6148914691236517205#64)
def ones2 (m : BitVec 64) : BitVec 64 := ((m >>> (2 : Int).toNat) &&& 3689348814741910323#64) + (m &&& 3689348814741910323#64)
def ones3 (m : BitVec 64) : BitVec 64 := ((m >>> (4 : Int).toNat) + m) &&& 1085102592571150095#64
def ones4 (m : BitVec 64) : BitVec 64 := m + (m >>> (8 : Int).toNat)
def ones5 (m : BitVec 64) : BitVec 64 := m + (m >>> (16 : Int).toNat)
def ones6 (m : BitVec 64) : BitVec 64 := m + (m >>> (32 : Int).toNat)
def onesB (m : BitVec 64) : Int := ((ones6 (ones5 (ones4 (ones3 (ones2 (ones1 m)))))).toNat : Int) % 128
theorem ones_small (m : BitVec 64) : (ones6 (ones5 (ones4 (ones3 m)))).toNat < 9223372036854775808 := by
 have h3 : (ones3 m).toNat ≤ 1085102592571150095 := by unfold ones3; rw [BitVec.toNat_and]; exact Nat.and_le_right
 generalize ones3 m = a at h3
 have h4 : (ones4 a).toNat ≤ a.toNat + a.toNat / 256 := by
  unfold ones4; rw [BitVec.toNat_add, BitVec.toNat_ushiftRight, Nat.shiftRight_eq_div_pow, show 2 ^ (8 : Int).toNat = 256 by decide]; exact Nat.mod_le _ _
 generalize ones4 a = b at h4
 have h5 : (ones5 b).toNat ≤ b.toNat + b.toNat / 65536 := by
  unfold ones5; rw [BitVec.toNat_add, BitVec.toNat_ushiftRight, Nat.shiftRight_eq_div_pow, show 2 ^ (16 : Int).toNat = 65536 by decide]; exact Nat.mod_le _ _
 generalize ones5 b = c at h5
 have h6 : (ones6 c).toNat ≤ c.toNat + c.toNat / 4294967296 := by
  unfold ones6; rw [BitVec.toNat_add, BitVec.toNat_ushiftRight, Nat.shiftRight_eq_div_pow, show 2 ^ (32 : Int).toNat = 4294967296 by decide]; exact Nat.mod_le _ _
 omega
theorem Bit_ok (v : Int) :
    CallS Tryz.prog κ 237 [I64 (v)] I (fun r J => r = U64 (bitB v) ∧ I = J) := by
 refine Ce1 Tryz.func237 rfl rfl ?_
 refine Ah (Ga rfl (Af (As (Ah (Gm rfl (Gr (A8 rfl rfl) (Gm rfl (Bd (d := 5) rfl (fun g5 => ?_) (fun g5 => ?_)))))))))
 ·exact Gpo (Gpo (Gr (Al rfl rfl) (Af (Cn rfl (Ah (Ga rfl (Af (Ay (Ak (A1 rfl rfl (I) Ax ⟨by unfold bitB; rw [if_pos om]; rfl, rfl⟩))))))))))
 ·refine Gro (Ad rfl) (Gro (Cd rfl rfl) (Gr (Aq rfl rfl) (Af (A7 rfl (fun c8 => ?_) (fun c8 => ?_)))))
  ·exact Ah (Ga rfl (Af (Ay (Ak (A1 rfl rfl (I) Ax ⟨by unfold bitB; rw [if_pos om]; rfl, rfl⟩)))))
  ·exact A4 (Aj (Ah (Gm rfl (Gr (Runs.shlB (a := 1#64) rfl rfl om om) (Ga rfl (Af (Ay (A1 rfl rfl (I) Ax ⟨by unfold bitB; rw [if_neg om], rfl⟩))))))))
theorem MaskOf_ok {v : Value} {l : List Int} (hl : Sl κ I v l) :
    CallS Tryz.prog κ 199 [v] I (fun r J => r = U64 (maskB l) ∧ I = J) := by
 refine B2 hl.le fun hmax => ?_
 refine Ce1 Tryz.func199 rfl rfl ?_
 refine Ah (Ga rfl (Af (Ah (Ga rfl (Af (As (Ah (Gm rfl (Gr (B0 (α := Int) (xs := l) Ab rfl (Bi hl)) (Gm rfl (Af (A3 (Bx (σ := Nat × (BitVec 64)) (fun s => ([(3, U64 (s.2)), (6, v), (7, I64 (((l.length : Nat) : Int))), (8, I64 (((s.1 : Nat) : Int)))] : Env)) (fun s => I) (fun s => (s.1 ≤ l.length) ∧ (s.2 = maskB (l.take s.1))) (fun s => l.length - s.1) (0, 0#64) (show ((0 : Nat) ≤ l.length) ∧ ((0#64 : BitVec 64) = maskB (l.take (0 : Nat))) from ⟨om, rfl⟩) (Aa (Cy rfl (by first | rfl | simp)) (Aa rfl (Aa rfl (Aa Ci Bj)))) (show Fit κ _ (I) from A2) ?_)))))))))))))
 rintro ⟨k, m⟩ hp
 dsimp only at hp ⊢
 obtain ⟨hk, hm⟩ := hp
 refine Ah (Gr (A8 rfl rfl) (Af (As (A7 rfl (fun c9 => ?_) (fun c9 => ?_)))))
 ·refine A4 (Aj (As (A3 (Ah (Gr (A0 (α := Int) (xs := l) Ab ty3 rfl rfl (Bi hl) om om) (Gr (Br (xs := l) ty3 rfl (Bi hl) om om) (Ga rfl (Af (Av (Gm rfl (Gm rfl (G.e (Am call237 rfl rfl (Bit_ok (at_ l (k : Int)))) ?_))))))))))))
  rintro _ _ ⟨_, _, ⟨rfl, rfl⟩, rfl, rfl⟩
  exact Gr (Eq (a := m) (b := bitB (at_ l (k : Int))) rfl rfl) (Ga rfl (Bh (Ai (Aj (Av (Gr (Rad rfl rfl) (Gm rfl (Bh (B3 ((k + 1), (m ||| (bitB (at_ l (k : Int))))) (by dsimp only; exact ⟨om, (by rw [maskB_take om, ← hm])⟩))))))))))
 ·refine Bt (Ao (Ao (A5 (Aj (Ah (Gm rfl (Ga rfl (Af (Ay ?_)))))))))
  rw [List.take_of_length_le om] at hm
  exact A1 rfl rfl (I) Ax ⟨by rw [hm], rfl⟩
theorem MaskAll_ok (n : Int) :
    CallS Tryz.prog κ 200 [I64 (n)] I (fun r J => r = U64 (allB n) ∧ I = J) := by
 refine Ce1 Tryz.func200 rfl rfl ?_
 refine Ah (Ga rfl (Af (As (A3 (Ah (Gm rfl (Gr (Dx rfl rfl) (Ga rfl (Af (A7 rfl (fun c3 => ?_) (fun c3 => ?_)))))))))))
 ·exact Ah (Ga rfl (Af (Ay (Ar (Ak (A1 rfl rfl (I) Ax ⟨by unfold allB; rw [if_pos om]; rfl, rfl⟩))))))
 ·refine Ah (Gm rfl (Gr (Cd rfl rfl) (Ga rfl (Af (A7 rfl (fun c6 => ?_) (fun c6 => ?_))))))
  ·exact Ah (Ga rfl (Af (Ay (Ar (Ak (A1 rfl rfl (I) Ax ⟨by unfold allB; rw [if_neg om, if_pos om]; rfl, rfl⟩))))))
  ·exact A4 (Ai (Aj (Ah (Gm rfl (Gr (Runs.shlB (a := 1#64) rfl rfl om om) (Gr (Runs.subB (a := (1#64) <<< (n).toNat) (b := 1#64) rfl rfl) (Ga rfl (Af (Ay (A1 rfl rfl (I) Ax ⟨by unfold allB; rw [if_neg om, if_neg om], rfl⟩))))))))))
theorem OnesCount_ok (m : BitVec 64) :
    CallS Tryz.prog κ 271 [U64 (m)] I (fun r J => r = I64 (onesB m) ∧ I = J) := by
 refine Ce1 Tryz.func271 rfl rfl ?_
 refine Ah (Ga rfl (Af (Ah (Gm rfl (Gr (Ep (a := m) rfl rfl om om) (Gr (Cs (a := m >>> (1 : Int).toNat) (b := 6148914691236517205#64) rfl rfl) (Gm rfl (Gr (Cs (a := m) (b := 6148914691236517205#64) rfl rfl) (Gr (Runs.addB (a := (m >>> (1 : Int).toNat) &&& (6148914691236517205#64)) (b := m &&& (6148914691236517205#64)) rfl rfl) (Ga rfl ?_))))))))))
 generalize hm1 : ((m >>> (1 : Int).toNat) &&& (6148914691236517205#64)) + (m &&& (6148914691236517205#64)) = m1
 refine Af (Ah (Gm rfl (Gr (Ep (a := m1) rfl rfl om om) (Gr (Cs (a := m1 >>> (2 : Int).toNat) (b := 3689348814741910323#64) rfl rfl) (Gm rfl (Gr (Cs (a := m1) (b := 3689348814741910323#64) rfl rfl) (Gr (Runs.addB (a := (m1 >>> (2 : Int).toNat) &&& (3689348814741910323#64)) (b := m1 &&& (3689348814741910323#64)) rfl rfl) (Ga rfl ?_))))))))
 generalize hm2 : ((m1 >>> (2 : Int).toNat) &&& (3689348814741910323#64)) + (m1 &&& (3689348814741910323#64)) = m2
 refine Af (Ap (S1 0 rfl) (Ah (Gm rfl (Gr (Ep (a := m2) rfl rfl om om) (Gm rfl (Gr (Runs.addB (a := m2 >>> (4 : Int).toNat) (b := m2) rfl rfl) (Gr (Cs (a := (m2 >>> (4 : Int).toNat) + m2) (b := 1085102592571150095#64) rfl rfl) (Ga rfl ?_))))))))
 generalize hm3 : ((m2 >>> (4 : Int).toNat) + m2) &&& (1085102592571150095#64) = m3
 refine Af (Ah (Gm rfl (Gm rfl (Gr (Ep (a := m3) rfl rfl om om) (Gr (Runs.addB (a := m3) (b := m3 >>> (8 : Int).toNat) rfl rfl) (Ga rfl ?_))))))
 generalize hm4 : m3 + (m3 >>> (8 : Int).toNat) = m4
 refine Af (Ah (Gm rfl (Gm rfl (Gr (Ep (a := m4) rfl rfl om om) (Gr (Runs.addB (a := m4) (b := m4 >>> (16 : Int).toNat) rfl rfl) (Ga rfl ?_))))))
 generalize hm5 : m4 + (m4 >>> (16 : Int).toNat) = m5
 refine Af (Ap (S1 0 rfl) (Ah (Gm rfl (Gm rfl (Gr (Ep (a := m5) rfl rfl om om) (Gr (Runs.addB (a := m5) (b := m5 >>> (32 : Int).toNat) rfl rfl) (Ga rfl ?_)))))))
 generalize hm6 : m5 + (m5 >>> (32 : Int).toNat) = m6
 exact Af (Ah (Gm rfl (Gr (Runs.toI Da Bu rfl (by subst hm6 hm5 hm4 hm3; exact ones_small _)) (Gr (Runs.and127 rfl rfl om) (Ga rfl (Af (Ay (A1 rfl rfl (I) Ax ⟨by subst hm6 hm5 hm4 hm3 hm2 hm1; rfl, rfl⟩))))))))
theorem MCount_ok (m : BitVec 64) :
    CallS Tryz.prog κ 219 [U64 (m)] I (fun r J => r = I64 (onesB m) ∧ I = J) := by
 refine Ce1 Tryz.func219 rfl rfl ?_
 refine Ah (Ga rfl (Af (Ah (Gm rfl (Gc0 (Am call271 rfl rfl (OnesCount_ok m)) ?_)))))
 exact Ga rfl (Af (Ay (A1 rfl rfl (I) Ax ⟨rfl, rfl⟩)))
variable {κ : Ctx} {I : List Item}
theorem bitB_two {v : Int} (h0 : 0 ≤ v) (h1 : v < 64) : bitB v = BitVec.twoPow 64 v.toNat := by
 unfold bitB; rw [if_neg om]; rfl
theorem getLsb_bitB {v : Int} {i : Nat} (hi : i < 64) : (bitB v).getLsbD i = decide (v = (i : Int)) := by
 by_cases h : 0 ≤ v ∧ v < 64
 ·rw [bitB_two h.1 h.2, BitVec.getLsbD_twoPow]
  have e : (v.toNat = i) ↔ (v = (i : Int)) := by omega
  simp [hi, h, e]
 ·unfold bitB
  rw [if_pos om]
  have : ¬ v = (i : Int) := by omega
  simp [this]
theorem getLsb_maskB {i : Nat} (hi : i < 64) : ∀ (l : List Int) (m : BitVec 64), (l.foldl (fun m v => m ||| bitB v) m).getLsbD i = (m.getLsbD i || decide ((i : Int) ∈ l))
 | [], m => by simp
 | v :: l, m => by
  rw [List.foldl_cons, getLsb_maskB hi l, BitVec.getLsbD_or, getLsb_bitB hi]
  by_cases h1 : v = (i : Int)
  ·simp [h1]
  ·have : ¬ (i : Int) = v := fun e => h1 e.symm
   simp [h1, this]
theorem mem_maskB {l : List Int} {v : Int} (h0 : 0 ≤ v) (h1 : v < 64) : (maskB l &&& bitB v ≠ 0#64) ↔ v ∈ l := by
 have hm : (maskB l).getLsbD v.toNat = decide (v ∈ l) := by
  unfold maskB; rw [getLsb_maskB om, show ((v.toNat : Nat) : Int) = v by omega]; simp
 rw [bitB_two h0 h1, BitVec.and_twoPow, hm]
 by_cases h : v ∈ l
 ·simp only [h, decide_true, if_true, iff_true]
  intro e
  have := congrArg (fun b => BitVec.getLsbD b v.toNat) e
  simp only [BitVec.getLsbD_twoPow] at this
  simp at this
  omega
 ·simp [h]
def inE (set : List Int) (e : Pt) : Bool := decide ((maskB set &&& bitB e.u ≠ 0#64) ∧ (maskB set &&& bitB e.v ≠ 0#64))
def insideL (set : List Int) (es : List Pt) : List Pt := es.filter (inE set)
theorem inE_eq {nd : Int} {es : List Pt} {set : List Int} (h : GrOk nd es) {e : Pt} (he : e ∈ es) : inE set e = decide (e.u ∈ set ∧ e.v ∈ set) := by
 have := h.edge e he; have := h.rng
 unfold inE
 rw [decide_eq_decide, mem_maskB om om, mem_maskB om om]
theorem insideL_eq {nd : Int} {es : List Pt} (set : List Int) (h : GrOk nd es) : insideL set es = es.filter fun e => decide (e.u ∈ set ∧ e.v ∈ set) :=
 List.filter_congr fun e he => inE_eq h he
def insideN (nd : Int) (es : List Pt) (set : List Int) : Nat := if checkG nd es ≠ 0 then 0 else (insideL set es).length
theorem insideN_le (nd : Int) (es : List Pt) (set : List Int) : insideN nd es set ≤ es.length := by
 unfold insideN; split
 ·exact Nat.zero_le _
 ·exact List.length_filter_le _ _
theorem WithinG_ok {nd : Int} {va vb : Value} {es : List Pt} {set : List Int} (hl : Sl κ I va es) (hs : Sl κ I vb set) (hb : es.length ≤ 1000000) :
    CallS Tryz.prog κ 275 [.agg #[I64 (nd), va], vb] I (fun r J => ∃ a c, r = .slice a (insideL set es).length c ∧ J = vc 135 (.slice a (insideL set es).length c) (insideL set es) :: I) := by
 refine B2 hl.le fun hmax => ?_
 refine Ce2 Tryz.func275 rfl rfl ?_
 refine Ah (Ge1 (Be (cs := [_, _]) rfl rfl rfl) fun b1 => Ga rfl (Af (Ah (Gm rfl (Gc0 (Am call199 rfl rfl (MaskOf_ok (Bi hs))) ?_)))))
 refine Ga rfl (Af (Ah (Ga rfl (Af (As (Ah (Gf fld48_1 rfl (Gl ty46 ?_))))))))
 refine Gr (B0 (α := Pt) (xs := es) Bo rfl (Bi hl)) (Gm rfl (Af (A3 (Bx (σ := Nat × (Option Addr) × Nat × (List Pt)) (fun s => ([(5, U64 (maskB set)), (6, .slice s.2.1 s.2.2.2.length s.2.2.1), (12, va), (13, I64 (((es.length : Nat) : Int))), (14, I64 (((s.1 : Nat) : Int)))] : Env)) (fun s => vc 135 (.slice s.2.1 s.2.2.2.length s.2.2.1) (s.2.2.2) :: blk b1 [I64 (nd), va] 48 :: I) (fun s => (s.1 ≤ es.length) ∧ (s.2.2.2 = (es.take s.1).filter (inE set))) (fun s => es.length - s.1) (0, none, 0, []) (show ((0 : Nat) ≤ es.length) ∧ (([] : List Pt) = (es.take (0 : Nat)).filter (inE set)) from ⟨om, rfl⟩) (Aa rfl (Aa (Cy rfl (by first | rfl | simp)) (Aa rfl (Aa rfl (Aa Ci Bj))))) (show Fit κ _ (vc 135 (.slice (none) ([]).length (0)) (([])) :: blk b1 [I64 (nd), va] 48 :: I) from (Bv _ _)) ?_))))
 rintro ⟨k, a, c, out⟩ hp
 dsimp only at hp ⊢
 obtain ⟨hk, ho⟩ := hp
 have hol : out.length ≤ es.length := by rw [ho]; refine Nat.le_trans (List.length_filter_le _ _) ?_; simp only [List.length_take]; omega
 refine Ah (Gr (A8 rfl rfl) (Af (As (A7 rfl (fun c15 => ?_) (fun c15 => ?_)))))
 ·refine A4 (Aj (As (A3 (Ah (Gr (A0 (α := Pt) (xs := es) Bo ty135 rfl rfl (Bi hl) om om) (Gr (Bs (α := Pt) (xs := es) ty135 rfl (Bi hl) om om) (Ge1 (Ba ty135 rfl) fun b2 => Ge0 (Co ty135) ?_)))))))
  refine Af (Ah (Gm rfl (Gf fld135_0 rfl (Gl ty3 ?_))))
  refine G.e (Am call237 rfl rfl (Bit_ok ((at_ es (k : Int)).u))) ?_
  rintro _ _ ⟨_, _, ⟨rfl, rfl⟩, rfl, rfl⟩
  refine Gr (Cs (a := maskB set) (b := bitB ((at_ es (k : Int)).u)) rfl rfl) (Gr (Ei (a := (maskB set) &&& (bitB ((at_ es (k : Int)).u))) (b := 0#64) rfl rfl) (Gm rfl (Bd (d := 24) rfl (fun g24 => ?_) (fun g24 => ?_))))
  ·refine Gro (Ad rfl) (Gro (Ac fld135_1 rfl) (Gro (Au ty3) ?_))
   refine Cw (Bz rfl rfl rfl) (Am call237 rfl rfl (Bit_ok ((at_ es (k : Int)).v))) ?_
   rintro _ _ ⟨_, _, ⟨rfl, rfl⟩, rfl, rfl⟩
   refine Gro (Cs (a := maskB set) (b := bitB ((at_ es (k : Int)).v)) rfl rfl) (Gro (Ei (a := (maskB set) &&& (bitB ((at_ es (k : Int)).v))) (b := 0#64) rfl rfl) (Gr (Al rfl rfl) (Af (Ap (S7 31 8 5 6 12 13 14 rfl rfl rfl rfl rfl rfl rfl) (A7 rfl (fun c31 => ?_) (fun c31 => ?_))))))
   ·refine Av (Gm rfl (Gl2 ty135 ?_))
    refine Ge1 (B5 (α := Pt) (cs := [_, _]) (xs := [⟨(at_ es (k : Int)).u, (at_ es (k : Int)).v⟩]) Bo ty135 rfl rfl dc dc rfl rfl rfl rfl) fun ad3 => ?_
    refine Ge2 (Ce (α := Pt) (e := 135) (xs := out) (ys := ([⟨(at_ es (k : Int)).u, (at_ es (k : Int)).v⟩] : List Pt)) Bo ty135 rfl rfl rfl mm Bc lcn dc rfl (fun _ _ => am)) fun ad4 cp5 => ?_
    exact Ga rfl (Bh (Ai (Aj (Av (Gr (Rad rfl rfl) (Gm rfl (Bh (B3 ((k + 1), (ad4), (cp5), (out ++ ([⟨(at_ es (k : Int)).u, (at_ es (k : Int)).v⟩] : List Pt))) (by dsimp only; exact ⟨om, (by first | rw [flt_yes om (decide_eq_true ⟨by assumption, by assumption⟩), ← ho] | rw [flt_no om (decide_eq_false (fun h => by first | exact absurd h.1 asm | exact absurd h.2 asm)), ← ho])⟩)))))))))
   ·exact A4 (Ai (Aj (Av (Gr (Rad rfl rfl) (Gm rfl (Bh (B3 ((k + 1), (a), (c), (out)) (by dsimp only; exact ⟨om, (by first | rw [flt_yes om (decide_eq_true ⟨by assumption, by assumption⟩), ← ho] | rw [flt_no om (decide_eq_false (fun h => by first | exact absurd h.1 asm | exact absurd h.2 asm)), ← ho])⟩))))))))
  ·exact Gpo (Gpo (Gpo (Gpo (Gpo (Gpo (Gr (Aq rfl rfl) (Af (Ap (S7 31 8 5 6 12 13 14 rfl rfl rfl rfl rfl rfl rfl) (Dj rfl (A4 (Ai (Aj (Av (Gr (Rad rfl rfl) (Gm rfl (Bh (B3 ((k + 1), (a), (c), (out)) (by dsimp only; exact ⟨om, (by first | rw [flt_yes om (decide_eq_true ⟨by assumption, by assumption⟩), ← ho] | rw [flt_no om (decide_eq_false (fun h => by first | exact absurd h.1 asm | exact absurd h.2 asm)), ← ho])⟩))))))))))))))))))
 ·refine Bt (Ao (Ao (A5 (Aj (Ah (Gm rfl (Ga rfl (Af (Ay ?_)))))))))
  have hk2 : es.take k = es := List.take_of_length_le om
  rw [hk2] at ho
  have ho2 : out = insideL set es := ho
  subst ho2
  exact A1 rfl rfl (vc 135 (.slice a (insideL set es).length c) (insideL set es) :: I) A2 ⟨a, c, rfl, rfl⟩
theorem InsideG_ok {nd : Int} {va vb : Value} {es : List Pt} {set : List Int} (hl : Sl κ I va es) (hs : Sl κ I vb set) (hb : es.length ≤ 1000000) :
    CallS Tryz.prog κ 221 [.agg #[I64 (nd), va], vb] I (fun r J => r = I64 ((insideN nd es set : Nat) : Int) ∧ I = J) := by
 refine Ce2 Tryz.func221 rfl rfl ?_
 refine Ah (Ge1 (Be (cs := [_, _]) rfl rfl rfl) fun b1 => Ga rfl (Af (As (Ah (Gl2 ty48 ?_)))))
 refine Gc0 (Am call83 rfl rfl (CheckGen_ok (Bi hl))) ?_
 refine Gr (Bw rfl rfl) (Af (A7 rfl (fun c7 => ?_) (fun c7 => ?_)))
 ·exact Ah (Ga rfl (Af (Ay (Ak (A1 rfl rfl (I) Ax ⟨by unfold insideN; rw [if_pos c7]; rfl, rfl⟩)))))
 ·refine A4 (Aj (Ah (Gl2 ty48 ?_)))
  refine Gm rfl (G.e (Am call275 rfl rfl (WithinG_ok (Bi hl) (Bi hs) om)) ?_)
  rintro _ _ ⟨_, _, ⟨ad2, cp3, rfl, rfl⟩, rfl, rfl⟩
  exact Gr (Bl Bo rfl) (Ga rfl (Af (Ay (A1 rfl rfl (I) Ax ⟨by unfold insideN; rw [if_neg c7], rfl⟩))))
variable {κ : Ctx} {I : List Item}
structure Fr where
 num : Int
 den : Int
deriving DecidableEq
instance : Inhabited Fr := ⟨⟨0, 0⟩⟩
instance : Enc Fr := ⟨fun r => [I64 r.num, I64 r.den], 2, by omega, fun _ => rfl, fun r u hu => by
 simp only [List.mem_cons, List.not_mem_nil, or_false] at hu
 rcases hu with rfl | rfl <;> rfl⟩
theorem eqt40 : EqT Tryz.prog 40 Fr := EqT.flat (fun p : Fr => [p.num, p.den]) (fun _ => rfl) (fun x y h => by cases x; cases y; simpa using h) (n := 2) (fun _ => rfl) kr kr kr kr kr
def gcdI (a b : Int) : Int := ((a.toNat.gcd b.toNat : Nat) : Int)
theorem gcdI_step {a b : Int} (h0 : 0 ≤ a) (h1 : 0 < b) : gcdI b (Int.tmod a b) = gcdI a b := by
 unfold gcdI
 rw [Int.tmod_eq_emod_of_nonneg h0, show (a % b).toNat = a.toNat % b.toNat by rw [Int.toNat_emod h0 om]]
 congr 1
 rw [Nat.gcd_comm a.toNat b.toNat, Nat.gcd_rec b.toNat a.toNat, Nat.gcd_comm]
theorem gcdI_zero {a : Int} (h0 : 0 ≤ a) : gcdI a 0 = a := by unfold gcdI; simp; omega
theorem gcdI_pos {a b : Int} (h1 : 0 < b) : 0 < gcdI a b := by
 unfold gcdI
 have : 0 < a.toNat.gcd b.toNat := Nat.gcd_pos_of_pos_right _ om
 omega
theorem gcdI_le {a b : Int} (h1 : 0 < b) : gcdI a b ≤ b := by
 unfold gcdI
 have : a.toNat.gcd b.toNat ≤ b.toNat := Nat.le_of_dvd om (Nat.gcd_dvd_right _ _)
 omega
def mkF (a b : Int) : Fr := ⟨a / gcdI a b, b / gcdI a b⟩
theorem mkF_num {a b : Int} (h0 : 0 ≤ a) (h1 : 0 < b) : 0 ≤ (mkF a b).num ∧ (mkF a b).num ≤ a := ⟨Int.ediv_nonneg h0 (by have := gcdI_pos (a := a) h1; omega), Int.ediv_le_self _ h0⟩
theorem mkF_den {a b : Int} (h1 : 0 < b) : 1 ≤ (mkF a b).den ∧ (mkF a b).den ≤ b := by
 have hg := gcdI_pos (a := a) h1
 have hl := gcdI_le (a := a) h1
 exact ⟨(Int.le_ediv_iff_mul_le hg).2 om, Int.ediv_le_self _ om⟩
theorem RWithin_ok (n m : Int) (h : 0 ≤ m ∧ m ≤ 9223372036854775807) :
    CallS Tryz.prog κ 157 [I64 (n), I64 (m)] I (fun r J => r = .bool (decide (-m ≤ n ∧ n ≤ m)) ∧ I = J) := by
 refine Ce2 Tryz.func157 rfl rfl ?_
 refine Ah (Ga rfl (Af (Ah (Gm rfl (Gm rfl (Gr (Runs.neg rfl (by unfold InR; omega)) (Gr (Cd rfl rfl) (Gm rfl (Bd (d := 9) rfl (fun g9 => ?_) (fun g9 => ?_))))))))))
 ·exact Gro (Ad rfl) (Gro (Ad rfl) (Gro (Dx rfl rfl) (Gr (Al rfl rfl) (Ga rfl (Af (Ap (S1 4 rfl) (Ay (A1 rfl rfl (I) Ax ⟨(by first | exact congrArg Value.bool (decide_eq_decide.2 (by skip; omega)) | exact congrArg Value.bool (decide_eq_true (by skip; omega)).symm | exact congrArg Value.bool (decide_eq_false (by skip; omega)).symm), rfl⟩))))))))
 ·exact Gpo (Gpo (Gpo (Gr (Aq rfl rfl) (Ga rfl (Af (Ap (S1 4 rfl) (Ay (A1 rfl rfl (I) Ax ⟨(by first | exact congrArg Value.bool (decide_eq_decide.2 (by skip; omega)) | exact congrArg Value.bool (decide_eq_true (by skip; omega)).symm | exact congrArg Value.bool (decide_eq_false (by skip; omega)).symm), rfl⟩))))))))
theorem Common_ok (a b : Int) (h0 : 0 ≤ a) (h1 : 0 ≤ b) :
    CallS Tryz.prog κ 158 [I64 (a), I64 (b)] I (fun r J => r = I64 (gcdI a b) ∧ I = J) := by
 refine Ce2 Tryz.func158 rfl rfl ?_
 refine Ah (Ga rfl (Af (As (A3 (Bx (σ := Int × Int) (fun s => ([(0, I64 (s.1)), (1, I64 (s.2))] : Env)) (fun s => I) (fun s => (0 ≤ s.1) ∧ (0 ≤ s.2) ∧ (gcdI s.1 s.2 = gcdI a b)) (fun s => s.2.toNat) (a, b) (show (0 ≤ (a : Int)) ∧ (0 ≤ (b : Int)) ∧ (gcdI (a : Int) (b : Int) = gcdI a b) from ⟨om, om, rfl⟩) (Aa Ci (Aa Ci Bj)) (show Fit κ _ (I) from A2) ?_)))))
 rintro ⟨x, y⟩ hp
 dsimp only at hp ⊢
 obtain ⟨hx, hy, hg⟩ := hp
 refine As (Ah (Gm rfl (Gr (Bw rfl rfl) (Af (A7 rfl (fun c6 => ?_) (fun c6 => ?_))))))
 ·refine A4 (Aj (A3 (Bk mixed (Bp (I) 6 (Dr 0 rfl (Ad rfl) (Dr 1 rfl (Ad rfl) (Dr 2 rfl (Ad rfl) (Dr 3 rfl (Eh rfl rfl om) (Dr 4 rfl (A9 rfl) (Dr 5 rfl (A9 rfl) (Dz (Ai ?_))))))))))))
  have hm0 := Int.tmod_nonneg y (a := x) hx
  have hm1 := Int.tmod_lt_of_pos x (b := y) om
  exact B3 ((y), (Int.tmod x y)) (by dsimp only; exact ⟨om, om, ((gcdI_step hx om).trans hg)⟩)
 ·refine Bt (Ao (Ao (A5 (Aj (Ah (Gm rfl (Ga rfl (Af (Ay ?_)))))))))
  have hy0 : y = 0 := by omega
  subst hy0
  exact A1 rfl rfl (I) Ax ⟨by rw [← hg, gcdI_zero hx], rfl⟩
theorem Checked_ok (x : Fr) (h : 0 ≤ x.num ∧ x.num ≤ 1152921504606846976 ∧ x.den ≤ 1152921504606846976) :
    CallS Tryz.prog κ 309 [.agg #[I64 (x.num), I64 (x.den)]] I (fun r J => r = .tuple #[.agg #[I64 x.num, I64 x.den], I64 0] ∧ I = J) := by
 refine Ce1 Tryz.func309 rfl rfl ?_
 refine Ah (Ge1 (Be (cs := [_, _]) rfl rfl rfl) fun b1 => Ge1 (Ba ty40 rfl) fun b2 => Ga rfl (Af (As (Ah (Gf fld40_0 rfl (Gl ty3 ?_))))))
 refine G.e (Am call157 rfl rfl (RWithin_ok x.num 1152921504606846976 om)) ?_
 rintro _ _ ⟨_, _, ⟨rfl, rfl⟩, rfl, rfl⟩
 refine Gr (Dt rfl) (Gm rfl (Bd (d := 8) rfl (fun g8 => ?_) (fun g8 => ?_)))
 ·exact absurd h om
 ·refine Gro (Ac fld40_1 rfl) (Gro (Au ty3) ?_)
  refine Gro (B7 rfl rfl) (Gr (Aq rfl rfl) (Af (Ap (S3 12 2 1 rfl rfl rfl) (A7 rfl (fun c12 => ?_) (fun c12 => ?_)))))
  ·exact absurd h om
  ·refine A4 (Aj (Ah (Gl2 ty40 ?_)))
   refine Ge0 (Co ty40) ?_
   exact Ga rfl (Af (Ay (Dp rfl ty40 rfl rfl mm rfl (I) Ax ⟨rfl, rfl⟩)))
theorem Lowest_ok (a b : Int) (h0 : 0 ≤ a ∧ a ≤ 1152921504606846976) (h1 : 0 < b ∧ b ≤ 1152921504606846976) :
    CallS Tryz.prog κ 272 [I64 (a), I64 (b)] I (fun r J => r = .tuple #[.agg #[I64 (mkF a b).num, I64 (mkF a b).den], I64 0] ∧ I = J) := by
 refine Ce2 Tryz.func272 rfl rfl ?_
 refine Ah (Ge1 (Ba ty40 rfl) fun b1 => Ga rfl (Af (As (Ah (Gm rfl (Gr (A8 rfl rfl) (Af (A7 rfl (fun c8 => ?_) (fun c8 => ?_)))))))))
 ·exact absurd c8 om
 ·refine A4 (Aj (Ah (Gm rfl (Gm rfl (Gr (Runs.neg rfl (by unfold InR; omega)) (Gr (Dq rfl rfl) (Gm rfl (Gc0 (Am call158 rfl rfl (Common_ok (if a < (-(a)) then (-(a)) else a) b (by split <;> omega) om)) ?_))))))))
  refine Ga rfl ?_
  have hmx : (if a < -a then -a else a) = a := by rw [if_neg om]
  rw [hmx]
  refine Af (Ap (S4 6 4 0 1 rfl rfl rfl rfl) (As (Bk mixed (Bp (blk b1 [I64 (0), I64 (0)] 40 :: I) 10 (Dr 0 rfl (Ad rfl) ?_)))))
  have hgp := gcdI_pos (a := a) h1.1
  refine Dr 1 rfl (Ad rfl) (Dr 2 rfl (Runs.quo rfl rfl om om (by unfold InR; omega)) (Dr 3 rfl (Ad rfl) (Dr 4 rfl (Ad rfl) (Dr 5 rfl (Runs.quo rfl rfl om om (by unfold InR; omega)) (Dr 6 rfl (Bf (cells := [_, _]) ty40 Cb pl40 rfl rfl) (Ds1 7 (Sc0 rfl (Am call309 rfl rfl (Checked_ok (⟨a / (gcdI a b), b / (gcdI a b)⟩ : Fr) (by have hn := mkF_num h0.1 h1.1; have hd := mkF_den (a := a) h1.1; exact ⟨hn.1, by have := hn.2; show (mkF a b).num ≤ _; omega, by have := hd.2; show (mkF a b).den ≤ _; omega⟩))) ?_)))))))
  refine Dr 8 rfl (Az rfl rfl) (Dr 9 rfl (Az rfl rfl) (C4 kr ?_))
  refine Ae 10 rfl (Co ty40) ?_
  rintro _ _ ⟨rfl, rfl⟩
  refine A.read (i := 11) kr rfl (Cl rfl) rfl rfl (A9 rfl) ?_
  refine C5 kr ?_
  exact Aj (Ap (S2 5 4 rfl rfl) (Ay (Dp rfl ty40 rfl rfl mm rfl (I) Ax ⟨rfl, rfl⟩)))
theorem MakeF_ok (a b : Int) (h0 : 0 ≤ a ∧ a ≤ 1152921504606846976) (h1 : 0 < b ∧ b ≤ 1152921504606846976) :
    CallS Tryz.prog κ 220 [I64 (a), I64 (b)] I (fun r J => r = .tuple #[.agg #[I64 (mkF a b).num, I64 (mkF a b).den], I64 0] ∧ I = J) := by
 refine Ce2 Tryz.func220 rfl rfl ?_
 refine Ah (Ge1 (Ba ty40 rfl) fun b1 => Ga rfl (Af (As (A3 (Ah (Gm rfl (Gr (Bb rfl rfl) (Ga rfl (Af (A7 rfl (fun c6 => ?_) (fun c6 => ?_)))))))))))
 ·exact absurd c6 om
 ·refine Ah (Gm rfl (G.e (Am call157 rfl rfl (RWithin_ok a 4611686018427387904 om)) ?_))
  rintro _ _ ⟨_, _, ⟨rfl, rfl⟩, rfl, rfl⟩
  refine Gm rfl (Bd (d := 13) rfl (fun g13 => ?_) (fun g13 => ?_))
  ·refine Gro (Ad rfl) (Cw (Bz rfl rfl rfl) (Am call157 rfl rfl (RWithin_ok b 4611686018427387904 om)) ?_)
   rintro _ _ ⟨_, _, ⟨rfl, rfl⟩, rfl, rfl⟩
   refine Gr (Al rfl rfl) (Ga rfl (Af (Ap (S4 10 4 0 1 rfl rfl rfl rfl) (A7 rfl (fun c10 => ?_) (fun c10 => ?_)))))
   ·refine Ah (Gm rfl (Gm rfl (Gc0 (Am call272 rfl rfl (Lowest_ok a b om om)) ?_)))
    refine Gr (Az rfl rfl) (Gr (Az rfl rfl) (Ge0 (Co ty40) ?_))
    exact Ga rfl (Af (Ay (Ar (Ak (Dp rfl ty40 rfl rfl mm rfl (I) Ax ⟨rfl, rfl⟩)))))
   ·exact absurd om c10
  ·exact absurd om g13
theorem onesB_bd (m : BitVec 64) : 0 ≤ onesB m ∧ onesB m < 128 := by unfold onesB; omega
end Go.Sl
