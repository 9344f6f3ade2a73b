/- A part of the proofs of statements of this seat: contracts of functions, and the plain laws that they lean on. No conditions. -/
import Derived.Test.YtbimaodbcjjbfaaGreatDoorDirN
namespace Go.Sl
open Go.Proofs
set_option linter.unusedVariables false
set_option linter.unusedSimpArgs false
set_option maxRecDepth 4000
theorem sum_one : ∀ {l : List Int} {a : Int}, l.Nodup → (l.map fun x => if x = a then (1 : Int) else 0).sum = if a ∈ l then 1 else 0
  | [], a, _ => by simp
  | x :: l, a, h => by
    obtain ⟨h1, h2⟩ := List.nodup_cons.1 h
    rw [List.map_cons, List.sum_cons, sum_one h2]
    by_cases e : x = a
    · subst e
      rw [if_pos rfl, if_neg h1, if_pos List.mem_cons_self]; rfl
    · rw [if_neg e, Int.zero_add]
      by_cases hm : a ∈ l
      · rw [if_pos hm, if_pos (List.mem_cons_of_mem _ hm)]
      · rw [if_neg hm, if_neg fun h3 => (List.mem_cons.1 h3).elim (fun h4 => e h4.symm) hm]
theorem pt_one {F T : List Int} {p q : Int} (hF : F.Nodup) (hT : T.Nodup) : (T.map fun w => (F.map fun v => if v = p ∧ w = q then (1 : Int) else 0).sum).sum = if p ∈ F ∧ q ∈ T then 1 else 0 := by
  have e : ∀ w ∈ T, (F.map fun v => if v = p ∧ w = q then (1 : Int) else 0).sum = if p ∈ F then (if w = q then 1 else 0) else 0 := fun w _ => by
    by_cases hw : w = q
    · have : (F.map fun v => if v = p ∧ w = q then (1 : Int) else 0) = F.map fun v => if v = p then (1 : Int) else 0 := List.map_congr_left fun v _ => by
        by_cases hv : v = p
        · rw [if_pos ⟨hv, hw⟩, if_pos hv]
        · rw [if_neg fun h => hv h.1, if_neg hv]
      rw [this, sum_one hF, if_pos hw]
    · rw [sum_zero _ _ fun v _ => if_neg fun h => hw h.2, if_neg hw]; split <;> rfl
  rw [sum_congr e]
  by_cases hp : p ∈ F
  · rw [sum_congr (h := fun w => if w = q then (1 : Int) else 0) fun w _ => if_pos hp, sum_one hT]
    by_cases hq : q ∈ T
    · rw [if_pos hq, if_pos ⟨hp, hq⟩]
    · rw [if_neg hq, if_neg fun h => hq h.2]
  · rw [sum_zero _ _ fun w _ => if_neg hp, if_neg fun h => hp h.1]
theorem sum_arcs {F T : List Int} (hF : F.Nodup) (hT : T.Nodup) : ∀ {A : List Pt}, A.Nodup → (T.map fun w => (F.map fun v => if (⟨v, w⟩ : Pt) ∈ A then (1 : Int) else 0).sum).sum = ((A.filter fun p => decide (p.u ∈ F) && decide (p.v ∈ T)).length : Int)
  | [], _ => by
    rw [sum_zero _ _ fun w _ => sum_zero _ _ fun v _ => if_neg (by simp)]; rfl
  | a :: A, h => by
    obtain ⟨h1, h2⟩ := List.nodup_cons.1 h
    have e : ∀ w ∈ T, (F.map fun v => if (⟨v, w⟩ : Pt) ∈ a :: A then (1 : Int) else 0).sum = (F.map fun v => if v = a.u ∧ w = a.v then (1 : Int) else 0).sum + (F.map fun v => if (⟨v, w⟩ : Pt) ∈ A then (1 : Int) else 0).sum := fun w _ => by
      rw [← sum_add]
      refine sum_congr fun v _ => ?_
      by_cases hv : v = a.u ∧ w = a.v
      · have ea : (⟨v, w⟩ : Pt) = a := by rw [hv.1, hv.2]
        rw [if_pos hv, ea, if_pos List.mem_cons_self, if_neg h1]; rfl
      · rw [if_neg hv, Int.zero_add]
        by_cases hm : (⟨v, w⟩ : Pt) ∈ A
        · rw [if_pos hm, if_pos (List.mem_cons_of_mem _ hm)]
        · rw [if_neg hm, if_neg fun h3 => (List.mem_cons.1 h3).elim (fun h4 => hv ⟨congrArg Pt.u h4, congrArg Pt.v h4⟩) hm]
    rw [sum_congr e, sum_add, pt_one hF hT, sum_arcs hF hT h2, List.filter_cons]
    by_cases hp : a.u ∈ F ∧ a.v ∈ T
    · rw [if_pos hp, if_pos (by simp [hp.1, hp.2]), List.length_cons]; omega
    · rw [if_neg hp, if_neg (fun hh => hp (by simpa using hh)), Int.zero_add]
theorem cnt_dbl (s : BitVec 64) : ∀ es : List Pt, ((dbl es).filter fun e => s.getLsbD e.u.toNat && s.getLsbD e.v.toNat).length = 2 * (es.filter fun e => s.getLsbD e.u.toNat && s.getLsbD e.v.toNat).length
  | [] => rfl
  | e :: es => by
    show ((e :: e.swap :: dbl es).filter _).length = _
    have ih := cnt_dbl s es
    have hs : (s.getLsbD e.swap.u.toNat && s.getLsbD e.swap.v.toNat) = (s.getLsbD e.u.toNat && s.getLsbD e.v.toNat) := by
      cases e; exact Bool.and_comm _ _
    rw [List.filter_cons, List.filter_cons, List.filter_cons, hs]
    by_cases h : (s.getLsbD e.u.toNat && s.getLsbD e.v.toNat) = true
    · rw [if_pos h, if_pos h, if_pos h, List.length_cons, List.length_cons, List.length_cons, ih]; omega
    · rw [if_neg h, if_neg h, if_neg h, ih]
theorem both_nd {nd : Int} {es : List Pt} (hG : GrOk nd es) : (dbl es).Nodup := dbl_nodup (asc_nodup hG.asc) fun e he => (hG.edge e he).2.1
theorem both_perm {nd : Int} {es : List Pt} (hG : GrOk nd es) : (sortB Pt.lt (dbl es)).Perm (dbl es) := (List.perm_ext_iff_of_nodup (asc_nodup (Pt.lin.sortB _)) (both_nd hG)).2 fun p => mem_sortB _ _
theorem both_ends {nd : Int} {es : List Pt} (hG : GrOk nd es) : ∀ a ∈ dbl es, endsP nd a.u a.v := fun a ha => by
  rcases mem_dbl.1 ha with h | h
  · have := hG.edge a h; unfold endsP; omega
  · have := hG.edge _ h; unfold endsP; simp only [Pt.swap] at this; omega
theorem both_bet {nd : Int} {es : List Pt} (hG : GrOk nd es) {s : BitVec 64} (hs : ∀ i : Nat, s.getLsbD i = true → (i : Int) < nd) : betB (outB nd (sortB Pt.lt (dbl es))) s s = 2 * cntE s es := by
  have hd := dg_sort (by have := hG.rng; omega) (both_ends hG)
  have hl := outB_ln hd
  have hr := hd.rng
  rw [betB_eq (by omega) fun i hi => by have := hs i hi; omega]
  unfold cntN
  rw [sum_congr (h := fun w => ((listB s).map fun v => if (⟨v, w⟩ : Pt) ∈ sortB Pt.lt (dbl es) then (1 : Int) else 0).sum) fun w hw => sum_congr fun v hv => arcN_out hd (listB_rng hv).1 (listB_rng hw).1]
  rw [sum_arcs (listB_nd s) (listB_nd s) (asc_nodup hd.asc), ((both_perm hG).filter _).length_eq]
  have e : (dbl es).filter (fun p => decide (p.u ∈ listB s) && decide (p.v ∈ listB s)) = (dbl es).filter fun e => s.getLsbD e.u.toNat && s.getLsbD e.v.toNat := List.filter_congr fun p hp => by
    have h := both_ends hG p hp
    unfold endsP at h
    have hm : ∀ x : Int, 0 ≤ x → decide (x ∈ listB s) = s.getLsbD x.toNat := fun x hx => by
      rw [Bool.eq_iff_iff, decide_eq_true_eq, mem_listB]; exact ⟨fun h => h.2, fun h => ⟨hx, h⟩⟩
    rw [hm _ (by omega), hm _ (by omega)]
  rw [e, cnt_dbl]; unfold cntE; omega
theorem four_sq {g p q : Int} : 4 * p * p * (g * q * (g * q)) = 2 * (g * p) * (2 * (g * p)) * (q * q) := by
  rw [show (4 : Int) = 2 * 2 from rfl]; ac_rfl
theorem DenR.num {nd num den : Int} {es : List Pt} (h : DenR nd es num den) (h6 : nd ≤ 6) (hb : es.length ≤ 400) : ((0 ≤ (mkF num den).num ∧ (mkF num den).num ≤ 400) ∧ 1 ≤ (mkF num den).den ∧ (mkF num den).den ≤ 64) ∧ (0 ≤ 4 * (mkF num den).num * (mkF num den).num ∧ 4 * (mkF num den).num * (mkF num den).num ≤ 1000000000) ∧ 1 ≤ (mkF num den).den * (mkF num den).den ∧ (mkF num den).den * (mkF num den).den ≤ 1000000 := by
  have hb1 := h.bd h6
  have h1 := mkF_num (a := num) (b := den) hb1.1.1 (by omega)
  have h2 := mkF_den (a := num) (b := den) (by omega)
  have h3 := Int.mul_le_mul (show 4 * (mkF num den).num ≤ 1600 by omega) (show (mkF num den).num ≤ 400 by omega) h1.1 (by decide)
  have h4 := Int.mul_nonneg (show 0 ≤ 4 * (mkF num den).num by omega) h1.1
  have h5 := mulT (a := (mkF num den).den) (b := (mkF num den).den) (by omega) (by omega)
  have h6 := Int.mul_pos (show 0 < (mkF num den).den by omega) (show 0 < (mkF num den).den by omega)
  refine ⟨⟨⟨h1.1, by omega⟩, h2.1, by omega⟩, ⟨h4, by omega⟩, by omega, h5.2⟩
theorem both_ge {nd : Int} {es : List Pt} (hG : GrOk nd es) (h6 : nd ≤ 6) (hb : es.length ≤ 400) {num den : Int} (hD : DenR nd es num den) : FrV (mkF (4 * (mkF num den).num * (mkF num den).num) ((mkF num den).den * (mkF num den).den)) ∧ leF (mkF (4 * (mkF num den).num * (mkF num den).num) ((mkF num den).den * (mkF num den).den)) (bestG nd (sortB Pt.lt (dbl es))).sq := by
  have hd := dg_sort (by have := hG.rng; omega) (both_ends hG)
  have hn := hD.num h6 hb
  have hv : FrV (mkF (4 * (mkF num den).num * (mkF num den).num) ((mkF num den).den * (mkF num den).den)) := mkF_val hn.2.1.1 (by omega) (by omega) (by omega)
  refine ⟨hv, ?_⟩
  have hvB := bestG_val hd h6
  rcases hD with ⟨rfl, rfl⟩ | ⟨m, hm, hnum, hden⟩
  · rw [show mkF (4 * (mkF 0 1).num * (mkF 0 1).num) ((mkF 0 1).den * (mkF 0 1).den) = ⟨0, 1⟩ by decide +kernel]
    have := hvB.n0
    unfold leF; simp only [Int.zero_mul, Int.mul_one]; exact this
  · have hp : 2 ^ nd.toNat ≤ 2 ^ 6 := Nat.pow_le_pow_right (by decide) (by omega)
    have hz := natB_nz (m := m) hm.1 (by omega)
    have hl := outB_ln hd
    have hr := hd.rng
    have hbit : ∀ i : Nat, (natB m).getLsbD i = true → (i : Int) < nd := fun i hi => by
      have := natB_bit hm.2 hi; omega
    have hmax := best_max (rowsD_of hd h6) hz hz fun i hi => by have := hbit i hi; omega
    rw [← bestG_eq hd] at hmax
    refine leF_trans hv (sqB_val hz hz) hvB ?_ hmax
    unfold sqB
    rw [both_bet hG hbit, ones_pop, ← hnum, ← hden]
    have hcb := cntE_bd (natB m) es
    have hdp : 0 < den := by
      have := List.length_pos_iff.2 (listB_ne hz); omega
    have hg := gcdI_dvd (a := num) (b := den) (by omega) hdp
    refine (leF_mk hn.2.1.1 (by omega) (Int.mul_nonneg (by omega) (by omega)) (Int.mul_pos hdp hdp)).2 (Int.le_of_eq ?_)
    have e1 : (mkF num den).num = num / gcdI num den := rfl
    have e2 : (mkF num den).den = den / gcdI num den := rfl
    rw [← e1, ← e2] at hg
    have := four_sq (g := gcdI num den) (p := (mkF num den).num) (q := (mkF num den).den)
    rw [← hg.1, ← hg.2] at this
    exact this

set_option maxHeartbeats 4000000 in
theorem DirectedBoth_walk {κ : Ctx} {I : List Item} {la : Option Addr} {ln lc : Nat} {ls : List Int} (hl : Sl κ I (.slice la ln lc) ls) (hT : TabRd κ I 0 tzCells) :
    CallS Tryz.prog κ 4 [.slice la ln lc] I (fun r J => r = .bool true ∧ I = J) := by
 refine CallS.enter (L := [(0, .slice la ln lc)]) Tryz.func4 rfl rfl rfl rfl ?_
 refine W.sr ?_
 refine G.r (Runs.assign rfl) ?_
 refine G.nt ?_
 refine W.sr ?_
 refine G.r (Runs.move rfl) ?_
 refine G.e (Eff.call call8 rfl rfl New_ok) ?_
 rintro _ _ ⟨_, _, ⟨dk1, rfl, rfl⟩, rfl, rfl⟩
 show G Tryz.prog κ _ _ _ _ ([(15, .pointer (some ⟨dk1, 0, none⟩)), (14, .slice la ln lc), (2, .bool false), (0, .slice la ln lc)] : Env) (blk dk1 [.slice la ln lc, I64 (0)] 79 :: I)
 have hi0 : (0 : Int) ≤ 0 := Int.le_refl _
 refine G.e (Eff.call call9 rfl rfl (MkGraph_at (by repeat (first | exact AtF.head _ _ | apply AtF.tail)) (fun _ => Sl.fit hl Fit.m) (by omega)  (by omega))) ?_
 rintro _ _ ⟨_, _, ⟨⟨nd2, ad3, cp4, es5, i6⟩, ⟨⟨rfl, hges5⟩, hi6⟩, rfl⟩, rfl, rfl⟩
 show G Tryz.prog κ _ _ _ _ ([(16, .agg #[I64 (nd2), .slice ad3 es5.length cp4]), (15, .pointer (some ⟨dk1, 0, none⟩)), (14, .slice la ln lc), (2, .bool false), (0, .slice la ln lc)] : Env) (vc 52 (.slice ad3 es5.length cp4) (es5) :: blk dk1 [.slice la ln lc, I64 (i6)] 79 :: I)
 have hi6 : 0 ≤ i6 := hi6
 dsimp only at hges5
 have hG := hges5.2.1
 have hel := hges5.2.2
 have hnd := hges5.1
 have hrng := hG.rng
 refine G.e (Eff.alloc ty28 rfl) ?_
 rintro _ _ ⟨b7, rfl, rfl⟩
 refine G.e (Eff.st (cs := [_, _]) (vs := [_, _]) (cs' := [_, _]) ty28) ?_
 rintro _ _ ⟨rfl, rfl⟩
 refine G.nt ?_
 refine W.sr ?_
 refine G.r (Runs.assign rfl) ?_
 refine G.nt ?_
 refine W.seq ?_
 refine W.sr ?_
 refine G.r (Runs.fieldAddr fld28_1 rfl) ?_
 refine G.r (Runs.ld ty26) ?_
 refine G.r (Runs.lens Tryz.underlying26 rfl) ?_
 refine G.r (Runs.move rfl) ?_
 refine G.nt ?_
 refine W.block ?_
 refine W.loop (σ := Nat × (Option Addr) × Nat × (List Pt)) (fun s => ([(3, .pointer (some ⟨b7, 0, none⟩)), (4, .slice s.2.1 s.2.2.2.length s.2.2.1), (18, .slice ad3 es5.length cp4), (19, I64 (((es5.length : Nat) : Int))), (20, I64 (((s.1 : Nat) : Int)))] : Env)) (fun s => vc 32 (.slice s.2.1 s.2.2.2.length s.2.2.1) (s.2.2.2) :: blk b7 [I64 (nd2), .slice ad3 es5.length cp4] 28 :: vc 52 (.slice ad3 es5.length cp4) (es5) :: blk dk1 [.slice la ln lc, I64 (i6)] 79 :: I) (fun s => (s.1 ≤ es5.length) ∧ (s.2.2.2 = dbl (es5.take s.1))) (fun s => es5.length - s.1) (0, none, 0, []) (show ((0 : Nat) ≤ es5.length) ∧ (([] : List Pt) = dbl (es5.take (0 : Nat))) from ⟨(by omega), rfl⟩) (Sub.cons rfl (Sub.cons (lookV rfl (by first | rfl | simp)) (Sub.cons rfl (Sub.cons rfl (Sub.cons lookO Sub.nil))))) (show Fit κ _ (vc 32 (.slice (none) ([]).length (0)) (([])) :: blk b7 [I64 (nd2), .slice ad3 es5.length cp4] 28 :: vc 52 (.slice ad3 es5.length cp4) (es5) :: blk dk1 [.slice la ln lc, I64 (i6)] 79 :: I) from (Fit.nilvc _ _)) ?_
 rintro ⟨k, a, c, out⟩ hp
 obtain ⟨hk, ho⟩ : (k ≤ es5.length) ∧ (out = dbl (es5.take k)) := hp
 show W Tryz.prog κ 103 _ _ ([(3, .pointer (some ⟨b7, 0, none⟩)), (4, .slice a out.length c), (18, .slice ad3 es5.length cp4), (19, I64 (((es5.length : Nat) : Int))), (20, I64 (((k : Nat) : Int)))] : Env) (vc 32 (.slice a out.length c) (out) :: blk b7 [I64 (nd2), .slice ad3 es5.length cp4] 28 :: vc 52 (.slice ad3 es5.length cp4) (es5) :: blk dk1 [.slice la ln lc, I64 (i6)] 79 :: I)
 have hol : out.length ≤ 2 * es5.length := by rw [ho, dbl_len]; simp only [List.length_take]; omega
 refine W.sr ?_
 refine G.r (Runs.lss rfl rfl) ?_
 refine G.nt ?_
 refine W.seq ?_
 refine W.ite rfl (fun c21 => ?_) (fun c21 => ?_)
 ·refine W.skip ?_
  refine V.then ?_
  refine W.seq ?_
  refine W.block ?_
  refine W.sr ?_
  refine G.r (Runs.idx (α := Pt) (xs := es5) Tryz.underlying26 ty52 rfl rfl Sl.o (by omega) (by omega)) ?_
  refine G.r (Runs.gets (α := Pt) (xs := es5) ty52 rfl Sl.o (by omega) (by omega)) ?_
  refine G.e (Eff.alloc ty52 rfl) ?_
  rintro _ _ ⟨b8, rfl, rfl⟩
  refine G.e (Eff.st (cs := [_, _]) (vs := [_, _]) (cs' := [_, _]) ty52) ?_
  rintro _ _ ⟨rfl, rfl⟩
  refine G.nt ?_
  refine W.region ?_
  refine G.r (Runs.move rfl) ?_
  refine G.r (Runs.fieldAddr fld52_0 rfl) ?_
  refine G.r (Runs.ld ty3) ?_
  refine G.r (Runs.fieldAddr fld52_1 rfl) ?_
  refine G.r (Runs.ld ty3) ?_
  refine G.r (Runs.buildArr (cells := [_, _]) ty32 Tryz.underlying32 ty3 rfl rfl) ?_
  refine G.r (Runs.fieldAddr fld52_1 rfl) ?_
  refine G.r (Runs.ld ty3) ?_
  refine G.r (Runs.fieldAddr fld52_0 rfl) ?_
  refine G.r (Runs.ld ty3) ?_
  refine G.r (Runs.buildArr (cells := [_, _]) ty32 Tryz.underlying32 ty3 rfl rfl) ?_
  refine G.e (Eff.bs (α := Pt) (cs := [_, _, _, _]) (xs := [⟨(at_ es5 ((k : Nat) : Int)).u, (at_ es5 ((k : Nat) : Int)).v⟩, ⟨(at_ es5 ((k : Nat) : Int)).v, (at_ es5 ((k : Nat) : Int)).u⟩]) Tryz.underlying33 ty32 rfl rfl (by decide) (by decide) rfl rfl rfl rfl) ?_
  rintro _ _ ⟨ad9, rfl, rfl⟩
  refine G.e (Eff.app (α := Pt) (e := 32) (xs := out) (ys := ([⟨(at_ es5 ((k : Nat) : Int)).u, (at_ es5 ((k : Nat) : Int)).v⟩, ⟨(at_ es5 ((k : Nat) : Int)).v, (at_ es5 ((k : Nat) : Int)).u⟩] : List Pt)) Tryz.underlying33 ty32 rfl rfl rfl (by repeat (first | exact List.mem_cons_self | apply List.mem_cons_of_mem)) Sl.o (by simp only [List.length_cons, List.length_nil]; omega) (by decide) rfl (fun _ _ => (by repeat (first | exact At.head _ _ _ | apply At.tail)))) ?_
  rintro _ _ ⟨ad10, cp11, rfl, rfl⟩
  refine G.r (Runs.assign rfl) ?_
  refine G.nil ?_
  refine V.block_normal ?_
  refine V.then ?_
  refine W.sub (L' := [(4, _), (3, _), (18, _), (19, _), (20, _)]) (Sub.cons rfl (Sub.cons rfl (Sub.cons rfl (Sub.cons rfl (Sub.cons rfl Sub.nil))))) ?_
  refine W.region ?_
  refine G.r (Runs.add rfl rfl (by unfold InR; omega)) ?_
  refine G.r (Runs.move rfl) ?_
  refine G.nil ?_
  exact V.next ((k + 1), (ad10), (cp11), (out ++ ([⟨(at_ es5 ((k : Nat) : Int)).u, (at_ es5 ((k : Nat) : Int)).v⟩, ⟨(at_ es5 ((k : Nat) : Int)).v, (at_ es5 ((k : Nat) : Int)).u⟩] : List Pt))) (show ((k + 1 : Nat) ≤ es5.length) ∧ ((out ++ ([⟨(at_ es5 ((k : Nat) : Int)).u, (at_ es5 ((k : Nat) : Int)).v⟩, ⟨(at_ es5 ((k : Nat) : Int)).v, (at_ es5 ((k : Nat) : Int)).u⟩] : List Pt) : List Pt) = dbl (es5.take (k + 1 : Nat))) from ⟨(by omega), (by rw [dbl_take (by omega), ← ho])⟩) (show es5.length - (k + 1 : Nat) < es5.length - k from (by omega)) (Sub.cons rfl (Sub.cons (lookV rfl (by first | rfl | simp)) (Sub.cons rfl (Sub.cons rfl (Sub.cons lookO Sub.nil))))) (show Fit κ _ (vc 32 (.slice (ad10) (out ++ ([⟨(at_ es5 ((k : Nat) : Int)).u, (at_ es5 ((k : Nat) : Int)).v⟩, ⟨(at_ es5 ((k : Nat) : Int)).v, (at_ es5 ((k : Nat) : Int)).u⟩] : List Pt)).length (cp11)) ((out ++ ([⟨(at_ es5 ((k : Nat) : Int)).u, (at_ es5 ((k : Nat) : Int)).v⟩, ⟨(at_ es5 ((k : Nat) : Int)).v, (at_ es5 ((k : Nat) : Int)).u⟩] : List Pt))) :: blk b7 [I64 (nd2), .slice ad3 es5.length cp4] 28 :: vc 52 (.slice ad3 es5.length cp4) (es5) :: blk dk1 [.slice la ln lc, I64 (i6)] 79 :: I) from (by first | exact Fit.s | exact Fit.sub))
 ·refine W.exit ?_
  refine V.then_exit ?_
  refine V.then_exit ?_
  refine V.block_hit ?_
  refine V.then ?_
  refine W.sr ?_
  refine G.r (Runs.fieldAddr fld28_0 rfl) ?_
  have hoE : out = dbl es5 := by rw [ho, List.take_of_length_le (by omega)]
  have hol2 : out.length = 2 * es5.length := by rw [hoE, dbl_len]
  have hde := both_ends hG
  rw [← hoE] at hde
  have hd := dg_sort (by have := hG.rng; omega) hde
  have hc1 := checkD_ok.2 hd
  have hvB := bestG_val hd (by omega)
  have hlnO := (both_perm hG).length_eq
  rw [← hoE] at hlnO
  refine G.r (Runs.ld ty3) ?_
  refine G.r (Runs.move rfl) ?_
  refine G.e (Eff.call call29 rfl rfl (OfD_ok (nd := nd2) (l := out) Sl.o (by omega) hde (by omega))) ?_
  rintro _ _ ⟨_, _, ⟨ad12, cp13, rfl, rfl⟩, rfl, rfl⟩
  refine G.r (Runs.move rfl) ?_
  refine G.r (Runs.extract rfl rfl) ?_
  refine G.r (Runs.extract rfl rfl) ?_
  refine G.e (Eff.alloc ty54 rfl) ?_
  rintro _ _ ⟨b14, rfl, rfl⟩
  refine G.e (Eff.st (cs := [_, _]) (vs := [_, _]) (cs' := [_, _]) ty54) ?_
  rintro _ _ ⟨rfl, rfl⟩
  refine G.r (Runs.assign rfl) ?_
  refine G.nt ?_
  refine W.sub (L' := [(8, _), (7, _), (3, _)]) (Sub.cons rfl (Sub.cons rfl (Sub.cons rfl Sub.nil))) ?_
  refine W.sr ?_
  refine G.r (Runs.lds (vs := [_, _]) ty54) ?_
  refine G.e (Eff.call call30 rfl rfl (BestD_ok (nd := nd2) Sl.o (fun _ => by omega) (TabRd.fit hT Fit.m))) ?_
  rintro _ _ ⟨_, _, ⟨ad15, cp16, ad17, cp18, rfl, rfl⟩, rfl, rfl⟩
  refine G.r (Runs.move rfl) ?_
  refine G.r (Runs.extract rfl rfl) ?_
  refine G.r (Runs.extract rfl rfl) ?_
  refine G.e (Eff.alloc ty58 rfl) ?_
  rintro _ _ ⟨b19, rfl, rfl⟩
  refine G.e (Eff.st (cs := [_, _, _, _, _]) (vs := [_, _, _, _, _]) (cs' := [_, _, _, _, _]) ty58) ?_
  rintro _ _ ⟨rfl, rfl⟩
  refine G.r (Runs.assign rfl) ?_
  refine G.nt ?_
  refine W.sr ?_
  refine G.r (Runs.lds (vs := [_, _]) ty28) ?_
  refine G.e (Eff.call call31 rfl rfl (Best19_ok (nd := nd2) Sl.o hG (by omega) (by omega))) ?_
  rintro _ _ ⟨_, _, ⟨ad20, cp21, mb22, nu23, de24, rfl, hden, rfl⟩, rfl, rfl⟩
  refine G.r (Runs.move rfl) ?_
  have hge := both_ge hG (by omega) (by omega) hden
  rw [← hoE] at hge
  have hnb := hden.num (by omega) (by omega)
  have hvF := hge.1
  refine G.r (Runs.extract rfl rfl) ?_
  refine G.r (Runs.extract rfl rfl) ?_
  refine G.r (Runs.extract rfl rfl) ?_
  refine G.e (Eff.alloc ty45 rfl) ?_
  rintro _ _ ⟨b25, rfl, rfl⟩
  refine G.r (Runs.assign rfl) ?_
  refine G.e (Eff.st (cs := [_, _]) (vs := [_, _]) (cs' := [_, _]) ty45) ?_
  rintro _ _ ⟨rfl, rfl⟩
  refine G.r (Runs.assign rfl) ?_
  refine G.nt ?_
  refine W.sub (L' := [(12, _), (10, _), (9, _), (8, _), (7, _), (3, _)]) (Sub.cons rfl (Sub.cons rfl (Sub.cons rfl (Sub.cons rfl (Sub.cons rfl (Sub.cons rfl Sub.nil)))))) ?_
  refine W.seq ?_
  refine W.drawn mixed ?_
  refine A.hold (blk b25 [I64 ((mkF nu23 de24).num), I64 ((mkF nu23 de24).den)] 45 :: vc 3 (.slice ad20 (listB (natB mb22)).length cp21) (listB (natB mb22)) :: blk b19 [.slice ad15 (bestG nd2 (sortB Pt.lt out)).F.length cp16, .slice ad17 (bestG nd2 (sortB Pt.lt out)).T.length cp18, I64 ((bestG nd2 (sortB Pt.lt out)).n), I64 ((bestG nd2 (sortB Pt.lt out)).sq.num), I64 ((bestG nd2 (sortB Pt.lt out)).sq.den)] 58 :: vc 3 (.slice ad15 (bestG nd2 (sortB Pt.lt out)).F.length cp16) ((bestG nd2 (sortB Pt.lt out)).F) :: vc 3 (.slice ad17 (bestG nd2 (sortB Pt.lt out)).T.length cp18) ((bestG nd2 (sortB Pt.lt out)).T) :: blk b14 [I64 (nd2), .slice ad12 (sortB Pt.lt out).length cp13] 54 :: vc 32 (.slice ad12 (sortB Pt.lt out).length cp13) (sortB Pt.lt out) :: vc 32 (.slice a out.length c) (out) :: blk b7 [I64 (nd2), .slice ad3 es5.length cp4] 28 :: vc 52 (.slice ad3 es5.length cp4) (es5) :: blk dk1 [.slice la ln lc, I64 (i6)] 79 :: I) 48 ?_
  refine D.r 0 rfl (Runs.move rfl) ?_ (hJ := Fit.sub)
  refine D.r 1 rfl (Runs.eql rfl rfl) ?_ (hJ := Fit.sub)
  refine D.r 2 rfl (Runs.move rfl) ?_ (hJ := Fit.sub)
  refine D.split (d := 58) rfl (fun g58 => ?_) (fun g58 => ?_)
  ·refine D.read 3 rfl (by kernel_rfl) (by kernel_rfl) (by kernel_rfl) rfl (by kernel_rfl) (fun _ _ _ _ h => h) (Wanted.on rfl rfl rfl) rfl rfl Fit.sub (Runs.move rfl) ?_
   refine D.read 4 rfl (by kernel_rfl) (by kernel_rfl) (by kernel_rfl) rfl (by kernel_rfl) (fun _ _ _ _ h => h) (Wanted.on rfl rfl rfl) rfl rfl Fit.sub (Runs.eql rfl rfl) ?_
   refine D.r 5 rfl (Runs.pickt rfl rfl) ?_ (hJ := Fit.sub)
   refine D.r 6 rfl (Runs.move rfl) ?_ (hJ := Fit.sub)
   refine D.split (d := 62) rfl (fun g62 => ?_) (fun g62 => ?_)
   ·refine D.read 7 rfl (by kernel_rfl) (by kernel_rfl) (by kernel_rfl) rfl (by kernel_rfl) (fun _ _ _ _ h => h) (Wanted.on rfl rfl rfl) rfl rfl Fit.sub (Runs.fieldAddr fld58_3 rfl) ?_
    refine D.read 8 rfl (by kernel_rfl) (by kernel_rfl) (by kernel_rfl) rfl (by kernel_rfl) (fun _ _ _ _ h => h) (Wanted.on rfl rfl rfl) rfl rfl Fit.sub (Runs.lds (vs := [_, _]) ty45) ?_
    refine D.step (rs := [9]) (by kernel_rfl) rfl rfl (all1 ?_)
    refine Step.eff rfl (Wanted.on rfl rfl rfl) (Eff.call call32 rfl rfl (Valid01_ok (bestG nd2 (sortB Pt.lt out)).sq (by first | exact hvB | exact hvF))) ?_
    rintro _ _ ⟨_, _, ⟨rfl, rfl⟩, rfl, rfl⟩
    refine ⟨Fit.sub, ?_⟩
    refine D.r 10 rfl (Runs.pickt rfl rfl) ?_ (hJ := Fit.sub)
    refine D.r 11 rfl (Runs.move rfl) ?_ (hJ := Fit.sub)
    refine D.read 12 rfl (by kernel_rfl) (by kernel_rfl) (by kernel_rfl) rfl (by kernel_rfl) (fun _ _ _ _ h => h) (Wanted.on rfl rfl rfl) rfl rfl Fit.sub (Runs.fieldAddr fld58_3 rfl) ?_
    refine D.read 13 rfl (by kernel_rfl) (by kernel_rfl) (by kernel_rfl) rfl (by kernel_rfl) (fun _ _ _ _ h => h) (Wanted.on rfl rfl rfl) rfl rfl Fit.sub (Runs.lds (vs := [_, _]) ty45) ?_
    refine D.read 14 rfl (by kernel_rfl) (by kernel_rfl) (by kernel_rfl) rfl (by kernel_rfl) (fun _ _ _ _ h => h) (Wanted.on rfl rfl rfl) rfl rfl Fit.sub (Runs.fieldAddr fld45_0 rfl) ?_
    refine D.read 15 rfl (by kernel_rfl) (by kernel_rfl) (by kernel_rfl) rfl (by kernel_rfl) (fun _ _ _ _ h => h) (Wanted.on rfl rfl rfl) rfl rfl Fit.sub (Runs.ld ty3) ?_
    refine D.read 16 rfl (by kernel_rfl) (by kernel_rfl) (by kernel_rfl) rfl (by kernel_rfl) (fun _ _ _ _ h => h) (Wanted.on rfl rfl rfl) rfl rfl Fit.sub (Runs.mul rfl rfl (by unfold InR; omega)) ?_
    refine D.read 17 rfl (by kernel_rfl) (by kernel_rfl) (by kernel_rfl) rfl (by kernel_rfl) (fun _ _ _ _ h => h) (Wanted.on rfl rfl rfl) rfl rfl Fit.sub (Runs.fieldAddr fld45_0 rfl) ?_
    refine D.read 18 rfl (by kernel_rfl) (by kernel_rfl) (by kernel_rfl) rfl (by kernel_rfl) (fun _ _ _ _ h => h) (Wanted.on rfl rfl rfl) rfl rfl Fit.sub (Runs.ld ty3) ?_
    refine D.read 19 rfl (by kernel_rfl) (by kernel_rfl) (by kernel_rfl) rfl (by kernel_rfl) (fun _ _ _ _ h => h) (Wanted.on rfl rfl rfl) rfl rfl Fit.sub (Runs.mul rfl rfl (by unfold InR; omega)) ?_
    refine D.read 20 rfl (by kernel_rfl) (by kernel_rfl) (by kernel_rfl) rfl (by kernel_rfl) (fun _ _ _ _ h => h) (Wanted.on rfl rfl rfl) rfl rfl Fit.sub (Runs.fieldAddr fld45_1 rfl) ?_
    refine D.read 21 rfl (by kernel_rfl) (by kernel_rfl) (by kernel_rfl) rfl (by kernel_rfl) (fun _ _ _ _ h => h) (Wanted.on rfl rfl rfl) rfl rfl Fit.sub (Runs.ld ty3) ?_
    refine D.read 22 rfl (by kernel_rfl) (by kernel_rfl) (by kernel_rfl) rfl (by kernel_rfl) (fun _ _ _ _ h => h) (Wanted.on rfl rfl rfl) rfl rfl Fit.sub (Runs.fieldAddr fld45_1 rfl) ?_
    refine D.read 23 rfl (by kernel_rfl) (by kernel_rfl) (by kernel_rfl) rfl (by kernel_rfl) (fun _ _ _ _ h => h) (Wanted.on rfl rfl rfl) rfl rfl Fit.sub (Runs.ld ty3) ?_
    refine D.read 24 rfl (by kernel_rfl) (by kernel_rfl) (by kernel_rfl) rfl (by kernel_rfl) (fun _ _ _ _ h => h) (Wanted.on rfl rfl rfl) rfl rfl Fit.sub (Runs.mul rfl rfl (by unfold InR; omega)) ?_
    refine D.step (rs := [25]) (by kernel_rfl) rfl rfl (all1 ?_)
    refine Step.eff rfl (Wanted.on rfl rfl rfl) (Eff.call call34 rfl rfl (RatOf_ok ((4 * ((mkF nu23 de24).num)) * ((mkF nu23 de24).num)) (((mkF nu23 de24).den) * ((mkF nu23 de24).den)) (by omega) (by omega))) ?_
    rintro _ _ ⟨_, _, ⟨rfl, rfl⟩, rfl, rfl⟩
    refine ⟨Fit.sub, ?_⟩
    refine D.step (rs := [26]) (by kernel_rfl) rfl rfl (all1 ?_)
    refine Step.eff rfl (Wanted.on rfl rfl rfl) (Eff.call call33 rfl rfl (Cmp01_ok (bestG nd2 (sortB Pt.lt out)).sq (mkF ((4 * ((mkF nu23 de24).num)) * ((mkF nu23 de24).num)) (((mkF nu23 de24).den) * ((mkF nu23 de24).den))) (by first | exact hvB | exact hvF) (by first | exact hvB | exact hvF))) ?_
    rintro _ _ ⟨_, _, ⟨rfl, rfl⟩, rfl, rfl⟩
    refine ⟨Fit.sub, ?_⟩
    refine D.read 27 rfl (by kernel_rfl) (by kernel_rfl) (by kernel_rfl) rfl (by kernel_rfl) (fun _ _ _ _ h => h) (Wanted.on rfl rfl rfl) rfl rfl Fit.sub (Runs.geq rfl rfl) ?_
    refine D.r 28 rfl (Runs.pickt rfl rfl) ?_ (hJ := Fit.sub)
    refine D.r 29 rfl (Runs.move rfl) ?_ (hJ := Fit.sub)
    refine D.split (d := 85) rfl (fun g85 => ?_) (fun g85 => ?_)
    ·refine D.read 30 rfl (by kernel_rfl) (by kernel_rfl) (by kernel_rfl) rfl (by kernel_rfl) (fun _ _ _ _ h => h) (Wanted.on rfl rfl rfl) rfl rfl Fit.sub (Runs.fieldAddr fld54_1 rfl) ?_
     refine D.read 31 rfl (by kernel_rfl) (by kernel_rfl) (by kernel_rfl) rfl (by kernel_rfl) (fun _ _ _ _ h => h) (Wanted.on rfl rfl rfl) rfl rfl Fit.sub (Runs.ld ty33) ?_
     refine D.read 32 rfl (by kernel_rfl) (by kernel_rfl) (by kernel_rfl) rfl (by kernel_rfl) (fun _ _ _ _ h => h) (Wanted.on rfl rfl rfl) rfl rfl Fit.sub (Runs.lens Tryz.underlying33 rfl) ?_
     refine D.read 33 rfl (by kernel_rfl) (by kernel_rfl) (by kernel_rfl) rfl (by kernel_rfl) (fun _ _ _ _ h => h) (Wanted.on rfl rfl rfl) rfl rfl Fit.sub (Runs.fieldAddr fld28_1 rfl) ?_
     refine D.read 34 rfl (by kernel_rfl) (by kernel_rfl) (by kernel_rfl) rfl (by kernel_rfl) (fun _ _ _ _ h => h) (Wanted.on rfl rfl rfl) rfl rfl Fit.sub (Runs.ld ty26) ?_
     refine D.read 35 rfl (by kernel_rfl) (by kernel_rfl) (by kernel_rfl) rfl (by kernel_rfl) (fun _ _ _ _ h => h) (Wanted.on rfl rfl rfl) rfl rfl Fit.sub (Runs.lens Tryz.underlying26 rfl) ?_
     refine D.read 36 rfl (by kernel_rfl) (by kernel_rfl) (by kernel_rfl) rfl (by kernel_rfl) (fun _ _ _ _ h => h) (Wanted.on rfl rfl rfl) rfl rfl Fit.sub (Runs.mul rfl rfl (by unfold InR; omega)) ?_
     refine D.read 37 rfl (by kernel_rfl) (by kernel_rfl) (by kernel_rfl) rfl (by kernel_rfl) (fun _ _ _ _ h => h) (Wanted.on rfl rfl rfl) rfl rfl Fit.sub (Runs.eql rfl rfl) ?_
     refine D.r 38 rfl (Runs.pickt rfl rfl) ?_ (hJ := Fit.sub)
     refine D.r 39 rfl (Runs.move rfl) ?_ (hJ := Fit.sub)
     refine D.split (d := 95) rfl (fun g95 => ?_) (fun g95 => ?_)
     ·refine D.read 40 rfl (by kernel_rfl) (by kernel_rfl) (by kernel_rfl) rfl (by kernel_rfl) (fun _ _ _ _ h => h) (Wanted.on rfl rfl rfl) rfl rfl Fit.sub (Runs.lds (vs := [_, _]) ty28) ?_
      refine D.step (rs := [41]) (by kernel_rfl) rfl rfl (all1 ?_)
      refine Step.eff rfl (Wanted.on rfl rfl rfl) (Eff.call call35 rfl rfl (Check03_ok Sl.o hG)) ?_
      rintro _ _ ⟨_, _, ⟨rfl, rfl⟩, rfl, rfl⟩
      refine ⟨Fit.sub, ?_⟩
      refine D.read 42 rfl (by kernel_rfl) (by kernel_rfl) (by kernel_rfl) rfl (by kernel_rfl) (fun _ _ _ _ h => h) (Wanted.on rfl rfl rfl) rfl rfl Fit.sub (Runs.eql rfl rfl) ?_
      refine D.r 43 rfl (Runs.pickt rfl rfl) ?_ (hJ := Fit.sub)
      refine D.r 44 rfl (Runs.move rfl) ?_ (hJ := Fit.sub)
      refine D.split (d := 100) rfl (fun g100 => ?_) (fun g100 => ?_)
      ·refine D.step (rs := [45]) (by kernel_rfl) rfl rfl (all1 ?_)
       refine Step.eff rfl (Wanted.on rfl rfl rfl) (Eff.call call36 rfl rfl (Awake23_ok (TabRd.fit hT Fit.m))) ?_
       rintro _ _ ⟨_, _, ⟨rfl, rfl⟩, rfl, rfl⟩
       refine ⟨Fit.sub, ?_⟩
       refine D.r 46 rfl (Runs.pickt rfl rfl) ?_ (hJ := Fit.sub)
       refine D.r 47 rfl (Runs.assign rfl) ?_ (hJ := Fit.sub)
       refine D.done (by kernel_rfl) ?_
       refine V.then ?_
       refine W.sub (L' := [(2, _)]) (Sub.cons rfl Sub.nil) ?_
       refine W.ret ?_
       exact V.ret1 rfl rfl (I) Fit.m ⟨rfl, rfl⟩
      ·exact absurd rfl g100
     ·exact absurd (by omega) g95
    ·exact absurd (cmpF_ge.2 hge.2) g85
   ·exact absurd hc1 g62
  ·exact absurd rfl g58

end Go.Sl
