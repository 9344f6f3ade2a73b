/- A part of the proofs of statements of this seat: contracts of functions, and the plain laws that they lean on. No conditions. -/
import Derived.Test.YtbimaodbcjjbfaaDoorLaw15C
import Derived.Test.YtbimaodbcjjbfaaDoorDfs9
import Derived.Test.YtbimaodbcjjbfaaDoorGraphM5
namespace Go.Sl
open Go.Proofs
set_option linter.unusedVariables false
set_option linter.unusedSimpArgs false
set_option maxRecDepth 4000
theorem mask_list (m : BitVec 64) : maskB (listB m) = m := by
  refine BitVec.eq_of_getLsbD_eq fun i hi => ?_
  rw [Bool.eq_iff_iff, bit_maskB hi, mem_listB, Int.toNat_natCast]
  exact ⟨fun h => h.2, fun h => ⟨by omega, h⟩⟩
theorem first_mask {lm : BitVec 64} (h : lm ≠ 0#64) : maskB ((listB lm).take 1) = lm &&& (-lm) := by
  obtain ⟨k, hk, hkb, _, he, _⟩ := least_bit h
  have ht := tzB_eq h hk he
  rw [listB_step h, show (tzB lm :: listB (lm &&& (lm - 1#64))).take 1 = [tzB lm] from rfl, mask_one, ht, he]
  unfold bitB; rw [if_neg (by omega), Int.toNat_natCast]
theorem reach_left {rows : List (BitVec 64)} {w lm : BitVec 64} (h : Whole rows w lm) {k : Nat} (hk : lm.getLsbD k = true) : reachB rows (oneB k) lm = reachB rows (oneB k) w := by
  have h64 : k < 64 := Classical.byContradiction fun hn => by rw [BitVec.getLsbD_of_ge _ _ (by omega)] at hk; cases hk
  refine BitVec.eq_of_getLsbD_eq fun j _ => ?_
  rw [Bool.eq_iff_iff]
  constructor
  · intro hj
    exact (Conn.ind (fun j => Conn rows w k j) (.refl (h.1 k hk)) (fun a b h1 _ hr hw => h1.step hr (h.1 b hw)) (show Conn rows lm k j from ⟨h64, hj⟩)).2
  · intro hj
    exact (Conn.ind (fun j => Conn rows lm k j) (.refl hk) (fun a b h1 h2 hr hw => h1.step hr (h.2 k b hk (h2.step hr hw))) (show Conn rows w k j from ⟨h64, hj⟩)).2
theorem mem_minusL {xs ys : List Int} {x : Int} : x ∈ minusL xs ys ↔ x ∈ xs ∧ x ∉ ys := by simp [minusL, mem_ofL]
theorem minus_asc (xs ys : List Int) : (minusL xs ys).Pairwise (fun a b : Int => a < b) := (ofL_asc xs).sublist List.filter_sublist
theorem minus_list (a b : BitVec 64) : minusL (listB a) (listB b) = listB (a &&& ~~~b) := by
  refine intLin.uniq (minus_asc _ _) (listB_asc _) fun x => ?_
  rw [mem_minusL, mem_listB, mem_listB, mem_listB, getLsb_minus]
  constructor
  · rintro ⟨⟨h0, h1⟩, h2⟩
    refine ⟨h0, h1, ?_⟩
    rw [← Bool.not_eq_true]; exact fun h => h2 ⟨h0, h⟩
  · rintro ⟨h0, h1, h2⟩
    exact ⟨⟨h0, h1⟩, fun h => by rw [h2] at h; exact absurd h.2 (by decide)⟩
theorem range_all {nd : Int} (h : 0 ≤ nd ∧ nd ≤ 64) : rangeI nd = listB (allB nd) := by
  refine intLin.uniq (rangeI_asc nd) (listB_asc _) fun x => ?_
  rw [mem_rangeI, mem_listB]
  by_cases hx : 0 ≤ x ∧ x < 64
  · rw [getLsb_allB h.1 h.2 (by omega), decide_eq_true_eq]; omega
  · constructor
    · omega
    · rintro ⟨h1, h2⟩; rw [BitVec.getLsbD_of_ge _ _ (by omega)] at h2; cases h2
end Go.Sl
namespace Go.Sl
open Go.Proofs
set_option linter.unusedVariables false
set_option linter.unusedSimpArgs false
set_option maxRecDepth 4000
theorem whole_next {rows : List (BitVec 64)} {w lm : BitVec 64} (hs : SymR rows) (h : Whole rows w lm) (hz : lm ≠ 0#64) : Whole rows w (lm &&& ~~~(reachB rows (lm &&& (-lm)) w)) := by
  obtain ⟨k, _, _, _, _, he, _⟩ := left_first (rows := rows) hz h.1
  rw [he]; exact h.rest hs k
theorem ref_group {rows : List (BitVec 64)} {w lm : BitVec 64} (h : Whole rows w lm) (hz : lm ≠ 0#64) : listB (reachB rows (maskB (List.take 1 (listB lm))) (maskB (listB lm))) = listB (reachB rows (lm &&& (-lm)) w) := by
  obtain ⟨k, _, _, hkb, _, he, _⟩ := left_first (rows := rows) hz h.1
  rw [first_mask hz, mask_list, he, reach_left h hkb]
theorem left_in {nd : Int} {rows : List (BitVec 64)} {lm : BitVec 64} (hr : 0 ≤ nd ∧ nd ≤ 64) (h : Whole rows (allB nd) lm) : ∀ x ∈ listB lm, 0 ≤ x ∧ x < nd := fun x hx => by
  obtain ⟨h0, h1⟩ := mem_listB.1 hx
  have h2 := h.1 _ h1
  have h64 : x.toNat < 64 := Classical.byContradiction fun hn => by rw [BitVec.getLsbD_of_ge _ _ (by omega)] at h2; cases h2
  rw [getLsb_allB hr.1 hr.2 h64, decide_eq_true_eq] at h2; omega
theorem nz_of {lm : BitVec 64} (h : 0 < (listB lm).length) : lm ≠ 0#64 := fun e => by rw [e, listB_zero] at h; exact absurd h (Nat.lt_irrefl _)

theorem Comps15_ok {κ : Ctx} {I : List Item} {nd : Int} {va : Value} {es : List Pt} (hl : Sl κ I va es) (hb : es.length ≤ 1000000) :
    CallS Tryd.prog κ 34 [.agg #[I64 (nd), va]] I (fun r J => ∃ a c rs, r = .tuple #[.slice a rs.length c, I64 (checkG nd es)] ∧ rs.map RowG.xs = compsG nd es ∧ J = vc 22 (.slice a rs.length c) rs :: (ownR 3 rs ++ I)) := by
 refine CallS.enter (L := [(0, .agg #[I64 (nd), va])]) Tryd.func34 rfl rfl rfl rfl ?_
 refine W.sr ?_
 refine G.e (Eff.box (cs := [_, _]) rfl rfl rfl) ?_
 rintro _ _ ⟨b1, rfl, rfl⟩
 refine G.r (Runs.assign rfl) ?_
 refine G.r (Runs.assign rfl) ?_
 refine G.nt ?_
 refine W.seq ?_
 refine W.sr ?_
 refine G.r (Runs.lds (vs := [_, _]) ty25) ?_
 refine G.e (Eff.call call70 rfl rfl (Check03G_ok (nd := nd) (Sl.f hl))) ?_
 rintro _ _ ⟨_, _, ⟨rfl, rfl⟩, rfl, rfl⟩
 refine G.r (Runs.assign rfl) ?_
 refine G.nt ?_
 refine W.sr ?_
 refine G.r (Runs.move rfl) ?_
 refine G.r (Runs.neq rfl rfl) ?_
 refine G.nt ?_
 refine W.ite rfl (fun c11 => ?_) (fun c11 => ?_)
 ·refine W.sr ?_
  refine G.r (Runs.move rfl) ?_
  refine G.r (Runs.assign rfl) ?_
  refine G.r (Runs.assign rfl) ?_
  refine G.nt ?_
  refine W.ret ?_
  refine V.then_ret ?_
  have hX : compsG nd es = [] := if_pos c11
  exact V.ret2 rfl rfl rfl (vc 22 (.slice none ([] : List (RowG Int)).length 0) ([] : List (RowG Int)) :: (ownR 3 ([] : List (RowG Int)) ++ I)) (Fit.trans (show Fit κ _ I from Fit.m) (Fit.nilvc (α := RowG Int) _ _)) ⟨none, 0, [], rfl, by rw [hX]; rfl, rfl⟩
 ·refine W.skip ?_
  refine V.then ?_
  refine W.sr ?_
  refine G.r (Runs.assign rfl) ?_
  refine G.nt ?_
  refine W.sr ?_
  refine G.r (Runs.fieldAddr fld25_0 rfl) ?_
  refine G.r (Runs.ld ty3) ?_
  refine G.e (Eff.call call29 rfl rfl (Range_ok nd)) ?_
  rintro _ _ ⟨_, _, ⟨ad2, cp3, rfl, rfl⟩, rfl, rfl⟩
  refine G.r (Runs.assign rfl) ?_
  have hG := (checkG_ok.1 (Classical.not_not.1 c11))
  rw [range_all hG.rng]
  refine G.nt ?_
  refine W.sub (L' := [(6, _), (5, _), (1, _)]) (Sub.cons rfl (Sub.cons rfl (Sub.cons rfl Sub.nil))) ?_
  refine W.seq ?_
  refine W.block ?_
  refine W.loop (σ := (BitVec 64) × (Option Addr) × Nat × (Option Addr) × Nat × (List (RowG Int)) × (List (BitVec 64)) × Nat) (fun s => ([(1, .pointer (some ⟨b1, 0, none⟩)), (5, .slice s.2.2.2.1 s.2.2.2.2.2.1.length s.2.2.2.2.1), (6, .slice s.2.1 (listB s.1).length s.2.2.1)] : Env)) (fun s => vc 3 (.slice s.2.1 (listB s.1).length s.2.2.1) (listB s.1) :: vc 22 (.slice s.2.2.2.1 s.2.2.2.2.2.1.length s.2.2.2.2.1) (s.2.2.2.2.2.1) :: blk b1 [I64 (nd), va] 25 :: (ownR 3 s.2.2.2.2.2.1 ++ I)) (fun s => (groupsB (rowsB nd es) (allB nd) = s.2.2.2.2.2.2.1 ++ groupsL (rowsB nd es) (allB nd) s.2.2.2.2.2.2.2 s.1) ∧ (s.2.2.2.2.2.1.map RowG.xs = s.2.2.2.2.2.2.1.map listB) ∧ ((listN s.1).length ≤ s.2.2.2.2.2.2.2 ∧ s.2.2.2.2.2.2.2 + s.2.2.2.2.2.2.1.length ≤ 64) ∧ (Whole (rowsB nd es) (allB nd) s.1)) (fun s => s.2.2.2.2.2.2.2) (allB nd, ad2, cp3, none, 0, [], [], 64) (show (groupsB (rowsB nd es) (allB nd) = ([] : List (BitVec 64)) ++ groupsL (rowsB nd es) (allB nd) (64 : Nat) (allB nd : BitVec 64)) ∧ (([] : List (RowG Int)).map RowG.xs = ([] : List (BitVec 64)).map listB) ∧ ((listN (allB nd : BitVec 64)).length ≤ (64 : Nat) ∧ (64 : Nat) + ([] : List (BitVec 64)).length ≤ 64) ∧ (Whole (rowsB nd es) (allB nd) (allB nd : BitVec 64)) from ⟨rfl, rfl, ⟨listN_len _, by simp⟩, .all⟩) (Sub.cons rfl (Sub.cons (lookV rfl (by first | rfl | simp)) (Sub.cons (lookV rfl (by first | rfl | simp)) Sub.nil))) (show Fit κ _ (vc 3 (.slice (ad2) (listB (allB nd)).length (cp3)) (listB (allB nd)) :: vc 22 (.slice (none) ([]).length (0)) (([])) :: blk b1 [I64 (nd), va] 25 :: (ownR 3 ([]) ++ I)) from (Fit.trans (Fit.nilvc (α := RowG Int) 22 _) Fit.s)) ?_
  rintro ⟨lm, la, lc, a, c, rs, ms, n⟩ hp
  obtain ⟨hg, hm, hn, hW⟩ : (groupsB (rowsB nd es) (allB nd) = ms ++ groupsL (rowsB nd es) (allB nd) n lm) ∧ (rs.map RowG.xs = ms.map listB) ∧ ((listN lm).length ≤ n ∧ n + ms.length ≤ 64) ∧ (Whole (rowsB nd es) (allB nd) lm) := hp
  show W Tryd.prog κ 32 _ _ ([(1, .pointer (some ⟨b1, 0, none⟩)), (5, .slice a rs.length c), (6, .slice la (listB lm).length lc)] : Env) (vc 3 (.slice la (listB lm).length lc) (listB lm) :: vc 22 (.slice a rs.length c) (rs) :: blk b1 [I64 (nd), va] 25 :: (ownR 3 rs ++ I))
  have hlb := listB_len lm
  have hbn : (listB lm).length = (listN lm).length := by unfold listB; rw [List.length_map]
  have hml := congrArg List.length hm
  simp only [List.length_map] at hml
  refine W.seq ?_
  refine W.sr ?_
  refine G.r (Runs.move rfl) ?_
  refine G.r (Runs.lens Tryd.underlying22 rfl) ?_
  refine G.r (Runs.gtr rfl rfl) ?_
  refine G.nt ?_
  refine W.ite rfl (fun c18 => ?_) (fun c18 => ?_)
  ·refine W.skip ?_
   refine V.then ?_
   refine W.block ?_
   refine W.seq ?_
   refine W.drawn mixed ?_
   refine A.hold (vc 3 (.slice la (listB lm).length lc) (listB lm) :: vc 22 (.slice a rs.length c) (rs) :: blk b1 [I64 (nd), va] 25 :: (ownR 3 rs ++ I)) 6 ?_
   refine D.r 0 rfl (Runs.lds (vs := [_, _]) ty25) ?_ (hJ := Fit.sub)
   refine D.r 1 rfl (Runs.move rfl) ?_ (hJ := Fit.sub)
   refine D.r 2 rfl (Runs.hi (α := Int) (xs := listB lm) (h := 1) Tryd.underlying22 ty3 rfl rfl (by omega) Sl.o (by omega)) ?_ (hJ := Fit.sub)
   refine D.r 3 rfl (Runs.move rfl) ?_ (hJ := Fit.sub)
   refine D.step (rs := [4]) (by kernel_rfl) rfl rfl (all1 ?_)
   refine Step.eff rfl (Wanted.plain rfl) (Eff.call call83 rfl rfl (Reach15_ok (nd := nd) (Sl.f hl) (Sl.take Sl.o (by omega)) Sl.o hG (left_in hG.rng hW) (by omega) (by simp only [List.length_take]; omega))) ?_
   rintro _ _ ⟨_, _, ⟨ad4, cp5, rfl, rfl⟩, rfl, rfl⟩
   refine ⟨Fit.sub, ?_⟩
   refine D.r 5 rfl (Runs.assign rfl) ?_ (hJ := Fit.sub)
   have hzl := nz_of (lm := lm) (by omega)
   rw [ref_group hW hzl]
   refine D.done (by kernel_rfl) ?_
   refine V.then ?_
   refine W.region ?_
   refine G.r (Runs.move rfl) ?_
   refine G.r (Runs.move rfl) ?_
   refine G.e (Eff.bs (α := (RowG Int)) (cs := [_]) (xs := [⟨ad4, cp5, listB (reachB (rowsB nd es) (lm &&& (-lm)) (allB nd))⟩]) Tryd.underlying50 ty22 rfl rfl (by decide) (by decide) rfl rfl rfl rfl) ?_
   rintro _ _ ⟨ad6, rfl, rfl⟩
   refine G.e (Eff.app (α := (RowG Int)) (e := 22) (xs := rs) (ys := ([⟨ad4, cp5, listB (reachB (rowsB nd es) (lm &&& (-lm)) (allB nd))⟩] : List (RowG Int))) Tryd.underlying50 ty22 rfl rfl rfl (by repeat (first | exact List.mem_cons_self | apply List.mem_cons_of_mem)) Sl.o (by simp only [List.length_cons, List.length_nil]; omega) (by decide) rfl (fun _ _ => (by repeat (first | exact At.head _ _ _ | apply At.tail)))) ?_
   rintro _ _ ⟨ad7, cp8, rfl, rfl⟩
   refine G.r (Runs.move rfl) ?_
   refine G.r (Runs.move rfl) ?_
   refine G.e (Eff.call call46 rfl rfl (Minus_ok Sl.o Sl.o (by omega))) ?_
   rintro _ _ ⟨_, _, ⟨ad9, cp10, rfl, rfl⟩, rfl, rfl⟩
   refine G.r (Runs.assign rfl) ?_
   refine G.r (Runs.assign rfl) ?_
   refine G.nil ?_
   refine V.block_normal ?_
   rw [show minusL (listB lm) (listB (reachB (rowsB nd es) (lm &&& (-lm)) (allB nd))) = listB (lm &&& ~~~(reachB (rowsB nd es) (lm &&& (-lm)) (allB nd))) from minus_list _ _]
   exact V.next ((lm &&& ~~~(reachB (rowsB nd es) (lm &&& (-lm)) (allB nd))), (ad9), (cp10), (ad7), (cp8), (rs ++ [(⟨ad4, cp5, listB (reachB (rowsB nd es) (lm &&& (-lm)) (allB nd))⟩ : RowG Int)]), (ms ++ [reachB (rowsB nd es) (lm &&& (-lm)) (allB nd)]), (n - 1)) (show (groupsB (rowsB nd es) (allB nd) = (ms ++ [reachB (rowsB nd es) (lm &&& (-lm)) (allB nd)] : List (BitVec 64)) ++ groupsL (rowsB nd es) (allB nd) (n - 1 : Nat) (lm &&& ~~~(reachB (rowsB nd es) (lm &&& (-lm)) (allB nd)) : BitVec 64)) ∧ ((rs ++ [(⟨ad4, cp5, listB (reachB (rowsB nd es) (lm &&& (-lm)) (allB nd))⟩ : RowG Int)] : List (RowG Int)).map RowG.xs = (ms ++ [reachB (rowsB nd es) (lm &&& (-lm)) (allB nd)] : List (BitVec 64)).map listB) ∧ ((listN (lm &&& ~~~(reachB (rowsB nd es) (lm &&& (-lm)) (allB nd)) : BitVec 64)).length ≤ (n - 1 : Nat) ∧ (n - 1 : Nat) + (ms ++ [reachB (rowsB nd es) (lm &&& (-lm)) (allB nd)] : List (BitVec 64)).length ≤ 64) ∧ (Whole (rowsB nd es) (allB nd) (lm &&& ~~~(reachB (rowsB nd es) (lm &&& (-lm)) (allB nd)) : BitVec 64)) from ⟨(by rw [hg, groupsL_pos hzl (by have := groups_less (rows := rowsB nd es) hzl hW.1; omega), List.append_assoc]; rfl), (by rw [List.map_append, List.map_append, hm]; rfl), (by have hle := groups_less (rows := rowsB nd es) hzl hW.1; simp only [List.length_append, List.length_cons, List.length_nil]; omega), (whole_next (rowsB_sym hG) hW hzl)⟩) (show (n - 1 : Nat) < n from (by have := groups_less (rows := rowsB nd es) hzl hW.1; omega)) (Sub.cons rfl (Sub.cons (lookV rfl (by first | rfl | simp)) (Sub.cons (lookV rfl (by first | rfl | simp)) Sub.nil))) (show Fit κ _ (vc 3 (.slice (ad9) (listB (lm &&& ~~~(reachB (rowsB nd es) (lm &&& (-lm)) (allB nd)))).length (cp10)) (listB (lm &&& ~~~(reachB (rowsB nd es) (lm &&& (-lm)) (allB nd)))) :: vc 22 (.slice (ad7) (rs ++ [(⟨ad4, cp5, listB (reachB (rowsB nd es) (lm &&& (-lm)) (allB nd))⟩ : RowG Int)]).length (cp8)) ((rs ++ [(⟨ad4, cp5, listB (reachB (rowsB nd es) (lm &&& (-lm)) (allB nd))⟩ : RowG Int)])) :: blk b1 [I64 (nd), va] 25 :: (ownR 3 (rs ++ [(⟨ad4, cp5, listB (reachB (rowsB nd es) (lm &&& (-lm)) (allB nd))⟩ : RowG Int)]) ++ I)) from (Fit.trans (show Fit κ _ ([vc 3 (.slice ad9 (listB (lm &&& ~~~(reachB (rowsB nd es) (lm &&& (-lm)) (allB nd)))).length cp10) (listB (lm &&& ~~~(reachB (rowsB nd es) (lm &&& (-lm)) (allB nd)))), vc 22 (.slice ad7 (rs ++ [(⟨ad4, cp5, listB (reachB (rowsB nd es) (lm &&& (-lm)) (allB nd))⟩ : RowG Int)]).length cp8) (rs ++ [(⟨ad4, cp5, listB (reachB (rowsB nd es) (lm &&& (-lm)) (allB nd))⟩ : RowG Int)]), blk b1 [I64 (nd), va] 25] ++ vc 3 (.slice ad4 (listB (reachB (rowsB nd es) (lm &&& (-lm)) (allB nd))).length cp5) (listB (reachB (rowsB nd es) (lm &&& (-lm)) (allB nd))) :: (ownR 3 rs ++ I)) from Fit.s) (Fit.ownR_snoc (r := (⟨ad4, cp5, listB (reachB (rowsB nd es) (lm &&& (-lm)) (allB nd))⟩ : RowG Int)))))
  ·refine W.exit ?_
   refine V.then_exit ?_
   refine V.then_exit ?_
   refine V.block_hit ?_
   refine V.then ?_
   refine W.sr ?_
   refine G.r (Runs.move rfl) ?_
   refine G.r (Runs.assign rfl) ?_
   refine G.r (Runs.assign rfl) ?_
   refine G.nt ?_
   refine W.ret ?_
   have hz : checkG nd es = 0 := Classical.not_not.1 c11
   have hlz : lm = 0#64 := Classical.byContradiction fun e => by have h9 := congrArg List.length (listB_step e); simp only [List.length_cons] at h9; omega
   rw [hlz, groupsL_zero, List.append_nil] at hg
   exact V.ret2 rfl rfl rfl (vc 22 (.slice a rs.length c) rs :: (ownR 3 rs ++ I)) (by first | exact Fit.s | exact Fit.sub) ⟨a, c, rs, by rw [hz], by unfold compsG; rw [if_neg c11, hm, hg], rfl⟩

end Go.Sl
namespace Go.Sl
open Go.Proofs
set_option linter.unusedVariables false
set_option linter.unusedSimpArgs false
set_option maxRecDepth 4000
end Go.Sl
