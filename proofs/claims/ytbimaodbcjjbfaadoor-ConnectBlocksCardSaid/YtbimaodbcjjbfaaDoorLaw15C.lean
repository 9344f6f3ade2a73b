/- A part of the proofs of statements of this seat: contracts of functions, and the plain laws that they lean on. No conditions. -/
import Derived.Test.YtbimaodbcjjbfaaDoorLaw15A
import Derived.Test.YtbimaodbcjjbfaaDoorGraphM5
namespace Go.Sl
open Go.Proofs
set_option linter.unusedVariables false
set_option linter.unusedSimpArgs false
set_option maxRecDepth 4000
def nodesL (b : List Pt) : List Int := b.flatMap fun e => [e.u, e.v]
theorem nodesL_take {b : List Pt} {k : Nat} (h : k < b.length) : nodesL (b.take (k + 1)) = nodesL (b.take k) ++ [(at_ b (k : Int)).u, (at_ b (k : Int)).v] := by unfold nodesL; rw [take_at b k h, List.flatMap_append]; simp
theorem nodesL_len (b : List Pt) : (nodesL b).length = 2 * b.length := by
  unfold nodesL
  induction b with
  | nil => rfl
  | cons e b ih => rw [List.flatMap_cons, List.length_append, ih]; simp; omega
theorem mem_nodesL {b : List Pt} {x : Int} : x ∈ nodesL b ↔ ∃ e ∈ b, x = e.u ∨ x = e.v := by
  unfold nodesL; rw [List.mem_flatMap]; simp
/-- In how many of these a node is. -/
def cntB (bs : List (List Pt)) (v : Int) : Int := ((bs.filter fun b => decide (v ∈ nodesL b)).length : Int)
theorem cntB_take {bs : List (List Pt)} {k : Nat} (h : k < bs.length) (v : Int) : cntB (bs.take (k + 1)) v = cntB (bs.take k) v + (if v ∈ nodesL (at_ bs (k : Int)) then 1 else 0) := by
  unfold cntB
  rw [take_at bs k h, List.filter_append, List.length_append]
  by_cases hv : v ∈ nodesL (at_ bs (k : Int)) <;> simp [hv]
theorem cntB_le (bs : List (List Pt)) (v : Int) : 0 ≤ cntB bs v ∧ cntB bs v ≤ bs.length := by
  unfold cntB
  have := List.length_filter_le (fun b => decide (v ∈ nodesL b)) bs
  omega
theorem nodesM_bit {i : Nat} (hi : i < 64) (b : List Pt) : (nodesM b).getLsbD i = true ↔ (i : Int) ∈ nodesL b := by
  have key : ∀ (b : List Pt) (m : BitVec 64), (b.foldl (fun m e => m ||| (bitB e.u ||| bitB e.v)) m).getLsbD i = true ↔ (m.getLsbD i = true ∨ (i : Int) ∈ nodesL b) := fun b => by
    induction b with
    | nil => intro m; simp [nodesL]
    | cons e b ih =>
      intro m
      rw [List.foldl_cons, ih, BitVec.getLsbD_or, BitVec.getLsbD_or, getLsb_bitB hi, getLsb_bitB hi]
      simp only [nodesL, List.flatMap_cons, List.mem_append, List.mem_cons, List.not_mem_nil, or_false, Bool.or_eq_true, decide_eq_true_eq]
      constructor
      · rintro ((h | h | h) | h)
        · exact .inl h
        · exact .inr (.inl (.inl h.symm))
        · exact .inr (.inl (.inr h.symm))
        · exact .inr (.inr h)
      · rintro (h | (h | h) | h)
        · exact .inl (.inl h)
        · exact .inl (.inr (.inl h.symm))
        · exact .inl (.inr (.inr h.symm))
        · exact .inr h
  unfold nodesM
  rw [key b 0#64]; simp
theorem jointM_bit {i : Nat} (hi : i < 64) (bs : List (List Pt)) : (jointM bs).2.getLsbD i = true ↔ 1 < cntB bs (i : Int) := by
  have key : ∀ (bs : List (List Pt)) (p : BitVec 64 × BitVec 64) (c : Int), 0 ≤ c → (p.1.getLsbD i = true ↔ 0 < c) → (p.2.getLsbD i = true ↔ 1 < c) →
      ((bs.foldl (fun p b => (p.1 ||| nodesM b, p.2 ||| (p.1 &&& nodesM b))) p).2.getLsbD i = true ↔ 1 < c + cntB bs (i : Int)) := fun bs => by
    induction bs with
    | nil => intro p c _ h1 h2; rw [List.foldl_nil, h2]; simp [cntB]
    | cons b bs ih =>
      intro p c hc h1 h2
      have hb := nodesM_bit hi b
      have e1 : cntB (b :: bs) (i : Int) = (if (i : Int) ∈ nodesL b then 1 else 0) + cntB bs (i : Int) := by
        unfold cntB
        rw [List.filter_cons]
        by_cases hv : (i : Int) ∈ nodesL b <;> simp [hv]
        omega
      rw [List.foldl_cons, e1, ← Int.add_assoc]
      refine ih _ _ (by split <;> omega) ?_ ?_
      · simp only [BitVec.getLsbD_or, Bool.or_eq_true, h1, hb]
        by_cases hv : (i : Int) ∈ nodesL b <;> simp only [hv, if_true, if_false, or_true, or_false, and_true, and_false, true_iff, iff_true] <;> omega
      · simp only [BitVec.getLsbD_or, BitVec.getLsbD_and, Bool.or_eq_true, Bool.and_eq_true, h1, h2, hb]
        by_cases hv : (i : Int) ∈ nodesL b <;> simp only [hv, if_true, if_false, or_true, or_false, and_true, and_false, true_iff, iff_true] <;> omega
  have := key bs (0#64, 0#64) 0 (Int.le_refl _) (by simp) (by simp)
  rw [Int.zero_add] at this
  exact this
theorem joint_iff {nd : Int} {es : List Pt} (hG : GrOk nd es) {v : Int} (h0 : 0 ≤ v) (h1 : v < nd) : v ∈ jointsG nd es ↔ 1 < cntB (blksG nd es) v := by
  have hr := hG.rng
  unfold jointsG blksG
  rw [if_neg (by rw [checkG_ok.2 hG]; decide), if_neg (by rw [checkG_ok.2 hG]; decide), mem_listB, jointM_bit (by omega), show ((v.toNat : Nat) : Int) = v by omega]
  exact ⟨fun h => h.2, fun h => ⟨h0, h⟩⟩
theorem blks_eq {nd : Int} {es : List Pt} (hG : GrOk nd es) : blksG nd es = blkR (rowsB nd es) := by unfold blksG; rw [if_neg (by rw [checkG_ok.2 hG]; decide)]; rfl
theorem blks_mem {nd : Int} {es : List Pt} (hG : GrOk nd es) {b : List Pt} (hb : b ∈ blksG nd es) {e : Pt} (he : e ∈ b) : e ∈ es ∧ edgeP e.u e.v = e := by
  rw [blks_eq hG] at hb
  have h1 := ((blk_ok (rowsG_of hG)).1.mem e).1 (List.mem_flatten.2 ⟨b, hb, he⟩)
  have h2 := (adj_mem hG).1 h1
  have := hG.edge e h2
  exact ⟨h2, by unfold edgeP; rw [if_neg (by omega), if_pos (by omega)]⟩
theorem blks_ne {nd : Int} {es : List Pt} (hG : GrOk nd es) {b : List Pt} (hb : b ∈ blksG nd es) : b ≠ [] := by rw [blks_eq hG] at hb; exact (blk_ok (rowsG_of hG)).1.full b hb
theorem blks_perm {nd : Int} {es : List Pt} (hG : GrOk nd es) : (blksG nd es).flatten.Perm es := by
  rw [blks_eq hG]
  have h := (blk_ok (rowsG_of hG)).1
  exact (List.perm_ext_iff_of_nodup h.nd (asc_nodup hG.asc)).2 fun e => (h.mem e).trans (adj_mem hG)
theorem bridges_ok {nd : Int} {es : List Pt} (hG : GrOk nd es) : GrOk nd (bridgesG nd es) := by
  have hb := blk_ok (rowsG_of hG)
  have e1 : bridgesG nd es = brL (blksG nd es) := by unfold bridgesG blksG; rw [if_neg (by rw [checkG_ok.2 hG]; decide), if_neg (by rw [checkG_ok.2 hG]; decide)]
  rw [e1]
  refine ⟨hG.rng, ?_, fun e he => ?_⟩
  · unfold AscP brL
    rw [List.pairwise_map, blks_eq hG]
    exact hb.2.2.sublist List.filter_sublist
  · unfold brL at he
    obtain ⟨b, hbm, rfl⟩ := List.mem_map.1 he
    have h2 := (List.mem_filter.1 hbm).1
    exact hG.edge _ (blks_mem hG h2 (hd0_mem (blks_ne hG h2))).1
theorem bridges_eq {nd : Int} {es : List Pt} (hG : GrOk nd es) : bridgesG nd es = brL (blksG nd es) := by unfold bridgesG blksG; rw [if_neg (by rw [checkG_ok.2 hG]; decide), if_neg (by rw [checkG_ok.2 hG]; decide)]
theorem find_ge {nd u v y : Int} {es : List Pt} (h : FindP nd es u v y) (hG : GrOk nd es) (he : edgeP u v ∈ es) : 0 ≤ y := by
  rcases h with ⟨_, j, rfl, _⟩ | ⟨_, h1 | h1⟩
  · omega
  · exact absurd (checkG_ok.2 hG) h1
  · exact absurd he h1
theorem in_take {l : List Int} (hn : l.Nodup) {j : Nat} (hj : j < l.length) (x : Int) : x ∈ l.take (j + 1) ↔ x ∈ l.take j ∨ x = at_ l (j : Int) := by rw [take_at l j hj, List.mem_append, List.mem_singleton]
theorem not_take {l : List Int} (hn : l.Nodup) {j : Nat} (hj : j < l.length) : at_ l (j : Int) ∉ l.take j := fun hm => by
  have h1 : (l.take (j + 1)).Nodup := hn.sublist (List.take_sublist _ _)
  rw [take_at l j hj, List.nodup_append] at h1
  exact h1.2.2 _ hm _ List.mem_cons_self rfl
theorem ofL_nodup (l : List Int) : (ofL l).Nodup := (ofL_asc l).imp fun h => by omega
theorem seen_step {seen1 O : List Int} {q : Nat} {n : Int} {f : Int → Int} (hO : O.Nodup) (hq : q < O.length) (hl : seen1.length = n.toNat) (hov : 0 ≤ at_ O (q : Int) ∧ at_ O (q : Int) < n) (h : ∀ v : Int, 0 ≤ v → v < n → at_ seen1 v = f v + (if v ∈ O.take q then 1 else 0)) :
    ∀ v : Int, 0 ≤ v → v < n → at_ (seen1.set (at_ O (q : Int)).toNat (at_ seen1 (at_ O (q : Int)) + 1)) v = f v + (if v ∈ O.take (q + 1) then 1 else 0) := fun v h0 h1 => by
  rw [at_set _ _ _ _ hov.1 h0 (by omega)]
  have hit := in_take hO (j := q) hq v
  have hnt := not_take hO (j := q) hq
  by_cases e : at_ O (q : Int) = v
  · rw [if_pos e, h _ hov.1 hov.2, if_neg hnt, if_pos (hit.2 (.inr e.symm)), e]; omega
  · rw [if_neg e, h v h0 h1]
    by_cases h9 : v ∈ O.take q
    · rw [if_pos h9, if_pos (hit.2 (.inl h9))]
    · rw [if_neg h9, if_neg (fun h8 => (hit.1 h8).elim h9 fun h7 => e h7.symm)]
theorem nodes_in {nd : Int} {es : List Pt} (hG : GrOk nd es) {b : List Pt} (hb : b ∈ blksG nd es) {x : Int} (hx : x ∈ nodesL b) : 0 ≤ x ∧ x < nd := by
  obtain ⟨e, he, h⟩ := mem_nodesL.1 hx
  have := hG.edge e (blks_mem hG hb he).1
  rcases h with rfl | rfl <;> omega

theorem at_rep0 (n : Nat) (i : Int) : at_ (List.replicate n (default : Int)) i = 0 := by
  unfold at_
  rw [List.getD_eq_getElem?_getD, List.getElem?_replicate]; split <;> rfl

set_option maxHeartbeats 4000000 in
theorem ConnectBlocks_walk {κ : Ctx} {I : List Item} {la : Option Addr} {ln lc : Nat} {ls : List Int} (hl : Sl κ I (.slice la ln lc) ls) (hT : TabRd κ I 0 tzCells) :
    CallS Tryd.prog κ 3 [.slice la ln lc] I (fun r J => r = .bool true ∧ I = J) := by
 refine CallS.enter (L := [(0, .slice la ln lc)]) Tryd.func3 rfl rfl rfl rfl ?_
 refine W.sr ?_
 refine G.r (Runs.assign rfl) ?_
 refine G.nt ?_
 refine W.sr ?_
 refine G.r (Runs.move rfl) ?_
 refine G.e (Eff.call call13 rfl rfl New_ok) ?_
 rintro _ _ ⟨_, _, ⟨dk1, rfl, rfl⟩, rfl, rfl⟩
 show G Tryd.prog κ _ _ _ _ ([(24, .pointer (some ⟨dk1, 0, none⟩)), (23, .slice la ln lc), (2, .bool false), (0, .slice la ln lc)] : Env) (blk dk1 [.slice la ln lc, I64 (0)] 96 :: I)
 have hi0 : (0 : Int) ≤ 0 := Int.le_refl _
 refine G.e (Eff.call call12 rfl rfl (MkGraph_at (by repeat (first | exact AtF.head _ _ | apply AtF.tail)) (fun _ => Sl.fit hl Fit.m) (by omega)  (by omega))) ?_
 rintro _ _ ⟨_, _, ⟨⟨nd2, ad3, cp4, es5, i6⟩, ⟨⟨rfl, hges5⟩, hi6⟩, rfl⟩, rfl, rfl⟩
 show G Tryd.prog κ _ _ _ _ ([(25, .agg #[I64 (nd2), .slice ad3 es5.length cp4]), (24, .pointer (some ⟨dk1, 0, none⟩)), (23, .slice la ln lc), (2, .bool false), (0, .slice la ln lc)] : Env) (vc 38 (.slice ad3 es5.length cp4) (es5) :: blk dk1 [.slice la ln lc, I64 (i6)] 96 :: I)
 have hi6 : 0 ≤ i6 := hi6
 dsimp only at hges5
 refine G.e (Eff.alloc ty25 rfl) ?_
 rintro _ _ ⟨b7, rfl, rfl⟩
 refine G.e (Eff.st (cs := [_, _]) (vs := [_, _]) (cs' := [_, _]) ty25) ?_
 rintro _ _ ⟨rfl, rfl⟩
 have hG := hges5.2.1
 have hel := hges5.2.2
 have hnd := hges5.1
 have hrng := hG.rng
 refine G.nt ?_
 refine W.sr ?_
 refine G.r (Runs.lds (vs := [_, _]) ty25) ?_
 refine G.e (Eff.call call14 rfl rfl (BlksC_ok (nd := nd2) Sl.o (TabRd.fit hT Fit.m))) ?_
 rintro _ _ ⟨_, _, ⟨ad8, cp9, rs10, rfl, hrs10, hbrs10, rfl⟩, rfl, rfl⟩
 refine G.fit (J := vc 23 (.slice ad8 rs10.length cp9) (rs10) :: blk b7 [I64 (nd2), .slice ad3 es5.length cp4] 25 :: vc 38 (.slice ad3 es5.length cp4) (es5) :: blk dk1 [.slice la ln lc, I64 (i6)] 96 :: (ownR 38 rs10 ++ I)) Fit.s ?_
 refine G.r (Runs.move rfl) ?_
 refine G.r (Runs.extract rfl rfl) ?_
 refine G.r (Runs.extract rfl rfl) ?_
 refine G.r (Runs.assign rfl) ?_
 refine G.r (Runs.assign rfl) ?_
 have hcl := len_xs hrs10
 have hpm := (blks_perm hG).length_eq
 have hcz := checkG_ok.2 hG
 refine G.nt ?_
 refine W.sr ?_
 refine G.r (Runs.lds (vs := [_, _]) ty25) ?_
 refine G.e (Eff.call call15 rfl rfl (Bridges_ok (nd := nd2) Sl.o (TabRd.fit hT Fit.m))) ?_
 rintro _ _ ⟨_, _, ⟨ad11, cp12, rfl, rfl⟩, rfl, rfl⟩
 refine G.r (Runs.move rfl) ?_
 refine G.r (Runs.extract rfl rfl) ?_
 refine G.r (Runs.extract rfl rfl) ?_
 refine G.r (Runs.assign rfl) ?_
 refine G.r (Runs.assign rfl) ?_
 refine G.nt ?_
 refine W.sub (L' := [(7, _), (6, _), (5, _), (4, _), (3, _)]) (Sub.cons rfl (Sub.cons rfl (Sub.cons rfl (Sub.cons rfl (Sub.cons rfl Sub.nil))))) ?_
 refine W.sr ?_
 refine G.r (Runs.lds (vs := [_, _]) ty25) ?_
 refine G.e (Eff.call call16 rfl rfl (Joints_ok (nd := nd2) Sl.o (TabRd.fit hT Fit.m))) ?_
 rintro _ _ ⟨_, _, ⟨ad13, cp14, rfl, rfl⟩, rfl, rfl⟩
 refine G.r (Runs.move rfl) ?_
 refine G.r (Runs.extract rfl rfl) ?_
 refine G.r (Runs.extract rfl rfl) ?_
 refine G.r (Runs.assign rfl) ?_
 refine G.r (Runs.assign rfl) ?_
 refine G.nt ?_
 refine W.seq ?_
 refine W.sr ?_
 refine G.r (Runs.move rfl) ?_
 refine G.r (Runs.move rfl) ?_
 refine G.r (Runs.add rfl rfl (by unfold InR; first | omega | (have h2 := hsb (by omega); omega))) ?_
 refine G.r (Runs.move rfl) ?_
 refine G.r (Runs.add rfl rfl (by unfold InR; first | omega | (have h2 := hsb (by omega); omega))) ?_
 refine G.r (Runs.neq rfl rfl) ?_
 refine G.nt ?_
 refine W.sub (L' := [(46, _), (8, _), (6, _), (4, _), (3, _)]) (Sub.cons rfl (Sub.cons rfl (Sub.cons rfl (Sub.cons rfl (Sub.cons rfl Sub.nil))))) ?_
 refine W.ite rfl (fun c46 => ?_) (fun c46 => ?_)
 ·exact absurd (by omega) c46
 ·refine W.skip ?_
  refine V.then ?_
  refine W.sr ?_
  refine G.r (Runs.fieldAddr fld25_0 rfl) ?_
  refine G.r (Runs.ld ty3) ?_
  refine G.e (Eff.make (α := Int) (n := (nd2).toNat) Tryd.underlying22 ty3 rfl rfl rfl (by omega) (by omega) (by decide) rfl) ?_
  rintro _ _ ⟨ad15, cp16, rfl, rfl⟩
  have hrep : (List.replicate ((nd2).toNat) (default : Int)).length = (nd2).toNat := List.length_replicate
  refine G.r (Runs.assign rfl) ?_
  refine G.nt ?_
  refine W.sr ?_
  refine G.r (Runs.assign rfl) ?_
  refine G.r (Runs.assign rfl) ?_
  refine G.nt ?_
  refine W.seq ?_
  refine W.sr ?_
  refine G.r (Runs.move rfl) ?_
  refine G.r (Runs.lens Tryd.underlying29 rfl) ?_
  refine G.r (Runs.move rfl) ?_
  refine G.nt ?_
  refine W.sub (L' := [(52, _), (51, _), (50, _), (12, _), (11, _), (10, _), (8, _), (6, _), (3, _)]) (Sub.cons rfl (Sub.cons rfl (Sub.cons rfl (Sub.cons rfl (Sub.cons rfl (Sub.cons rfl (Sub.cons rfl (Sub.cons rfl (Sub.cons rfl Sub.nil))))))))) ?_
  refine W.block ?_
  refine W.loop (σ := Nat × Int × Int × (List Int)) (fun s => ([(3, .pointer (some ⟨b7, 0, none⟩)), (6, .slice ad11 (bridgesG nd2 es5).length cp12), (8, .slice ad13 (jointsG nd2 es5).length cp14), (10, .slice ad15 (List.replicate ((nd2).toNat) (default : Int)).length cp16), (11, I64 (s.2.1)), (12, I64 (s.2.2.1)), (50, .slice ad8 rs10.length cp9), (51, I64 (((rs10.length : Nat) : Int))), (52, I64 (((s.1 : Nat) : Int)))] : Env)) (fun s => vc 3 (.slice ad15 (List.replicate ((nd2).toNat) (default : Int)).length cp16) (s.2.2.2) :: vc 3 (.slice ad13 (jointsG nd2 es5).length cp14) (jointsG nd2 es5) :: vc 38 (.slice ad11 (bridgesG nd2 es5).length cp12) (bridgesG nd2 es5) :: vc 23 (.slice ad8 rs10.length cp9) (rs10) :: blk b7 [I64 (nd2), .slice ad3 es5.length cp4] 25 :: vc 38 (.slice ad3 es5.length cp4) (es5) :: blk dk1 [.slice la ln lc, I64 (i6)] 96 :: (ownR 38 rs10 ++ I)) (fun s => (s.1 ≤ rs10.length) ∧ (s.2.1 = (((blksG nd2 es5).take s.1).flatten.length : Nat)) ∧ (s.2.2.1 = ((brL ((blksG nd2 es5).take s.1)).length : Nat)) ∧ (s.2.2.2.length = (nd2).toNat) ∧ (∀ v : Int, 0 ≤ v → v < nd2 → at_ s.2.2.2 v = cntB ((blksG nd2 es5).take s.1) v)) (fun s => rs10.length - s.1) (0, 0, 0, List.replicate ((nd2).toNat) (default : Int)) (show ((0 : Nat) ≤ rs10.length) ∧ ((0 : Int) = (((blksG nd2 es5).take (0 : Nat)).flatten.length : Nat)) ∧ ((0 : Int) = ((brL ((blksG nd2 es5).take (0 : Nat))).length : Nat)) ∧ ((List.replicate ((nd2).toNat) (default : Int) : List Int).length = (nd2).toNat) ∧ (∀ v : Int, 0 ≤ v → v < nd2 → at_ (List.replicate ((nd2).toNat) (default : Int) : List Int) v = cntB ((blksG nd2 es5).take (0 : Nat)) v) from ⟨(by omega), (by simp), (by simp [brL]), (by simp), (fun v h0 h1 => by rw [show at_ (List.replicate ((nd2).toNat) (default : Int)) v = 0 from at_rep0 _ _]; simp [cntB])⟩) (Sub.cons rfl (Sub.cons rfl (Sub.cons rfl (Sub.cons rfl (Sub.cons lookO (Sub.cons lookO (Sub.cons rfl (Sub.cons rfl (Sub.cons lookO Sub.nil))))))))) (show Fit κ _ (vc 3 (.slice ad15 (List.replicate ((nd2).toNat) (default : Int)).length cp16) ((List.replicate ((nd2).toNat) (default : Int))) :: vc 3 (.slice ad13 (jointsG nd2 es5).length cp14) (jointsG nd2 es5) :: vc 38 (.slice ad11 (bridgesG nd2 es5).length cp12) (bridgesG nd2 es5) :: vc 23 (.slice ad8 rs10.length cp9) (rs10) :: blk b7 [I64 (nd2), .slice ad3 es5.length cp4] 25 :: vc 38 (.slice ad3 es5.length cp4) (es5) :: blk dk1 [.slice la ln lc, I64 (i6)] 96 :: (ownR 38 rs10 ++ I)) from Fit.sub) ?_
  rintro ⟨k, edg, sng, seen⟩ hp
  obtain ⟨hk, hed, hsg, hsl, hsv⟩ : (k ≤ rs10.length) ∧ (edg = (((blksG nd2 es5).take k).flatten.length : Nat)) ∧ (sng = ((brL ((blksG nd2 es5).take k)).length : Nat)) ∧ (seen.length = (nd2).toNat) ∧ (∀ v : Int, 0 ≤ v → v < nd2 → at_ seen v = cntB ((blksG nd2 es5).take k) v) := hp
  show W Tryd.prog κ 147 _ _ ([(3, .pointer (some ⟨b7, 0, none⟩)), (6, .slice ad11 (bridgesG nd2 es5).length cp12), (8, .slice ad13 (jointsG nd2 es5).length cp14), (10, .slice ad15 (List.replicate ((nd2).toNat) (default : Int)).length cp16), (11, I64 (edg)), (12, I64 (sng)), (50, .slice ad8 rs10.length cp9), (51, I64 (((rs10.length : Nat) : Int))), (52, I64 (((k : Nat) : Int)))] : Env) (vc 3 (.slice ad15 (List.replicate ((nd2).toNat) (default : Int)).length cp16) (seen) :: vc 3 (.slice ad13 (jointsG nd2 es5).length cp14) (jointsG nd2 es5) :: vc 38 (.slice ad11 (bridgesG nd2 es5).length cp12) (bridgesG nd2 es5) :: vc 23 (.slice ad8 rs10.length cp9) (rs10) :: blk b7 [I64 (nd2), .slice ad3 es5.length cp4] 25 :: vc 38 (.slice ad3 es5.length cp4) (es5) :: blk dk1 [.slice la ln lc, I64 (i6)] 96 :: (ownR 38 rs10 ++ I))
  refine W.pull (Sl.le (Sl.vec (xs := rs10) (by repeat (first | exact List.mem_cons_self | apply List.mem_cons_of_mem)))) fun hmx => ?_
  have hfl : k < rs10.length → (((blksG nd2 es5).take k).flatten.length : Int) + (at_ rs10 ((k : Nat) : Int)).xs.length ≤ es5.length := fun h => by have := flat_take_le (L := (blksG nd2 es5)) (k := k) (by omega); rw [at_xs hrs10 h] at this; omega
  have hbm : k < rs10.length → (at_ rs10 ((k : Nat) : Int)).xs ∈ (blksG nd2 es5) := fun h => by rw [← at_xs hrs10 h]; exact at_mem (by omega) (by omega)
  have hbr : (brL ((blksG nd2 es5).take k)).length ≤ k := by refine Nat.le_trans (brL_len _) ?_; rw [List.length_take]; omega
  refine W.sr ?_
  refine G.r (Runs.lss rfl rfl) ?_
  refine G.nt ?_
  refine W.seq ?_
  refine W.ite rfl (fun c53 => ?_) (fun c53 => ?_)
  ·refine W.skip ?_
   refine V.then ?_
   refine W.seq ?_
   refine W.block ?_
   refine W.sr ?_
   refine G.r (Runs.idx (α := (RowG Pt)) (xs := rs10) Tryd.underlying29 ty23 rfl rfl Sl.o (by first | omega | exact (hov (by omega)).1) (by first | omega | (have h2 := hov (by omega); omega))) ?_
   refine G.r (Runs.getf0 (α := (RowG Pt)) (xs := rs10) (u := .slice (at_ rs10 ((k : Nat) : Int)).a (at_ rs10 ((k : Nat) : Int)).xs.length (at_ rs10 ((k : Nat) : Int)).c) ty23 rfl Sl.o (by first | omega | exact (hov (by omega)).1) (by first | omega | (have h2 := hov (by omega); omega)) rfl) ?_
   refine G.r (Runs.assign rfl) ?_
   refine G.nt ?_
   refine W.seq ?_
   refine W.sr ?_
   refine G.r (Runs.move rfl) ?_
   refine G.r (Runs.lens Tryd.underlying23 rfl) ?_
   refine G.r (Runs.eql rfl rfl) ?_
   refine G.nt ?_
   refine W.sub (L' := [(58, _), (14, _), (3, _), (6, _), (8, _), (10, _), (11, _), (12, _), (50, _), (51, _), (52, _)]) (Sub.cons rfl (Sub.cons rfl (Sub.cons rfl (Sub.cons rfl (Sub.cons rfl (Sub.cons rfl (Sub.cons rfl (Sub.cons rfl (Sub.cons rfl (Sub.cons rfl (Sub.cons rfl Sub.nil))))))))))) ?_
   refine W.ite rfl (fun c58 => ?_) (fun c58 => ?_)
   ·exact absurd (List.eq_nil_of_length_eq_zero (by omega)) (blks_ne hG (hbm (by omega)))
   ·refine W.skip ?_
    refine V.then ?_
    refine W.sr ?_
    refine G.r (Runs.assign rfl) ?_
    refine G.nt ?_
    refine W.seq ?_
    refine W.sr ?_
    refine G.r (Runs.move rfl) ?_
    refine G.r (Runs.lens Tryd.underlying23 rfl) ?_
    refine G.r (Runs.move rfl) ?_
    refine G.nt ?_
    refine W.sub (L' := [(61, _), (60, _), (59, _), (15, _), (14, _), (3, _), (6, _), (8, _), (10, _), (11, _), (12, _), (50, _), (51, _), (52, _)]) (Sub.cons rfl (Sub.cons rfl (Sub.cons rfl (Sub.cons rfl (Sub.cons rfl (Sub.cons rfl (Sub.cons rfl (Sub.cons rfl (Sub.cons rfl (Sub.cons rfl (Sub.cons rfl (Sub.cons rfl (Sub.cons rfl (Sub.cons rfl Sub.nil)))))))))))))) ?_
    refine W.block ?_
    refine W.loop (σ := Nat × (Option Addr) × Nat × (List Int)) (fun s => ([(3, .pointer (some ⟨b7, 0, none⟩)), (6, .slice ad11 (bridgesG nd2 es5).length cp12), (8, .slice ad13 (jointsG nd2 es5).length cp14), (10, .slice ad15 (List.replicate ((nd2).toNat) (default : Int)).length cp16), (11, I64 (edg)), (12, I64 (sng)), (14, .slice (at_ rs10 ((k : Nat) : Int)).a (at_ rs10 ((k : Nat) : Int)).xs.length (at_ rs10 ((k : Nat) : Int)).c), (15, .slice s.2.1 s.2.2.2.length s.2.2.1), (50, .slice ad8 rs10.length cp9), (51, I64 (((rs10.length : Nat) : Int))), (52, I64 (((k : Nat) : Int))), (59, .slice (at_ rs10 ((k : Nat) : Int)).a (at_ rs10 ((k : Nat) : Int)).xs.length (at_ rs10 ((k : Nat) : Int)).c), (60, I64 ((((at_ rs10 ((k : Nat) : Int)).xs.length : Nat) : Int))), (61, I64 (((s.1 : Nat) : Int)))] : Env)) (fun s => vc 3 (.slice s.2.1 s.2.2.2.length s.2.2.1) (s.2.2.2) :: vc 3 (.slice ad15 (List.replicate ((nd2).toNat) (default : Int)).length cp16) (seen) :: vc 3 (.slice ad13 (jointsG nd2 es5).length cp14) (jointsG nd2 es5) :: vc 38 (.slice ad11 (bridgesG nd2 es5).length cp12) (bridgesG nd2 es5) :: vc 23 (.slice ad8 rs10.length cp9) (rs10) :: blk b7 [I64 (nd2), .slice ad3 es5.length cp4] 25 :: vc 38 (.slice ad3 es5.length cp4) (es5) :: blk dk1 [.slice la ln lc, I64 (i6)] 96 :: (ownR 38 rs10 ++ I)) (fun s => (s.1 ≤ (at_ rs10 ((k : Nat) : Int)).xs.length) ∧ (s.2.2.2 = nodesL ((at_ rs10 ((k : Nat) : Int)).xs.take s.1))) (fun s => (at_ rs10 ((k : Nat) : Int)).xs.length - s.1) (0, none, 0, []) (show ((0 : Nat) ≤ (at_ rs10 ((k : Nat) : Int)).xs.length) ∧ (([] : List Int) = nodesL ((at_ rs10 ((k : Nat) : Int)).xs.take (0 : Nat))) from ⟨(by omega), rfl⟩) (Sub.cons rfl (Sub.cons rfl (Sub.cons rfl (Sub.cons rfl (Sub.cons rfl (Sub.cons rfl (Sub.cons rfl (Sub.cons (lookV rfl (by first | rfl | simp)) (Sub.cons rfl (Sub.cons rfl (Sub.cons rfl (Sub.cons rfl (Sub.cons rfl (Sub.cons lookO Sub.nil)))))))))))))) (show Fit κ _ (vc 3 (.slice (none) ([]).length (0)) (([])) :: vc 3 (.slice ad15 (List.replicate ((nd2).toNat) (default : Int)).length cp16) (seen) :: vc 3 (.slice ad13 (jointsG nd2 es5).length cp14) (jointsG nd2 es5) :: vc 38 (.slice ad11 (bridgesG nd2 es5).length cp12) (bridgesG nd2 es5) :: vc 23 (.slice ad8 rs10.length cp9) (rs10) :: blk b7 [I64 (nd2), .slice ad3 es5.length cp4] 25 :: vc 38 (.slice ad3 es5.length cp4) (es5) :: blk dk1 [.slice la ln lc, I64 (i6)] 96 :: (ownR 38 rs10 ++ I)) from (Fit.nilvc _ _)) ?_
    rintro ⟨j, na, nc, nodes⟩ hp
    obtain ⟨hj, hno⟩ : (j ≤ (at_ rs10 ((k : Nat) : Int)).xs.length) ∧ (nodes = nodesL ((at_ rs10 ((k : Nat) : Int)).xs.take j)) := hp
    show W Tryd.prog κ 147 _ _ ([(3, .pointer (some ⟨b7, 0, none⟩)), (6, .slice ad11 (bridgesG nd2 es5).length cp12), (8, .slice ad13 (jointsG nd2 es5).length cp14), (10, .slice ad15 (List.replicate ((nd2).toNat) (default : Int)).length cp16), (11, I64 (edg)), (12, I64 (sng)), (14, .slice (at_ rs10 ((k : Nat) : Int)).a (at_ rs10 ((k : Nat) : Int)).xs.length (at_ rs10 ((k : Nat) : Int)).c), (15, .slice na nodes.length nc), (50, .slice ad8 rs10.length cp9), (51, I64 (((rs10.length : Nat) : Int))), (52, I64 (((k : Nat) : Int))), (59, .slice (at_ rs10 ((k : Nat) : Int)).a (at_ rs10 ((k : Nat) : Int)).xs.length (at_ rs10 ((k : Nat) : Int)).c), (60, I64 ((((at_ rs10 ((k : Nat) : Int)).xs.length : Nat) : Int))), (61, I64 (((j : Nat) : Int)))] : Env) (vc 3 (.slice na nodes.length nc) (nodes) :: vc 3 (.slice ad15 (List.replicate ((nd2).toNat) (default : Int)).length cp16) (seen) :: vc 3 (.slice ad13 (jointsG nd2 es5).length cp14) (jointsG nd2 es5) :: vc 38 (.slice ad11 (bridgesG nd2 es5).length cp12) (bridgesG nd2 es5) :: vc 23 (.slice ad8 rs10.length cp9) (rs10) :: blk b7 [I64 (nd2), .slice ad3 es5.length cp4] 25 :: vc 38 (.slice ad3 es5.length cp4) (es5) :: blk dk1 [.slice la ln lc, I64 (i6)] 96 :: (ownR 38 rs10 ++ I))
    have hnl : nodes.length = 2 * j := by rw [hno, nodesL_len, List.length_take]; omega
    have hxm : j < (at_ rs10 ((k : Nat) : Int)).xs.length → at_ (at_ rs10 ((k : Nat) : Int)).xs ((j : Nat) : Int) ∈ (at_ rs10 ((k : Nat) : Int)).xs := fun h => at_mem (by omega) (by omega)
    refine W.sr ?_
    refine G.r (Runs.lss rfl rfl) ?_
    refine G.nt ?_
    refine W.sub (L' := [(62, _), (3, _), (6, _), (8, _), (10, _), (11, _), (12, _), (14, _), (15, _), (50, _), (51, _), (52, _), (59, _), (60, _), (61, _)]) (Sub.cons rfl (Sub.cons rfl (Sub.cons rfl (Sub.cons rfl (Sub.cons rfl (Sub.cons rfl (Sub.cons rfl (Sub.cons rfl (Sub.cons rfl (Sub.cons rfl (Sub.cons rfl (Sub.cons rfl (Sub.cons rfl (Sub.cons rfl (Sub.cons rfl Sub.nil))))))))))))))) ?_
    refine W.seq ?_
    refine W.ite rfl (fun c62 => ?_) (fun c62 => ?_)
    ·refine W.skip ?_
     refine V.then ?_
     refine W.sub (L' := [(3, _), (6, _), (8, _), (10, _), (11, _), (12, _), (14, _), (15, _), (50, _), (51, _), (52, _), (59, _), (60, _), (61, _)]) (Sub.cons rfl (Sub.cons rfl (Sub.cons rfl (Sub.cons rfl (Sub.cons rfl (Sub.cons rfl (Sub.cons rfl (Sub.cons rfl (Sub.cons rfl (Sub.cons rfl (Sub.cons rfl (Sub.cons rfl (Sub.cons rfl (Sub.cons rfl Sub.nil)))))))))))))) ?_
     refine W.seq ?_
     refine W.block ?_
     refine W.sr ?_
     refine G.r (Runs.idx (α := Pt) (xs := (at_ rs10 ((k : Nat) : Int)).xs) Tryd.underlying23 ty38 rfl rfl (HeldAll.at (ownR_in (e := 38) (rs := rs10) (fun x hx => by repeat (first | exact List.mem_append_left _ hx | apply List.mem_append_right | apply List.mem_cons_of_mem))) (i := ((k : Nat) : Int)) (by omega) (by omega)) (by first | omega | exact (hov (by omega)).1) (by first | omega | (have h2 := hov (by omega); omega))) ?_
     refine G.r (Runs.gets (α := Pt) (xs := (at_ rs10 ((k : Nat) : Int)).xs) ty38 rfl (HeldAll.at (ownR_in (e := 38) (rs := rs10) (fun x hx => by repeat (first | exact List.mem_append_left _ hx | apply List.mem_append_right | apply List.mem_cons_of_mem))) (i := ((k : Nat) : Int)) (by omega) (by omega)) (by first | omega | exact (hov (by omega)).1) (by first | omega | (have h2 := hov (by omega); omega))) ?_
     refine G.e (Eff.alloc ty38 rfl) ?_
     rintro _ _ ⟨b17, rfl, rfl⟩
     refine G.e (Eff.st (cs := [_, _]) (vs := [_, _]) (cs' := [_, _]) ty38) ?_
     rintro _ _ ⟨rfl, rfl⟩
     refine G.nt ?_
     refine W.sub (L' := [(17, _), (3, _), (6, _), (8, _), (10, _), (11, _), (12, _), (14, _), (15, _), (50, _), (51, _), (52, _), (59, _), (60, _), (61, _)]) (Sub.cons rfl (Sub.cons rfl (Sub.cons rfl (Sub.cons rfl (Sub.cons rfl (Sub.cons rfl (Sub.cons rfl (Sub.cons rfl (Sub.cons rfl (Sub.cons rfl (Sub.cons rfl (Sub.cons rfl (Sub.cons rfl (Sub.cons rfl (Sub.cons rfl Sub.nil))))))))))))))) ?_
     refine W.seq ?_
     refine W.sr ?_
     refine G.r (Runs.lds (vs := [_, _]) ty25) ?_
     refine G.r (Runs.fieldAddr fld38_0 rfl) ?_
     refine G.r (Runs.ld ty3) ?_
     refine G.r (Runs.fieldAddr fld38_1 rfl) ?_
     refine G.r (Runs.ld ty3) ?_
     refine G.e (Eff.call call17 rfl rfl (FindP03_ok (nd := nd2) Sl.o ((at_ ((at_ rs10 ((k : Nat) : Int)).xs) ((j : Nat) : Int)).u) ((at_ ((at_ rs10 ((k : Nat) : Int)).xs) ((j : Nat) : Int)).v) )) ?_
     rintro _ _ ⟨_, _, ⟨y18, rfl, hy18, rfl⟩, rfl, rfl⟩
     refine G.r (Runs.lss rfl rfl) ?_
     refine G.nt ?_
     refine W.sub (L' := [(71, _), (17, _), (3, _), (6, _), (8, _), (10, _), (11, _), (12, _), (14, _), (15, _), (50, _), (51, _), (52, _), (59, _), (60, _), (61, _)]) (Sub.cons rfl (Sub.cons rfl (Sub.cons rfl (Sub.cons rfl (Sub.cons rfl (Sub.cons rfl (Sub.cons rfl (Sub.cons rfl (Sub.cons rfl (Sub.cons rfl (Sub.cons rfl (Sub.cons rfl (Sub.cons rfl (Sub.cons rfl (Sub.cons rfl (Sub.cons rfl Sub.nil)))))))))))))))) ?_
     refine W.ite rfl (fun c71 => ?_) (fun c71 => ?_)
     ·exact absurd c71 (Int.not_lt.2 (find_ge hy18 hG (by rw [(blks_mem hG (hbm (by omega)) (hxm (by omega))).2]; exact (blks_mem hG (hbm (by omega)) (hxm (by omega))).1)))
     ·refine W.skip ?_
      refine V.then ?_
      refine W.sub (L' := [(17, _), (3, _), (6, _), (8, _), (10, _), (11, _), (12, _), (14, _), (15, _), (50, _), (51, _), (52, _), (59, _), (60, _), (61, _)]) (Sub.cons rfl (Sub.cons rfl (Sub.cons rfl (Sub.cons rfl (Sub.cons rfl (Sub.cons rfl (Sub.cons rfl (Sub.cons rfl (Sub.cons rfl (Sub.cons rfl (Sub.cons rfl (Sub.cons rfl (Sub.cons rfl (Sub.cons rfl (Sub.cons rfl Sub.nil))))))))))))))) ?_
      refine W.region ?_
      refine G.r (Runs.move rfl) ?_
      refine G.r (Runs.fieldAddr fld38_0 rfl) ?_
      refine G.r (Runs.ld ty3) ?_
      refine G.r (Runs.fieldAddr fld38_1 rfl) ?_
      refine G.r (Runs.ld ty3) ?_
      refine G.e (Eff.bs (α := Int) (cs := [_, _]) (xs := [(at_ ((at_ rs10 ((k : Nat) : Int)).xs) ((j : Nat) : Int)).u, (at_ ((at_ rs10 ((k : Nat) : Int)).xs) ((j : Nat) : Int)).v]) Tryd.underlying22 ty3 rfl rfl (by decide) (by decide) rfl rfl rfl rfl) ?_
      rintro _ _ ⟨ad19, rfl, rfl⟩
      refine G.e (Eff.app (α := Int) (e := 3) (xs := nodes) (ys := ([(at_ ((at_ rs10 ((k : Nat) : Int)).xs) ((j : Nat) : Int)).u, (at_ ((at_ rs10 ((k : Nat) : Int)).xs) ((j : Nat) : Int)).v] : List Int)) Tryd.underlying22 ty3 rfl rfl rfl (by repeat (first | exact List.mem_cons_self | apply List.mem_cons_of_mem)) Sl.o (by simp only [List.length_cons, List.length_nil]; omega) (by decide) rfl (fun _ _ => (by repeat (first | exact At.head _ _ _ | apply At.tail)))) ?_
      rintro _ _ ⟨ad20, cp21, rfl, rfl⟩
      refine G.r (Runs.assign rfl) ?_
      refine G.nil ?_
      refine V.block_normal ?_
      refine V.then ?_
      refine W.sub (L' := [(15, _), (3, _), (6, _), (8, _), (10, _), (11, _), (12, _), (14, _), (50, _), (51, _), (52, _), (59, _), (60, _), (61, _)]) (Sub.cons rfl (Sub.cons rfl (Sub.cons rfl (Sub.cons rfl (Sub.cons rfl (Sub.cons rfl (Sub.cons rfl (Sub.cons rfl (Sub.cons rfl (Sub.cons rfl (Sub.cons rfl (Sub.cons rfl (Sub.cons rfl (Sub.cons rfl Sub.nil)))))))))))))) ?_
      refine W.region ?_
      refine G.r (Runs.add rfl rfl (by unfold InR; first | omega | (have h2 := hsb (by omega); omega))) ?_
      refine G.r (Runs.move rfl) ?_
      refine G.nil ?_
      exact V.next ((j + 1), (ad20), (cp21), (nodes ++ ([(at_ ((at_ rs10 ((k : Nat) : Int)).xs) ((j : Nat) : Int)).u, (at_ ((at_ rs10 ((k : Nat) : Int)).xs) ((j : Nat) : Int)).v] : List Int))) (show ((j + 1 : Nat) ≤ (at_ rs10 ((k : Nat) : Int)).xs.length) ∧ ((nodes ++ ([(at_ ((at_ rs10 ((k : Nat) : Int)).xs) ((j : Nat) : Int)).u, (at_ ((at_ rs10 ((k : Nat) : Int)).xs) ((j : Nat) : Int)).v] : List Int) : List Int) = nodesL ((at_ rs10 ((k : Nat) : Int)).xs.take (j + 1 : Nat))) from ⟨(by omega), (by rw [nodesL_take (by omega), ← hno])⟩) (show (at_ rs10 ((k : Nat) : Int)).xs.length - (j + 1 : Nat) < (at_ rs10 ((k : Nat) : Int)).xs.length - j from (by omega)) (Sub.cons rfl (Sub.cons rfl (Sub.cons rfl (Sub.cons rfl (Sub.cons rfl (Sub.cons rfl (Sub.cons rfl (Sub.cons (lookV rfl (by first | rfl | simp)) (Sub.cons rfl (Sub.cons rfl (Sub.cons rfl (Sub.cons rfl (Sub.cons rfl (Sub.cons lookO Sub.nil)))))))))))))) (show Fit κ _ (vc 3 (.slice (ad20) (nodes ++ ([(at_ ((at_ rs10 ((k : Nat) : Int)).xs) ((j : Nat) : Int)).u, (at_ ((at_ rs10 ((k : Nat) : Int)).xs) ((j : Nat) : Int)).v] : List Int)).length (cp21)) ((nodes ++ ([(at_ ((at_ rs10 ((k : Nat) : Int)).xs) ((j : Nat) : Int)).u, (at_ ((at_ rs10 ((k : Nat) : Int)).xs) ((j : Nat) : Int)).v] : List Int))) :: vc 3 (.slice ad15 (List.replicate ((nd2).toNat) (default : Int)).length cp16) (seen) :: vc 3 (.slice ad13 (jointsG nd2 es5).length cp14) (jointsG nd2 es5) :: vc 38 (.slice ad11 (bridgesG nd2 es5).length cp12) (bridgesG nd2 es5) :: vc 23 (.slice ad8 rs10.length cp9) (rs10) :: blk b7 [I64 (nd2), .slice ad3 es5.length cp4] 25 :: vc 38 (.slice ad3 es5.length cp4) (es5) :: blk dk1 [.slice la ln lc, I64 (i6)] 96 :: (ownR 38 rs10 ++ I)) from (by first | exact Fit.s | exact Fit.sub))
    ·refine W.exit ?_
     refine V.then_exit ?_
     refine V.then_exit ?_
     refine V.block_hit ?_
     refine V.then ?_
     refine W.sub (L' := [(3, _), (6, _), (8, _), (10, _), (11, _), (12, _), (14, _), (15, _), (50, _), (51, _), (52, _)]) (Sub.cons rfl (Sub.cons rfl (Sub.cons rfl (Sub.cons rfl (Sub.cons rfl (Sub.cons rfl (Sub.cons rfl (Sub.cons rfl (Sub.cons rfl (Sub.cons rfl (Sub.cons rfl Sub.nil))))))))))) ?_
     refine W.seq ?_
     refine W.sr ?_
     refine G.r (Runs.move rfl) ?_
     refine G.e (Eff.call call18 rfl rfl (Of_ok Sl.o (by omega))) ?_
     rintro _ _ ⟨_, _, ⟨ad22, cp23, rfl, rfl⟩, rfl, rfl⟩
     refine G.r (Runs.lens Tryd.underlying22 rfl) ?_
     refine G.r (Runs.move rfl) ?_
     refine G.nt ?_
     refine W.sub (L' := [(83, _), (82, _), (81, _), (3, _), (6, _), (8, _), (10, _), (11, _), (12, _), (14, _), (50, _), (51, _), (52, _)]) (Sub.cons rfl (Sub.cons rfl (Sub.cons rfl (Sub.cons rfl (Sub.cons rfl (Sub.cons rfl (Sub.cons rfl (Sub.cons rfl (Sub.cons rfl (Sub.cons rfl (Sub.cons rfl (Sub.cons rfl (Sub.cons rfl Sub.nil))))))))))))) ?_
     refine W.block ?_
     refine W.loop (σ := Nat × (List Int)) (fun s => ([(3, .pointer (some ⟨b7, 0, none⟩)), (6, .slice ad11 (bridgesG nd2 es5).length cp12), (8, .slice ad13 (jointsG nd2 es5).length cp14), (10, .slice ad15 (List.replicate ((nd2).toNat) (default : Int)).length cp16), (11, I64 (edg)), (12, I64 (sng)), (14, .slice (at_ rs10 ((k : Nat) : Int)).a (at_ rs10 ((k : Nat) : Int)).xs.length (at_ rs10 ((k : Nat) : Int)).c), (50, .slice ad8 rs10.length cp9), (51, I64 (((rs10.length : Nat) : Int))), (52, I64 (((k : Nat) : Int))), (81, .slice ad22 (ofL nodes).length cp23), (82, I64 ((((ofL nodes).length : Nat) : Int))), (83, I64 (((s.1 : Nat) : Int)))] : Env)) (fun s => vc 3 (.slice ad22 (ofL nodes).length cp23) (ofL nodes) :: vc 3 (.slice na nodes.length nc) (nodes) :: vc 3 (.slice ad15 (List.replicate ((nd2).toNat) (default : Int)).length cp16) (s.2) :: vc 3 (.slice ad13 (jointsG nd2 es5).length cp14) (jointsG nd2 es5) :: vc 38 (.slice ad11 (bridgesG nd2 es5).length cp12) (bridgesG nd2 es5) :: vc 23 (.slice ad8 rs10.length cp9) (rs10) :: blk b7 [I64 (nd2), .slice ad3 es5.length cp4] 25 :: vc 38 (.slice ad3 es5.length cp4) (es5) :: blk dk1 [.slice la ln lc, I64 (i6)] 96 :: (ownR 38 rs10 ++ I)) (fun s => (s.1 ≤ (ofL nodes).length) ∧ (s.2.length = (nd2).toNat) ∧ (∀ v : Int, 0 ≤ v → v < nd2 → at_ s.2 v = cntB ((blksG nd2 es5).take k) v + (if v ∈ (ofL nodes).take s.1 then 1 else 0))) (fun s => (ofL nodes).length - s.1) (0, seen) (show ((0 : Nat) ≤ (ofL nodes).length) ∧ ((seen : List Int).length = (nd2).toNat) ∧ (∀ v : Int, 0 ≤ v → v < nd2 → at_ (seen : List Int) v = cntB ((blksG nd2 es5).take k) v + (if v ∈ (ofL nodes).take (0 : Nat) then 1 else 0)) from ⟨(by omega), hsl, (fun v h0 h1 => by rw [hsv v h0 h1]; simp)⟩) (Sub.cons rfl (Sub.cons rfl (Sub.cons rfl (Sub.cons rfl (Sub.cons rfl (Sub.cons rfl (Sub.cons rfl (Sub.cons rfl (Sub.cons rfl (Sub.cons rfl (Sub.cons rfl (Sub.cons rfl (Sub.cons lookO Sub.nil))))))))))))) (show Fit κ _ (vc 3 (.slice ad22 (ofL nodes).length cp23) (ofL nodes) :: vc 3 (.slice na nodes.length nc) (nodes) :: vc 3 (.slice ad15 (List.replicate ((nd2).toNat) (default : Int)).length cp16) ((seen)) :: vc 3 (.slice ad13 (jointsG nd2 es5).length cp14) (jointsG nd2 es5) :: vc 38 (.slice ad11 (bridgesG nd2 es5).length cp12) (bridgesG nd2 es5) :: vc 23 (.slice ad8 rs10.length cp9) (rs10) :: blk b7 [I64 (nd2), .slice ad3 es5.length cp4] 25 :: vc 38 (.slice ad3 es5.length cp4) (es5) :: blk dk1 [.slice la ln lc, I64 (i6)] 96 :: (ownR 38 rs10 ++ I)) from Fit.sub) ?_
     rintro ⟨q, seen1⟩ hp
     obtain ⟨hq, hsl1, hsv1⟩ : (q ≤ (ofL nodes).length) ∧ (seen1.length = (nd2).toNat) ∧ (∀ v : Int, 0 ≤ v → v < nd2 → at_ seen1 v = cntB ((blksG nd2 es5).take k) v + (if v ∈ (ofL nodes).take q then 1 else 0)) := hp
     show W Tryd.prog κ 147 _ _ ([(3, .pointer (some ⟨b7, 0, none⟩)), (6, .slice ad11 (bridgesG nd2 es5).length cp12), (8, .slice ad13 (jointsG nd2 es5).length cp14), (10, .slice ad15 (List.replicate ((nd2).toNat) (default : Int)).length cp16), (11, I64 (edg)), (12, I64 (sng)), (14, .slice (at_ rs10 ((k : Nat) : Int)).a (at_ rs10 ((k : Nat) : Int)).xs.length (at_ rs10 ((k : Nat) : Int)).c), (50, .slice ad8 rs10.length cp9), (51, I64 (((rs10.length : Nat) : Int))), (52, I64 (((k : Nat) : Int))), (81, .slice ad22 (ofL nodes).length cp23), (82, I64 ((((ofL nodes).length : Nat) : Int))), (83, I64 (((q : Nat) : Int)))] : Env) (vc 3 (.slice ad22 (ofL nodes).length cp23) (ofL nodes) :: vc 3 (.slice na nodes.length nc) (nodes) :: vc 3 (.slice ad15 (List.replicate ((nd2).toNat) (default : Int)).length cp16) (seen1) :: vc 3 (.slice ad13 (jointsG nd2 es5).length cp14) (jointsG nd2 es5) :: vc 38 (.slice ad11 (bridgesG nd2 es5).length cp12) (bridgesG nd2 es5) :: vc 23 (.slice ad8 rs10.length cp9) (rs10) :: blk b7 [I64 (nd2), .slice ad3 es5.length cp4] 25 :: vc 38 (.slice ad3 es5.length cp4) (es5) :: blk dk1 [.slice la ln lc, I64 (i6)] 96 :: (ownR 38 rs10 ++ I))
     have hov : q < (ofL nodes).length → 0 ≤ at_ (ofL nodes) ((q : Nat) : Int) ∧ at_ (ofL nodes) ((q : Nat) : Int) < nd2 := fun h => by have := (mem_ofL _ _).1 (at_mem (xs := (ofL nodes)) (i := (q : Int)) (by omega) (by omega)); have hE : nodes = nodesL (at_ rs10 ((k : Nat) : Int)).xs := by { rw [hno, List.take_of_length_le (by omega)] }; exact nodes_in hG (hbm (by omega)) (by rw [hE] at this ⊢; exact this)
     have hol2 := ofL_len nodes
     have hsb : q < (ofL nodes).length → 0 ≤ at_ seen1 (at_ (ofL nodes) ((q : Nat) : Int)) ∧ at_ seen1 (at_ (ofL nodes) ((q : Nat) : Int)) ≤ 5000 := fun h => by have h2 := hov h; rw [hsv1 _ h2.1 h2.2]; have := cntB_le ((blksG nd2 es5).take k) (at_ (ofL nodes) ((q : Nat) : Int)); rw [List.length_take] at this; split <;> omega
     refine W.sr ?_
     refine G.r (Runs.lss rfl rfl) ?_
     refine G.nt ?_
     refine W.sub (L' := [(84, _), (3, _), (6, _), (8, _), (10, _), (11, _), (12, _), (14, _), (50, _), (51, _), (52, _), (81, _), (82, _), (83, _)]) (Sub.cons rfl (Sub.cons rfl (Sub.cons rfl (Sub.cons rfl (Sub.cons rfl (Sub.cons rfl (Sub.cons rfl (Sub.cons rfl (Sub.cons rfl (Sub.cons rfl (Sub.cons rfl (Sub.cons rfl (Sub.cons rfl (Sub.cons rfl Sub.nil)))))))))))))) ?_
     refine W.seq ?_
     refine W.ite rfl (fun c84 => ?_) (fun c84 => ?_)
     ·refine W.skip ?_
      refine V.then ?_
      refine W.sub (L' := [(3, _), (6, _), (8, _), (10, _), (11, _), (12, _), (14, _), (50, _), (51, _), (52, _), (81, _), (82, _), (83, _)]) (Sub.cons rfl (Sub.cons rfl (Sub.cons rfl (Sub.cons rfl (Sub.cons rfl (Sub.cons rfl (Sub.cons rfl (Sub.cons rfl (Sub.cons rfl (Sub.cons rfl (Sub.cons rfl (Sub.cons rfl (Sub.cons rfl Sub.nil))))))))))))) ?_
      refine W.seq ?_
      refine W.block ?_
      refine W.sr ?_
      refine G.r (Runs.idx (α := Int) (xs := ofL nodes) Tryd.underlying22 ty3 rfl rfl Sl.o (by first | omega | exact (hov (by omega)).1) (by first | omega | (have h2 := hov (by omega); omega))) ?_
      refine G.r (Runs.get (xs := ofL nodes) ty3 rfl Sl.o (by first | omega | exact (hov (by omega)).1) (by first | omega | (have h2 := hov (by omega); omega))) ?_
      refine G.r (Runs.assign rfl) ?_
      refine G.nt ?_
      refine W.sub (L' := [(19, _), (3, _), (6, _), (8, _), (10, _), (11, _), (12, _), (14, _), (50, _), (51, _), (52, _), (81, _), (82, _), (83, _)]) (Sub.cons rfl (Sub.cons rfl (Sub.cons rfl (Sub.cons rfl (Sub.cons rfl (Sub.cons rfl (Sub.cons rfl (Sub.cons rfl (Sub.cons rfl (Sub.cons rfl (Sub.cons rfl (Sub.cons rfl (Sub.cons rfl (Sub.cons rfl Sub.nil)))))))))))))) ?_
      refine W.region ?_
      refine G.r (Runs.move rfl) ?_
      refine G.r (Runs.move rfl) ?_
      refine G.r (Runs.idx (α := Int) (xs := seen1) Tryd.underlying22 ty3 rfl rfl Sl.o (by first | omega | exact (hov (by omega)).1) (by first | omega | (have h2 := hov (by omega); omega))) ?_
      refine G.r (Runs.get (xs := seen1) ty3 rfl Sl.o (by first | omega | exact (hov (by omega)).1) (by first | omega | (have h2 := hov (by omega); omega))) ?_
      refine G.r (Runs.add rfl rfl (by unfold InR; first | omega | (have h2 := hsb (by omega); omega))) ?_
      refine G.r (Runs.idx (α := Int) (xs := seen1) Tryd.underlying22 ty3 rfl rfl Sl.o (by first | omega | exact (hov (by omega)).1) (by first | omega | (have h2 := hov (by omega); omega))) ?_
      refine G.e (Eff.set (α := Int) (xs := seen1) (e := 3) (new := (at_ seen1 (at_ (ofL nodes) ((q : Nat) : Int))) + 1) ty3 rfl rfl rfl (by first | omega | exact (hov (by omega)).1) (by first | omega | (have h2 := hov (by omega); omega)) (by repeat (first | exact At.head _ _ _ | apply At.tail))) ?_
      rintro _ _ ⟨rfl, rfl⟩
      refine G.nil ?_
      refine V.block_normal ?_
      refine V.then ?_
      refine W.sub (L' := [(3, _), (6, _), (8, _), (10, _), (11, _), (12, _), (14, _), (50, _), (51, _), (52, _), (81, _), (82, _), (83, _)]) (Sub.cons rfl (Sub.cons rfl (Sub.cons rfl (Sub.cons rfl (Sub.cons rfl (Sub.cons rfl (Sub.cons rfl (Sub.cons rfl (Sub.cons rfl (Sub.cons rfl (Sub.cons rfl (Sub.cons rfl (Sub.cons rfl Sub.nil))))))))))))) ?_
      refine W.region ?_
      refine G.r (Runs.add rfl rfl (by unfold InR; first | omega | (have h2 := hsb (by omega); omega))) ?_
      refine G.r (Runs.move rfl) ?_
      refine G.nil ?_
      have hov2 := hov (by omega)
      exact V.next ((q + 1), (List.set seen1 (at_ (ofL nodes) ((q : Nat) : Int)).toNat ((at_ seen1 (at_ (ofL nodes) ((q : Nat) : Int))) + 1))) (show ((q + 1 : Nat) ≤ (ofL nodes).length) ∧ ((List.set seen1 (at_ (ofL nodes) ((q : Nat) : Int)).toNat ((at_ seen1 (at_ (ofL nodes) ((q : Nat) : Int))) + 1) : List Int).length = (nd2).toNat) ∧ (∀ v : Int, 0 ≤ v → v < nd2 → at_ (List.set seen1 (at_ (ofL nodes) ((q : Nat) : Int)).toNat ((at_ seen1 (at_ (ofL nodes) ((q : Nat) : Int))) + 1) : List Int) v = cntB ((blksG nd2 es5).take k) v + (if v ∈ (ofL nodes).take (q + 1 : Nat) then 1 else 0)) from ⟨(by omega), (by rw [List.length_set]; exact hsl1), (seen_step (ofL_nodup nodes) (by omega) hsl1 hov2 hsv1)⟩) (show (ofL nodes).length - (q + 1 : Nat) < (ofL nodes).length - q from (by omega)) (Sub.cons rfl (Sub.cons rfl (Sub.cons rfl (Sub.cons rfl (Sub.cons rfl (Sub.cons rfl (Sub.cons rfl (Sub.cons rfl (Sub.cons rfl (Sub.cons rfl (Sub.cons rfl (Sub.cons rfl (Sub.cons lookO Sub.nil))))))))))))) (show Fit κ _ (vc 3 (.slice ad22 (ofL nodes).length cp23) (ofL nodes) :: vc 3 (.slice na nodes.length nc) (nodes) :: vc 3 (.slice ad15 (List.replicate ((nd2).toNat) (default : Int)).length cp16) ((List.set seen1 (at_ (ofL nodes) ((q : Nat) : Int)).toNat ((at_ seen1 (at_ (ofL nodes) ((q : Nat) : Int))) + 1))) :: vc 3 (.slice ad13 (jointsG nd2 es5).length cp14) (jointsG nd2 es5) :: vc 38 (.slice ad11 (bridgesG nd2 es5).length cp12) (bridgesG nd2 es5) :: vc 23 (.slice ad8 rs10.length cp9) (rs10) :: blk b7 [I64 (nd2), .slice ad3 es5.length cp4] 25 :: vc 38 (.slice ad3 es5.length cp4) (es5) :: blk dk1 [.slice la ln lc, I64 (i6)] 96 :: (ownR 38 rs10 ++ I)) from (by first | exact Fit.s | exact Fit.sub))
     ·refine W.exit ?_
      refine V.then_exit ?_
      refine V.then_exit ?_
      refine V.block_hit ?_
      refine V.then ?_
      refine W.sub (L' := [(3, _), (6, _), (8, _), (10, _), (11, _), (12, _), (14, _), (50, _), (51, _), (52, _)]) (Sub.cons rfl (Sub.cons rfl (Sub.cons rfl (Sub.cons rfl (Sub.cons rfl (Sub.cons rfl (Sub.cons rfl (Sub.cons rfl (Sub.cons rfl (Sub.cons rfl Sub.nil)))))))))) ?_
      refine W.sr ?_
      refine G.r (Runs.move rfl) ?_
      refine G.r (Runs.move rfl) ?_
      refine G.r (Runs.lens Tryd.underlying23 rfl) ?_
      refine G.r (Runs.add rfl rfl (by unfold InR; first | omega | (have h2 := hsb (by omega); omega))) ?_
      refine G.r (Runs.assign rfl) ?_
      refine G.nt ?_
      refine W.sub (L' := [(11, _), (3, _), (6, _), (8, _), (10, _), (12, _), (14, _), (50, _), (51, _), (52, _)]) (Sub.cons rfl (Sub.cons rfl (Sub.cons rfl (Sub.cons rfl (Sub.cons rfl (Sub.cons rfl (Sub.cons rfl (Sub.cons rfl (Sub.cons rfl (Sub.cons rfl Sub.nil)))))))))) ?_
      refine W.sr ?_
      refine G.r (Runs.move rfl) ?_
      refine G.r (Runs.lens Tryd.underlying23 rfl) ?_
      refine G.r (Runs.eql rfl rfl) ?_
      refine G.nt ?_
      refine W.ite rfl (fun c100 => ?_) (fun c100 => ?_)
      ·refine W.sr ?_
       refine G.r (Runs.move rfl) ?_
       refine G.r (Runs.add rfl rfl (by unfold InR; first | omega | (have h2 := hsb (by omega); omega))) ?_
       refine G.r (Runs.assign rfl) ?_
       refine G.nt ?_
       refine W.sub (L' := [(12, _), (11, _), (3, _), (6, _), (8, _), (10, _), (14, _), (50, _), (51, _), (52, _)]) (Sub.cons rfl (Sub.cons rfl (Sub.cons rfl (Sub.cons rfl (Sub.cons rfl (Sub.cons rfl (Sub.cons rfl (Sub.cons rfl (Sub.cons rfl (Sub.cons rfl Sub.nil)))))))))) ?_
       refine W.seq ?_
       refine W.drawn mixed ?_
       refine A.hold (vc 3 (.slice ad22 (ofL nodes).length cp23) (ofL nodes) :: vc 3 (.slice na nodes.length nc) (nodes) :: vc 3 (.slice ad15 (List.replicate ((nd2).toNat) (default : Int)).length cp16) (seen1) :: vc 3 (.slice ad13 (jointsG nd2 es5).length cp14) (jointsG nd2 es5) :: vc 38 (.slice ad11 (bridgesG nd2 es5).length cp12) (bridgesG nd2 es5) :: vc 23 (.slice ad8 rs10.length cp9) (rs10) :: blk b7 [I64 (nd2), .slice ad3 es5.length cp4] 25 :: vc 38 (.slice ad3 es5.length cp4) (es5) :: blk dk1 [.slice la ln lc, I64 (i6)] 96 :: (ownR 38 rs10 ++ I)) 14 ?_
       refine D.r 0 rfl (Runs.fieldAddr fld25_0 rfl) ?_ (hJ := Fit.sub)
       refine D.r 1 rfl (Runs.ld ty3) ?_ (hJ := Fit.sub)
       refine D.r 2 rfl (Runs.move rfl) ?_ (hJ := Fit.sub)
       refine D.r 3 rfl (Runs.build (cells := [_, _]) ty25 Tryd.underlying25 pl25 rfl rfl) ?_ (hJ := Fit.sub)
       refine D.r 4 rfl (Runs.move rfl) ?_ (hJ := Fit.sub)
       refine D.r 5 rfl (Runs.idx (α := Pt) (xs := (at_ rs10 ((k : Nat) : Int)).xs) Tryd.underlying23 ty38 rfl rfl (HeldAll.at (ownR_in (e := 38) (rs := rs10) (fun x hx => by repeat (first | exact List.mem_append_left _ hx | apply List.mem_append_right | apply List.mem_cons_of_mem))) (i := ((k : Nat) : Int)) (by omega) (by omega)) (by first | omega | exact (hov (by omega)).1) (by first | omega | (have h2 := hov (by omega); omega))) ?_ (hJ := Fit.sub)
       refine D.r 6 rfl (Runs.fld (α := Pt) (xs := (at_ rs10 ((k : Nat) : Int)).xs) fld38_0 rfl (HeldAll.at (ownR_in (e := 38) (rs := rs10) (fun x hx => by repeat (first | exact List.mem_append_left _ hx | apply List.mem_append_right | apply List.mem_cons_of_mem))) (i := ((k : Nat) : Int)) (by omega) (by omega)) (by first | omega | (have h2 := hov (by omega); omega))) ?_ (hJ := Fit.sub)
       refine D.r 7 rfl (Runs.getf (α := Pt) (xs := (at_ rs10 ((k : Nat) : Int)).xs) (u := I64 ((at_ ((at_ rs10 ((k : Nat) : Int)).xs) 0).u)) ty3 rfl (HeldAll.at (ownR_in (e := 38) (rs := rs10) (fun x hx => by repeat (first | exact List.mem_append_left _ hx | apply List.mem_append_right | apply List.mem_cons_of_mem))) (i := ((k : Nat) : Int)) (by omega) (by omega)) (by first | omega | exact (hov (by omega)).1) (by first | omega | (have h2 := hov (by omega); omega)) rfl) ?_ (hJ := Fit.sub)
       refine D.r 8 rfl (Runs.move rfl) ?_ (hJ := Fit.sub)
       refine D.r 9 rfl (Runs.idx (α := Pt) (xs := (at_ rs10 ((k : Nat) : Int)).xs) Tryd.underlying23 ty38 rfl rfl (HeldAll.at (ownR_in (e := 38) (rs := rs10) (fun x hx => by repeat (first | exact List.mem_append_left _ hx | apply List.mem_append_right | apply List.mem_cons_of_mem))) (i := ((k : Nat) : Int)) (by omega) (by omega)) (by first | omega | exact (hov (by omega)).1) (by first | omega | (have h2 := hov (by omega); omega))) ?_ (hJ := Fit.sub)
       refine D.r 10 rfl (Runs.fld (α := Pt) (xs := (at_ rs10 ((k : Nat) : Int)).xs) fld38_1 rfl (HeldAll.at (ownR_in (e := 38) (rs := rs10) (fun x hx => by repeat (first | exact List.mem_append_left _ hx | apply List.mem_append_right | apply List.mem_cons_of_mem))) (i := ((k : Nat) : Int)) (by omega) (by omega)) (by first | omega | (have h2 := hov (by omega); omega))) ?_ (hJ := Fit.sub)
       refine D.r 11 rfl (Runs.getf (α := Pt) (xs := (at_ rs10 ((k : Nat) : Int)).xs) (u := I64 ((at_ ((at_ rs10 ((k : Nat) : Int)).xs) 0).v)) ty3 rfl (HeldAll.at (ownR_in (e := 38) (rs := rs10) (fun x hx => by repeat (first | exact List.mem_append_left _ hx | apply List.mem_append_right | apply List.mem_cons_of_mem))) (i := ((k : Nat) : Int)) (by omega) (by omega)) (by first | omega | exact (hov (by omega)).1) (by first | omega | (have h2 := hov (by omega); omega)) rfl) ?_ (hJ := Fit.sub)
       refine D.step (rs := [12]) (by kernel_rfl) rfl rfl (all1 ?_)
       refine Step.eff rfl (Wanted.plain rfl) (Eff.call call17 rfl rfl (FindP03_ok (nd := nd2) Sl.o ((at_ ((at_ rs10 ((k : Nat) : Int)).xs) 0).u) ((at_ ((at_ rs10 ((k : Nat) : Int)).xs) 0).v) )) ?_
       rintro _ _ ⟨_, _, ⟨y24, rfl, hy24, rfl⟩, rfl, rfl⟩
       refine ⟨Fit.sub, ?_⟩
       refine D.r 13 rfl (Runs.assign rfl) ?_ (hJ := Fit.sub)
       refine D.done (by kernel_rfl) ?_
       refine V.then ?_
       refine W.sub (L' := [(20, _), (12, _), (11, _), (3, _), (6, _), (8, _), (10, _), (50, _), (51, _), (52, _)]) (Sub.cons rfl (Sub.cons rfl (Sub.cons rfl (Sub.cons rfl (Sub.cons rfl (Sub.cons rfl (Sub.cons rfl (Sub.cons rfl (Sub.cons rfl (Sub.cons rfl Sub.nil)))))))))) ?_
       refine W.sr ?_
       refine G.r (Runs.move rfl) ?_
       refine G.r (Runs.lss rfl rfl) ?_
       refine G.nt ?_
       refine W.ite rfl (fun c117 => ?_) (fun c117 => ?_)
       ·exact absurd c117 (Int.not_lt.2 (find_ge hy24 (bridges_ok hG) (by rw [(blks_mem hG (hbm (by omega)) (at_mem (i := 0) (by omega) (by omega))).2, bridges_eq hG]; exact List.mem_map.2 ⟨_, List.mem_filter.2 ⟨hbm (by omega), by simp; omega⟩, rfl⟩)))
       ·refine W.skip ?_
        refine V.block_normal ?_
        refine V.then ?_
        refine W.region ?_
        refine G.r (Runs.add rfl rfl (by unfold InR; first | omega | (have h2 := hsb (by omega); omega))) ?_
        refine G.r (Runs.move rfl) ?_
        refine G.nil ?_
        exact V.next ((k + 1), (edg + (((at_ rs10 ((k : Nat) : Int)).xs.length : Nat) : Int)), (sng + 1), (seen1)) (show ((k + 1 : Nat) ≤ rs10.length) ∧ ((edg + (((at_ rs10 ((k : Nat) : Int)).xs.length : Nat) : Int) : Int) = (((blksG nd2 es5).take (k + 1 : Nat)).flatten.length : Nat)) ∧ ((sng + 1 : Int) = ((brL ((blksG nd2 es5).take (k + 1 : Nat))).length : Nat)) ∧ ((seen1 : List Int).length = (nd2).toNat) ∧ (∀ v : Int, 0 ≤ v → v < nd2 → at_ (seen1 : List Int) v = cntB ((blksG nd2 es5).take (k + 1 : Nat)) v) from ⟨(by omega), (by rw [flatL_take (by omega), List.length_append, at_xs hrs10 (by omega), hed]; omega), (by first | (rw [brL_yes (by omega) (by rw [at_xs hrs10 (by omega)]; omega), List.length_append, hsg]; simp; done) | (rw [brL_no (by omega) (by rw [at_xs hrs10 (by omega)]; omega), hsg])), hsl1, (fun v h0 h1 => by rw [hsv1 v h0 h1, cntB_take (by omega), at_xs hrs10 (by omega), (show (ofL nodes).take q = ofL nodes from List.take_of_length_le (by omega)), (show nodes = nodesL (at_ rs10 ((k : Nat) : Int)).xs from (by rw [hno]; exact congrArg nodesL (List.take_of_length_le (by omega))))]; simp only [mem_ofL])⟩) (show rs10.length - (k + 1 : Nat) < rs10.length - k from (by omega)) (Sub.cons rfl (Sub.cons rfl (Sub.cons rfl (Sub.cons rfl (Sub.cons lookO (Sub.cons lookO (Sub.cons rfl (Sub.cons rfl (Sub.cons lookO Sub.nil))))))))) (show Fit κ _ (vc 3 (.slice ad15 (List.replicate ((nd2).toNat) (default : Int)).length cp16) ((seen1)) :: vc 3 (.slice ad13 (jointsG nd2 es5).length cp14) (jointsG nd2 es5) :: vc 38 (.slice ad11 (bridgesG nd2 es5).length cp12) (bridgesG nd2 es5) :: vc 23 (.slice ad8 rs10.length cp9) (rs10) :: blk b7 [I64 (nd2), .slice ad3 es5.length cp4] 25 :: vc 38 (.slice ad3 es5.length cp4) (es5) :: blk dk1 [.slice la ln lc, I64 (i6)] 96 :: (ownR 38 rs10 ++ I)) from Fit.sub)
      ·refine W.skip ?_
       refine V.block_normal ?_
       refine V.then ?_
       refine W.region ?_
       refine G.r (Runs.add rfl rfl (by unfold InR; first | omega | (have h2 := hsb (by omega); omega))) ?_
       refine G.r (Runs.move rfl) ?_
       refine G.nil ?_
       exact V.next ((k + 1), (edg + (((at_ rs10 ((k : Nat) : Int)).xs.length : Nat) : Int)), (sng), (seen1)) (show ((k + 1 : Nat) ≤ rs10.length) ∧ ((edg + (((at_ rs10 ((k : Nat) : Int)).xs.length : Nat) : Int) : Int) = (((blksG nd2 es5).take (k + 1 : Nat)).flatten.length : Nat)) ∧ ((sng : Int) = ((brL ((blksG nd2 es5).take (k + 1 : Nat))).length : Nat)) ∧ ((seen1 : List Int).length = (nd2).toNat) ∧ (∀ v : Int, 0 ≤ v → v < nd2 → at_ (seen1 : List Int) v = cntB ((blksG nd2 es5).take (k + 1 : Nat)) v) from ⟨(by omega), (by rw [flatL_take (by omega), List.length_append, at_xs hrs10 (by omega), hed]; omega), (by first | (rw [brL_yes (by omega) (by rw [at_xs hrs10 (by omega)]; omega), List.length_append, hsg]; simp; done) | (rw [brL_no (by omega) (by rw [at_xs hrs10 (by omega)]; omega), hsg])), hsl1, (fun v h0 h1 => by rw [hsv1 v h0 h1, cntB_take (by omega), at_xs hrs10 (by omega), (show (ofL nodes).take q = ofL nodes from List.take_of_length_le (by omega)), (show nodes = nodesL (at_ rs10 ((k : Nat) : Int)).xs from (by rw [hno]; exact congrArg nodesL (List.take_of_length_le (by omega))))]; simp only [mem_ofL])⟩) (show rs10.length - (k + 1 : Nat) < rs10.length - k from (by omega)) (Sub.cons rfl (Sub.cons rfl (Sub.cons rfl (Sub.cons rfl (Sub.cons lookO (Sub.cons lookO (Sub.cons rfl (Sub.cons rfl (Sub.cons lookO Sub.nil))))))))) (show Fit κ _ (vc 3 (.slice ad15 (List.replicate ((nd2).toNat) (default : Int)).length cp16) ((seen1)) :: vc 3 (.slice ad13 (jointsG nd2 es5).length cp14) (jointsG nd2 es5) :: vc 38 (.slice ad11 (bridgesG nd2 es5).length cp12) (bridgesG nd2 es5) :: vc 23 (.slice ad8 rs10.length cp9) (rs10) :: blk b7 [I64 (nd2), .slice ad3 es5.length cp4] 25 :: vc 38 (.slice ad3 es5.length cp4) (es5) :: blk dk1 [.slice la ln lc, I64 (i6)] 96 :: (ownR 38 rs10 ++ I)) from Fit.sub)
  ·refine W.exit ?_
   refine V.then_exit ?_
   refine V.then_exit ?_
   refine V.block_hit ?_
   refine V.then ?_
   refine W.seq ?_
   refine W.sr ?_
   refine G.r (Runs.move rfl) ?_
   refine G.r (Runs.lens Tryd.underlying22 rfl) ?_
   refine G.r (Runs.move rfl) ?_
   refine G.nt ?_
   refine W.block ?_
   refine W.loop (σ := Nat) (fun s => ([(3, .pointer (some ⟨b7, 0, none⟩)), (6, .slice ad11 (bridgesG nd2 es5).length cp12), (8, .slice ad13 (jointsG nd2 es5).length cp14), (11, I64 (edg)), (12, I64 (sng)), (119, .slice ad15 (List.replicate ((nd2).toNat) (default : Int)).length cp16), (120, I64 ((((List.replicate ((nd2).toNat) (default : Int)).length : Nat) : Int))), (121, I64 (((s : Nat) : Int)))] : Env)) (fun s => vc 3 (.slice ad15 (List.replicate ((nd2).toNat) (default : Int)).length cp16) (seen) :: vc 3 (.slice ad13 (jointsG nd2 es5).length cp14) (jointsG nd2 es5) :: vc 38 (.slice ad11 (bridgesG nd2 es5).length cp12) (bridgesG nd2 es5) :: vc 23 (.slice ad8 rs10.length cp9) (rs10) :: blk b7 [I64 (nd2), .slice ad3 es5.length cp4] 25 :: vc 38 (.slice ad3 es5.length cp4) (es5) :: blk dk1 [.slice la ln lc, I64 (i6)] 96 :: (ownR 38 rs10 ++ I)) (fun s => (s ≤ seen.length)) (fun s => seen.length - s) (0) (show ((0 : Nat) ≤ seen.length) from (by omega)) (Sub.cons rfl (Sub.cons rfl (Sub.cons rfl (Sub.cons rfl (Sub.cons rfl (Sub.cons rfl (Sub.cons rfl (Sub.cons lookO Sub.nil)))))))) (show Fit κ _ (vc 3 (.slice ad15 (List.replicate ((nd2).toNat) (default : Int)).length cp16) (seen) :: vc 3 (.slice ad13 (jointsG nd2 es5).length cp14) (jointsG nd2 es5) :: vc 38 (.slice ad11 (bridgesG nd2 es5).length cp12) (bridgesG nd2 es5) :: vc 23 (.slice ad8 rs10.length cp9) (rs10) :: blk b7 [I64 (nd2), .slice ad3 es5.length cp4] 25 :: vc 38 (.slice ad3 es5.length cp4) (es5) :: blk dk1 [.slice la ln lc, I64 (i6)] 96 :: (ownR 38 rs10 ++ I)) from Fit.sub) ?_
   rintro z hp
   have hz : (z ≤ seen.length) := hp
   show W Tryd.prog κ 147 _ _ ([(3, .pointer (some ⟨b7, 0, none⟩)), (6, .slice ad11 (bridgesG nd2 es5).length cp12), (8, .slice ad13 (jointsG nd2 es5).length cp14), (11, I64 (edg)), (12, I64 (sng)), (119, .slice ad15 (List.replicate ((nd2).toNat) (default : Int)).length cp16), (120, I64 ((((List.replicate ((nd2).toNat) (default : Int)).length : Nat) : Int))), (121, I64 (((z : Nat) : Int)))] : Env) (vc 3 (.slice ad15 (List.replicate ((nd2).toNat) (default : Int)).length cp16) (seen) :: vc 3 (.slice ad13 (jointsG nd2 es5).length cp14) (jointsG nd2 es5) :: vc 38 (.slice ad11 (bridgesG nd2 es5).length cp12) (bridgesG nd2 es5) :: vc 23 (.slice ad8 rs10.length cp9) (rs10) :: blk b7 [I64 (nd2), .slice ad3 es5.length cp4] 25 :: vc 38 (.slice ad3 es5.length cp4) (es5) :: blk dk1 [.slice la ln lc, I64 (i6)] 96 :: (ownR 38 rs10 ++ I))
   have hsf : z < seen.length → at_ seen ((z : Nat) : Int) = cntB (blksG nd2 es5) ((z : Nat) : Int) := fun h => by rw [hsv _ (by omega) (by omega), List.take_of_length_le (by omega)]
   refine W.sr ?_
   refine G.r (Runs.lss rfl rfl) ?_
   refine G.nt ?_
   refine W.seq ?_
   refine W.ite rfl (fun c122 => ?_) (fun c122 => ?_)
   ·refine W.skip ?_
    refine V.then ?_
    refine W.seq ?_
    refine W.block ?_
    refine W.sr ?_
    refine G.r (Runs.move rfl) ?_
    refine G.r (Runs.idx (α := Int) (xs := seen) Tryd.underlying22 ty3 rfl rfl Sl.o (by first | omega | exact (hov (by omega)).1) (by first | omega | (have h2 := hov (by omega); omega))) ?_
    refine G.r (Runs.get (xs := seen) ty3 rfl Sl.o (by first | omega | exact (hov (by omega)).1) (by first | omega | (have h2 := hov (by omega); omega))) ?_
    refine G.r (Runs.assign rfl) ?_
    refine G.r (Runs.assign rfl) ?_
    refine G.nt ?_
    refine W.sub (L' := [(22, _), (21, _), (3, _), (6, _), (8, _), (11, _), (12, _), (119, _), (120, _), (121, _)]) (Sub.cons rfl (Sub.cons rfl (Sub.cons rfl (Sub.cons rfl (Sub.cons rfl (Sub.cons rfl (Sub.cons rfl (Sub.cons rfl (Sub.cons rfl (Sub.cons rfl Sub.nil)))))))))) ?_
    refine W.sr ?_
    refine G.r (Runs.move rfl) ?_
    refine G.r (Runs.gtr rfl rfl) ?_
    refine G.r (Runs.move rfl) ?_
    refine G.r (Runs.move rfl) ?_
    refine G.e (Eff.call call19 rfl rfl (RHas_ok Sl.o ((z : Nat) : Int))) ?_
    rintro _ _ ⟨_, _, ⟨rfl, rfl⟩, rfl, rfl⟩
    refine G.r (Runs.neqb Tryd.underlying4 rfl rfl) ?_
    refine G.nt ?_
    refine W.sub (L' := [(131, _), (3, _), (6, _), (8, _), (11, _), (12, _), (119, _), (120, _), (121, _)]) (Sub.cons rfl (Sub.cons rfl (Sub.cons rfl (Sub.cons rfl (Sub.cons rfl (Sub.cons rfl (Sub.cons rfl (Sub.cons rfl (Sub.cons rfl Sub.nil))))))))) ?_
    refine W.ite rfl (fun c131 => ?_) (fun c131 => ?_)
    ·exact absurd (decide_eq_decide.2 (by rw [hsf (by omega)]; exact (joint_iff hG (by omega) (by omega)).symm)) c131
    ·refine W.skip ?_
     refine V.block_normal ?_
     refine V.then ?_
     refine W.region ?_
     refine G.r (Runs.add rfl rfl (by unfold InR; first | omega | (have h2 := hsb (by omega); omega))) ?_
     refine G.r (Runs.move rfl) ?_
     refine G.nil ?_
     exact V.next ((z + 1)) (show ((z + 1 : Nat) ≤ seen.length) from (by omega)) (show seen.length - (z + 1 : Nat) < seen.length - z from (by omega)) (Sub.cons rfl (Sub.cons rfl (Sub.cons rfl (Sub.cons rfl (Sub.cons rfl (Sub.cons rfl (Sub.cons rfl (Sub.cons lookO Sub.nil)))))))) (show Fit κ _ (vc 3 (.slice ad15 (List.replicate ((nd2).toNat) (default : Int)).length cp16) (seen) :: vc 3 (.slice ad13 (jointsG nd2 es5).length cp14) (jointsG nd2 es5) :: vc 38 (.slice ad11 (bridgesG nd2 es5).length cp12) (bridgesG nd2 es5) :: vc 23 (.slice ad8 rs10.length cp9) (rs10) :: blk b7 [I64 (nd2), .slice ad3 es5.length cp4] 25 :: vc 38 (.slice ad3 es5.length cp4) (es5) :: blk dk1 [.slice la ln lc, I64 (i6)] 96 :: (ownR 38 rs10 ++ I)) from Fit.sub)
   ·refine W.exit ?_
    refine V.then_exit ?_
    refine V.then_exit ?_
    refine V.block_hit ?_
    refine V.then ?_
    refine W.sr ?_
    refine G.r (Runs.move rfl) ?_
    refine G.r (Runs.fieldAddr fld25_1 rfl) ?_
    refine G.r (Runs.ld ty23) ?_
    refine G.r (Runs.lens Tryd.underlying23 rfl) ?_
    refine G.r (Runs.eql rfl rfl) ?_
    refine G.r (Runs.move rfl) ?_
    refine G.split (d := 138) rfl (fun g138 => ?_) (fun g138 => ?_)
    ·refine G.ro (Runs.move rfl) ?_
     refine G.ro (Runs.move rfl) ?_
     refine G.ro (Runs.lens Tryd.underlying23 rfl) ?_
     refine G.ro (Runs.eql rfl rfl) ?_
     refine G.r (Runs.pickt rfl rfl) ?_
     refine G.r (Runs.move rfl) ?_
     refine G.split (d := 144) rfl (fun g144 => ?_) (fun g144 => ?_)
     ·refine G.eff (Wanted.on rfl rfl rfl) (Eff.call call20 rfl rfl (Awake15_ok (TabRd.fit hT Fit.m))) ?_
      rintro _ _ ⟨_, _, ⟨rfl, rfl⟩, rfl, rfl⟩
      refine G.r (Runs.pickt rfl rfl) ?_
      refine G.r (Runs.assign rfl) ?_
      refine G.nt ?_
      refine W.sub (L' := [(2, _)]) (Sub.cons rfl Sub.nil) ?_
      refine W.ret ?_
      exact V.ret1 rfl rfl (I) Fit.m ⟨rfl, rfl⟩
     ·exact absurd (by rw [hsg, bridges_eq hG, List.take_of_length_le (by omega)]) g144
    ·exact absurd (by rw [hed, List.take_of_length_le (by omega)]; omega) g138

end Go.Sl
