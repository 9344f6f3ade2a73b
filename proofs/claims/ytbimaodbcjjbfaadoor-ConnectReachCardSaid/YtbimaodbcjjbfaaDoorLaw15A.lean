/- A part of the proofs of statements of this seat: contracts of functions, and the plain laws that they lean on. No conditions. -/
import Derived.Test.YtbimaodbcjjbfaaDoorConnE
import Derived.Test.YtbimaodbcjjbfaaDoorReachB
import Derived.Test.YtbimaodbcjjbfaaDoorGraphH5
import Derived.Test.YtbimaodbcjjbfaaDoorGraphK5
import Derived.Test.YtbimaodbcjjbfaaDoorGraphM5
namespace Go.Sl
open Go.Proofs
set_option linter.unusedVariables false
set_option linter.unusedSimpArgs false
set_option maxRecDepth 4000
theorem set_bit {nd : Int} {S : List Int} (h : 0 ≤ nd ∧ nd ≤ 64) {i : Nat} : (maskB S &&& allB nd).getLsbD i = true ↔ ((i : Int) ∈ S ∧ (i : Int) < nd) := by
  by_cases hi : i < 64
  · rw [BitVec.getLsbD_and, Bool.and_eq_true, bit_maskB hi, getLsb_allB h.1 h.2 hi, decide_eq_true_eq]
  · rw [BitVec.getLsbD_of_ge _ _ (by omega)]
    exact ⟨fun h => absurd h (by decide), fun h => by omega⟩
theorem mem_rch {nd : Int} {es : List Pt} {S : List Int} {v x : Int} (hG : GrOk nd es) (hv : 0 ≤ v ∧ v < nd) : x ∈ rchG nd es [v] S ↔ 0 ≤ x ∧ Conn (rowsB nd es) (maskB S &&& allB nd) v.toNat x.toNat := by
  have hr := hG.rng
  unfold rchG
  rw [if_neg (by rw [checkG_ok.2 hG]; decide), mem_listB, mask_one, bit_one (by omega)]
  exact and_congr_right fun _ => ⟨fun h => ⟨by omega, h⟩, fun h => h.2⟩
theorem rch_has {nd : Int} {es : List Pt} {S : List Int} {v : Int} (hG : GrOk nd es) (hS : ValidP S nd) (hv : v ∈ S) : v ∈ rchG nd es [v] S := by
  have h1 := ValidP_mem hS hv
  rw [mem_rch hG h1]
  exact ⟨h1.1, .refl ((set_bit hG.rng).2 (by rw [show ((v.toNat : Nat) : Int) = v by omega]; exact ⟨hv, h1.2⟩))⟩
theorem rch_within {nd : Int} {es : List Pt} {S : List Int} {v x : Int} (hG : GrOk nd es) (hv : 0 ≤ v ∧ v < nd) (hx : x ∈ rchG nd es [v] S) : x ∈ S ∧ 0 ≤ x ∧ x < nd := by
  obtain ⟨h0, h1⟩ := (mem_rch hG hv).1 hx
  have := (set_bit hG.rng).1 h1.right
  rw [show ((x.toNat : Nat) : Int) = x by omega] at this
  exact ⟨this.1, h0, this.2⟩
theorem rch_closed {nd : Int} {es : List Pt} {S : List Int} {v x : Int} (hG : GrOk nd es) (hv : 0 ≤ v ∧ v < nd) (hx : x ∈ rchG nd es [v] S) : ∀ y ∈ meetL (nbG nd es x) S, y ∈ rchG nd es [v] S := fun y hy => by
  obtain ⟨h1, h2⟩ := mem_meetL.1 hy
  obtain ⟨h3, h4, h5⟩ := rch_within hG hv hx
  obtain ⟨h6, h7⟩ := (mem_nbG hG ⟨h4, h5⟩).1 h1
  have hr := hG.rng
  have h64 : y.toNat < 64 := Classical.byContradiction fun hn => by rw [BitVec.getLsbD_of_ge _ _ (by omega)] at h7; cases h7
  have h8 := (rowsG_of hG).bits x y.toNat h4 (by rw [hG.rows.len]; omega) h7
  have h9 := hG.rows.len
  rw [mem_rch hG hv] at hx ⊢
  refine ⟨h6, hx.2.step (by rw [show ((x.toNat : Nat) : Int) = x by omega]; exact h7) ((set_bit hr).2 ?_)⟩
  rw [show ((y.toNat : Nat) : Int) = y by omega]; exact ⟨h2, by omega⟩
theorem rch_same {nd : Int} {es : List Pt} {S : List Int} {v x : Int} (hG : GrOk nd es) (hv : 0 ≤ v ∧ v < nd) (hx : x ∈ rchG nd es [v] S) : rchG nd es [v] S = rchG nd es [x] S := by
  obtain ⟨h3, h4, h5⟩ := rch_within hG hv hx
  obtain ⟨_, hc⟩ := (mem_rch hG hv).1 hx
  have hr := hG.rng
  unfold rchG
  rw [if_neg (by rw [checkG_ok.2 hG]; decide), if_neg (by rw [checkG_ok.2 hG]; decide), mask_one, bit_one (by omega), mask_one, bit_one (by omega), reach_conn (rowsB_sym hG) hc]
set_option maxHeartbeats 4000000 in
theorem ConnectReach_walk {κ : Ctx} {I : List Item} {la : Option Addr} {ln lc : Nat} {ls : List Int} (hl : Sl κ I (.slice la ln lc) ls) (hT : TabRd κ I 0 tzCells) :
    CallS Tryd.prog κ 4 [.slice la ln lc] I (fun r J => r = .bool true ∧ I = J) := by
 refine CallS.enter (L := [(0, .slice la ln lc)]) Tryd.func4 rfl rfl rfl rfl ?_
 refine W.sr ?_
 refine G.r (Runs.assign rfl) ?_
 refine G.nt ?_
 refine W.sr ?_
 refine G.r (Runs.move rfl) ?_
 refine G.e (Eff.call call13 rfl rfl New_ok) ?_
 rintro _ _ ⟨_, _, ⟨dk1, rfl, rfl⟩, rfl, rfl⟩
 show G Tryd.prog κ _ _ _ _ ([(14, .pointer (some ⟨dk1, 0, none⟩)), (13, .slice la ln lc), (2, .bool false), (0, .slice la ln lc)] : Env) (blk dk1 [.slice la ln lc, I64 (0)] 96 :: I)
 have hi0 : (0 : Int) ≤ 0 := Int.le_refl _
 refine G.r (Runs.assign rfl) ?_
 refine G.nt ?_
 refine W.sr ?_
 refine G.r (Runs.move rfl) ?_
 refine G.e (Eff.call call12 rfl rfl (MkGraph_at (by repeat (first | exact AtF.head _ _ | apply AtF.tail)) (fun _ => Sl.fit hl Fit.m) (by omega)  (by omega))) ?_
 rintro _ _ ⟨_, _, ⟨⟨nd2, ad3, cp4, es5, i6⟩, ⟨⟨rfl, hges5⟩, hi6⟩, rfl⟩, rfl, rfl⟩
 show G Tryd.prog κ _ _ _ _ ([(16, .agg #[I64 (nd2), .slice ad3 es5.length cp4]), (15, .pointer (some ⟨dk1, 0, none⟩)), (3, .pointer (some ⟨dk1, 0, none⟩)), (14, .pointer (some ⟨dk1, 0, none⟩)), (13, .slice la ln lc), (2, .bool false), (0, .slice la ln lc)] : Env) (vc 38 (.slice ad3 es5.length cp4) (es5) :: blk dk1 [.slice la ln lc, I64 (i6)] 96 :: I)
 have hi6 : 0 ≤ i6 := hi6
 dsimp only at hges5
 have hG := hges5.2.1
 have hel := hges5.2.2
 have hnd := hges5.1
 have hrng := hG.rng
 refine G.e (Eff.alloc ty25 rfl) ?_
 rintro _ _ ⟨b7, rfl, rfl⟩
 refine G.e (Eff.st (cs := [_, _]) (vs := [_, _]) (cs' := [_, _]) ty25) ?_
 rintro _ _ ⟨rfl, rfl⟩
 refine G.nt ?_
 refine W.sr ?_
 refine G.r (Runs.move rfl) ?_
 refine G.r (Runs.fieldAddr fld25_0 rfl) ?_
 refine G.r (Runs.ld ty3) ?_
 refine G.e (Eff.call call21 rfl rfl (Set_at (by repeat (first | exact AtF.head _ _ | apply AtF.tail)) (fun _ => Sl.fit hl Fit.m) (by omega) (by omega))) ?_
 rintro _ _ ⟨_, _, ⟨ad9, cp10, o11, i8, rfl, ho11, hlo11, hi8, rfl⟩, rfl, rfl⟩
 show G Tryd.prog κ _ _ _ _ ([(20, .slice ad9 o11.length cp10), (19, I64 (nd2)), (18, .pointer (some ⟨b7, 0, none⟩)), (17, .pointer (some ⟨dk1, 0, none⟩)), (4, .pointer (some ⟨b7, 0, none⟩)), (16, .agg #[I64 (nd2), .slice ad3 es5.length cp4]), (15, .pointer (some ⟨dk1, 0, none⟩)), (3, .pointer (some ⟨dk1, 0, none⟩)), (14, .pointer (some ⟨dk1, 0, none⟩)), (13, .slice la ln lc), (2, .bool false), (0, .slice la ln lc)] : Env) (vc 3 (.slice ad9 o11.length cp10) (o11) :: blk b7 [I64 (nd2), .slice ad3 es5.length cp4] 25 :: vc 38 (.slice ad3 es5.length cp4) (es5) :: blk dk1 [.slice la ln lc, I64 (i8)] 96 :: I)
 refine G.r (Runs.assign rfl) ?_
 refine G.nt ?_
 refine W.seq ?_
 refine W.sr ?_
 refine G.r (Runs.move rfl) ?_
 refine G.r (Runs.lens Tryd.underlying22 rfl) ?_
 refine G.r (Runs.eql rfl rfl) ?_
 refine G.nt ?_
 refine W.sub (L' := [(23, _), (5, _), (4, _), (3, _)]) (Sub.cons rfl (Sub.cons rfl (Sub.cons rfl (Sub.cons rfl Sub.nil)))) ?_
 refine W.ite rfl (fun c23 => ?_) (fun c23 => ?_)
 ·refine W.sr ?_
  refine G.e (Eff.call call20 rfl rfl (Awake15_ok (TabRd.fit hT Fit.m))) ?_
  rintro _ _ ⟨_, _, ⟨rfl, rfl⟩, rfl, rfl⟩
  refine G.r (Runs.assign rfl) ?_
  refine G.nt ?_
  refine W.ret ?_
  refine V.then_ret ?_
  exact V.ret1 rfl rfl (I) Fit.m ⟨rfl, rfl⟩
 ·refine W.skip ?_
  refine V.then ?_
  refine W.sr ?_
  refine G.r (Runs.move rfl) ?_
  refine G.r (Runs.move rfl) ?_
  refine G.r (Runs.move rfl) ?_
  refine G.r (Runs.lens Tryd.underlying22 rfl) ?_
  refine G.e (Eff.call call22 rfl rfl (Next_ok (by repeat (first | exact AtF.head _ _ | apply AtF.tail)) (Sl.f hl) (by omega) (by omega))) ?_
  rintro _ _ ⟨_, _, ⟨x12, i13, rfl, hx12, hi13, rfl⟩, rfl, rfl⟩
  show G Tryd.prog κ _ _ _ _ ([(29, I64 (x12)), (28, I64 (((o11.length : Nat) : Int))), (27, .slice ad9 o11.length cp10), (26, .pointer (some ⟨dk1, 0, none⟩)), (25, .slice ad9 o11.length cp10), (23, .bool (decide (((o11.length : Nat) : Int) = 0))), (5, .slice ad9 o11.length cp10), (4, .pointer (some ⟨b7, 0, none⟩)), (3, .pointer (some ⟨dk1, 0, none⟩))] : Env) (vc 3 (.slice ad9 o11.length cp10) (o11) :: blk b7 [I64 (nd2), .slice ad3 es5.length cp4] 25 :: vc 38 (.slice ad3 es5.length cp4) (es5) :: blk dk1 [.slice la ln lc, I64 (i13)] 96 :: I)
  refine G.r (Runs.idx (α := Int) (xs := o11) Tryd.underlying22 ty3 rfl rfl Sl.o (by omega) (by omega)) ?_
  refine G.r (Runs.get (xs := o11) ty3 rfl Sl.o (by omega) (by omega)) ?_
  refine G.r (Runs.assign rfl) ?_
  have hvS : at_ o11 x12 ∈ o11 := at_mem (by omega) (by omega)
  have hvn := ValidP_mem ho11 hvS
  refine G.nt ?_
  refine W.sr ?_
  refine G.r (Runs.lds (vs := [_, _]) ty25) ?_
  refine G.r (Runs.move rfl) ?_
  refine G.e (Eff.bs (α := Int) (cs := [_]) (xs := [at_ o11 x12]) Tryd.underlying22 ty3 rfl rfl (by decide) (by decide) rfl rfl rfl rfl) ?_
  rintro _ _ ⟨ad14, rfl, rfl⟩
  refine G.r (Runs.move rfl) ?_
  refine G.e (Eff.call call23 rfl rfl (CReach_ok (nd := nd2) Sl.o Sl.o Sl.o (TabRd.fit hT Fit.m))) ?_
  rintro _ _ ⟨_, _, ⟨ad15, cp16, rfl, rfl⟩, rfl, rfl⟩
  refine G.r (Runs.move rfl) ?_
  refine G.r (Runs.extract rfl rfl) ?_
  refine G.r (Runs.extract rfl rfl) ?_
  refine G.r (Runs.assign rfl) ?_
  refine G.r (Runs.assign rfl) ?_
  have hla : 0 < (rchG nd2 es5 [at_ o11 x12] o11).length := List.length_pos_iff.2 fun e => by have := rch_has hG ho11 hvS; rw [e] at this; cases this
  have hlb : (rchG nd2 es5 [at_ o11 x12] o11).length ≤ 64 := by unfold rchG; split <;> first | exact listB_len _ | simp
  refine G.nt ?_
  refine W.sub (L' := [(8, _), (7, _), (6, _), (5, _), (4, _), (3, _)]) (Sub.cons rfl (Sub.cons rfl (Sub.cons rfl (Sub.cons rfl (Sub.cons rfl (Sub.cons rfl Sub.nil)))))) ?_
  refine W.seq ?_
  refine W.sr ?_
  refine G.r (Runs.move rfl) ?_
  refine G.r (Runs.neq rfl rfl) ?_
  refine G.r (Runs.move rfl) ?_
  refine G.split (d := 42) rfl (fun g42 => ?_) (fun g42 => ?_)
  ·exact absurd (checkG_ok.2 hG) g42
  ·refine G.ro (Runs.move rfl) ?_
   refine G.ro (Runs.move rfl) ?_
   refine G.eff (Wanted.on rfl rfl rfl) (Eff.call call19 rfl rfl (RHas_ok Sl.o (at_ o11 x12))) ?_
   rintro _ _ ⟨_, _, ⟨rfl, rfl⟩, rfl, rfl⟩
   refine G.ro (Runs.notd rfl) ?_
   refine G.r (Runs.pickf rfl rfl) ?_
   refine G.r (Runs.move rfl) ?_
   refine G.split (d := 48) rfl (fun g48 => ?_) (fun g48 => ?_)
   ·exact absurd (rch_has hG ho11 hvS) g48
   ·refine G.ro (Runs.move rfl) ?_
    refine G.ro (Runs.move rfl) ?_
    refine G.eff (Wanted.on rfl rfl rfl) (Eff.call call24 rfl rfl (Within_ok Sl.o Sl.o)) ?_
    rintro _ _ ⟨_, _, ⟨rfl, rfl⟩, rfl, rfl⟩
    refine G.ro (Runs.notd rfl) ?_
    refine G.r (Runs.pickf rfl rfl) ?_
    refine G.nt ?_
    refine W.sub (L' := [(53, _), (7, _), (5, _), (4, _), (3, _)]) (Sub.cons rfl (Sub.cons rfl (Sub.cons rfl (Sub.cons rfl (Sub.cons rfl Sub.nil))))) ?_
    refine W.ite rfl (fun c53 => ?_) (fun c53 => ?_)
    ·exact absurd (fun x hx => (rch_within hG hvn hx).1) c53
    ·refine W.skip ?_
     refine V.then ?_
     refine W.seq ?_
     refine W.sr ?_
     refine G.r (Runs.move rfl) ?_
     refine G.r (Runs.lens Tryd.underlying22 rfl) ?_
     refine G.r (Runs.move rfl) ?_
     refine G.nt ?_
     refine W.block ?_
     refine W.loop (σ := Nat) (fun s => ([(3, .pointer (some ⟨dk1, 0, none⟩)), (4, .pointer (some ⟨b7, 0, none⟩)), (5, .slice ad9 o11.length cp10), (7, .slice ad15 (rchG nd2 es5 ([at_ o11 x12] : List Int) o11).length cp16), (54, .slice ad15 (rchG nd2 es5 ([at_ o11 x12] : List Int) o11).length cp16), (55, I64 ((((rchG nd2 es5 ([at_ o11 x12] : List Int) o11).length : Nat) : Int))), (56, I64 (((s : Nat) : Int)))] : Env)) (fun s => vc 3 (.slice ad15 (rchG nd2 es5 ([at_ o11 x12] : List Int) o11).length cp16) (rchG nd2 es5 ([at_ o11 x12] : List Int) o11) :: vc 3 (.slice ad14 1 1) (([at_ o11 x12] : List Int)) :: vc 3 (.slice ad9 o11.length cp10) (o11) :: blk b7 [I64 (nd2), .slice ad3 es5.length cp4] 25 :: vc 38 (.slice ad3 es5.length cp4) (es5) :: blk dk1 [.slice la ln lc, I64 (i13)] 96 :: I) (fun s => (s ≤ (rchG nd2 es5 [at_ o11 x12] o11).length)) (fun s => (rchG nd2 es5 [at_ o11 x12] o11).length - s) (0) (show ((0 : Nat) ≤ (rchG nd2 es5 [at_ o11 x12] o11).length) from (by omega)) (Sub.cons rfl (Sub.cons rfl (Sub.cons rfl (Sub.cons rfl (Sub.cons rfl (Sub.cons rfl (Sub.cons lookO Sub.nil))))))) (show Fit κ _ (vc 3 (.slice ad15 (rchG nd2 es5 ([at_ o11 x12] : List Int) o11).length cp16) (rchG nd2 es5 ([at_ o11 x12] : List Int) o11) :: vc 3 (.slice ad14 1 1) (([at_ o11 x12] : List Int)) :: vc 3 (.slice ad9 o11.length cp10) (o11) :: blk b7 [I64 (nd2), .slice ad3 es5.length cp4] 25 :: vc 38 (.slice ad3 es5.length cp4) (es5) :: blk dk1 [.slice la ln lc, I64 (i13)] 96 :: I) from Fit.sub) ?_
     rintro k hp
     have hk : (k ≤ (rchG nd2 es5 [at_ o11 x12] o11).length) := hp
     show W Tryd.prog κ 93 _ _ ([(3, .pointer (some ⟨dk1, 0, none⟩)), (4, .pointer (some ⟨b7, 0, none⟩)), (5, .slice ad9 o11.length cp10), (7, .slice ad15 (rchG nd2 es5 ([at_ o11 x12] : List Int) o11).length cp16), (54, .slice ad15 (rchG nd2 es5 ([at_ o11 x12] : List Int) o11).length cp16), (55, I64 ((((rchG nd2 es5 ([at_ o11 x12] : List Int) o11).length : Nat) : Int))), (56, I64 (((k : Nat) : Int)))] : Env) (vc 3 (.slice ad15 (rchG nd2 es5 ([at_ o11 x12] : List Int) o11).length cp16) (rchG nd2 es5 ([at_ o11 x12] : List Int) o11) :: vc 3 (.slice ad14 1 1) (([at_ o11 x12] : List Int)) :: vc 3 (.slice ad9 o11.length cp10) (o11) :: blk b7 [I64 (nd2), .slice ad3 es5.length cp4] 25 :: vc 38 (.slice ad3 es5.length cp4) (es5) :: blk dk1 [.slice la ln lc, I64 (i13)] 96 :: I)
     refine W.sr ?_
     refine G.r (Runs.lss rfl rfl) ?_
     refine G.nt ?_
     refine W.seq ?_
     refine W.ite rfl (fun c57 => ?_) (fun c57 => ?_)
     ·refine W.skip ?_
      refine V.then ?_
      refine W.seq ?_
      refine W.block ?_
      refine W.sr ?_
      refine G.r (Runs.idx (α := Int) (xs := rchG nd2 es5 ([at_ o11 x12] : List Int) o11) Tryd.underlying22 ty3 rfl rfl Sl.o (by omega) (by omega)) ?_
      refine G.r (Runs.get (xs := rchG nd2 es5 ([at_ o11 x12] : List Int) o11) ty3 rfl Sl.o (by omega) (by omega)) ?_
      refine G.r (Runs.assign rfl) ?_
      refine G.nt ?_
      refine W.sr ?_
      refine G.r (Runs.lds (vs := [_, _]) ty25) ?_
      refine G.r (Runs.move rfl) ?_
      refine G.e (Eff.call call26 rfl rfl (Neigh03_ok (nd := nd2) Sl.o (at_ (rchG nd2 es5 ([at_ o11 x12] : List Int) o11) ((k : Nat) : Int)) (by omega))) ?_
      rintro _ _ ⟨_, _, ⟨ad17, cp18, rfl, rfl⟩, rfl, rfl⟩
      have hnl62 := nbG_len nd2 es5 (at_ (rchG nd2 es5 ([at_ o11 x12] : List Int) o11) ((k : Nat) : Int))
      refine G.r (Runs.move rfl) ?_
      refine G.e (Eff.call call25 rfl rfl (Meet_ok Sl.o Sl.o (by have := nbG_len; first | (refine Nat.lt_of_le_of_lt (nbG_len _ _ _) (by decide)) | omega))) ?_
      rintro _ _ ⟨_, _, ⟨ad19, cp20, rfl, rfl⟩, rfl, rfl⟩
      refine G.r (Runs.move rfl) ?_
      refine G.e (Eff.call call24 rfl rfl (Within_ok Sl.o Sl.o)) ?_
      rintro _ _ ⟨_, _, ⟨rfl, rfl⟩, rfl, rfl⟩
      refine G.r (Runs.notd rfl) ?_
      refine G.nt ?_
      refine W.sub (L' := [(67, _), (3, _), (4, _), (5, _), (7, _), (54, _), (55, _), (56, _)]) (Sub.cons rfl (Sub.cons rfl (Sub.cons rfl (Sub.cons rfl (Sub.cons rfl (Sub.cons rfl (Sub.cons rfl (Sub.cons rfl Sub.nil)))))))) ?_
      refine W.ite rfl (fun c67 => ?_) (fun c67 => ?_)
      ·exact absurd (rch_closed hG hvn (at_mem (by omega) (by omega))) c67
      ·refine W.skip ?_
       refine V.block_normal ?_
       refine V.then ?_
       refine W.region ?_
       refine G.r (Runs.add rfl rfl (by unfold InR; omega)) ?_
       refine G.r (Runs.move rfl) ?_
       refine G.nil ?_
       exact V.next ((k + 1)) (show ((k + 1 : Nat) ≤ (rchG nd2 es5 [at_ o11 x12] o11).length) from (by omega)) (show (rchG nd2 es5 [at_ o11 x12] o11).length - (k + 1 : Nat) < (rchG nd2 es5 [at_ o11 x12] o11).length - k from (by omega)) (Sub.cons rfl (Sub.cons rfl (Sub.cons rfl (Sub.cons rfl (Sub.cons rfl (Sub.cons rfl (Sub.cons lookO Sub.nil))))))) (show Fit κ _ (vc 3 (.slice ad15 (rchG nd2 es5 ([at_ o11 x12] : List Int) o11).length cp16) (rchG nd2 es5 ([at_ o11 x12] : List Int) o11) :: vc 3 (.slice ad14 1 1) (([at_ o11 x12] : List Int)) :: vc 3 (.slice ad9 o11.length cp10) (o11) :: blk b7 [I64 (nd2), .slice ad3 es5.length cp4] 25 :: vc 38 (.slice ad3 es5.length cp4) (es5) :: blk dk1 [.slice la ln lc, I64 (i13)] 96 :: I) from Fit.sub)
     ·refine W.exit ?_
      refine V.then_exit ?_
      refine V.then_exit ?_
      refine V.block_hit ?_
      refine V.then ?_
      refine W.seq ?_
      refine W.drawn mixed ?_
      refine A.hold (vc 3 (.slice ad15 (rchG nd2 es5 ([at_ o11 x12] : List Int) o11).length cp16) (rchG nd2 es5 ([at_ o11 x12] : List Int) o11) :: vc 3 (.slice ad14 1 1) (([at_ o11 x12] : List Int)) :: vc 3 (.slice ad9 o11.length cp10) (o11) :: blk b7 [I64 (nd2), .slice ad3 es5.length cp4] 25 :: vc 38 (.slice ad3 es5.length cp4) (es5) :: I) 16 ?_
      refine D.r 0 rfl (Runs.lds (vs := [_, _]) ty25) ?_ (hJ := Fit.sub)
      refine D.r 1 rfl (Runs.move rfl) ?_ (hJ := Fit.sub)
      refine D.r 2 rfl (Runs.move rfl) ?_ (hJ := Fit.sub)
      refine D.r 3 rfl (Runs.move rfl) ?_ (hJ := Fit.sub)
      refine D.r 4 rfl (Runs.lens Tryd.underlying22 rfl) ?_ (hJ := Fit.sub)
      refine D.r 9 rfl (Runs.move rfl) ?_ (hJ := Fit.sub)
      refine D.step (rs := [5]) (by kernel_rfl) rfl rfl (all1 ?_)
      refine Step.eff rfl (Wanted.plain rfl) (Eff.call call22 rfl rfl (Next_ok (by repeat (first | exact AtF.head _ _ | apply AtF.tail)) (Sl.f hl) (by omega) (by omega))) ?_
      rintro _ _ ⟨_, _, ⟨x21, i22, rfl, hx21, hi22, rfl⟩, rfl, rfl⟩
      refine ⟨Fit.sub, ?_⟩
      show D Tryd.prog κ _ _ _ _ _ _ _ ([(75, I64 (x21)), (79, .slice ad9 o11.length cp10), (74, I64 ((((rchG nd2 es5 ([at_ o11 x12] : List Int) o11).length : Nat) : Int))), (73, .slice ad15 (rchG nd2 es5 ([at_ o11 x12] : List Int) o11).length cp16), (72, .pointer (some ⟨dk1, 0, none⟩)), (71, .slice ad15 (rchG nd2 es5 ([at_ o11 x12] : List Int) o11).length cp16), (70, .agg #[I64 (nd2), .slice ad3 es5.length cp4]), (57, .bool (decide (((k : Nat) : Int) < (((rchG nd2 es5 ([at_ o11 x12] : List Int) o11).length : Nat) : Int)))), (3, .pointer (some ⟨dk1, 0, none⟩)), (4, .pointer (some ⟨b7, 0, none⟩)), (5, .slice ad9 o11.length cp10), (7, .slice ad15 (rchG nd2 es5 ([at_ o11 x12] : List Int) o11).length cp16), (54, .slice ad15 (rchG nd2 es5 ([at_ o11 x12] : List Int) o11).length cp16), (55, I64 ((((rchG nd2 es5 ([at_ o11 x12] : List Int) o11).length : Nat) : Int))), (56, I64 (((k : Nat) : Int)))] : Env) (vc 3 (.slice ad15 (rchG nd2 es5 ([at_ o11 x12] : List Int) o11).length cp16) (rchG nd2 es5 ([at_ o11 x12] : List Int) o11) :: vc 3 (.slice ad14 1 1) (([at_ o11 x12] : List Int)) :: vc 3 (.slice ad9 o11.length cp10) (o11) :: blk b7 [I64 (nd2), .slice ad3 es5.length cp4] 25 :: vc 38 (.slice ad3 es5.length cp4) (es5) :: blk dk1 [.slice la ln lc, I64 (i22)] 96 :: I)
      refine D.r 6 rfl (Runs.idx (α := Int) (xs := rchG nd2 es5 ([at_ o11 x12] : List Int) o11) Tryd.underlying22 ty3 rfl rfl Sl.o (by omega) (by omega)) ?_ (hJ := Fit.sub)
      refine D.r 7 rfl (Runs.get (xs := rchG nd2 es5 ([at_ o11 x12] : List Int) o11) ty3 rfl Sl.o (by omega) (by omega)) ?_ (hJ := Fit.sub)
      refine D.step (rs := [8]) (by kernel_rfl) rfl rfl (all1 ?_)
      refine Step.eff rfl (Wanted.plain rfl) (Eff.bs (α := Int) (cs := [_]) (xs := [at_ (rchG nd2 es5 ([at_ o11 x12] : List Int) o11) x21]) Tryd.underlying22 ty3 rfl rfl (by decide) (by decide) rfl rfl rfl rfl) ?_
      rintro _ _ ⟨ad23, rfl, rfl⟩
      refine ⟨Fit.sub, ?_⟩
      refine D.step (rs := [10]) (by kernel_rfl) rfl rfl (all1 ?_)
      refine Step.eff rfl (Wanted.plain rfl) (Eff.call call23 rfl rfl (CReach_ok (nd := nd2) Sl.o Sl.o Sl.o (TabRd.fit hT Fit.m))) ?_
      rintro _ _ ⟨_, _, ⟨ad24, cp25, rfl, rfl⟩, rfl, rfl⟩
      refine ⟨Fit.sub, ?_⟩
      refine D.r 11 rfl (Runs.move rfl) ?_ (hJ := Fit.sub)
      refine D.r 12 rfl (Runs.extract rfl rfl) ?_ (hJ := Fit.sub)
      refine D.r 13 rfl (Runs.extract rfl rfl) ?_ (hJ := Fit.sub)
      refine D.r 14 rfl (Runs.assign rfl) ?_ (hJ := Fit.sub)
      refine D.r 15 rfl (Runs.assign rfl) ?_ (hJ := Fit.sub)
      have hAB : (rchG nd2 es5 [at_ o11 x12] o11) = rchG nd2 es5 ([at_ (rchG nd2 es5 ([at_ o11 x12] : List Int) o11) x21] : List Int) o11 := rch_same hG hvn (at_mem (by omega) (by omega))
      refine D.done (by kernel_rfl) ?_
      refine V.then ?_
      refine W.sub (L' := [(12, _), (11, _), (7, _)]) (Sub.cons rfl (Sub.cons rfl (Sub.cons rfl Sub.nil))) ?_
      refine W.sr ?_
      refine G.r (Runs.move rfl) ?_
      refine G.r (Runs.eql rfl rfl) ?_
      refine G.r (Runs.move rfl) ?_
      refine G.split (d := 85) rfl (fun g85 => ?_) (fun g85 => ?_)
      ·refine G.ro (Runs.move rfl) ?_
       refine G.ro (Runs.move rfl) ?_
       refine G.eff (Wanted.on rfl rfl rfl) (Eff.call call27 rfl rfl (Same_ok Sl.o Sl.o)) ?_
       rintro _ _ ⟨_, _, ⟨rfl, rfl⟩, rfl, rfl⟩
       refine G.r (Runs.pickt rfl rfl) ?_
       refine G.r (Runs.move rfl) ?_
       refine G.split (d := 90) rfl (fun g90 => ?_) (fun g90 => ?_)
       ·refine G.eff (Wanted.on rfl rfl rfl) (Eff.call call20 rfl rfl (Awake15_ok (TabRd.fit hT Fit.m))) ?_
        rintro _ _ ⟨_, _, ⟨rfl, rfl⟩, rfl, rfl⟩
        refine G.r (Runs.pickt rfl rfl) ?_
        refine G.r (Runs.assign rfl) ?_
        refine G.nt ?_
        refine W.sub (L' := [(2, _)]) (Sub.cons rfl Sub.nil) ?_
        refine W.ret ?_
        exact V.ret1 rfl rfl (I) Fit.m ⟨rfl, rfl⟩
       ·exact absurd hAB g90
      ·exact absurd (checkG_ok.2 hG) g85

end Go.Sl
