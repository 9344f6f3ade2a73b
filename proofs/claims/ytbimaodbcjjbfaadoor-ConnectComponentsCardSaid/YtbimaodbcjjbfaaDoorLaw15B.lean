/- A part of the proofs of statements of this seat: contracts of functions, and the plain laws that they lean on. No conditions. -/
import Derived.Test.YtbimaodbcjjbfaaDoorLaw15A
import Derived.Test.YtbimaodbcjjbfaaDoorGraphG5
import Derived.Test.YtbimaodbcjjbfaaDoorGraphM5
namespace Go.Sl
open Go.Proofs
set_option linter.unusedVariables false
set_option linter.unusedSimpArgs false
set_option maxRecDepth 4000
set_option maxHeartbeats 4000000 in
theorem ConnectComponents_walk {κ : Ctx} {I : List Item} {la : Option Addr} {ln lc : Nat} {ls : List Int} (hl : Sl κ I (.slice la ln lc) ls) (hT : TabRd κ I 0 tzCells) :
    CallS Tryd.prog κ 5 [.slice la ln lc] I (fun r J => r = .bool true ∧ I = J) := by
 refine CallS.enter (L := [(0, .slice la ln lc)]) Tryd.func5 rfl rfl rfl rfl ?_
 refine W.sr ?_
 refine G.r (Runs.assign rfl) ?_
 refine G.nt ?_
 refine W.sr ?_
 refine G.r (Runs.move rfl) ?_
 refine G.e (Eff.call call13 rfl rfl New_ok) ?_
 rintro _ _ ⟨_, _, ⟨dk1, rfl, rfl⟩, rfl, rfl⟩
 show G Tryd.prog κ _ _ _ _ ([(24, .pointer (some ⟨dk1, 0, none⟩)), (23, .slice la ln lc), (2, .bool false), (0, .slice la ln lc)] : Env) (blk dk1 [.slice la ln lc, I64 (0)] 96 :: I)
 have hi0 : (0 : Int) ≤ 0 := Int.le_refl _
 refine G.r (Runs.assign rfl) ?_
 refine G.nt ?_
 refine W.sr ?_
 refine G.r (Runs.move rfl) ?_
 refine G.e (Eff.call call12 rfl rfl (MkGraph_at (by repeat (first | exact AtF.head _ _ | apply AtF.tail)) (fun _ => Sl.fit hl Fit.m) (by omega)  (by omega))) ?_
 rintro _ _ ⟨_, _, ⟨⟨nd2, ad3, cp4, es5, i6⟩, ⟨⟨rfl, hges5⟩, hi6⟩, rfl⟩, rfl, rfl⟩
 show G Tryd.prog κ _ _ _ _ ([(26, .agg #[I64 (nd2), .slice ad3 es5.length cp4]), (25, .pointer (some ⟨dk1, 0, none⟩)), (3, .pointer (some ⟨dk1, 0, none⟩)), (24, .pointer (some ⟨dk1, 0, none⟩)), (23, .slice la ln lc), (2, .bool false), (0, .slice la ln lc)] : Env) (vc 38 (.slice ad3 es5.length cp4) (es5) :: blk dk1 [.slice la ln lc, I64 (i6)] 96 :: I)
 have hi6 : 0 ≤ i6 := hi6
 dsimp only at hges5
 have hG := hges5.2.1
 have hel := hges5.2.2
 have hnd := hges5.1
 have hrng := hG.rng
 refine G.e (Eff.alloc ty25 rfl) ?_
 rintro _ _ ⟨b7, rfl, rfl⟩
 refine G.e (Eff.st (cs := [_, _]) (vs := [_, _]) (cs' := [_, _]) ty25) ?_
 rintro _ _ ⟨rfl, rfl⟩
 refine G.nt ?_
 refine W.sr ?_
 refine G.r (Runs.lds (vs := [_, _]) ty25) ?_
 refine G.e (Eff.call call28 rfl rfl (Components_ok (nd := nd2) Sl.o (TabRd.fit hT Fit.m))) ?_
 rintro _ _ ⟨_, _, ⟨ad8, cp9, rs10, rfl, hrs10, rfl⟩, rfl, rfl⟩
 refine G.fit (J := vc 22 (.slice ad8 rs10.length cp9) (rs10) :: blk b7 [I64 (nd2), .slice ad3 es5.length cp4] 25 :: vc 38 (.slice ad3 es5.length cp4) (es5) :: blk dk1 [.slice la ln lc, I64 (i6)] 96 :: (ownR 3 rs10 ++ I)) Fit.s ?_
 refine G.r (Runs.move rfl) ?_
 refine G.r (Runs.extract rfl rfl) ?_
 refine G.r (Runs.extract rfl rfl) ?_
 refine G.r (Runs.assign rfl) ?_
 refine G.r (Runs.assign rfl) ?_
 have hcl := len_xs hrs10
 have hcn := comps_count hG
 refine G.nt ?_
 refine W.sub (L' := [(6, _), (5, _), (4, _), (3, _)]) (Sub.cons rfl (Sub.cons rfl (Sub.cons rfl (Sub.cons rfl Sub.nil)))) ?_
 refine W.sr ?_
 refine G.r (Runs.assign rfl) ?_
 refine G.nt ?_
 refine W.seq ?_
 refine W.sr ?_
 refine G.r (Runs.move rfl) ?_
 refine G.r (Runs.lens Tryd.underlying50 rfl) ?_
 refine G.r (Runs.move rfl) ?_
 refine G.nt ?_
 refine W.block ?_
 refine W.loop (σ := Nat × (Option Addr) × Nat × (List Int)) (fun s => ([(3, .pointer (some ⟨dk1, 0, none⟩)), (4, .pointer (some ⟨b7, 0, none⟩)), (5, .slice ad8 rs10.length cp9), (6, I64 (checkG nd2 es5)), (7, .slice s.2.1 s.2.2.2.length s.2.2.1), (32, .slice ad8 rs10.length cp9), (33, I64 (((rs10.length : Nat) : Int))), (34, I64 (((s.1 : Nat) : Int)))] : Env)) (fun s => vc 3 (.slice s.2.1 s.2.2.2.length s.2.2.1) (s.2.2.2) :: vc 22 (.slice ad8 rs10.length cp9) (rs10) :: blk b7 [I64 (nd2), .slice ad3 es5.length cp4] 25 :: vc 38 (.slice ad3 es5.length cp4) (es5) :: blk dk1 [.slice la ln lc, I64 (i6)] 96 :: (ownR 3 rs10 ++ I)) (fun s => (s.1 ≤ rs10.length) ∧ (s.2.2.2 = ((compsG nd2 es5).take s.1).flatten)) (fun s => rs10.length - s.1) (0, none, 0, []) (show ((0 : Nat) ≤ rs10.length) ∧ (([] : List Int) = ((compsG nd2 es5).take (0 : Nat)).flatten) from ⟨(by omega), rfl⟩) (Sub.cons rfl (Sub.cons rfl (Sub.cons rfl (Sub.cons rfl (Sub.cons (lookV rfl (by first | rfl | simp)) (Sub.cons rfl (Sub.cons rfl (Sub.cons lookO Sub.nil)))))))) (show Fit κ _ (vc 3 (.slice (none) ([]).length (0)) (([])) :: vc 22 (.slice ad8 rs10.length cp9) (rs10) :: blk b7 [I64 (nd2), .slice ad3 es5.length cp4] 25 :: vc 38 (.slice ad3 es5.length cp4) (es5) :: blk dk1 [.slice la ln lc, I64 (i6)] 96 :: (ownR 3 rs10 ++ I)) from (Fit.nilvc _ _)) ?_
 rintro ⟨k, a, c, out⟩ hp
 obtain ⟨hk, ho⟩ : (k ≤ rs10.length) ∧ (out = ((compsG nd2 es5).take k).flatten) := hp
 show W Tryd.prog κ 127 _ _ ([(3, .pointer (some ⟨dk1, 0, none⟩)), (4, .pointer (some ⟨b7, 0, none⟩)), (5, .slice ad8 rs10.length cp9), (6, I64 (checkG nd2 es5)), (7, .slice a out.length c), (32, .slice ad8 rs10.length cp9), (33, I64 (((rs10.length : Nat) : Int))), (34, I64 (((k : Nat) : Int)))] : Env) (vc 3 (.slice a out.length c) (out) :: vc 22 (.slice ad8 rs10.length cp9) (rs10) :: blk b7 [I64 (nd2), .slice ad3 es5.length cp4] 25 :: vc 38 (.slice ad3 es5.length cp4) (es5) :: blk dk1 [.slice la ln lc, I64 (i6)] 96 :: (ownR 3 rs10 ++ I))
 refine W.pull (Sl.le (Sl.vec (xs := rs10) (by repeat (first | exact List.mem_cons_self | apply List.mem_cons_of_mem)))) fun hmx => ?_
 have hfl : k < rs10.length → out.length + (at_ rs10 ((k : Nat) : Int)).xs.length ≤ 64 := fun h => by have := flat_take_le (L := (compsG nd2 es5)) (k := k) (by omega); rw [← ho, at_xs hrs10 h] at this; omega
 refine W.sr ?_
 refine G.r (Runs.lss rfl rfl) ?_
 refine G.nt ?_
 refine W.seq ?_
 refine W.ite rfl (fun c35 => ?_) (fun c35 => ?_)
 ·refine W.skip ?_
  refine V.then ?_
  refine W.seq ?_
  refine W.block ?_
  refine W.sr ?_
  refine G.r (Runs.idx (α := (RowG Int)) (xs := rs10) Tryd.underlying50 ty22 rfl rfl Sl.o (by omega) (by omega)) ?_
  refine G.r (Runs.getf0 (α := (RowG Int)) (xs := rs10) (u := .slice (at_ rs10 ((k : Nat) : Int)).a (at_ rs10 ((k : Nat) : Int)).xs.length (at_ rs10 ((k : Nat) : Int)).c) ty22 rfl Sl.o (by omega) (by omega) rfl) ?_
  refine G.r (Runs.assign rfl) ?_
  refine G.nt ?_
  refine W.seq ?_
  refine W.sr ?_
  refine G.r (Runs.move rfl) ?_
  refine G.r (Runs.lens Tryd.underlying22 rfl) ?_
  refine G.r (Runs.eql rfl rfl) ?_
  refine G.nt ?_
  refine W.sub (L' := [(40, _), (9, _), (3, _), (4, _), (5, _), (6, _), (7, _), (32, _), (33, _), (34, _)]) (Sub.cons rfl (Sub.cons rfl (Sub.cons rfl (Sub.cons rfl (Sub.cons rfl (Sub.cons rfl (Sub.cons rfl (Sub.cons rfl (Sub.cons rfl (Sub.cons rfl Sub.nil)))))))))) ?_
  refine W.ite rfl (fun c40 => ?_) (fun c40 => ?_)
  ·exact absurd (comps_ne hG (at_ (compsG nd2 es5) (k : Int)) (at_mem (by omega) (by omega))) (by rw [at_xs hrs10 (by omega)]; intro h; exact h (List.eq_nil_of_length_eq_zero (by omega)))
  ·refine W.skip ?_
   refine V.then ?_
   refine W.region ?_
   refine G.r (Runs.move rfl) ?_
   refine G.r (Runs.move rfl) ?_
   refine G.e (Eff.app (α := Int) (e := 3) (xs := out) (ys := (at_ rs10 ((k : Nat) : Int)).xs) Tryd.underlying22 ty3 rfl rfl rfl (by repeat (first | exact List.mem_cons_self | apply List.mem_cons_of_mem)) (HeldAll.at (ownR_in (e := 3) (rs := rs10) (fun x hx => by repeat (first | exact List.mem_append_left _ hx | apply List.mem_append_right | apply List.mem_cons_of_mem))) (i := ((k : Nat) : Int)) (by omega) (by omega)) (by omega) (by decide) rfl (fun _ _ => (by repeat (first | exact At.head _ _ _ | apply At.tail)))) ?_
   rintro _ _ ⟨ad11, cp12, rfl, rfl⟩
   refine G.r (Runs.assign rfl) ?_
   refine G.nil ?_
   refine V.block_normal ?_
   refine V.then ?_
   refine W.sub (L' := [(7, _), (3, _), (4, _), (5, _), (6, _), (32, _), (33, _), (34, _)]) (Sub.cons rfl (Sub.cons rfl (Sub.cons rfl (Sub.cons rfl (Sub.cons rfl (Sub.cons rfl (Sub.cons rfl (Sub.cons rfl Sub.nil)))))))) ?_
   refine W.region ?_
   refine G.r (Runs.add rfl rfl (by unfold InR; omega)) ?_
   refine G.r (Runs.move rfl) ?_
   refine G.nil ?_
   exact V.next ((k + 1), (ad11), (cp12), (out ++ ((at_ rs10 ((k : Nat) : Int)).xs))) (show ((k + 1 : Nat) ≤ rs10.length) ∧ ((out ++ ((at_ rs10 ((k : Nat) : Int)).xs) : List Int) = ((compsG nd2 es5).take (k + 1 : Nat)).flatten) from ⟨(by omega), (by rw [flatL_take (by omega), ← ho, at_xs hrs10 (by omega)])⟩) (show rs10.length - (k + 1 : Nat) < rs10.length - k from (by omega)) (Sub.cons rfl (Sub.cons rfl (Sub.cons rfl (Sub.cons rfl (Sub.cons (lookV rfl (by first | rfl | simp)) (Sub.cons rfl (Sub.cons rfl (Sub.cons lookO Sub.nil)))))))) (show Fit κ _ (vc 3 (.slice (ad11) (out ++ ((at_ rs10 ((k : Nat) : Int)).xs)).length (cp12)) ((out ++ ((at_ rs10 ((k : Nat) : Int)).xs))) :: vc 22 (.slice ad8 rs10.length cp9) (rs10) :: blk b7 [I64 (nd2), .slice ad3 es5.length cp4] 25 :: vc 38 (.slice ad3 es5.length cp4) (es5) :: blk dk1 [.slice la ln lc, I64 (i6)] 96 :: (ownR 3 rs10 ++ I)) from Fit.sub)
 ·refine W.exit ?_
  refine V.then_exit ?_
  refine V.then_exit ?_
  refine V.block_hit ?_
  refine V.then ?_
  refine W.seq ?_
  refine W.seq ?_
  refine W.drawn mixed ?_
  refine A.hold (vc 3 (.slice a out.length c) (out) :: vc 22 (.slice ad8 rs10.length cp9) (rs10) :: blk b7 [I64 (nd2), .slice ad3 es5.length cp4] 25 :: vc 38 (.slice ad3 es5.length cp4) (es5) :: blk dk1 [.slice la ln lc, I64 (i6)] 96 :: (ownR 3 rs10 ++ I)) 18 ?_
  refine D.r 0 rfl (Runs.move rfl) ?_ (hJ := Fit.sub)
  have hoE : out = (compsG nd2 es5).flatten := by rw [ho, List.take_of_length_le (by omega)]
  have hoO : ofL out = rangeI nd2 := by rw [hoE]; exact comps_of hG
  refine D.r 1 rfl (Runs.neq rfl rfl) ?_ (hJ := Fit.sub)
  refine D.r 2 rfl (Runs.move rfl) ?_ (hJ := Fit.sub)
  refine D.split (d := 47) rfl (fun g47 => ?_) (fun g47 => ?_)
  ·exact absurd (checkG_ok.2 hG) g47
  ·refine D.read 3 rfl (by kernel_rfl) (by kernel_rfl) (by kernel_rfl) rfl (by kernel_rfl) (fun _ _ _ _ h => h) (Wanted.on rfl rfl rfl) rfl rfl Fit.sub (Runs.move rfl) ?_
   refine D.read 4 rfl (by kernel_rfl) (by kernel_rfl) (by kernel_rfl) rfl (by kernel_rfl) (fun _ _ _ _ h => h) (Wanted.on rfl rfl rfl) rfl rfl Fit.sub (Runs.lens Tryd.underlying22 rfl) ?_
   refine D.read 5 rfl (by kernel_rfl) (by kernel_rfl) (by kernel_rfl) rfl (by kernel_rfl) (fun _ _ _ _ h => h) (Wanted.on rfl rfl rfl) rfl rfl Fit.sub (Runs.fieldAddr fld25_0 rfl) ?_
   refine D.read 6 rfl (by kernel_rfl) (by kernel_rfl) (by kernel_rfl) rfl (by kernel_rfl) (fun _ _ _ _ h => h) (Wanted.on rfl rfl rfl) rfl rfl Fit.sub (Runs.ld ty3) ?_
   refine D.read 7 rfl (by kernel_rfl) (by kernel_rfl) (by kernel_rfl) rfl (by kernel_rfl) (fun _ _ _ _ h => h) (Wanted.on rfl rfl rfl) rfl rfl Fit.sub (Runs.neq rfl rfl) ?_
   refine D.r 8 rfl (Runs.pickf rfl rfl) ?_ (hJ := Fit.sub)
   refine D.r 9 rfl (Runs.move rfl) ?_ (hJ := Fit.sub)
   refine D.split (d := 54) rfl (fun g54 => ?_) (fun g54 => ?_)
   ·exact absurd (by rw [hoE]; omega) g54
   ·refine D.read 10 rfl (by kernel_rfl) (by kernel_rfl) (by kernel_rfl) rfl (by kernel_rfl) (fun _ _ _ _ h => h) (Wanted.on rfl rfl rfl) rfl rfl Fit.sub (Runs.move rfl) ?_
    refine D.read 12 rfl (by kernel_rfl) (by kernel_rfl) (by kernel_rfl) rfl (by kernel_rfl) (fun _ _ _ _ h => h) (Wanted.on rfl rfl rfl) rfl rfl Fit.sub (Runs.fieldAddr fld25_0 rfl) ?_
    refine D.read 13 rfl (by kernel_rfl) (by kernel_rfl) (by kernel_rfl) rfl (by kernel_rfl) (fun _ _ _ _ h => h) (Wanted.on rfl rfl rfl) rfl rfl Fit.sub (Runs.ld ty3) ?_
    refine D.step (rs := [11]) (by kernel_rfl) rfl rfl (all1 ?_)
    refine Step.eff rfl (Wanted.on rfl rfl rfl) (Eff.call call18 rfl rfl (Of_ok Sl.o (by omega))) ?_
    rintro _ _ ⟨_, _, ⟨ad13, cp14, rfl, rfl⟩, rfl, rfl⟩
    refine ⟨Fit.sub, ?_⟩
    refine D.step (rs := [14]) (by kernel_rfl) rfl rfl (all1 ?_)
    refine Step.eff rfl (Wanted.on rfl rfl rfl) (Eff.call call29 rfl rfl (Range_ok nd2)) ?_
    rintro _ _ ⟨_, _, ⟨ad15, cp16, rfl, rfl⟩, rfl, rfl⟩
    refine ⟨Fit.sub, ?_⟩
    refine D.step (rs := [15]) (by kernel_rfl) rfl rfl (all1 ?_)
    refine Step.eff rfl (Wanted.on rfl rfl rfl) (Eff.call call27 rfl rfl (Same_ok Sl.o Sl.o)) ?_
    rintro _ _ ⟨_, _, ⟨rfl, rfl⟩, rfl, rfl⟩
    refine ⟨Fit.sub, ?_⟩
    refine D.read 16 rfl (by kernel_rfl) (by kernel_rfl) (by kernel_rfl) rfl (by kernel_rfl) (fun _ _ _ _ h => h) (Wanted.on rfl rfl rfl) rfl rfl Fit.sub (Runs.notd rfl) ?_
    refine D.r 17 rfl (Runs.pickf rfl rfl) ?_ (hJ := Fit.sub)
    refine D.done (by kernel_rfl) ?_
    refine V.then ?_
    refine W.sub (L' := [(62, _), (3, _), (4, _), (5, _)]) (Sub.cons rfl (Sub.cons rfl (Sub.cons rfl (Sub.cons rfl Sub.nil)))) ?_
    refine W.ite rfl (fun c62 => ?_) (fun c62 => ?_)
    ·exact absurd hoO c62
    ·refine W.skip ?_
     refine V.then ?_
     refine W.seq ?_
     refine W.sr ?_
     refine G.r (Runs.fieldAddr fld25_1 rfl) ?_
     refine G.r (Runs.ld ty23) ?_
     refine G.r (Runs.lens Tryd.underlying23 rfl) ?_
     refine G.r (Runs.move rfl) ?_
     refine G.nt ?_
     refine W.block ?_
     refine W.loop (σ := Nat) (fun s => ([(3, .pointer (some ⟨dk1, 0, none⟩)), (4, .pointer (some ⟨b7, 0, none⟩)), (5, .slice ad8 rs10.length cp9), (64, .slice ad3 es5.length cp4), (65, I64 (((es5.length : Nat) : Int))), (66, I64 (((s : Nat) : Int)))] : Env)) (fun s => vc 3 (.slice ad15 (rangeI nd2).length cp16) (rangeI nd2) :: vc 3 (.slice ad13 (ofL out).length cp14) (ofL out) :: vc 3 (.slice a out.length c) (out) :: vc 22 (.slice ad8 rs10.length cp9) (rs10) :: blk b7 [I64 (nd2), .slice ad3 es5.length cp4] 25 :: vc 38 (.slice ad3 es5.length cp4) (es5) :: blk dk1 [.slice la ln lc, I64 (i6)] 96 :: (ownR 3 rs10 ++ I)) (fun s => (s ≤ es5.length)) (fun s => es5.length - s) (0) (show ((0 : Nat) ≤ es5.length) from (by omega)) (Sub.cons rfl (Sub.cons rfl (Sub.cons rfl (Sub.cons rfl (Sub.cons rfl (Sub.cons lookO Sub.nil)))))) (show Fit κ _ (vc 3 (.slice ad15 (rangeI nd2).length cp16) (rangeI nd2) :: vc 3 (.slice ad13 (ofL out).length cp14) (ofL out) :: vc 3 (.slice a out.length c) (out) :: vc 22 (.slice ad8 rs10.length cp9) (rs10) :: blk b7 [I64 (nd2), .slice ad3 es5.length cp4] 25 :: vc 38 (.slice ad3 es5.length cp4) (es5) :: blk dk1 [.slice la ln lc, I64 (i6)] 96 :: (ownR 3 rs10 ++ I)) from Fit.sub) ?_
     rintro k hp
     have hk : (k ≤ es5.length) := hp
     show W Tryd.prog κ 127 _ _ ([(3, .pointer (some ⟨dk1, 0, none⟩)), (4, .pointer (some ⟨b7, 0, none⟩)), (5, .slice ad8 rs10.length cp9), (64, .slice ad3 es5.length cp4), (65, I64 (((es5.length : Nat) : Int))), (66, I64 (((k : Nat) : Int)))] : Env) (vc 3 (.slice ad15 (rangeI nd2).length cp16) (rangeI nd2) :: vc 3 (.slice ad13 (ofL out).length cp14) (ofL out) :: vc 3 (.slice a out.length c) (out) :: vc 22 (.slice ad8 rs10.length cp9) (rs10) :: blk b7 [I64 (nd2), .slice ad3 es5.length cp4] 25 :: vc 38 (.slice ad3 es5.length cp4) (es5) :: blk dk1 [.slice la ln lc, I64 (i6)] 96 :: (ownR 3 rs10 ++ I))
     refine W.sr ?_
     refine G.r (Runs.lss rfl rfl) ?_
     refine G.nt ?_
     refine W.seq ?_
     refine W.ite rfl (fun c67 => ?_) (fun c67 => ?_)
     ·refine W.skip ?_
      refine V.then ?_
      refine W.seq ?_
      refine W.block ?_
      refine W.sr ?_
      refine G.r (Runs.idx (α := Pt) (xs := es5) Tryd.underlying23 ty38 rfl rfl Sl.o (by omega) (by omega)) ?_
      refine G.r (Runs.gets (α := Pt) (xs := es5) ty38 rfl Sl.o (by omega) (by omega)) ?_
      refine G.e (Eff.alloc ty38 rfl) ?_
      rintro _ _ ⟨b17, rfl, rfl⟩
      refine G.e (Eff.st (cs := [_, _]) (vs := [_, _]) (cs' := [_, _]) ty38) ?_
      rintro _ _ ⟨rfl, rfl⟩
      refine G.nt ?_
      refine W.sr ?_
      refine G.r (Runs.lds (vs := [_, _]) ty25) ?_
      refine G.r (Runs.fieldAddr fld38_0 rfl) ?_
      refine G.r (Runs.ld ty3) ?_
      refine G.r (Runs.fieldAddr fld38_1 rfl) ?_
      refine G.r (Runs.ld ty3) ?_
      refine G.e (Eff.call call30 rfl rfl (SameC_ok (nd := nd2) Sl.o ((at_ es5 ((k : Nat) : Int)).u) ((at_ es5 ((k : Nat) : Int)).v) (TabRd.fit hT Fit.m))) ?_
      rintro _ _ ⟨_, _, ⟨rfl, rfl⟩, rfl, rfl⟩
      refine G.r (Runs.move rfl) ?_
      refine G.r (Runs.extract rfl rfl) ?_
      refine G.r (Runs.extract rfl rfl) ?_
      refine G.r (Runs.assign rfl) ?_
      refine G.r (Runs.assign rfl) ?_
      have hse := same_edge hG (at_mem (xs := es5) (i := (k : Int)) (by omega) (by omega))
      refine G.nt ?_
      refine W.sub (L' := [(13, _), (12, _), (3, _), (4, _), (5, _), (64, _), (65, _), (66, _)]) (Sub.cons rfl (Sub.cons rfl (Sub.cons rfl (Sub.cons rfl (Sub.cons rfl (Sub.cons rfl (Sub.cons rfl (Sub.cons rfl Sub.nil)))))))) ?_
      refine W.sr ?_
      refine G.r (Runs.move rfl) ?_
      refine G.r (Runs.not rfl) ?_
      refine G.r (Runs.move rfl) ?_
      refine G.splitb (d := 81) rfl (fun g81 => ?_) (fun g81 => ?_)
      ·exact absurd hse.1 (by simpa using g81)
      ·refine G.ro (Runs.move rfl) ?_
       refine G.ro (Runs.neq rfl rfl) ?_
       refine G.r (Runs.pickf rfl rfl) ?_
       refine G.nt ?_
       refine W.sub (L' := [(84, _), (3, _), (4, _), (5, _), (64, _), (65, _), (66, _)]) (Sub.cons rfl (Sub.cons rfl (Sub.cons rfl (Sub.cons rfl (Sub.cons rfl (Sub.cons rfl (Sub.cons rfl Sub.nil))))))) ?_
       refine W.ite rfl (fun c84 => ?_) (fun c84 => ?_)
       ·exact absurd hse.2 c84
       ·refine W.skip ?_
        refine V.block_normal ?_
        refine V.then ?_
        refine W.region ?_
        refine G.r (Runs.add rfl rfl (by unfold InR; omega)) ?_
        refine G.r (Runs.move rfl) ?_
        refine G.nil ?_
        exact V.next ((k + 1)) (show ((k + 1 : Nat) ≤ es5.length) from (by omega)) (show es5.length - (k + 1 : Nat) < es5.length - k from (by omega)) (Sub.cons rfl (Sub.cons rfl (Sub.cons rfl (Sub.cons rfl (Sub.cons rfl (Sub.cons lookO Sub.nil)))))) (show Fit κ _ (vc 3 (.slice ad15 (rangeI nd2).length cp16) (rangeI nd2) :: vc 3 (.slice ad13 (ofL out).length cp14) (ofL out) :: vc 3 (.slice a out.length c) (out) :: vc 22 (.slice ad8 rs10.length cp9) (rs10) :: blk b7 [I64 (nd2), .slice ad3 es5.length cp4] 25 :: vc 38 (.slice ad3 es5.length cp4) (es5) :: blk dk1 [.slice la ln lc, I64 (i6)] 96 :: (ownR 3 rs10 ++ I)) from Fit.sub)
     ·refine W.exit ?_
      refine V.then_exit ?_
      refine V.then_exit ?_
      refine V.block_hit ?_
      refine V.then ?_
      refine W.sr ?_
      refine G.r (Runs.move rfl) ?_
      refine G.e (Eff.call call22 rfl rfl (Next_ok (by repeat (first | exact AtF.head _ _ | apply AtF.tail)) (Sl.f hl) (by omega) (by omega))) ?_
      rintro _ _ ⟨_, _, ⟨x18, i19, rfl, hx18, hi19, rfl⟩, rfl, rfl⟩
      show G Tryd.prog κ _ _ _ _ ([(87, I64 (x18)), (86, .pointer (some ⟨dk1, 0, none⟩)), (67, .bool (decide (((k : Nat) : Int) < ((es5.length : Nat) : Int)))), (3, .pointer (some ⟨dk1, 0, none⟩)), (4, .pointer (some ⟨b7, 0, none⟩)), (5, .slice ad8 rs10.length cp9), (64, .slice ad3 es5.length cp4), (65, I64 (((es5.length : Nat) : Int))), (66, I64 (((k : Nat) : Int)))] : Env) (vc 3 (.slice ad15 (rangeI nd2).length cp16) (rangeI nd2) :: vc 3 (.slice ad13 (ofL out).length cp14) (ofL out) :: vc 3 (.slice a out.length c) (out) :: vc 22 (.slice ad8 rs10.length cp9) (rs10) :: blk b7 [I64 (nd2), .slice ad3 es5.length cp4] 25 :: vc 38 (.slice ad3 es5.length cp4) (es5) :: blk dk1 [.slice la ln lc, I64 (i19)] 96 :: (ownR 3 rs10 ++ I))
      refine G.r (Runs.move rfl) ?_
      refine G.e (Eff.call call22 rfl rfl (Next_ok (by repeat (first | exact AtF.head _ _ | apply AtF.tail)) (Sl.f hl) (by omega) (by omega))) ?_
      rintro _ _ ⟨_, _, ⟨x20, i21, rfl, hx20, hi21, rfl⟩, rfl, rfl⟩
      show G Tryd.prog κ _ _ _ _ ([(89, I64 (x20)), (88, .pointer (some ⟨dk1, 0, none⟩)), (87, I64 (x18)), (86, .pointer (some ⟨dk1, 0, none⟩)), (67, .bool (decide (((k : Nat) : Int) < ((es5.length : Nat) : Int)))), (3, .pointer (some ⟨dk1, 0, none⟩)), (4, .pointer (some ⟨b7, 0, none⟩)), (5, .slice ad8 rs10.length cp9), (64, .slice ad3 es5.length cp4), (65, I64 (((es5.length : Nat) : Int))), (66, I64 (((k : Nat) : Int)))] : Env) (vc 3 (.slice ad15 (rangeI nd2).length cp16) (rangeI nd2) :: vc 3 (.slice ad13 (ofL out).length cp14) (ofL out) :: vc 3 (.slice a out.length c) (out) :: vc 22 (.slice ad8 rs10.length cp9) (rs10) :: blk b7 [I64 (nd2), .slice ad3 es5.length cp4] 25 :: vc 38 (.slice ad3 es5.length cp4) (es5) :: blk dk1 [.slice la ln lc, I64 (i21)] 96 :: (ownR 3 rs10 ++ I))
      refine G.r (Runs.assign rfl) ?_
      refine G.r (Runs.assign rfl) ?_
      refine G.nt ?_
      refine W.sr ?_
      refine G.r (Runs.lds (vs := [_, _]) ty25) ?_
      refine G.r (Runs.move rfl) ?_
      refine G.r (Runs.move rfl) ?_
      refine G.e (Eff.call call31 rfl rfl (Add03_ok Sl.o x18 x20 (by omega))) ?_
      rintro _ _ ⟨_, _, (⟨hnead22, rfl, rfl⟩ | ⟨ad22, cp23, hzad22, rfl, rfl⟩), rfl, rfl⟩
      ·show G Tryd.prog κ _ _ _ _ ([(94, .tuple #[.agg #[I64 (0), .slice none 0 0], I64 (addG nd2 es5 x18 x20)]), (93, I64 (x20)), (92, I64 (x18)), (91, .agg #[I64 (nd2), .slice ad3 es5.length cp4]), (15, I64 (x20)), (14, I64 (x18)), (89, I64 (x20)), (88, .pointer (some ⟨dk1, 0, none⟩)), (87, I64 (x18)), (86, .pointer (some ⟨dk1, 0, none⟩)), (67, .bool (decide (((k : Nat) : Int) < ((es5.length : Nat) : Int)))), (3, .pointer (some ⟨dk1, 0, none⟩)), (4, .pointer (some ⟨b7, 0, none⟩)), (5, .slice ad8 rs10.length cp9), (64, .slice ad3 es5.length cp4), (65, I64 (((es5.length : Nat) : Int))), (66, I64 (((k : Nat) : Int)))] : Env) (vc 3 (.slice ad15 (rangeI nd2).length cp16) (rangeI nd2) :: vc 3 (.slice ad13 (ofL out).length cp14) (ofL out) :: vc 3 (.slice a out.length c) (out) :: vc 22 (.slice ad8 rs10.length cp9) (rs10) :: blk b7 [I64 (nd2), .slice ad3 es5.length cp4] 25 :: vc 38 (.slice ad3 es5.length cp4) (es5) :: blk dk1 [.slice la ln lc, I64 (i21)] 96 :: (ownR 3 rs10 ++ I))
       refine G.r (Runs.move rfl) ?_
       refine G.r (Runs.extract rfl rfl) ?_
       refine G.r (Runs.extract rfl rfl) ?_
       refine G.e (Eff.alloc ty25 rfl) ?_
       rintro _ _ ⟨b24, rfl, rfl⟩
       refine G.e (Eff.st (cs := [_, _]) (vs := [_, _]) (cs' := [_, _]) ty25) ?_
       rintro _ _ ⟨rfl, rfl⟩
       refine G.r (Runs.assign rfl) ?_
       refine G.nt ?_
       refine W.sub (L' := [(17, _), (16, _), (15, _), (14, _), (4, _), (5, _)]) (Sub.cons rfl (Sub.cons rfl (Sub.cons rfl (Sub.cons rfl (Sub.cons rfl (Sub.cons rfl Sub.nil)))))) ?_
       refine W.seq ?_
       refine W.sr ?_
       refine G.r (Runs.move rfl) ?_
       refine G.r (Runs.neq rfl rfl) ?_
       refine G.nt ?_
       refine W.ite rfl (fun c98 => ?_) (fun c98 => ?_)
       ·refine W.sr ?_
        refine G.e (Eff.call call20 rfl rfl (Awake15_ok (TabRd.fit hT Fit.m))) ?_
        rintro _ _ ⟨_, _, ⟨rfl, rfl⟩, rfl, rfl⟩
        refine G.r (Runs.assign rfl) ?_
        refine G.nt ?_
        refine W.ret ?_
        refine V.then_ret ?_
        exact V.ret1 rfl rfl (I) Fit.m ⟨rfl, rfl⟩
       ·exact absurd hnead22 c98
      ·show G Tryd.prog κ _ _ _ _ ([(94, .tuple #[.agg #[I64 (nd2), .slice ad22 (insB Pt.lt es5 (edgeP x18 x20)).length cp23], I64 (0)]), (93, I64 (x20)), (92, I64 (x18)), (91, .agg #[I64 (nd2), .slice ad3 es5.length cp4]), (15, I64 (x20)), (14, I64 (x18)), (89, I64 (x20)), (88, .pointer (some ⟨dk1, 0, none⟩)), (87, I64 (x18)), (86, .pointer (some ⟨dk1, 0, none⟩)), (67, .bool (decide (((k : Nat) : Int) < ((es5.length : Nat) : Int)))), (3, .pointer (some ⟨dk1, 0, none⟩)), (4, .pointer (some ⟨b7, 0, none⟩)), (5, .slice ad8 rs10.length cp9), (64, .slice ad3 es5.length cp4), (65, I64 (((es5.length : Nat) : Int))), (66, I64 (((k : Nat) : Int)))] : Env) (vc 38 (.slice ad22 (insB Pt.lt es5 (edgeP x18 x20)).length cp23) (insB Pt.lt es5 (edgeP x18 x20)) :: vc 3 (.slice ad15 (rangeI nd2).length cp16) (rangeI nd2) :: vc 3 (.slice ad13 (ofL out).length cp14) (ofL out) :: vc 3 (.slice a out.length c) (out) :: vc 22 (.slice ad8 rs10.length cp9) (rs10) :: blk b7 [I64 (nd2), .slice ad3 es5.length cp4] 25 :: vc 38 (.slice ad3 es5.length cp4) (es5) :: blk dk1 [.slice la ln lc, I64 (i21)] 96 :: (ownR 3 rs10 ++ I))
       refine G.r (Runs.move rfl) ?_
       refine G.r (Runs.extract rfl rfl) ?_
       refine G.r (Runs.extract rfl rfl) ?_
       refine G.e (Eff.alloc ty25 rfl) ?_
       rintro _ _ ⟨b25, rfl, rfl⟩
       refine G.e (Eff.st (cs := [_, _]) (vs := [_, _]) (cs' := [_, _]) ty25) ?_
       rintro _ _ ⟨rfl, rfl⟩
       refine G.r (Runs.assign rfl) ?_
       refine G.nt ?_
       refine W.sub (L' := [(17, _), (16, _), (15, _), (14, _), (4, _), (5, _)]) (Sub.cons rfl (Sub.cons rfl (Sub.cons rfl (Sub.cons rfl (Sub.cons rfl (Sub.cons rfl Sub.nil)))))) ?_
       refine W.seq ?_
       refine W.sr ?_
       refine G.r (Runs.move rfl) ?_
       refine G.r (Runs.neq rfl rfl) ?_
       refine G.nt ?_
       refine W.ite rfl (fun c98 => ?_) (fun c98 => ?_)
       ·exact absurd rfl c98
       ·refine W.skip ?_
        refine V.then ?_
        refine W.sr ?_
        refine G.r (Runs.lds (vs := [_, _]) ty25) ?_
        refine G.r (Runs.move rfl) ?_
        refine G.r (Runs.move rfl) ?_
        refine G.e (Eff.call call32 rfl rfl (Same15_ok (nd := nd2) Sl.o x18 x20 (by omega))) ?_
        rintro _ _ ⟨_, _, ⟨rfl, rfl⟩, rfl, rfl⟩
        refine G.r (Runs.move rfl) ?_
        refine G.r (Runs.extract rfl rfl) ?_
        refine G.r (Runs.extract rfl rfl) ?_
        refine G.r (Runs.assign rfl) ?_
        refine G.r (Runs.assign rfl) ?_
        refine G.nt ?_
        refine W.sub (L' := [(18, _), (16, _), (5, _)]) (Sub.cons rfl (Sub.cons rfl (Sub.cons rfl Sub.nil))) ?_
        refine W.sr ?_
        refine G.r (Runs.lds (vs := [_, _]) ty25) ?_
        refine G.e (Eff.call call28 rfl rfl (Components_ok (nd := nd2) Sl.o (TabRd.fit hT Fit.m))) ?_
        rintro _ _ ⟨_, _, ⟨ad26, cp27, rs28, rfl, hrs28, rfl⟩, rfl, rfl⟩
        refine G.fit (J := vc 22 (.slice ad26 rs28.length cp27) (rs28) :: blk b25 [I64 (nd2), .slice ad22 (insB Pt.lt es5 (edgeP x18 x20)).length cp23] 25 :: vc 38 (.slice ad22 (insB Pt.lt es5 (edgeP x18 x20)).length cp23) (insB Pt.lt es5 (edgeP x18 x20)) :: vc 3 (.slice ad15 (rangeI nd2).length cp16) (rangeI nd2) :: vc 3 (.slice ad13 (ofL out).length cp14) (ofL out) :: vc 3 (.slice a out.length c) (out) :: vc 22 (.slice ad8 rs10.length cp9) (rs10) :: blk b7 [I64 (nd2), .slice ad3 es5.length cp4] 25 :: vc 38 (.slice ad3 es5.length cp4) (es5) :: blk dk1 [.slice la ln lc, I64 (i21)] 96 :: (ownR 3 rs28 ++ (ownR 3 rs10 ++ I))) Fit.s ?_
        refine G.r (Runs.move rfl) ?_
        refine G.r (Runs.extract rfl rfl) ?_
        refine G.r (Runs.extract rfl rfl) ?_
        refine G.r (Runs.assign rfl) ?_
        refine G.r (Runs.assign rfl) ?_
        refine G.nt ?_
        refine W.sr ?_
        refine G.r (Runs.assign rfl) ?_
        refine G.nt ?_
        refine W.seq ?_
        refine W.sr ?_
        refine G.r (Runs.move rfl) ?_
        refine G.nt ?_
        refine W.cond rfl (fun c112 => ?_) (fun c112 => ?_)
        ·refine W.region ?_
         refine G.r (Runs.assign rfl) ?_
         refine G.nt ?_
         refine W.sr ?_
         refine G.r (Runs.move rfl) ?_
         refine G.r (Runs.eql rfl rfl) ?_
         refine G.r (Runs.move rfl) ?_
         refine G.split (d := 115) rfl (fun g115 => ?_) (fun g115 => ?_)
         ·refine G.ro (Runs.move rfl) ?_
          refine G.ro (Runs.lens Tryd.underlying50 rfl) ?_
          refine G.ro (Runs.move rfl) ?_
          refine G.ro (Runs.lens Tryd.underlying50 rfl) ?_
          refine G.ro (Runs.move rfl) ?_
          refine G.ro (Runs.sub rfl rfl (by unfold InR; omega)) ?_
          refine G.ro (Runs.eql rfl rfl) ?_
          refine G.r (Runs.pickt rfl rfl) ?_
          refine G.r (Runs.move rfl) ?_
          refine G.split (d := 124) rfl (fun g124 => ?_) (fun g124 => ?_)
          ·refine G.eff (Wanted.on rfl rfl rfl) (Eff.call call20 rfl rfl (Awake15_ok (TabRd.fit hT Fit.m))) ?_
           rintro _ _ ⟨_, _, ⟨rfl, rfl⟩, rfl, rfl⟩
           refine G.r (Runs.pickt rfl rfl) ?_
           refine G.r (Runs.assign rfl) ?_
           refine G.nt ?_
           refine W.sub (L' := [(2, _)]) (Sub.cons rfl Sub.nil) ?_
           refine W.ret ?_
           exact V.ret1 rfl rfl (I) Fit.m ⟨rfl, rfl⟩
          ·exact absurd (by have h1 := comps_less hzad22; have h2 := len_xs hrs28; have h3 := len_xs hrs10; (first | rw [if_pos c112] at h1 | rw [if_neg (by rw [c112]; decide)] at h1); omega) g124
         ·exact absurd (checkG_ok.2 (hG.add (addG_zero.1 hzad22).2.1)) g115
        ·refine W.skip ?_
         refine V.then ?_
         refine W.sr ?_
         refine G.r (Runs.move rfl) ?_
         refine G.r (Runs.eql rfl rfl) ?_
         refine G.r (Runs.move rfl) ?_
         refine G.split (d := 115) rfl (fun g115 => ?_) (fun g115 => ?_)
         ·refine G.ro (Runs.move rfl) ?_
          refine G.ro (Runs.lens Tryd.underlying50 rfl) ?_
          refine G.ro (Runs.move rfl) ?_
          refine G.ro (Runs.lens Tryd.underlying50 rfl) ?_
          refine G.ro (Runs.move rfl) ?_
          refine G.ro (Runs.sub rfl rfl (by unfold InR; omega)) ?_
          refine G.ro (Runs.eql rfl rfl) ?_
          refine G.r (Runs.pickt rfl rfl) ?_
          refine G.r (Runs.move rfl) ?_
          refine G.split (d := 124) rfl (fun g124 => ?_) (fun g124 => ?_)
          ·refine G.eff (Wanted.on rfl rfl rfl) (Eff.call call20 rfl rfl (Awake15_ok (TabRd.fit hT Fit.m))) ?_
           rintro _ _ ⟨_, _, ⟨rfl, rfl⟩, rfl, rfl⟩
           refine G.r (Runs.pickt rfl rfl) ?_
           refine G.r (Runs.assign rfl) ?_
           refine G.nt ?_
           refine W.sub (L' := [(2, _)]) (Sub.cons rfl Sub.nil) ?_
           refine W.ret ?_
           exact V.ret1 rfl rfl (I) Fit.m ⟨rfl, rfl⟩
          ·exact absurd (by have h1 := comps_less hzad22; have h2 := len_xs hrs28; have h3 := len_xs hrs10; (first | rw [if_pos c112] at h1 | rw [if_neg (by rw [c112]; decide)] at h1); omega) g124
         ·exact absurd (checkG_ok.2 (hG.add (addG_zero.1 hzad22).2.1)) g115

end Go.Sl
