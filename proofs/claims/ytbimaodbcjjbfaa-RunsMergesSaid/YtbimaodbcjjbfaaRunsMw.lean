/- A part of the proofs of statements of this seat: contracts of functions, and the plain laws that they lean on. No conditions. -/
import Derived.Test.YtbimaodbcjjbfaaRunsV4
namespace Go.Sl
open Go.Proofs
set_option linter.unusedVariables false
set_option linter.unusedSimpArgs false
set_option maxRecDepth 4000
set_option maxHeartbeats 4000000 in
theorem RunsMerges_walk {κ : Ctx} {I : List Item} {la : Option Addr} {ln lc : Nat} {ls : List Int} {sz8 : Int} (hl : Sl κ I (.slice la ln lc) ls) (h8 : 0 ≤ sz8 ∧ sz8 ≤ 255) :
    CallS Try.prog κ 8 [.slice la ln lc, .int .u8 (sz8)] I (fun r J => r = .bool true ∧ I = J) := by
 have ht9 : 0 ≤ Int.tmod sz8 9 ∧ Int.tmod sz8 9 < 9 := by rw [Int.tmod_eq_emod_of_nonneg h8.1]; omega
 refine CallS.enter (L := [(0, .slice la ln lc), (1, .int .u8 (sz8))]) Try.func8 rfl rfl rfl rfl ?_
 refine W.sr ?_
 refine G.r (Runs.assign rfl) ?_
 refine G.nt ?_
 refine W.seq ?_
 refine W.sr ?_
 refine G.r (Runs.move rfl) ?_
 refine G.e (Eff.call call42 rfl rfl Few_ok) ?_
 rintro _ _ ⟨_, _, ⟨rfl, rfl⟩, rfl, rfl⟩
 refine G.r (Runs.notd rfl) ?_
 refine G.nt ?_
 refine W.ite rfl (fun c22 => ?_) (fun c22 => ?_)
 ·refine W.sr ?_
  refine G.e (Eff.call call43 rfl rfl Awake34_ok) ?_
  rintro _ _ ⟨_, _, ⟨rfl, rfl⟩, rfl, rfl⟩
  refine G.r (Runs.assign rfl) ?_
  refine G.nt ?_
  refine W.ret ?_
  refine V.then_ret ?_
  exact V.ret1 rfl rfl (I) Fit.m ⟨rfl, rfl⟩
 ·refine W.skip ?_
  refine V.then ?_
  refine W.sr ?_
  refine G.r (Runs.move rfl) ?_
  refine G.e (Eff.call call22 rfl rfl New_ok) ?_
  rintro _ _ ⟨_, _, ⟨dk1, rfl, rfl⟩, rfl, rfl⟩
  show G Try.prog κ _ _ _ _ ([(25, .pointer (some ⟨dk1, 0, none⟩)), (24, .slice la ln lc), (22, .bool (decide (¬ (((ln : Nat) : Int) ≤ 500)))), (21, .bool (decide (((ln : Nat) : Int) ≤ 500))), (20, .slice la ln lc), (4, .bool false), (0, .slice la ln lc), (1, .int .u8 (sz8))] : Env) (blk dk1 [.slice la ln lc, I64 (0)] 129 :: I)
  have hi0 : (0 : Int) ≤ 0 := Int.le_refl _
  refine G.r (Runs.assign rfl) ?_
  refine G.nt ?_
  refine W.sr ?_
  refine G.r (Runs.move rfl) ?_
  refine G.e (Eff.call call44 rfl rfl (MRun_at (by repeat (first | exact AtF.head _ _ | apply AtF.tail)) (fun _ => Sl.fit hl Fit.m) (by omega)  (by omega))) ?_
  rintro _ _ ⟨_, _, ⟨⟨rn2, ad3, cp4, rl5, i6⟩, ⟨⟨rfl, hwrl5⟩, hi6⟩, rfl⟩, rfl, rfl⟩
  show G Try.prog κ _ _ _ _ ([(27, .agg #[I64 (rn2), .slice ad3 rl5.length cp4]), (26, .pointer (some ⟨dk1, 0, none⟩)), (5, .pointer (some ⟨dk1, 0, none⟩)), (25, .pointer (some ⟨dk1, 0, none⟩)), (24, .slice la ln lc), (22, .bool (decide (¬ (((ln : Nat) : Int) ≤ 500)))), (21, .bool (decide (((ln : Nat) : Int) ≤ 500))), (20, .slice la ln lc), (4, .bool false), (0, .slice la ln lc), (1, .int .u8 (sz8))] : Env) (vc 60 (.slice ad3 rl5.length cp4) (rl5) :: blk dk1 [.slice la ln lc, I64 (i6)] 129 :: I)
  have hi6 : 0 ≤ i6 := hi6
  dsimp only at hwrl5
  have hv := hwrl5.ok
  have hlen := hwrl5.len
  refine G.e (Eff.alloc ty57 rfl) ?_
  rintro _ _ ⟨b7, rfl, rfl⟩
  refine G.e (Eff.st (cs := [_, _]) (vs := [_, _]) (cs' := [_, _]) ty57) ?_
  rintro _ _ ⟨rfl, rfl⟩
  refine G.nt ?_
  refine W.sr ?_
  refine G.r (Runs.move rfl) ?_
  refine G.e (Eff.call call25 rfl rfl (Next_ok (by repeat (first | exact AtF.head _ _ | apply AtF.tail)) (Sl.f hl) (by omega) (by omega))) ?_
  rintro _ _ ⟨_, _, ⟨x8, i9, rfl, hx8, hi9, rfl⟩, rfl, rfl⟩
  show G Try.prog κ _ _ _ _ ([(29, I64 (x8)), (28, .pointer (some ⟨dk1, 0, none⟩)), (6, .pointer (some ⟨b7, 0, none⟩)), (27, .agg #[I64 (rn2), .slice ad3 rl5.length cp4]), (26, .pointer (some ⟨dk1, 0, none⟩)), (5, .pointer (some ⟨dk1, 0, none⟩)), (25, .pointer (some ⟨dk1, 0, none⟩)), (24, .slice la ln lc), (22, .bool (decide (¬ (((ln : Nat) : Int) ≤ 500)))), (21, .bool (decide (((ln : Nat) : Int) ≤ 500))), (20, .slice la ln lc), (4, .bool false), (0, .slice la ln lc), (1, .int .u8 (sz8))] : Env) (blk b7 [I64 (rn2), .slice ad3 rl5.length cp4] 57 :: vc 60 (.slice ad3 rl5.length cp4) (rl5) :: blk dk1 [.slice la ln lc, I64 (i9)] 129 :: I)
  refine G.r (Runs.add rfl rfl (by unfold InR; omega)) ?_
  refine G.e (Eff.make (α := RunV) (n := (1 + x8).toNat) Try.underlying65 ty57 rfl rfl rfl (by omega) (by omega) (by decide) rfl) ?_
  rintro _ _ ⟨ad10, cp11, rfl, rfl⟩
  have hN : (List.replicate ((1 + x8).toNat) (default : RunV)).length = _ := List.length_replicate
  refine G.r (Runs.assign rfl) ?_
  refine G.nt ?_
  refine W.sub (L' := [(7, _), (6, _), (5, _), (1, _)]) (Sub.cons rfl (Sub.cons rfl (Sub.cons rfl (Sub.cons rfl Sub.nil)))) ?_
  refine W.cut (σ := Int × (List RunV)) (fun s => ([(1, .int .u8 (sz8)), (5, .pointer (some ⟨dk1, 0, none⟩)), (6, .pointer (some ⟨b7, 0, none⟩)), (7, .slice ad10 (List.replicate ((1 + x8).toNat) (default : RunV)).length cp11)] : Env)) (fun s => vc 57 (.slice ad10 (List.replicate ((1 + x8).toNat) (default : RunV)).length cp11) (s.2) :: blk b7 [I64 (rn2), .slice ad3 rl5.length cp4] 57 :: vc 60 (.slice ad3 rl5.length cp4) (rl5) :: blk dk1 [.slice la ln lc, I64 (s.1)] 129 :: (runsI s.2 ++ I)) (fun s => (0 ≤ s.1) ∧ (s.2.length = (List.replicate ((1 + x8).toNat) (default : RunV)).length) ∧ (PartsOk rl5 0 s.2)) ?_ ?_
  ·refine W.sr ?_
   refine G.r (Runs.move rfl) ?_
   refine G.r (Runs.lens Try.underlying65 rfl) ?_
   refine G.r (Runs.move rfl) ?_
   refine G.nt ?_
   refine W.block ?_
   refine W.loop (σ := Nat × Int × (List RunV)) (fun s => ([(1, .int .u8 (sz8)), (5, .pointer (some ⟨dk1, 0, none⟩)), (6, .pointer (some ⟨b7, 0, none⟩)), (7, .slice ad10 (List.replicate ((1 + x8).toNat) (default : RunV)).length cp11), (33, I64 ((((List.replicate ((1 + x8).toNat) (default : RunV)).length : Nat) : Int))), (34, I64 (((s.1 : Nat) : Int)))] : Env)) (fun s => vc 57 (.slice ad10 (List.replicate ((1 + x8).toNat) (default : RunV)).length cp11) (s.2.2) :: blk b7 [I64 (rn2), .slice ad3 rl5.length cp4] 57 :: vc 60 (.slice ad3 rl5.length cp4) (rl5) :: blk dk1 [.slice la ln lc, I64 (s.2.1)] 129 :: I) (fun s => (s.1 ≤ s.2.2.length) ∧ (0 ≤ s.2.1) ∧ (s.2.2.length = (List.replicate ((1 + x8).toNat) (default : RunV)).length) ∧ (∀ r ∈ s.2.2, r.Nil) ∧ (∀ j : Int, 0 ≤ j → j < s.1 → 1 ≤ (at_ s.2.2 j).n ∧ (at_ s.2.2 j).n ≤ 5)) (fun s => s.2.2.length - s.1) (0, i9, List.replicate ((1 + x8).toNat) (default : RunV)) (show ((0 : Nat) ≤ (List.replicate ((1 + x8).toNat) (default : RunV) : List RunV).length) ∧ (0 ≤ (i9 : Int)) ∧ ((List.replicate ((1 + x8).toNat) (default : RunV) : List RunV).length = (List.replicate ((1 + x8).toNat) (default : RunV)).length) ∧ (∀ r ∈ (List.replicate ((1 + x8).toNat) (default : RunV) : List RunV), r.Nil) ∧ (∀ j : Int, 0 ≤ j → j < (0 : Nat) → 1 ≤ (at_ (List.replicate ((1 + x8).toNat) (default : RunV) : List RunV) j).n ∧ (at_ (List.replicate ((1 + x8).toNat) (default : RunV) : List RunV) j).n ≤ 5) from ⟨(by omega), (by omega), rfl, (nil_rep _), (fun j a b => by omega)⟩) (Sub.cons rfl (Sub.cons rfl (Sub.cons rfl (Sub.cons rfl (Sub.cons rfl (Sub.cons lookO Sub.nil)))))) (show Fit κ _ (vc 57 (.slice ad10 (List.replicate ((1 + x8).toNat) (default : RunV)).length cp11) ((List.replicate ((1 + x8).toNat) (default : RunV))) :: blk b7 [I64 (rn2), .slice ad3 rl5.length cp4] 57 :: vc 60 (.slice ad3 rl5.length cp4) (rl5) :: blk dk1 [.slice la ln lc, I64 ((i9))] 129 :: I) from Fit.sub) ?_
   rintro ⟨k, iqa, rs⟩ hp
   obtain ⟨hk, hiqa, hrl, hnil, hsz⟩ : (k ≤ rs.length) ∧ (0 ≤ iqa) ∧ (rs.length = (List.replicate ((1 + x8).toNat) (default : RunV)).length) ∧ (∀ r ∈ rs, r.Nil) ∧ (∀ j : Int, 0 ≤ j → j < k → 1 ≤ (at_ rs j).n ∧ (at_ rs j).n ≤ 5) := hp
   show W Try.prog κ 158 _ _ ([(1, .int .u8 (sz8)), (5, .pointer (some ⟨dk1, 0, none⟩)), (6, .pointer (some ⟨b7, 0, none⟩)), (7, .slice ad10 (List.replicate ((1 + x8).toNat) (default : RunV)).length cp11), (33, I64 ((((List.replicate ((1 + x8).toNat) (default : RunV)).length : Nat) : Int))), (34, I64 (((k : Nat) : Int)))] : Env) (vc 57 (.slice ad10 (List.replicate ((1 + x8).toNat) (default : RunV)).length cp11) (rs) :: blk b7 [I64 (rn2), .slice ad3 rl5.length cp4] 57 :: vc 60 (.slice ad3 rl5.length cp4) (rl5) :: blk dk1 [.slice la ln lc, I64 (iqa)] 129 :: I)
   refine W.sr ?_
   refine G.r (Runs.lss rfl rfl) ?_
   refine G.nt ?_
   refine W.seq ?_
   refine W.ite rfl (fun c35 => ?_) (fun c35 => ?_)
   ·refine W.skip ?_
    refine V.then ?_
    refine W.seq ?_
    refine W.block ?_
    refine W.sr ?_
    refine G.r (Runs.move rfl) ?_
    refine G.r (Runs.assign rfl) ?_
    refine G.nt ?_
    refine W.region ?_
    refine G.r (Runs.move rfl) ?_
    refine G.r (Runs.move rfl) ?_
    refine G.r (Runs.move rfl) ?_
    refine G.e (Eff.call call25 rfl rfl (Next_ok (by repeat (first | exact AtF.head _ _ | apply AtF.tail)) (Sl.f hl) (by omega) (by omega))) ?_
    rintro _ _ ⟨_, _, ⟨x12, i13, rfl, hx12, hi13, rfl⟩, rfl, rfl⟩
    show G Try.prog κ _ _ _ _ ([(40, I64 (x12)), (39, .pointer (some ⟨dk1, 0, none⟩)), (38, I64 (((k : Nat) : Int))), (37, .slice ad10 (List.replicate ((1 + x8).toNat) (default : RunV)).length cp11), (8, I64 (((k : Nat) : Int))), (36, I64 (((k : Nat) : Int))), (35, .bool (decide (((k : Nat) : Int) < (((List.replicate ((1 + x8).toNat) (default : RunV)).length : Nat) : Int)))), (1, .int .u8 (sz8)), (5, .pointer (some ⟨dk1, 0, none⟩)), (6, .pointer (some ⟨b7, 0, none⟩)), (7, .slice ad10 (List.replicate ((1 + x8).toNat) (default : RunV)).length cp11), (33, I64 ((((List.replicate ((1 + x8).toNat) (default : RunV)).length : Nat) : Int))), (34, I64 (((k : Nat) : Int)))] : Env) (vc 57 (.slice ad10 (List.replicate ((1 + x8).toNat) (default : RunV)).length cp11) (rs) :: blk b7 [I64 (rn2), .slice ad3 rl5.length cp4] 57 :: vc 60 (.slice ad3 rl5.length cp4) (rl5) :: blk dk1 [.slice la ln lc, I64 (i13)] 129 :: I)
    refine G.r (Runs.add rfl rfl (by unfold InR; omega)) ?_
    refine G.r (Runs.idx (α := RunV) (xs := rs) Try.underlying65 ty57 rfl rfl Sl.o (by omega) (by first | omega | (simp only [List.length_set] at *; omega))) ?_
    refine G.r (Runs.fld (α := RunV) (xs := rs) fld57_0 rfl Sl.o (by first | omega | (simp only [List.length_set] at *; omega))) ?_
    refine G.e (Eff.setf (α := RunV) (xs := rs) (e := 57) (new := { at_ rs ((k : Nat) : Int) with n := 1 + x12 }) (j := 0) ty3 rfl rfl rfl rfl (by decide) rfl (by omega) (by first | omega | (simp only [List.length_set] at *; omega)) (by repeat (first | exact At.head _ _ _ | apply At.tail))) ?_
    rintro _ _ ⟨rfl, rfl⟩
    refine G.nil ?_
    refine V.block_normal ?_
    refine V.then ?_
    refine W.sub (L' := [(1, _), (5, _), (6, _), (7, _), (33, _), (34, _)]) (Sub.cons rfl (Sub.cons rfl (Sub.cons rfl (Sub.cons rfl (Sub.cons rfl (Sub.cons rfl Sub.nil)))))) ?_
    refine W.region ?_
    refine G.r (Runs.add rfl rfl (by unfold InR; omega)) ?_
    refine G.r (Runs.move rfl) ?_
    refine G.nil ?_
    exact V.next ((k + 1), (i13), (List.set rs (((k : Nat) : Int)).toNat ({ at_ rs ((k : Nat) : Int) with n := 1 + x12 }))) (show ((k + 1 : Nat) ≤ (List.set rs (((k : Nat) : Int)).toNat ({ at_ rs ((k : Nat) : Int) with n := 1 + x12 }) : List RunV).length) ∧ (0 ≤ (i13 : Int)) ∧ ((List.set rs (((k : Nat) : Int)).toNat ({ at_ rs ((k : Nat) : Int) with n := 1 + x12 }) : List RunV).length = (List.replicate ((1 + x8).toNat) (default : RunV)).length) ∧ (∀ r ∈ (List.set rs (((k : Nat) : Int)).toNat ({ at_ rs ((k : Nat) : Int) with n := 1 + x12 }) : List RunV), r.Nil) ∧ (∀ j : Int, 0 ≤ j → j < (k + 1 : Nat) → 1 ≤ (at_ (List.set rs (((k : Nat) : Int)).toNat ({ at_ rs ((k : Nat) : Int) with n := 1 + x12 }) : List RunV) j).n ∧ (at_ (List.set rs (((k : Nat) : Int)).toNat ({ at_ rs ((k : Nat) : Int) with n := 1 + x12 }) : List RunV) j).n ≤ 5) from ⟨(by rw [List.length_set]; omega), (by omega), (by rw [List.length_set]; exact hrl), (nil_set hnil (hnil (at_ rs ((k : Nat) : Int)) (at_mem (by omega) (by omega)))), (fun j a b => by rw [at_set _ _ _ _ (by omega) a (by omega)]; split; (dsimp only; omega); exact hsz j a (by omega))⟩) (show (List.set rs (((k : Nat) : Int)).toNat ({ at_ rs ((k : Nat) : Int) with n := 1 + x12 }) : List RunV).length - (k + 1 : Nat) < rs.length - k from (by rw [List.length_set]; omega)) (Sub.cons rfl (Sub.cons rfl (Sub.cons rfl (Sub.cons rfl (Sub.cons rfl (Sub.cons lookO Sub.nil)))))) (show Fit κ _ (vc 57 (.slice ad10 (List.replicate ((1 + x8).toNat) (default : RunV)).length cp11) ((List.set rs (((k : Nat) : Int)).toNat ({ at_ rs ((k : Nat) : Int) with n := 1 + x12 }))) :: blk b7 [I64 (rn2), .slice ad3 rl5.length cp4] 57 :: vc 60 (.slice ad3 rl5.length cp4) (rl5) :: blk dk1 [.slice la ln lc, I64 ((i13))] 129 :: I) from Fit.sub)
   ·refine W.exit ?_
    refine V.then_exit ?_
    refine V.then_exit ?_
    refine V.block_hit ?_
    exact V.mid ((iqa), (rs)) (show (0 ≤ (iqa : Int)) ∧ ((rs : List RunV).length = (List.replicate ((1 + x8).toNat) (default : RunV)).length) ∧ (PartsOk rl5 0 (rs : List RunV)) from ⟨(by omega), (by omega), (PartsOk.start hnil (fun i a b => hsz i a (by omega)))⟩) (Sub.cons rfl (Sub.cons rfl (Sub.cons rfl (Sub.cons rfl Sub.nil)))) (show Fit κ _ (vc 57 (.slice ad10 (List.replicate ((1 + x8).toNat) (default : RunV)).length cp11) ((rs)) :: blk b7 [I64 (rn2), .slice ad3 rl5.length cp4] 57 :: vc 60 (.slice ad3 rl5.length cp4) (rl5) :: blk dk1 [.slice la ln lc, I64 ((iqa))] 129 :: (runsI (rs) ++ I)) from (Fit.trans (Fit.nilruns rs hnil) Fit.s))
  ·rintro ⟨iqb, rs1⟩ hp
   obtain ⟨hiqb, hrl1, hP0⟩ : (0 ≤ iqb) ∧ (rs1.length = (List.replicate ((1 + x8).toNat) (default : RunV)).length) ∧ (PartsOk rl5 0 rs1) := hp
   show W Try.prog κ 158 _ _ ([(1, .int .u8 (sz8)), (5, .pointer (some ⟨dk1, 0, none⟩)), (6, .pointer (some ⟨b7, 0, none⟩)), (7, .slice ad10 (List.replicate ((1 + x8).toNat) (default : RunV)).length cp11)] : Env) (vc 57 (.slice ad10 (List.replicate ((1 + x8).toNat) (default : RunV)).length cp11) (rs1) :: blk b7 [I64 (rn2), .slice ad3 rl5.length cp4] 57 :: vc 60 (.slice ad3 rl5.length cp4) (rl5) :: blk dk1 [.slice la ln lc, I64 (iqb)] 129 :: (runsI rs1 ++ I))
   refine W.seq ?_
   refine W.sr ?_
   refine G.r (Runs.fieldAddr fld57_1 rfl) ?_
   refine G.r (Runs.ld ty55) ?_
   refine G.r (Runs.lens Try.underlying55 rfl) ?_
   refine G.r (Runs.move rfl) ?_
   refine G.nt ?_
   refine W.block ?_
   refine W.loop (σ := Nat × Int × (List RunV)) (fun s => ([(1, .int .u8 (sz8)), (5, .pointer (some ⟨dk1, 0, none⟩)), (6, .pointer (some ⟨b7, 0, none⟩)), (7, .slice ad10 (List.replicate ((1 + x8).toNat) (default : RunV)).length cp11), (46, .slice ad3 rl5.length cp4), (47, I64 (((rl5.length : Nat) : Int))), (48, I64 (((s.1 : Nat) : Int)))] : Env)) (fun s => vc 57 (.slice ad10 (List.replicate ((1 + x8).toNat) (default : RunV)).length cp11) (s.2.2) :: blk b7 [I64 (rn2), .slice ad3 rl5.length cp4] 57 :: vc 60 (.slice ad3 rl5.length cp4) (rl5) :: blk dk1 [.slice la ln lc, I64 (s.2.1)] 129 :: (runsI s.2.2 ++ I)) (fun s => (s.1 ≤ rl5.length) ∧ (0 ≤ s.2.1) ∧ (s.2.2.length = (List.replicate ((1 + x8).toNat) (default : RunV)).length) ∧ (PartsOk rl5 s.1 s.2.2)) (fun s => rl5.length - s.1) (0, iqb, rs1) (show ((0 : Nat) ≤ rl5.length) ∧ (0 ≤ (iqb : Int)) ∧ ((rs1 : List RunV).length = (List.replicate ((1 + x8).toNat) (default : RunV)).length) ∧ (PartsOk rl5 (0 : Nat) (rs1 : List RunV)) from ⟨(by omega), (by omega), hrl1, hP0⟩) (Sub.cons rfl (Sub.cons rfl (Sub.cons rfl (Sub.cons rfl (Sub.cons rfl (Sub.cons rfl (Sub.cons lookO Sub.nil))))))) (show Fit κ _ (vc 57 (.slice ad10 (List.replicate ((1 + x8).toNat) (default : RunV)).length cp11) ((rs1)) :: blk b7 [I64 (rn2), .slice ad3 rl5.length cp4] 57 :: vc 60 (.slice ad3 rl5.length cp4) (rl5) :: blk dk1 [.slice la ln lc, I64 ((iqb))] 129 :: (runsI (rs1) ++ I)) from Fit.sub) ?_
   rintro ⟨k, iqc, rs⟩ hp
   obtain ⟨hk, hiqc, hrl, hP⟩ : (k ≤ rl5.length) ∧ (0 ≤ iqc) ∧ (rs.length = (List.replicate ((1 + x8).toNat) (default : RunV)).length) ∧ (PartsOk rl5 k rs) := hp
   show W Try.prog κ 158 _ _ ([(1, .int .u8 (sz8)), (5, .pointer (some ⟨dk1, 0, none⟩)), (6, .pointer (some ⟨b7, 0, none⟩)), (7, .slice ad10 (List.replicate ((1 + x8).toNat) (default : RunV)).length cp11), (46, .slice ad3 rl5.length cp4), (47, I64 (((rl5.length : Nat) : Int))), (48, I64 (((k : Nat) : Int)))] : Env) (vc 57 (.slice ad10 (List.replicate ((1 + x8).toNat) (default : RunV)).length cp11) (rs) :: blk b7 [I64 (rn2), .slice ad3 rl5.length cp4] 57 :: vc 60 (.slice ad3 rl5.length cp4) (rl5) :: blk dk1 [.slice la ln lc, I64 (iqc)] 129 :: (runsI rs ++ I))
   refine W.sr ?_
   refine G.r (Runs.lss rfl rfl) ?_
   refine G.nt ?_
   refine W.seq ?_
   refine W.ite rfl (fun c49 => ?_) (fun c49 => ?_)
   ·refine W.skip ?_
    refine V.then ?_
    refine W.seq ?_
    refine W.block ?_
    refine W.sr ?_
    refine G.r (Runs.idx (α := Pt) (xs := rl5) Try.underlying55 ty60 rfl rfl Sl.o (by omega) (by first | omega | (simp only [List.length_set] at *; omega))) ?_
    refine G.r (Runs.gets (α := Pt) (xs := rl5) ty60 rfl Sl.o (by omega) (by first | omega | (simp only [List.length_set] at *; omega))) ?_
    refine G.e (Eff.alloc ty60 rfl) ?_
    rintro _ _ ⟨b14, rfl, rfl⟩
    refine G.e (Eff.st (cs := [_, _]) (vs := [_, _]) (cs' := [_, _]) ty60) ?_
    rintro _ _ ⟨rfl, rfl⟩
    refine G.nt ?_
    refine W.sr ?_
    refine G.r (Runs.move rfl) ?_
    refine G.r (Runs.move rfl) ?_
    refine G.r (Runs.lens Try.underlying65 rfl) ?_
    refine G.e (Eff.call call25 rfl rfl (Next_ok (by repeat (first | exact AtF.head _ _ | apply AtF.tail)) (Sl.f hl) (by omega) (by omega))) ?_
    rintro _ _ ⟨_, _, ⟨x15, i16, rfl, hx15, hi16, rfl⟩, rfl, rfl⟩
    show G Try.prog κ _ _ _ _ ([(55, I64 (x15)), (54, I64 ((((List.replicate ((1 + x8).toNat) (default : RunV)).length : Nat) : Int))), (53, .slice ad10 (List.replicate ((1 + x8).toNat) (default : RunV)).length cp11), (52, .pointer (some ⟨dk1, 0, none⟩)), (10, .pointer (some ⟨b14, 0, none⟩)), (51, .agg #[I64 ((at_ rl5 ((k : Nat) : Int)).u), I64 ((at_ rl5 ((k : Nat) : Int)).v)]), (50, elemPtr (.slice ad3 rl5.length cp4) ((((k : Nat) : Int)).toNat * Enc.sz Pt)), (49, .bool (decide (((k : Nat) : Int) < ((rl5.length : Nat) : Int)))), (1, .int .u8 (sz8)), (5, .pointer (some ⟨dk1, 0, none⟩)), (6, .pointer (some ⟨b7, 0, none⟩)), (7, .slice ad10 (List.replicate ((1 + x8).toNat) (default : RunV)).length cp11), (46, .slice ad3 rl5.length cp4), (47, I64 (((rl5.length : Nat) : Int))), (48, I64 (((k : Nat) : Int)))] : Env) (blk b14 [I64 ((at_ rl5 ((k : Nat) : Int)).u), I64 ((at_ rl5 ((k : Nat) : Int)).v)] 60 :: vc 57 (.slice ad10 (List.replicate ((1 + x8).toNat) (default : RunV)).length cp11) (rs) :: blk b7 [I64 (rn2), .slice ad3 rl5.length cp4] 57 :: vc 60 (.slice ad3 rl5.length cp4) (rl5) :: blk dk1 [.slice la ln lc, I64 (i16)] 129 :: (runsI rs ++ I))
    refine G.r (Runs.assign rfl) ?_
    have hl1 := hP.len x15 (by omega) (by omega)
    refine G.nt ?_
    refine W.sub (L' := [(11, _), (10, _), (1, _), (5, _), (6, _), (7, _), (46, _), (47, _), (48, _)]) (Sub.cons rfl (Sub.cons rfl (Sub.cons rfl (Sub.cons rfl (Sub.cons rfl (Sub.cons rfl (Sub.cons rfl (Sub.cons rfl (Sub.cons rfl Sub.nil))))))))) ?_
    refine W.seq ?_
    refine W.drawn mixed ?_
    refine A.hold (blk b14 [I64 ((at_ rl5 ((k : Nat) : Int)).u), I64 ((at_ rl5 ((k : Nat) : Int)).v)] 60 :: vc 57 (.slice ad10 (List.replicate ((1 + x8).toNat) (default : RunV)).length cp11) (rs) :: blk b7 [I64 (rn2), .slice ad3 rl5.length cp4] 57 :: vc 60 (.slice ad3 rl5.length cp4) (rl5) :: blk dk1 [.slice la ln lc, I64 (i16)] 129 :: I) 12 ?_
    refine D.r 0 rfl (Runs.move rfl) ?_ (hJ := Fit.sub)
    refine D.r 1 rfl (Runs.move rfl) ?_ (hJ := Fit.sub)
    refine D.r 2 rfl (Runs.move rfl) ?_ (hJ := Fit.sub)
    refine D.r 3 rfl (Runs.move rfl) ?_ (hJ := Fit.sub)
    refine D.r 4 rfl (Runs.idx (α := RunV) (xs := rs) Try.underlying65 ty57 rfl rfl Sl.o (by omega) (by first | omega | (simp only [List.length_set] at *; omega))) ?_ (hJ := Fit.sub)
    refine D.r 5 rfl (Runs.fld (α := RunV) (xs := rs) fld57_1 rfl Sl.o (by first | omega | (simp only [List.length_set] at *; omega))) ?_ (hJ := Fit.sub)
    refine D.r 6 rfl (Runs.getf (α := RunV) (xs := rs) (u := .slice (at_ rs x15).a (at_ rs x15).xs.length (at_ rs x15).c) ty55 rfl Sl.o (by omega) (by first | omega | (simp only [List.length_set] at *; omega)) rfl) ?_ (hJ := Fit.sub)
    refine D.r 7 rfl (Runs.lds (vs := [_, _]) ty60) ?_ (hJ := Fit.sub)
    refine D.step (rs := [8]) (by kernel_rfl) rfl rfl (all1 ?_)
    refine Step.eff rfl (Wanted.plain rfl) (Eff.bs (α := Pt) (cs := [_, _]) (xs := [⟨(at_ rl5 ((k : Nat) : Int)).u, (at_ rl5 ((k : Nat) : Int)).v⟩]) Try.underlying55 ty60 rfl rfl (by decide) (by decide) rfl rfl rfl rfl) ?_
    rintro _ _ ⟨ad17, rfl, rfl⟩
    refine ⟨Fit.sub, ?_⟩
    refine D.step (rs := [9]) (by kernel_rfl) rfl rfl (all1 ?_)
    refine Step.eff rfl (Wanted.plain rfl) (Eff.app (α := Pt) (e := 60) (xs := (at_ rs x15).xs) (ys := ([⟨(at_ rl5 ((k : Nat) : Int)).u, (at_ rl5 ((k : Nat) : Int)).v⟩] : List Pt)) Try.underlying55 ty60 rfl rfl rfl (by repeat (first | exact runsI_mem (rs := rs) (i := x15) (by omega) (by first | omega | (simp only [List.length_set] at *; omega)) | apply List.mem_cons_of_mem)) Sl.o (by simp only [List.length_cons, List.length_nil]; omega) (by decide) rfl (fun _ _ => (by repeat (first | exact At.runs (n := (at_ rs x15).n) (rs := rs) (i := x15) (by omega) (by first | omega | (simp only [List.length_set] at *; omega)) | apply At.tail)))) ?_
    rintro _ _ ⟨ad18, cp19, rfl, rfl⟩
    refine ⟨Fit.sub, ?_⟩
    show D Try.prog κ _ _ _ _ _ _ _ ([(65, .slice ad18 ((at_ rs x15).xs ++ ([⟨(at_ rl5 ((k : Nat) : Int)).u, (at_ rl5 ((k : Nat) : Int)).v⟩] : List Pt)).length cp19), (64, .slice ad17 1 1), (63, .agg #[I64 ((at_ rl5 ((k : Nat) : Int)).u), I64 ((at_ rl5 ((k : Nat) : Int)).v)]), (62, .slice (at_ rs x15).a (at_ rs x15).xs.length (at_ rs x15).c), (61, elemPtr (.slice ad10 (List.replicate ((1 + x8).toNat) (default : RunV)).length cp11) ((x15).toNat * Enc.sz RunV + 1)), (60, elemPtr (.slice ad10 (List.replicate ((1 + x8).toNat) (default : RunV)).length cp11) ((x15).toNat * Enc.sz RunV)), (59, I64 (x15)), (58, .slice ad10 (List.replicate ((1 + x8).toNat) (default : RunV)).length cp11), (57, I64 (x15)), (56, .slice ad10 (List.replicate ((1 + x8).toNat) (default : RunV)).length cp11), (11, I64 (x15)), (10, .pointer (some ⟨b14, 0, none⟩)), (1, .int .u8 (sz8)), (5, .pointer (some ⟨dk1, 0, none⟩)), (6, .pointer (some ⟨b7, 0, none⟩)), (7, .slice ad10 (List.replicate ((1 + x8).toNat) (default : RunV)).length cp11), (46, .slice ad3 rl5.length cp4), (47, I64 (((rl5.length : Nat) : Int))), (48, I64 (((k : Nat) : Int)))] : Env) (vc 60 (.slice ad17 1 1) (([⟨(at_ rl5 ((k : Nat) : Int)).u, (at_ rl5 ((k : Nat) : Int)).v⟩] : List Pt)) :: blk b14 [I64 ((at_ rl5 ((k : Nat) : Int)).u), I64 ((at_ rl5 ((k : Nat) : Int)).v)] 60 :: vc 57 (.slice ad10 (List.replicate ((1 + x8).toNat) (default : RunV)).length cp11) (rs) :: blk b7 [I64 (rn2), .slice ad3 rl5.length cp4] 57 :: vc 60 (.slice ad3 rl5.length cp4) (rl5) :: blk dk1 [.slice la ln lc, I64 (i16)] 129 :: (runsI (List.set rs (x15).toNat (⟨(at_ rs x15).n, ad18, cp19, ((at_ rs x15).xs ++ ([⟨(at_ rl5 ((k : Nat) : Int)).u, (at_ rl5 ((k : Nat) : Int)).v⟩] : List Pt))⟩ : RunV)) ++ I))
    refine D.step (rs := [10]) (by kernel_rfl) rfl rfl (all1 ?_)
    refine Step.read rfl (Wanted.plain rfl) rfl rfl (Runs.idx (α := RunV) (xs := rs) Try.underlying65 ty57 rfl rfl Sl.o (by omega) (by first | omega | (simp only [List.length_set] at *; omega))) Fit.sub ?_
    refine D.r 11 rfl (Runs.fld (α := RunV) (xs := rs) fld57_1 rfl Sl.o (by first | omega | (simp only [List.length_set] at *; omega))) ?_ (hJ := Fit.sub)
    refine D.stop (by kernel_rfl) ?_
    refine A.eff (i := 12) (by kernel_rfl) rfl (Wanted.plain rfl) (Eff.setf (α := RunV) (xs := rs) (e := 57) (new := (⟨(at_ rs x15).n, ad18, cp19, ((at_ rs x15).xs ++ ([⟨(at_ rl5 ((k : Nat) : Int)).u, (at_ rl5 ((k : Nat) : Int)).v⟩] : List Pt))⟩ : RunV)) (j := 1) ty55 rfl rfl rfl rfl (by decide) rfl (by omega) (by first | omega | (simp only [List.length_set] at *; omega)) (by repeat (first | exact At.head _ _ _ | apply At.tail))) ?_
    rintro _ _ ⟨rfl, rfl⟩
    have hP1 : PartsOk rl5 (k + 1) (List.set rs (x15).toNat (⟨(at_ rs x15).n, ad18, cp19, ((at_ rs x15).xs ++ ([⟨(at_ rl5 ((k : Nat) : Int)).u, (at_ rl5 ((k : Nat) : Int)).v⟩] : List Pt))⟩ : RunV)) := PartsOk.push hP (by omega) hv.asc (by omega) (by omega)
    refine A.done (by kernel_rfl) ?_
    refine V.then ?_
    refine W.sub (L' := [(11, _), (10, _), (1, _), (5, _), (6, _), (7, _), (46, _), (47, _), (48, _)]) (Sub.cons rfl (Sub.cons rfl (Sub.cons rfl (Sub.cons rfl (Sub.cons rfl (Sub.cons rfl (Sub.cons rfl (Sub.cons rfl (Sub.cons rfl Sub.nil))))))))) ?_
    refine W.sr ?_
    refine G.r (Runs.move rfl) ?_
    refine G.r (Runs.move rfl) ?_
    refine G.r (Runs.lens Try.underlying65 rfl) ?_
    refine G.e (Eff.call call25 rfl rfl (Next_ok (by repeat (first | exact AtF.head _ _ | apply AtF.tail)) (Sl.f hl) (by omega) (by omega))) ?_
    rintro _ _ ⟨_, _, ⟨x20, i21, rfl, hx20, hi21, rfl⟩, rfl, rfl⟩
    show G Try.prog κ _ _ _ _ ([(71, I64 (x20)), (70, I64 ((((List.replicate ((1 + x8).toNat) (default : RunV)).length : Nat) : Int))), (69, .slice ad10 (List.replicate ((1 + x8).toNat) (default : RunV)).length cp11), (68, .pointer (some ⟨dk1, 0, none⟩)), (11, I64 (x15)), (10, .pointer (some ⟨b14, 0, none⟩)), (1, .int .u8 (sz8)), (5, .pointer (some ⟨dk1, 0, none⟩)), (6, .pointer (some ⟨b7, 0, none⟩)), (7, .slice ad10 (List.replicate ((1 + x8).toNat) (default : RunV)).length cp11), (46, .slice ad3 rl5.length cp4), (47, I64 (((rl5.length : Nat) : Int))), (48, I64 (((k : Nat) : Int)))] : Env) (vc 60 (.slice ad17 1 1) (([⟨(at_ rl5 ((k : Nat) : Int)).u, (at_ rl5 ((k : Nat) : Int)).v⟩] : List Pt)) :: blk b14 [I64 ((at_ rl5 ((k : Nat) : Int)).u), I64 ((at_ rl5 ((k : Nat) : Int)).v)] 60 :: vc 57 (.slice ad10 (List.replicate ((1 + x8).toNat) (default : RunV)).length cp11) (List.set rs (x15).toNat (⟨(at_ rs x15).n, ad18, cp19, ((at_ rs x15).xs ++ ([⟨(at_ rl5 ((k : Nat) : Int)).u, (at_ rl5 ((k : Nat) : Int)).v⟩] : List Pt))⟩ : RunV)) :: blk b7 [I64 (rn2), .slice ad3 rl5.length cp4] 57 :: vc 60 (.slice ad3 rl5.length cp4) (rl5) :: blk dk1 [.slice la ln lc, I64 (i21)] 129 :: (runsI (List.set rs (x15).toNat (⟨(at_ rs x15).n, ad18, cp19, ((at_ rs x15).xs ++ ([⟨(at_ rl5 ((k : Nat) : Int)).u, (at_ rl5 ((k : Nat) : Int)).v⟩] : List Pt))⟩ : RunV)) ++ I))
    refine G.r (Runs.assign rfl) ?_
    have hl2 := hP1.len x20 (by omega) (by rw [List.length_set]; omega)
    refine G.nt ?_
    refine W.sub (L' := [(12, _), (11, _), (10, _), (1, _), (5, _), (6, _), (7, _), (46, _), (47, _), (48, _)]) (Sub.cons rfl (Sub.cons rfl (Sub.cons rfl (Sub.cons rfl (Sub.cons rfl (Sub.cons rfl (Sub.cons rfl (Sub.cons rfl (Sub.cons rfl (Sub.cons rfl Sub.nil)))))))))) ?_
    refine W.sr ?_
    refine G.r (Runs.move rfl) ?_
    refine G.r (Runs.move rfl) ?_
    refine G.r (Runs.neq rfl rfl) ?_
    refine G.r (Runs.move rfl) ?_
    refine G.split (d := 75) rfl (fun g75 => ?_) (fun g75 => ?_)
    ·refine G.ro (Runs.move rfl) ?_
     refine G.eff (Wanted.on rfl rfl rfl) (Eff.call call25 rfl rfl (Next_ok (by repeat (first | exact AtF.head _ _ | apply AtF.tail)) (Sl.f hl) (by omega) (by omega))) ?_
     rintro _ _ ⟨_, _, ⟨x22, i23, rfl, hx22, hi23, rfl⟩, rfl, rfl⟩
     show G Try.prog κ _ _ _ _ ([(77, I64 (x22)), (76, .pointer (some ⟨dk1, 0, none⟩)), (75, .bool true), (75, .bool (decide (x20 ≠ x15))), (74, .bool (decide (x20 ≠ x15))), (73, I64 (x15)), (72, I64 (x20)), (12, I64 (x20)), (11, I64 (x15)), (10, .pointer (some ⟨b14, 0, none⟩)), (1, .int .u8 (sz8)), (5, .pointer (some ⟨dk1, 0, none⟩)), (6, .pointer (some ⟨b7, 0, none⟩)), (7, .slice ad10 (List.replicate ((1 + x8).toNat) (default : RunV)).length cp11), (46, .slice ad3 rl5.length cp4), (47, I64 (((rl5.length : Nat) : Int))), (48, I64 (((k : Nat) : Int)))] : Env) (vc 60 (.slice ad17 1 1) (([⟨(at_ rl5 ((k : Nat) : Int)).u, (at_ rl5 ((k : Nat) : Int)).v⟩] : List Pt)) :: blk b14 [I64 ((at_ rl5 ((k : Nat) : Int)).u), I64 ((at_ rl5 ((k : Nat) : Int)).v)] 60 :: vc 57 (.slice ad10 (List.replicate ((1 + x8).toNat) (default : RunV)).length cp11) (List.set rs (x15).toNat (⟨(at_ rs x15).n, ad18, cp19, ((at_ rs x15).xs ++ ([⟨(at_ rl5 ((k : Nat) : Int)).u, (at_ rl5 ((k : Nat) : Int)).v⟩] : List Pt))⟩ : RunV)) :: blk b7 [I64 (rn2), .slice ad3 rl5.length cp4] 57 :: vc 60 (.slice ad3 rl5.length cp4) (rl5) :: blk dk1 [.slice la ln lc, I64 (i23)] 129 :: (runsI (List.set rs (x15).toNat (⟨(at_ rs x15).n, ad18, cp19, ((at_ rs x15).xs ++ ([⟨(at_ rl5 ((k : Nat) : Int)).u, (at_ rl5 ((k : Nat) : Int)).v⟩] : List Pt))⟩ : RunV)) ++ I))
     refine G.ro (Runs.eql rfl rfl) ?_
     refine G.r (Runs.pickt rfl rfl) ?_
     refine G.nt ?_
     refine W.sub (L' := [(79, _), (12, _), (10, _), (1, _), (5, _), (6, _), (7, _), (46, _), (47, _), (48, _)]) (Sub.cons rfl (Sub.cons rfl (Sub.cons rfl (Sub.cons rfl (Sub.cons rfl (Sub.cons rfl (Sub.cons rfl (Sub.cons rfl (Sub.cons rfl (Sub.cons rfl Sub.nil)))))))))) ?_
     refine W.ite rfl (fun c79 => ?_) (fun c79 => ?_)
     ·refine W.drawn mixed ?_
      refine A.hold (vc 60 (.slice ad17 1 1) (([⟨(at_ rl5 ((k : Nat) : Int)).u, (at_ rl5 ((k : Nat) : Int)).v⟩] : List Pt)) :: blk b14 [I64 ((at_ rl5 ((k : Nat) : Int)).u), I64 ((at_ rl5 ((k : Nat) : Int)).v)] 60 :: vc 57 (.slice ad10 (List.replicate ((1 + x8).toNat) (default : RunV)).length cp11) (List.set rs (x15).toNat (⟨(at_ rs x15).n, ad18, cp19, ((at_ rs x15).xs ++ ([⟨(at_ rl5 ((k : Nat) : Int)).u, (at_ rl5 ((k : Nat) : Int)).v⟩] : List Pt))⟩ : RunV)) :: blk b7 [I64 (rn2), .slice ad3 rl5.length cp4] 57 :: vc 60 (.slice ad3 rl5.length cp4) (rl5) :: blk dk1 [.slice la ln lc, I64 (i23)] 129 :: I) 12 ?_
      refine D.r 0 rfl (Runs.move rfl) ?_ (hJ := Fit.sub)
      refine D.r 1 rfl (Runs.move rfl) ?_ (hJ := Fit.sub)
      refine D.r 2 rfl (Runs.move rfl) ?_ (hJ := Fit.sub)
      refine D.r 3 rfl (Runs.move rfl) ?_ (hJ := Fit.sub)
      refine D.r 4 rfl (Runs.idx (α := RunV) (xs := List.set rs (x15).toNat (⟨(at_ rs x15).n, ad18, cp19, ((at_ rs x15).xs ++ ([⟨(at_ rl5 ((k : Nat) : Int)).u, (at_ rl5 ((k : Nat) : Int)).v⟩] : List Pt))⟩ : RunV)) Try.underlying65 ty57 rfl rfl Sl.o (by omega) (by first | omega | (simp only [List.length_set] at *; omega))) ?_ (hJ := Fit.sub)
      refine D.r 5 rfl (Runs.fld (α := RunV) (xs := List.set rs (x15).toNat (⟨(at_ rs x15).n, ad18, cp19, ((at_ rs x15).xs ++ ([⟨(at_ rl5 ((k : Nat) : Int)).u, (at_ rl5 ((k : Nat) : Int)).v⟩] : List Pt))⟩ : RunV)) fld57_1 rfl Sl.o (by first | omega | (simp only [List.length_set] at *; omega))) ?_ (hJ := Fit.sub)
      refine D.r 6 rfl (Runs.getf (α := RunV) (xs := List.set rs (x15).toNat (⟨(at_ rs x15).n, ad18, cp19, ((at_ rs x15).xs ++ ([⟨(at_ rl5 ((k : Nat) : Int)).u, (at_ rl5 ((k : Nat) : Int)).v⟩] : List Pt))⟩ : RunV)) (u := .slice (at_ (List.set rs (x15).toNat (⟨(at_ rs x15).n, ad18, cp19, ((at_ rs x15).xs ++ ([⟨(at_ rl5 ((k : Nat) : Int)).u, (at_ rl5 ((k : Nat) : Int)).v⟩] : List Pt))⟩ : RunV)) x20).a (at_ (List.set rs (x15).toNat (⟨(at_ rs x15).n, ad18, cp19, ((at_ rs x15).xs ++ ([⟨(at_ rl5 ((k : Nat) : Int)).u, (at_ rl5 ((k : Nat) : Int)).v⟩] : List Pt))⟩ : RunV)) x20).xs.length (at_ (List.set rs (x15).toNat (⟨(at_ rs x15).n, ad18, cp19, ((at_ rs x15).xs ++ ([⟨(at_ rl5 ((k : Nat) : Int)).u, (at_ rl5 ((k : Nat) : Int)).v⟩] : List Pt))⟩ : RunV)) x20).c) ty55 rfl Sl.o (by omega) (by first | omega | (simp only [List.length_set] at *; omega)) rfl) ?_ (hJ := Fit.sub)
      refine D.r 7 rfl (Runs.lds (vs := [_, _]) ty60) ?_ (hJ := Fit.sub)
      refine D.step (rs := [8]) (by kernel_rfl) rfl rfl (all1 ?_)
      refine Step.eff rfl (Wanted.plain rfl) (Eff.bs (α := Pt) (cs := [_, _]) (xs := [⟨(at_ rl5 ((k : Nat) : Int)).u, (at_ rl5 ((k : Nat) : Int)).v⟩]) Try.underlying55 ty60 rfl rfl (by decide) (by decide) rfl rfl rfl rfl) ?_
      rintro _ _ ⟨ad24, rfl, rfl⟩
      refine ⟨Fit.sub, ?_⟩
      refine D.step (rs := [9]) (by kernel_rfl) rfl rfl (all1 ?_)
      refine Step.eff rfl (Wanted.plain rfl) (Eff.app (α := Pt) (e := 60) (xs := (at_ (List.set rs (x15).toNat (⟨(at_ rs x15).n, ad18, cp19, ((at_ rs x15).xs ++ ([⟨(at_ rl5 ((k : Nat) : Int)).u, (at_ rl5 ((k : Nat) : Int)).v⟩] : List Pt))⟩ : RunV)) x20).xs) (ys := ([⟨(at_ rl5 ((k : Nat) : Int)).u, (at_ rl5 ((k : Nat) : Int)).v⟩] : List Pt)) Try.underlying55 ty60 rfl rfl rfl (by repeat (first | exact runsI_mem (rs := (List.set rs (x15).toNat (⟨(at_ rs x15).n, ad18, cp19, ((at_ rs x15).xs ++ ([⟨(at_ rl5 ((k : Nat) : Int)).u, (at_ rl5 ((k : Nat) : Int)).v⟩] : List Pt))⟩ : RunV))) (i := x20) (by omega) (by first | omega | (simp only [List.length_set] at *; omega)) | apply List.mem_cons_of_mem)) Sl.o (by simp only [List.length_cons, List.length_nil]; omega) (by decide) rfl (fun _ _ => (by repeat (first | exact At.runs (n := (at_ (List.set rs (x15).toNat (⟨(at_ rs x15).n, ad18, cp19, ((at_ rs x15).xs ++ ([⟨(at_ rl5 ((k : Nat) : Int)).u, (at_ rl5 ((k : Nat) : Int)).v⟩] : List Pt))⟩ : RunV)) x20).n) (rs := (List.set rs (x15).toNat (⟨(at_ rs x15).n, ad18, cp19, ((at_ rs x15).xs ++ ([⟨(at_ rl5 ((k : Nat) : Int)).u, (at_ rl5 ((k : Nat) : Int)).v⟩] : List Pt))⟩ : RunV))) (i := x20) (by omega) (by first | omega | (simp only [List.length_set] at *; omega)) | apply At.tail)))) ?_
      rintro _ _ ⟨ad25, cp26, rfl, rfl⟩
      refine ⟨Fit.sub, ?_⟩
      show D Try.prog κ _ _ _ _ _ _ _ ([(89, .slice ad25 ((at_ (List.set rs (x15).toNat (⟨(at_ rs x15).n, ad18, cp19, ((at_ rs x15).xs ++ ([⟨(at_ rl5 ((k : Nat) : Int)).u, (at_ rl5 ((k : Nat) : Int)).v⟩] : List Pt))⟩ : RunV)) x20).xs ++ ([⟨(at_ rl5 ((k : Nat) : Int)).u, (at_ rl5 ((k : Nat) : Int)).v⟩] : List Pt)).length cp26), (88, .slice ad24 1 1), (87, .agg #[I64 ((at_ rl5 ((k : Nat) : Int)).u), I64 ((at_ rl5 ((k : Nat) : Int)).v)]), (86, .slice (at_ (List.set rs (x15).toNat (⟨(at_ rs x15).n, ad18, cp19, ((at_ rs x15).xs ++ ([⟨(at_ rl5 ((k : Nat) : Int)).u, (at_ rl5 ((k : Nat) : Int)).v⟩] : List Pt))⟩ : RunV)) x20).a (at_ (List.set rs (x15).toNat (⟨(at_ rs x15).n, ad18, cp19, ((at_ rs x15).xs ++ ([⟨(at_ rl5 ((k : Nat) : Int)).u, (at_ rl5 ((k : Nat) : Int)).v⟩] : List Pt))⟩ : RunV)) x20).xs.length (at_ (List.set rs (x15).toNat (⟨(at_ rs x15).n, ad18, cp19, ((at_ rs x15).xs ++ ([⟨(at_ rl5 ((k : Nat) : Int)).u, (at_ rl5 ((k : Nat) : Int)).v⟩] : List Pt))⟩ : RunV)) x20).c), (85, elemPtr (.slice ad10 (List.replicate ((1 + x8).toNat) (default : RunV)).length cp11) ((x20).toNat * Enc.sz RunV + 1)), (84, elemPtr (.slice ad10 (List.replicate ((1 + x8).toNat) (default : RunV)).length cp11) ((x20).toNat * Enc.sz RunV)), (83, I64 (x20)), (82, .slice ad10 (List.replicate ((1 + x8).toNat) (default : RunV)).length cp11), (81, I64 (x20)), (80, .slice ad10 (List.replicate ((1 + x8).toNat) (default : RunV)).length cp11), (79, .bool (decide (x22 = 0))), (12, I64 (x20)), (10, .pointer (some ⟨b14, 0, none⟩)), (1, .int .u8 (sz8)), (5, .pointer (some ⟨dk1, 0, none⟩)), (6, .pointer (some ⟨b7, 0, none⟩)), (7, .slice ad10 (List.replicate ((1 + x8).toNat) (default : RunV)).length cp11), (46, .slice ad3 rl5.length cp4), (47, I64 (((rl5.length : Nat) : Int))), (48, I64 (((k : Nat) : Int)))] : Env) (vc 60 (.slice ad24 1 1) (([⟨(at_ rl5 ((k : Nat) : Int)).u, (at_ rl5 ((k : Nat) : Int)).v⟩] : List Pt)) :: vc 60 (.slice ad17 1 1) (([⟨(at_ rl5 ((k : Nat) : Int)).u, (at_ rl5 ((k : Nat) : Int)).v⟩] : List Pt)) :: blk b14 [I64 ((at_ rl5 ((k : Nat) : Int)).u), I64 ((at_ rl5 ((k : Nat) : Int)).v)] 60 :: vc 57 (.slice ad10 (List.replicate ((1 + x8).toNat) (default : RunV)).length cp11) (List.set rs (x15).toNat (⟨(at_ rs x15).n, ad18, cp19, ((at_ rs x15).xs ++ ([⟨(at_ rl5 ((k : Nat) : Int)).u, (at_ rl5 ((k : Nat) : Int)).v⟩] : List Pt))⟩ : RunV)) :: blk b7 [I64 (rn2), .slice ad3 rl5.length cp4] 57 :: vc 60 (.slice ad3 rl5.length cp4) (rl5) :: blk dk1 [.slice la ln lc, I64 (i23)] 129 :: (runsI (List.set (List.set rs (x15).toNat (⟨(at_ rs x15).n, ad18, cp19, ((at_ rs x15).xs ++ ([⟨(at_ rl5 ((k : Nat) : Int)).u, (at_ rl5 ((k : Nat) : Int)).v⟩] : List Pt))⟩ : RunV)) (x20).toNat (⟨(at_ (List.set rs (x15).toNat (⟨(at_ rs x15).n, ad18, cp19, ((at_ rs x15).xs ++ ([⟨(at_ rl5 ((k : Nat) : Int)).u, (at_ rl5 ((k : Nat) : Int)).v⟩] : List Pt))⟩ : RunV)) x20).n, ad25, cp26, ((at_ (List.set rs (x15).toNat (⟨(at_ rs x15).n, ad18, cp19, ((at_ rs x15).xs ++ ([⟨(at_ rl5 ((k : Nat) : Int)).u, (at_ rl5 ((k : Nat) : Int)).v⟩] : List Pt))⟩ : RunV)) x20).xs ++ ([⟨(at_ rl5 ((k : Nat) : Int)).u, (at_ rl5 ((k : Nat) : Int)).v⟩] : List Pt))⟩ : RunV)) ++ I))
      refine D.step (rs := [10]) (by kernel_rfl) rfl rfl (all1 ?_)
      refine Step.read rfl (Wanted.plain rfl) rfl rfl (Runs.idx (α := RunV) (xs := List.set rs (x15).toNat (⟨(at_ rs x15).n, ad18, cp19, ((at_ rs x15).xs ++ ([⟨(at_ rl5 ((k : Nat) : Int)).u, (at_ rl5 ((k : Nat) : Int)).v⟩] : List Pt))⟩ : RunV)) Try.underlying65 ty57 rfl rfl Sl.o (by omega) (by first | omega | (simp only [List.length_set] at *; omega))) Fit.sub ?_
      refine D.r 11 rfl (Runs.fld (α := RunV) (xs := List.set rs (x15).toNat (⟨(at_ rs x15).n, ad18, cp19, ((at_ rs x15).xs ++ ([⟨(at_ rl5 ((k : Nat) : Int)).u, (at_ rl5 ((k : Nat) : Int)).v⟩] : List Pt))⟩ : RunV)) fld57_1 rfl Sl.o (by first | omega | (simp only [List.length_set] at *; omega))) ?_ (hJ := Fit.sub)
      refine D.stop (by kernel_rfl) ?_
      refine A.eff (i := 12) (by kernel_rfl) rfl (Wanted.plain rfl) (Eff.setf (α := RunV) (xs := List.set rs (x15).toNat (⟨(at_ rs x15).n, ad18, cp19, ((at_ rs x15).xs ++ ([⟨(at_ rl5 ((k : Nat) : Int)).u, (at_ rl5 ((k : Nat) : Int)).v⟩] : List Pt))⟩ : RunV)) (e := 57) (new := (⟨(at_ (List.set rs (x15).toNat (⟨(at_ rs x15).n, ad18, cp19, ((at_ rs x15).xs ++ ([⟨(at_ rl5 ((k : Nat) : Int)).u, (at_ rl5 ((k : Nat) : Int)).v⟩] : List Pt))⟩ : RunV)) x20).n, ad25, cp26, ((at_ (List.set rs (x15).toNat (⟨(at_ rs x15).n, ad18, cp19, ((at_ rs x15).xs ++ ([⟨(at_ rl5 ((k : Nat) : Int)).u, (at_ rl5 ((k : Nat) : Int)).v⟩] : List Pt))⟩ : RunV)) x20).xs ++ ([⟨(at_ rl5 ((k : Nat) : Int)).u, (at_ rl5 ((k : Nat) : Int)).v⟩] : List Pt))⟩ : RunV)) (j := 1) ty55 rfl rfl rfl rfl (by decide) rfl (by omega) (by first | omega | (simp only [List.length_set] at *; omega)) (by repeat (first | exact At.head _ _ _ | apply At.tail))) ?_
      rintro _ _ ⟨rfl, rfl⟩
      have hP2 : PartsOk rl5 (k + 1) (List.set (List.set rs (x15).toNat (⟨(at_ rs x15).n, ad18, cp19, ((at_ rs x15).xs ++ ([⟨(at_ rl5 ((k : Nat) : Int)).u, (at_ rl5 ((k : Nat) : Int)).v⟩] : List Pt))⟩ : RunV)) (x20).toNat (⟨(at_ (List.set rs (x15).toNat (⟨(at_ rs x15).n, ad18, cp19, ((at_ rs x15).xs ++ ([⟨(at_ rl5 ((k : Nat) : Int)).u, (at_ rl5 ((k : Nat) : Int)).v⟩] : List Pt))⟩ : RunV)) x20).n, ad25, cp26, ((at_ (List.set rs (x15).toNat (⟨(at_ rs x15).n, ad18, cp19, ((at_ rs x15).xs ++ ([⟨(at_ rl5 ((k : Nat) : Int)).u, (at_ rl5 ((k : Nat) : Int)).v⟩] : List Pt))⟩ : RunV)) x20).xs ++ ([⟨(at_ rl5 ((k : Nat) : Int)).u, (at_ rl5 ((k : Nat) : Int)).v⟩] : List Pt))⟩ : RunV)) := PartsOk.push2 hP hP1 (by omega) hv.asc (by omega) (by omega) (by omega) (by omega) (by assumption)
      refine A.done (by kernel_rfl) ?_
      refine V.block_normal ?_
      refine V.then ?_
      refine W.sub (L' := [(1, _), (5, _), (6, _), (7, _), (46, _), (47, _), (48, _)]) (Sub.cons rfl (Sub.cons rfl (Sub.cons rfl (Sub.cons rfl (Sub.cons rfl (Sub.cons rfl (Sub.cons rfl Sub.nil))))))) ?_
      refine W.region ?_
      refine G.r (Runs.add rfl rfl (by unfold InR; omega)) ?_
      refine G.r (Runs.move rfl) ?_
      refine G.nil ?_
      exact V.next ((k + 1), (i23), (List.set (List.set rs (x15).toNat (⟨(at_ rs x15).n, ad18, cp19, ((at_ rs x15).xs ++ ([⟨(at_ rl5 ((k : Nat) : Int)).u, (at_ rl5 ((k : Nat) : Int)).v⟩] : List Pt))⟩ : RunV)) (x20).toNat (⟨(at_ (List.set rs (x15).toNat (⟨(at_ rs x15).n, ad18, cp19, ((at_ rs x15).xs ++ ([⟨(at_ rl5 ((k : Nat) : Int)).u, (at_ rl5 ((k : Nat) : Int)).v⟩] : List Pt))⟩ : RunV)) x20).n, ad25, cp26, ((at_ (List.set rs (x15).toNat (⟨(at_ rs x15).n, ad18, cp19, ((at_ rs x15).xs ++ ([⟨(at_ rl5 ((k : Nat) : Int)).u, (at_ rl5 ((k : Nat) : Int)).v⟩] : List Pt))⟩ : RunV)) x20).xs ++ ([⟨(at_ rl5 ((k : Nat) : Int)).u, (at_ rl5 ((k : Nat) : Int)).v⟩] : List Pt))⟩ : RunV))) (show ((k + 1 : Nat) ≤ rl5.length) ∧ (0 ≤ (i23 : Int)) ∧ ((List.set (List.set rs (x15).toNat (⟨(at_ rs x15).n, ad18, cp19, ((at_ rs x15).xs ++ ([⟨(at_ rl5 ((k : Nat) : Int)).u, (at_ rl5 ((k : Nat) : Int)).v⟩] : List Pt))⟩ : RunV)) (x20).toNat (⟨(at_ (List.set rs (x15).toNat (⟨(at_ rs x15).n, ad18, cp19, ((at_ rs x15).xs ++ ([⟨(at_ rl5 ((k : Nat) : Int)).u, (at_ rl5 ((k : Nat) : Int)).v⟩] : List Pt))⟩ : RunV)) x20).n, ad25, cp26, ((at_ (List.set rs (x15).toNat (⟨(at_ rs x15).n, ad18, cp19, ((at_ rs x15).xs ++ ([⟨(at_ rl5 ((k : Nat) : Int)).u, (at_ rl5 ((k : Nat) : Int)).v⟩] : List Pt))⟩ : RunV)) x20).xs ++ ([⟨(at_ rl5 ((k : Nat) : Int)).u, (at_ rl5 ((k : Nat) : Int)).v⟩] : List Pt))⟩ : RunV) : List RunV).length = (List.replicate ((1 + x8).toNat) (default : RunV)).length) ∧ (PartsOk rl5 (k + 1 : Nat) (List.set (List.set rs (x15).toNat (⟨(at_ rs x15).n, ad18, cp19, ((at_ rs x15).xs ++ ([⟨(at_ rl5 ((k : Nat) : Int)).u, (at_ rl5 ((k : Nat) : Int)).v⟩] : List Pt))⟩ : RunV)) (x20).toNat (⟨(at_ (List.set rs (x15).toNat (⟨(at_ rs x15).n, ad18, cp19, ((at_ rs x15).xs ++ ([⟨(at_ rl5 ((k : Nat) : Int)).u, (at_ rl5 ((k : Nat) : Int)).v⟩] : List Pt))⟩ : RunV)) x20).n, ad25, cp26, ((at_ (List.set rs (x15).toNat (⟨(at_ rs x15).n, ad18, cp19, ((at_ rs x15).xs ++ ([⟨(at_ rl5 ((k : Nat) : Int)).u, (at_ rl5 ((k : Nat) : Int)).v⟩] : List Pt))⟩ : RunV)) x20).xs ++ ([⟨(at_ rl5 ((k : Nat) : Int)).u, (at_ rl5 ((k : Nat) : Int)).v⟩] : List Pt))⟩ : RunV) : List RunV)) from ⟨(by omega), (by omega), (by simp only [List.length_set]; exact hrl), (by first | exact hP2 | exact hP1)⟩) (show rl5.length - (k + 1 : Nat) < rl5.length - k from (by omega)) (Sub.cons rfl (Sub.cons rfl (Sub.cons rfl (Sub.cons rfl (Sub.cons rfl (Sub.cons rfl (Sub.cons lookO Sub.nil))))))) (show Fit κ _ (vc 57 (.slice ad10 (List.replicate ((1 + x8).toNat) (default : RunV)).length cp11) ((List.set (List.set rs (x15).toNat (⟨(at_ rs x15).n, ad18, cp19, ((at_ rs x15).xs ++ ([⟨(at_ rl5 ((k : Nat) : Int)).u, (at_ rl5 ((k : Nat) : Int)).v⟩] : List Pt))⟩ : RunV)) (x20).toNat (⟨(at_ (List.set rs (x15).toNat (⟨(at_ rs x15).n, ad18, cp19, ((at_ rs x15).xs ++ ([⟨(at_ rl5 ((k : Nat) : Int)).u, (at_ rl5 ((k : Nat) : Int)).v⟩] : List Pt))⟩ : RunV)) x20).n, ad25, cp26, ((at_ (List.set rs (x15).toNat (⟨(at_ rs x15).n, ad18, cp19, ((at_ rs x15).xs ++ ([⟨(at_ rl5 ((k : Nat) : Int)).u, (at_ rl5 ((k : Nat) : Int)).v⟩] : List Pt))⟩ : RunV)) x20).xs ++ ([⟨(at_ rl5 ((k : Nat) : Int)).u, (at_ rl5 ((k : Nat) : Int)).v⟩] : List Pt))⟩ : RunV))) :: blk b7 [I64 (rn2), .slice ad3 rl5.length cp4] 57 :: vc 60 (.slice ad3 rl5.length cp4) (rl5) :: blk dk1 [.slice la ln lc, I64 ((i23))] 129 :: (runsI (List.set (List.set rs (x15).toNat (⟨(at_ rs x15).n, ad18, cp19, ((at_ rs x15).xs ++ ([⟨(at_ rl5 ((k : Nat) : Int)).u, (at_ rl5 ((k : Nat) : Int)).v⟩] : List Pt))⟩ : RunV)) (x20).toNat (⟨(at_ (List.set rs (x15).toNat (⟨(at_ rs x15).n, ad18, cp19, ((at_ rs x15).xs ++ ([⟨(at_ rl5 ((k : Nat) : Int)).u, (at_ rl5 ((k : Nat) : Int)).v⟩] : List Pt))⟩ : RunV)) x20).n, ad25, cp26, ((at_ (List.set rs (x15).toNat (⟨(at_ rs x15).n, ad18, cp19, ((at_ rs x15).xs ++ ([⟨(at_ rl5 ((k : Nat) : Int)).u, (at_ rl5 ((k : Nat) : Int)).v⟩] : List Pt))⟩ : RunV)) x20).xs ++ ([⟨(at_ rl5 ((k : Nat) : Int)).u, (at_ rl5 ((k : Nat) : Int)).v⟩] : List Pt))⟩ : RunV)) ++ I)) from Fit.sub)
     ·refine W.skip ?_
      refine V.block_normal ?_
      refine V.then ?_
      refine W.region ?_
      refine G.r (Runs.add rfl rfl (by unfold InR; omega)) ?_
      refine G.r (Runs.move rfl) ?_
      refine G.nil ?_
      exact V.next ((k + 1), (i23), (List.set rs (x15).toNat (⟨(at_ rs x15).n, ad18, cp19, ((at_ rs x15).xs ++ ([⟨(at_ rl5 ((k : Nat) : Int)).u, (at_ rl5 ((k : Nat) : Int)).v⟩] : List Pt))⟩ : RunV))) (show ((k + 1 : Nat) ≤ rl5.length) ∧ (0 ≤ (i23 : Int)) ∧ ((List.set rs (x15).toNat (⟨(at_ rs x15).n, ad18, cp19, ((at_ rs x15).xs ++ ([⟨(at_ rl5 ((k : Nat) : Int)).u, (at_ rl5 ((k : Nat) : Int)).v⟩] : List Pt))⟩ : RunV) : List RunV).length = (List.replicate ((1 + x8).toNat) (default : RunV)).length) ∧ (PartsOk rl5 (k + 1 : Nat) (List.set rs (x15).toNat (⟨(at_ rs x15).n, ad18, cp19, ((at_ rs x15).xs ++ ([⟨(at_ rl5 ((k : Nat) : Int)).u, (at_ rl5 ((k : Nat) : Int)).v⟩] : List Pt))⟩ : RunV) : List RunV)) from ⟨(by omega), (by omega), (by simp only [List.length_set]; exact hrl), (by first | exact hP2 | exact hP1)⟩) (show rl5.length - (k + 1 : Nat) < rl5.length - k from (by omega)) (Sub.cons rfl (Sub.cons rfl (Sub.cons rfl (Sub.cons rfl (Sub.cons rfl (Sub.cons rfl (Sub.cons lookO Sub.nil))))))) (show Fit κ _ (vc 57 (.slice ad10 (List.replicate ((1 + x8).toNat) (default : RunV)).length cp11) ((List.set rs (x15).toNat (⟨(at_ rs x15).n, ad18, cp19, ((at_ rs x15).xs ++ ([⟨(at_ rl5 ((k : Nat) : Int)).u, (at_ rl5 ((k : Nat) : Int)).v⟩] : List Pt))⟩ : RunV))) :: blk b7 [I64 (rn2), .slice ad3 rl5.length cp4] 57 :: vc 60 (.slice ad3 rl5.length cp4) (rl5) :: blk dk1 [.slice la ln lc, I64 ((i23))] 129 :: (runsI (List.set rs (x15).toNat (⟨(at_ rs x15).n, ad18, cp19, ((at_ rs x15).xs ++ ([⟨(at_ rl5 ((k : Nat) : Int)).u, (at_ rl5 ((k : Nat) : Int)).v⟩] : List Pt))⟩ : RunV)) ++ I)) from Fit.sub)
    ·refine G.po ?_
     refine G.po ?_
     refine G.po ?_
     refine G.r (Runs.pickf rfl rfl) ?_
     refine G.nt ?_
     refine W.sub (L' := [(79, _), (12, _), (10, _), (1, _), (5, _), (6, _), (7, _), (46, _), (47, _), (48, _)]) (Sub.cons rfl (Sub.cons rfl (Sub.cons rfl (Sub.cons rfl (Sub.cons rfl (Sub.cons rfl (Sub.cons rfl (Sub.cons rfl (Sub.cons rfl (Sub.cons rfl Sub.nil)))))))))) ?_
     refine W.no rfl ?_
     refine W.skip ?_
     refine V.block_normal ?_
     refine V.then ?_
     refine W.region ?_
     refine G.r (Runs.add rfl rfl (by unfold InR; omega)) ?_
     refine G.r (Runs.move rfl) ?_
     refine G.nil ?_
     exact V.next ((k + 1), (i21), (List.set rs (x15).toNat (⟨(at_ rs x15).n, ad18, cp19, ((at_ rs x15).xs ++ ([⟨(at_ rl5 ((k : Nat) : Int)).u, (at_ rl5 ((k : Nat) : Int)).v⟩] : List Pt))⟩ : RunV))) (show ((k + 1 : Nat) ≤ rl5.length) ∧ (0 ≤ (i21 : Int)) ∧ ((List.set rs (x15).toNat (⟨(at_ rs x15).n, ad18, cp19, ((at_ rs x15).xs ++ ([⟨(at_ rl5 ((k : Nat) : Int)).u, (at_ rl5 ((k : Nat) : Int)).v⟩] : List Pt))⟩ : RunV) : List RunV).length = (List.replicate ((1 + x8).toNat) (default : RunV)).length) ∧ (PartsOk rl5 (k + 1 : Nat) (List.set rs (x15).toNat (⟨(at_ rs x15).n, ad18, cp19, ((at_ rs x15).xs ++ ([⟨(at_ rl5 ((k : Nat) : Int)).u, (at_ rl5 ((k : Nat) : Int)).v⟩] : List Pt))⟩ : RunV) : List RunV)) from ⟨(by omega), (by omega), (by simp only [List.length_set]; exact hrl), (by first | exact hP2 | exact hP1)⟩) (show rl5.length - (k + 1 : Nat) < rl5.length - k from (by omega)) (Sub.cons rfl (Sub.cons rfl (Sub.cons rfl (Sub.cons rfl (Sub.cons rfl (Sub.cons rfl (Sub.cons lookO Sub.nil))))))) (show Fit κ _ (vc 57 (.slice ad10 (List.replicate ((1 + x8).toNat) (default : RunV)).length cp11) ((List.set rs (x15).toNat (⟨(at_ rs x15).n, ad18, cp19, ((at_ rs x15).xs ++ ([⟨(at_ rl5 ((k : Nat) : Int)).u, (at_ rl5 ((k : Nat) : Int)).v⟩] : List Pt))⟩ : RunV))) :: blk b7 [I64 (rn2), .slice ad3 rl5.length cp4] 57 :: vc 60 (.slice ad3 rl5.length cp4) (rl5) :: blk dk1 [.slice la ln lc, I64 ((i21))] 129 :: (runsI (List.set rs (x15).toNat (⟨(at_ rs x15).n, ad18, cp19, ((at_ rs x15).xs ++ ([⟨(at_ rl5 ((k : Nat) : Int)).u, (at_ rl5 ((k : Nat) : Int)).v⟩] : List Pt))⟩ : RunV)) ++ I)) from Fit.sub)
   ·refine W.exit ?_
    refine V.then_exit ?_
    refine V.then_exit ?_
    refine V.block_hit ?_
    refine V.then ?_
    refine W.sr ?_
    refine G.r (Runs.assign rfl) ?_
    have hke : k = rl5.length := by omega
    have hfl4 : (rs.map RunV.xs).flatten.length ≤ 4000 := by have h1 := hP.flat; have h2 : rs.length * k ≤ 4 * 1000 := Nat.mul_le_mul (by omega) (by omega); omega
    have hmerge : sortB Pt.lt (rs.map RunV.xs).flatten = rl5 := PartsOk.merge (hke ▸ hP) hv.asc
    have hml : (sortB Pt.lt (rs.map RunV.xs).flatten).length = rl5.length := by rw [hmerge]
    refine G.nt ?_
    refine W.seq ?_
    refine W.sr ?_
    refine G.r (Runs.move rfl) ?_
    refine G.r (Runs.lens Try.underlying65 rfl) ?_
    refine G.r (Runs.move rfl) ?_
    refine G.nt ?_
    refine W.block ?_
    refine W.loop (σ := Nat × Int) (fun s => ([(1, .int .u8 (sz8)), (6, .pointer (some ⟨b7, 0, none⟩)), (7, .slice ad10 (List.replicate ((1 + x8).toNat) (default : RunV)).length cp11), (13, I64 (s.2)), (93, .slice ad10 (List.replicate ((1 + x8).toNat) (default : RunV)).length cp11), (94, I64 ((((List.replicate ((1 + x8).toNat) (default : RunV)).length : Nat) : Int))), (95, I64 (((s.1 : Nat) : Int)))] : Env)) (fun s => vc 57 (.slice ad10 (List.replicate ((1 + x8).toNat) (default : RunV)).length cp11) (rs) :: blk b7 [I64 (rn2), .slice ad3 rl5.length cp4] 57 :: vc 60 (.slice ad3 rl5.length cp4) (rl5) :: blk dk1 [.slice la ln lc, I64 (iqc)] 129 :: (runsI rs ++ I)) (fun s => (s.1 ≤ rs.length) ∧ (s.2 = ((readsL (rs.take s.1) : Nat) : Int))) (fun s => rs.length - s.1) (0, 0) (show ((0 : Nat) ≤ rs.length) ∧ ((0 : Int) = ((readsL (rs.take (0 : Nat)) : Nat) : Int)) from ⟨(by omega), (by simp [readsL])⟩) (Sub.cons rfl (Sub.cons rfl (Sub.cons rfl (Sub.cons lookO (Sub.cons rfl (Sub.cons rfl (Sub.cons lookO Sub.nil))))))) (show Fit κ _ (vc 57 (.slice ad10 (List.replicate ((1 + x8).toNat) (default : RunV)).length cp11) (rs) :: blk b7 [I64 (rn2), .slice ad3 rl5.length cp4] 57 :: vc 60 (.slice ad3 rl5.length cp4) (rl5) :: blk dk1 [.slice la ln lc, I64 (iqc)] 129 :: (runsI rs ++ I)) from Fit.sub) ?_
    rintro ⟨k2, ns⟩ hp
    obtain ⟨hk2, hns⟩ : (k2 ≤ rs.length) ∧ (ns = ((readsL (rs.take k2) : Nat) : Int)) := hp
    show W Try.prog κ 158 _ _ ([(1, .int .u8 (sz8)), (6, .pointer (some ⟨b7, 0, none⟩)), (7, .slice ad10 (List.replicate ((1 + x8).toNat) (default : RunV)).length cp11), (13, I64 (ns)), (93, .slice ad10 (List.replicate ((1 + x8).toNat) (default : RunV)).length cp11), (94, I64 ((((List.replicate ((1 + x8).toNat) (default : RunV)).length : Nat) : Int))), (95, I64 (((k2 : Nat) : Int)))] : Env) (vc 57 (.slice ad10 (List.replicate ((1 + x8).toNat) (default : RunV)).length cp11) (rs) :: blk b7 [I64 (rn2), .slice ad3 rl5.length cp4] 57 :: vc 60 (.slice ad3 rl5.length cp4) (rl5) :: blk dk1 [.slice la ln lc, I64 (iqc)] 129 :: (runsI rs ++ I))
    have hr4 : readsL (rs.take k2) ≤ 4000 := by have h1 := readsL_le (rs := rs.take k2) (fun r hr => (hP.run hv r (List.mem_of_mem_take hr)).size); have h2 := flatr_le (f := RunV.xs) rs k2; omega
    refine W.sr ?_
    refine G.r (Runs.lss rfl rfl) ?_
    refine G.nt ?_
    refine W.seq ?_
    refine W.ite rfl (fun c96 => ?_) (fun c96 => ?_)
    ·refine W.skip ?_
     refine V.then ?_
     refine W.seq ?_
     refine W.block ?_
     refine W.sr ?_
     refine G.r (Runs.idx (α := RunV) (xs := rs) Try.underlying65 ty57 rfl rfl Sl.o (by omega) (by first | omega | (simp only [List.length_set] at *; omega))) ?_
     refine G.r (Runs.gets (α := RunV) (xs := rs) ty57 rfl Sl.o (by omega) (by first | omega | (simp only [List.length_set] at *; omega))) ?_
     refine G.e (Eff.alloc ty57 rfl) ?_
     rintro _ _ ⟨b27, rfl, rfl⟩
     refine G.e (Eff.st (cs := [_, _]) (vs := [_, _]) (cs' := [_, _]) ty57) ?_
     rintro _ _ ⟨rfl, rfl⟩
     refine G.nt ?_
     refine W.region ?_
     refine G.r (Runs.move rfl) ?_
     have hnb := nblocks_le (n := ((at_ rs ((k2 : Nat) : Int)).n).toNat) (by have := hP.sz ((k2 : Nat) : Int) (by omega) (by omega); omega) (at_ rs ((k2 : Nat) : Int)).xs
     have hl3 := hP.len ((k2 : Nat) : Int) (by omega) (by omega)
     refine G.r (Runs.lds (vs := [_, _]) ty57) ?_
     refine G.e (Eff.call call45 rfl rfl (Blocks_ok (Sl.fit (HeldRuns.at runsI_held (i := ((k2 : Nat) : Int)) (by omega) (by omega)) Fit.m) (hP.run hv _ (at_mem (xs := rs) (i := ((k2 : Nat) : Int)) (by omega) (by omega))) (by have := hP.len ((k2 : Nat) : Int) (by omega) (by omega); omega))) ?_
     rintro _ _ ⟨_, _, ⟨rfl, rfl⟩, rfl, rfl⟩
     refine G.r (Runs.add rfl rfl (by unfold InR; omega)) ?_
     refine G.r (Runs.assign rfl) ?_
     refine G.nil ?_
     refine V.block_normal ?_
     refine V.then ?_
     refine W.sub (L' := [(13, _), (1, _), (6, _), (7, _), (93, _), (94, _), (95, _)]) (Sub.cons rfl (Sub.cons rfl (Sub.cons rfl (Sub.cons rfl (Sub.cons rfl (Sub.cons rfl (Sub.cons rfl Sub.nil))))))) ?_
     refine W.region ?_
     refine G.r (Runs.add rfl rfl (by unfold InR; omega)) ?_
     refine G.r (Runs.move rfl) ?_
     refine G.nil ?_
     exact V.next ((k2 + 1), (ns + ((nblocks ((at_ rs ((k2 : Nat) : Int)).n).toNat ((at_ rs ((k2 : Nat) : Int)).xs) : Nat) : Int))) (show ((k2 + 1 : Nat) ≤ rs.length) ∧ ((ns + ((nblocks ((at_ rs ((k2 : Nat) : Int)).n).toNat ((at_ rs ((k2 : Nat) : Int)).xs) : Nat) : Int) : Int) = ((readsL (rs.take (k2 + 1 : Nat)) : Nat) : Int)) from ⟨(by omega), (by rw [readsL_step (by omega), hns]; push_cast; rfl)⟩) (show rs.length - (k2 + 1 : Nat) < rs.length - k2 from (by omega)) (Sub.cons rfl (Sub.cons rfl (Sub.cons rfl (Sub.cons lookO (Sub.cons rfl (Sub.cons rfl (Sub.cons lookO Sub.nil))))))) (show Fit κ _ (vc 57 (.slice ad10 (List.replicate ((1 + x8).toNat) (default : RunV)).length cp11) (rs) :: blk b7 [I64 (rn2), .slice ad3 rl5.length cp4] 57 :: vc 60 (.slice ad3 rl5.length cp4) (rl5) :: blk dk1 [.slice la ln lc, I64 (iqc)] 129 :: (runsI rs ++ I)) from Fit.sub)
    ·refine W.exit ?_
     refine V.then_exit ?_
     refine V.then_exit ?_
     refine V.block_hit ?_
     refine V.then ?_
     refine W.sr ?_
     refine G.r (Runs.move rfl) ?_
     refine G.r (Runs.move rfl) ?_
     refine G.r (Runs.rem rfl rfl (by omega)) ?_
     refine G.r (Runs.convI Try.underlying5 Try.underlying3 rfl (by unfold InR; omega)) ?_
     refine G.r (Runs.add rfl rfl (by unfold InR; omega)) ?_
     refine G.e (Eff.call call48 rfl rfl (Merge_ok Sl.o (HeldRuns.fit runsI_held Fit.m) (hP.run hv) (fl := (rs.map RunV.xs).flatten) rfl (by omega) (sz := 1 + (Int.tmod sz8 9)) (by omega))) ?_
     rintro _ _ ⟨_, _, ⟨ad28, cp29, rfl, rfl⟩, rfl, rfl⟩
     refine G.r (Runs.move rfl) ?_
     refine G.r (Runs.extract rfl rfl) ?_
     refine G.r (Runs.extract rfl rfl) ?_
     refine G.r (Runs.extract rfl rfl) ?_
     refine G.e (Eff.alloc ty57 rfl) ?_
     rintro _ _ ⟨b30, rfl, rfl⟩
     refine G.e (Eff.st (cs := [_, _]) (vs := [_, _]) (cs' := [_, _]) ty57) ?_
     rintro _ _ ⟨rfl, rfl⟩
     refine G.r (Runs.assign rfl) ?_
     refine G.r (Runs.assign rfl) ?_
     refine G.nt ?_
     refine W.sub (L' := [(18, _), (17, _), (16, _), (1, _), (6, _), (13, _)]) (Sub.cons rfl (Sub.cons rfl (Sub.cons rfl (Sub.cons rfl (Sub.cons rfl (Sub.cons rfl Sub.nil)))))) ?_
     refine W.seq ?_
     refine W.sr ?_
     refine G.r (Runs.move rfl) ?_
     refine G.r (Runs.neq rfl rfl) ?_
     refine G.r (Runs.move rfl) ?_
     refine G.split (d := 116) rfl (fun g116 => ?_) (fun g116 => ?_)
     ·exact absurd rfl g116
     ·refine G.ro (Runs.move rfl) ?_
      refine G.ro (Runs.move rfl) ?_
      refine G.ro (Runs.neq rfl rfl) ?_
      refine G.r (Runs.pickf rfl rfl) ?_
      refine G.r (Runs.move rfl) ?_
      refine G.split (d := 121) rfl (fun g121 => ?_) (fun g121 => ?_)
      ·exact absurd (by rw [hns, List.take_of_length_le (by omega)]) g121
      ·refine G.ro (Runs.fieldAddr fld57_0 rfl) ?_
       refine G.ro (Runs.ld ty3) ?_
       refine G.ro (Runs.move rfl) ?_
       refine G.ro (Runs.rem rfl rfl (by omega)) ?_
       refine G.ro (Runs.convI Try.underlying5 Try.underlying3 rfl (by unfold InR; omega)) ?_
       refine G.ro (Runs.add rfl rfl (by unfold InR; omega)) ?_
       refine G.ro (Runs.neq rfl rfl) ?_
       refine G.r (Runs.pickf rfl rfl) ?_
       refine G.r (Runs.move rfl) ?_
       refine G.split (d := 130) rfl (fun g130 => ?_) (fun g130 => ?_)
       ·exact absurd rfl g130
       ·refine G.ro (Runs.fieldAddr fld57_1 rfl) ?_
        refine G.ro (Runs.ld ty55) ?_
        refine G.ro (Runs.lens Try.underlying55 rfl) ?_
        refine G.ro (Runs.fieldAddr fld57_1 rfl) ?_
        refine G.ro (Runs.ld ty55) ?_
        refine G.ro (Runs.lens Try.underlying55 rfl) ?_
        refine G.ro (Runs.neq rfl rfl) ?_
        refine G.r (Runs.pickf rfl rfl) ?_
        refine G.nt ?_
        refine W.sub (L' := [(138, _), (16, _), (6, _)]) (Sub.cons rfl (Sub.cons rfl (Sub.cons rfl Sub.nil))) ?_
        refine W.ite rfl (fun c138 => ?_) (fun c138 => ?_)
        ·exact absurd (by rw [hmerge]) c138
        ·refine W.skip ?_
         refine V.then ?_
         refine W.seq ?_
         refine W.sr ?_
         refine G.r (Runs.fieldAddr fld57_1 rfl) ?_
         refine G.r (Runs.ld ty55) ?_
         refine G.r (Runs.lens Try.underlying55 rfl) ?_
         refine G.r (Runs.move rfl) ?_
         refine G.nt ?_
         refine W.block ?_
         refine W.loop (σ := Nat) (fun s => ([(6, .pointer (some ⟨b7, 0, none⟩)), (16, .pointer (some ⟨b30, 0, none⟩)), (141, I64 ((((sortB Pt.lt ((rs.map RunV.xs).flatten)).length : Nat) : Int))), (142, I64 (((s : Nat) : Int)))] : Env)) (fun s => blk b30 [I64 (1 + (Int.tmod sz8 9)), .slice ad28 (sortB Pt.lt ((rs.map RunV.xs).flatten)).length cp29] 57 :: vc 60 (.slice ad28 (sortB Pt.lt ((rs.map RunV.xs).flatten)).length cp29) (sortB Pt.lt ((rs.map RunV.xs).flatten)) :: vc 57 (.slice ad10 (List.replicate ((1 + x8).toNat) (default : RunV)).length cp11) (rs) :: blk b7 [I64 (rn2), .slice ad3 rl5.length cp4] 57 :: vc 60 (.slice ad3 rl5.length cp4) (rl5) :: blk dk1 [.slice la ln lc, I64 (iqc)] 129 :: (runsI rs ++ I)) (fun s => (s ≤ (sortB Pt.lt (rs.map RunV.xs).flatten).length)) (fun s => (sortB Pt.lt (rs.map RunV.xs).flatten).length - s) (0) (show ((0 : Nat) ≤ (sortB Pt.lt (rs.map RunV.xs).flatten).length) from (by omega)) (Sub.cons rfl (Sub.cons rfl (Sub.cons rfl (Sub.cons lookO Sub.nil)))) (show Fit κ _ (blk b30 [I64 (1 + (Int.tmod sz8 9)), .slice ad28 (sortB Pt.lt ((rs.map RunV.xs).flatten)).length cp29] 57 :: vc 60 (.slice ad28 (sortB Pt.lt ((rs.map RunV.xs).flatten)).length cp29) (sortB Pt.lt ((rs.map RunV.xs).flatten)) :: vc 57 (.slice ad10 (List.replicate ((1 + x8).toNat) (default : RunV)).length cp11) (rs) :: blk b7 [I64 (rn2), .slice ad3 rl5.length cp4] 57 :: vc 60 (.slice ad3 rl5.length cp4) (rl5) :: blk dk1 [.slice la ln lc, I64 (iqc)] 129 :: (runsI rs ++ I)) from Fit.sub) ?_
         rintro k3 hp
         have hk3 : (k3 ≤ (sortB Pt.lt (rs.map RunV.xs).flatten).length) := hp
         show W Try.prog κ 158 _ _ ([(6, .pointer (some ⟨b7, 0, none⟩)), (16, .pointer (some ⟨b30, 0, none⟩)), (141, I64 ((((sortB Pt.lt ((rs.map RunV.xs).flatten)).length : Nat) : Int))), (142, I64 (((k3 : Nat) : Int)))] : Env) (blk b30 [I64 (1 + (Int.tmod sz8 9)), .slice ad28 (sortB Pt.lt ((rs.map RunV.xs).flatten)).length cp29] 57 :: vc 60 (.slice ad28 (sortB Pt.lt ((rs.map RunV.xs).flatten)).length cp29) (sortB Pt.lt ((rs.map RunV.xs).flatten)) :: vc 57 (.slice ad10 (List.replicate ((1 + x8).toNat) (default : RunV)).length cp11) (rs) :: blk b7 [I64 (rn2), .slice ad3 rl5.length cp4] 57 :: vc 60 (.slice ad3 rl5.length cp4) (rl5) :: blk dk1 [.slice la ln lc, I64 (iqc)] 129 :: (runsI rs ++ I))
         refine W.sr ?_
         refine G.r (Runs.lss rfl rfl) ?_
         refine G.nt ?_
         refine W.seq ?_
         refine W.ite rfl (fun c143 => ?_) (fun c143 => ?_)
         ·refine W.skip ?_
          refine V.then ?_
          refine W.seq ?_
          refine W.block ?_
          refine W.sr ?_
          refine G.r (Runs.move rfl) ?_
          refine G.r (Runs.assign rfl) ?_
          refine G.nt ?_
          refine W.seq ?_
          refine W.drawn mixed ?_
          refine A.hold (blk b30 [I64 (1 + (Int.tmod sz8 9)), .slice ad28 (sortB Pt.lt ((rs.map RunV.xs).flatten)).length cp29] 57 :: vc 60 (.slice ad28 (sortB Pt.lt ((rs.map RunV.xs).flatten)).length cp29) (sortB Pt.lt ((rs.map RunV.xs).flatten)) :: vc 57 (.slice ad10 (List.replicate ((1 + x8).toNat) (default : RunV)).length cp11) (rs) :: blk b7 [I64 (rn2), .slice ad3 rl5.length cp4] 57 :: vc 60 (.slice ad3 rl5.length cp4) (rl5) :: blk dk1 [.slice la ln lc, I64 (iqc)] 129 :: (runsI rs ++ I)) 11 ?_
          refine D.r 0 rfl (Runs.fieldAddr fld57_1 rfl) ?_
          refine D.r 1 rfl (Runs.ld ty55) ?_
          refine D.r 2 rfl (Runs.move rfl) ?_
          refine D.r 3 rfl (Runs.idx (α := Pt) (xs := sortB Pt.lt ((rs.map RunV.xs).flatten)) Try.underlying55 ty60 rfl rfl Sl.o (by omega) (by first | omega | (simp only [List.length_set] at *; omega))) ?_
          refine D.r 4 rfl (Runs.gets (α := Pt) (xs := sortB Pt.lt ((rs.map RunV.xs).flatten)) ty60 rfl Sl.o (by omega) (by first | omega | (simp only [List.length_set] at *; omega))) ?_
          refine D.r 5 rfl (Runs.fieldAddr fld57_1 rfl) ?_
          refine D.r 6 rfl (Runs.ld ty55) ?_
          refine D.r 7 rfl (Runs.move rfl) ?_
          refine D.r 8 rfl (Runs.idx (α := Pt) (xs := rl5) Try.underlying55 ty60 rfl rfl Sl.o (by omega) (by first | omega | (simp only [List.length_set] at *; omega))) ?_
          refine D.r 9 rfl (Runs.gets (α := Pt) (xs := rl5) ty60 rfl Sl.o (by omega) (by first | omega | (simp only [List.length_set] at *; omega))) ?_
          refine D.r 10 rfl (Runs.neqT (α := Pt) (a := (at_ (sortB Pt.lt ((rs.map RunV.xs).flatten)) ((k3 : Nat) : Int))) (b := (at_ rl5 ((k3 : Nat) : Int))) eqt60 rfl rfl) ?_
          refine D.done (by kernel_rfl) ?_
          refine V.then ?_
          refine W.sub (L' := [(155, _), (6, _), (16, _), (141, _), (142, _)]) (Sub.cons rfl (Sub.cons rfl (Sub.cons rfl (Sub.cons rfl (Sub.cons rfl Sub.nil))))) ?_
          refine W.ite rfl (fun c155 => ?_) (fun c155 => ?_)
          ·exact absurd (by rw [hmerge]) c155
          ·refine W.skip ?_
           refine V.block_normal ?_
           refine V.then ?_
           refine W.region ?_
           refine G.r (Runs.add rfl rfl (by unfold InR; omega)) ?_
           refine G.r (Runs.move rfl) ?_
           refine G.nil ?_
           exact V.next ((k3 + 1)) (show ((k3 + 1 : Nat) ≤ (sortB Pt.lt (rs.map RunV.xs).flatten).length) from (by omega)) (show (sortB Pt.lt (rs.map RunV.xs).flatten).length - (k3 + 1 : Nat) < (sortB Pt.lt (rs.map RunV.xs).flatten).length - k3 from (by omega)) (Sub.cons rfl (Sub.cons rfl (Sub.cons rfl (Sub.cons lookO Sub.nil)))) (show Fit κ _ (blk b30 [I64 (1 + (Int.tmod sz8 9)), .slice ad28 (sortB Pt.lt ((rs.map RunV.xs).flatten)).length cp29] 57 :: vc 60 (.slice ad28 (sortB Pt.lt ((rs.map RunV.xs).flatten)).length cp29) (sortB Pt.lt ((rs.map RunV.xs).flatten)) :: vc 57 (.slice ad10 (List.replicate ((1 + x8).toNat) (default : RunV)).length cp11) (rs) :: blk b7 [I64 (rn2), .slice ad3 rl5.length cp4] 57 :: vc 60 (.slice ad3 rl5.length cp4) (rl5) :: blk dk1 [.slice la ln lc, I64 (iqc)] 129 :: (runsI rs ++ I)) from Fit.sub)
         ·refine W.exit ?_
          refine V.then_exit ?_
          refine V.then_exit ?_
          refine V.block_hit ?_
          refine V.then ?_
          refine W.sr ?_
          refine G.e (Eff.call call43 rfl rfl Awake34_ok) ?_
          rintro _ _ ⟨_, _, ⟨rfl, rfl⟩, rfl, rfl⟩
          refine G.r (Runs.assign rfl) ?_
          refine G.nt ?_
          refine W.ret ?_
          exact V.ret1 rfl rfl (I) Fit.m ⟨rfl, rfl⟩

end Go.Sl
