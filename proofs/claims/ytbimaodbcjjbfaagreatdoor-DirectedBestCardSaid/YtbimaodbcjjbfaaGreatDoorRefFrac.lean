/- A part of the proofs of statements of this seat: contracts of functions, and the plain laws that they lean on. No conditions. -/
import Derived.Test.YtbimaodbcjjbfaaGreatDoorGraphH5
import Derived.Test.YtbimaodbcjjbfaaGreatDoorWide
namespace Go.Sl
open Go.Proofs
set_option linter.unusedVariables false
set_option linter.unusedSimpArgs false
set_option maxRecDepth 4000
theorem eqt111 : EqT Tryz.prog 111 Wd := EqT.flatU (fun p : Wd => [p.hi, p.lo]) (fun _ => rfl) (fun x y h => by cases x; cases y; simpa using h) (n := 2) (fun _ => rfl) (by kernel_rfl) (by kernel_rfl) (by kernel_rfl) (by kernel_rfl) (by kernel_rfl)
theorem wd_zero {y : Int} : (⟨0, y⟩ : Wd) = ⟨0, 0⟩ ↔ y = 0 := by rw [Wd.mk.injEq]; exact ⟨fun h => h.2, fun h => ⟨rfl, h⟩⟩
theorem mkF_zero {b : Int} (h : 0 < b) : mkF 0 b = ⟨0, 1⟩ := by
  have e : gcdI 0 b = b := by unfold gcdI; simp; omega
  unfold mkF; rw [e, Int.zero_ediv, Int.ediv_self (by omega)]
theorem gcdI_mod {a b : Int} (h0 : 0 ≤ a) (h1 : 0 < b) : gcdI b (a % b) = gcdI a b := by
  rw [← gcdI_step h0 h1, Int.tmod_eq_emod_of_nonneg h0]

theorem WDouble_ok {κ : Ctx} {I : List Item} (n : Int) (h : 0 ≤ n ∧ n < 9223372036854775808) :
    CallS Tryz.prog κ 151 [.agg #[.int .u64 (0), .int .u64 (n)]] I (fun r J => r = .agg #[.int .u64 0, .int .u64 (2 * n)] ∧ I = J) := by
 refine CallS.enter (L := [(0, .agg #[.int .u64 (0), .int .u64 (n)])]) Tryz.func151 rfl rfl rfl rfl ?_
 refine W.sr ?_
 refine G.e (Eff.box (cs := [_, _]) rfl rfl rfl) ?_
 rintro _ _ ⟨b1, rfl, rfl⟩
 refine G.e (Eff.alloc ty111 rfl) ?_
 rintro _ _ ⟨b2, rfl, rfl⟩
 refine G.nt ?_
 refine W.sr ?_
 refine G.r (Runs.fieldAddr fld111_0 rfl) ?_
 refine G.r (Runs.ld ty86) ?_
 refine G.r (Runs.shlU (m := 0) rfl rfl (by decide) (by decide)) ?_
 refine G.r (Runs.fieldAddr fld111_1 rfl) ?_
 refine G.r (Runs.ld ty86) ?_
 refine G.r (Runs.shr63 (m := n) rfl rfl (by omega) (by omega)) ?_
 refine G.r (Runs.orZ rfl rfl) ?_
 refine G.r (Runs.fieldAddr fld111_1 rfl) ?_
 refine G.r (Runs.ld ty86) ?_
 refine G.r (Runs.shlU (m := n) rfl rfl (by omega) (by omega)) ?_
 refine G.r (Runs.build (cells := [_, _]) ty111 Tryz.underlying111 pl111 rfl rfl) ?_
 refine G.e (Eff.st (cs := [_, _]) (vs := [_, _]) (cs' := [_, _]) ty111) ?_
 rintro _ _ ⟨rfl, rfl⟩
 refine G.nt ?_
 refine W.sub (L' := [(2, _)]) (Sub.cons rfl Sub.nil) ?_
 refine W.ret ?_
 exact V.retc rfl ty111 rfl (by repeat (first | exact List.mem_cons_self | apply List.mem_cons_of_mem)) rfl (I) Fit.m ⟨rfl, rfl⟩

theorem WLess_ok {κ : Ctx} {I : List Item} (a b : Int) :
    CallS Tryz.prog κ 86 [.agg #[.int .u64 (0), .int .u64 (a)], .agg #[.int .u64 (0), .int .u64 (b)]] I (fun r J => r = .bool (decide (a < b)) ∧ I = J) := by
 refine CallS.enter (L := [(0, .agg #[.int .u64 (0), .int .u64 (a)]), (1, .agg #[.int .u64 (0), .int .u64 (b)])]) Tryz.func86 rfl rfl rfl rfl ?_
 refine W.sr ?_
 refine G.e (Eff.box (cs := [_, _]) rfl rfl rfl) ?_
 rintro _ _ ⟨b1, rfl, rfl⟩
 refine G.e (Eff.box (cs := [_, _]) rfl rfl rfl) ?_
 rintro _ _ ⟨b2, rfl, rfl⟩
 refine G.r (Runs.assign rfl) ?_
 refine G.nt ?_
 refine W.sr ?_
 refine G.r (Runs.fieldAddr fld111_0 rfl) ?_
 refine G.r (Runs.ld ty86) ?_
 refine G.r (Runs.fieldAddr fld111_0 rfl) ?_
 refine G.r (Runs.ld ty86) ?_
 refine G.r (Runs.lss rfl rfl) ?_
 refine G.r (Runs.move rfl) ?_
 refine G.split (d := 10) rfl (fun g10 => ?_) (fun g10 => ?_)
 ·exact absurd g10 (by omega)
 ·refine G.ro (Runs.fieldAddr fld111_0 rfl) ?_
  refine G.ro (Runs.ld ty86) ?_
  refine G.ro (Runs.fieldAddr fld111_0 rfl) ?_
  refine G.ro (Runs.ld ty86) ?_
  refine G.ro (Runs.eql rfl rfl) ?_
  refine G.ro (Runs.move rfl) ?_
  refine G.split (d := 16) rfl (fun g16 => ?_) (fun g16 => ?_)
  ·refine G.ro (Runs.fieldAddr fld111_1 rfl) ?_
   refine G.ro (Runs.ld ty86) ?_
   refine G.ro (Runs.fieldAddr fld111_1 rfl) ?_
   refine G.ro (Runs.ld ty86) ?_
   refine G.ro (Runs.lss rfl rfl) ?_
   refine G.ro (Runs.pickt rfl rfl) ?_
   refine G.r (Runs.pickf rfl rfl) ?_
   refine G.r (Runs.assign rfl) ?_
   refine G.nt ?_
   refine W.sub (L' := [(4, _)]) (Sub.cons rfl Sub.nil) ?_
   refine W.ret ?_
   exact V.ret1 rfl rfl (I) Fit.m ⟨rfl, rfl⟩
  ·exact absurd rfl g16

theorem WSub_ok {κ : Ctx} {I : List Item} (a b : Int) (h : 0 ≤ b ∧ b ≤ a ∧ a < 9223372036854775808) :
    CallS Tryz.prog κ 152 [.agg #[.int .u64 (0), .int .u64 (a)], .agg #[.int .u64 (0), .int .u64 (b)]] I (fun r J => r = .agg #[.int .u64 0, .int .u64 (a - b)] ∧ I = J) := by
 refine CallS.enter (L := [(0, .agg #[.int .u64 (0), .int .u64 (a)]), (1, .agg #[.int .u64 (0), .int .u64 (b)])]) Tryz.func152 rfl rfl rfl rfl ?_
 refine W.sr ?_
 refine G.e (Eff.box (cs := [_, _]) rfl rfl rfl) ?_
 rintro _ _ ⟨b1, rfl, rfl⟩
 refine G.e (Eff.box (cs := [_, _]) rfl rfl rfl) ?_
 rintro _ _ ⟨b2, rfl, rfl⟩
 refine G.e (Eff.alloc ty111 rfl) ?_
 rintro _ _ ⟨b3, rfl, rfl⟩
 refine G.nt ?_
 refine W.sr ?_
 refine G.r (Runs.fieldAddr fld111_0 rfl) ?_
 refine G.r (Runs.ld ty86) ?_
 refine G.r (Runs.fieldAddr fld111_0 rfl) ?_
 refine G.r (Runs.ld ty86) ?_
 refine G.r (Runs.subU (m := 0) (n := 0) rfl rfl (by decide) (by decide) (by decide)) ?_
 refine G.r (Runs.assign rfl) ?_
 refine G.nt ?_
 refine W.seq ?_
 refine W.sr ?_
 refine G.r (Runs.fieldAddr fld111_1 rfl) ?_
 refine G.r (Runs.ld ty86) ?_
 refine G.r (Runs.fieldAddr fld111_1 rfl) ?_
 refine G.r (Runs.ld ty86) ?_
 refine G.r (Runs.lss rfl rfl) ?_
 refine G.nt ?_
 refine W.sub (L' := [(15, _), (5, _), (4, _), (3, _), (2, _)]) (Sub.cons rfl (Sub.cons rfl (Sub.cons rfl (Sub.cons rfl (Sub.cons rfl Sub.nil))))) ?_
 refine W.ite rfl (fun c15 => ?_) (fun c15 => ?_)
 ·exact absurd c15 (by omega)
 ·refine W.skip ?_
  refine V.then ?_
  refine W.sr ?_
  refine G.r (Runs.move rfl) ?_
  refine G.r (Runs.fieldAddr fld111_1 rfl) ?_
  refine G.r (Runs.ld ty86) ?_
  refine G.r (Runs.fieldAddr fld111_1 rfl) ?_
  refine G.r (Runs.ld ty86) ?_
  refine G.r (Runs.subU (m := a) (n := b) rfl rfl (by omega) (by omega) (by omega)) ?_
  refine G.r (Runs.build (cells := [_, _]) ty111 Tryz.underlying111 pl111 rfl rfl) ?_
  refine G.e (Eff.st (cs := [_, _]) (vs := [_, _]) (cs' := [_, _]) ty111) ?_
  rintro _ _ ⟨rfl, rfl⟩
  refine G.nt ?_
  refine W.ret ?_
  exact V.retc rfl ty111 rfl (by repeat (first | exact List.mem_cons_self | apply List.mem_cons_of_mem)) rfl (I) Fit.m ⟨rfl, rfl⟩

set_option maxHeartbeats 1000000 in
theorem WDivide_ok {κ : Ctx} {I : List Item} (a b : Int) (h0 : 0 ≤ a ∧ a ≤ 1152921504606846976) (h1 : 0 < b ∧ b ≤ 1152921504606846976) :
    CallS Tryz.prog κ 125 [.agg #[.int .u64 (0), .int .u64 (a)], .agg #[.int .u64 (0), .int .u64 (b)]] I (fun r J => r = .tuple #[.agg #[.int .u64 0, .int .u64 (a / b)], .agg #[.int .u64 0, .int .u64 (a % b)]] ∧ I = J) := by
 refine CallS.enter (L := [(0, .agg #[.int .u64 (0), .int .u64 (a)]), (1, .agg #[.int .u64 (0), .int .u64 (b)])]) Tryz.func125 rfl rfl rfl rfl ?_
 refine W.sr ?_
 refine G.e (Eff.box (cs := [_, _]) rfl rfl rfl) ?_
 rintro _ _ ⟨b1, rfl, rfl⟩
 refine G.e (Eff.box (cs := [_, _]) rfl rfl rfl) ?_
 rintro _ _ ⟨b2, rfl, rfl⟩
 refine G.e (Eff.alloc ty111 rfl) ?_
 rintro _ _ ⟨b3, rfl, rfl⟩
 refine G.e (Eff.alloc ty111 rfl) ?_
 rintro _ _ ⟨b4, rfl, rfl⟩
 refine G.nt ?_
 refine W.sr ?_
 refine G.e (Eff.alloc ty111 rfl) ?_
 rintro _ _ ⟨b5, rfl, rfl⟩
 refine G.e (Eff.alloc ty111 rfl) ?_
 rintro _ _ ⟨b6, rfl, rfl⟩
 refine G.nt ?_
 refine W.seq ?_
 refine W.sr ?_
 refine G.r (Runs.assign rfl) ?_
 refine G.nt ?_
 refine W.block ?_
 refine W.loop (σ := Int × Int × Int) (fun s => ([(2, .pointer (some ⟨b1, 0, none⟩)), (3, .pointer (some ⟨b2, 0, none⟩)), (4, .pointer (some ⟨b3, 0, none⟩)), (5, .pointer (some ⟨b4, 0, none⟩)), (6, .pointer (some ⟨b5, 0, none⟩)), (7, .pointer (some ⟨b6, 0, none⟩)), (8, I64 (s.1))] : Env)) (fun s => blk b6 [.int .u64 (0), .int .u64 (s.2.2)] 111 :: blk b5 [.int .u64 (0), .int .u64 (s.2.1)] 111 :: blk b4 [.int .u64 (0), .int .u64 (0)] 111 :: blk b3 [.int .u64 (0), .int .u64 (0)] 111 :: blk b2 [.int .u64 (0), .int .u64 (b)] 111 :: blk b1 [.int .u64 (0), .int .u64 (a)] 111 :: I) (fun s => (-1 ≤ s.1 ∧ s.1 ≤ 127) ∧ (0 ≤ s.2.2 ∧ s.2.2 < b) ∧ (0 ≤ s.2.1) ∧ (a / 2 ^ (s.1 + 1).toNat = s.2.1 * b + s.2.2)) (fun s => (s.1 + 1).toNat) (127, 0, 0) (show (-1 ≤ (127 : Int) ∧ (127 : Int) ≤ 127) ∧ (0 ≤ (0 : Int) ∧ (0 : Int) < b) ∧ (0 ≤ (0 : Int)) ∧ (a / 2 ^ ((127 : Int) + 1).toNat = (0 : Int) * b + (0 : Int)) from ⟨(by omega), (by omega), (by omega), (div_start h0.1 (by omega))⟩) (Sub.cons rfl (Sub.cons rfl (Sub.cons rfl (Sub.cons rfl (Sub.cons rfl (Sub.cons rfl (Sub.cons lookO Sub.nil))))))) (show Fit κ _ (blk b6 [.int .u64 (0), .int .u64 ((0))] 111 :: blk b5 [.int .u64 (0), .int .u64 ((0))] 111 :: blk b4 [.int .u64 (0), .int .u64 (0)] 111 :: blk b3 [.int .u64 (0), .int .u64 (0)] 111 :: blk b2 [.int .u64 (0), .int .u64 (b)] 111 :: blk b1 [.int .u64 (0), .int .u64 (a)] 111 :: I) from Fit.sub) ?_
 rintro ⟨i, qq, rr⟩ hp
 obtain ⟨hi, hr, hq, hd⟩ : (-1 ≤ i ∧ i ≤ 127) ∧ (0 ≤ rr ∧ rr < b) ∧ (0 ≤ qq) ∧ (a / 2 ^ (i + 1).toNat = qq * b + rr) := hp
 show W Tryz.prog κ 59 _ _ ([(2, .pointer (some ⟨b1, 0, none⟩)), (3, .pointer (some ⟨b2, 0, none⟩)), (4, .pointer (some ⟨b3, 0, none⟩)), (5, .pointer (some ⟨b4, 0, none⟩)), (6, .pointer (some ⟨b5, 0, none⟩)), (7, .pointer (some ⟨b6, 0, none⟩)), (8, I64 (i))] : Env) (blk b6 [.int .u64 (0), .int .u64 (rr)] 111 :: blk b5 [.int .u64 (0), .int .u64 (qq)] 111 :: blk b4 [.int .u64 (0), .int .u64 (0)] 111 :: blk b3 [.int .u64 (0), .int .u64 (0)] 111 :: blk b2 [.int .u64 (0), .int .u64 (b)] 111 :: blk b1 [.int .u64 (0), .int .u64 (a)] 111 :: I)
 have hqa := div_bd h0.1 hd hr.1 h1.1 hq
 have hbt := bitA_two a i
 have hbh : 63 ≤ i → bitA a i = 0 := bitA_high h0.1 (by omega)
 refine W.seq ?_
 refine W.sr ?_
 refine G.r (Runs.move rfl) ?_
 refine G.r (Runs.geq rfl rfl) ?_
 refine G.nt ?_
 refine W.ite rfl (fun c10 => ?_) (fun c10 => ?_)
 ·refine W.skip ?_
  refine V.then ?_
  refine W.seq ?_
  refine W.block ?_
  refine W.sr ?_
  refine G.r (Runs.lds (vs := [_, _]) ty111) ?_
  refine G.e (Eff.call call151 rfl rfl (WDouble_ok rr (by omega))) ?_
  rintro _ _ ⟨_, _, ⟨rfl, rfl⟩, rfl, rfl⟩
  refine G.e (Eff.st (cs := [_, _]) (vs := [_, _]) (cs' := [_, _]) ty111) ?_
  rintro _ _ ⟨rfl, rfl⟩
  refine G.nt ?_
  refine W.seq ?_
  refine W.sr ?_
  refine G.r (Runs.move rfl) ?_
  refine G.r (Runs.geq rfl rfl) ?_
  refine G.r (Runs.move rfl) ?_
  refine G.split (d := 17) rfl (fun g17 => ?_) (fun g17 => ?_)
  ·refine G.ro (Runs.fieldAddr fld111_0 rfl) ?_
   refine G.ro (Runs.ld ty86) ?_
   refine G.ro (Runs.move rfl) ?_
   refine G.ro (Runs.sub rfl rfl (by unfold InR; omega)) ?_
   refine G.ro (Runs.convU Tryz.underlying3 Tryz.underlying109 rfl (by omega)) ?_
   refine G.ro (Runs.zeroU rfl rfl (by omega) (by omega)) ?_
   refine G.ro (Runs.zand rfl rfl) ?_
   refine G.ro (Runs.eql rfl rfl) ?_
   refine G.r (Runs.pickt rfl rfl) ?_
   refine G.r (Runs.move rfl) ?_
   refine G.split (d := 27) rfl (fun g27 => ?_) (fun g27 => ?_)
   ·exact absurd g27 (by omega)
   ·refine G.ro (Runs.move rfl) ?_
    refine G.ro (Runs.lss rfl rfl) ?_
    refine G.ro (Runs.move rfl) ?_
    refine G.split (d := 30) rfl (fun g30 => ?_) (fun g30 => ?_)
    ·refine G.ro (Runs.fieldAddr fld111_1 rfl) ?_
     refine G.ro (Runs.ld ty86) ?_
     refine G.ro (Runs.move rfl) ?_
     refine G.ro (Runs.convU Tryz.underlying3 Tryz.underlying109 rfl (by omega)) ?_
     refine G.ro (Runs.shrU (m := a) rfl rfl (by omega) (by omega)) ?_
     refine G.ro (Runs.bitU (a := a) (i := i) rfl rfl (by omega) (by omega)) ?_
     refine G.ro (Runs.eql rfl rfl) ?_
     refine G.ro (Runs.pickt rfl rfl) ?_
     refine G.r (Runs.pickf rfl rfl) ?_
     refine G.nt ?_
     refine W.sub (L' := [(39, _), (2, _), (3, _), (4, _), (5, _), (6, _), (7, _), (8, _)]) (Sub.cons rfl (Sub.cons rfl (Sub.cons rfl (Sub.cons rfl (Sub.cons rfl (Sub.cons rfl (Sub.cons rfl (Sub.cons rfl Sub.nil)))))))) ?_
     refine W.ite rfl (fun c39 => ?_) (fun c39 => ?_)
     ·refine W.region ?_
      refine G.r (Runs.fieldAddr fld111_1 rfl) ?_
      refine G.r (Runs.ld ty86) ?_
      refine G.r (Runs.or1U (m := rr) rfl rfl (by omega) (by omega)) ?_
      refine G.r (Runs.fieldAddr fld111_1 rfl) ?_
      refine G.e (Eff.st (cs := [_, _]) (vs := [_]) (cs' := [_, _]) ty86) ?_
      rintro _ _ ⟨rfl, rfl⟩
      refine G.nt ?_
      refine W.sr ?_
      refine G.r (Runs.lds (vs := [_, _]) ty111) ?_
      refine G.e (Eff.call call151 rfl rfl (WDouble_ok qq (by omega))) ?_
      rintro _ _ ⟨_, _, ⟨rfl, rfl⟩, rfl, rfl⟩
      refine G.e (Eff.st (cs := [_, _]) (vs := [_, _]) (cs' := [_, _]) ty111) ?_
      rintro _ _ ⟨rfl, rfl⟩
      refine G.nt ?_
      refine W.sub (L' := [(2, _), (3, _), (4, _), (5, _), (6, _), (7, _), (8, _)]) (Sub.cons rfl (Sub.cons rfl (Sub.cons rfl (Sub.cons rfl (Sub.cons rfl (Sub.cons rfl (Sub.cons rfl Sub.nil))))))) ?_
      refine W.sr ?_
      refine G.r (Runs.lds (vs := [_, _]) ty111) ?_
      refine G.r (Runs.lds (vs := [_, _]) ty111) ?_
      refine G.e (Eff.call call86 rfl rfl (WLess_ok (2 * rr + 1) b )) ?_
      rintro _ _ ⟨_, _, ⟨rfl, rfl⟩, rfl, rfl⟩
      refine G.r (Runs.notd rfl) ?_
      refine G.nt ?_
      refine W.ite rfl (fun c49 => ?_) (fun c49 => ?_)
      ·refine W.sr ?_
       refine G.r (Runs.lds (vs := [_, _]) ty111) ?_
       refine G.r (Runs.lds (vs := [_, _]) ty111) ?_
       refine G.e (Eff.call call152 rfl rfl (WSub_ok (2 * rr + 1) b (by omega))) ?_
       rintro _ _ ⟨_, _, ⟨rfl, rfl⟩, rfl, rfl⟩
       refine G.e (Eff.st (cs := [_, _]) (vs := [_, _]) (cs' := [_, _]) ty111) ?_
       rintro _ _ ⟨rfl, rfl⟩
       refine G.nt ?_
       refine W.sub (L' := [(2, _), (3, _), (4, _), (5, _), (6, _), (7, _), (8, _)]) (Sub.cons rfl (Sub.cons rfl (Sub.cons rfl (Sub.cons rfl (Sub.cons rfl (Sub.cons rfl (Sub.cons rfl Sub.nil))))))) ?_
       refine W.region ?_
       refine G.r (Runs.fieldAddr fld111_1 rfl) ?_
       refine G.r (Runs.ld ty86) ?_
       refine G.r (Runs.or1U (m := qq) rfl rfl (by omega) (by omega)) ?_
       refine G.r (Runs.fieldAddr fld111_1 rfl) ?_
       refine G.e (Eff.st (cs := [_, _]) (vs := [_]) (cs' := [_, _]) ty86) ?_
       rintro _ _ ⟨rfl, rfl⟩
       refine G.nil ?_
       refine V.block_normal ?_
       refine V.then ?_
       refine W.region ?_
       refine G.r (Runs.move rfl) ?_
       refine G.r (Runs.sub rfl rfl (by unfold InR; omega)) ?_
       refine G.r (Runs.assign rfl) ?_
       refine G.nil ?_
       exact V.next ((i - 1), (2 * qq + 1), ((2 * rr + 1) - b)) (show (-1 ≤ (i - 1 : Int) ∧ (i - 1 : Int) ≤ 127) ∧ (0 ≤ ((2 * rr + 1) - b : Int) ∧ ((2 * rr + 1) - b : Int) < b) ∧ (0 ≤ (2 * qq + 1 : Int)) ∧ (a / 2 ^ ((i - 1 : Int) + 1).toNat = (2 * qq + 1 : Int) * b + ((2 * rr + 1) - b : Int)) from ⟨(by omega), (by omega), (by omega), (by first | exact div_n0 h0.1 hd (by omega) (by omega) | exact div_n1 h0.1 hd (by omega) (by omega))⟩) (show ((i - 1 : Int) + 1).toNat < (i + 1).toNat from (by omega)) (Sub.cons rfl (Sub.cons rfl (Sub.cons rfl (Sub.cons rfl (Sub.cons rfl (Sub.cons rfl (Sub.cons lookO Sub.nil))))))) (show Fit κ _ (blk b6 [.int .u64 (0), .int .u64 (((2 * rr + 1) - b))] 111 :: blk b5 [.int .u64 (0), .int .u64 ((2 * qq + 1))] 111 :: blk b4 [.int .u64 (0), .int .u64 (0)] 111 :: blk b3 [.int .u64 (0), .int .u64 (0)] 111 :: blk b2 [.int .u64 (0), .int .u64 (b)] 111 :: blk b1 [.int .u64 (0), .int .u64 (a)] 111 :: I) from Fit.sub)
      ·refine W.skip ?_
       refine V.block_normal ?_
       refine V.then ?_
       refine W.region ?_
       refine G.r (Runs.move rfl) ?_
       refine G.r (Runs.sub rfl rfl (by unfold InR; omega)) ?_
       refine G.r (Runs.assign rfl) ?_
       refine G.nil ?_
       exact V.next ((i - 1), (2 * qq), (2 * rr + 1)) (show (-1 ≤ (i - 1 : Int) ∧ (i - 1 : Int) ≤ 127) ∧ (0 ≤ (2 * rr + 1 : Int) ∧ (2 * rr + 1 : Int) < b) ∧ (0 ≤ (2 * qq : Int)) ∧ (a / 2 ^ ((i - 1 : Int) + 1).toNat = (2 * qq : Int) * b + (2 * rr + 1 : Int)) from ⟨(by omega), (by omega), (by omega), (by first | exact div_n0 h0.1 hd (by omega) (by omega) | exact div_n1 h0.1 hd (by omega) (by omega))⟩) (show ((i - 1 : Int) + 1).toNat < (i + 1).toNat from (by omega)) (Sub.cons rfl (Sub.cons rfl (Sub.cons rfl (Sub.cons rfl (Sub.cons rfl (Sub.cons rfl (Sub.cons lookO Sub.nil))))))) (show Fit κ _ (blk b6 [.int .u64 (0), .int .u64 ((2 * rr + 1))] 111 :: blk b5 [.int .u64 (0), .int .u64 ((2 * qq))] 111 :: blk b4 [.int .u64 (0), .int .u64 (0)] 111 :: blk b3 [.int .u64 (0), .int .u64 (0)] 111 :: blk b2 [.int .u64 (0), .int .u64 (b)] 111 :: blk b1 [.int .u64 (0), .int .u64 (a)] 111 :: I) from Fit.sub)
     ·refine W.skip ?_
      refine V.then ?_
      refine W.sr ?_
      refine G.r (Runs.lds (vs := [_, _]) ty111) ?_
      refine G.e (Eff.call call151 rfl rfl (WDouble_ok qq (by omega))) ?_
      rintro _ _ ⟨_, _, ⟨rfl, rfl⟩, rfl, rfl⟩
      refine G.e (Eff.st (cs := [_, _]) (vs := [_, _]) (cs' := [_, _]) ty111) ?_
      rintro _ _ ⟨rfl, rfl⟩
      refine G.nt ?_
      refine W.sr ?_
      refine G.r (Runs.lds (vs := [_, _]) ty111) ?_
      refine G.r (Runs.lds (vs := [_, _]) ty111) ?_
      refine G.e (Eff.call call86 rfl rfl (WLess_ok (2 * rr) b )) ?_
      rintro _ _ ⟨_, _, ⟨rfl, rfl⟩, rfl, rfl⟩
      refine G.r (Runs.notd rfl) ?_
      refine G.nt ?_
      refine W.sub (L' := [(49, _), (2, _), (3, _), (4, _), (5, _), (6, _), (7, _), (8, _)]) (Sub.cons rfl (Sub.cons rfl (Sub.cons rfl (Sub.cons rfl (Sub.cons rfl (Sub.cons rfl (Sub.cons rfl (Sub.cons rfl Sub.nil)))))))) ?_
      refine W.ite rfl (fun c49 => ?_) (fun c49 => ?_)
      ·refine W.sr ?_
       refine G.r (Runs.lds (vs := [_, _]) ty111) ?_
       refine G.r (Runs.lds (vs := [_, _]) ty111) ?_
       refine G.e (Eff.call call152 rfl rfl (WSub_ok (2 * rr) b (by omega))) ?_
       rintro _ _ ⟨_, _, ⟨rfl, rfl⟩, rfl, rfl⟩
       refine G.e (Eff.st (cs := [_, _]) (vs := [_, _]) (cs' := [_, _]) ty111) ?_
       rintro _ _ ⟨rfl, rfl⟩
       refine G.nt ?_
       refine W.region ?_
       refine G.r (Runs.fieldAddr fld111_1 rfl) ?_
       refine G.r (Runs.ld ty86) ?_
       refine G.r (Runs.or1U (m := qq) rfl rfl (by omega) (by omega)) ?_
       refine G.r (Runs.fieldAddr fld111_1 rfl) ?_
       refine G.e (Eff.st (cs := [_, _]) (vs := [_]) (cs' := [_, _]) ty86) ?_
       rintro _ _ ⟨rfl, rfl⟩
       refine G.nil ?_
       refine V.block_normal ?_
       refine V.then ?_
       refine W.sub (L' := [(2, _), (3, _), (4, _), (5, _), (6, _), (7, _), (8, _)]) (Sub.cons rfl (Sub.cons rfl (Sub.cons rfl (Sub.cons rfl (Sub.cons rfl (Sub.cons rfl (Sub.cons rfl Sub.nil))))))) ?_
       refine W.region ?_
       refine G.r (Runs.move rfl) ?_
       refine G.r (Runs.sub rfl rfl (by unfold InR; omega)) ?_
       refine G.r (Runs.assign rfl) ?_
       refine G.nil ?_
       exact V.next ((i - 1), (2 * qq + 1), ((2 * rr) - b)) (show (-1 ≤ (i - 1 : Int) ∧ (i - 1 : Int) ≤ 127) ∧ (0 ≤ ((2 * rr) - b : Int) ∧ ((2 * rr) - b : Int) < b) ∧ (0 ≤ (2 * qq + 1 : Int)) ∧ (a / 2 ^ ((i - 1 : Int) + 1).toNat = (2 * qq + 1 : Int) * b + ((2 * rr) - b : Int)) from ⟨(by omega), (by omega), (by omega), (by first | exact div_n0 h0.1 hd (by omega) (by omega) | exact div_n1 h0.1 hd (by omega) (by omega))⟩) (show ((i - 1 : Int) + 1).toNat < (i + 1).toNat from (by omega)) (Sub.cons rfl (Sub.cons rfl (Sub.cons rfl (Sub.cons rfl (Sub.cons rfl (Sub.cons rfl (Sub.cons lookO Sub.nil))))))) (show Fit κ _ (blk b6 [.int .u64 (0), .int .u64 (((2 * rr) - b))] 111 :: blk b5 [.int .u64 (0), .int .u64 ((2 * qq + 1))] 111 :: blk b4 [.int .u64 (0), .int .u64 (0)] 111 :: blk b3 [.int .u64 (0), .int .u64 (0)] 111 :: blk b2 [.int .u64 (0), .int .u64 (b)] 111 :: blk b1 [.int .u64 (0), .int .u64 (a)] 111 :: I) from Fit.sub)
      ·refine W.skip ?_
       refine V.block_normal ?_
       refine V.then ?_
       refine W.region ?_
       refine G.r (Runs.move rfl) ?_
       refine G.r (Runs.sub rfl rfl (by unfold InR; omega)) ?_
       refine G.r (Runs.assign rfl) ?_
       refine G.nil ?_
       exact V.next ((i - 1), (2 * qq), (2 * rr)) (show (-1 ≤ (i - 1 : Int) ∧ (i - 1 : Int) ≤ 127) ∧ (0 ≤ (2 * rr : Int) ∧ (2 * rr : Int) < b) ∧ (0 ≤ (2 * qq : Int)) ∧ (a / 2 ^ ((i - 1 : Int) + 1).toNat = (2 * qq : Int) * b + (2 * rr : Int)) from ⟨(by omega), (by omega), (by omega), (by first | exact div_n0 h0.1 hd (by omega) (by omega) | exact div_n1 h0.1 hd (by omega) (by omega))⟩) (show ((i - 1 : Int) + 1).toNat < (i + 1).toNat from (by omega)) (Sub.cons rfl (Sub.cons rfl (Sub.cons rfl (Sub.cons rfl (Sub.cons rfl (Sub.cons rfl (Sub.cons lookO Sub.nil))))))) (show Fit κ _ (blk b6 [.int .u64 (0), .int .u64 ((2 * rr))] 111 :: blk b5 [.int .u64 (0), .int .u64 ((2 * qq))] 111 :: blk b4 [.int .u64 (0), .int .u64 (0)] 111 :: blk b3 [.int .u64 (0), .int .u64 (0)] 111 :: blk b2 [.int .u64 (0), .int .u64 (b)] 111 :: blk b1 [.int .u64 (0), .int .u64 (a)] 111 :: I) from Fit.sub)
    ·refine G.po ?_
     refine G.po ?_
     refine G.po ?_
     refine G.po ?_
     refine G.po ?_
     refine G.po ?_
     refine G.po ?_
     refine G.ro (Runs.pickf rfl rfl) ?_
     refine G.r (Runs.pickf rfl rfl) ?_
     refine G.nt ?_
     refine W.sub (L' := [(39, _), (2, _), (3, _), (4, _), (5, _), (6, _), (7, _), (8, _)]) (Sub.cons rfl (Sub.cons rfl (Sub.cons rfl (Sub.cons rfl (Sub.cons rfl (Sub.cons rfl (Sub.cons rfl (Sub.cons rfl Sub.nil)))))))) ?_
     refine W.no rfl ?_
     refine W.skip ?_
     refine V.then ?_
     refine W.sr ?_
     refine G.r (Runs.lds (vs := [_, _]) ty111) ?_
     refine G.e (Eff.call call151 rfl rfl (WDouble_ok qq (by omega))) ?_
     rintro _ _ ⟨_, _, ⟨rfl, rfl⟩, rfl, rfl⟩
     refine G.e (Eff.st (cs := [_, _]) (vs := [_, _]) (cs' := [_, _]) ty111) ?_
     rintro _ _ ⟨rfl, rfl⟩
     refine G.nt ?_
     refine W.sr ?_
     refine G.r (Runs.lds (vs := [_, _]) ty111) ?_
     refine G.r (Runs.lds (vs := [_, _]) ty111) ?_
     refine G.e (Eff.call call86 rfl rfl (WLess_ok (2 * rr) b )) ?_
     rintro _ _ ⟨_, _, ⟨rfl, rfl⟩, rfl, rfl⟩
     refine G.r (Runs.notd rfl) ?_
     refine G.nt ?_
     refine W.sub (L' := [(49, _), (2, _), (3, _), (4, _), (5, _), (6, _), (7, _), (8, _)]) (Sub.cons rfl (Sub.cons rfl (Sub.cons rfl (Sub.cons rfl (Sub.cons rfl (Sub.cons rfl (Sub.cons rfl (Sub.cons rfl Sub.nil)))))))) ?_
     refine W.ite rfl (fun c49 => ?_) (fun c49 => ?_)
     ·refine W.sr ?_
      refine G.r (Runs.lds (vs := [_, _]) ty111) ?_
      refine G.r (Runs.lds (vs := [_, _]) ty111) ?_
      refine G.e (Eff.call call152 rfl rfl (WSub_ok (2 * rr) b (by omega))) ?_
      rintro _ _ ⟨_, _, ⟨rfl, rfl⟩, rfl, rfl⟩
      refine G.e (Eff.st (cs := [_, _]) (vs := [_, _]) (cs' := [_, _]) ty111) ?_
      rintro _ _ ⟨rfl, rfl⟩
      refine G.nt ?_
      refine W.region ?_
      refine G.r (Runs.fieldAddr fld111_1 rfl) ?_
      refine G.r (Runs.ld ty86) ?_
      refine G.r (Runs.or1U (m := qq) rfl rfl (by omega) (by omega)) ?_
      refine G.r (Runs.fieldAddr fld111_1 rfl) ?_
      refine G.e (Eff.st (cs := [_, _]) (vs := [_]) (cs' := [_, _]) ty86) ?_
      rintro _ _ ⟨rfl, rfl⟩
      refine G.nil ?_
      refine V.block_normal ?_
      refine V.then ?_
      refine W.sub (L' := [(2, _), (3, _), (4, _), (5, _), (6, _), (7, _), (8, _)]) (Sub.cons rfl (Sub.cons rfl (Sub.cons rfl (Sub.cons rfl (Sub.cons rfl (Sub.cons rfl (Sub.cons rfl Sub.nil))))))) ?_
      refine W.region ?_
      refine G.r (Runs.move rfl) ?_
      refine G.r (Runs.sub rfl rfl (by unfold InR; omega)) ?_
      refine G.r (Runs.assign rfl) ?_
      refine G.nil ?_
      exact V.next ((i - 1), (2 * qq + 1), ((2 * rr) - b)) (show (-1 ≤ (i - 1 : Int) ∧ (i - 1 : Int) ≤ 127) ∧ (0 ≤ ((2 * rr) - b : Int) ∧ ((2 * rr) - b : Int) < b) ∧ (0 ≤ (2 * qq + 1 : Int)) ∧ (a / 2 ^ ((i - 1 : Int) + 1).toNat = (2 * qq + 1 : Int) * b + ((2 * rr) - b : Int)) from ⟨(by omega), (by omega), (by omega), (by first | exact div_n0 h0.1 hd (by omega) (by omega) | exact div_n1 h0.1 hd (by omega) (by omega))⟩) (show ((i - 1 : Int) + 1).toNat < (i + 1).toNat from (by omega)) (Sub.cons rfl (Sub.cons rfl (Sub.cons rfl (Sub.cons rfl (Sub.cons rfl (Sub.cons rfl (Sub.cons lookO Sub.nil))))))) (show Fit κ _ (blk b6 [.int .u64 (0), .int .u64 (((2 * rr) - b))] 111 :: blk b5 [.int .u64 (0), .int .u64 ((2 * qq + 1))] 111 :: blk b4 [.int .u64 (0), .int .u64 (0)] 111 :: blk b3 [.int .u64 (0), .int .u64 (0)] 111 :: blk b2 [.int .u64 (0), .int .u64 (b)] 111 :: blk b1 [.int .u64 (0), .int .u64 (a)] 111 :: I) from Fit.sub)
     ·refine W.skip ?_
      refine V.block_normal ?_
      refine V.then ?_
      refine W.region ?_
      refine G.r (Runs.move rfl) ?_
      refine G.r (Runs.sub rfl rfl (by unfold InR; omega)) ?_
      refine G.r (Runs.assign rfl) ?_
      refine G.nil ?_
      exact V.next ((i - 1), (2 * qq), (2 * rr)) (show (-1 ≤ (i - 1 : Int) ∧ (i - 1 : Int) ≤ 127) ∧ (0 ≤ (2 * rr : Int) ∧ (2 * rr : Int) < b) ∧ (0 ≤ (2 * qq : Int)) ∧ (a / 2 ^ ((i - 1 : Int) + 1).toNat = (2 * qq : Int) * b + (2 * rr : Int)) from ⟨(by omega), (by omega), (by omega), (by first | exact div_n0 h0.1 hd (by omega) (by omega) | exact div_n1 h0.1 hd (by omega) (by omega))⟩) (show ((i - 1 : Int) + 1).toNat < (i + 1).toNat from (by omega)) (Sub.cons rfl (Sub.cons rfl (Sub.cons rfl (Sub.cons rfl (Sub.cons rfl (Sub.cons rfl (Sub.cons lookO Sub.nil))))))) (show Fit κ _ (blk b6 [.int .u64 (0), .int .u64 ((2 * rr))] 111 :: blk b5 [.int .u64 (0), .int .u64 ((2 * qq))] 111 :: blk b4 [.int .u64 (0), .int .u64 (0)] 111 :: blk b3 [.int .u64 (0), .int .u64 (0)] 111 :: blk b2 [.int .u64 (0), .int .u64 (b)] 111 :: blk b1 [.int .u64 (0), .int .u64 (a)] 111 :: I) from Fit.sub)
  ·refine G.po ?_
   refine G.po ?_
   refine G.po ?_
   refine G.po ?_
   refine G.po ?_
   refine G.po ?_
   refine G.po ?_
   refine G.po ?_
   refine G.r (Runs.pickf rfl rfl) ?_
   refine G.r (Runs.move rfl) ?_
   refine G.ro (Runs.move rfl) ?_
   refine G.ro (Runs.lss rfl rfl) ?_
   refine G.ro (Runs.move rfl) ?_
   refine G.split (d := 30) rfl (fun g30 => ?_) (fun g30 => ?_)
   ·refine G.ro (Runs.fieldAddr fld111_1 rfl) ?_
    refine G.ro (Runs.ld ty86) ?_
    refine G.ro (Runs.move rfl) ?_
    refine G.ro (Runs.convU Tryz.underlying3 Tryz.underlying109 rfl (by omega)) ?_
    refine G.ro (Runs.shrU (m := a) rfl rfl (by omega) (by omega)) ?_
    refine G.ro (Runs.bitU (a := a) (i := i) rfl rfl (by omega) (by omega)) ?_
    refine G.ro (Runs.eql rfl rfl) ?_
    refine G.ro (Runs.pickt rfl rfl) ?_
    refine G.r (Runs.pickf rfl rfl) ?_
    refine G.nt ?_
    refine W.sub (L' := [(39, _), (2, _), (3, _), (4, _), (5, _), (6, _), (7, _), (8, _)]) (Sub.cons rfl (Sub.cons rfl (Sub.cons rfl (Sub.cons rfl (Sub.cons rfl (Sub.cons rfl (Sub.cons rfl (Sub.cons rfl Sub.nil)))))))) ?_
    refine W.ite rfl (fun c39 => ?_) (fun c39 => ?_)
    ·refine W.region ?_
     refine G.r (Runs.fieldAddr fld111_1 rfl) ?_
     refine G.r (Runs.ld ty86) ?_
     refine G.r (Runs.or1U (m := rr) rfl rfl (by omega) (by omega)) ?_
     refine G.r (Runs.fieldAddr fld111_1 rfl) ?_
     refine G.e (Eff.st (cs := [_, _]) (vs := [_]) (cs' := [_, _]) ty86) ?_
     rintro _ _ ⟨rfl, rfl⟩
     refine G.nt ?_
     refine W.sr ?_
     refine G.r (Runs.lds (vs := [_, _]) ty111) ?_
     refine G.e (Eff.call call151 rfl rfl (WDouble_ok qq (by omega))) ?_
     rintro _ _ ⟨_, _, ⟨rfl, rfl⟩, rfl, rfl⟩
     refine G.e (Eff.st (cs := [_, _]) (vs := [_, _]) (cs' := [_, _]) ty111) ?_
     rintro _ _ ⟨rfl, rfl⟩
     refine G.nt ?_
     refine W.sub (L' := [(2, _), (3, _), (4, _), (5, _), (6, _), (7, _), (8, _)]) (Sub.cons rfl (Sub.cons rfl (Sub.cons rfl (Sub.cons rfl (Sub.cons rfl (Sub.cons rfl (Sub.cons rfl Sub.nil))))))) ?_
     refine W.sr ?_
     refine G.r (Runs.lds (vs := [_, _]) ty111) ?_
     refine G.r (Runs.lds (vs := [_, _]) ty111) ?_
     refine G.e (Eff.call call86 rfl rfl (WLess_ok (2 * rr + 1) b )) ?_
     rintro _ _ ⟨_, _, ⟨rfl, rfl⟩, rfl, rfl⟩
     refine G.r (Runs.notd rfl) ?_
     refine G.nt ?_
     refine W.ite rfl (fun c49 => ?_) (fun c49 => ?_)
     ·refine W.sr ?_
      refine G.r (Runs.lds (vs := [_, _]) ty111) ?_
      refine G.r (Runs.lds (vs := [_, _]) ty111) ?_
      refine G.e (Eff.call call152 rfl rfl (WSub_ok (2 * rr + 1) b (by omega))) ?_
      rintro _ _ ⟨_, _, ⟨rfl, rfl⟩, rfl, rfl⟩
      refine G.e (Eff.st (cs := [_, _]) (vs := [_, _]) (cs' := [_, _]) ty111) ?_
      rintro _ _ ⟨rfl, rfl⟩
      refine G.nt ?_
      refine W.sub (L' := [(2, _), (3, _), (4, _), (5, _), (6, _), (7, _), (8, _)]) (Sub.cons rfl (Sub.cons rfl (Sub.cons rfl (Sub.cons rfl (Sub.cons rfl (Sub.cons rfl (Sub.cons rfl Sub.nil))))))) ?_
      refine W.region ?_
      refine G.r (Runs.fieldAddr fld111_1 rfl) ?_
      refine G.r (Runs.ld ty86) ?_
      refine G.r (Runs.or1U (m := qq) rfl rfl (by omega) (by omega)) ?_
      refine G.r (Runs.fieldAddr fld111_1 rfl) ?_
      refine G.e (Eff.st (cs := [_, _]) (vs := [_]) (cs' := [_, _]) ty86) ?_
      rintro _ _ ⟨rfl, rfl⟩
      refine G.nil ?_
      refine V.block_normal ?_
      refine V.then ?_
      refine W.region ?_
      refine G.r (Runs.move rfl) ?_
      refine G.r (Runs.sub rfl rfl (by unfold InR; omega)) ?_
      refine G.r (Runs.assign rfl) ?_
      refine G.nil ?_
      exact V.next ((i - 1), (2 * qq + 1), ((2 * rr + 1) - b)) (show (-1 ≤ (i - 1 : Int) ∧ (i - 1 : Int) ≤ 127) ∧ (0 ≤ ((2 * rr + 1) - b : Int) ∧ ((2 * rr + 1) - b : Int) < b) ∧ (0 ≤ (2 * qq + 1 : Int)) ∧ (a / 2 ^ ((i - 1 : Int) + 1).toNat = (2 * qq + 1 : Int) * b + ((2 * rr + 1) - b : Int)) from ⟨(by omega), (by omega), (by omega), (by first | exact div_n0 h0.1 hd (by omega) (by omega) | exact div_n1 h0.1 hd (by omega) (by omega))⟩) (show ((i - 1 : Int) + 1).toNat < (i + 1).toNat from (by omega)) (Sub.cons rfl (Sub.cons rfl (Sub.cons rfl (Sub.cons rfl (Sub.cons rfl (Sub.cons rfl (Sub.cons lookO Sub.nil))))))) (show Fit κ _ (blk b6 [.int .u64 (0), .int .u64 (((2 * rr + 1) - b))] 111 :: blk b5 [.int .u64 (0), .int .u64 ((2 * qq + 1))] 111 :: blk b4 [.int .u64 (0), .int .u64 (0)] 111 :: blk b3 [.int .u64 (0), .int .u64 (0)] 111 :: blk b2 [.int .u64 (0), .int .u64 (b)] 111 :: blk b1 [.int .u64 (0), .int .u64 (a)] 111 :: I) from Fit.sub)
     ·refine W.skip ?_
      refine V.block_normal ?_
      refine V.then ?_
      refine W.region ?_
      refine G.r (Runs.move rfl) ?_
      refine G.r (Runs.sub rfl rfl (by unfold InR; omega)) ?_
      refine G.r (Runs.assign rfl) ?_
      refine G.nil ?_
      exact V.next ((i - 1), (2 * qq), (2 * rr + 1)) (show (-1 ≤ (i - 1 : Int) ∧ (i - 1 : Int) ≤ 127) ∧ (0 ≤ (2 * rr + 1 : Int) ∧ (2 * rr + 1 : Int) < b) ∧ (0 ≤ (2 * qq : Int)) ∧ (a / 2 ^ ((i - 1 : Int) + 1).toNat = (2 * qq : Int) * b + (2 * rr + 1 : Int)) from ⟨(by omega), (by omega), (by omega), (by first | exact div_n0 h0.1 hd (by omega) (by omega) | exact div_n1 h0.1 hd (by omega) (by omega))⟩) (show ((i - 1 : Int) + 1).toNat < (i + 1).toNat from (by omega)) (Sub.cons rfl (Sub.cons rfl (Sub.cons rfl (Sub.cons rfl (Sub.cons rfl (Sub.cons rfl (Sub.cons lookO Sub.nil))))))) (show Fit κ _ (blk b6 [.int .u64 (0), .int .u64 ((2 * rr + 1))] 111 :: blk b5 [.int .u64 (0), .int .u64 ((2 * qq))] 111 :: blk b4 [.int .u64 (0), .int .u64 (0)] 111 :: blk b3 [.int .u64 (0), .int .u64 (0)] 111 :: blk b2 [.int .u64 (0), .int .u64 (b)] 111 :: blk b1 [.int .u64 (0), .int .u64 (a)] 111 :: I) from Fit.sub)
    ·refine W.skip ?_
     refine V.then ?_
     refine W.sr ?_
     refine G.r (Runs.lds (vs := [_, _]) ty111) ?_
     refine G.e (Eff.call call151 rfl rfl (WDouble_ok qq (by omega))) ?_
     rintro _ _ ⟨_, _, ⟨rfl, rfl⟩, rfl, rfl⟩
     refine G.e (Eff.st (cs := [_, _]) (vs := [_, _]) (cs' := [_, _]) ty111) ?_
     rintro _ _ ⟨rfl, rfl⟩
     refine G.nt ?_
     refine W.sr ?_
     refine G.r (Runs.lds (vs := [_, _]) ty111) ?_
     refine G.r (Runs.lds (vs := [_, _]) ty111) ?_
     refine G.e (Eff.call call86 rfl rfl (WLess_ok (2 * rr) b )) ?_
     rintro _ _ ⟨_, _, ⟨rfl, rfl⟩, rfl, rfl⟩
     refine G.r (Runs.notd rfl) ?_
     refine G.nt ?_
     refine W.sub (L' := [(49, _), (2, _), (3, _), (4, _), (5, _), (6, _), (7, _), (8, _)]) (Sub.cons rfl (Sub.cons rfl (Sub.cons rfl (Sub.cons rfl (Sub.cons rfl (Sub.cons rfl (Sub.cons rfl (Sub.cons rfl Sub.nil)))))))) ?_
     refine W.ite rfl (fun c49 => ?_) (fun c49 => ?_)
     ·refine W.sr ?_
      refine G.r (Runs.lds (vs := [_, _]) ty111) ?_
      refine G.r (Runs.lds (vs := [_, _]) ty111) ?_
      refine G.e (Eff.call call152 rfl rfl (WSub_ok (2 * rr) b (by omega))) ?_
      rintro _ _ ⟨_, _, ⟨rfl, rfl⟩, rfl, rfl⟩
      refine G.e (Eff.st (cs := [_, _]) (vs := [_, _]) (cs' := [_, _]) ty111) ?_
      rintro _ _ ⟨rfl, rfl⟩
      refine G.nt ?_
      refine W.region ?_
      refine G.r (Runs.fieldAddr fld111_1 rfl) ?_
      refine G.r (Runs.ld ty86) ?_
      refine G.r (Runs.or1U (m := qq) rfl rfl (by omega) (by omega)) ?_
      refine G.r (Runs.fieldAddr fld111_1 rfl) ?_
      refine G.e (Eff.st (cs := [_, _]) (vs := [_]) (cs' := [_, _]) ty86) ?_
      rintro _ _ ⟨rfl, rfl⟩
      refine G.nil ?_
      refine V.block_normal ?_
      refine V.then ?_
      refine W.sub (L' := [(2, _), (3, _), (4, _), (5, _), (6, _), (7, _), (8, _)]) (Sub.cons rfl (Sub.cons rfl (Sub.cons rfl (Sub.cons rfl (Sub.cons rfl (Sub.cons rfl (Sub.cons rfl Sub.nil))))))) ?_
      refine W.region ?_
      refine G.r (Runs.move rfl) ?_
      refine G.r (Runs.sub rfl rfl (by unfold InR; omega)) ?_
      refine G.r (Runs.assign rfl) ?_
      refine G.nil ?_
      exact V.next ((i - 1), (2 * qq + 1), ((2 * rr) - b)) (show (-1 ≤ (i - 1 : Int) ∧ (i - 1 : Int) ≤ 127) ∧ (0 ≤ ((2 * rr) - b : Int) ∧ ((2 * rr) - b : Int) < b) ∧ (0 ≤ (2 * qq + 1 : Int)) ∧ (a / 2 ^ ((i - 1 : Int) + 1).toNat = (2 * qq + 1 : Int) * b + ((2 * rr) - b : Int)) from ⟨(by omega), (by omega), (by omega), (by first | exact div_n0 h0.1 hd (by omega) (by omega) | exact div_n1 h0.1 hd (by omega) (by omega))⟩) (show ((i - 1 : Int) + 1).toNat < (i + 1).toNat from (by omega)) (Sub.cons rfl (Sub.cons rfl (Sub.cons rfl (Sub.cons rfl (Sub.cons rfl (Sub.cons rfl (Sub.cons lookO Sub.nil))))))) (show Fit κ _ (blk b6 [.int .u64 (0), .int .u64 (((2 * rr) - b))] 111 :: blk b5 [.int .u64 (0), .int .u64 ((2 * qq + 1))] 111 :: blk b4 [.int .u64 (0), .int .u64 (0)] 111 :: blk b3 [.int .u64 (0), .int .u64 (0)] 111 :: blk b2 [.int .u64 (0), .int .u64 (b)] 111 :: blk b1 [.int .u64 (0), .int .u64 (a)] 111 :: I) from Fit.sub)
     ·refine W.skip ?_
      refine V.block_normal ?_
      refine V.then ?_
      refine W.region ?_
      refine G.r (Runs.move rfl) ?_
      refine G.r (Runs.sub rfl rfl (by unfold InR; omega)) ?_
      refine G.r (Runs.assign rfl) ?_
      refine G.nil ?_
      exact V.next ((i - 1), (2 * qq), (2 * rr)) (show (-1 ≤ (i - 1 : Int) ∧ (i - 1 : Int) ≤ 127) ∧ (0 ≤ (2 * rr : Int) ∧ (2 * rr : Int) < b) ∧ (0 ≤ (2 * qq : Int)) ∧ (a / 2 ^ ((i - 1 : Int) + 1).toNat = (2 * qq : Int) * b + (2 * rr : Int)) from ⟨(by omega), (by omega), (by omega), (by first | exact div_n0 h0.1 hd (by omega) (by omega) | exact div_n1 h0.1 hd (by omega) (by omega))⟩) (show ((i - 1 : Int) + 1).toNat < (i + 1).toNat from (by omega)) (Sub.cons rfl (Sub.cons rfl (Sub.cons rfl (Sub.cons rfl (Sub.cons rfl (Sub.cons rfl (Sub.cons lookO Sub.nil))))))) (show Fit κ _ (blk b6 [.int .u64 (0), .int .u64 ((2 * rr))] 111 :: blk b5 [.int .u64 (0), .int .u64 ((2 * qq))] 111 :: blk b4 [.int .u64 (0), .int .u64 (0)] 111 :: blk b3 [.int .u64 (0), .int .u64 (0)] 111 :: blk b2 [.int .u64 (0), .int .u64 (b)] 111 :: blk b1 [.int .u64 (0), .int .u64 (a)] 111 :: I) from Fit.sub)
   ·refine G.po ?_
    refine G.po ?_
    refine G.po ?_
    refine G.po ?_
    refine G.po ?_
    refine G.po ?_
    refine G.po ?_
    refine G.ro (Runs.pickf rfl rfl) ?_
    refine G.r (Runs.pickf rfl rfl) ?_
    refine G.nt ?_
    refine W.sub (L' := [(39, _), (2, _), (3, _), (4, _), (5, _), (6, _), (7, _), (8, _)]) (Sub.cons rfl (Sub.cons rfl (Sub.cons rfl (Sub.cons rfl (Sub.cons rfl (Sub.cons rfl (Sub.cons rfl (Sub.cons rfl Sub.nil)))))))) ?_
    refine W.no rfl ?_
    refine W.skip ?_
    refine V.then ?_
    refine W.sr ?_
    refine G.r (Runs.lds (vs := [_, _]) ty111) ?_
    refine G.e (Eff.call call151 rfl rfl (WDouble_ok qq (by omega))) ?_
    rintro _ _ ⟨_, _, ⟨rfl, rfl⟩, rfl, rfl⟩
    refine G.e (Eff.st (cs := [_, _]) (vs := [_, _]) (cs' := [_, _]) ty111) ?_
    rintro _ _ ⟨rfl, rfl⟩
    refine G.nt ?_
    refine W.sr ?_
    refine G.r (Runs.lds (vs := [_, _]) ty111) ?_
    refine G.r (Runs.lds (vs := [_, _]) ty111) ?_
    refine G.e (Eff.call call86 rfl rfl (WLess_ok (2 * rr) b )) ?_
    rintro _ _ ⟨_, _, ⟨rfl, rfl⟩, rfl, rfl⟩
    refine G.r (Runs.notd rfl) ?_
    refine G.nt ?_
    refine W.sub (L' := [(49, _), (2, _), (3, _), (4, _), (5, _), (6, _), (7, _), (8, _)]) (Sub.cons rfl (Sub.cons rfl (Sub.cons rfl (Sub.cons rfl (Sub.cons rfl (Sub.cons rfl (Sub.cons rfl (Sub.cons rfl Sub.nil)))))))) ?_
    refine W.ite rfl (fun c49 => ?_) (fun c49 => ?_)
    ·refine W.sr ?_
     refine G.r (Runs.lds (vs := [_, _]) ty111) ?_
     refine G.r (Runs.lds (vs := [_, _]) ty111) ?_
     refine G.e (Eff.call call152 rfl rfl (WSub_ok (2 * rr) b (by omega))) ?_
     rintro _ _ ⟨_, _, ⟨rfl, rfl⟩, rfl, rfl⟩
     refine G.e (Eff.st (cs := [_, _]) (vs := [_, _]) (cs' := [_, _]) ty111) ?_
     rintro _ _ ⟨rfl, rfl⟩
     refine G.nt ?_
     refine W.region ?_
     refine G.r (Runs.fieldAddr fld111_1 rfl) ?_
     refine G.r (Runs.ld ty86) ?_
     refine G.r (Runs.or1U (m := qq) rfl rfl (by omega) (by omega)) ?_
     refine G.r (Runs.fieldAddr fld111_1 rfl) ?_
     refine G.e (Eff.st (cs := [_, _]) (vs := [_]) (cs' := [_, _]) ty86) ?_
     rintro _ _ ⟨rfl, rfl⟩
     refine G.nil ?_
     refine V.block_normal ?_
     refine V.then ?_
     refine W.sub (L' := [(2, _), (3, _), (4, _), (5, _), (6, _), (7, _), (8, _)]) (Sub.cons rfl (Sub.cons rfl (Sub.cons rfl (Sub.cons rfl (Sub.cons rfl (Sub.cons rfl (Sub.cons rfl Sub.nil))))))) ?_
     refine W.region ?_
     refine G.r (Runs.move rfl) ?_
     refine G.r (Runs.sub rfl rfl (by unfold InR; omega)) ?_
     refine G.r (Runs.assign rfl) ?_
     refine G.nil ?_
     exact V.next ((i - 1), (2 * qq + 1), ((2 * rr) - b)) (show (-1 ≤ (i - 1 : Int) ∧ (i - 1 : Int) ≤ 127) ∧ (0 ≤ ((2 * rr) - b : Int) ∧ ((2 * rr) - b : Int) < b) ∧ (0 ≤ (2 * qq + 1 : Int)) ∧ (a / 2 ^ ((i - 1 : Int) + 1).toNat = (2 * qq + 1 : Int) * b + ((2 * rr) - b : Int)) from ⟨(by omega), (by omega), (by omega), (by first | exact div_n0 h0.1 hd (by omega) (by omega) | exact div_n1 h0.1 hd (by omega) (by omega))⟩) (show ((i - 1 : Int) + 1).toNat < (i + 1).toNat from (by omega)) (Sub.cons rfl (Sub.cons rfl (Sub.cons rfl (Sub.cons rfl (Sub.cons rfl (Sub.cons rfl (Sub.cons lookO Sub.nil))))))) (show Fit κ _ (blk b6 [.int .u64 (0), .int .u64 (((2 * rr) - b))] 111 :: blk b5 [.int .u64 (0), .int .u64 ((2 * qq + 1))] 111 :: blk b4 [.int .u64 (0), .int .u64 (0)] 111 :: blk b3 [.int .u64 (0), .int .u64 (0)] 111 :: blk b2 [.int .u64 (0), .int .u64 (b)] 111 :: blk b1 [.int .u64 (0), .int .u64 (a)] 111 :: I) from Fit.sub)
    ·refine W.skip ?_
     refine V.block_normal ?_
     refine V.then ?_
     refine W.region ?_
     refine G.r (Runs.move rfl) ?_
     refine G.r (Runs.sub rfl rfl (by unfold InR; omega)) ?_
     refine G.r (Runs.assign rfl) ?_
     refine G.nil ?_
     exact V.next ((i - 1), (2 * qq), (2 * rr)) (show (-1 ≤ (i - 1 : Int) ∧ (i - 1 : Int) ≤ 127) ∧ (0 ≤ (2 * rr : Int) ∧ (2 * rr : Int) < b) ∧ (0 ≤ (2 * qq : Int)) ∧ (a / 2 ^ ((i - 1 : Int) + 1).toNat = (2 * qq : Int) * b + (2 * rr : Int)) from ⟨(by omega), (by omega), (by omega), (by first | exact div_n0 h0.1 hd (by omega) (by omega) | exact div_n1 h0.1 hd (by omega) (by omega))⟩) (show ((i - 1 : Int) + 1).toNat < (i + 1).toNat from (by omega)) (Sub.cons rfl (Sub.cons rfl (Sub.cons rfl (Sub.cons rfl (Sub.cons rfl (Sub.cons rfl (Sub.cons lookO Sub.nil))))))) (show Fit κ _ (blk b6 [.int .u64 (0), .int .u64 ((2 * rr))] 111 :: blk b5 [.int .u64 (0), .int .u64 ((2 * qq))] 111 :: blk b4 [.int .u64 (0), .int .u64 (0)] 111 :: blk b3 [.int .u64 (0), .int .u64 (0)] 111 :: blk b2 [.int .u64 (0), .int .u64 (b)] 111 :: blk b1 [.int .u64 (0), .int .u64 (a)] 111 :: I) from Fit.sub)
 ·refine W.exit ?_
  refine V.then_exit ?_
  refine V.then_exit ?_
  refine V.block_hit ?_
  refine V.then ?_
  refine W.seq ?_
  refine W.drawn mixed ?_
  refine A.hold (blk b6 [.int .u64 (0), .int .u64 (rr)] 111 :: blk b5 [.int .u64 (0), .int .u64 (qq)] 111 :: blk b2 [.int .u64 (0), .int .u64 (b)] 111 :: blk b1 [.int .u64 (0), .int .u64 (a)] 111 :: I) 2 ?_
  refine D.r 0 rfl (Runs.lds (vs := [_, _]) ty111) ?_ (hJ := Fit.sub)
  refine D.step (rs := [1, 2]) (by kernel_rfl) rfl rfl (all2 ?_ (all1 ?_))
  ·refine Step.read rfl (Wanted.plain rfl) rfl rfl (Runs.lds (vs := [_, _]) ty111) Fit.sub ?_
   refine D.stop (by kernel_rfl) ?_
   refine A.eff (i := 2) (by kernel_rfl) rfl (Wanted.plain rfl) (Eff.st (cs := [_, _]) (vs := [_, _]) (cs' := [_, _]) ty111) ?_
   rintro _ _ ⟨rfl, rfl⟩
   refine A.eff (i := 3) (by kernel_rfl) rfl (Wanted.plain rfl) (Eff.st (cs := [_, _]) (vs := [_, _]) (cs' := [_, _]) ty111) ?_
   rintro _ _ ⟨rfl, rfl⟩
   refine A.done (by kernel_rfl) ?_
   refine V.then ?_
   refine W.ret ?_
   obtain ⟨hE1, hE2⟩ := div_end hd (by omega) hr.1 hr.2
   subst hE1 hE2
   exact V.retcc rfl ty111 ty111 rfl rfl (by repeat (first | exact List.mem_cons_self | apply List.mem_cons_of_mem)) (by repeat (first | exact List.mem_cons_self | apply List.mem_cons_of_mem)) rfl rfl (I) Fit.m ⟨rfl, rfl⟩
  ·refine Step.eff rfl (Wanted.plain rfl) (Eff.st (cs := [_, _]) (vs := [_, _]) (cs' := [_, _]) ty111) ?_
   rintro _ _ ⟨rfl, rfl⟩
   refine ⟨Fit.sub, ?_⟩
   refine D.step (rs := [1]) (by kernel_rfl) rfl rfl (all1 ?_)
   refine Step.read rfl (Wanted.plain rfl) rfl rfl (Runs.lds (vs := [_, _]) ty111) Fit.sub ?_
   refine D.step (rs := [3]) (by kernel_rfl) rfl rfl (all1 ?_)
   refine Step.eff rfl (Wanted.plain rfl) (Eff.st (cs := [_, _]) (vs := [_, _]) (cs' := [_, _]) ty111) ?_
   rintro _ _ ⟨rfl, rfl⟩
   refine ⟨Fit.sub, ?_⟩
   refine D.done (by kernel_rfl) ?_
   refine V.then ?_
   refine W.ret ?_
   obtain ⟨hE1, hE2⟩ := div_end hd (by omega) hr.1 hr.2
   subst hE1 hE2
   exact V.retcc rfl ty111 ty111 rfl rfl (by repeat (first | exact List.mem_cons_self | apply List.mem_cons_of_mem)) (by repeat (first | exact List.mem_cons_self | apply List.mem_cons_of_mem)) rfl rfl (I) Fit.m ⟨rfl, rfl⟩

theorem WGcd_ok {κ : Ctx} {I : List Item} (a b : Int) (h0 : 0 ≤ a ∧ a ≤ 1152921504606846976) (h1 : 0 ≤ b ∧ b ≤ 1152921504606846976) :
    CallS Tryz.prog κ 83 [.agg #[.int .u64 (0), .int .u64 (a)], .agg #[.int .u64 (0), .int .u64 (b)]] I (fun r J => r = .agg #[.int .u64 0, .int .u64 (gcdI a b)] ∧ I = J) := by
 refine CallS.enter (L := [(0, .agg #[.int .u64 (0), .int .u64 (a)]), (1, .agg #[.int .u64 (0), .int .u64 (b)])]) Tryz.func83 rfl rfl rfl rfl ?_
 refine W.sr ?_
 refine G.e (Eff.box (cs := [_, _]) rfl rfl rfl) ?_
 rintro _ _ ⟨b1, rfl, rfl⟩
 refine G.e (Eff.box (cs := [_, _]) rfl rfl rfl) ?_
 rintro _ _ ⟨b2, rfl, rfl⟩
 refine G.e (Eff.alloc ty111 rfl) ?_
 rintro _ _ ⟨b3, rfl, rfl⟩
 refine G.nt ?_
 refine W.seq ?_
 refine W.block ?_
 refine W.loop (σ := Int × Int) (fun s => ([(2, .pointer (some ⟨b1, 0, none⟩)), (3, .pointer (some ⟨b2, 0, none⟩)), (4, .pointer (some ⟨b3, 0, none⟩))] : Env)) (fun s => blk b3 [.int .u64 (0), .int .u64 (0)] 111 :: blk b2 [.int .u64 (0), .int .u64 (s.2)] 111 :: blk b1 [.int .u64 (0), .int .u64 (s.1)] 111 :: I) (fun s => (0 ≤ s.1 ∧ s.1 ≤ 1152921504606846976) ∧ (0 ≤ s.2 ∧ s.2 ≤ 1152921504606846976) ∧ (gcdI s.1 s.2 = gcdI a b)) (fun s => s.2.toNat) (a, b) (show (0 ≤ (a : Int) ∧ (a : Int) ≤ 1152921504606846976) ∧ (0 ≤ (b : Int) ∧ (b : Int) ≤ 1152921504606846976) ∧ (gcdI (a : Int) (b : Int) = gcdI a b) from ⟨(by omega), (by omega), rfl⟩) (Sub.cons rfl (Sub.cons rfl (Sub.cons rfl Sub.nil))) (show Fit κ _ (blk b3 [.int .u64 (0), .int .u64 (0)] 111 :: blk b2 [.int .u64 (0), .int .u64 ((b))] 111 :: blk b1 [.int .u64 (0), .int .u64 ((a))] 111 :: I) from Fit.sub) ?_
 rintro ⟨x, y⟩ hp
 obtain ⟨hx, hy, hg⟩ : (0 ≤ x ∧ x ≤ 1152921504606846976) ∧ (0 ≤ y ∧ y ≤ 1152921504606846976) ∧ (gcdI x y = gcdI a b) := hp
 show W Tryz.prog κ 19 _ _ ([(2, .pointer (some ⟨b1, 0, none⟩)), (3, .pointer (some ⟨b2, 0, none⟩)), (4, .pointer (some ⟨b3, 0, none⟩))] : Env) (blk b3 [.int .u64 (0), .int .u64 (0)] 111 :: blk b2 [.int .u64 (0), .int .u64 (y)] 111 :: blk b1 [.int .u64 (0), .int .u64 (x)] 111 :: I)
 refine W.seq ?_
 refine W.sr ?_
 refine G.r (Runs.lds (vs := [_, _]) ty111) ?_
 refine G.r (Runs.build (cells := [_, _]) ty111 Tryz.underlying111 pl111 rfl rfl) ?_
 refine G.r (Runs.neqT (α := Wd) (a := (⟨0, y⟩ : Wd)) (b := (⟨0, 0⟩ : Wd)) eqt111 rfl rfl) ?_
 refine G.nt ?_
 refine W.ite rfl (fun c9 => ?_) (fun c9 => ?_)
 ·refine W.skip ?_
  refine V.then ?_
  refine W.block ?_
  refine W.sr ?_
  refine G.r (Runs.lds (vs := [_, _]) ty111) ?_
  refine G.r (Runs.lds (vs := [_, _]) ty111) ?_
  refine G.e (Eff.call call125 rfl rfl (WDivide_ok x y (by omega) (by have := mt wd_zero.2 c9; omega))) ?_
  rintro _ _ ⟨_, _, ⟨rfl, rfl⟩, rfl, rfl⟩
  refine G.r (Runs.move rfl) ?_
  refine G.r (Runs.extract rfl rfl) ?_
  refine G.r (Runs.extract rfl rfl) ?_
  refine G.e (Eff.alloc ty111 rfl) ?_
  rintro _ _ ⟨b4, rfl, rfl⟩
  refine G.e (Eff.alloc ty111 rfl) ?_
  rintro _ _ ⟨b5, rfl, rfl⟩
  refine G.e (Eff.st (cs := [_, _]) (vs := [_, _]) (cs' := [_, _]) ty111) ?_
  rintro _ _ ⟨rfl, rfl⟩
  refine G.e (Eff.st (cs := [_, _]) (vs := [_, _]) (cs' := [_, _]) ty111) ?_
  rintro _ _ ⟨rfl, rfl⟩
  refine G.nt ?_
  refine W.sub (L' := [(6, _), (2, _), (3, _), (4, _)]) (Sub.cons rfl (Sub.cons rfl (Sub.cons rfl (Sub.cons rfl Sub.nil)))) ?_
  refine W.drawn mixed ?_
  refine A.hold (blk b5 [.int .u64 (0), .int .u64 (x % y)] 111 :: blk b4 [.int .u64 (0), .int .u64 (x / y)] 111 :: blk b3 [.int .u64 (0), .int .u64 (0)] 111 :: I) 4 ?_
  refine D.r 1 rfl (Runs.lds (vs := [_, _]) ty111) ?_ (hJ := Fit.sub)
  refine D.step (rs := [0]) (by kernel_rfl) rfl rfl (all1 ?_)
  refine Step.read rfl (Wanted.plain rfl) rfl rfl (Runs.lds (vs := [_, _]) ty111) Fit.sub ?_
  refine D.step (rs := [2]) (by kernel_rfl) rfl rfl (all1 ?_)
  refine Step.eff rfl (Wanted.plain rfl) (Eff.st (cs := [_, _]) (vs := [_, _]) (cs' := [_, _]) ty111) ?_
  rintro _ _ ⟨rfl, rfl⟩
  refine ⟨Fit.sub, ?_⟩
  refine D.step (rs := [3]) (by kernel_rfl) rfl rfl (all1 ?_)
  refine Step.eff rfl (Wanted.plain rfl) (Eff.st (cs := [_, _]) (vs := [_, _]) (cs' := [_, _]) ty111) ?_
  rintro _ _ ⟨rfl, rfl⟩
  refine ⟨Fit.sub, ?_⟩
  refine D.done (by kernel_rfl) ?_
  refine V.block_normal ?_
  have hyp : 0 < y := by have := mt wd_zero.2 c9; omega
  have hm0 := Int.emod_nonneg x (b := y) (by omega)
  have hm1 := Int.emod_lt_of_pos x (b := y) hyp
  exact V.next ((y), (x % y)) (show (0 ≤ (y : Int) ∧ (y : Int) ≤ 1152921504606846976) ∧ (0 ≤ (x % y : Int) ∧ (x % y : Int) ≤ 1152921504606846976) ∧ (gcdI (y : Int) (x % y : Int) = gcdI a b) from ⟨(by omega), (by omega), ((gcdI_mod hx.1 hyp).trans hg)⟩) (show (x % y : Int).toNat < y.toNat from (by omega)) (Sub.cons rfl (Sub.cons rfl (Sub.cons rfl Sub.nil))) (show Fit κ _ (blk b3 [.int .u64 (0), .int .u64 (0)] 111 :: blk b2 [.int .u64 (0), .int .u64 ((x % y))] 111 :: blk b1 [.int .u64 (0), .int .u64 ((y))] 111 :: I) from Fit.sub)
 ·refine W.exit ?_
  refine V.then_exit ?_
  refine V.then_exit ?_
  refine V.block_hit ?_
  refine V.then ?_
  refine W.sr ?_
  refine G.r (Runs.lds (vs := [_, _]) ty111) ?_
  refine G.e (Eff.st (cs := [_, _]) (vs := [_, _]) (cs' := [_, _]) ty111) ?_
  rintro _ _ ⟨rfl, rfl⟩
  refine G.nt ?_
  refine W.ret ?_
  have hy0 : y = 0 := wd_zero.1 (Classical.not_not.1 c9)
  subst hy0
  have hE : x = gcdI a b := by rw [← hg, gcdI_zero hx.1]
  subst hE
  exact V.retc rfl ty111 rfl (by repeat (first | exact List.mem_cons_self | apply List.mem_cons_of_mem)) rfl (I) Fit.m ⟨rfl, rfl⟩

set_option maxHeartbeats 1000000 in
theorem WReduce_ok {κ : Ctx} {I : List Item} (a b : Int) (h0 : 0 ≤ a ∧ a ≤ 1152921504606846976) (h1 : 0 < b ∧ b ≤ 1152921504606846976) :
    CallS Tryz.prog κ 126 [.bool false, .agg #[.int .u64 (0), .int .u64 (a)], .agg #[.int .u64 (0), .int .u64 (b)]] I (fun r J => r = .tuple #[.agg #[I64 (mkF a b).num, I64 (mkF a b).den], I64 0] ∧ I = J) := by
 refine CallS.enter (L := [(0, .bool false), (1, .agg #[.int .u64 (0), .int .u64 (a)]), (2, .agg #[.int .u64 (0), .int .u64 (b)])]) Tryz.func126 rfl rfl rfl rfl ?_
 refine W.sr ?_
 refine G.e (Eff.box (cs := [_, _]) rfl rfl rfl) ?_
 rintro _ _ ⟨b1, rfl, rfl⟩
 refine G.e (Eff.box (cs := [_, _]) rfl rfl rfl) ?_
 rintro _ _ ⟨b2, rfl, rfl⟩
 refine G.e (Eff.alloc ty45 rfl) ?_
 rintro _ _ ⟨b3, rfl, rfl⟩
 refine G.r (Runs.assign rfl) ?_
 refine G.nt ?_
 refine W.seq ?_
 refine W.sr ?_
 refine G.r (Runs.lds (vs := [_, _]) ty111) ?_
 refine G.r (Runs.build (cells := [_, _]) ty111 Tryz.underlying111 pl111 rfl rfl) ?_
 refine G.r (Runs.eqlT (α := Wd) (a := (⟨0, a⟩ : Wd)) (b := (⟨0, 0⟩ : Wd)) eqt111 rfl rfl) ?_
 refine G.nt ?_
 refine W.ite rfl (fun c16 => ?_) (fun c16 => ?_)
 ·refine W.sr ?_
  refine G.r (Runs.build (cells := [_, _]) ty45 Tryz.underlying45 pl45 rfl rfl) ?_
  refine G.e (Eff.st (cs := [_, _]) (vs := [_, _]) (cs' := [_, _]) ty45) ?_
  rintro _ _ ⟨rfl, rfl⟩
  refine G.r (Runs.assign rfl) ?_
  refine G.nt ?_
  refine W.ret ?_
  refine V.then_ret ?_
  have ha0 : a = 0 := wd_zero.1 c16
  subst ha0
  exact V.retc1 rfl ty45 rfl rfl (by repeat (first | exact List.mem_cons_self | apply List.mem_cons_of_mem)) rfl (I) Fit.m ⟨by rw [mkF_zero h1.1]; rfl, rfl⟩
 ·refine W.skip ?_
  refine V.then ?_
  refine W.sr ?_
  refine G.r (Runs.lds (vs := [_, _]) ty111) ?_
  refine G.r (Runs.lds (vs := [_, _]) ty111) ?_
  refine G.e (Eff.call call83 rfl rfl (WGcd_ok a b (by omega) (by omega))) ?_
  rintro _ _ ⟨_, _, ⟨rfl, rfl⟩, rfl, rfl⟩
  refine G.e (Eff.alloc ty111 rfl) ?_
  rintro _ _ ⟨b4, rfl, rfl⟩
  refine G.e (Eff.st (cs := [_, _]) (vs := [_, _]) (cs' := [_, _]) ty111) ?_
  rintro _ _ ⟨rfl, rfl⟩
  have hgp := gcdI_pos (a := a) h1.1
  have hgl := gcdI_le (a := a) h1.1
  have hqn := mkF_num h0.1 h1.1
  have hqd := mkF_den (a := a) h1.1
  unfold mkF at hqn hqd
  dsimp only at hqn hqd
  refine G.nt ?_
  refine W.sub (L' := [(8, _), (6, _), (5, _), (4, _), (0, _)]) (Sub.cons rfl (Sub.cons rfl (Sub.cons rfl (Sub.cons rfl (Sub.cons rfl Sub.nil))))) ?_
  refine W.sr ?_
  refine G.r (Runs.lds (vs := [_, _]) ty111) ?_
  refine G.r (Runs.lds (vs := [_, _]) ty111) ?_
  refine G.e (Eff.call call125 rfl rfl (WDivide_ok a (gcdI a b) (by omega) (by omega))) ?_
  rintro _ _ ⟨_, _, ⟨rfl, rfl⟩, rfl, rfl⟩
  refine G.r (Runs.move rfl) ?_
  refine G.r (Runs.extract rfl rfl) ?_
  refine G.r (Runs.extract rfl rfl) ?_
  refine G.e (Eff.alloc ty111 rfl) ?_
  rintro _ _ ⟨b5, rfl, rfl⟩
  refine G.e (Eff.alloc ty111 rfl) ?_
  rintro _ _ ⟨b6, rfl, rfl⟩
  refine G.e (Eff.st (cs := [_, _]) (vs := [_, _]) (cs' := [_, _]) ty111) ?_
  rintro _ _ ⟨rfl, rfl⟩
  refine G.e (Eff.st (cs := [_, _]) (vs := [_, _]) (cs' := [_, _]) ty111) ?_
  rintro _ _ ⟨rfl, rfl⟩
  refine G.nt ?_
  refine W.sr ?_
  refine G.r (Runs.lds (vs := [_, _]) ty111) ?_
  refine G.r (Runs.lds (vs := [_, _]) ty111) ?_
  refine G.e (Eff.call call125 rfl rfl (WDivide_ok b (gcdI a b) (by omega) (by omega))) ?_
  rintro _ _ ⟨_, _, ⟨rfl, rfl⟩, rfl, rfl⟩
  refine G.r (Runs.move rfl) ?_
  refine G.r (Runs.extract rfl rfl) ?_
  refine G.r (Runs.extract rfl rfl) ?_
  refine G.e (Eff.alloc ty111 rfl) ?_
  rintro _ _ ⟨b7, rfl, rfl⟩
  refine G.e (Eff.alloc ty111 rfl) ?_
  rintro _ _ ⟨b8, rfl, rfl⟩
  refine G.e (Eff.st (cs := [_, _]) (vs := [_, _]) (cs' := [_, _]) ty111) ?_
  rintro _ _ ⟨rfl, rfl⟩
  refine G.e (Eff.st (cs := [_, _]) (vs := [_, _]) (cs' := [_, _]) ty111) ?_
  rintro _ _ ⟨rfl, rfl⟩
  refine G.nt ?_
  refine W.sub (L' := [(11, _), (9, _), (6, _), (0, _)]) (Sub.cons rfl (Sub.cons rfl (Sub.cons rfl (Sub.cons rfl Sub.nil)))) ?_
  refine W.seq ?_
  refine W.sr ?_
  refine G.r (Runs.fieldAddr fld111_0 rfl) ?_
  refine G.r (Runs.ld ty86) ?_
  refine G.r (Runs.gtr rfl rfl) ?_
  refine G.r (Runs.move rfl) ?_
  refine G.split (d := 36) rfl (fun g36 => ?_) (fun g36 => ?_)
  ·exact absurd g36 (by omega)
  ·refine G.ro (Runs.fieldAddr fld111_0 rfl) ?_
   refine G.ro (Runs.ld ty86) ?_
   refine G.ro (Runs.gtr rfl rfl) ?_
   refine G.r (Runs.pickf rfl rfl) ?_
   refine G.r (Runs.move rfl) ?_
   refine G.split (d := 41) rfl (fun g41 => ?_) (fun g41 => ?_)
   ·exact absurd g41 (by omega)
   ·refine G.ro (Runs.fieldAddr fld111_1 rfl) ?_
    refine G.ro (Runs.ld ty86) ?_
    refine G.ro (Runs.gtr rfl rfl) ?_
    refine G.r (Runs.pickf rfl rfl) ?_
    refine G.r (Runs.move rfl) ?_
    refine G.split (d := 46) rfl (fun g46 => ?_) (fun g46 => ?_)
    ·exact absurd g46 (by omega)
    ·refine G.ro (Runs.fieldAddr fld111_1 rfl) ?_
     refine G.ro (Runs.ld ty86) ?_
     refine G.ro (Runs.gtr rfl rfl) ?_
     refine G.r (Runs.pickf rfl rfl) ?_
     refine G.nt ?_
     refine W.sub (L' := [(50, _), (11, _), (9, _), (6, _), (0, _)]) (Sub.cons rfl (Sub.cons rfl (Sub.cons rfl (Sub.cons rfl (Sub.cons rfl Sub.nil))))) ?_
     refine W.ite rfl (fun c50 => ?_) (fun c50 => ?_)
     ·exact absurd c50 (by omega)
     ·refine W.skip ?_
      refine V.then ?_
      refine W.sr ?_
      refine G.r (Runs.fieldAddr fld111_1 rfl) ?_
      refine G.r (Runs.ld ty86) ?_
      refine G.r (Runs.convI Tryz.underlying86 Tryz.underlying3 rfl (by unfold InR; omega)) ?_
      refine G.r (Runs.fieldAddr fld111_1 rfl) ?_
      refine G.r (Runs.ld ty86) ?_
      refine G.r (Runs.convI Tryz.underlying86 Tryz.underlying3 rfl (by unfold InR; omega)) ?_
      refine G.r (Runs.build (cells := [_, _]) ty45 Tryz.underlying45 pl45 rfl rfl) ?_
      refine G.e (Eff.alloc ty45 rfl) ?_
      rintro _ _ ⟨b9, rfl, rfl⟩
      refine G.e (Eff.st (cs := [_, _]) (vs := [_, _]) (cs' := [_, _]) ty45) ?_
      rintro _ _ ⟨rfl, rfl⟩
      refine G.nt ?_
      refine W.seq ?_
      refine W.sr ?_
      refine G.r (Runs.move rfl) ?_
      refine G.nt ?_
      refine W.sub (L' := [(59, _), (13, _), (6, _)]) (Sub.cons rfl (Sub.cons rfl (Sub.cons rfl Sub.nil))) ?_
      refine W.no rfl ?_
      refine W.skip ?_
      refine V.then ?_
      refine W.sr ?_
      refine G.r (Runs.lds (vs := [_, _]) ty45) ?_
      refine G.e (Eff.st (cs := [_, _]) (vs := [_, _]) (cs' := [_, _]) ty45) ?_
      rintro _ _ ⟨rfl, rfl⟩
      refine G.r (Runs.assign rfl) ?_
      refine G.nt ?_
      refine W.ret ?_
      exact V.retc1 rfl ty45 rfl rfl (by repeat (first | exact List.mem_cons_self | apply List.mem_cons_of_mem)) rfl (I) Fit.m ⟨rfl, rfl⟩

theorem WSize_ok {κ : Ctx} {I : List Item} (n : Int) (h : 0 ≤ n ∧ n ≤ 1152921504606846976) :
    CallS Tryz.prog κ 84 [I64 (n)] I (fun r J => r = .int .u64 n ∧ I = J) := by
 refine CallS.enter (L := [(0, I64 (n))]) Tryz.func84 rfl rfl rfl rfl ?_
 refine W.sr ?_
 refine G.r (Runs.assign rfl) ?_
 refine G.nt ?_
 refine W.seq ?_
 refine W.sr ?_
 refine G.r (Runs.move rfl) ?_
 refine G.r (Runs.lss rfl rfl) ?_
 refine G.nt ?_
 refine W.ite rfl (fun c4 => ?_) (fun c4 => ?_)
 ·exact absurd c4 (by omega)
 ·refine W.skip ?_
  refine V.then ?_
  refine W.sr ?_
  refine G.r (Runs.move rfl) ?_
  refine G.r (Runs.convU Tryz.underlying3 Tryz.underlying86 rfl (by omega)) ?_
  refine G.r (Runs.assign rfl) ?_
  refine G.nt ?_
  refine W.ret ?_
  exact V.ret1 rfl rfl (I) Fit.m ⟨rfl, rfl⟩

theorem Make01_ok {κ : Ctx} {I : List Item} (a b : Int) (h0 : 0 ≤ a ∧ a ≤ 1152921504606846976) (h1 : 0 < b ∧ b ≤ 1152921504606846976) :
    CallS Tryz.prog κ 87 [I64 (a), I64 (b)] I (fun r J => r = .tuple #[.agg #[I64 (mkF a b).num, I64 (mkF a b).den], I64 0] ∧ I = J) := by
 refine CallS.enter (L := [(0, I64 (a)), (1, I64 (b))]) Tryz.func87 rfl rfl rfl rfl ?_
 refine W.sr ?_
 refine G.e (Eff.alloc ty45 rfl) ?_
 rintro _ _ ⟨b1, rfl, rfl⟩
 refine G.r (Runs.assign rfl) ?_
 refine G.nt ?_
 refine W.seq ?_
 refine W.sr ?_
 refine G.r (Runs.move rfl) ?_
 refine G.r (Runs.eql rfl rfl) ?_
 refine G.nt ?_
 refine W.ite rfl (fun c7 => ?_) (fun c7 => ?_)
 ·exact absurd c7 (by omega)
 ·refine W.skip ?_
  refine V.then ?_
  refine W.sr ?_
  refine G.r (Runs.move rfl) ?_
  refine G.r (Runs.lss rfl rfl) ?_
  refine G.r (Runs.move rfl) ?_
  refine G.r (Runs.lss rfl rfl) ?_
  refine G.r (Runs.neqb Tryz.underlying4 rfl rfl) ?_
  have hsg : decide (decide (a < 0) ≠ decide (b < 0)) = false := by rw [decide_eq_false (show ¬ a < 0 by omega), decide_eq_false (show ¬ b < 0 by omega)]; rfl
  rw [hsg]
  refine G.r (Runs.move rfl) ?_
  refine G.e (Eff.call call84 rfl rfl (WSize_ok a (by omega))) ?_
  rintro _ _ ⟨_, _, ⟨rfl, rfl⟩, rfl, rfl⟩
  refine G.r (Runs.build (cells := [_, _]) ty111 Tryz.underlying111 pl111 rfl rfl) ?_
  refine G.r (Runs.move rfl) ?_
  refine G.e (Eff.call call84 rfl rfl (WSize_ok b (by omega))) ?_
  rintro _ _ ⟨_, _, ⟨rfl, rfl⟩, rfl, rfl⟩
  refine G.r (Runs.build (cells := [_, _]) ty111 Tryz.underlying111 pl111 rfl rfl) ?_
  refine G.e (Eff.call call126 rfl rfl (WReduce_ok a b (by omega) (by omega))) ?_
  rintro _ _ ⟨_, _, ⟨rfl, rfl⟩, rfl, rfl⟩
  refine G.r (Runs.extract rfl rfl) ?_
  refine G.r (Runs.extract rfl rfl) ?_
  refine G.e (Eff.st (cs := [_, _]) (vs := [_, _]) (cs' := [_, _]) ty45) ?_
  rintro _ _ ⟨rfl, rfl⟩
  refine G.r (Runs.assign rfl) ?_
  refine G.nt ?_
  refine W.sub (L' := [(5, _), (4, _)]) (Sub.cons rfl (Sub.cons rfl Sub.nil)) ?_
  refine W.ret ?_
  exact V.retc1 rfl ty45 rfl rfl (by repeat (first | exact List.mem_cons_self | apply List.mem_cons_of_mem)) rfl (I) Fit.m ⟨rfl, rfl⟩

theorem RatOf_ok {κ : Ctx} {I : List Item} (a b : Int) (h0 : 0 ≤ a ∧ a ≤ 1152921504606846976) (h1 : 0 < b ∧ b ≤ 1152921504606846976) :
    CallS Tryz.prog κ 34 [I64 (a), I64 (b)] I (fun r J => r = .agg #[I64 (mkF a b).num, I64 (mkF a b).den] ∧ I = J) := by
 refine CallS.enter (L := [(0, I64 (a)), (1, I64 (b))]) Tryz.func34 rfl rfl rfl rfl ?_
 refine W.sr ?_
 refine G.e (Eff.alloc ty45 rfl) ?_
 rintro _ _ ⟨b1, rfl, rfl⟩
 refine G.nt ?_
 refine W.sr ?_
 refine G.r (Runs.move rfl) ?_
 refine G.r (Runs.move rfl) ?_
 refine G.e (Eff.call call87 rfl rfl (Make01_ok a b (by omega) (by omega))) ?_
 rintro _ _ ⟨_, _, ⟨rfl, rfl⟩, rfl, rfl⟩
 refine G.r (Runs.move rfl) ?_
 refine G.r (Runs.extract rfl rfl) ?_
 refine G.r (Runs.extract rfl rfl) ?_
 refine G.e (Eff.alloc ty45 rfl) ?_
 rintro _ _ ⟨b2, rfl, rfl⟩
 refine G.e (Eff.st (cs := [_, _]) (vs := [_, _]) (cs' := [_, _]) ty45) ?_
 rintro _ _ ⟨rfl, rfl⟩
 refine G.r (Runs.assign rfl) ?_
 refine G.nt ?_
 refine W.sr ?_
 refine G.r (Runs.lds (vs := [_, _]) ty45) ?_
 refine G.e (Eff.st (cs := [_, _]) (vs := [_, _]) (cs' := [_, _]) ty45) ?_
 rintro _ _ ⟨rfl, rfl⟩
 refine G.nt ?_
 refine W.ret ?_
 exact V.retc rfl ty45 rfl (by repeat (first | exact List.mem_cons_self | apply List.mem_cons_of_mem)) rfl (I) Fit.m ⟨rfl, rfl⟩

end Go.Sl
