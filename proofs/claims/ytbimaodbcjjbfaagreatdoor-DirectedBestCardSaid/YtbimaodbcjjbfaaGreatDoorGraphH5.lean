/- A part of the proofs of statements of this seat: contracts of functions, and the plain laws that they lean on. No conditions. -/
import Derived.Test.YtbimaodbcjjbfaaGreatDoorTy
import Derived.Test.YtbimaodbcjjbfaaGreatDoorRunsD5
import Derived.Test.YtbimaodbcjjbfaaGreatDoorRunsV4
import Derived.Test.YtbimaodbcjjbfaaGreatDoorLib
import Derived.Test.YtbimaodbcjjbfaaGreatDoorGraphG5
import Derived.Test.YtbimaodbcjjbfaaGreatDoorRunsT
import Derived.Test.YtbimaodbcjjbfaaGreatDoorRunsW
namespace Go.Sl
open Go.Proofs
set_option linter.unusedVariables false
set_option linter.unusedSimpArgs false
set_option maxRecDepth 4000
structure Fr where
  num : Int
  den : Int
deriving DecidableEq
instance : Inhabited Fr := ⟨⟨0, 0⟩⟩
instance : Enc Fr := ⟨fun r => [I64 r.num, I64 r.den], 2, by omega, fun _ => rfl, fun r u hu => by
  simp only [List.mem_cons, List.not_mem_nil, or_false] at hu
  rcases hu with rfl | rfl <;> rfl⟩
theorem eqt45 : EqT Tryz.prog 45 Fr := EqT.flat (fun p : Fr => [p.num, p.den]) (fun _ => rfl) (fun x y h => by cases x; cases y; simpa using h) (n := 2) (fun _ => rfl) (by kernel_rfl) (by kernel_rfl) (by kernel_rfl) (by kernel_rfl) (by kernel_rfl)
/-- The greatest common divisor. -/
def gcdI (a b : Int) : Int := ((a.toNat.gcd b.toNat : Nat) : Int)
theorem gcdI_step {a b : Int} (h0 : 0 ≤ a) (h1 : 0 < b) : gcdI b (Int.tmod a b) = gcdI a b := by
  unfold gcdI
  rw [Int.tmod_eq_emod_of_nonneg h0, show (a % b).toNat = a.toNat % b.toNat by rw [Int.toNat_emod h0 (by omega)]]
  congr 1
  rw [Nat.gcd_comm a.toNat b.toNat, Nat.gcd_rec b.toNat a.toNat, Nat.gcd_comm]
theorem gcdI_zero {a : Int} (h0 : 0 ≤ a) : gcdI a 0 = a := by unfold gcdI; simp; omega
theorem gcdI_pos {a b : Int} (h1 : 0 < b) : 0 < gcdI a b := by
  unfold gcdI
  have : 0 < a.toNat.gcd b.toNat := Nat.gcd_pos_of_pos_right _ (by omega)
  omega
theorem gcdI_le {a b : Int} (h1 : 0 < b) : gcdI a b ≤ b := by
  unfold gcdI
  have : a.toNat.gcd b.toNat ≤ b.toNat := Nat.le_of_dvd (by omega) (Nat.gcd_dvd_right _ _)
  omega
def mkF (a b : Int) : Fr := ⟨a / gcdI a b, b / gcdI a b⟩
theorem mkF_num {a b : Int} (h0 : 0 ≤ a) (h1 : 0 < b) : 0 ≤ (mkF a b).num ∧ (mkF a b).num ≤ a := ⟨Int.ediv_nonneg h0 (by have := gcdI_pos (a := a) h1; omega), Int.ediv_le_self _ h0⟩
theorem mkF_den {a b : Int} (h1 : 0 < b) : 1 ≤ (mkF a b).den ∧ (mkF a b).den ≤ b := by
  have hg := gcdI_pos (a := a) h1
  have hl := gcdI_le (a := a) h1
  exact ⟨(Int.le_ediv_iff_mul_le hg).2 (by omega), Int.ediv_le_self _ (by omega)⟩

theorem RWithin_ok {κ : Ctx} {I : List Item} (n m : Int) (h : 0 ≤ m ∧ m ≤ 9223372036854775807) :
    CallS Tryz.prog κ 114 [I64 (n), I64 (m)] I (fun r J => r = .bool (decide (-m ≤ n ∧ n ≤ m)) ∧ I = J) := by
 refine CallS.enter (L := [(0, I64 (n)), (1, I64 (m))]) Tryz.func114 rfl rfl rfl rfl ?_
 refine W.sr ?_
 refine G.r (Runs.assign rfl) ?_
 refine G.nt ?_
 refine W.sr ?_
 refine G.r (Runs.move rfl) ?_
 refine G.r (Runs.move rfl) ?_
 refine G.r (Runs.neg rfl (by unfold InR; omega)) ?_
 refine G.r (Runs.geq rfl rfl) ?_
 refine G.r (Runs.move rfl) ?_
 refine G.split (d := 9) rfl (fun g9 => ?_) (fun g9 => ?_)
 ·refine G.ro (Runs.move rfl) ?_
  refine G.ro (Runs.move rfl) ?_
  refine G.ro (Runs.leq rfl rfl) ?_
  refine G.r (Runs.pickt rfl rfl) ?_
  refine G.r (Runs.assign rfl) ?_
  refine G.nt ?_
  refine W.sub (L' := [(4, _)]) (Sub.cons rfl Sub.nil) ?_
  refine W.ret ?_
  exact V.ret1 rfl rfl (I) Fit.m ⟨(by first | exact congrArg Value.bool (decide_eq_decide.2 (by skip; omega)) | exact congrArg Value.bool (decide_eq_true (by skip; omega)).symm | exact congrArg Value.bool (decide_eq_false (by skip; omega)).symm), rfl⟩
 ·refine G.po ?_
  refine G.po ?_
  refine G.po ?_
  refine G.r (Runs.pickf rfl rfl) ?_
  refine G.r (Runs.assign rfl) ?_
  refine G.nt ?_
  refine W.sub (L' := [(4, _)]) (Sub.cons rfl Sub.nil) ?_
  refine W.ret ?_
  exact V.ret1 rfl rfl (I) Fit.m ⟨(by first | exact congrArg Value.bool (decide_eq_decide.2 (by skip; omega)) | exact congrArg Value.bool (decide_eq_true (by skip; omega)).symm | exact congrArg Value.bool (decide_eq_false (by skip; omega)).symm), rfl⟩

theorem Common_ok {κ : Ctx} {I : List Item} (a b : Int) (h0 : 0 ≤ a) (h1 : 0 ≤ b) :
    CallS Tryz.prog κ 133 [I64 (a), I64 (b)] I (fun r J => r = I64 (gcdI a b) ∧ I = J) := by
 refine CallS.enter (L := [(0, I64 (a)), (1, I64 (b))]) Tryz.func133 rfl rfl rfl rfl ?_
 refine W.sr ?_
 refine G.r (Runs.assign rfl) ?_
 refine G.nt ?_
 refine W.seq ?_
 refine W.block ?_
 refine W.loop (σ := Int × Int) (fun s => ([(0, I64 (s.1)), (1, I64 (s.2))] : Env)) (fun s => I) (fun s => (0 ≤ s.1) ∧ (0 ≤ s.2) ∧ (gcdI s.1 s.2 = gcdI a b)) (fun s => s.2.toNat) (a, b) (show (0 ≤ (a : Int)) ∧ (0 ≤ (b : Int)) ∧ (gcdI (a : Int) (b : Int) = gcdI a b) from ⟨(by omega), (by omega), rfl⟩) (Sub.cons lookO (Sub.cons lookO Sub.nil)) (show Fit κ _ (I) from Fit.sub) ?_
 rintro ⟨x, y⟩ hp
 obtain ⟨hx, hy, hg⟩ : (0 ≤ x) ∧ (0 ≤ y) ∧ (gcdI x y = gcdI a b) := hp
 show W Tryz.prog κ 12 _ _ ([(0, I64 (x)), (1, I64 (y))] : Env) (I)
 refine W.seq ?_
 refine W.sr ?_
 refine G.r (Runs.move rfl) ?_
 refine G.r (Runs.neq rfl rfl) ?_
 refine G.nt ?_
 refine W.ite rfl (fun c6 => ?_) (fun c6 => ?_)
 ·refine W.skip ?_
  refine V.then ?_
  refine W.block ?_
  refine W.drawn mixed ?_
  refine A.hold (I) 6 ?_
  refine D.r 0 rfl (Runs.move rfl) ?_
  refine D.r 1 rfl (Runs.move rfl) ?_
  refine D.r 2 rfl (Runs.move rfl) ?_
  refine D.r 3 rfl (Runs.rem rfl rfl (by omega)) ?_
  refine D.r 4 rfl (Runs.assign rfl) ?_
  refine D.r 5 rfl (Runs.assign rfl) ?_
  refine D.done (by kernel_rfl) ?_
  refine V.block_normal ?_
  have hm0 := Int.tmod_nonneg y (a := x) hx
  have hm1 := Int.tmod_lt_of_pos x (b := y) (by omega)
  exact V.next ((y), (Int.tmod x y)) (show (0 ≤ (y : Int)) ∧ (0 ≤ (Int.tmod x y : Int)) ∧ (gcdI (y : Int) (Int.tmod x y : Int) = gcdI a b) from ⟨(by omega), (by omega), ((gcdI_step hx (by omega)).trans hg)⟩) (show (Int.tmod x y : Int).toNat < y.toNat from (by omega)) (Sub.cons lookO (Sub.cons lookO Sub.nil)) (show Fit κ _ (I) from Fit.sub)
 ·refine W.exit ?_
  refine V.then_exit ?_
  refine V.then_exit ?_
  refine V.block_hit ?_
  refine V.then ?_
  refine W.sr ?_
  refine G.r (Runs.move rfl) ?_
  refine G.r (Runs.assign rfl) ?_
  refine G.nt ?_
  refine W.ret ?_
  have hy0 : y = 0 := by omega
  subst hy0
  exact V.ret1 rfl rfl (I) Fit.m ⟨by rw [← hg, gcdI_zero hx], rfl⟩

theorem Checked_ok {κ : Ctx} {I : List Item} (x : Fr) (h : 0 ≤ x.num ∧ x.num ≤ 1152921504606846976 ∧ x.den ≤ 1152921504606846976) :
    CallS Tryz.prog κ 134 [.agg #[I64 (x.num), I64 (x.den)]] I (fun r J => r = .tuple #[.agg #[I64 x.num, I64 x.den], I64 0] ∧ I = J) := by
 refine CallS.enter (L := [(0, .agg #[I64 (x.num), I64 (x.den)])]) Tryz.func134 rfl rfl rfl rfl ?_
 refine W.sr ?_
 refine G.e (Eff.box (cs := [_, _]) rfl rfl rfl) ?_
 rintro _ _ ⟨b1, rfl, rfl⟩
 refine G.e (Eff.alloc ty45 rfl) ?_
 rintro _ _ ⟨b2, rfl, rfl⟩
 refine G.r (Runs.assign rfl) ?_
 refine G.nt ?_
 refine W.seq ?_
 refine W.sr ?_
 refine G.r (Runs.fieldAddr fld45_0 rfl) ?_
 refine G.r (Runs.ld ty3) ?_
 refine G.e (Eff.call call114 rfl rfl (RWithin_ok x.num 1152921504606846976 (by omega))) ?_
 rintro _ _ ⟨_, _, ⟨rfl, rfl⟩, rfl, rfl⟩
 refine G.r (Runs.notd rfl) ?_
 refine G.r (Runs.move rfl) ?_
 refine G.split (d := 8) rfl (fun g8 => ?_) (fun g8 => ?_)
 ·exact absurd h (by omega)
 ·refine G.ro (Runs.fieldAddr fld45_1 rfl) ?_
  refine G.ro (Runs.ld ty3) ?_
  refine G.ro (Runs.gtr rfl rfl) ?_
  refine G.r (Runs.pickf rfl rfl) ?_
  refine G.nt ?_
  refine W.sub (L' := [(12, _), (2, _), (1, _)]) (Sub.cons rfl (Sub.cons rfl (Sub.cons rfl Sub.nil))) ?_
  refine W.ite rfl (fun c12 => ?_) (fun c12 => ?_)
  ·exact absurd h (by omega)
  ·refine W.skip ?_
   refine V.then ?_
   refine W.sr ?_
   refine G.r (Runs.lds (vs := [_, _]) ty45) ?_
   refine G.e (Eff.st (cs := [_, _]) (vs := [_, _]) (cs' := [_, _]) ty45) ?_
   rintro _ _ ⟨rfl, rfl⟩
   refine G.r (Runs.assign rfl) ?_
   refine G.nt ?_
   refine W.ret ?_
   exact V.retc1 rfl ty45 rfl rfl (by repeat (first | exact List.mem_cons_self | apply List.mem_cons_of_mem)) rfl (I) Fit.m ⟨rfl, rfl⟩

theorem Lowest_ok {κ : Ctx} {I : List Item} (a b : Int) (h0 : 0 ≤ a ∧ a ≤ 1152921504606846976) (h1 : 0 < b ∧ b ≤ 1152921504606846976) :
    CallS Tryz.prog κ 115 [I64 (a), I64 (b)] I (fun r J => r = .tuple #[.agg #[I64 (mkF a b).num, I64 (mkF a b).den], I64 0] ∧ I = J) := by
 refine CallS.enter (L := [(0, I64 (a)), (1, I64 (b))]) Tryz.func115 rfl rfl rfl rfl ?_
 refine W.sr ?_
 refine G.e (Eff.alloc ty45 rfl) ?_
 rintro _ _ ⟨b1, rfl, rfl⟩
 refine G.r (Runs.assign rfl) ?_
 refine G.nt ?_
 refine W.seq ?_
 refine W.sr ?_
 refine G.r (Runs.move rfl) ?_
 refine G.r (Runs.lss rfl rfl) ?_
 refine G.nt ?_
 refine W.ite rfl (fun c8 => ?_) (fun c8 => ?_)
 ·exact absurd c8 (by omega)
 ·refine W.skip ?_
  refine V.then ?_
  refine W.sr ?_
  refine G.r (Runs.move rfl) ?_
  refine G.r (Runs.move rfl) ?_
  refine G.r (Runs.neg rfl (by unfold InR; omega)) ?_
  refine G.r (Runs.max rfl rfl) ?_
  refine G.r (Runs.move rfl) ?_
  refine G.e (Eff.call call133 rfl rfl (Common_ok (if a < (-(a)) then (-(a)) else a) b (by split <;> omega) (by omega))) ?_
  rintro _ _ ⟨_, _, ⟨rfl, rfl⟩, rfl, rfl⟩
  refine G.r (Runs.assign rfl) ?_
  have hmx : (if a < -a then -a else a) = a := by rw [if_neg (by omega)]
  rw [hmx]
  refine G.nt ?_
  refine W.sub (L' := [(6, _), (4, _), (0, _), (1, _)]) (Sub.cons rfl (Sub.cons rfl (Sub.cons rfl (Sub.cons rfl Sub.nil)))) ?_
  refine W.seq ?_
  refine W.drawn mixed ?_
  refine A.hold (blk b1 [I64 (0), I64 (0)] 45 :: I) 10 ?_
  refine D.r 0 rfl (Runs.move rfl) ?_ (hJ := Fit.sub)
  have hgp := gcdI_pos (a := a) h1.1
  refine D.r 1 rfl (Runs.move rfl) ?_ (hJ := Fit.sub)
  refine D.r 2 rfl (Runs.quo rfl rfl (by omega) (by omega) (by unfold InR; omega)) ?_ (hJ := Fit.sub)
  refine D.r 3 rfl (Runs.move rfl) ?_ (hJ := Fit.sub)
  refine D.r 4 rfl (Runs.move rfl) ?_ (hJ := Fit.sub)
  refine D.r 5 rfl (Runs.quo rfl rfl (by omega) (by omega) (by unfold InR; omega)) ?_ (hJ := Fit.sub)
  refine D.r 6 rfl (Runs.build (cells := [_, _]) ty45 Tryz.underlying45 pl45 rfl rfl) ?_ (hJ := Fit.sub)
  refine D.step (rs := [7]) (by kernel_rfl) rfl rfl (all1 ?_)
  refine Step.eff rfl (Wanted.plain rfl) (Eff.call call134 rfl rfl (Checked_ok (⟨a / (gcdI a b), b / (gcdI a b)⟩ : Fr) (by have hn := mkF_num h0.1 h1.1; have hd := mkF_den (a := a) h1.1; exact ⟨hn.1, by have := hn.2; show (mkF a b).num ≤ _; omega, by have := hd.2; show (mkF a b).den ≤ _; omega⟩))) ?_
  rintro _ _ ⟨_, _, ⟨rfl, rfl⟩, rfl, rfl⟩
  refine ⟨Fit.sub, ?_⟩
  refine D.r 8 rfl (Runs.extract rfl rfl) ?_ (hJ := Fit.sub)
  refine D.r 9 rfl (Runs.extract rfl rfl) ?_ (hJ := Fit.sub)
  refine D.stop (by kernel_rfl) ?_
  refine A.eff (i := 10) (by kernel_rfl) rfl (Wanted.plain rfl) (Eff.st (cs := [_, _]) (vs := [_, _]) (cs' := [_, _]) ty45) ?_
  rintro _ _ ⟨rfl, rfl⟩
  refine A.read (i := 11) (by kernel_rfl) rfl (Wanted.plain rfl) rfl rfl (Runs.assign rfl) ?_
  refine A.done (by kernel_rfl) ?_
  refine V.then ?_
  refine W.sub (L' := [(5, _), (4, _)]) (Sub.cons rfl (Sub.cons rfl Sub.nil)) ?_
  refine W.ret ?_
  exact V.retc1 rfl ty45 rfl rfl (by repeat (first | exact List.mem_cons_self | apply List.mem_cons_of_mem)) rfl (I) Fit.m ⟨rfl, rfl⟩

theorem MakeF_ok {κ : Ctx} {I : List Item} (a b : Int) (h0 : 0 ≤ a ∧ a ≤ 1152921504606846976) (h1 : 0 < b ∧ b ≤ 1152921504606846976) :
    CallS Tryz.prog κ 63 [I64 (a), I64 (b)] I (fun r J => r = .tuple #[.agg #[I64 (mkF a b).num, I64 (mkF a b).den], I64 0] ∧ I = J) := by
 refine CallS.enter (L := [(0, I64 (a)), (1, I64 (b))]) Tryz.func63 rfl rfl rfl rfl ?_
 refine W.sr ?_
 refine G.e (Eff.alloc ty45 rfl) ?_
 rintro _ _ ⟨b1, rfl, rfl⟩
 refine G.r (Runs.assign rfl) ?_
 refine G.nt ?_
 refine W.seq ?_
 refine W.block ?_
 refine W.sr ?_
 refine G.r (Runs.move rfl) ?_
 refine G.r (Runs.eql rfl rfl) ?_
 refine G.r (Runs.assign rfl) ?_
 refine G.nt ?_
 refine W.ite rfl (fun c6 => ?_) (fun c6 => ?_)
 ·exact absurd c6 (by omega)
 ·refine W.sr ?_
  refine G.r (Runs.move rfl) ?_
  refine G.e (Eff.call call114 rfl rfl (RWithin_ok a 4611686018427387904 (by omega))) ?_
  rintro _ _ ⟨_, _, ⟨rfl, rfl⟩, rfl, rfl⟩
  refine G.r (Runs.move rfl) ?_
  refine G.split (d := 13) rfl (fun g13 => ?_) (fun g13 => ?_)
  ·refine G.ro (Runs.move rfl) ?_
   refine G.eff (Wanted.on rfl rfl rfl) (Eff.call call114 rfl rfl (RWithin_ok b 4611686018427387904 (by omega))) ?_
   rintro _ _ ⟨_, _, ⟨rfl, rfl⟩, rfl, rfl⟩
   refine G.r (Runs.pickt rfl rfl) ?_
   refine G.r (Runs.assign rfl) ?_
   refine G.nt ?_
   refine W.sub (L' := [(10, _), (4, _), (0, _), (1, _)]) (Sub.cons rfl (Sub.cons rfl (Sub.cons rfl (Sub.cons rfl Sub.nil)))) ?_
   refine W.ite rfl (fun c10 => ?_) (fun c10 => ?_)
   ·refine W.sr ?_
    refine G.r (Runs.move rfl) ?_
    refine G.r (Runs.move rfl) ?_
    refine G.e (Eff.call call115 rfl rfl (Lowest_ok a b (by omega) (by omega))) ?_
    rintro _ _ ⟨_, _, ⟨rfl, rfl⟩, rfl, rfl⟩
    refine G.r (Runs.extract rfl rfl) ?_
    refine G.r (Runs.extract rfl rfl) ?_
    refine G.e (Eff.st (cs := [_, _]) (vs := [_, _]) (cs' := [_, _]) ty45) ?_
    rintro _ _ ⟨rfl, rfl⟩
    refine G.r (Runs.assign rfl) ?_
    refine G.nt ?_
    refine W.ret ?_
    refine V.block_ret ?_
    refine V.then_ret ?_
    exact V.retc1 rfl ty45 rfl rfl (by repeat (first | exact List.mem_cons_self | apply List.mem_cons_of_mem)) rfl (I) Fit.m ⟨rfl, rfl⟩
   ·exact absurd (by omega) c10
  ·exact absurd (by omega) g13

end Go.Sl
/- Numbers of 64 bits as bit vectors. No conditions. -/
namespace Go.Sl
set_option linter.unusedVariables false
set_option linter.unusedSimpArgs false
/-- A number of 64 bits. -/
abbrev U64 (b : BitVec 64) : Value := .int .u64 (b.toNat : Int)
theorem u64_wrap (n : Int) : IntKind.u64.wrap n = n % 18446744073709551616 := IntKind.wrap_u64 n
theorem ofInt_toNat64 (a : BitVec 64) : BitVec.ofInt IntKind.u64.bits (a.toNat : Int) = a := by
  show BitVec.ofInt 64 (a.toNat : Int) = a
  rw [BitVec.ofInt_natCast, BitVec.ofNat_toNat]; simp
theorem wrap_toNat64 (a : BitVec 64) : IntKind.u64.wrap (a.toNat : Int) = (a.toNat : Int) := by
  rw [u64_wrap]; have := a.isLt; omega
theorem bits_andB (a b : BitVec 64) : bits .and .u64 (a.toNat : Int) (b.toNat : Int) = ((a &&& b).toNat : Int) := by
  unfold bits; simp only [ofInt_toNat64]; exact wrap_toNat64 (a &&& b)
theorem bits_orB (a b : BitVec 64) : bits .or .u64 (a.toNat : Int) (b.toNat : Int) = ((a ||| b).toNat : Int) := by
  unfold bits; simp only [ofInt_toNat64]; exact wrap_toNat64 (a ||| b)
theorem bits_andNotB (a b : BitVec 64) : bits .andNot .u64 (a.toNat : Int) (b.toNat : Int) = ((a &&& ~~~b).toNat : Int) := by
  unfold bits; simp only [ofInt_toNat64]; exact wrap_toNat64 (a &&& ~~~b)
theorem toNat_inj64 {a b : BitVec 64} : ((a.toNat : Int) = (b.toNat : Int)) ↔ a = b := ⟨fun h => BitVec.eq_of_toNat_eq (by omega), fun h => by rw [h]⟩
section
variable {P : Program} {κ : Ctx} {N : Nat} {Q : Exit → Act → World → Prop} {L : Env} {I J : List Item}
variable {d : Option Tmp} {ty : TypeId} {ps : String} {af : Array Edge} {gd : Option (Nat × Bool)}
variable {x y : Operand} {T U : TypeId} {a b : BitVec 64}
theorem Runs.andB (hx : evalO L x = some (U64 a)) (hy : evalO L y = some (U64 b)) : Runs P κ N ⟨d, .binOp .and T x y U, ty, ps, af, gd⟩ L J (U64 (a &&& b)) :=
  fun act w ha _ => by simp only [execOp, ha.eval hx, ha.eval hy]; simp [go_sem, bits_andB]
theorem Runs.orB (hx : evalO L x = some (U64 a)) (hy : evalO L y = some (U64 b)) : Runs P κ N ⟨d, .binOp .or T x y U, ty, ps, af, gd⟩ L J (U64 (a ||| b)) :=
  fun act w ha _ => by simp only [execOp, ha.eval hx, ha.eval hy]; simp [go_sem, bits_orB]
theorem Runs.andNotB (hx : evalO L x = some (U64 a)) (hy : evalO L y = some (U64 b)) : Runs P κ N ⟨d, .binOp .andNot T x y U, ty, ps, af, gd⟩ L J (U64 (a &&& ~~~b)) :=
  fun act w ha _ => by
    simp only [execOp, ha.eval hx, ha.eval hy]
    have h := bits_andNotB a b
    simp [go_sem, h]
theorem Runs.addB (hx : evalO L x = some (U64 a)) (hy : evalO L y = some (U64 b)) : Runs P κ N ⟨d, .binOp .add T x y U, ty, ps, af, gd⟩ L J (U64 (a + b)) := by
  have h := Runs.addw (P := P) (κ := κ) (N := N) (J := J) (d := d) (ty := ty) (ps := ps) (af := af) (gd := gd) (T := T) (U := U) hx hy
  have e : IntKind.u64.wrap ((a.toNat : Int) + (b.toNat : Int)) = ((a + b).toNat : Int) := by rw [u64_wrap, BitVec.toNat_add]; omega
  rwa [e] at h
theorem Runs.subB (hx : evalO L x = some (U64 a)) (hy : evalO L y = some (U64 b)) : Runs P κ N ⟨d, .binOp .sub T x y U, ty, ps, af, gd⟩ L J (U64 (a - b)) := by
  have h := Runs.subw (P := P) (κ := κ) (N := N) (J := J) (d := d) (ty := ty) (ps := ps) (af := af) (gd := gd) (T := T) (U := U) hx hy
  have e : IntKind.u64.wrap ((a.toNat : Int) - (b.toNat : Int)) = ((a - b).toNat : Int) := by rw [u64_wrap, BitVec.toNat_sub]; have := a.isLt; have := b.isLt; omega
  rwa [e] at h
theorem Runs.shlB {k' : IntKind} {n : Int} (hx : evalO L x = some (U64 a)) (hy : evalO L y = some (.int k' n)) (h0 : 0 ≤ n) (h1 : n < 64) : Runs P κ N ⟨d, .binOp .shl T x y U, ty, ps, af, gd⟩ L J (U64 (a <<< n.toNat)) := by
  have h := Runs.shlw (P := P) (κ := κ) (N := N) (J := J) (d := d) (ty := ty) (ps := ps) (af := af) (gd := gd) (T := T) (U := U) hx hy h0
  have e : IntKind.u64.wrap ((a.toNat : Int) * 2 ^ Min.min n.toNat IntKind.u64.bits) = ((a <<< n.toNat).toNat : Int) := by
    have hm : Min.min n.toNat IntKind.u64.bits = n.toNat := by show Min.min n.toNat 64 = _; omega
    have hc : ((a.toNat : Int) * 2 ^ n.toNat) = ((a.toNat * 2 ^ n.toNat : Nat) : Int) := by rw [Int.natCast_mul, Int.natCast_pow]; rfl
    rw [hm, u64_wrap, BitVec.toNat_shiftLeft, Nat.shiftLeft_eq, hc]
    generalize a.toNat * 2 ^ n.toNat = m
    omega
  rwa [e] at h
theorem Runs.shrB {k' : IntKind} {n : Int} (hx : evalO L x = some (U64 a)) (hy : evalO L y = some (.int k' n)) (h0 : 0 ≤ n) (h1 : n < 64) : Runs P κ N ⟨d, .binOp .shr T x y U, ty, ps, af, gd⟩ L J (U64 (a >>> n.toNat)) := by
  have h := Runs.shrw (P := P) (κ := κ) (N := N) (J := J) (d := d) (ty := ty) (ps := ps) (af := af) (gd := gd) (T := T) (U := U) hx hy h0
  have e : (a.toNat : Int).fdiv (2 ^ Min.min n.toNat IntKind.u64.bits) = ((a >>> n.toNat).toNat : Int) := by
    have hm : Min.min n.toNat IntKind.u64.bits = n.toNat := by show Min.min n.toNat 64 = _; omega
    rw [hm, BitVec.toNat_ushiftRight, Nat.shiftRight_eq_div_pow, Int.fdiv_eq_ediv_of_nonneg _ (Int.pow_nonneg (by decide))]
    push_cast; rfl
  rwa [e] at h
theorem Runs.eqB (hx : evalO L x = some (U64 a)) (hy : evalO L y = some (U64 b)) : Runs P κ N ⟨d, .binOp .eql T x y U, ty, ps, af, gd⟩ L J (.bool (decide (a = b))) := by
  have h := Runs.eql (P := P) (κ := κ) (N := N) (J := J) (d := d) (ty := ty) (ps := ps) (af := af) (gd := gd) (T := T) (U := U) hx hy
  rwa [decide_eq_decide.2 (toNat_inj64 (a := a) (b := b))] at h
theorem Runs.neB (hx : evalO L x = some (U64 a)) (hy : evalO L y = some (U64 b)) : Runs P κ N ⟨d, .binOp .neq T x y U, ty, ps, af, gd⟩ L J (.bool (decide (a ≠ b))) := by
  have h := Runs.neq (P := P) (κ := κ) (N := N) (J := J) (d := d) (ty := ty) (ps := ps) (af := af) (gd := gd) (T := T) (U := U) hx hy
  rwa [decide_eq_decide.2 (not_congr (toNat_inj64 (a := a) (b := b)))] at h
theorem Runs.toI {S : TypeId} {q : IntKind} (hs : P.underlying S = some (.int q)) (ht : P.underlying T = some (.int .i64)) (hx : evalO L x = some (U64 a)) (hr : a.toNat < 9223372036854775808) : Runs P κ N ⟨d, .convert S T x, ty, ps, af, gd⟩ L J (I64 (a.toNat : Int)) :=
  Runs.convI hs ht hx (by unfold InR; omega)
/-- x & (2^k - 1) of a number that is not negative -/
theorem Runs.and127 {n : Int} (hx : evalO L x = some (I64 n)) (hy : evalO L y = some (I64 127)) (h0 : 0 ≤ n) : Runs P κ N ⟨d, .binOp .and T x y U, ty, ps, af, gd⟩ L J (I64 (n % 128)) :=
  fun act w ha _ => by
    simp only [execOp, ha.eval hx, ha.eval hy]
    obtain ⟨m, rfl⟩ : ∃ m : Nat, n = (m : Int) := ⟨n.toNat, by omega⟩
    have e : bits .and .i64 (m : Int) 127 = (m : Int) % 128 := by
      have e1 : (BitVec.ofInt 64 (m : Int) &&& BitVec.ofInt 64 127).toNat = m % 128 := by
        rw [BitVec.toNat_and, BitVec.toNat_ofInt, BitVec.toNat_ofInt, show ((127 : Int) % (2 ^ 64 : Nat)).toNat = 2 ^ 7 - 1 by decide, Nat.and_two_pow_sub_one_eq_mod]
        omega
      unfold bits
      show IntKind.i64.wrap ((BitVec.ofInt 64 (m : Int) &&& BitVec.ofInt 64 127).toNat : Int) = _
      rw [e1, IntKind.wrap_i64]; omega
    simp [go_sem, e]
end
end Go.Sl
namespace Go.Sl
open Go.Proofs
set_option linter.unusedVariables false
set_option linter.unusedSimpArgs false
set_option maxRecDepth 4000
def bitB (v : Int) : BitVec 64 := if v < 0 ∨ 64 ≤ v then 0#64 else 1#64 <<< v.toNat
def maskB (l : List Int) : BitVec 64 := l.foldl (fun m v => m ||| bitB v) 0#64
def allB (n : Int) : BitVec 64 := if n ≤ 0 then 0#64 else if 64 ≤ n then 18446744073709551615#64 else (1#64 <<< n.toNat) - 1#64
theorem maskB_take {l : List Int} {k : Nat} (h : k < l.length) : maskB (l.take (k + 1)) = maskB (l.take k) ||| bitB (at_ l (k : Int)) := by
  unfold maskB; rw [take_at l k h, List.foldl_append]; rfl
/-- The number of bits, as the library counts them. -/
def ones1 (m : BitVec 64) : BitVec 64 := ((m >>> (1 : Int).toNat) &&& 6148914691236517205#64) + (m &&& 6148914691236517205#64)
def ones2 (m : BitVec 64) : BitVec 64 := ((m >>> (2 : Int).toNat) &&& 3689348814741910323#64) + (m &&& 3689348814741910323#64)
def ones3 (m : BitVec 64) : BitVec 64 := ((m >>> (4 : Int).toNat) + m) &&& 1085102592571150095#64
def ones4 (m : BitVec 64) : BitVec 64 := m + (m >>> (8 : Int).toNat)
def ones5 (m : BitVec 64) : BitVec 64 := m + (m >>> (16 : Int).toNat)
def ones6 (m : BitVec 64) : BitVec 64 := m + (m >>> (32 : Int).toNat)
def onesB (m : BitVec 64) : Int := ((ones6 (ones5 (ones4 (ones3 (ones2 (ones1 m)))))).toNat : Int) % 128
theorem ones_small (m : BitVec 64) : (ones6 (ones5 (ones4 (ones3 m)))).toNat < 9223372036854775808 := by
  have h3 : (ones3 m).toNat ≤ 1085102592571150095 := by unfold ones3; rw [BitVec.toNat_and]; exact Nat.and_le_right
  generalize ones3 m = a at h3
  have h4 : (ones4 a).toNat ≤ a.toNat + a.toNat / 256 := by
    unfold ones4; rw [BitVec.toNat_add, BitVec.toNat_ushiftRight, Nat.shiftRight_eq_div_pow, show 2 ^ (8 : Int).toNat = 256 by decide]; exact Nat.mod_le _ _
  generalize ones4 a = b at h4
  have h5 : (ones5 b).toNat ≤ b.toNat + b.toNat / 65536 := by
    unfold ones5; rw [BitVec.toNat_add, BitVec.toNat_ushiftRight, Nat.shiftRight_eq_div_pow, show 2 ^ (16 : Int).toNat = 65536 by decide]; exact Nat.mod_le _ _
  generalize ones5 b = c at h5
  have h6 : (ones6 c).toNat ≤ c.toNat + c.toNat / 4294967296 := by
    unfold ones6; rw [BitVec.toNat_add, BitVec.toNat_ushiftRight, Nat.shiftRight_eq_div_pow, show 2 ^ (32 : Int).toNat = 4294967296 by decide]; exact Nat.mod_le _ _
  omega

theorem Bit_ok {κ : Ctx} {I : List Item} (v : Int) :
    CallS Tryz.prog κ 75 [I64 (v)] I (fun r J => r = U64 (bitB v) ∧ I = J) := by
 refine CallS.enter (L := [(0, I64 (v))]) Tryz.func75 rfl rfl rfl rfl ?_
 refine W.sr ?_
 refine G.r (Runs.assign rfl) ?_
 refine G.nt ?_
 refine W.seq ?_
 refine W.sr ?_
 refine G.r (Runs.move rfl) ?_
 refine G.r (Runs.lss rfl rfl) ?_
 refine G.r (Runs.move rfl) ?_
 refine G.split (d := 5) rfl (fun g5 => ?_) (fun g5 => ?_)
 ·refine G.po ?_
  refine G.po ?_
  refine G.r (Runs.pickt rfl rfl) ?_
  refine G.nt ?_
  refine W.yes rfl ?_
  refine W.sr ?_
  refine G.r (Runs.assign rfl) ?_
  refine G.nt ?_
  refine W.ret ?_
  refine V.then_ret ?_
  exact V.ret1 rfl rfl (I) Fit.m ⟨by unfold bitB; rw [if_pos (by omega)]; rfl, rfl⟩
 ·refine G.ro (Runs.move rfl) ?_
  refine G.ro (Runs.geq rfl rfl) ?_
  refine G.r (Runs.pickf rfl rfl) ?_
  refine G.nt ?_
  refine W.ite rfl (fun c8 => ?_) (fun c8 => ?_)
  ·refine W.sr ?_
   refine G.r (Runs.assign rfl) ?_
   refine G.nt ?_
   refine W.ret ?_
   refine V.then_ret ?_
   exact V.ret1 rfl rfl (I) Fit.m ⟨by unfold bitB; rw [if_pos (by omega)]; rfl, rfl⟩
  ·refine W.skip ?_
   refine V.then ?_
   refine W.sr ?_
   refine G.r (Runs.move rfl) ?_
   refine G.r (Runs.shlB (a := 1#64) rfl rfl (by omega) (by omega)) ?_
   refine G.r (Runs.assign rfl) ?_
   refine G.nt ?_
   refine W.ret ?_
   exact V.ret1 rfl rfl (I) Fit.m ⟨by unfold bitB; rw [if_neg (by omega)], rfl⟩

theorem MaskAll_ok {κ : Ctx} {I : List Item} (n : Int) :
    CallS Tryz.prog κ 62 [I64 (n)] I (fun r J => r = U64 (allB n) ∧ I = J) := by
 refine CallS.enter (L := [(0, I64 (n))]) Tryz.func62 rfl rfl rfl rfl ?_
 refine W.sr ?_
 refine G.r (Runs.assign rfl) ?_
 refine G.nt ?_
 refine W.seq ?_
 refine W.block ?_
 refine W.sr ?_
 refine G.r (Runs.move rfl) ?_
 refine G.r (Runs.leq rfl rfl) ?_
 refine G.r (Runs.assign rfl) ?_
 refine G.nt ?_
 refine W.ite rfl (fun c3 => ?_) (fun c3 => ?_)
 ·refine W.sr ?_
  refine G.r (Runs.assign rfl) ?_
  refine G.nt ?_
  refine W.ret ?_
  refine V.block_ret ?_
  refine V.then_ret ?_
  exact V.ret1 rfl rfl (I) Fit.m ⟨by unfold allB; rw [if_pos (by omega)]; rfl, rfl⟩
 ·refine W.sr ?_
  refine G.r (Runs.move rfl) ?_
  refine G.r (Runs.geq rfl rfl) ?_
  refine G.r (Runs.assign rfl) ?_
  refine G.nt ?_
  refine W.ite rfl (fun c6 => ?_) (fun c6 => ?_)
  ·refine W.sr ?_
   refine G.r (Runs.assign rfl) ?_
   refine G.nt ?_
   refine W.ret ?_
   refine V.block_ret ?_
   refine V.then_ret ?_
   exact V.ret1 rfl rfl (I) Fit.m ⟨by unfold allB; rw [if_neg (by omega), if_pos (by omega)]; rfl, rfl⟩
  ·refine W.skip ?_
   refine V.block_normal ?_
   refine V.then ?_
   refine W.sr ?_
   refine G.r (Runs.move rfl) ?_
   refine G.r (Runs.shlB (a := 1#64) rfl rfl (by omega) (by omega)) ?_
   refine G.r (Runs.subB (a := (1#64) <<< (n).toNat) (b := 1#64) rfl rfl) ?_
   refine G.r (Runs.assign rfl) ?_
   refine G.nt ?_
   refine W.ret ?_
   exact V.ret1 rfl rfl (I) Fit.m ⟨by unfold allB; rw [if_neg (by omega), if_neg (by omega)], rfl⟩

theorem OnesCount_ok {κ : Ctx} {I : List Item} (m : BitVec 64) :
    CallS Tryz.prog κ 113 [U64 (m)] I (fun r J => r = I64 (onesB m) ∧ I = J) := by
 refine CallS.enter (L := [(0, U64 (m))]) Tryz.func113 rfl rfl rfl rfl ?_
 refine W.sr ?_
 refine G.r (Runs.assign rfl) ?_
 refine G.nt ?_
 refine W.sr ?_
 refine G.r (Runs.move rfl) ?_
 refine G.r (Runs.shrB (a := m) rfl rfl (by omega) (by omega)) ?_
 refine G.r (Runs.andB (a := m >>> (1 : Int).toNat) (b := 6148914691236517205#64) rfl rfl) ?_
 refine G.r (Runs.move rfl) ?_
 refine G.r (Runs.andB (a := m) (b := 6148914691236517205#64) rfl rfl) ?_
 refine G.r (Runs.addB (a := (m >>> (1 : Int).toNat) &&& (6148914691236517205#64)) (b := m &&& (6148914691236517205#64)) rfl rfl) ?_
 refine G.r (Runs.assign rfl) ?_
 generalize hm1 : ((m >>> (1 : Int).toNat) &&& (6148914691236517205#64)) + (m &&& (6148914691236517205#64)) = m1
 refine G.nt ?_
 refine W.sr ?_
 refine G.r (Runs.move rfl) ?_
 refine G.r (Runs.shrB (a := m1) rfl rfl (by omega) (by omega)) ?_
 refine G.r (Runs.andB (a := m1 >>> (2 : Int).toNat) (b := 3689348814741910323#64) rfl rfl) ?_
 refine G.r (Runs.move rfl) ?_
 refine G.r (Runs.andB (a := m1) (b := 3689348814741910323#64) rfl rfl) ?_
 refine G.r (Runs.addB (a := (m1 >>> (2 : Int).toNat) &&& (3689348814741910323#64)) (b := m1 &&& (3689348814741910323#64)) rfl rfl) ?_
 refine G.r (Runs.assign rfl) ?_
 generalize hm2 : ((m1 >>> (2 : Int).toNat) &&& (3689348814741910323#64)) + (m1 &&& (3689348814741910323#64)) = m2
 refine G.nt ?_
 refine W.sub (L' := [(0, _)]) (Sub.cons rfl Sub.nil) ?_
 refine W.sr ?_
 refine G.r (Runs.move rfl) ?_
 refine G.r (Runs.shrB (a := m2) rfl rfl (by omega) (by omega)) ?_
 refine G.r (Runs.move rfl) ?_
 refine G.r (Runs.addB (a := m2 >>> (4 : Int).toNat) (b := m2) rfl rfl) ?_
 refine G.r (Runs.andB (a := (m2 >>> (4 : Int).toNat) + m2) (b := 1085102592571150095#64) rfl rfl) ?_
 refine G.r (Runs.assign rfl) ?_
 generalize hm3 : ((m2 >>> (4 : Int).toNat) + m2) &&& (1085102592571150095#64) = m3
 refine G.nt ?_
 refine W.sr ?_
 refine G.r (Runs.move rfl) ?_
 refine G.r (Runs.move rfl) ?_
 refine G.r (Runs.shrB (a := m3) rfl rfl (by omega) (by omega)) ?_
 refine G.r (Runs.addB (a := m3) (b := m3 >>> (8 : Int).toNat) rfl rfl) ?_
 refine G.r (Runs.assign rfl) ?_
 generalize hm4 : m3 + (m3 >>> (8 : Int).toNat) = m4
 refine G.nt ?_
 refine W.sr ?_
 refine G.r (Runs.move rfl) ?_
 refine G.r (Runs.move rfl) ?_
 refine G.r (Runs.shrB (a := m4) rfl rfl (by omega) (by omega)) ?_
 refine G.r (Runs.addB (a := m4) (b := m4 >>> (16 : Int).toNat) rfl rfl) ?_
 refine G.r (Runs.assign rfl) ?_
 generalize hm5 : m4 + (m4 >>> (16 : Int).toNat) = m5
 refine G.nt ?_
 refine W.sub (L' := [(0, _)]) (Sub.cons rfl Sub.nil) ?_
 refine W.sr ?_
 refine G.r (Runs.move rfl) ?_
 refine G.r (Runs.move rfl) ?_
 refine G.r (Runs.shrB (a := m5) rfl rfl (by omega) (by omega)) ?_
 refine G.r (Runs.addB (a := m5) (b := m5 >>> (32 : Int).toNat) rfl rfl) ?_
 refine G.r (Runs.assign rfl) ?_
 generalize hm6 : m5 + (m5 >>> (32 : Int).toNat) = m6
 refine G.nt ?_
 refine W.sr ?_
 refine G.r (Runs.move rfl) ?_
 refine G.r (Runs.toI Tryz.underlying86 Tryz.underlying3 rfl (by subst hm6 hm5 hm4 hm3; exact ones_small _)) ?_
 refine G.r (Runs.and127 rfl rfl (by omega)) ?_
 refine G.r (Runs.assign rfl) ?_
 refine G.nt ?_
 refine W.ret ?_
 exact V.ret1 rfl rfl (I) Fit.m ⟨by subst hm6 hm5 hm4 hm3 hm2 hm1; rfl, rfl⟩

theorem MCount_ok {κ : Ctx} {I : List Item} (m : BitVec 64) :
    CallS Tryz.prog κ 57 [U64 (m)] I (fun r J => r = I64 (onesB m) ∧ I = J) := by
 refine CallS.enter (L := [(0, U64 (m))]) Tryz.func57 rfl rfl rfl rfl ?_
 refine W.sr ?_
 refine G.r (Runs.assign rfl) ?_
 refine G.nt ?_
 refine W.sr ?_
 refine G.r (Runs.move rfl) ?_
 refine G.e (Eff.call call113 rfl rfl (OnesCount_ok m)) ?_
 rintro _ _ ⟨_, _, ⟨rfl, rfl⟩, rfl, rfl⟩
 refine G.r (Runs.assign rfl) ?_
 refine G.nt ?_
 refine W.ret ?_
 exact V.ret1 rfl rfl (I) Fit.m ⟨rfl, rfl⟩

end Go.Sl
namespace Go.Sl
open Go.Proofs
set_option linter.unusedVariables false
set_option linter.unusedSimpArgs false
set_option maxRecDepth 4000
theorem bitB_two {v : Int} (h0 : 0 ≤ v) (h1 : v < 64) : bitB v = BitVec.twoPow 64 v.toNat := by
  unfold bitB; rw [if_neg (by omega)]; rfl
theorem getLsb_bitB {v : Int} {i : Nat} (hi : i < 64) : (bitB v).getLsbD i = decide (v = (i : Int)) := by
  by_cases h : 0 ≤ v ∧ v < 64
  · rw [bitB_two h.1 h.2, BitVec.getLsbD_twoPow]
    have e : (v.toNat = i) ↔ (v = (i : Int)) := by omega
    simp [hi, h, e]
  · unfold bitB
    rw [if_pos (by omega)]
    have : ¬ v = (i : Int) := by omega
    simp [this]
theorem getLsb_maskB {i : Nat} (hi : i < 64) : ∀ (l : List Int) (m : BitVec 64), (l.foldl (fun m v => m ||| bitB v) m).getLsbD i = (m.getLsbD i || decide ((i : Int) ∈ l))
  | [], m => by simp
  | v :: l, m => by
    rw [List.foldl_cons, getLsb_maskB hi l, BitVec.getLsbD_or, getLsb_bitB hi]
    by_cases h1 : v = (i : Int)
    · simp [h1]
    · have : ¬ (i : Int) = v := fun e => h1 e.symm
      simp [h1, this]
end Go.Sl
namespace Go.Sl
open Go.Proofs
set_option linter.unusedVariables false
set_option linter.unusedSimpArgs false
set_option maxRecDepth 4000
end Go.Sl
namespace Go.Sl
open Go.Proofs
set_option linter.unusedVariables false
set_option linter.unusedSimpArgs false
set_option maxRecDepth 4000
end Go.Sl
