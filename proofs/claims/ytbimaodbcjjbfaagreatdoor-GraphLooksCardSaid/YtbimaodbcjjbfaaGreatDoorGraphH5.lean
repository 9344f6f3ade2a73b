/- A part of the proofs of statements of this seat: contracts of functions, and the plain laws that they lean on. No conditions. -/
import Derived.Test.YtbimaodbcjjbfaaGreatDoorRunsV4
import Derived.Test.YtbimaodbcjjbfaaGreatDoorTy
import Derived.Test.YtbimaodbcjjbfaaGreatDoorLib
import Derived.Test.YtbimaodbcjjbfaaGreatDoorGraphG5
import Derived.Test.YtbimaodbcjjbfaaGreatDoorRunsD5
import Derived.Test.YtbimaodbcjjbfaaGreatDoorRunsT
import Derived.Test.YtbimaodbcjjbfaaGreatDoorRunsW
/- Numbers of 64 bits as bit vectors. No conditions. -/
namespace Go.Sl
set_option linter.unusedVariables false
set_option linter.unusedSimpArgs false
/-- A number of 64 bits. -/
abbrev U64 (b : BitVec 64) : Value := .int .u64 (b.toNat : Int)
theorem u64_wrap (n : Int) : IntKind.u64.wrap n = n % 18446744073709551616 := IntKind.wrap_u64 n
theorem ofInt_toNat64 (a : BitVec 64) : BitVec.ofInt IntKind.u64.bits (a.toNat : Int) = a := by
  show BitVec.ofInt 64 (a.toNat : Int) = a
  rw [BitVec.ofInt_natCast, BitVec.ofNat_toNat]; simp
theorem wrap_toNat64 (a : BitVec 64) : IntKind.u64.wrap (a.toNat : Int) = (a.toNat : Int) := by
  rw [u64_wrap]; have := a.isLt; omega
theorem bits_andB (a b : BitVec 64) : bits .and .u64 (a.toNat : Int) (b.toNat : Int) = ((a &&& b).toNat : Int) := by
  unfold bits; simp only [ofInt_toNat64]; exact wrap_toNat64 (a &&& b)
theorem bits_orB (a b : BitVec 64) : bits .or .u64 (a.toNat : Int) (b.toNat : Int) = ((a ||| b).toNat : Int) := by
  unfold bits; simp only [ofInt_toNat64]; exact wrap_toNat64 (a ||| b)
theorem toNat_inj64 {a b : BitVec 64} : ((a.toNat : Int) = (b.toNat : Int)) ↔ a = b := ⟨fun h => BitVec.eq_of_toNat_eq (by omega), fun h => by rw [h]⟩
section
variable {P : Program} {κ : Ctx} {N : Nat} {Q : Exit → Act → World → Prop} {L : Env} {I J : List Item}
variable {d : Option Tmp} {ty : TypeId} {ps : String} {af : Array Edge} {gd : Option (Nat × Bool)}
variable {x y : Operand} {T U : TypeId} {a b : BitVec 64}
theorem Runs.andB (hx : evalO L x = some (U64 a)) (hy : evalO L y = some (U64 b)) : Runs P κ N ⟨d, .binOp .and T x y U, ty, ps, af, gd⟩ L J (U64 (a &&& b)) :=
  fun act w ha _ => by simp only [execOp, ha.eval hx, ha.eval hy]; simp [go_sem, bits_andB]
theorem Runs.orB (hx : evalO L x = some (U64 a)) (hy : evalO L y = some (U64 b)) : Runs P κ N ⟨d, .binOp .or T x y U, ty, ps, af, gd⟩ L J (U64 (a ||| b)) :=
  fun act w ha _ => by simp only [execOp, ha.eval hx, ha.eval hy]; simp [go_sem, bits_orB]
theorem Runs.addB (hx : evalO L x = some (U64 a)) (hy : evalO L y = some (U64 b)) : Runs P κ N ⟨d, .binOp .add T x y U, ty, ps, af, gd⟩ L J (U64 (a + b)) := by
  have h := Runs.addw (P := P) (κ := κ) (N := N) (J := J) (d := d) (ty := ty) (ps := ps) (af := af) (gd := gd) (T := T) (U := U) hx hy
  have e : IntKind.u64.wrap ((a.toNat : Int) + (b.toNat : Int)) = ((a + b).toNat : Int) := by rw [u64_wrap, BitVec.toNat_add]; omega
  rwa [e] at h
theorem Runs.subB (hx : evalO L x = some (U64 a)) (hy : evalO L y = some (U64 b)) : Runs P κ N ⟨d, .binOp .sub T x y U, ty, ps, af, gd⟩ L J (U64 (a - b)) := by
  have h := Runs.subw (P := P) (κ := κ) (N := N) (J := J) (d := d) (ty := ty) (ps := ps) (af := af) (gd := gd) (T := T) (U := U) hx hy
  have e : IntKind.u64.wrap ((a.toNat : Int) - (b.toNat : Int)) = ((a - b).toNat : Int) := by rw [u64_wrap, BitVec.toNat_sub]; have := a.isLt; have := b.isLt; omega
  rwa [e] at h
theorem Runs.shlB {k' : IntKind} {n : Int} (hx : evalO L x = some (U64 a)) (hy : evalO L y = some (.int k' n)) (h0 : 0 ≤ n) (h1 : n < 64) : Runs P κ N ⟨d, .binOp .shl T x y U, ty, ps, af, gd⟩ L J (U64 (a <<< n.toNat)) := by
  have h := Runs.shlw (P := P) (κ := κ) (N := N) (J := J) (d := d) (ty := ty) (ps := ps) (af := af) (gd := gd) (T := T) (U := U) hx hy h0
  have e : IntKind.u64.wrap ((a.toNat : Int) * 2 ^ Min.min n.toNat IntKind.u64.bits) = ((a <<< n.toNat).toNat : Int) := by
    have hm : Min.min n.toNat IntKind.u64.bits = n.toNat := by show Min.min n.toNat 64 = _; omega
    have hc : ((a.toNat : Int) * 2 ^ n.toNat) = ((a.toNat * 2 ^ n.toNat : Nat) : Int) := by rw [Int.natCast_mul, Int.natCast_pow]; rfl
    rw [hm, u64_wrap, BitVec.toNat_shiftLeft, Nat.shiftLeft_eq, hc]
    generalize a.toNat * 2 ^ n.toNat = m
    omega
  rwa [e] at h
theorem Runs.shrB {k' : IntKind} {n : Int} (hx : evalO L x = some (U64 a)) (hy : evalO L y = some (.int k' n)) (h0 : 0 ≤ n) (h1 : n < 64) : Runs P κ N ⟨d, .binOp .shr T x y U, ty, ps, af, gd⟩ L J (U64 (a >>> n.toNat)) := by
  have h := Runs.shrw (P := P) (κ := κ) (N := N) (J := J) (d := d) (ty := ty) (ps := ps) (af := af) (gd := gd) (T := T) (U := U) hx hy h0
  have e : (a.toNat : Int).fdiv (2 ^ Min.min n.toNat IntKind.u64.bits) = ((a >>> n.toNat).toNat : Int) := by
    have hm : Min.min n.toNat IntKind.u64.bits = n.toNat := by show Min.min n.toNat 64 = _; omega
    rw [hm, BitVec.toNat_ushiftRight, Nat.shiftRight_eq_div_pow, Int.fdiv_eq_ediv_of_nonneg _ (Int.pow_nonneg (by decide))]
    push_cast; rfl
  rwa [e] at h
theorem Runs.eqB (hx : evalO L x = some (U64 a)) (hy : evalO L y = some (U64 b)) : Runs P κ N ⟨d, .binOp .eql T x y U, ty, ps, af, gd⟩ L J (.bool (decide (a = b))) := by
  have h := Runs.eql (P := P) (κ := κ) (N := N) (J := J) (d := d) (ty := ty) (ps := ps) (af := af) (gd := gd) (T := T) (U := U) hx hy
  rwa [decide_eq_decide.2 (toNat_inj64 (a := a) (b := b))] at h
theorem Runs.neB (hx : evalO L x = some (U64 a)) (hy : evalO L y = some (U64 b)) : Runs P κ N ⟨d, .binOp .neq T x y U, ty, ps, af, gd⟩ L J (.bool (decide (a ≠ b))) := by
  have h := Runs.neq (P := P) (κ := κ) (N := N) (J := J) (d := d) (ty := ty) (ps := ps) (af := af) (gd := gd) (T := T) (U := U) hx hy
  rwa [decide_eq_decide.2 (not_congr (toNat_inj64 (a := a) (b := b)))] at h
theorem Runs.toI {S : TypeId} {q : IntKind} (hs : P.underlying S = some (.int q)) (ht : P.underlying T = some (.int .i64)) (hx : evalO L x = some (U64 a)) (hr : a.toNat < 9223372036854775808) : Runs P κ N ⟨d, .convert S T x, ty, ps, af, gd⟩ L J (I64 (a.toNat : Int)) :=
  Runs.convI hs ht hx (by unfold InR; omega)
/-- x & (2^k - 1) of a number that is not negative -/
theorem Runs.and127 {n : Int} (hx : evalO L x = some (I64 n)) (hy : evalO L y = some (I64 127)) (h0 : 0 ≤ n) : Runs P κ N ⟨d, .binOp .and T x y U, ty, ps, af, gd⟩ L J (I64 (n % 128)) :=
  fun act w ha _ => by
    simp only [execOp, ha.eval hx, ha.eval hy]
    obtain ⟨m, rfl⟩ : ∃ m : Nat, n = (m : Int) := ⟨n.toNat, by omega⟩
    have e : bits .and .i64 (m : Int) 127 = (m : Int) % 128 := by
      have e1 : (BitVec.ofInt 64 (m : Int) &&& BitVec.ofInt 64 127).toNat = m % 128 := by
        rw [BitVec.toNat_and, BitVec.toNat_ofInt, BitVec.toNat_ofInt, show ((127 : Int) % (2 ^ 64 : Nat)).toNat = 2 ^ 7 - 1 by decide, Nat.and_two_pow_sub_one_eq_mod]
        omega
      unfold bits
      show IntKind.i64.wrap ((BitVec.ofInt 64 (m : Int) &&& BitVec.ofInt 64 127).toNat : Int) = _
      rw [e1, IntKind.wrap_i64]; omega
    simp [go_sem, e]
end
end Go.Sl
namespace Go.Sl
open Go.Proofs
set_option linter.unusedVariables false
set_option linter.unusedSimpArgs false
set_option maxRecDepth 4000
def bitB (v : Int) : BitVec 64 := if v < 0 ∨ 64 ≤ v then 0#64 else 1#64 <<< v.toNat
def maskB (l : List Int) : BitVec 64 := l.foldl (fun m v => m ||| bitB v) 0#64
def allB (n : Int) : BitVec 64 := if n ≤ 0 then 0#64 else if 64 ≤ n then 18446744073709551615#64 else (1#64 <<< n.toNat) - 1#64
theorem maskB_take {l : List Int} {k : Nat} (h : k < l.length) : maskB (l.take (k + 1)) = maskB (l.take k) ||| bitB (at_ l (k : Int)) := by
  unfold maskB; rw [take_at l k h, List.foldl_append]; rfl
/-- The number of bits, as the library counts them. -/
def ones1 (m : BitVec 64) : BitVec 64 := ((m >>> (1 : Int).toNat) &&& 6148914691236517205#64) + (m &&& 6148914691236517205#64)
def ones2 (m : BitVec 64) : BitVec 64 := ((m >>> (2 : Int).toNat) &&& 3689348814741910323#64) + (m &&& 3689348814741910323#64)
def ones3 (m : BitVec 64) : BitVec 64 := ((m >>> (4 : Int).toNat) + m) &&& 1085102592571150095#64
def ones4 (m : BitVec 64) : BitVec 64 := m + (m >>> (8 : Int).toNat)
def ones5 (m : BitVec 64) : BitVec 64 := m + (m >>> (16 : Int).toNat)
def ones6 (m : BitVec 64) : BitVec 64 := m + (m >>> (32 : Int).toNat)
def onesB (m : BitVec 64) : Int := ((ones6 (ones5 (ones4 (ones3 (ones2 (ones1 m)))))).toNat : Int) % 128
theorem ones_small (m : BitVec 64) : (ones6 (ones5 (ones4 (ones3 m)))).toNat < 9223372036854775808 := by
  have h3 : (ones3 m).toNat ≤ 1085102592571150095 := by unfold ones3; rw [BitVec.toNat_and]; exact Nat.and_le_right
  generalize ones3 m = a at h3
  have h4 : (ones4 a).toNat ≤ a.toNat + a.toNat / 256 := by
    unfold ones4; rw [BitVec.toNat_add, BitVec.toNat_ushiftRight, Nat.shiftRight_eq_div_pow, show 2 ^ (8 : Int).toNat = 256 by decide]; exact Nat.mod_le _ _
  generalize ones4 a = b at h4
  have h5 : (ones5 b).toNat ≤ b.toNat + b.toNat / 65536 := by
    unfold ones5; rw [BitVec.toNat_add, BitVec.toNat_ushiftRight, Nat.shiftRight_eq_div_pow, show 2 ^ (16 : Int).toNat = 65536 by decide]; exact Nat.mod_le _ _
  generalize ones5 b = c at h5
  have h6 : (ones6 c).toNat ≤ c.toNat + c.toNat / 4294967296 := by
    unfold ones6; rw [BitVec.toNat_add, BitVec.toNat_ushiftRight, Nat.shiftRight_eq_div_pow, show 2 ^ (32 : Int).toNat = 4294967296 by decide]; exact Nat.mod_le _ _
  omega

theorem Bit_ok {κ : Ctx} {I : List Item} (v : Int) :
    CallS Tryz.prog κ 75 [I64 (v)] I (fun r J => r = U64 (bitB v) ∧ I = J) := by
 refine CallS.enter (L := [(0, I64 (v))]) Tryz.func75 rfl rfl rfl rfl ?_
 refine W.sr ?_
 refine G.r (Runs.assign rfl) ?_
 refine G.nt ?_
 refine W.seq ?_
 refine W.sr ?_
 refine G.r (Runs.move rfl) ?_
 refine G.r (Runs.lss rfl rfl) ?_
 refine G.r (Runs.move rfl) ?_
 refine G.split (d := 5) rfl (fun g5 => ?_) (fun g5 => ?_)
 ·refine G.po ?_
  refine G.po ?_
  refine G.r (Runs.pickt rfl rfl) ?_
  refine G.nt ?_
  refine W.yes rfl ?_
  refine W.sr ?_
  refine G.r (Runs.assign rfl) ?_
  refine G.nt ?_
  refine W.ret ?_
  refine V.then_ret ?_
  exact V.ret1 rfl rfl (I) Fit.m ⟨by unfold bitB; rw [if_pos (by omega)]; rfl, rfl⟩
 ·refine G.ro (Runs.move rfl) ?_
  refine G.ro (Runs.geq rfl rfl) ?_
  refine G.r (Runs.pickf rfl rfl) ?_
  refine G.nt ?_
  refine W.ite rfl (fun c8 => ?_) (fun c8 => ?_)
  ·refine W.sr ?_
   refine G.r (Runs.assign rfl) ?_
   refine G.nt ?_
   refine W.ret ?_
   refine V.then_ret ?_
   exact V.ret1 rfl rfl (I) Fit.m ⟨by unfold bitB; rw [if_pos (by omega)]; rfl, rfl⟩
  ·refine W.skip ?_
   refine V.then ?_
   refine W.sr ?_
   refine G.r (Runs.move rfl) ?_
   refine G.r (Runs.shlB (a := 1#64) rfl rfl (by omega) (by omega)) ?_
   refine G.r (Runs.assign rfl) ?_
   refine G.nt ?_
   refine W.ret ?_
   exact V.ret1 rfl rfl (I) Fit.m ⟨by unfold bitB; rw [if_neg (by omega)], rfl⟩

theorem MaskOf_ok {κ : Ctx} {I : List Item} {v : Value} {l : List Int} (hl : Sl κ I v l) :
    CallS Tryz.prog κ 61 [v] I (fun r J => r = U64 (maskB l) ∧ I = J) := by
 refine CallS.pull hl.le fun hmax => ?_
 refine CallS.enter (L := [(0, v)]) Tryz.func61 rfl rfl rfl rfl ?_
 refine W.sr ?_
 refine G.r (Runs.assign rfl) ?_
 refine G.nt ?_
 refine W.sr ?_
 refine G.r (Runs.assign rfl) ?_
 refine G.nt ?_
 refine W.seq ?_
 refine W.sr ?_
 refine G.r (Runs.move rfl) ?_
 refine G.r (Runs.lenT (α := Int) (xs := l) Tryz.underlying22 rfl (Sl.f hl)) ?_
 refine G.r (Runs.move rfl) ?_
 refine G.nt ?_
 refine W.block ?_
 refine W.loop (σ := Nat × (BitVec 64)) (fun s => ([(3, U64 (s.2)), (6, v), (7, I64 (((l.length : Nat) : Int))), (8, I64 (((s.1 : Nat) : Int)))] : Env)) (fun s => I) (fun s => (s.1 ≤ l.length) ∧ (s.2 = maskB (l.take s.1))) (fun s => l.length - s.1) (0, 0#64) (show ((0 : Nat) ≤ l.length) ∧ ((0#64 : BitVec 64) = maskB (l.take (0 : Nat))) from ⟨(by omega), rfl⟩) (Sub.cons (lookV rfl (by first | rfl | simp)) (Sub.cons rfl (Sub.cons rfl (Sub.cons lookO Sub.nil)))) (show Fit κ _ (I) from Fit.sub) ?_
 rintro ⟨k, m⟩ hp
 obtain ⟨hk, hm⟩ : (k ≤ l.length) ∧ (m = maskB (l.take k)) := hp
 show W Tryz.prog κ 18 _ _ ([(3, U64 (m)), (6, v), (7, I64 (((l.length : Nat) : Int))), (8, I64 (((k : Nat) : Int)))] : Env) (I)
 refine W.sr ?_
 refine G.r (Runs.lss rfl rfl) ?_
 refine G.nt ?_
 refine W.seq ?_
 refine W.ite rfl (fun c9 => ?_) (fun c9 => ?_)
 ·refine W.skip ?_
  refine V.then ?_
  refine W.seq ?_
  refine W.block ?_
  refine W.sr ?_
  refine G.r (Runs.idx (α := Int) (xs := l) Tryz.underlying22 ty3 rfl rfl (Sl.f hl) (by omega) (by omega)) ?_
  refine G.r (Runs.get (xs := l) ty3 rfl (Sl.f hl) (by omega) (by omega)) ?_
  refine G.r (Runs.assign rfl) ?_
  refine G.nt ?_
  refine W.region ?_
  refine G.r (Runs.move rfl) ?_
  refine G.r (Runs.move rfl) ?_
  refine G.e (Eff.call call75 rfl rfl (Bit_ok (at_ l ((k : Nat) : Int)))) ?_
  rintro _ _ ⟨_, _, ⟨rfl, rfl⟩, rfl, rfl⟩
  refine G.r (Runs.orB (a := m) (b := bitB (at_ l ((k : Nat) : Int))) rfl rfl) ?_
  refine G.r (Runs.assign rfl) ?_
  refine G.nil ?_
  refine V.block_normal ?_
  refine V.then ?_
  refine W.region ?_
  refine G.r (Runs.add rfl rfl (by unfold InR; omega)) ?_
  refine G.r (Runs.move rfl) ?_
  refine G.nil ?_
  exact V.next ((k + 1), (m ||| (bitB (at_ l ((k : Nat) : Int))))) (show ((k + 1 : Nat) ≤ l.length) ∧ ((m ||| (bitB (at_ l ((k : Nat) : Int))) : BitVec 64) = maskB (l.take (k + 1 : Nat))) from ⟨(by omega), (by rw [maskB_take (by omega), ← hm])⟩) (show l.length - (k + 1 : Nat) < l.length - k from (by omega)) (Sub.cons (lookV rfl (by first | rfl | simp)) (Sub.cons rfl (Sub.cons rfl (Sub.cons lookO Sub.nil)))) (show Fit κ _ (I) from Fit.sub)
 ·refine W.exit ?_
  refine V.then_exit ?_
  refine V.then_exit ?_
  refine V.block_hit ?_
  refine V.then ?_
  refine W.sr ?_
  refine G.r (Runs.move rfl) ?_
  refine G.r (Runs.assign rfl) ?_
  refine G.nt ?_
  refine W.ret ?_
  rw [List.take_of_length_le (by omega)] at hm
  exact V.ret1 rfl rfl (I) Fit.m ⟨by rw [hm], rfl⟩

theorem MaskAll_ok {κ : Ctx} {I : List Item} (n : Int) :
    CallS Tryz.prog κ 62 [I64 (n)] I (fun r J => r = U64 (allB n) ∧ I = J) := by
 refine CallS.enter (L := [(0, I64 (n))]) Tryz.func62 rfl rfl rfl rfl ?_
 refine W.sr ?_
 refine G.r (Runs.assign rfl) ?_
 refine G.nt ?_
 refine W.seq ?_
 refine W.block ?_
 refine W.sr ?_
 refine G.r (Runs.move rfl) ?_
 refine G.r (Runs.leq rfl rfl) ?_
 refine G.r (Runs.assign rfl) ?_
 refine G.nt ?_
 refine W.ite rfl (fun c3 => ?_) (fun c3 => ?_)
 ·refine W.sr ?_
  refine G.r (Runs.assign rfl) ?_
  refine G.nt ?_
  refine W.ret ?_
  refine V.block_ret ?_
  refine V.then_ret ?_
  exact V.ret1 rfl rfl (I) Fit.m ⟨by unfold allB; rw [if_pos (by omega)]; rfl, rfl⟩
 ·refine W.sr ?_
  refine G.r (Runs.move rfl) ?_
  refine G.r (Runs.geq rfl rfl) ?_
  refine G.r (Runs.assign rfl) ?_
  refine G.nt ?_
  refine W.ite rfl (fun c6 => ?_) (fun c6 => ?_)
  ·refine W.sr ?_
   refine G.r (Runs.assign rfl) ?_
   refine G.nt ?_
   refine W.ret ?_
   refine V.block_ret ?_
   refine V.then_ret ?_
   exact V.ret1 rfl rfl (I) Fit.m ⟨by unfold allB; rw [if_neg (by omega), if_pos (by omega)]; rfl, rfl⟩
  ·refine W.skip ?_
   refine V.block_normal ?_
   refine V.then ?_
   refine W.sr ?_
   refine G.r (Runs.move rfl) ?_
   refine G.r (Runs.shlB (a := 1#64) rfl rfl (by omega) (by omega)) ?_
   refine G.r (Runs.subB (a := (1#64) <<< (n).toNat) (b := 1#64) rfl rfl) ?_
   refine G.r (Runs.assign rfl) ?_
   refine G.nt ?_
   refine W.ret ?_
   exact V.ret1 rfl rfl (I) Fit.m ⟨by unfold allB; rw [if_neg (by omega), if_neg (by omega)], rfl⟩

theorem OnesCount_ok {κ : Ctx} {I : List Item} (m : BitVec 64) :
    CallS Tryz.prog κ 113 [U64 (m)] I (fun r J => r = I64 (onesB m) ∧ I = J) := by
 refine CallS.enter (L := [(0, U64 (m))]) Tryz.func113 rfl rfl rfl rfl ?_
 refine W.sr ?_
 refine G.r (Runs.assign rfl) ?_
 refine G.nt ?_
 refine W.sr ?_
 refine G.r (Runs.move rfl) ?_
 refine G.r (Runs.shrB (a := m) rfl rfl (by omega) (by omega)) ?_
 refine G.r (Runs.andB (a := m >>> (1 : Int).toNat) (b := 6148914691236517205#64) rfl rfl) ?_
 refine G.r (Runs.move rfl) ?_
 refine G.r (Runs.andB (a := m) (b := 6148914691236517205#64) rfl rfl) ?_
 refine G.r (Runs.addB (a := (m >>> (1 : Int).toNat) &&& (6148914691236517205#64)) (b := m &&& (6148914691236517205#64)) rfl rfl) ?_
 refine G.r (Runs.assign rfl) ?_
 generalize hm1 : ((m >>> (1 : Int).toNat) &&& (6148914691236517205#64)) + (m &&& (6148914691236517205#64)) = m1
 refine G.nt ?_
 refine W.sr ?_
 refine G.r (Runs.move rfl) ?_
 refine G.r (Runs.shrB (a := m1) rfl rfl (by omega) (by omega)) ?_
 refine G.r (Runs.andB (a := m1 >>> (2 : Int).toNat) (b := 3689348814741910323#64) rfl rfl) ?_
 refine G.r (Runs.move rfl) ?_
 refine G.r (Runs.andB (a := m1) (b := 3689348814741910323#64) rfl rfl) ?_
 refine G.r (Runs.addB (a := (m1 >>> (2 : Int).toNat) &&& (3689348814741910323#64)) (b := m1 &&& (3689348814741910323#64)) rfl rfl) ?_
 refine G.r (Runs.assign rfl) ?_
 generalize hm2 : ((m1 >>> (2 : Int).toNat) &&& (3689348814741910323#64)) + (m1 &&& (3689348814741910323#64)) = m2
 refine G.nt ?_
 refine W.sub (L' := [(0, _)]) (Sub.cons rfl Sub.nil) ?_
 refine W.sr ?_
 refine G.r (Runs.move rfl) ?_
 refine G.r (Runs.shrB (a := m2) rfl rfl (by omega) (by omega)) ?_
 refine G.r (Runs.move rfl) ?_
 refine G.r (Runs.addB (a := m2 >>> (4 : Int).toNat) (b := m2) rfl rfl) ?_
 refine G.r (Runs.andB (a := (m2 >>> (4 : Int).toNat) + m2) (b := 1085102592571150095#64) rfl rfl) ?_
 refine G.r (Runs.assign rfl) ?_
 generalize hm3 : ((m2 >>> (4 : Int).toNat) + m2) &&& (1085102592571150095#64) = m3
 refine G.nt ?_
 refine W.sr ?_
 refine G.r (Runs.move rfl) ?_
 refine G.r (Runs.move rfl) ?_
 refine G.r (Runs.shrB (a := m3) rfl rfl (by omega) (by omega)) ?_
 refine G.r (Runs.addB (a := m3) (b := m3 >>> (8 : Int).toNat) rfl rfl) ?_
 refine G.r (Runs.assign rfl) ?_
 generalize hm4 : m3 + (m3 >>> (8 : Int).toNat) = m4
 refine G.nt ?_
 refine W.sr ?_
 refine G.r (Runs.move rfl) ?_
 refine G.r (Runs.move rfl) ?_
 refine G.r (Runs.shrB (a := m4) rfl rfl (by omega) (by omega)) ?_
 refine G.r (Runs.addB (a := m4) (b := m4 >>> (16 : Int).toNat) rfl rfl) ?_
 refine G.r (Runs.assign rfl) ?_
 generalize hm5 : m4 + (m4 >>> (16 : Int).toNat) = m5
 refine G.nt ?_
 refine W.sub (L' := [(0, _)]) (Sub.cons rfl Sub.nil) ?_
 refine W.sr ?_
 refine G.r (Runs.move rfl) ?_
 refine G.r (Runs.move rfl) ?_
 refine G.r (Runs.shrB (a := m5) rfl rfl (by omega) (by omega)) ?_
 refine G.r (Runs.addB (a := m5) (b := m5 >>> (32 : Int).toNat) rfl rfl) ?_
 refine G.r (Runs.assign rfl) ?_
 generalize hm6 : m5 + (m5 >>> (32 : Int).toNat) = m6
 refine G.nt ?_
 refine W.sr ?_
 refine G.r (Runs.move rfl) ?_
 refine G.r (Runs.toI Tryz.underlying86 Tryz.underlying3 rfl (by subst hm6 hm5 hm4 hm3; exact ones_small _)) ?_
 refine G.r (Runs.and127 rfl rfl (by omega)) ?_
 refine G.r (Runs.assign rfl) ?_
 refine G.nt ?_
 refine W.ret ?_
 exact V.ret1 rfl rfl (I) Fit.m ⟨by subst hm6 hm5 hm4 hm3 hm2 hm1; rfl, rfl⟩

theorem MCount_ok {κ : Ctx} {I : List Item} (m : BitVec 64) :
    CallS Tryz.prog κ 57 [U64 (m)] I (fun r J => r = I64 (onesB m) ∧ I = J) := by
 refine CallS.enter (L := [(0, U64 (m))]) Tryz.func57 rfl rfl rfl rfl ?_
 refine W.sr ?_
 refine G.r (Runs.assign rfl) ?_
 refine G.nt ?_
 refine W.sr ?_
 refine G.r (Runs.move rfl) ?_
 refine G.e (Eff.call call113 rfl rfl (OnesCount_ok m)) ?_
 rintro _ _ ⟨_, _, ⟨rfl, rfl⟩, rfl, rfl⟩
 refine G.r (Runs.assign rfl) ?_
 refine G.nt ?_
 refine W.ret ?_
 exact V.ret1 rfl rfl (I) Fit.m ⟨rfl, rfl⟩

end Go.Sl
namespace Go.Sl
open Go.Proofs
set_option linter.unusedVariables false
set_option linter.unusedSimpArgs false
set_option maxRecDepth 4000
theorem bitB_two {v : Int} (h0 : 0 ≤ v) (h1 : v < 64) : bitB v = BitVec.twoPow 64 v.toNat := by
  unfold bitB; rw [if_neg (by omega)]; rfl
theorem getLsb_bitB {v : Int} {i : Nat} (hi : i < 64) : (bitB v).getLsbD i = decide (v = (i : Int)) := by
  by_cases h : 0 ≤ v ∧ v < 64
  · rw [bitB_two h.1 h.2, BitVec.getLsbD_twoPow]
    have e : (v.toNat = i) ↔ (v = (i : Int)) := by omega
    simp [hi, h, e]
  · unfold bitB
    rw [if_pos (by omega)]
    have : ¬ v = (i : Int) := by omega
    simp [this]
theorem getLsb_maskB {i : Nat} (hi : i < 64) : ∀ (l : List Int) (m : BitVec 64), (l.foldl (fun m v => m ||| bitB v) m).getLsbD i = (m.getLsbD i || decide ((i : Int) ∈ l))
  | [], m => by simp
  | v :: l, m => by
    rw [List.foldl_cons, getLsb_maskB hi l, BitVec.getLsbD_or, getLsb_bitB hi]
    by_cases h1 : v = (i : Int)
    · simp [h1]
    · have : ¬ (i : Int) = v := fun e => h1 e.symm
      simp [h1, this]
theorem mem_maskB {l : List Int} {v : Int} (h0 : 0 ≤ v) (h1 : v < 64) : (maskB l &&& bitB v ≠ 0#64) ↔ v ∈ l := by
  have hm : (maskB l).getLsbD v.toNat = decide (v ∈ l) := by
    unfold maskB; rw [getLsb_maskB (by omega), show ((v.toNat : Nat) : Int) = v by omega]; simp
  rw [bitB_two h0 h1, BitVec.and_twoPow, hm]
  by_cases h : v ∈ l
  · simp only [h, decide_true, if_true, iff_true]
    intro e
    have := congrArg (fun b => BitVec.getLsbD b v.toNat) e
    simp only [BitVec.getLsbD_twoPow] at this
    simp at this
    omega
  · simp [h]
/-- The edges within a set. -/
def inE (set : List Int) (e : Pt) : Bool := decide ((maskB set &&& bitB e.u ≠ 0#64) ∧ (maskB set &&& bitB e.v ≠ 0#64))
def insideL (set : List Int) (es : List Pt) : List Pt := es.filter (inE set)
theorem inE_eq {nd : Int} {es : List Pt} {set : List Int} (h : GrOk nd es) {e : Pt} (he : e ∈ es) : inE set e = decide (e.u ∈ set ∧ e.v ∈ set) := by
  have := h.edge e he; have := h.rng
  unfold inE
  rw [decide_eq_decide, mem_maskB (by omega) (by omega), mem_maskB (by omega) (by omega)]
theorem insideL_eq {nd : Int} {es : List Pt} (set : List Int) (h : GrOk nd es) : insideL set es = es.filter fun e => decide (e.u ∈ set ∧ e.v ∈ set) :=
  List.filter_congr fun e he => inE_eq h he
def insideN (nd : Int) (es : List Pt) (set : List Int) : Nat := if checkG nd es ≠ 0 then 0 else (insideL set es).length
theorem insideN_le (nd : Int) (es : List Pt) (set : List Int) : insideN nd es set ≤ es.length := by
  unfold insideN; split
  · exact Nat.zero_le _
  · exact List.length_filter_le _ _

theorem WithinG_ok {κ : Ctx} {I : List Item} {nd : Int} {va vb : Value} {es : List Pt} {set : List Int} (hl : Sl κ I va es) (hs : Sl κ I vb set) (hb : es.length ≤ 1000000) :
    CallS Tryz.prog κ 59 [.agg #[I64 (nd), va], vb] I (fun r J => ∃ a c, r = .slice a (insideL set es).length c ∧ J = vc 52 (.slice a (insideL set es).length c) (insideL set es) :: I) := by
 refine CallS.pull hl.le fun hmax => ?_
 refine CallS.enter (L := [(0, .agg #[I64 (nd), va]), (1, vb)]) Tryz.func59 rfl rfl rfl rfl ?_
 refine W.sr ?_
 refine G.e (Eff.box (cs := [_, _]) rfl rfl rfl) ?_
 rintro _ _ ⟨b1, rfl, rfl⟩
 refine G.r (Runs.assign rfl) ?_
 refine G.nt ?_
 refine W.sr ?_
 refine G.r (Runs.move rfl) ?_
 refine G.e (Eff.call call61 rfl rfl (MaskOf_ok (Sl.f hs))) ?_
 rintro _ _ ⟨_, _, ⟨rfl, rfl⟩, rfl, rfl⟩
 refine G.r (Runs.assign rfl) ?_
 refine G.nt ?_
 refine W.sr ?_
 refine G.r (Runs.assign rfl) ?_
 refine G.nt ?_
 refine W.seq ?_
 refine W.sr ?_
 refine G.r (Runs.fieldAddr fld28_1 rfl) ?_
 refine G.r (Runs.ld ty26) ?_
 refine G.r (Runs.lenT (α := Pt) (xs := es) Tryz.underlying26 rfl (Sl.f hl)) ?_
 refine G.r (Runs.move rfl) ?_
 refine G.nt ?_
 refine W.block ?_
 refine W.loop (σ := Nat × (Option Addr) × Nat × (List Pt)) (fun s => ([(5, U64 (maskB set)), (6, .slice s.2.1 s.2.2.2.length s.2.2.1), (12, va), (13, I64 (((es.length : Nat) : Int))), (14, I64 (((s.1 : Nat) : Int)))] : Env)) (fun s => vc 52 (.slice s.2.1 s.2.2.2.length s.2.2.1) (s.2.2.2) :: blk b1 [I64 (nd), va] 28 :: I) (fun s => (s.1 ≤ es.length) ∧ (s.2.2.2 = (es.take s.1).filter (inE set))) (fun s => es.length - s.1) (0, none, 0, []) (show ((0 : Nat) ≤ es.length) ∧ (([] : List Pt) = (es.take (0 : Nat)).filter (inE set)) from ⟨(by omega), rfl⟩) (Sub.cons rfl (Sub.cons (lookV rfl (by first | rfl | simp)) (Sub.cons rfl (Sub.cons rfl (Sub.cons lookO Sub.nil))))) (show Fit κ _ (vc 52 (.slice (none) ([]).length (0)) (([])) :: blk b1 [I64 (nd), va] 28 :: I) from (Fit.nilvc _ _)) ?_
 rintro ⟨k, a, c, out⟩ hp
 obtain ⟨hk, ho⟩ : (k ≤ es.length) ∧ (out = (es.take k).filter (inE set)) := hp
 show W Tryz.prog κ 38 _ _ ([(5, U64 (maskB set)), (6, .slice a out.length c), (12, va), (13, I64 (((es.length : Nat) : Int))), (14, I64 (((k : Nat) : Int)))] : Env) (vc 52 (.slice a out.length c) (out) :: blk b1 [I64 (nd), va] 28 :: I)
 have hol : out.length ≤ es.length := by rw [ho]; refine Nat.le_trans (List.length_filter_le _ _) ?_; simp only [List.length_take]; omega
 refine W.sr ?_
 refine G.r (Runs.lss rfl rfl) ?_
 refine G.nt ?_
 refine W.seq ?_
 refine W.ite rfl (fun c15 => ?_) (fun c15 => ?_)
 ·refine W.skip ?_
  refine V.then ?_
  refine W.seq ?_
  refine W.block ?_
  refine W.sr ?_
  refine G.r (Runs.idx (α := Pt) (xs := es) Tryz.underlying26 ty52 rfl rfl (Sl.f hl) (by omega) (by omega)) ?_
  refine G.r (Runs.gets (α := Pt) (xs := es) ty52 rfl (Sl.f hl) (by omega) (by omega)) ?_
  refine G.e (Eff.alloc ty52 rfl) ?_
  rintro _ _ ⟨b2, rfl, rfl⟩
  refine G.e (Eff.st (cs := [_, _]) (vs := [_, _]) (cs' := [_, _]) ty52) ?_
  rintro _ _ ⟨rfl, rfl⟩
  refine G.nt ?_
  refine W.sr ?_
  refine G.r (Runs.move rfl) ?_
  refine G.r (Runs.fieldAddr fld52_0 rfl) ?_
  refine G.r (Runs.ld ty3) ?_
  refine G.e (Eff.call call75 rfl rfl (Bit_ok ((at_ es ((k : Nat) : Int)).u))) ?_
  rintro _ _ ⟨_, _, ⟨rfl, rfl⟩, rfl, rfl⟩
  refine G.r (Runs.andB (a := maskB set) (b := bitB ((at_ es ((k : Nat) : Int)).u)) rfl rfl) ?_
  refine G.r (Runs.neB (a := (maskB set) &&& (bitB ((at_ es ((k : Nat) : Int)).u))) (b := 0#64) rfl rfl) ?_
  refine G.r (Runs.move rfl) ?_
  refine G.split (d := 24) rfl (fun g24 => ?_) (fun g24 => ?_)
  ·refine G.ro (Runs.move rfl) ?_
   refine G.ro (Runs.fieldAddr fld52_1 rfl) ?_
   refine G.ro (Runs.ld ty3) ?_
   refine G.eff (Wanted.on rfl rfl rfl) (Eff.call call75 rfl rfl (Bit_ok ((at_ es ((k : Nat) : Int)).v))) ?_
   rintro _ _ ⟨_, _, ⟨rfl, rfl⟩, rfl, rfl⟩
   refine G.ro (Runs.andB (a := maskB set) (b := bitB ((at_ es ((k : Nat) : Int)).v)) rfl rfl) ?_
   refine G.ro (Runs.neB (a := (maskB set) &&& (bitB ((at_ es ((k : Nat) : Int)).v))) (b := 0#64) rfl rfl) ?_
   refine G.r (Runs.pickt rfl rfl) ?_
   refine G.nt ?_
   refine W.sub (L' := [(31, _), (8, _), (5, _), (6, _), (12, _), (13, _), (14, _)]) (Sub.cons rfl (Sub.cons rfl (Sub.cons rfl (Sub.cons rfl (Sub.cons rfl (Sub.cons rfl (Sub.cons rfl Sub.nil))))))) ?_
   refine W.ite rfl (fun c31 => ?_) (fun c31 => ?_)
   ·refine W.region ?_
    refine G.r (Runs.move rfl) ?_
    refine G.r (Runs.lds (vs := [_, _]) ty52) ?_
    refine G.e (Eff.bs (α := Pt) (cs := [_, _]) (xs := [⟨(at_ es ((k : Nat) : Int)).u, (at_ es ((k : Nat) : Int)).v⟩]) Tryz.underlying26 ty52 rfl rfl (by decide) (by decide) rfl rfl rfl rfl) ?_
    rintro _ _ ⟨ad3, rfl, rfl⟩
    refine G.e (Eff.app (α := Pt) (e := 52) (xs := out) (ys := ([⟨(at_ es ((k : Nat) : Int)).u, (at_ es ((k : Nat) : Int)).v⟩] : List Pt)) Tryz.underlying26 ty52 rfl rfl rfl (by repeat (first | exact List.mem_cons_self | apply List.mem_cons_of_mem)) Sl.o (by simp only [List.length_cons, List.length_nil]; omega) (by decide) rfl (fun _ _ => (by repeat (first | exact At.head _ _ _ | apply At.tail)))) ?_
    rintro _ _ ⟨ad4, cp5, rfl, rfl⟩
    refine G.r (Runs.assign rfl) ?_
    refine G.nil ?_
    refine V.block_normal ?_
    refine V.then ?_
    refine W.region ?_
    refine G.r (Runs.add rfl rfl (by unfold InR; omega)) ?_
    refine G.r (Runs.move rfl) ?_
    refine G.nil ?_
    exact V.next ((k + 1), (ad4), (cp5), (out ++ ([⟨(at_ es ((k : Nat) : Int)).u, (at_ es ((k : Nat) : Int)).v⟩] : List Pt))) (show ((k + 1 : Nat) ≤ es.length) ∧ ((out ++ ([⟨(at_ es ((k : Nat) : Int)).u, (at_ es ((k : Nat) : Int)).v⟩] : List Pt) : List Pt) = (es.take (k + 1 : Nat)).filter (inE set)) from ⟨(by omega), (by first | rw [flt_yes (by omega) (decide_eq_true ⟨by assumption, by assumption⟩), ← ho] | rw [flt_no (by omega) (decide_eq_false (fun h => by first | exact absurd h.1 (by assumption) | exact absurd h.2 (by assumption))), ← ho])⟩) (show es.length - (k + 1 : Nat) < es.length - k from (by omega)) (Sub.cons rfl (Sub.cons (lookV rfl (by first | rfl | simp)) (Sub.cons rfl (Sub.cons rfl (Sub.cons lookO Sub.nil))))) (show Fit κ _ (vc 52 (.slice (ad4) (out ++ ([⟨(at_ es ((k : Nat) : Int)).u, (at_ es ((k : Nat) : Int)).v⟩] : List Pt)).length (cp5)) ((out ++ ([⟨(at_ es ((k : Nat) : Int)).u, (at_ es ((k : Nat) : Int)).v⟩] : List Pt))) :: blk b1 [I64 (nd), va] 28 :: I) from Fit.sub)
   ·refine W.skip ?_
    refine V.block_normal ?_
    refine V.then ?_
    refine W.region ?_
    refine G.r (Runs.add rfl rfl (by unfold InR; omega)) ?_
    refine G.r (Runs.move rfl) ?_
    refine G.nil ?_
    exact V.next ((k + 1), (a), (c), (out)) (show ((k + 1 : Nat) ≤ es.length) ∧ ((out : List Pt) = (es.take (k + 1 : Nat)).filter (inE set)) from ⟨(by omega), (by first | rw [flt_yes (by omega) (decide_eq_true ⟨by assumption, by assumption⟩), ← ho] | rw [flt_no (by omega) (decide_eq_false (fun h => by first | exact absurd h.1 (by assumption) | exact absurd h.2 (by assumption))), ← ho])⟩) (show es.length - (k + 1 : Nat) < es.length - k from (by omega)) (Sub.cons rfl (Sub.cons (lookV rfl (by first | rfl | simp)) (Sub.cons rfl (Sub.cons rfl (Sub.cons lookO Sub.nil))))) (show Fit κ _ (vc 52 (.slice (a) (out).length (c)) ((out)) :: blk b1 [I64 (nd), va] 28 :: I) from Fit.sub)
  ·refine G.po ?_
   refine G.po ?_
   refine G.po ?_
   refine G.po ?_
   refine G.po ?_
   refine G.po ?_
   refine G.r (Runs.pickf rfl rfl) ?_
   refine G.nt ?_
   refine W.sub (L' := [(31, _), (8, _), (5, _), (6, _), (12, _), (13, _), (14, _)]) (Sub.cons rfl (Sub.cons rfl (Sub.cons rfl (Sub.cons rfl (Sub.cons rfl (Sub.cons rfl (Sub.cons rfl Sub.nil))))))) ?_
   refine W.no rfl ?_
   refine W.skip ?_
   refine V.block_normal ?_
   refine V.then ?_
   refine W.region ?_
   refine G.r (Runs.add rfl rfl (by unfold InR; omega)) ?_
   refine G.r (Runs.move rfl) ?_
   refine G.nil ?_
   exact V.next ((k + 1), (a), (c), (out)) (show ((k + 1 : Nat) ≤ es.length) ∧ ((out : List Pt) = (es.take (k + 1 : Nat)).filter (inE set)) from ⟨(by omega), (by first | rw [flt_yes (by omega) (decide_eq_true ⟨by assumption, by assumption⟩), ← ho] | rw [flt_no (by omega) (decide_eq_false (fun h => by first | exact absurd h.1 (by assumption) | exact absurd h.2 (by assumption))), ← ho])⟩) (show es.length - (k + 1 : Nat) < es.length - k from (by omega)) (Sub.cons rfl (Sub.cons (lookV rfl (by first | rfl | simp)) (Sub.cons rfl (Sub.cons rfl (Sub.cons lookO Sub.nil))))) (show Fit κ _ (vc 52 (.slice (a) (out).length (c)) ((out)) :: blk b1 [I64 (nd), va] 28 :: I) from Fit.sub)
 ·refine W.exit ?_
  refine V.then_exit ?_
  refine V.then_exit ?_
  refine V.block_hit ?_
  refine V.then ?_
  refine W.sr ?_
  refine G.r (Runs.move rfl) ?_
  refine G.r (Runs.assign rfl) ?_
  refine G.nt ?_
  refine W.ret ?_
  have hk2 : es.take k = es := List.take_of_length_le (by omega)
  rw [hk2] at ho
  have ho2 : out = insideL set es := ho
  subst ho2
  exact V.ret1 rfl rfl (vc 52 (.slice a (insideL set es).length c) (insideL set es) :: I) Fit.sub ⟨a, c, rfl, rfl⟩

theorem InsideG_ok {κ : Ctx} {I : List Item} {nd : Int} {va vb : Value} {es : List Pt} {set : List Int} (hl : Sl κ I va es) (hs : Sl κ I vb set) (hb : es.length ≤ 1000000) :
    CallS Tryz.prog κ 27 [.agg #[I64 (nd), va], vb] I (fun r J => r = I64 ((insideN nd es set : Nat) : Int) ∧ I = J) := by
 refine CallS.enter (L := [(0, .agg #[I64 (nd), va]), (1, vb)]) Tryz.func27 rfl rfl rfl rfl ?_
 refine W.sr ?_
 refine G.e (Eff.box (cs := [_, _]) rfl rfl rfl) ?_
 rintro _ _ ⟨b1, rfl, rfl⟩
 refine G.r (Runs.assign rfl) ?_
 refine G.nt ?_
 refine W.seq ?_
 refine W.sr ?_
 refine G.r (Runs.lds (vs := [_, _]) ty28) ?_
 refine G.e (Eff.call call49 rfl rfl (CheckGen_ok (Sl.f hl))) ?_
 rintro _ _ ⟨_, _, ⟨rfl, rfl⟩, rfl, rfl⟩
 refine G.r (Runs.neq rfl rfl) ?_
 refine G.nt ?_
 refine W.ite rfl (fun c7 => ?_) (fun c7 => ?_)
 ·refine W.sr ?_
  refine G.r (Runs.assign rfl) ?_
  refine G.nt ?_
  refine W.ret ?_
  refine V.then_ret ?_
  exact V.ret1 rfl rfl (I) Fit.m ⟨by unfold insideN; rw [if_pos c7]; rfl, rfl⟩
 ·refine W.skip ?_
  refine V.then ?_
  refine W.sr ?_
  refine G.r (Runs.lds (vs := [_, _]) ty28) ?_
  refine G.r (Runs.move rfl) ?_
  refine G.e (Eff.call call59 rfl rfl (WithinG_ok (Sl.f hl) (Sl.f hs) (by omega))) ?_
  rintro _ _ ⟨_, _, ⟨ad2, cp3, rfl, rfl⟩, rfl, rfl⟩
  refine G.r (Runs.lens Tryz.underlying26 rfl) ?_
  refine G.r (Runs.assign rfl) ?_
  refine G.nt ?_
  refine W.ret ?_
  exact V.ret1 rfl rfl (I) Fit.m ⟨by unfold insideN; rw [if_neg c7], rfl⟩

end Go.Sl
namespace Go.Sl
open Go.Proofs
set_option linter.unusedVariables false
set_option linter.unusedSimpArgs false
set_option maxRecDepth 4000
structure Fr where
  num : Int
  den : Int
deriving DecidableEq
instance : Inhabited Fr := ⟨⟨0, 0⟩⟩
instance : Enc Fr := ⟨fun r => [I64 r.num, I64 r.den], 2, by omega, fun _ => rfl, fun r u hu => by
  simp only [List.mem_cons, List.not_mem_nil, or_false] at hu
  rcases hu with rfl | rfl <;> rfl⟩
theorem eqt45 : EqT Tryz.prog 45 Fr := EqT.flat (fun p : Fr => [p.num, p.den]) (fun _ => rfl) (fun x y h => by cases x; cases y; simpa using h) (n := 2) (fun _ => rfl) (by kernel_rfl) (by kernel_rfl) (by kernel_rfl) (by kernel_rfl) (by kernel_rfl)
/-- The greatest common divisor. -/
def gcdI (a b : Int) : Int := ((a.toNat.gcd b.toNat : Nat) : Int)
theorem gcdI_step {a b : Int} (h0 : 0 ≤ a) (h1 : 0 < b) : gcdI b (Int.tmod a b) = gcdI a b := by
  unfold gcdI
  rw [Int.tmod_eq_emod_of_nonneg h0, show (a % b).toNat = a.toNat % b.toNat by rw [Int.toNat_emod h0 (by omega)]]
  congr 1
  rw [Nat.gcd_comm a.toNat b.toNat, Nat.gcd_rec b.toNat a.toNat, Nat.gcd_comm]
theorem gcdI_zero {a : Int} (h0 : 0 ≤ a) : gcdI a 0 = a := by unfold gcdI; simp; omega
theorem gcdI_pos {a b : Int} (h1 : 0 < b) : 0 < gcdI a b := by
  unfold gcdI
  have : 0 < a.toNat.gcd b.toNat := Nat.gcd_pos_of_pos_right _ (by omega)
  omega
theorem gcdI_le {a b : Int} (h1 : 0 < b) : gcdI a b ≤ b := by
  unfold gcdI
  have : a.toNat.gcd b.toNat ≤ b.toNat := Nat.le_of_dvd (by omega) (Nat.gcd_dvd_right _ _)
  omega
def mkF (a b : Int) : Fr := ⟨a / gcdI a b, b / gcdI a b⟩
theorem mkF_num {a b : Int} (h0 : 0 ≤ a) (h1 : 0 < b) : 0 ≤ (mkF a b).num ∧ (mkF a b).num ≤ a := ⟨Int.ediv_nonneg h0 (by have := gcdI_pos (a := a) h1; omega), Int.ediv_le_self _ h0⟩
theorem mkF_den {a b : Int} (h1 : 0 < b) : 1 ≤ (mkF a b).den ∧ (mkF a b).den ≤ b := by
  have hg := gcdI_pos (a := a) h1
  have hl := gcdI_le (a := a) h1
  exact ⟨(Int.le_ediv_iff_mul_le hg).2 (by omega), Int.ediv_le_self _ (by omega)⟩

theorem RWithin_ok {κ : Ctx} {I : List Item} (n m : Int) (h : 0 ≤ m ∧ m ≤ 9223372036854775807) :
    CallS Tryz.prog κ 114 [I64 (n), I64 (m)] I (fun r J => r = .bool (decide (-m ≤ n ∧ n ≤ m)) ∧ I = J) := by
 refine CallS.enter (L := [(0, I64 (n)), (1, I64 (m))]) Tryz.func114 rfl rfl rfl rfl ?_
 refine W.sr ?_
 refine G.r (Runs.assign rfl) ?_
 refine G.nt ?_
 refine W.sr ?_
 refine G.r (Runs.move rfl) ?_
 refine G.r (Runs.move rfl) ?_
 refine G.r (Runs.neg rfl (by unfold InR; omega)) ?_
 refine G.r (Runs.geq rfl rfl) ?_
 refine G.r (Runs.move rfl) ?_
 refine G.split (d := 9) rfl (fun g9 => ?_) (fun g9 => ?_)
 ·refine G.ro (Runs.move rfl) ?_
  refine G.ro (Runs.move rfl) ?_
  refine G.ro (Runs.leq rfl rfl) ?_
  refine G.r (Runs.pickt rfl rfl) ?_
  refine G.r (Runs.assign rfl) ?_
  refine G.nt ?_
  refine W.sub (L' := [(4, _)]) (Sub.cons rfl Sub.nil) ?_
  refine W.ret ?_
  exact V.ret1 rfl rfl (I) Fit.m ⟨(by first | exact congrArg Value.bool (decide_eq_decide.2 (by skip; omega)) | exact congrArg Value.bool (decide_eq_true (by skip; omega)).symm | exact congrArg Value.bool (decide_eq_false (by skip; omega)).symm), rfl⟩
 ·refine G.po ?_
  refine G.po ?_
  refine G.po ?_
  refine G.r (Runs.pickf rfl rfl) ?_
  refine G.r (Runs.assign rfl) ?_
  refine G.nt ?_
  refine W.sub (L' := [(4, _)]) (Sub.cons rfl Sub.nil) ?_
  refine W.ret ?_
  exact V.ret1 rfl rfl (I) Fit.m ⟨(by first | exact congrArg Value.bool (decide_eq_decide.2 (by skip; omega)) | exact congrArg Value.bool (decide_eq_true (by skip; omega)).symm | exact congrArg Value.bool (decide_eq_false (by skip; omega)).symm), rfl⟩

theorem Common_ok {κ : Ctx} {I : List Item} (a b : Int) (h0 : 0 ≤ a) (h1 : 0 ≤ b) :
    CallS Tryz.prog κ 133 [I64 (a), I64 (b)] I (fun r J => r = I64 (gcdI a b) ∧ I = J) := by
 refine CallS.enter (L := [(0, I64 (a)), (1, I64 (b))]) Tryz.func133 rfl rfl rfl rfl ?_
 refine W.sr ?_
 refine G.r (Runs.assign rfl) ?_
 refine G.nt ?_
 refine W.seq ?_
 refine W.block ?_
 refine W.loop (σ := Int × Int) (fun s => ([(0, I64 (s.1)), (1, I64 (s.2))] : Env)) (fun s => I) (fun s => (0 ≤ s.1) ∧ (0 ≤ s.2) ∧ (gcdI s.1 s.2 = gcdI a b)) (fun s => s.2.toNat) (a, b) (show (0 ≤ (a : Int)) ∧ (0 ≤ (b : Int)) ∧ (gcdI (a : Int) (b : Int) = gcdI a b) from ⟨(by omega), (by omega), rfl⟩) (Sub.cons lookO (Sub.cons lookO Sub.nil)) (show Fit κ _ (I) from Fit.sub) ?_
 rintro ⟨x, y⟩ hp
 obtain ⟨hx, hy, hg⟩ : (0 ≤ x) ∧ (0 ≤ y) ∧ (gcdI x y = gcdI a b) := hp
 show W Tryz.prog κ 12 _ _ ([(0, I64 (x)), (1, I64 (y))] : Env) (I)
 refine W.seq ?_
 refine W.sr ?_
 refine G.r (Runs.move rfl) ?_
 refine G.r (Runs.neq rfl rfl) ?_
 refine G.nt ?_
 refine W.ite rfl (fun c6 => ?_) (fun c6 => ?_)
 ·refine W.skip ?_
  refine V.then ?_
  refine W.block ?_
  refine W.drawn mixed ?_
  refine A.hold (I) 6 ?_
  refine D.r 0 rfl (Runs.move rfl) ?_
  refine D.r 1 rfl (Runs.move rfl) ?_
  refine D.r 2 rfl (Runs.move rfl) ?_
  refine D.r 3 rfl (Runs.rem rfl rfl (by omega)) ?_
  refine D.r 4 rfl (Runs.assign rfl) ?_
  refine D.r 5 rfl (Runs.assign rfl) ?_
  refine D.done (by kernel_rfl) ?_
  refine V.block_normal ?_
  have hm0 := Int.tmod_nonneg y (a := x) hx
  have hm1 := Int.tmod_lt_of_pos x (b := y) (by omega)
  exact V.next ((y), (Int.tmod x y)) (show (0 ≤ (y : Int)) ∧ (0 ≤ (Int.tmod x y : Int)) ∧ (gcdI (y : Int) (Int.tmod x y : Int) = gcdI a b) from ⟨(by omega), (by omega), ((gcdI_step hx (by omega)).trans hg)⟩) (show (Int.tmod x y : Int).toNat < y.toNat from (by omega)) (Sub.cons lookO (Sub.cons lookO Sub.nil)) (show Fit κ _ (I) from Fit.sub)
 ·refine W.exit ?_
  refine V.then_exit ?_
  refine V.then_exit ?_
  refine V.block_hit ?_
  refine V.then ?_
  refine W.sr ?_
  refine G.r (Runs.move rfl) ?_
  refine G.r (Runs.assign rfl) ?_
  refine G.nt ?_
  refine W.ret ?_
  have hy0 : y = 0 := by omega
  subst hy0
  exact V.ret1 rfl rfl (I) Fit.m ⟨by rw [← hg, gcdI_zero hx], rfl⟩

theorem Checked_ok {κ : Ctx} {I : List Item} (x : Fr) (h : 0 ≤ x.num ∧ x.num ≤ 1152921504606846976 ∧ x.den ≤ 1152921504606846976) :
    CallS Tryz.prog κ 134 [.agg #[I64 (x.num), I64 (x.den)]] I (fun r J => r = .tuple #[.agg #[I64 x.num, I64 x.den], I64 0] ∧ I = J) := by
 refine CallS.enter (L := [(0, .agg #[I64 (x.num), I64 (x.den)])]) Tryz.func134 rfl rfl rfl rfl ?_
 refine W.sr ?_
 refine G.e (Eff.box (cs := [_, _]) rfl rfl rfl) ?_
 rintro _ _ ⟨b1, rfl, rfl⟩
 refine G.e (Eff.alloc ty45 rfl) ?_
 rintro _ _ ⟨b2, rfl, rfl⟩
 refine G.r (Runs.assign rfl) ?_
 refine G.nt ?_
 refine W.seq ?_
 refine W.sr ?_
 refine G.r (Runs.fieldAddr fld45_0 rfl) ?_
 refine G.r (Runs.ld ty3) ?_
 refine G.e (Eff.call call114 rfl rfl (RWithin_ok x.num 1152921504606846976 (by omega))) ?_
 rintro _ _ ⟨_, _, ⟨rfl, rfl⟩, rfl, rfl⟩
 refine G.r (Runs.notd rfl) ?_
 refine G.r (Runs.move rfl) ?_
 refine G.split (d := 8) rfl (fun g8 => ?_) (fun g8 => ?_)
 ·exact absurd h (by omega)
 ·refine G.ro (Runs.fieldAddr fld45_1 rfl) ?_
  refine G.ro (Runs.ld ty3) ?_
  refine G.ro (Runs.gtr rfl rfl) ?_
  refine G.r (Runs.pickf rfl rfl) ?_
  refine G.nt ?_
  refine W.sub (L' := [(12, _), (2, _), (1, _)]) (Sub.cons rfl (Sub.cons rfl (Sub.cons rfl Sub.nil))) ?_
  refine W.ite rfl (fun c12 => ?_) (fun c12 => ?_)
  ·exact absurd h (by omega)
  ·refine W.skip ?_
   refine V.then ?_
   refine W.sr ?_
   refine G.r (Runs.lds (vs := [_, _]) ty45) ?_
   refine G.e (Eff.st (cs := [_, _]) (vs := [_, _]) (cs' := [_, _]) ty45) ?_
   rintro _ _ ⟨rfl, rfl⟩
   refine G.r (Runs.assign rfl) ?_
   refine G.nt ?_
   refine W.ret ?_
   exact V.retc1 rfl ty45 rfl rfl (by repeat (first | exact List.mem_cons_self | apply List.mem_cons_of_mem)) rfl (I) Fit.m ⟨rfl, rfl⟩

theorem Lowest_ok {κ : Ctx} {I : List Item} (a b : Int) (h0 : 0 ≤ a ∧ a ≤ 1152921504606846976) (h1 : 0 < b ∧ b ≤ 1152921504606846976) :
    CallS Tryz.prog κ 115 [I64 (a), I64 (b)] I (fun r J => r = .tuple #[.agg #[I64 (mkF a b).num, I64 (mkF a b).den], I64 0] ∧ I = J) := by
 refine CallS.enter (L := [(0, I64 (a)), (1, I64 (b))]) Tryz.func115 rfl rfl rfl rfl ?_
 refine W.sr ?_
 refine G.e (Eff.alloc ty45 rfl) ?_
 rintro _ _ ⟨b1, rfl, rfl⟩
 refine G.r (Runs.assign rfl) ?_
 refine G.nt ?_
 refine W.seq ?_
 refine W.sr ?_
 refine G.r (Runs.move rfl) ?_
 refine G.r (Runs.lss rfl rfl) ?_
 refine G.nt ?_
 refine W.ite rfl (fun c8 => ?_) (fun c8 => ?_)
 ·exact absurd c8 (by omega)
 ·refine W.skip ?_
  refine V.then ?_
  refine W.sr ?_
  refine G.r (Runs.move rfl) ?_
  refine G.r (Runs.move rfl) ?_
  refine G.r (Runs.neg rfl (by unfold InR; omega)) ?_
  refine G.r (Runs.max rfl rfl) ?_
  refine G.r (Runs.move rfl) ?_
  refine G.e (Eff.call call133 rfl rfl (Common_ok (if a < (-(a)) then (-(a)) else a) b (by split <;> omega) (by omega))) ?_
  rintro _ _ ⟨_, _, ⟨rfl, rfl⟩, rfl, rfl⟩
  refine G.r (Runs.assign rfl) ?_
  have hmx : (if a < -a then -a else a) = a := by rw [if_neg (by omega)]
  rw [hmx]
  refine G.nt ?_
  refine W.sub (L' := [(6, _), (4, _), (0, _), (1, _)]) (Sub.cons rfl (Sub.cons rfl (Sub.cons rfl (Sub.cons rfl Sub.nil)))) ?_
  refine W.seq ?_
  refine W.drawn mixed ?_
  refine A.hold (blk b1 [I64 (0), I64 (0)] 45 :: I) 10 ?_
  refine D.r 0 rfl (Runs.move rfl) ?_ (hJ := Fit.sub)
  have hgp := gcdI_pos (a := a) h1.1
  refine D.r 1 rfl (Runs.move rfl) ?_ (hJ := Fit.sub)
  refine D.r 2 rfl (Runs.quo rfl rfl (by omega) (by omega) (by unfold InR; omega)) ?_ (hJ := Fit.sub)
  refine D.r 3 rfl (Runs.move rfl) ?_ (hJ := Fit.sub)
  refine D.r 4 rfl (Runs.move rfl) ?_ (hJ := Fit.sub)
  refine D.r 5 rfl (Runs.quo rfl rfl (by omega) (by omega) (by unfold InR; omega)) ?_ (hJ := Fit.sub)
  refine D.r 6 rfl (Runs.build (cells := [_, _]) ty45 Tryz.underlying45 pl45 rfl rfl) ?_ (hJ := Fit.sub)
  refine D.step (rs := [7]) (by kernel_rfl) rfl rfl (all1 ?_)
  refine Step.eff rfl (Wanted.plain rfl) (Eff.call call134 rfl rfl (Checked_ok (⟨a / (gcdI a b), b / (gcdI a b)⟩ : Fr) (by have hn := mkF_num h0.1 h1.1; have hd := mkF_den (a := a) h1.1; exact ⟨hn.1, by have := hn.2; show (mkF a b).num ≤ _; omega, by have := hd.2; show (mkF a b).den ≤ _; omega⟩))) ?_
  rintro _ _ ⟨_, _, ⟨rfl, rfl⟩, rfl, rfl⟩
  refine ⟨Fit.sub, ?_⟩
  refine D.r 8 rfl (Runs.extract rfl rfl) ?_ (hJ := Fit.sub)
  refine D.r 9 rfl (Runs.extract rfl rfl) ?_ (hJ := Fit.sub)
  refine D.stop (by kernel_rfl) ?_
  refine A.eff (i := 10) (by kernel_rfl) rfl (Wanted.plain rfl) (Eff.st (cs := [_, _]) (vs := [_, _]) (cs' := [_, _]) ty45) ?_
  rintro _ _ ⟨rfl, rfl⟩
  refine A.read (i := 11) (by kernel_rfl) rfl (Wanted.plain rfl) rfl rfl (Runs.assign rfl) ?_
  refine A.done (by kernel_rfl) ?_
  refine V.then ?_
  refine W.sub (L' := [(5, _), (4, _)]) (Sub.cons rfl (Sub.cons rfl Sub.nil)) ?_
  refine W.ret ?_
  exact V.retc1 rfl ty45 rfl rfl (by repeat (first | exact List.mem_cons_self | apply List.mem_cons_of_mem)) rfl (I) Fit.m ⟨rfl, rfl⟩

theorem MakeF_ok {κ : Ctx} {I : List Item} (a b : Int) (h0 : 0 ≤ a ∧ a ≤ 1152921504606846976) (h1 : 0 < b ∧ b ≤ 1152921504606846976) :
    CallS Tryz.prog κ 63 [I64 (a), I64 (b)] I (fun r J => r = .tuple #[.agg #[I64 (mkF a b).num, I64 (mkF a b).den], I64 0] ∧ I = J) := by
 refine CallS.enter (L := [(0, I64 (a)), (1, I64 (b))]) Tryz.func63 rfl rfl rfl rfl ?_
 refine W.sr ?_
 refine G.e (Eff.alloc ty45 rfl) ?_
 rintro _ _ ⟨b1, rfl, rfl⟩
 refine G.r (Runs.assign rfl) ?_
 refine G.nt ?_
 refine W.seq ?_
 refine W.block ?_
 refine W.sr ?_
 refine G.r (Runs.move rfl) ?_
 refine G.r (Runs.eql rfl rfl) ?_
 refine G.r (Runs.assign rfl) ?_
 refine G.nt ?_
 refine W.ite rfl (fun c6 => ?_) (fun c6 => ?_)
 ·exact absurd c6 (by omega)
 ·refine W.sr ?_
  refine G.r (Runs.move rfl) ?_
  refine G.e (Eff.call call114 rfl rfl (RWithin_ok a 4611686018427387904 (by omega))) ?_
  rintro _ _ ⟨_, _, ⟨rfl, rfl⟩, rfl, rfl⟩
  refine G.r (Runs.move rfl) ?_
  refine G.split (d := 13) rfl (fun g13 => ?_) (fun g13 => ?_)
  ·refine G.ro (Runs.move rfl) ?_
   refine G.eff (Wanted.on rfl rfl rfl) (Eff.call call114 rfl rfl (RWithin_ok b 4611686018427387904 (by omega))) ?_
   rintro _ _ ⟨_, _, ⟨rfl, rfl⟩, rfl, rfl⟩
   refine G.r (Runs.pickt rfl rfl) ?_
   refine G.r (Runs.assign rfl) ?_
   refine G.nt ?_
   refine W.sub (L' := [(10, _), (4, _), (0, _), (1, _)]) (Sub.cons rfl (Sub.cons rfl (Sub.cons rfl (Sub.cons rfl Sub.nil)))) ?_
   refine W.ite rfl (fun c10 => ?_) (fun c10 => ?_)
   ·refine W.sr ?_
    refine G.r (Runs.move rfl) ?_
    refine G.r (Runs.move rfl) ?_
    refine G.e (Eff.call call115 rfl rfl (Lowest_ok a b (by omega) (by omega))) ?_
    rintro _ _ ⟨_, _, ⟨rfl, rfl⟩, rfl, rfl⟩
    refine G.r (Runs.extract rfl rfl) ?_
    refine G.r (Runs.extract rfl rfl) ?_
    refine G.e (Eff.st (cs := [_, _]) (vs := [_, _]) (cs' := [_, _]) ty45) ?_
    rintro _ _ ⟨rfl, rfl⟩
    refine G.r (Runs.assign rfl) ?_
    refine G.nt ?_
    refine W.ret ?_
    refine V.block_ret ?_
    refine V.then_ret ?_
    exact V.retc1 rfl ty45 rfl rfl (by repeat (first | exact List.mem_cons_self | apply List.mem_cons_of_mem)) rfl (I) Fit.m ⟨rfl, rfl⟩
   ·exact absurd (by omega) c10
  ·exact absurd (by omega) g13

end Go.Sl
namespace Go.Sl
open Go.Proofs
set_option linter.unusedVariables false
set_option linter.unusedSimpArgs false
set_option maxRecDepth 4000
open Go.Proofs Go.Shelf Go.Sort in
theorem SortE_ok {κ : Ctx} {I : List Item} {a : Option Addr} {c : Nat} {xs : List Pt} (hsz : xs.length < 1000000000) :
    CallS Tryz.prog κ 106 [.slice a xs.length c, .func (.func 107) #[] #[]] (vc 52 (.slice a xs.length c) xs :: I) fun r J => ∃ ys : List Pt, (r = .tuple #[] ∧ SortedP xs ys ∧ ys.length = xs.length) ∧ J = [] ++ vc 52 (.slice a xs.length c) ys :: I :=
  (sort_any (α := Pt) (ρ := Tryz.sort106_ren) Tryz.sort106 Tryz.isAgg52 Tryz.sizeOf52 Pt.cmp swo_pt 107 #[] (enters_of Tryz.func107 (by kernel_rfl) rfl) (fun x y W => lays_of (Order_ok x y)) (by omega)).mono fun r J ⟨ys, ⟨h1, h2, h3⟩, h4⟩ =>
    ⟨ys, ⟨h1, ⟨h2, h3.imp fun {a b} h => by rw [← Pt.cmp_lt]; exact of_decide_eq_false h⟩, h2.length_eq⟩, by rw [h4, h2.length_eq]⟩
theorem SortE_at {κ : Ctx} {I : List Item} {F : Item → List Item} {a : Option Addr} {n c : Nat} {xs : List Pt} (hat : AtF I (vc 52 (.slice a n c) xs) F) (hn : xs.length = n) (hsz : xs.length < 1000000000) :
    CallS Tryz.prog κ 106 [.slice a n c, .func (.func 107) #[] #[]] I fun r J => ∃ ys : List Pt, (r = .tuple #[] ∧ SortedP xs ys ∧ ys.length = n) ∧ J = [] ++ F (vc 52 (.slice a n c) ys) :=
  CallS.at (Z := fun _ => []) (X := fun ys : List Pt => vc 52 (.slice a n c) ys) (Post := fun r ys => r = .tuple #[] ∧ SortedP xs ys ∧ ys.length = n) hat fun J _ _ => by subst hn; exact SortE_ok hsz
theorem CompactE_at {κ : Ctx} {I : List Item} {F : Item → List Item} {a : Option Addr} {n c : Nat} {xs : List Pt} (hat : AtF I (vc 52 (.slice a n c) xs) F) (hn : xs.length = n) (hsz : xs.length < 1000000000000) :
    CallS Tryz.prog κ 108 [.slice a n c] I fun r J => ∃ ys : List Pt, (r = .slice a (compactN xs xs.length).length c ∧ ys = compactN xs xs.length) ∧ J = [] ++ F (vc 52 (.slice a ys.length c) ys) :=
  CallS.at (Z := fun _ => []) (X := fun ys : List Pt => vc 52 (.slice a ys.length c) ys) (Post := fun r ys => r = .slice a (compactN xs xs.length).length c ∧ ys = compactN xs xs.length) hat fun J _ _ => by subst hn; exact CompactE_ok hsz
/-- The error of a list of edges. -/
def ofE (nd : Int) (l : List Pt) : Int := if nd < 0 ∨ 64 < nd then 1 else if ∀ e ∈ l, endsP nd e.u e.v then 0 else 6
def edgesL (l : List Pt) : List Pt := l.map fun e => edgeP e.u e.v
theorem edgesL_take {l : List Pt} {k : Nat} (h : k < l.length) : edgesL (l.take (k + 1)) = edgesL (l.take k) ++ [edgeP (at_ l (k : Int)).u (at_ l (k : Int)).v] := by
  unfold edgesL; rw [take_at l k h, List.map_append]; rfl
theorem edgesL_len (l : List Pt) : (edgesL l).length = l.length := by unfold edgesL; simp
theorem ofE_bad {nd : Int} {l : List Pt} {k : Nat} (h : ¬ (nd < 0 ∨ 64 < nd)) (hk : k < l.length) (hb : ¬ endsP nd (at_ l (k : Int)).u (at_ l (k : Int)).v) : ofE nd l = 6 := by
  unfold ofE; rw [if_neg h, if_neg fun h2 => hb (h2 _ (at_mem (by omega) (by omega)))]
theorem ofE_good {nd : Int} {l : List Pt} (h : ¬ (nd < 0 ∨ 64 < nd)) (hb : ∀ j, j < l.length → endsP nd (at_ l (j : Int)).u (at_ l (j : Int)).v) : ofE nd l = 0 := by
  unfold ofE; rw [if_neg h, if_pos fun e he => by obtain ⟨j, hj, rfl⟩ := mem_at he; exact hb j hj]

theorem OfG_ok {κ : Ctx} {I : List Item} {nd : Int} {v : Value} {l : List Pt} (hl : Sl κ I v l) (hb : l.length ≤ 1000000) :
    CallS Tryz.prog κ 48 [I64 (nd), v] I (fun r J => (ofE nd l ≠ 0 ∧ r = .tuple #[.agg #[I64 0, .slice none 0 0], I64 (ofE nd l)] ∧ I = J) ∨ (∃ a c, ofE nd l = 0 ∧ r = .tuple #[.agg #[I64 nd, .slice a (sortB Pt.lt (edgesL l)).length c], I64 0] ∧ J = vc 52 (.slice a (sortB Pt.lt (edgesL l)).length c) (sortB Pt.lt (edgesL l)) :: I)) := by
 refine CallS.pull hl.le fun hmax => ?_
 refine CallS.enter (L := [(0, I64 (nd)), (1, v)]) Tryz.func48 rfl rfl rfl rfl ?_
 refine W.sr ?_
 refine G.e (Eff.alloc ty28 rfl) ?_
 rintro _ _ ⟨b1, rfl, rfl⟩
 refine G.r (Runs.assign rfl) ?_
 refine G.nt ?_
 refine W.seq ?_
 refine W.sr ?_
 refine G.r (Runs.move rfl) ?_
 refine G.r (Runs.lss rfl rfl) ?_
 refine G.r (Runs.move rfl) ?_
 refine G.split (d := 11) rfl (fun g11 => ?_) (fun g11 => ?_)
 ·refine G.po ?_
  refine G.po ?_
  refine G.r (Runs.pickt rfl rfl) ?_
  refine G.nt ?_
  refine W.yes rfl ?_
  refine W.sr ?_
  refine G.r (Runs.build (cells := [_, _]) ty28 Tryz.underlying28 pl28 rfl rfl) ?_
  refine G.e (Eff.st (cs := [_, _]) (vs := [_, _]) (cs' := [_, _]) ty28) ?_
  rintro _ _ ⟨rfl, rfl⟩
  refine G.r (Runs.assign rfl) ?_
  refine G.nt ?_
  refine W.ret ?_
  refine V.then_ret ?_
  have hz : ofE nd l = 1 := by unfold ofE; rw [if_pos (by omega)]
  exact V.retc1 rfl ty28 rfl rfl (by repeat (first | exact List.mem_cons_self | apply List.mem_cons_of_mem)) rfl (I) Fit.m (.inl ⟨by rw [hz]; decide, by rw [hz], rfl⟩)
 ·refine G.ro (Runs.move rfl) ?_
  refine G.ro (Runs.gtr rfl rfl) ?_
  refine G.r (Runs.pickf rfl rfl) ?_
  refine G.nt ?_
  refine W.ite rfl (fun c14 => ?_) (fun c14 => ?_)
  ·refine W.sr ?_
   refine G.r (Runs.build (cells := [_, _]) ty28 Tryz.underlying28 pl28 rfl rfl) ?_
   refine G.e (Eff.st (cs := [_, _]) (vs := [_, _]) (cs' := [_, _]) ty28) ?_
   rintro _ _ ⟨rfl, rfl⟩
   refine G.r (Runs.assign rfl) ?_
   refine G.nt ?_
   refine W.ret ?_
   refine V.then_ret ?_
   have hz : ofE nd l = 1 := by unfold ofE; rw [if_pos (by omega)]
   exact V.retc1 rfl ty28 rfl rfl (by repeat (first | exact List.mem_cons_self | apply List.mem_cons_of_mem)) rfl (I) Fit.m (.inl ⟨by rw [hz]; decide, by rw [hz], rfl⟩)
  ·refine W.skip ?_
   refine V.then ?_
   refine W.sr ?_
   refine G.r (Runs.move rfl) ?_
   refine G.r (Runs.build (cells := [_, _]) ty28 Tryz.underlying28 pl28 rfl rfl) ?_
   refine G.e (Eff.alloc ty28 rfl) ?_
   rintro _ _ ⟨b2, rfl, rfl⟩
   refine G.e (Eff.st (cs := [_, _]) (vs := [_, _]) (cs' := [_, _]) ty28) ?_
   rintro _ _ ⟨rfl, rfl⟩
   refine G.nt ?_
   refine W.sub (L' := [(6, _), (4, _), (0, _), (1, _)]) (Sub.cons rfl (Sub.cons rfl (Sub.cons rfl (Sub.cons rfl Sub.nil)))) ?_
   refine W.seq ?_
   refine W.sr ?_
   refine G.r (Runs.move rfl) ?_
   refine G.r (Runs.lenT (α := Pt) (xs := l) Tryz.underlying26 rfl (Sl.f hl)) ?_
   refine G.r (Runs.move rfl) ?_
   refine G.nt ?_
   refine W.block ?_
   refine W.loop (σ := Nat × (Option Addr) × Nat × (List Pt)) (fun s => ([(0, I64 (nd)), (4, .pointer (some ⟨b1, 0, none⟩)), (6, .pointer (some ⟨b2, 0, none⟩)), (18, v), (19, I64 (((l.length : Nat) : Int))), (20, I64 (((s.1 : Nat) : Int)))] : Env)) (fun s => vc 52 (.slice s.2.1 s.2.2.2.length s.2.2.1) (s.2.2.2) :: blk b2 [I64 (nd), .slice s.2.1 s.2.2.2.length s.2.2.1] 28 :: blk b1 [I64 (0), .slice none 0 0] 28 :: I) (fun s => (s.1 ≤ l.length) ∧ (s.2.2.2 = edgesL (l.take s.1)) ∧ (∀ j, j < s.1 → endsP nd (at_ l (j : Int)).u (at_ l (j : Int)).v)) (fun s => l.length - s.1) (0, none, 0, []) (show ((0 : Nat) ≤ l.length) ∧ (([] : List Pt) = edgesL (l.take (0 : Nat))) ∧ (∀ j, j < (0 : Nat) → endsP nd (at_ l (j : Int)).u (at_ l (j : Int)).v) from ⟨(by omega), rfl, all_zero⟩) (Sub.cons rfl (Sub.cons rfl (Sub.cons rfl (Sub.cons rfl (Sub.cons rfl (Sub.cons lookO Sub.nil)))))) (show Fit κ _ (vc 52 (.slice (none) ([]).length (0)) (([])) :: blk b2 [I64 (nd), .slice (none) ([]).length (0)] 28 :: blk b1 [I64 (0), .slice none 0 0] 28 :: I) from (Fit.nilvc _ _)) ?_
   rintro ⟨k, a, c, out⟩ hp
   obtain ⟨hk, ho, hgood⟩ : (k ≤ l.length) ∧ (out = edgesL (l.take k)) ∧ (∀ j, j < k → endsP nd (at_ l (j : Int)).u (at_ l (j : Int)).v) := hp
   show W Tryz.prog κ 51 _ _ ([(0, I64 (nd)), (4, .pointer (some ⟨b1, 0, none⟩)), (6, .pointer (some ⟨b2, 0, none⟩)), (18, v), (19, I64 (((l.length : Nat) : Int))), (20, I64 (((k : Nat) : Int)))] : Env) (vc 52 (.slice a out.length c) (out) :: blk b2 [I64 (nd), .slice a out.length c] 28 :: blk b1 [I64 (0), .slice none 0 0] 28 :: I)
   have hol : out.length ≤ l.length := by rw [ho, edgesL_len]; simp only [List.length_take]; omega
   refine W.sr ?_
   refine G.r (Runs.lss rfl rfl) ?_
   refine G.nt ?_
   refine W.seq ?_
   refine W.ite rfl (fun c21 => ?_) (fun c21 => ?_)
   ·refine W.skip ?_
    refine V.then ?_
    refine W.seq ?_
    refine W.block ?_
    refine W.sr ?_
    refine G.r (Runs.idx (α := Pt) (xs := l) Tryz.underlying26 ty52 rfl rfl (Sl.f hl) (by omega) (by omega)) ?_
    refine G.r (Runs.gets (α := Pt) (xs := l) ty52 rfl (Sl.f hl) (by omega) (by omega)) ?_
    refine G.e (Eff.alloc ty52 rfl) ?_
    rintro _ _ ⟨b3, rfl, rfl⟩
    refine G.e (Eff.st (cs := [_, _]) (vs := [_, _]) (cs' := [_, _]) ty52) ?_
    rintro _ _ ⟨rfl, rfl⟩
    refine G.nt ?_
    refine W.seq ?_
    refine W.sr ?_
    refine G.r (Runs.move rfl) ?_
    refine G.r (Runs.fieldAddr fld52_0 rfl) ?_
    refine G.r (Runs.ld ty3) ?_
    refine G.r (Runs.fieldAddr fld52_1 rfl) ?_
    refine G.r (Runs.ld ty3) ?_
    refine G.e (Eff.call call68 rfl rfl (Ends_ok nd ((at_ l ((k : Nat) : Int)).u) ((at_ l ((k : Nat) : Int)).v))) ?_
    rintro _ _ ⟨_, _, ⟨rfl, rfl⟩, rfl, rfl⟩
    refine G.r (Runs.notd rfl) ?_
    refine G.nt ?_
    refine W.sub (L' := [(30, _), (8, _), (0, _), (4, _), (6, _), (18, _), (19, _), (20, _)]) (Sub.cons rfl (Sub.cons rfl (Sub.cons rfl (Sub.cons rfl (Sub.cons rfl (Sub.cons rfl (Sub.cons rfl (Sub.cons rfl Sub.nil)))))))) ?_
    refine W.ite rfl (fun c30 => ?_) (fun c30 => ?_)
    ·refine W.sr ?_
     refine G.r (Runs.build (cells := [_, _]) ty28 Tryz.underlying28 pl28 rfl rfl) ?_
     refine G.e (Eff.st (cs := [_, _]) (vs := [_, _]) (cs' := [_, _]) ty28) ?_
     rintro _ _ ⟨rfl, rfl⟩
     refine G.r (Runs.assign rfl) ?_
     refine G.nt ?_
     refine W.ret ?_
     refine V.then_ret ?_
     refine V.block_ret ?_
     refine V.then_ret ?_
     refine V.then_ret ?_
     refine V.block_ret ?_
     refine V.then_ret ?_
     have hz : ofE nd l = 6 := ofE_bad (by omega) (by omega) c30
     exact V.retc1 rfl ty28 rfl rfl (by repeat (first | exact List.mem_cons_self | apply List.mem_cons_of_mem)) rfl (I) Fit.m (.inl ⟨by rw [hz]; decide, by rw [hz], rfl⟩)
    ·refine W.skip ?_
     refine V.then ?_
     refine W.drawn mixed ?_
     refine A.hold (blk b3 [I64 ((at_ l ((k : Nat) : Int)).u), I64 ((at_ l ((k : Nat) : Int)).v)] 52 :: blk b2 [I64 (nd), .slice a out.length c] 28 :: blk b1 [I64 (0), .slice none 0 0] 28 :: I) 10 ?_
     refine D.r 0 rfl (Runs.fieldAddr fld28_1 rfl) ?_ (hJ := Fit.sub)
     refine D.r 2 rfl (Runs.fieldAddr fld52_0 rfl) ?_ (hJ := Fit.sub)
     refine D.r 3 rfl (Runs.ld ty3) ?_ (hJ := Fit.sub)
     refine D.r 4 rfl (Runs.fieldAddr fld52_1 rfl) ?_ (hJ := Fit.sub)
     refine D.r 5 rfl (Runs.ld ty3) ?_ (hJ := Fit.sub)
     refine D.step (rs := [1, 6]) (by kernel_rfl) rfl rfl (all2 ?_ (all1 ?_))
     ·refine Step.read rfl (Wanted.plain rfl) rfl rfl (Runs.ld ty26) Fit.sub ?_
      refine D.step (rs := [6]) (by kernel_rfl) rfl rfl (all1 ?_)
      refine Step.eff rfl (Wanted.plain rfl) (Eff.call call105 rfl rfl (EdgeG_ok ((at_ l ((k : Nat) : Int)).u) ((at_ l ((k : Nat) : Int)).v))) ?_
      rintro _ _ ⟨_, _, ⟨rfl, rfl⟩, rfl, rfl⟩
      refine ⟨Fit.sub, ?_⟩
      refine D.step (rs := [7]) (by kernel_rfl) rfl rfl (all1 ?_)
      refine Step.eff rfl (Wanted.plain rfl) (Eff.bs (α := Pt) (cs := [_, _]) (xs := [⟨(edgeP ((at_ l ((k : Nat) : Int)).u) ((at_ l ((k : Nat) : Int)).v)).u, (edgeP ((at_ l ((k : Nat) : Int)).u) ((at_ l ((k : Nat) : Int)).v)).v⟩]) Tryz.underlying26 ty52 rfl rfl (by decide) (by decide) rfl rfl rfl rfl) ?_
      rintro _ _ ⟨ad4, rfl, rfl⟩
      refine ⟨Fit.sub, ?_⟩
      refine D.step (rs := [8]) (by kernel_rfl) rfl rfl (all1 ?_)
      refine Step.eff rfl (Wanted.plain rfl) (Eff.app (α := Pt) (e := 52) (xs := out) (ys := ([⟨(edgeP ((at_ l ((k : Nat) : Int)).u) ((at_ l ((k : Nat) : Int)).v)).u, (edgeP ((at_ l ((k : Nat) : Int)).u) ((at_ l ((k : Nat) : Int)).v)).v⟩] : List Pt)) Tryz.underlying26 ty52 rfl rfl rfl (by repeat (first | exact List.mem_cons_self | apply List.mem_cons_of_mem)) Sl.o (by simp only [List.length_cons, List.length_nil]; omega) (by decide) rfl (fun _ _ => (by repeat (first | exact At.head _ _ _ | apply At.tail)))) ?_
      rintro _ _ ⟨ad5, cp6, rfl, rfl⟩
      refine ⟨Fit.sub, ?_⟩
      refine D.r 9 rfl (Runs.fieldAddr fld28_1 rfl) ?_ (hJ := Fit.sub)
      refine D.stop (by kernel_rfl) ?_
      refine A.eff (i := 10) (by kernel_rfl) rfl (Wanted.plain rfl) (Eff.st (cs := [_, _]) (vs := [_]) (cs' := [_, _]) ty26) ?_
      rintro _ _ ⟨rfl, rfl⟩
      refine A.done (by kernel_rfl) ?_
      refine V.block_normal ?_
      refine V.then ?_
      refine W.sub (L' := [(0, _), (4, _), (6, _), (18, _), (19, _), (20, _)]) (Sub.cons rfl (Sub.cons rfl (Sub.cons rfl (Sub.cons rfl (Sub.cons rfl (Sub.cons rfl Sub.nil)))))) ?_
      refine W.region ?_
      refine G.r (Runs.add rfl rfl (by unfold InR; omega)) ?_
      refine G.r (Runs.move rfl) ?_
      refine G.nil ?_
      exact V.next ((k + 1), (ad5), (cp6), (out ++ ([⟨(edgeP ((at_ l ((k : Nat) : Int)).u) ((at_ l ((k : Nat) : Int)).v)).u, (edgeP ((at_ l ((k : Nat) : Int)).u) ((at_ l ((k : Nat) : Int)).v)).v⟩] : List Pt))) (show ((k + 1 : Nat) ≤ l.length) ∧ ((out ++ ([⟨(edgeP ((at_ l ((k : Nat) : Int)).u) ((at_ l ((k : Nat) : Int)).v)).u, (edgeP ((at_ l ((k : Nat) : Int)).u) ((at_ l ((k : Nat) : Int)).v)).v⟩] : List Pt) : List Pt) = edgesL (l.take (k + 1 : Nat))) ∧ (∀ j, j < (k + 1 : Nat) → endsP nd (at_ l (j : Int)).u (at_ l (j : Int)).v) from ⟨(by omega), (by rw [edgesL_take (by omega), ← ho]), (all_succ hgood (Classical.not_not.1 c30))⟩) (show l.length - (k + 1 : Nat) < l.length - k from (by omega)) (Sub.cons rfl (Sub.cons rfl (Sub.cons rfl (Sub.cons rfl (Sub.cons rfl (Sub.cons lookO Sub.nil)))))) (show Fit κ _ (vc 52 (.slice (ad5) (out ++ ([⟨(edgeP ((at_ l ((k : Nat) : Int)).u) ((at_ l ((k : Nat) : Int)).v)).u, (edgeP ((at_ l ((k : Nat) : Int)).u) ((at_ l ((k : Nat) : Int)).v)).v⟩] : List Pt)).length (cp6)) ((out ++ ([⟨(edgeP ((at_ l ((k : Nat) : Int)).u) ((at_ l ((k : Nat) : Int)).v)).u, (edgeP ((at_ l ((k : Nat) : Int)).u) ((at_ l ((k : Nat) : Int)).v)).v⟩] : List Pt))) :: blk b2 [I64 (nd), .slice (ad5) (out ++ ([⟨(edgeP ((at_ l ((k : Nat) : Int)).u) ((at_ l ((k : Nat) : Int)).v)).u, (edgeP ((at_ l ((k : Nat) : Int)).u) ((at_ l ((k : Nat) : Int)).v)).v⟩] : List Pt)).length (cp6)] 28 :: blk b1 [I64 (0), .slice none 0 0] 28 :: I) from Fit.sub)
     ·refine Step.eff rfl (Wanted.plain rfl) (Eff.call call105 rfl rfl (EdgeG_ok ((at_ l ((k : Nat) : Int)).u) ((at_ l ((k : Nat) : Int)).v))) ?_
      rintro _ _ ⟨_, _, ⟨rfl, rfl⟩, rfl, rfl⟩
      refine ⟨Fit.sub, ?_⟩
      refine D.step (rs := [1, 7]) (by kernel_rfl) rfl rfl (all2 ?_ (all1 ?_))
      ·refine Step.read rfl (Wanted.plain rfl) rfl rfl (Runs.ld ty26) Fit.sub ?_
       refine D.step (rs := [7]) (by kernel_rfl) rfl rfl (all1 ?_)
       refine Step.eff rfl (Wanted.plain rfl) (Eff.bs (α := Pt) (cs := [_, _]) (xs := [⟨(edgeP ((at_ l ((k : Nat) : Int)).u) ((at_ l ((k : Nat) : Int)).v)).u, (edgeP ((at_ l ((k : Nat) : Int)).u) ((at_ l ((k : Nat) : Int)).v)).v⟩]) Tryz.underlying26 ty52 rfl rfl (by decide) (by decide) rfl rfl rfl rfl) ?_
       rintro _ _ ⟨ad7, rfl, rfl⟩
       refine ⟨Fit.sub, ?_⟩
       refine D.step (rs := [8]) (by kernel_rfl) rfl rfl (all1 ?_)
       refine Step.eff rfl (Wanted.plain rfl) (Eff.app (α := Pt) (e := 52) (xs := out) (ys := ([⟨(edgeP ((at_ l ((k : Nat) : Int)).u) ((at_ l ((k : Nat) : Int)).v)).u, (edgeP ((at_ l ((k : Nat) : Int)).u) ((at_ l ((k : Nat) : Int)).v)).v⟩] : List Pt)) Tryz.underlying26 ty52 rfl rfl rfl (by repeat (first | exact List.mem_cons_self | apply List.mem_cons_of_mem)) Sl.o (by simp only [List.length_cons, List.length_nil]; omega) (by decide) rfl (fun _ _ => (by repeat (first | exact At.head _ _ _ | apply At.tail)))) ?_
       rintro _ _ ⟨ad8, cp9, rfl, rfl⟩
       refine ⟨Fit.sub, ?_⟩
       refine D.r 9 rfl (Runs.fieldAddr fld28_1 rfl) ?_ (hJ := Fit.sub)
       refine D.stop (by kernel_rfl) ?_
       refine A.eff (i := 10) (by kernel_rfl) rfl (Wanted.plain rfl) (Eff.st (cs := [_, _]) (vs := [_]) (cs' := [_, _]) ty26) ?_
       rintro _ _ ⟨rfl, rfl⟩
       refine A.done (by kernel_rfl) ?_
       refine V.block_normal ?_
       refine V.then ?_
       refine W.sub (L' := [(0, _), (4, _), (6, _), (18, _), (19, _), (20, _)]) (Sub.cons rfl (Sub.cons rfl (Sub.cons rfl (Sub.cons rfl (Sub.cons rfl (Sub.cons rfl Sub.nil)))))) ?_
       refine W.region ?_
       refine G.r (Runs.add rfl rfl (by unfold InR; omega)) ?_
       refine G.r (Runs.move rfl) ?_
       refine G.nil ?_
       exact V.next ((k + 1), (ad8), (cp9), (out ++ ([⟨(edgeP ((at_ l ((k : Nat) : Int)).u) ((at_ l ((k : Nat) : Int)).v)).u, (edgeP ((at_ l ((k : Nat) : Int)).u) ((at_ l ((k : Nat) : Int)).v)).v⟩] : List Pt))) (show ((k + 1 : Nat) ≤ l.length) ∧ ((out ++ ([⟨(edgeP ((at_ l ((k : Nat) : Int)).u) ((at_ l ((k : Nat) : Int)).v)).u, (edgeP ((at_ l ((k : Nat) : Int)).u) ((at_ l ((k : Nat) : Int)).v)).v⟩] : List Pt) : List Pt) = edgesL (l.take (k + 1 : Nat))) ∧ (∀ j, j < (k + 1 : Nat) → endsP nd (at_ l (j : Int)).u (at_ l (j : Int)).v) from ⟨(by omega), (by rw [edgesL_take (by omega), ← ho]), (all_succ hgood (Classical.not_not.1 c30))⟩) (show l.length - (k + 1 : Nat) < l.length - k from (by omega)) (Sub.cons rfl (Sub.cons rfl (Sub.cons rfl (Sub.cons rfl (Sub.cons rfl (Sub.cons lookO Sub.nil)))))) (show Fit κ _ (vc 52 (.slice (ad8) (out ++ ([⟨(edgeP ((at_ l ((k : Nat) : Int)).u) ((at_ l ((k : Nat) : Int)).v)).u, (edgeP ((at_ l ((k : Nat) : Int)).u) ((at_ l ((k : Nat) : Int)).v)).v⟩] : List Pt)).length (cp9)) ((out ++ ([⟨(edgeP ((at_ l ((k : Nat) : Int)).u) ((at_ l ((k : Nat) : Int)).v)).u, (edgeP ((at_ l ((k : Nat) : Int)).u) ((at_ l ((k : Nat) : Int)).v)).v⟩] : List Pt))) :: blk b2 [I64 (nd), .slice (ad8) (out ++ ([⟨(edgeP ((at_ l ((k : Nat) : Int)).u) ((at_ l ((k : Nat) : Int)).v)).u, (edgeP ((at_ l ((k : Nat) : Int)).u) ((at_ l ((k : Nat) : Int)).v)).v⟩] : List Pt)).length (cp9)] 28 :: blk b1 [I64 (0), .slice none 0 0] 28 :: I) from Fit.sub)
      ·refine Step.eff rfl (Wanted.plain rfl) (Eff.bs (α := Pt) (cs := [_, _]) (xs := [⟨(edgeP ((at_ l ((k : Nat) : Int)).u) ((at_ l ((k : Nat) : Int)).v)).u, (edgeP ((at_ l ((k : Nat) : Int)).u) ((at_ l ((k : Nat) : Int)).v)).v⟩]) Tryz.underlying26 ty52 rfl rfl (by decide) (by decide) rfl rfl rfl rfl) ?_
       rintro _ _ ⟨ad10, rfl, rfl⟩
       refine ⟨Fit.sub, ?_⟩
       refine D.step (rs := [1]) (by kernel_rfl) rfl rfl (all1 ?_)
       refine Step.read rfl (Wanted.plain rfl) rfl rfl (Runs.ld ty26) Fit.sub ?_
       refine D.step (rs := [8]) (by kernel_rfl) rfl rfl (all1 ?_)
       refine Step.eff rfl (Wanted.plain rfl) (Eff.app (α := Pt) (e := 52) (xs := out) (ys := ([⟨(edgeP ((at_ l ((k : Nat) : Int)).u) ((at_ l ((k : Nat) : Int)).v)).u, (edgeP ((at_ l ((k : Nat) : Int)).u) ((at_ l ((k : Nat) : Int)).v)).v⟩] : List Pt)) Tryz.underlying26 ty52 rfl rfl rfl (by repeat (first | exact List.mem_cons_self | apply List.mem_cons_of_mem)) Sl.o (by simp only [List.length_cons, List.length_nil]; omega) (by decide) rfl (fun _ _ => (by repeat (first | exact At.head _ _ _ | apply At.tail)))) ?_
       rintro _ _ ⟨ad11, cp12, rfl, rfl⟩
       refine ⟨Fit.sub, ?_⟩
       refine D.r 9 rfl (Runs.fieldAddr fld28_1 rfl) ?_ (hJ := Fit.sub)
       refine D.stop (by kernel_rfl) ?_
       refine A.eff (i := 10) (by kernel_rfl) rfl (Wanted.plain rfl) (Eff.st (cs := [_, _]) (vs := [_]) (cs' := [_, _]) ty26) ?_
       rintro _ _ ⟨rfl, rfl⟩
       refine A.done (by kernel_rfl) ?_
       refine V.block_normal ?_
       refine V.then ?_
       refine W.sub (L' := [(0, _), (4, _), (6, _), (18, _), (19, _), (20, _)]) (Sub.cons rfl (Sub.cons rfl (Sub.cons rfl (Sub.cons rfl (Sub.cons rfl (Sub.cons rfl Sub.nil)))))) ?_
       refine W.region ?_
       refine G.r (Runs.add rfl rfl (by unfold InR; omega)) ?_
       refine G.r (Runs.move rfl) ?_
       refine G.nil ?_
       exact V.next ((k + 1), (ad11), (cp12), (out ++ ([⟨(edgeP ((at_ l ((k : Nat) : Int)).u) ((at_ l ((k : Nat) : Int)).v)).u, (edgeP ((at_ l ((k : Nat) : Int)).u) ((at_ l ((k : Nat) : Int)).v)).v⟩] : List Pt))) (show ((k + 1 : Nat) ≤ l.length) ∧ ((out ++ ([⟨(edgeP ((at_ l ((k : Nat) : Int)).u) ((at_ l ((k : Nat) : Int)).v)).u, (edgeP ((at_ l ((k : Nat) : Int)).u) ((at_ l ((k : Nat) : Int)).v)).v⟩] : List Pt) : List Pt) = edgesL (l.take (k + 1 : Nat))) ∧ (∀ j, j < (k + 1 : Nat) → endsP nd (at_ l (j : Int)).u (at_ l (j : Int)).v) from ⟨(by omega), (by rw [edgesL_take (by omega), ← ho]), (all_succ hgood (Classical.not_not.1 c30))⟩) (show l.length - (k + 1 : Nat) < l.length - k from (by omega)) (Sub.cons rfl (Sub.cons rfl (Sub.cons rfl (Sub.cons rfl (Sub.cons rfl (Sub.cons lookO Sub.nil)))))) (show Fit κ _ (vc 52 (.slice (ad11) (out ++ ([⟨(edgeP ((at_ l ((k : Nat) : Int)).u) ((at_ l ((k : Nat) : Int)).v)).u, (edgeP ((at_ l ((k : Nat) : Int)).u) ((at_ l ((k : Nat) : Int)).v)).v⟩] : List Pt)).length (cp12)) ((out ++ ([⟨(edgeP ((at_ l ((k : Nat) : Int)).u) ((at_ l ((k : Nat) : Int)).v)).u, (edgeP ((at_ l ((k : Nat) : Int)).u) ((at_ l ((k : Nat) : Int)).v)).v⟩] : List Pt))) :: blk b2 [I64 (nd), .slice (ad11) (out ++ ([⟨(edgeP ((at_ l ((k : Nat) : Int)).u) ((at_ l ((k : Nat) : Int)).v)).u, (edgeP ((at_ l ((k : Nat) : Int)).u) ((at_ l ((k : Nat) : Int)).v)).v⟩] : List Pt)).length (cp12)] 28 :: blk b1 [I64 (0), .slice none 0 0] 28 :: I) from Fit.sub)
   ·refine W.exit ?_
    refine V.then_exit ?_
    refine V.then_exit ?_
    refine V.block_hit ?_
    refine V.then ?_
    refine W.sr ?_
    refine G.r (Runs.fieldAddr fld28_1 rfl) ?_
    refine G.r (Runs.ld ty26) ?_
    refine G.e (Eff.call call106 rfl rfl (SortE_at (by repeat (first | exact AtF.head _ _ | apply AtF.tail)) rfl (by omega))) ?_
    rintro _ _ ⟨_, _, ⟨ys13, ⟨rfl, hsys13, hlys13⟩, rfl⟩, rfl, rfl⟩
    show G Tryz.prog κ _ _ _ _ ([(45, .tuple #[]), (44, .slice a out.length c), (43, .pointer (some ⟨b2, 1, none⟩)), (21, .bool (decide (((k : Nat) : Int) < ((l.length : Nat) : Int)))), (0, I64 (nd)), (4, .pointer (some ⟨b1, 0, none⟩)), (6, .pointer (some ⟨b2, 0, none⟩)), (18, v), (19, I64 (((l.length : Nat) : Int))), (20, I64 (((k : Nat) : Int)))] : Env) (vc 52 (.slice a out.length c) (ys13) :: blk b2 [I64 (nd), .slice a out.length c] 28 :: blk b1 [I64 (0), .slice none 0 0] 28 :: I)
    refine G.nt ?_
    refine W.sr ?_
    refine G.r (Runs.fieldAddr fld28_1 rfl) ?_
    refine G.r (Runs.ld ty26) ?_
    refine G.e (Eff.call call108 rfl rfl (CompactE_at (by repeat (first | exact AtF.head _ _ | apply AtF.tail)) (by omega) (by omega))) ?_
    rintro _ _ ⟨_, _, ⟨_, ⟨rfl, rfl⟩, rfl⟩, rfl, rfl⟩
    show G Tryz.prog κ _ _ _ _ ([(48, .slice a (compactN ys13 ys13.length).length c), (47, .slice a out.length c), (46, .pointer (some ⟨b2, 1, none⟩)), (45, .tuple #[]), (44, .slice a out.length c), (43, .pointer (some ⟨b2, 1, none⟩)), (21, .bool (decide (((k : Nat) : Int) < ((l.length : Nat) : Int)))), (0, I64 (nd)), (4, .pointer (some ⟨b1, 0, none⟩)), (6, .pointer (some ⟨b2, 0, none⟩)), (18, v), (19, I64 (((l.length : Nat) : Int))), (20, I64 (((k : Nat) : Int)))] : Env) (vc 52 (.slice a (compactN ys13 ys13.length).length c) (compactN ys13 ys13.length) :: blk b2 [I64 (nd), .slice a out.length c] 28 :: blk b1 [I64 (0), .slice none 0 0] 28 :: I)
    refine G.r (Runs.fieldAddr fld28_1 rfl) ?_
    refine G.e (Eff.st (cs := [_, _]) (vs := [_]) (cs' := [_, _]) ty26) ?_
    rintro _ _ ⟨rfl, rfl⟩
    refine G.nt ?_
    refine W.sub (L' := [(4, _), (6, _)]) (Sub.cons rfl (Sub.cons rfl Sub.nil)) ?_
    refine W.sr ?_
    refine G.r (Runs.lds (vs := [_, _]) ty28) ?_
    refine G.e (Eff.st (cs := [_, _]) (vs := [_, _]) (cs' := [_, _]) ty28) ?_
    rintro _ _ ⟨rfl, rfl⟩
    refine G.r (Runs.assign rfl) ?_
    refine G.nt ?_
    refine W.ret ?_
    have hk2 : l.take k = l := List.take_of_length_le (by omega)
    rw [hk2] at ho
    subst ho
    have hM := compactN_of hsys13
    have hz : ofE nd l = 0 := ofE_good (by omega) (fun j hj => hgood j (by omega))
    exact V.retc1 rfl ty28 rfl rfl (by repeat (first | exact List.mem_cons_self | apply List.mem_cons_of_mem)) rfl (vc 52 (.slice a (sortB Pt.lt (edgesL l)).length c) (sortB Pt.lt (edgesL l)) :: I) (by rw [← hM]; exact Fit.sub) (.inr ⟨a, c, hz, by rw [← hM], rfl⟩)

theorem onesB_bd (m : BitVec 64) : 0 ≤ onesB m ∧ onesB m < 128 := by unfold onesB; omega

theorem Density_ok {κ : Ctx} {I : List Item} {nd : Int} {va vb : Value} {es : List Pt} {set : List Int} (hl : Sl κ I va es) (hs : Sl κ I vb set) (hG : GrOk nd es) (hb : es.length ≤ 1000000) :
    CallS Tryz.prog κ 24 [.agg #[I64 (nd), va], vb] I (fun r J => r = .tuple #[.agg #[I64 (mkF ((insideN nd es set : Nat) : Int) (if onesB (maskB set &&& allB nd) < 1 then 1 else onesB (maskB set &&& allB nd))).num, I64 (mkF ((insideN nd es set : Nat) : Int) (if onesB (maskB set &&& allB nd) < 1 then 1 else onesB (maskB set &&& allB nd))).den], I64 0] ∧ I = J) := by
 refine CallS.enter (L := [(0, .agg #[I64 (nd), va]), (1, vb)]) Tryz.func24 rfl rfl rfl rfl ?_
 refine W.sr ?_
 refine G.e (Eff.box (cs := [_, _]) rfl rfl rfl) ?_
 rintro _ _ ⟨b1, rfl, rfl⟩
 refine G.e (Eff.alloc ty45 rfl) ?_
 rintro _ _ ⟨b2, rfl, rfl⟩
 refine G.r (Runs.assign rfl) ?_
 refine G.nt ?_
 refine W.seq ?_
 refine W.sr ?_
 refine G.r (Runs.lds (vs := [_, _]) ty28) ?_
 refine G.e (Eff.call call49 rfl rfl (CheckG_ok (Sl.f hl) hG)) ?_
 rintro _ _ ⟨_, _, ⟨rfl, rfl⟩, rfl, rfl⟩
 refine G.r (Runs.assign rfl) ?_
 refine G.nt ?_
 refine W.sr ?_
 refine G.r (Runs.move rfl) ?_
 refine G.r (Runs.neq rfl rfl) ?_
 refine G.nt ?_
 refine W.ite rfl (fun c11 => ?_) (fun c11 => ?_)
 ·exact absurd rfl c11
 ·refine W.skip ?_
  refine V.then ?_
  refine W.seq ?_
  refine W.drawn mixed ?_
  refine A.hold (blk b2 [I64 (0), I64 (0)] 45 :: blk b1 [I64 (nd), va] 28 :: I) 8 ?_
  refine D.r 0 rfl (Runs.move rfl) ?_ (hJ := Fit.sub)
  refine D.r 2 rfl (Runs.fieldAddr fld28_0 rfl) ?_ (hJ := Fit.sub)
  refine D.r 3 rfl (Runs.ld ty3) ?_ (hJ := Fit.sub)
  refine D.step (rs := [1]) (by kernel_rfl) rfl rfl (all1 ?_)
  refine Step.eff rfl (Wanted.plain rfl) (Eff.call call61 rfl rfl (MaskOf_ok (Sl.f hs))) ?_
  rintro _ _ ⟨_, _, ⟨rfl, rfl⟩, rfl, rfl⟩
  refine ⟨Fit.sub, ?_⟩
  refine D.step (rs := [4]) (by kernel_rfl) rfl rfl (all1 ?_)
  refine Step.eff rfl (Wanted.plain rfl) (Eff.call call62 rfl rfl (MaskAll_ok nd)) ?_
  rintro _ _ ⟨_, _, ⟨rfl, rfl⟩, rfl, rfl⟩
  refine ⟨Fit.sub, ?_⟩
  refine D.r 5 rfl (Runs.andB (a := maskB set) (b := allB nd) rfl rfl) ?_ (hJ := Fit.sub)
  refine D.step (rs := [6]) (by kernel_rfl) rfl rfl (all1 ?_)
  refine Step.eff rfl (Wanted.plain rfl) (Eff.call call57 rfl rfl (MCount_ok ((maskB set) &&& (allB nd)))) ?_
  rintro _ _ ⟨_, _, ⟨rfl, rfl⟩, rfl, rfl⟩
  refine ⟨Fit.sub, ?_⟩
  refine D.r 7 rfl (Runs.assign rfl) ?_ (hJ := Fit.sub)
  refine D.done (by kernel_rfl) ?_
  refine V.then ?_
  refine W.sub (L' := [(7, _), (4, _), (2, _), (1, _)]) (Sub.cons rfl (Sub.cons rfl (Sub.cons rfl (Sub.cons rfl Sub.nil)))) ?_
  refine W.sr ?_
  refine G.r (Runs.lds (vs := [_, _]) ty28) ?_
  refine G.r (Runs.move rfl) ?_
  refine G.e (Eff.call call27 rfl rfl (InsideG_ok (nd := nd) (Sl.f hl) (Sl.f hs) (by omega))) ?_
  rintro _ _ ⟨_, _, ⟨rfl, rfl⟩, rfl, rfl⟩
  have hin23 := insideN_le nd es set
  refine G.r (Runs.move rfl) ?_
  refine G.r (Runs.max rfl rfl) ?_
  refine G.e (Eff.call call63 rfl rfl (MakeF_ok ((insideN nd es set : Nat) : Int) (if (onesB ((maskB set) &&& (allB nd))) < 1 then 1 else (onesB ((maskB set) &&& (allB nd)))) (by omega) (by have := onesB_bd (maskB set &&& allB nd); split <;> omega))) ?_
  rintro _ _ ⟨_, _, ⟨rfl, rfl⟩, rfl, rfl⟩
  refine G.r (Runs.extract rfl rfl) ?_
  refine G.r (Runs.extract rfl rfl) ?_
  refine G.e (Eff.st (cs := [_, _]) (vs := [_, _]) (cs' := [_, _]) ty45) ?_
  rintro _ _ ⟨rfl, rfl⟩
  refine G.r (Runs.assign rfl) ?_
  refine G.nt ?_
  refine W.ret ?_
  exact V.retc1 rfl ty45 rfl rfl (by repeat (first | exact List.mem_cons_self | apply List.mem_cons_of_mem)) rfl (I) Fit.m ⟨rfl, rfl⟩

end Go.Sl
namespace Go.Sl
open Go.Proofs
set_option linter.unusedVariables false
set_option linter.unusedSimpArgs false
set_option maxRecDepth 4000
theorem w3_ok : sortB Pt.lt (edgesL [(⟨2, 1⟩ : Pt), ⟨0, 1⟩, ⟨1, 2⟩]) = [⟨0, 1⟩, ⟨1, 2⟩] := by decide +kernel
theorem w3_gr : GrOk 3 (sortB Pt.lt (edgesL [(⟨2, 1⟩ : Pt), ⟨0, 1⟩, ⟨1, 2⟩])) := by rw [w3_ok]; exact ⟨by omega, by unfold AscP; decide, by decide⟩
theorem w3_zero : ofE 3 [(⟨2, 1⟩ : Pt), ⟨0, 1⟩, ⟨1, 2⟩] = 0 := by decide +kernel

set_option maxHeartbeats 2000000 in
theorem Awake03_ok {κ : Ctx} {I : List Item}  :
    CallS Tryz.prog κ 7 [] I (fun r J => r = .bool true ∧ I = J) := by
 refine CallS.enter (L := []) Tryz.func7 rfl rfl rfl rfl ?_
 refine W.sr ?_
 refine G.r (Runs.assign rfl) ?_
 refine G.nt ?_
 refine W.sr ?_
 refine G.r (Runs.build (cells := [_, _]) ty52 Tryz.underlying52 pl52 rfl rfl) ?_
 refine G.r (Runs.build (cells := [_, _]) ty52 Tryz.underlying52 pl52 rfl rfl) ?_
 refine G.r (Runs.build (cells := [_, _]) ty52 Tryz.underlying52 pl52 rfl rfl) ?_
 refine G.e (Eff.bs (α := Pt) (cs := [I64 (2), I64 (1), I64 (0), I64 (1), I64 (1), I64 (2)]) (xs := [⟨2, 1⟩, ⟨0, 1⟩, ⟨1, 2⟩]) Tryz.underlying26 ty52 rfl rfl (by decide) (by decide) rfl (by kernel_rfl) rfl rfl) ?_
 rintro _ _ ⟨ad1, rfl, rfl⟩
 refine G.e (Eff.call call48 rfl rfl (OfG_ok (nd := 3) Sl.o (by decide))) ?_
 rintro _ _ ⟨_, _, (⟨hnead2, rfl, rfl⟩ | ⟨ad2, cp3, hzad2, rfl, rfl⟩), rfl, rfl⟩
 ·exact absurd w3_zero hnead2
 ·show G Tryz.prog κ _ _ _ _ ([(10, .tuple #[.agg #[I64 (3), .slice ad2 (sortB Pt.lt (edgesL ([⟨2, 1⟩, ⟨0, 1⟩, ⟨1, 2⟩] : List Pt))).length cp3], I64 (0)]), (9, .slice ad1 3 3), (8, .agg #[I64 (1), I64 (2)]), (7, .agg #[I64 (0), I64 (1)]), (6, .agg #[I64 (2), I64 (1)]), (0, .bool false)] : Env) (vc 52 (.slice ad2 (sortB Pt.lt (edgesL ([⟨2, 1⟩, ⟨0, 1⟩, ⟨1, 2⟩] : List Pt))).length cp3) (sortB Pt.lt (edgesL ([⟨2, 1⟩, ⟨0, 1⟩, ⟨1, 2⟩] : List Pt))) :: vc 52 (.slice ad1 3 3) (([⟨2, 1⟩, ⟨0, 1⟩, ⟨1, 2⟩] : List Pt)) :: I)
  refine G.r (Runs.move rfl) ?_
  refine G.r (Runs.extract rfl rfl) ?_
  refine G.r (Runs.extract rfl rfl) ?_
  refine G.e (Eff.alloc ty28 rfl) ?_
  rintro _ _ ⟨b4, rfl, rfl⟩
  refine G.e (Eff.st (cs := [_, _]) (vs := [_, _]) (cs' := [_, _]) ty28) ?_
  rintro _ _ ⟨rfl, rfl⟩
  refine G.r (Runs.assign rfl) ?_
  refine G.nt ?_
  refine W.sr ?_
  refine G.r (Runs.lds (vs := [_, _]) ty28) ?_
  refine G.e (Eff.bs (α := Int) (cs := [_, _, _]) (xs := [0, 1, 2]) Tryz.underlying22 ty3 rfl rfl (by decide) (by decide) rfl rfl rfl rfl) ?_
  rintro _ _ ⟨ad5, rfl, rfl⟩
  refine G.e (Eff.call call24 rfl rfl (Density_ok Sl.o Sl.o w3_gr (by rw [w3_ok]; decide))) ?_
  rintro _ _ ⟨_, _, ⟨rfl, rfl⟩, rfl, rfl⟩
  refine G.r (Runs.move rfl) ?_
  refine G.r (Runs.extract rfl rfl) ?_
  refine G.r (Runs.extract rfl rfl) ?_
  refine G.e (Eff.alloc ty45 rfl) ?_
  rintro _ _ ⟨b6, rfl, rfl⟩
  refine G.e (Eff.st (cs := [_, _]) (vs := [_, _]) (cs' := [_, _]) ty45) ?_
  rintro _ _ ⟨rfl, rfl⟩
  refine G.r (Runs.assign rfl) ?_
  refine G.nt ?_
  refine W.sub (L' := [(4, _), (3, _), (2, _), (1, _)]) (Sub.cons rfl (Sub.cons rfl (Sub.cons rfl (Sub.cons rfl Sub.nil)))) ?_
  refine W.sr ?_
  refine G.r (Runs.move rfl) ?_
  refine G.r (Runs.eql rfl rfl) ?_
  refine G.r (Runs.move rfl) ?_
  refine G.split (d := 21) rfl (fun g21 => ?_) (fun g21 => ?_)
  ·refine G.ro (Runs.move rfl) ?_
   refine G.ro (Runs.eql rfl rfl) ?_
   refine G.r (Runs.pickt rfl rfl) ?_
   refine G.r (Runs.move rfl) ?_
   refine G.split (d := 25) rfl (fun g25 => ?_) (fun g25 => ?_)
   ·refine G.ro (Runs.fieldAddr fld28_1 rfl) ?_
    refine G.ro (Runs.ld ty26) ?_
    refine G.ro (Runs.lens Tryz.underlying26 rfl) ?_
    refine G.ro (Runs.eql rfl rfl) ?_
    refine G.r (Runs.pickt rfl rfl) ?_
    refine G.r (Runs.move rfl) ?_
    refine G.split (d := 31) rfl (fun g31 => ?_) (fun g31 => ?_)
    ·refine G.ro (Runs.lds (vs := [_, _]) ty45) ?_
     refine G.ro (Runs.build (cells := [_, _]) ty45 Tryz.underlying45 pl45 rfl rfl) ?_
     refine G.ro (Runs.eqlT (α := Fr) (a := (mkF ((insideN 3 (sortB Pt.lt (edgesL ([⟨2, 1⟩, ⟨0, 1⟩, ⟨1, 2⟩] : List Pt))) ([0, 1, 2] : List Int) : Nat) : Int) (if onesB (maskB ([0, 1, 2] : List Int) &&& allB 3) < 1 then 1 else onesB (maskB ([0, 1, 2] : List Int) &&& allB 3)))) (b := (⟨2, 3⟩ : Fr)) eqt45 rfl rfl) ?_
     refine G.r (Runs.pickt rfl rfl) ?_
     refine G.r (Runs.move rfl) ?_
     refine G.split (d := 36) rfl (fun g36 => ?_) (fun g36 => ?_)
     ·refine G.ro (Runs.lds (vs := [_, _]) ty28) ?_
      refine G.eff (Wanted.on rfl rfl rfl) (Eff.call call49 rfl rfl (CheckG_ok Sl.o w3_gr)) ?_
      rintro _ _ ⟨_, _, ⟨rfl, rfl⟩, rfl, rfl⟩
      refine G.ro (Runs.eql rfl rfl) ?_
      refine G.r (Runs.pickt rfl rfl) ?_
      refine G.r (Runs.assign rfl) ?_
      refine G.nt ?_
      refine W.sub (L' := [(0, _)]) (Sub.cons rfl Sub.nil) ?_
      refine W.ret ?_
      exact V.ret1 rfl rfl (I) Fit.m ⟨by first | rfl | exact congrArg Value.bool (decide_eq_true rfl), rfl⟩
     ·exact absurd (by rw [w3_ok]; decide +kernel) g36
    ·exact absurd (by rw [w3_ok]; rfl) g31
   ·exact absurd rfl g25
  ·exact absurd rfl g21

end Go.Sl
