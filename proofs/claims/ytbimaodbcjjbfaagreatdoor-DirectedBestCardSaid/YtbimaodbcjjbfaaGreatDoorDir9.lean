/- A part of the proofs of statements of this seat: contracts of functions, and the plain laws that they lean on. No conditions. -/
import Derived.Test.YtbimaodbcjjbfaaGreatDoorWide
import Derived.Test.YtbimaodbcjjbfaaGreatDoorRunsU
import Derived.Test.YtbimaodbcjjbfaaGreatDoorRefFrac
import Derived.Test.YtbimaodbcjjbfaaGreatDoorMaskB
import Derived.Test.YtbimaodbcjjbfaaGreatDoorGraphG5
import Derived.Test.YtbimaodbcjjbfaaGreatDoorGraphL5
import Derived.Test.YtbimaodbcjjbfaaGreatDoorLookA
import Derived.Test.YtbimaodbcjjbfaaGreatDoorReach9
import Derived.Test.YtbimaodbcjjbfaaGreatDoorGraphM5
/- Arrays of numbers in one block, read and written at any place; arrays as slices; products of u64 numbers. No conditions. -/
namespace Go.Sl
set_option linter.unusedVariables false
set_option linter.unusedSimpArgs false
set_option linter.unusedSectionVars false
/-- A pointer to an array, as a slice. -/
def arrOf : Value → Nat → Value
  | .pointer p, n => .slice p n n
  | _, _ => undef
section
variable {P : Program} {κ : Ctx} {N : Nat} {Q : Exit → Act → World → Prop} {L : Env} {I J : List Item}
variable {d : Option Tmp} {ty : TypeId} {ps : String} {af : Array Edge} {gd : Option (Nat × Bool)}
theorem Runs.getA {xs : List Int} {x : Operand} {T sz by' b E : Nat} {z : List Value} {i : Int} (hT : tyF P T = some (sz, false, by', z)) (hx : evalO L x = some (.pointer (some ⟨b, 0 + i.toNat * 1, none⟩))) (hb : BlkRd κ J b (cells xs) E) (h0 : 0 ≤ i) (hn : i < xs.length) :
    Runs P κ N ⟨d, .load T x, ty, ps, af, gd⟩ L J (I64 (at_ xs i)) := by
  refine Runs.loadB hT hx hb ?_
  have := cells_get xs i.toNat 0 (by omega) (by decide)
  rw [show 0 + i.toNat * 1 = i.toNat * Enc.sz Int + 0 by show 0 + i.toNat * 1 = i.toNat * 1 + 0; omega, this, at_eq h0 hn]; rfl
theorem cells_set1 (xs : List Int) (i : Nat) (n : Int) (h : i < xs.length) : (cells xs).take i ++ [I64 n] ++ (cells xs).drop (i + 1) = cells (xs.set i n) := by
  induction xs generalizing i with
  | nil => simp at h
  | cons x xs ih =>
    cases i with
    | zero => rfl
    | succ i =>
      have h' : i < xs.length := by simpa using h
      have e : cells (x :: xs) = I64 x :: cells xs := rfl
      rw [e, List.set_cons_succ]
      have e2 : cells (x :: xs.set i n) = I64 x :: cells (xs.set i n) := rfl
      rw [e2, ← ih i h']; rfl
theorem Eff.setA {xs : List Int} {x y : Operand} {T sz by' b E : Nat} {ag : Bool} {z : List Value} {i n : Int} {I' : List Item} (hT : tyF P T = some (sz, ag, by', z)) (hs1 : sz = 1) (hx : evalO L x = some (.pointer (some ⟨b, 0 + i.toNat * 1, none⟩))) (hy : evalO L y = some (I64 n)) (h0 : 0 ≤ i) (hn : i < xs.length)
    (hat : At I (blk b (cells xs) E) (blk b (cells (xs.set i.toNat n)) E) I') :
    Eff P κ N Q ⟨none, .store T x y, ty, ps, af, gd⟩ L I fun L' I'' => L' = L ∧ I'' = I' := by
  have hl : (cells xs).length = xs.length := by rw [cells_length]; show xs.length * 1 = _; omega
  refine Eff.store (vs := [I64 n]) (cs' := cells (xs.set i.toNat n)) hT hx hy rfl (by rw [hs1]; rfl) (fun u hu => by rw [List.mem_singleton] at hu; subst hu; rfl) (by rw [hl]; simp; omega) ?_ hat
  have h := cells_set1 xs i.toNat n (by omega)
  rw [show 0 + i.toNat * 1 = i.toNat by omega]
  exact h
theorem Runs.sliceBlk {x : Operand} {T E n b o sz by' : Nat} {ag : Bool} {z : List Value} (ht : P.underlying T = some (.array n E)) (hE : tyF P E = some (sz, ag, by', z)) (hx : evalO L x = some (.pointer (some ⟨b, o, none⟩))) (hn : 0 < n) :
    Runs P κ N ⟨d, .slice T x none none none, ty, ps, af, gd⟩ L J (.slice (some ⟨b, o, none⟩) n n) := fun a w ha hs => by
  have hne : ¬ n = 0 := by omega
  simp [execOp, ha.eval hx, Instr.sliceAt, Instr.sureAddr, run_underlying ht, Instr.sliceBounds, run_sizeOf hE, hne, Addr.add]
theorem Runs.sliceEl {α : Type} [Enc α] {xs : List α} {x : Operand} {v : Value} {T E n k sz by' : Nat} {ag : Bool} {z : List Value} (ht : P.underlying T = some (.array n E)) (hE : tyF P E = some (sz, ag, by', z)) (hx : evalO L x = some (elemPtr v k)) (hv : Sl κ J v xs) (h0 : 0 < xs.length) (hn : 0 < n) :
    Runs P κ N ⟨d, .slice T x none none none, ty, ps, af, gd⟩ L J (arrOf (elemPtr v k) n) := fun a w ha hs => by
  have hne : ¬ n = 0 := by omega
  obtain ⟨ad, cap, rfl, _, h2, _, h4⟩ := hv w hs
  obtain ⟨b, off, rfl, _⟩ := h4 (by omega)
  have ep : elemPtr (.slice (some ⟨b, off, none⟩) xs.length cap) k = .pointer (some ⟨b, off + k, none⟩) := by simp [elemPtr, addr_add]
  rw [ep] at hx ⊢
  have e := hx
  exact Runs.sliceBlk (P := P) (κ := κ) (N := N) (J := J) (d := d) (ty := ty) (ps := ps) (af := af) (gd := gd) ht hE e hn a w ha hs
theorem Sl.arr {α : Type} [Enc α] {xs : List α} {b n E : Nat} {cs : List Value} (h : BlkRd κ I b cs E) (hc : cs = cells xs) (hn : xs.length = n) (hm : n ≤ maxLen) : Sl κ I (.slice (some ⟨b, 0, none⟩) n n) xs := fun w hs => by
  subst hc hn
  refine ⟨_, _, rfl, cells_length _, Nat.le_refl _, hm, fun _ => ⟨b, 0, rfl, fun j u hj => ?_⟩⟩
  rw [Nat.zero_add, cell_blk (h w hs) j]; exact hj
theorem Sl.el {α : Type} [Enc α] [Inhabited α] {xs : List α} {ys : List Int} {v : Value} {i : Int} {n : Nat} (hv : Sl κ I v xs) (h0 : 0 ≤ i) (hi : i < xs.length) (he : Enc.enc (at_ xs i) = cells ys) (hn : ys.length = n) (hz : Enc.sz α = n) (hm : n ≤ maxLen) : Sl κ I (arrOf (elemPtr v (i.toNat * Enc.sz α)) n) ys := fun w hs => by
  obtain ⟨ad, cap, rfl, h1, h2, h3, h4⟩ := hv w hs
  obtain ⟨b, off, rfl, hr⟩ := h4 (by omega)
  subst hn
  refine ⟨some ⟨b, off + i.toNat * Enc.sz α, none⟩, ys.length, ?_, cells_length _, Nat.le_refl _, hm, fun _ => ⟨b, _, rfl, fun j u hj => ?_⟩⟩
  · simp [elemPtr, arrOf, Addr.add]
  · rw [Nat.add_assoc]
    refine hr _ u ?_
    have hj' : j < Enc.sz α := by
      have := (List.getElem?_eq_some_iff.1 hj).1
      rw [cells_length] at this
      have e1 : ys.length * Enc.sz Int = ys.length := Nat.mul_one _
      omega
    rw [cells_get xs i.toNat j (by omega) hj', ← at_eq h0 hi, he]; exact hj
end
section
variable {P : Program} {κ : Ctx} {N : Nat} {L : Env} {J : List Item} {d : Option Tmp} {ty : TypeId} {ps : String} {af : Array Edge} {gd : Option (Nat × Bool)} {x y : Operand} {T U : TypeId} {k' : IntKind}
theorem Runs.mulU {m n r : Int} (hx : evalO L x = some (.int .u64 m)) (hy : evalO L y = some (.int .u64 n)) (hr : m * n = r) (h0 : 0 ≤ r) (h1 : r < 18446744073709551616) : Runs P κ N ⟨d, .binOp .mul T x y U, ty, ps, af, gd⟩ L J (.int .u64 r) := by
  have h := Runs.mulw (P := P) (κ := κ) (N := N) (J := J) (d := d) (ty := ty) (ps := ps) (af := af) (gd := gd) (T := T) (U := U) hx hy
  have e : IntKind.u64.wrap (m * n) = r := by rw [u64_wrap, hr]; omega
  rwa [e] at h
theorem Runs.addU {m n r : Int} (hx : evalO L x = some (.int .u64 m)) (hy : evalO L y = some (.int .u64 n)) (hr : m + n = r) (h0 : 0 ≤ r) (h1 : r < 18446744073709551616) : Runs P κ N ⟨d, .binOp .add T x y U, ty, ps, af, gd⟩ L J (.int .u64 r) := by
  have h := Runs.addw (P := P) (κ := κ) (N := N) (J := J) (d := d) (ty := ty) (ps := ps) (af := af) (gd := gd) (T := T) (U := U) hx hy
  have e : IntKind.u64.wrap (m + n) = r := by rw [u64_wrap, hr]; omega
  rwa [e] at h
theorem Runs.lowU {m r : Int} (hx : evalO L x = some (.int .u64 m)) (hy : evalO L y = some (.int .u64 4294967295)) (h0 : 0 ≤ m) (h1 : m < 18446744073709551616) (hr : m % 4294967296 = r) : Runs P κ N ⟨d, .binOp .and T x y U, ty, ps, af, gd⟩ L J (.int .u64 r) := by
  obtain ⟨b, rfl⟩ := u64_nat h0 h1
  have h := Runs.andB (P := P) (κ := κ) (N := N) (J := J) (d := d) (ty := ty) (ps := ps) (af := af) (gd := gd) (T := T) (U := U) (b := 4294967295#64) hx hy
  have e : ((b &&& 4294967295#64).toNat : Int) = r := by
    rw [BitVec.toNat_and, show (4294967295#64).toNat = 2 ^ 32 - 1 from rfl, Nat.and_two_pow_sub_one_eq_mod, ← hr]; rfl
  rw [← e]; exact h
theorem Runs.shr32 {m r : Int} (hx : evalO L x = some (.int .u64 m)) (hy : evalO L y = some (.int k' 32)) (hr : m / 4294967296 = r) : Runs P κ N ⟨d, .binOp .shr T x y U, ty, ps, af, gd⟩ L J (.int .u64 r) := by
  have h := Runs.shrU (P := P) (κ := κ) (N := N) (J := J) (d := d) (ty := ty) (ps := ps) (af := af) (gd := gd) (T := T) (U := U) hx hy (by decide) (by decide)
  rw [show (2 : Int) ^ (32 : Int).toNat = 4294967296 from rfl, hr] at h
  exact h
theorem Runs.shl32 {m : Int} (hx : evalO L x = some (.int .u64 m)) (hy : evalO L y = some (.int k' 32)) (h0 : 0 ≤ m) (h1 : m < 4294967296) : Runs P κ N ⟨d, .binOp .shl T x y U, ty, ps, af, gd⟩ L J (.int .u64 (m * 4294967296)) := by
  have h := Runs.shlw (P := P) (κ := κ) (N := N) (J := J) (d := d) (ty := ty) (ps := ps) (af := af) (gd := gd) (T := T) (U := U) hx hy (by decide)
  have e : IntKind.u64.wrap (m * 2 ^ Min.min (32 : Int).toNat IntKind.u64.bits) = m * 4294967296 := by
    rw [show Min.min (32 : Int).toNat IntKind.u64.bits = 32 from rfl, u64_wrap]; omega
  rwa [e] at h
theorem Runs.orLow {m n r : Int} (hx : evalO L x = some (.int .u64 (m * 4294967296))) (hy : evalO L y = some (.int .u64 n)) (h0 : 0 ≤ m) (h1 : m < 4294967296) (h2 : 0 ≤ n) (h3 : n < 4294967296) (hr : m * 4294967296 + n = r) : Runs P κ N ⟨d, .binOp .or T x y U, ty, ps, af, gd⟩ L J (.int .u64 r) := by
  obtain ⟨a, ha⟩ := u64_nat (n := m * 4294967296) (by omega) (by omega)
  obtain ⟨b, hb⟩ := u64_nat (n := n) (by omega) (by omega)
  rw [ha] at hx
  rw [hb] at hy
  have h := Runs.orB (P := P) (κ := κ) (N := N) (J := J) (d := d) (ty := ty) (ps := ps) (af := af) (gd := gd) (T := T) (U := U) hx hy
  have e : ((a ||| b).toNat : Int) = r := by
    rw [BitVec.toNat_or]
    have ea : a.toNat = m.toNat <<< 32 := by rw [Nat.shiftLeft_eq]; omega
    have hbn : b.toNat < 2 ^ 32 := by omega
    rw [ea, ← Nat.shiftLeft_add_eq_or_of_lt hbn, Nat.shiftLeft_eq]; omega
  rw [← e]; exact h
end
end Go.Sl
namespace Go.Sl
open Go.Proofs
set_option linter.unusedVariables false
set_option linter.unusedSimpArgs false
set_option maxRecDepth 4000
/-- A valid fraction of small numbers. -/
structure FrV (x : Fr) : Prop where
  n0 : 0 ≤ x.num
  n1 : x.num ≤ 1073741824
  d0 : 1 ≤ x.den
  d1 : x.den ≤ 1073741824
  cop : gcdI x.num x.den = 1
theorem mkF_val {a b : Int} (h0 : 0 ≤ a) (h1 : a ≤ 1073741824) (h2 : 0 < b) (h3 : b ≤ 1073741824) : FrV (mkF a b) := by
  have hn := mkF_num h0 h2
  have hd := mkF_den (a := a) h2
  refine ⟨hn.1, by omega, hd.1, by omega, ?_⟩
  obtain ⟨m, rfl⟩ := Int.eq_ofNat_of_zero_le h0
  obtain ⟨n, rfl⟩ := Int.eq_ofNat_of_zero_le (show 0 ≤ b by omega)
  have hg : 0 < m.gcd n := Nat.gcd_pos_of_pos_right _ (by omega)
  have hc := Nat.coprime_div_gcd_div_gcd hg
  unfold mkF gcdI
  simp only [Int.toNat_natCast, Int.ofNat_eq_natCast, ← Int.natCast_ediv]
  rw [hc.gcd_eq_one]; rfl
def cmpF (x y : Fr) : Int := if x.num * y.den < y.num * x.den then -1 else if y.num * x.den < x.num * y.den then 1 else 0
def sgnI (n : Int) : Int := if n < 0 then -1 else if 0 < n then 1 else 0
theorem sgn_bd (n : Int) : -1 ≤ sgnI n ∧ sgnI n ≤ 1 := by unfold sgnI; split <;> (try split) <;> omega
theorem mul_small {x y : Int} (hx : 0 ≤ x ∧ x ≤ 1073741824) (hy : 0 ≤ y ∧ y ≤ 1073741824) : 0 ≤ x * y ∧ x * y ≤ 1152921504606846976 := by
  refine ⟨Int.mul_nonneg hx.1 hy.1, ?_⟩
  have h1 := Int.mul_le_mul hx.2 hy.2 hy.1 (by decide)
  omega
theorem FrV.mul {x y : Fr} (hx : FrV x) (hy : FrV y) : (0 ≤ x.num * y.den ∧ x.num * y.den ≤ 1152921504606846976) ∧ (0 < x.num → 0 < x.num * y.den) := by
  have h1 := hx.n0; have h2 := hx.n1; have h3 := hy.d0; have h4 := hy.d1
  exact ⟨mul_small ⟨h1, h2⟩ ⟨by omega, h4⟩, fun h => Int.mul_pos h (by omega)⟩

theorem Mul64_ok {κ : Ctx} {I : List Item} (x y : Int) (hx : 0 ≤ x ∧ x ≤ 1073741824) (hy : 0 ≤ y ∧ y ≤ 1073741824) :
    CallS Tryz.prog κ 129 [.int .u64 (x), .int .u64 (y)] I (fun r J => r = .tuple #[.int .u64 0, .int .u64 (x * y)] ∧ I = J) := by
 have hxy := mul_small hx hy
 refine CallS.enter (L := [(0, .int .u64 (x)), (1, .int .u64 (y))]) Tryz.func129 rfl rfl rfl rfl ?_
 refine W.sr ?_
 refine G.r (Runs.assign rfl) ?_
 refine G.r (Runs.assign rfl) ?_
 refine G.nt ?_
 refine W.sr ?_
 refine G.r (Runs.move rfl) ?_
 refine G.r (Runs.lowU (m := x) (r := x) rfl rfl (by omega) (by omega) (by omega)) ?_
 refine G.r (Runs.assign rfl) ?_
 refine G.nt ?_
 refine W.sr ?_
 refine G.r (Runs.move rfl) ?_
 refine G.r (Runs.shr32 (m := x) (r := 0) rfl rfl (by omega)) ?_
 refine G.r (Runs.assign rfl) ?_
 refine G.nt ?_
 refine W.sr ?_
 refine G.r (Runs.move rfl) ?_
 refine G.r (Runs.lowU (m := y) (r := y) rfl rfl (by omega) (by omega) (by omega)) ?_
 refine G.r (Runs.assign rfl) ?_
 refine G.nt ?_
 refine W.sr ?_
 refine G.r (Runs.move rfl) ?_
 refine G.r (Runs.shr32 (m := y) (r := 0) rfl rfl (by omega)) ?_
 refine G.r (Runs.assign rfl) ?_
 refine G.nt ?_
 refine W.sub (L' := [(9, _), (8, _), (7, _), (6, _), (0, _), (1, _)]) (Sub.cons rfl (Sub.cons rfl (Sub.cons rfl (Sub.cons rfl (Sub.cons rfl (Sub.cons rfl Sub.nil)))))) ?_
 refine W.sr ?_
 refine G.r (Runs.move rfl) ?_
 refine G.r (Runs.move rfl) ?_
 refine G.r (Runs.mulU (m := x) (n := y) (r := x * y) rfl rfl rfl (by omega) (by omega)) ?_
 refine G.r (Runs.assign rfl) ?_
 refine G.nt ?_
 refine W.sr ?_
 refine G.r (Runs.move rfl) ?_
 refine G.r (Runs.move rfl) ?_
 refine G.r (Runs.mulU (m := 0) (n := y) (r := 0) rfl rfl (Int.zero_mul _) (by omega) (by omega)) ?_
 refine G.r (Runs.move rfl) ?_
 refine G.r (Runs.shr32 (m := x * y) (r := x * y / 4294967296) rfl rfl (by omega)) ?_
 refine G.r (Runs.addU (m := 0) (n := x * y / 4294967296) (r := x * y / 4294967296) rfl rfl (by omega) (by omega) (by omega)) ?_
 refine G.r (Runs.assign rfl) ?_
 refine G.nt ?_
 refine W.sub (L' := [(11, _), (9, _), (7, _), (6, _), (0, _), (1, _)]) (Sub.cons rfl (Sub.cons rfl (Sub.cons rfl (Sub.cons rfl (Sub.cons rfl (Sub.cons rfl Sub.nil)))))) ?_
 refine W.sr ?_
 refine G.r (Runs.move rfl) ?_
 refine G.r (Runs.lowU (m := x * y / 4294967296) (r := x * y / 4294967296) rfl rfl (by omega) (by omega) (by omega)) ?_
 refine G.r (Runs.assign rfl) ?_
 refine G.nt ?_
 refine W.sr ?_
 refine G.r (Runs.move rfl) ?_
 refine G.r (Runs.shr32 (m := x * y / 4294967296) (r := 0) rfl rfl (by omega)) ?_
 refine G.r (Runs.assign rfl) ?_
 refine G.nt ?_
 refine W.sr ?_
 refine G.r (Runs.move rfl) ?_
 refine G.r (Runs.move rfl) ?_
 refine G.r (Runs.move rfl) ?_
 refine G.r (Runs.mulU (m := x) (n := 0) (r := 0) rfl rfl (Int.mul_zero _) (by omega) (by omega)) ?_
 refine G.r (Runs.addU (m := x * y / 4294967296) (n := 0) (r := x * y / 4294967296) rfl rfl (by omega) (by omega) (by omega)) ?_
 refine G.r (Runs.assign rfl) ?_
 refine G.nt ?_
 refine W.sub (L' := [(12, _), (13, _), (9, _), (7, _), (0, _), (1, _)]) (Sub.cons rfl (Sub.cons rfl (Sub.cons rfl (Sub.cons rfl (Sub.cons rfl (Sub.cons rfl Sub.nil)))))) ?_
 refine W.sr ?_
 refine G.r (Runs.move rfl) ?_
 refine G.r (Runs.move rfl) ?_
 refine G.r (Runs.mulU (m := 0) (n := 0) (r := 0) rfl rfl (Int.zero_mul _) (by omega) (by omega)) ?_
 refine G.r (Runs.move rfl) ?_
 refine G.r (Runs.addU (m := 0) (n := 0) (r := 0) rfl rfl (by omega) (by omega) (by omega)) ?_
 refine G.r (Runs.move rfl) ?_
 refine G.r (Runs.shr32 (m := x * y / 4294967296) (r := 0) rfl rfl (by omega)) ?_
 refine G.r (Runs.addU (m := 0) (n := 0) (r := 0) rfl rfl (by omega) (by omega) (by omega)) ?_
 refine G.r (Runs.assign rfl) ?_
 refine G.nt ?_
 refine W.sub (L' := [(4, _), (0, _), (1, _)]) (Sub.cons rfl (Sub.cons rfl (Sub.cons rfl Sub.nil))) ?_
 refine W.sr ?_
 refine G.r (Runs.move rfl) ?_
 refine G.r (Runs.move rfl) ?_
 refine G.r (Runs.mulU (m := x) (n := y) (r := x * y) rfl rfl rfl (by omega) (by omega)) ?_
 refine G.r (Runs.assign rfl) ?_
 refine G.nt ?_
 refine W.ret ?_
 exact V.ret2 rfl rfl rfl (I) Fit.m ⟨rfl, rfl⟩

theorem WMul_ok {κ : Ctx} {I : List Item} (x y : Int) (hx : 0 ≤ x ∧ x ≤ 1073741824) (hy : 0 ≤ y ∧ y ≤ 1073741824) :
    CallS Tryz.prog κ 85 [.int .u64 (x), .int .u64 (y)] I (fun r J => r = .agg #[.int .u64 0, .int .u64 (x * y)] ∧ I = J) := by
 have hxy := mul_small hx hy
 refine CallS.enter (L := [(0, .int .u64 (x)), (1, .int .u64 (y))]) Tryz.func85 rfl rfl rfl rfl ?_
 refine W.sr ?_
 refine G.e (Eff.alloc ty111 rfl) ?_
 rintro _ _ ⟨b1, rfl, rfl⟩
 refine G.nt ?_
 refine W.sr ?_
 refine G.r (Runs.move rfl) ?_
 refine G.r (Runs.shr32 (m := x) (r := 0) rfl rfl (by omega)) ?_
 refine G.r (Runs.move rfl) ?_
 refine G.r (Runs.lowU (m := x) (r := x) rfl rfl (by omega) (by omega) (by omega)) ?_
 refine G.r (Runs.move rfl) ?_
 refine G.r (Runs.shr32 (m := y) (r := 0) rfl rfl (by omega)) ?_
 refine G.r (Runs.move rfl) ?_
 refine G.r (Runs.lowU (m := y) (r := y) rfl rfl (by omega) (by omega) (by omega)) ?_
 refine G.r (Runs.assign rfl) ?_
 refine G.r (Runs.assign rfl) ?_
 refine G.r (Runs.assign rfl) ?_
 refine G.r (Runs.assign rfl) ?_
 refine G.nt ?_
 refine W.sub (L' := [(8, _), (7, _), (6, _), (5, _), (4, _)]) (Sub.cons rfl (Sub.cons rfl (Sub.cons rfl (Sub.cons rfl (Sub.cons rfl Sub.nil))))) ?_
 refine W.sr ?_
 refine G.r (Runs.move rfl) ?_
 refine G.r (Runs.move rfl) ?_
 refine G.r (Runs.mulU (m := x) (n := y) (r := x * y) rfl rfl rfl (by omega) (by omega)) ?_
 refine G.r (Runs.assign rfl) ?_
 refine G.nt ?_
 refine W.sr ?_
 refine G.r (Runs.move rfl) ?_
 refine G.r (Runs.move rfl) ?_
 refine G.r (Runs.mulU (m := 0) (n := y) (r := 0) rfl rfl (Int.zero_mul _) (by omega) (by omega)) ?_
 refine G.r (Runs.move rfl) ?_
 refine G.r (Runs.shr32 (m := x * y) (r := x * y / 4294967296) rfl rfl (by omega)) ?_
 refine G.r (Runs.addU (m := 0) (n := x * y / 4294967296) (r := x * y / 4294967296) rfl rfl (by omega) (by omega) (by omega)) ?_
 refine G.r (Runs.assign rfl) ?_
 refine G.nt ?_
 refine W.sub (L' := [(10, _), (9, _), (7, _), (6, _), (5, _), (4, _)]) (Sub.cons rfl (Sub.cons rfl (Sub.cons rfl (Sub.cons rfl (Sub.cons rfl (Sub.cons rfl Sub.nil)))))) ?_
 refine W.sr ?_
 refine G.r (Runs.move rfl) ?_
 refine G.r (Runs.move rfl) ?_
 refine G.r (Runs.mulU (m := x) (n := 0) (r := 0) rfl rfl (Int.mul_zero _) (by omega) (by omega)) ?_
 refine G.r (Runs.move rfl) ?_
 refine G.r (Runs.lowU (m := x * y / 4294967296) (r := x * y / 4294967296) rfl rfl (by omega) (by omega) (by omega)) ?_
 refine G.r (Runs.addU (m := 0) (n := x * y / 4294967296) (r := x * y / 4294967296) rfl rfl (by omega) (by omega) (by omega)) ?_
 refine G.r (Runs.assign rfl) ?_
 refine G.nt ?_
 refine W.sr ?_
 refine G.r (Runs.move rfl) ?_
 refine G.r (Runs.move rfl) ?_
 refine G.r (Runs.mulU (m := 0) (n := 0) (r := 0) rfl rfl (Int.zero_mul _) (by omega) (by omega)) ?_
 refine G.r (Runs.move rfl) ?_
 refine G.r (Runs.shr32 (m := x * y / 4294967296) (r := 0) rfl rfl (by omega)) ?_
 refine G.r (Runs.addU (m := 0) (n := 0) (r := 0) rfl rfl (by omega) (by omega) (by omega)) ?_
 refine G.r (Runs.move rfl) ?_
 refine G.r (Runs.shr32 (m := x * y / 4294967296) (r := 0) rfl rfl (by omega)) ?_
 refine G.r (Runs.addU (m := 0) (n := 0) (r := 0) rfl rfl (by omega) (by omega) (by omega)) ?_
 refine G.r (Runs.move rfl) ?_
 refine G.r (Runs.shl32 (m := x * y / 4294967296) rfl rfl (by omega) (by omega)) ?_
 refine G.r (Runs.move rfl) ?_
 refine G.r (Runs.lowU (m := x * y) (r := x * y % 4294967296) rfl rfl (by omega) (by omega) (by omega)) ?_
 refine G.r (Runs.orLow (m := x * y / 4294967296) (n := x * y % 4294967296) (r := x * y) rfl rfl (by omega) (by omega) (by omega) (by omega) (by omega)) ?_
 refine G.r (Runs.build (cells := [_, _]) ty111 Tryz.underlying111 pl111 rfl rfl) ?_
 refine G.e (Eff.st (cs := [_, _]) (vs := [_, _]) (cs' := [_, _]) ty111) ?_
 rintro _ _ ⟨rfl, rfl⟩
 refine G.nt ?_
 refine W.sub (L' := [(4, _)]) (Sub.cons rfl Sub.nil) ?_
 refine W.ret ?_
 exact V.retc rfl ty111 rfl (by repeat (first | exact List.mem_cons_self | apply List.mem_cons_of_mem)) rfl (I) Fit.m ⟨rfl, rfl⟩

theorem Sign_ok {κ : Ctx} {I : List Item} (n : Int) :
    CallS Tryz.prog κ 128 [I64 (n)] I (fun r J => r = I64 (sgnI n) ∧ I = J) := by
 refine CallS.enter (L := [(0, I64 (n))]) Tryz.func128 rfl rfl rfl rfl ?_
 refine W.sr ?_
 refine G.r (Runs.assign rfl) ?_
 refine G.nt ?_
 refine W.seq ?_
 refine W.block ?_
 refine W.sr ?_
 refine G.r (Runs.move rfl) ?_
 refine G.r (Runs.lss rfl rfl) ?_
 refine G.r (Runs.assign rfl) ?_
 refine G.nt ?_
 refine W.ite rfl (fun c3 => ?_) (fun c3 => ?_)
 ·refine W.sr ?_
  refine G.r (Runs.assign rfl) ?_
  refine G.nt ?_
  refine W.ret ?_
  refine V.block_ret ?_
  refine V.then_ret ?_
  exact V.ret1 rfl rfl (I) Fit.m ⟨by unfold sgnI; first | rw [if_pos c3] | rw [if_neg c3, if_pos c6] | rw [if_neg c3, if_neg c6], rfl⟩
 ·refine W.sr ?_
  refine G.r (Runs.move rfl) ?_
  refine G.r (Runs.gtr rfl rfl) ?_
  refine G.r (Runs.assign rfl) ?_
  refine G.nt ?_
  refine W.ite rfl (fun c6 => ?_) (fun c6 => ?_)
  ·refine W.sr ?_
   refine G.r (Runs.assign rfl) ?_
   refine G.nt ?_
   refine W.ret ?_
   refine V.block_ret ?_
   refine V.then_ret ?_
   exact V.ret1 rfl rfl (I) Fit.m ⟨by unfold sgnI; first | rw [if_pos c3] | rw [if_neg c3, if_pos c6] | rw [if_neg c3, if_neg c6], rfl⟩
  ·refine W.skip ?_
   refine V.block_normal ?_
   refine V.then ?_
   refine W.sr ?_
   refine G.r (Runs.assign rfl) ?_
   refine G.nt ?_
   refine W.ret ?_
   exact V.ret1 rfl rfl (I) Fit.m ⟨by unfold sgnI; first | rw [if_pos c3] | rw [if_neg c3, if_pos c6] | rw [if_neg c3, if_neg c6], rfl⟩

theorem RatValid_ok {κ : Ctx} {I : List Item} (x : Fr) (hx : FrV x) :
    CallS Tryz.prog κ 127 [.agg #[I64 (x.num), I64 (x.den)]] I (fun r J => r = .bool true ∧ I = J) := by
 have hn0x := hx.n0
 have hn1x := hx.n1
 have hd0x := hx.d0
 have hd1x := hx.d1
 refine CallS.enter (L := [(0, .agg #[I64 (x.num), I64 (x.den)])]) Tryz.func127 rfl rfl rfl rfl ?_
 refine W.sr ?_
 refine G.e (Eff.box (cs := [_, _]) rfl rfl rfl) ?_
 rintro _ _ ⟨b1, rfl, rfl⟩
 refine G.r (Runs.assign rfl) ?_
 refine G.nt ?_
 refine W.sr ?_
 refine G.r (Runs.fieldAddr fld45_0 rfl) ?_
 refine G.r (Runs.ld ty3) ?_
 refine G.e (Eff.call call114 rfl rfl (RWithin_ok x.num 1152921504606846976 (by omega))) ?_
 rintro _ _ ⟨_, _, ⟨rfl, rfl⟩, rfl, rfl⟩
 refine G.r (Runs.move rfl) ?_
 refine G.split (d := 6) rfl (fun g6 => ?_) (fun g6 => ?_)
 ·refine G.ro (Runs.fieldAddr fld45_1 rfl) ?_
  refine G.ro (Runs.ld ty3) ?_
  refine G.ro (Runs.geq rfl rfl) ?_
  refine G.r (Runs.pickt rfl rfl) ?_
  refine G.r (Runs.move rfl) ?_
  refine G.split (d := 11) rfl (fun g11 => ?_) (fun g11 => ?_)
  ·refine G.ro (Runs.fieldAddr fld45_1 rfl) ?_
   refine G.ro (Runs.ld ty3) ?_
   refine G.ro (Runs.leq rfl rfl) ?_
   refine G.r (Runs.pickt rfl rfl) ?_
   refine G.r (Runs.move rfl) ?_
   refine G.split (d := 16) rfl (fun g16 => ?_) (fun g16 => ?_)
   ·refine G.ro (Runs.fieldAddr fld45_0 rfl) ?_
    refine G.ro (Runs.ld ty3) ?_
    refine G.ro (Runs.fieldAddr fld45_0 rfl) ?_
    refine G.ro (Runs.ld ty3) ?_
    refine G.ro (Runs.neg rfl (by unfold InR; omega)) ?_
    refine G.ro (Runs.max rfl rfl) ?_
    have hmx22 : (if x.num < -(x.num) then -(x.num) else x.num) = x.num := by rw [if_neg (by omega)]
    rw [hmx22]
    refine G.ro (Runs.fieldAddr fld45_1 rfl) ?_
    refine G.ro (Runs.ld ty3) ?_
    refine G.eff (Wanted.on rfl rfl rfl) (Eff.call call133 rfl rfl (Common_ok x.num x.den (by omega) (by omega))) ?_
    rintro _ _ ⟨_, _, ⟨rfl, rfl⟩, rfl, rfl⟩
    refine G.ro (Runs.eql rfl rfl) ?_
    refine G.r (Runs.pickt rfl rfl) ?_
    refine G.r (Runs.assign rfl) ?_
    refine G.nt ?_
    refine W.sub (L' := [(2, _)]) (Sub.cons rfl Sub.nil) ?_
    refine W.ret ?_
    exact V.ret1 rfl rfl (I) Fit.m ⟨by rw [decide_eq_true hx.cop], rfl⟩
   ·exact absurd (by omega) g16
  ·exact absurd (by omega) g11
 ·exact absurd (by omega) g6

set_option maxHeartbeats 1000000 in
theorem RatCmp_ok {κ : Ctx} {I : List Item} (x y : Fr) (hx : FrV x) (hy : FrV y) :
    CallS Tryz.prog κ 91 [.agg #[I64 (x.num), I64 (x.den)], .agg #[I64 (y.num), I64 (y.den)]] I (fun r J => r = I64 (cmpF x y) ∧ I = J) := by
 have hn0x := hx.n0
 have hn1x := hx.n1
 have hd0x := hx.d0
 have hd1x := hx.d1
 have hn0y := hy.n0
 have hn1y := hy.n1
 have hd0y := hy.d0
 have hd1y := hy.d1
 have hb1 := sgn_bd x.num
 have hb2 := sgn_bd y.num
 have hm1 := hx.mul hy
 have hm2 := hy.mul hx
 have hz1 : x.num = 0 → x.num * y.den = 0 := fun h => by rw [h, Int.zero_mul]
 have hz2 : y.num = 0 → y.num * x.den = 0 := fun h => by rw [h, Int.zero_mul]
 refine CallS.enter (L := [(0, .agg #[I64 (x.num), I64 (x.den)]), (1, .agg #[I64 (y.num), I64 (y.den)])]) Tryz.func91 rfl rfl rfl rfl ?_
 refine W.sr ?_
 refine G.e (Eff.box (cs := [_, _]) rfl rfl rfl) ?_
 rintro _ _ ⟨b1, rfl, rfl⟩
 refine G.e (Eff.box (cs := [_, _]) rfl rfl rfl) ?_
 rintro _ _ ⟨b2, rfl, rfl⟩
 refine G.r (Runs.assign rfl) ?_
 refine G.nt ?_
 refine W.seq ?_
 refine W.sr ?_
 refine G.r (Runs.lds (vs := [_, _]) ty45) ?_
 refine G.e (Eff.call call127 rfl rfl (RatValid_ok x (by assumption))) ?_
 rintro _ _ ⟨_, _, ⟨rfl, rfl⟩, rfl, rfl⟩
 refine G.r (Runs.not rfl) ?_
 refine G.r (Runs.move rfl) ?_
 refine G.ro (Runs.lds (vs := [_, _]) ty45) ?_
 refine G.eff (Wanted.on rfl rfl rfl) (Eff.call call127 rfl rfl (RatValid_ok y (by assumption))) ?_
 rintro _ _ ⟨_, _, ⟨rfl, rfl⟩, rfl, rfl⟩
 refine G.ro (Runs.not rfl) ?_
 refine G.r (Runs.pickf rfl rfl) ?_
 refine G.nt ?_
 refine W.no rfl ?_
 refine W.skip ?_
 refine V.then ?_
 refine W.sr ?_
 refine G.r (Runs.fieldAddr fld45_0 rfl) ?_
 refine G.r (Runs.ld ty3) ?_
 refine G.e (Eff.call call128 rfl rfl (Sign_ok x.num)) ?_
 rintro _ _ ⟨_, _, ⟨rfl, rfl⟩, rfl, rfl⟩
 refine G.r (Runs.assign rfl) ?_
 refine G.nt ?_
 refine W.sub (L' := [(5, _), (3, _), (2, _)]) (Sub.cons rfl (Sub.cons rfl (Sub.cons rfl Sub.nil))) ?_
 refine W.seq ?_
 refine W.sr ?_
 refine G.r (Runs.fieldAddr fld45_0 rfl) ?_
 refine G.r (Runs.ld ty3) ?_
 refine G.e (Eff.call call128 rfl rfl (Sign_ok y.num)) ?_
 rintro _ _ ⟨_, _, ⟨rfl, rfl⟩, rfl, rfl⟩
 refine G.r (Runs.assign rfl) ?_
 refine G.nt ?_
 refine W.sr ?_
 refine G.r (Runs.move rfl) ?_
 refine G.r (Runs.move rfl) ?_
 refine G.r (Runs.neq rfl rfl) ?_
 refine G.r (Runs.move rfl) ?_
 refine G.split (d := 28) rfl (fun g28 => ?_) (fun g28 => ?_)
 ·refine G.po ?_
  refine G.po ?_
  refine G.r (Runs.pickt rfl rfl) ?_
  refine G.nt ?_
  refine W.sub (L' := [(31, _), (6, _), (5, _), (3, _), (2, _)]) (Sub.cons rfl (Sub.cons rfl (Sub.cons rfl (Sub.cons rfl (Sub.cons rfl Sub.nil))))) ?_
  refine W.yes rfl ?_
  refine W.sr ?_
  refine G.r (Runs.move rfl) ?_
  refine G.r (Runs.move rfl) ?_
  refine G.r (Runs.sub rfl rfl (by unfold InR; omega)) ?_
  refine G.e (Eff.call call128 rfl rfl (Sign_ok ((sgnI x.num) - (sgnI y.num)))) ?_
  rintro _ _ ⟨_, _, ⟨rfl, rfl⟩, rfl, rfl⟩
  refine G.r (Runs.assign rfl) ?_
  refine G.nt ?_
  refine W.ret ?_
  refine V.then_ret ?_
  have hsx : sgnI x.num = if x.num < 0 then -1 else if 0 < x.num then 1 else 0 := rfl
  have hsy : sgnI y.num = if y.num < 0 then -1 else if 0 < y.num then 1 else 0 := rfl
  exact V.ret1 rfl rfl (I) Fit.m ⟨congrArg I64 (by first | (have hss : sgnI (sgnI x.num - sgnI y.num) = if sgnI x.num - sgnI y.num < 0 then -1 else if 0 < sgnI x.num - sgnI y.num then 1 else 0 := rfl; unfold cmpF; rw [hss]; repeat (first | omega | split)) | (unfold cmpF; repeat (first | omega | split))), rfl⟩
 ·refine G.ro (Runs.move rfl) ?_
  refine G.ro (Runs.eql rfl rfl) ?_
  refine G.r (Runs.pickf rfl rfl) ?_
  refine G.nt ?_
  refine W.sub (L' := [(31, _), (6, _), (5, _), (3, _), (2, _)]) (Sub.cons rfl (Sub.cons rfl (Sub.cons rfl (Sub.cons rfl (Sub.cons rfl Sub.nil))))) ?_
  refine W.ite rfl (fun c31 => ?_) (fun c31 => ?_)
  ·refine W.sr ?_
   refine G.r (Runs.move rfl) ?_
   refine G.r (Runs.move rfl) ?_
   refine G.r (Runs.sub rfl rfl (by unfold InR; omega)) ?_
   refine G.e (Eff.call call128 rfl rfl (Sign_ok ((sgnI x.num) - (sgnI y.num)))) ?_
   rintro _ _ ⟨_, _, ⟨rfl, rfl⟩, rfl, rfl⟩
   refine G.r (Runs.assign rfl) ?_
   refine G.nt ?_
   refine W.ret ?_
   refine V.then_ret ?_
   have hsx : sgnI x.num = if x.num < 0 then -1 else if 0 < x.num then 1 else 0 := rfl
   have hsy : sgnI y.num = if y.num < 0 then -1 else if 0 < y.num then 1 else 0 := rfl
   exact V.ret1 rfl rfl (I) Fit.m ⟨congrArg I64 (by first | (have hss : sgnI (sgnI x.num - sgnI y.num) = if sgnI x.num - sgnI y.num < 0 then -1 else if 0 < sgnI x.num - sgnI y.num then 1 else 0 := rfl; unfold cmpF; rw [hss]; repeat (first | omega | split)) | (unfold cmpF; repeat (first | omega | split))), rfl⟩
  ·refine W.skip ?_
   refine V.then ?_
   refine W.sr ?_
   refine G.r (Runs.fieldAddr fld45_0 rfl) ?_
   refine G.r (Runs.ld ty3) ?_
   refine G.r (Runs.fieldAddr fld45_0 rfl) ?_
   refine G.r (Runs.ld ty3) ?_
   refine G.r (Runs.neg rfl (by unfold InR; omega)) ?_
   refine G.r (Runs.max rfl rfl) ?_
   have hmx42 : (if x.num < -(x.num) then -(x.num) else x.num) = x.num := by rw [if_neg (by omega)]
   rw [hmx42]
   refine G.r (Runs.convU Tryz.underlying3 Tryz.underlying86 rfl (by omega)) ?_
   refine G.r (Runs.fieldAddr fld45_1 rfl) ?_
   refine G.r (Runs.ld ty3) ?_
   refine G.r (Runs.convU Tryz.underlying3 Tryz.underlying86 rfl (by omega)) ?_
   refine G.e (Eff.call call129 rfl rfl (Mul64_ok x.num y.den (by omega) (by omega))) ?_
   rintro _ _ ⟨_, _, ⟨rfl, rfl⟩, rfl, rfl⟩
   refine G.r (Runs.move rfl) ?_
   refine G.r (Runs.extract rfl rfl) ?_
   refine G.r (Runs.extract rfl rfl) ?_
   refine G.r (Runs.assign rfl) ?_
   refine G.r (Runs.assign rfl) ?_
   refine G.nt ?_
   refine W.sub (L' := [(8, _), (7, _), (5, _), (3, _), (2, _)]) (Sub.cons rfl (Sub.cons rfl (Sub.cons rfl (Sub.cons rfl (Sub.cons rfl Sub.nil))))) ?_
   refine W.sr ?_
   refine G.r (Runs.fieldAddr fld45_0 rfl) ?_
   refine G.r (Runs.ld ty3) ?_
   refine G.r (Runs.fieldAddr fld45_0 rfl) ?_
   refine G.r (Runs.ld ty3) ?_
   refine G.r (Runs.neg rfl (by unfold InR; omega)) ?_
   refine G.r (Runs.max rfl rfl) ?_
   have hmx56 : (if y.num < -(y.num) then -(y.num) else y.num) = y.num := by rw [if_neg (by omega)]
   rw [hmx56]
   refine G.r (Runs.convU Tryz.underlying3 Tryz.underlying86 rfl (by omega)) ?_
   refine G.r (Runs.fieldAddr fld45_1 rfl) ?_
   refine G.r (Runs.ld ty3) ?_
   refine G.r (Runs.convU Tryz.underlying3 Tryz.underlying86 rfl (by omega)) ?_
   refine G.e (Eff.call call129 rfl rfl (Mul64_ok y.num x.den (by omega) (by omega))) ?_
   rintro _ _ ⟨_, _, ⟨rfl, rfl⟩, rfl, rfl⟩
   refine G.r (Runs.move rfl) ?_
   refine G.r (Runs.extract rfl rfl) ?_
   refine G.r (Runs.extract rfl rfl) ?_
   refine G.r (Runs.assign rfl) ?_
   refine G.r (Runs.assign rfl) ?_
   refine G.nt ?_
   refine W.sub (L' := [(10, _), (9, _), (8, _), (7, _), (5, _)]) (Sub.cons rfl (Sub.cons rfl (Sub.cons rfl (Sub.cons rfl (Sub.cons rfl Sub.nil))))) ?_
   refine W.seq ?_
   refine W.block ?_
   refine W.sr ?_
   refine G.r (Runs.move rfl) ?_
   refine G.r (Runs.move rfl) ?_
   refine G.r (Runs.eql rfl rfl) ?_
   refine G.r (Runs.move rfl) ?_
   refine G.split (d := 68) rfl (fun g68 => ?_) (fun g68 => ?_)
   ·refine G.ro (Runs.move rfl) ?_
    refine G.ro (Runs.move rfl) ?_
    refine G.ro (Runs.eql rfl rfl) ?_
    refine G.r (Runs.pickt rfl rfl) ?_
    refine G.r (Runs.assign rfl) ?_
    refine G.nt ?_
    refine W.sub (L' := [(64, _), (10, _), (9, _), (8, _), (7, _), (5, _)]) (Sub.cons rfl (Sub.cons rfl (Sub.cons rfl (Sub.cons rfl (Sub.cons rfl (Sub.cons rfl Sub.nil)))))) ?_
    refine W.ite rfl (fun c64 => ?_) (fun c64 => ?_)
    ·refine W.sr ?_
     refine G.r (Runs.assign rfl) ?_
     refine G.nt ?_
     refine W.ret ?_
     refine V.block_ret ?_
     refine V.then_ret ?_
     have hsx : sgnI x.num = if x.num < 0 then -1 else if 0 < x.num then 1 else 0 := rfl
     have hsy : sgnI y.num = if y.num < 0 then -1 else if 0 < y.num then 1 else 0 := rfl
     exact V.ret1 rfl rfl (I) Fit.m ⟨congrArg I64 (by first | (have hss : sgnI (sgnI x.num - sgnI y.num) = if sgnI x.num - sgnI y.num < 0 then -1 else if 0 < sgnI x.num - sgnI y.num then 1 else 0 := rfl; unfold cmpF; rw [hss]; repeat (first | omega | split)) | (unfold cmpF; repeat (first | omega | split))), rfl⟩
    ·refine W.sr ?_
     refine G.r (Runs.move rfl) ?_
     refine G.r (Runs.move rfl) ?_
     refine G.r (Runs.lss rfl rfl) ?_
     refine G.r (Runs.move rfl) ?_
     refine G.split (d := 77) rfl (fun g77 => ?_) (fun g77 => ?_)
     ·exact absurd g77 (by decide)
     ·refine G.ro (Runs.move rfl) ?_
      refine G.ro (Runs.move rfl) ?_
      refine G.ro (Runs.eql rfl rfl) ?_
      refine G.ro (Runs.move rfl) ?_
      refine G.split (d := 81) rfl (fun g81 => ?_) (fun g81 => ?_)
      ·refine G.ro (Runs.move rfl) ?_
       refine G.ro (Runs.move rfl) ?_
       refine G.ro (Runs.lss rfl rfl) ?_
       refine G.ro (Runs.pickt rfl rfl) ?_
       refine G.r (Runs.pickf rfl rfl) ?_
       refine G.r (Runs.assign rfl) ?_
       refine G.nt ?_
       refine W.sub (L' := [(73, _), (5, _)]) (Sub.cons rfl (Sub.cons rfl Sub.nil)) ?_
       refine W.ite rfl (fun c73 => ?_) (fun c73 => ?_)
       ·refine W.sr ?_
        refine G.r (Runs.move rfl) ?_
        refine G.r (Runs.neg rfl (by unfold InR; omega)) ?_
        refine G.r (Runs.assign rfl) ?_
        refine G.nt ?_
        refine W.ret ?_
        refine V.block_ret ?_
        refine V.then_ret ?_
        have hsx : sgnI x.num = if x.num < 0 then -1 else if 0 < x.num then 1 else 0 := rfl
        have hsy : sgnI y.num = if y.num < 0 then -1 else if 0 < y.num then 1 else 0 := rfl
        exact V.ret1 rfl rfl (I) Fit.m ⟨congrArg I64 (by first | (have hss : sgnI (sgnI x.num - sgnI y.num) = if sgnI x.num - sgnI y.num < 0 then -1 else if 0 < sgnI x.num - sgnI y.num then 1 else 0 := rfl; unfold cmpF; rw [hss]; repeat (first | omega | split)) | (unfold cmpF; repeat (first | omega | split))), rfl⟩
       ·refine W.skip ?_
        refine V.block_normal ?_
        refine V.then ?_
        refine W.sr ?_
        refine G.r (Runs.move rfl) ?_
        refine G.r (Runs.assign rfl) ?_
        refine G.nt ?_
        refine W.ret ?_
        have hsx : sgnI x.num = if x.num < 0 then -1 else if 0 < x.num then 1 else 0 := rfl
        have hsy : sgnI y.num = if y.num < 0 then -1 else if 0 < y.num then 1 else 0 := rfl
        exact V.ret1 rfl rfl (I) Fit.m ⟨congrArg I64 (by first | (have hss : sgnI (sgnI x.num - sgnI y.num) = if sgnI x.num - sgnI y.num < 0 then -1 else if 0 < sgnI x.num - sgnI y.num then 1 else 0 := rfl; unfold cmpF; rw [hss]; repeat (first | omega | split)) | (unfold cmpF; repeat (first | omega | split))), rfl⟩
      ·exact absurd rfl g81
   ·exact absurd rfl g68

theorem Valid01_ok {κ : Ctx} {I : List Item} (x : Fr) (hx : FrV x) :
    CallS Tryz.prog κ 32 [.agg #[I64 (x.num), I64 (x.den)]] I (fun r J => r = .bool true ∧ I = J) := by
 have hn0x := hx.n0
 have hn1x := hx.n1
 have hd0x := hx.d0
 have hd1x := hx.d1
 refine CallS.enter (L := [(0, .agg #[I64 (x.num), I64 (x.den)])]) Tryz.func32 rfl rfl rfl rfl ?_
 refine W.sr ?_
 refine G.e (Eff.box (cs := [_, _]) rfl rfl rfl) ?_
 rintro _ _ ⟨b1, rfl, rfl⟩
 refine G.r (Runs.assign rfl) ?_
 refine G.nt ?_
 refine W.seq ?_
 refine W.sr ?_
 refine G.r (Runs.fieldAddr fld45_0 rfl) ?_
 refine G.r (Runs.ld ty3) ?_
 refine G.r (Runs.lss rfl rfl) ?_
 refine G.r (Runs.move rfl) ?_
 refine G.split (d := 6) rfl (fun g6 => ?_) (fun g6 => ?_)
 ·exact absurd g6 (by omega)
 ·refine G.ro (Runs.fieldAddr fld45_0 rfl) ?_
  refine G.ro (Runs.ld ty3) ?_
  refine G.ro (Runs.gtr rfl rfl) ?_
  refine G.r (Runs.pickf rfl rfl) ?_
  refine G.r (Runs.move rfl) ?_
  refine G.split (d := 11) rfl (fun g11 => ?_) (fun g11 => ?_)
  ·exact absurd g11 (by omega)
  ·refine G.ro (Runs.fieldAddr fld45_1 rfl) ?_
   refine G.ro (Runs.ld ty3) ?_
   refine G.ro (Runs.lss rfl rfl) ?_
   refine G.r (Runs.pickf rfl rfl) ?_
   refine G.r (Runs.move rfl) ?_
   refine G.split (d := 16) rfl (fun g16 => ?_) (fun g16 => ?_)
   ·exact absurd g16 (by omega)
   ·refine G.ro (Runs.fieldAddr fld45_1 rfl) ?_
    refine G.ro (Runs.ld ty3) ?_
    refine G.ro (Runs.gtr rfl rfl) ?_
    refine G.r (Runs.pickf rfl rfl) ?_
    refine G.nt ?_
    refine W.sub (L' := [(20, _), (1, _)]) (Sub.cons rfl (Sub.cons rfl Sub.nil)) ?_
    refine W.ite rfl (fun c20 => ?_) (fun c20 => ?_)
    ·exact absurd c20 (by omega)
    ·refine W.skip ?_
     refine V.then ?_
     refine W.seq ?_
     refine W.drawn mixed ?_
     refine A.hold (blk b1 [I64 (x.num), I64 (x.den)] 45 :: I) 12 ?_
     refine D.r 0 rfl (Runs.fieldAddr fld45_0 rfl) ?_
     refine D.r 1 rfl (Runs.ld ty3) ?_
     refine D.r 4 rfl (Runs.fieldAddr fld45_1 rfl) ?_
     refine D.r 5 rfl (Runs.ld ty3) ?_
     refine D.r 6 rfl (Runs.convU Tryz.underlying3 Tryz.underlying86 rfl (by omega)) ?_
     refine D.r 7 rfl (Runs.build (cells := [_, _]) ty111 Tryz.underlying111 pl111 rfl rfl) ?_
     refine D.r 9 rfl (Runs.build (cells := [_, _]) ty111 Tryz.underlying111 pl111 rfl rfl) ?_
     refine D.step (rs := [2]) (by kernel_rfl) rfl rfl (all1 ?_)
     refine Step.eff rfl (Wanted.plain rfl) (Eff.call call84 rfl rfl (WSize_ok x.num (by omega))) ?_
     rintro _ _ ⟨_, _, ⟨rfl, rfl⟩, rfl, rfl⟩
     refine ⟨Fit.m, ?_⟩
     refine D.r 3 rfl (Runs.build (cells := [_, _]) ty111 Tryz.underlying111 pl111 rfl rfl) ?_
     refine D.step (rs := [8]) (by kernel_rfl) rfl rfl (all1 ?_)
     refine Step.eff rfl (Wanted.plain rfl) (Eff.call call83 rfl rfl (WGcd_ok x.num x.den (by omega) (by omega))) ?_
     rintro _ _ ⟨_, _, ⟨rfl, rfl⟩, rfl, rfl⟩
     refine ⟨Fit.m, ?_⟩
     refine D.r 10 rfl (Runs.eqlT (α := Wd) (a := (⟨0, gcdI x.num x.den⟩ : Wd)) (b := (⟨0, 1⟩ : Wd)) eqt111 rfl rfl) ?_
     refine D.r 11 rfl (Runs.assign rfl) ?_
     refine D.done (by kernel_rfl) ?_
     refine V.then ?_
     refine W.sub (L' := [(2, _)]) (Sub.cons rfl Sub.nil) ?_
     refine W.ret ?_
     exact V.ret1 rfl rfl (I) Fit.m ⟨by rw [hx.cop, decide_eq_true rfl], rfl⟩

set_option maxHeartbeats 1000000 in
theorem Cmp01_ok {κ : Ctx} {I : List Item} (x y : Fr) (hx : FrV x) (hy : FrV y) :
    CallS Tryz.prog κ 33 [.agg #[I64 (x.num), I64 (x.den)], .agg #[I64 (y.num), I64 (y.den)]] I (fun r J => r = I64 (cmpF x y) ∧ I = J) := by
 have hn0x := hx.n0
 have hn1x := hx.n1
 have hd0x := hx.d0
 have hd1x := hx.d1
 have hn0y := hy.n0
 have hn1y := hy.n1
 have hd0y := hy.d0
 have hd1y := hy.d1
 have hb1 := sgn_bd x.num
 have hb2 := sgn_bd y.num
 have hm1 := hx.mul hy
 have hm2 := hy.mul hx
 have hz1 : x.num = 0 → x.num * y.den = 0 := fun h => by rw [h, Int.zero_mul]
 have hz2 : y.num = 0 → y.num * x.den = 0 := fun h => by rw [h, Int.zero_mul]
 refine CallS.enter (L := [(0, .agg #[I64 (x.num), I64 (x.den)]), (1, .agg #[I64 (y.num), I64 (y.den)])]) Tryz.func33 rfl rfl rfl rfl ?_
 refine W.sr ?_
 refine G.e (Eff.box (cs := [_, _]) rfl rfl rfl) ?_
 rintro _ _ ⟨b1, rfl, rfl⟩
 refine G.e (Eff.box (cs := [_, _]) rfl rfl rfl) ?_
 rintro _ _ ⟨b2, rfl, rfl⟩
 refine G.r (Runs.assign rfl) ?_
 refine G.nt ?_
 refine W.seq ?_
 refine W.sr ?_
 refine G.r (Runs.lds (vs := [_, _]) ty45) ?_
 refine G.e (Eff.call call32 rfl rfl (Valid01_ok x (by assumption))) ?_
 rintro _ _ ⟨_, _, ⟨rfl, rfl⟩, rfl, rfl⟩
 refine G.r (Runs.not rfl) ?_
 refine G.r (Runs.move rfl) ?_
 refine G.ro (Runs.lds (vs := [_, _]) ty45) ?_
 refine G.eff (Wanted.on rfl rfl rfl) (Eff.call call32 rfl rfl (Valid01_ok y (by assumption))) ?_
 rintro _ _ ⟨_, _, ⟨rfl, rfl⟩, rfl, rfl⟩
 refine G.ro (Runs.not rfl) ?_
 refine G.r (Runs.pickf rfl rfl) ?_
 refine G.nt ?_
 refine W.no rfl ?_
 refine W.skip ?_
 refine V.then ?_
 refine W.seq ?_
 refine W.sr ?_
 refine G.r (Runs.fieldAddr fld45_0 rfl) ?_
 refine G.r (Runs.ld ty3) ?_
 refine G.r (Runs.lss rfl rfl) ?_
 refine G.r (Runs.fieldAddr fld45_0 rfl) ?_
 refine G.r (Runs.ld ty3) ?_
 refine G.r (Runs.lss rfl rfl) ?_
 refine G.r (Runs.neqb Tryz.underlying4 rfl rfl) ?_
 refine G.nt ?_
 refine W.sub (L' := [(21, _), (3, _), (2, _)]) (Sub.cons rfl (Sub.cons rfl (Sub.cons rfl Sub.nil))) ?_
 refine W.ite rfl (fun c21 => ?_) (fun c21 => ?_)
 ·exact absurd (by rw [decide_eq_false (show ¬ x.num < 0 by omega), decide_eq_false (show ¬ y.num < 0 by omega)]) c21
 ·refine W.skip ?_
  refine V.then ?_
  refine W.cut (σ := Nat × Nat) (fun s => ([(2, .pointer (some ⟨b1, 0, none⟩)), (5, .pointer (some ⟨s.1, 0, none⟩)), (6, .pointer (some ⟨s.2, 0, none⟩))] : Env)) (fun s => blk s.1 [.int .u64 (0), .int .u64 (x.num * y.den)] 111 :: blk s.2 [.int .u64 (0), .int .u64 (y.num * x.den)] 111 :: blk b2 [I64 (y.num), I64 (y.den)] 45 :: blk b1 [I64 (x.num), I64 (x.den)] 45 :: I) (fun s => True) ?_ ?_
  ·refine W.drawn mixed ?_
   refine A.hold (blk b2 [I64 (y.num), I64 (y.den)] 45 :: blk b1 [I64 (x.num), I64 (x.den)] 45 :: I) 18 ?_
   refine D.r 0 rfl (Runs.fieldAddr fld45_0 rfl) ?_ (hJ := Fit.sub)
   refine D.r 1 rfl (Runs.ld ty3) ?_ (hJ := Fit.sub)
   refine D.r 3 rfl (Runs.fieldAddr fld45_1 rfl) ?_ (hJ := Fit.sub)
   refine D.r 4 rfl (Runs.ld ty3) ?_ (hJ := Fit.sub)
   refine D.r 5 rfl (Runs.convU Tryz.underlying3 Tryz.underlying86 rfl (by omega)) ?_ (hJ := Fit.sub)
   refine D.r 7 rfl (Runs.fieldAddr fld45_0 rfl) ?_ (hJ := Fit.sub)
   refine D.r 8 rfl (Runs.ld ty3) ?_ (hJ := Fit.sub)
   refine D.r 10 rfl (Runs.fieldAddr fld45_1 rfl) ?_ (hJ := Fit.sub)
   refine D.r 11 rfl (Runs.ld ty3) ?_ (hJ := Fit.sub)
   refine D.r 12 rfl (Runs.convU Tryz.underlying3 Tryz.underlying86 rfl (by omega)) ?_ (hJ := Fit.sub)
   refine D.step (rs := [2, 14, 15]) (by kernel_rfl) rfl rfl (all2 ?_ (all2 ?_ (all1 ?_)))
   ·refine Step.eff rfl (Wanted.plain rfl) (Eff.call call84 rfl rfl (WSize_ok x.num (by omega))) ?_
    rintro _ _ ⟨_, _, ⟨rfl, rfl⟩, rfl, rfl⟩
    refine ⟨Fit.sub, ?_⟩
    refine D.step (rs := [6, 14, 15]) (by kernel_rfl) rfl rfl (all2 ?_ (all2 ?_ (all1 ?_)))
    ·refine Step.eff rfl (Wanted.plain rfl) (Eff.call call85 rfl rfl (WMul_ok x.num y.den (by omega) (by omega))) ?_
     rintro _ _ ⟨_, _, ⟨rfl, rfl⟩, rfl, rfl⟩
     refine ⟨Fit.sub, ?_⟩
     refine D.step (rs := [9, 14, 15]) (by kernel_rfl) rfl rfl (all2 ?_ (all2 ?_ (all1 ?_)))
     ·refine Step.eff rfl (Wanted.plain rfl) (Eff.call call84 rfl rfl (WSize_ok y.num (by omega))) ?_
      rintro _ _ ⟨_, _, ⟨rfl, rfl⟩, rfl, rfl⟩
      refine ⟨Fit.sub, ?_⟩
      refine D.step (rs := [13, 14, 15]) (by kernel_rfl) rfl rfl (all2 ?_ (all2 ?_ (all1 ?_)))
      ·refine Step.eff rfl (Wanted.plain rfl) (Eff.call call85 rfl rfl (WMul_ok y.num x.den (by omega) (by omega))) ?_
       rintro _ _ ⟨_, _, ⟨rfl, rfl⟩, rfl, rfl⟩
       refine ⟨Fit.sub, ?_⟩
       refine D.step (rs := [14, 15]) (by kernel_rfl) rfl rfl (all2 ?_ (all1 ?_))
       ·refine Step.eff rfl (Wanted.plain rfl) (Eff.alloc ty111 rfl) ?_
        rintro _ _ ⟨b3, rfl, rfl⟩
        refine ⟨Fit.sub, ?_⟩
        refine D.step (rs := [15]) (by kernel_rfl) rfl rfl (all1 ?_)
        refine Step.eff rfl (Wanted.plain rfl) (Eff.alloc ty111 rfl) ?_
        rintro _ _ ⟨b4, rfl, rfl⟩
        refine ⟨Fit.sub, ?_⟩
        refine D.step (rs := [16]) (by kernel_rfl) rfl rfl (all1 ?_)
        refine Step.eff rfl (Wanted.plain rfl) (Eff.st (cs := [_, _]) (vs := [_, _]) (cs' := [_, _]) ty111) ?_
        rintro _ _ ⟨rfl, rfl⟩
        refine ⟨Fit.sub, ?_⟩
        refine D.step (rs := [17]) (by kernel_rfl) rfl rfl (all1 ?_)
        refine Step.eff rfl (Wanted.plain rfl) (Eff.st (cs := [_, _]) (vs := [_, _]) (cs' := [_, _]) ty111) ?_
        rintro _ _ ⟨rfl, rfl⟩
        refine ⟨Fit.sub, ?_⟩
        refine D.done (by kernel_rfl) ?_
        exact V.mid ((b3), (b4)) (show True from trivial) (Sub.cons rfl (Sub.cons (lookV rfl (by first | rfl | simp)) (Sub.cons (lookV rfl (by first | rfl | simp)) Sub.nil))) (show Fit κ _ (blk (b3) [.int .u64 (0), .int .u64 (x.num * y.den)] 111 :: blk (b4) [.int .u64 (0), .int .u64 (y.num * x.den)] 111 :: blk b2 [I64 (y.num), I64 (y.den)] 45 :: blk b1 [I64 (x.num), I64 (x.den)] 45 :: I) from Fit.s)
       ·refine Step.eff rfl (Wanted.plain rfl) (Eff.alloc ty111 rfl) ?_
        rintro _ _ ⟨b5, rfl, rfl⟩
        refine ⟨Fit.sub, ?_⟩
        refine D.step (rs := [14]) (by kernel_rfl) rfl rfl (all1 ?_)
        refine Step.eff rfl (Wanted.plain rfl) (Eff.alloc ty111 rfl) ?_
        rintro _ _ ⟨b6, rfl, rfl⟩
        refine ⟨Fit.sub, ?_⟩
        refine D.step (rs := [16]) (by kernel_rfl) rfl rfl (all1 ?_)
        refine Step.eff rfl (Wanted.plain rfl) (Eff.st (cs := [_, _]) (vs := [_, _]) (cs' := [_, _]) ty111) ?_
        rintro _ _ ⟨rfl, rfl⟩
        refine ⟨Fit.sub, ?_⟩
        refine D.step (rs := [17]) (by kernel_rfl) rfl rfl (all1 ?_)
        refine Step.eff rfl (Wanted.plain rfl) (Eff.st (cs := [_, _]) (vs := [_, _]) (cs' := [_, _]) ty111) ?_
        rintro _ _ ⟨rfl, rfl⟩
        refine ⟨Fit.sub, ?_⟩
        refine D.done (by kernel_rfl) ?_
        exact V.mid ((b6), (b5)) (show True from trivial) (Sub.cons rfl (Sub.cons (lookV rfl (by first | rfl | simp)) (Sub.cons (lookV rfl (by first | rfl | simp)) Sub.nil))) (show Fit κ _ (blk (b6) [.int .u64 (0), .int .u64 (x.num * y.den)] 111 :: blk (b5) [.int .u64 (0), .int .u64 (y.num * x.den)] 111 :: blk b2 [I64 (y.num), I64 (y.den)] 45 :: blk b1 [I64 (x.num), I64 (x.den)] 45 :: I) from Fit.s)
      ·refine Step.eff rfl (Wanted.plain rfl) (Eff.alloc ty111 rfl) ?_
       rintro _ _ ⟨b7, rfl, rfl⟩
       refine ⟨Fit.sub, ?_⟩
       refine D.step (rs := [13, 15]) (by kernel_rfl) rfl rfl (all2 ?_ (all1 ?_))
       ·refine Step.eff rfl (Wanted.plain rfl) (Eff.call call85 rfl rfl (WMul_ok y.num x.den (by omega) (by omega))) ?_
        rintro _ _ ⟨_, _, ⟨rfl, rfl⟩, rfl, rfl⟩
        refine ⟨Fit.sub, ?_⟩
        refine D.step (rs := [15]) (by kernel_rfl) rfl rfl (all1 ?_)
        refine Step.eff rfl (Wanted.plain rfl) (Eff.alloc ty111 rfl) ?_
        rintro _ _ ⟨b8, rfl, rfl⟩
        refine ⟨Fit.sub, ?_⟩
        refine D.step (rs := [16]) (by kernel_rfl) rfl rfl (all1 ?_)
        refine Step.eff rfl (Wanted.plain rfl) (Eff.st (cs := [_, _]) (vs := [_, _]) (cs' := [_, _]) ty111) ?_
        rintro _ _ ⟨rfl, rfl⟩
        refine ⟨Fit.sub, ?_⟩
        refine D.step (rs := [17]) (by kernel_rfl) rfl rfl (all1 ?_)
        refine Step.eff rfl (Wanted.plain rfl) (Eff.st (cs := [_, _]) (vs := [_, _]) (cs' := [_, _]) ty111) ?_
        rintro _ _ ⟨rfl, rfl⟩
        refine ⟨Fit.sub, ?_⟩
        refine D.done (by kernel_rfl) ?_
        exact V.mid ((b7), (b8)) (show True from trivial) (Sub.cons rfl (Sub.cons (lookV rfl (by first | rfl | simp)) (Sub.cons (lookV rfl (by first | rfl | simp)) Sub.nil))) (show Fit κ _ (blk (b7) [.int .u64 (0), .int .u64 (x.num * y.den)] 111 :: blk (b8) [.int .u64 (0), .int .u64 (y.num * x.den)] 111 :: blk b2 [I64 (y.num), I64 (y.den)] 45 :: blk b1 [I64 (x.num), I64 (x.den)] 45 :: I) from Fit.s)
       ·refine Step.eff rfl (Wanted.plain rfl) (Eff.alloc ty111 rfl) ?_
        rintro _ _ ⟨b9, rfl, rfl⟩
        refine ⟨Fit.sub, ?_⟩
        refine D.step (rs := [13]) (by kernel_rfl) rfl rfl (all1 ?_)
        refine Step.eff rfl (Wanted.plain rfl) (Eff.call call85 rfl rfl (WMul_ok y.num x.den (by omega) (by omega))) ?_
        rintro _ _ ⟨_, _, ⟨rfl, rfl⟩, rfl, rfl⟩
        refine ⟨Fit.sub, ?_⟩
        refine D.step (rs := [16]) (by kernel_rfl) rfl rfl (all1 ?_)
        refine Step.eff rfl (Wanted.plain rfl) (Eff.st (cs := [_, _]) (vs := [_, _]) (cs' := [_, _]) ty111) ?_
        rintro _ _ ⟨rfl, rfl⟩
        refine ⟨Fit.sub, ?_⟩
        refine D.step (rs := [17]) (by kernel_rfl) rfl rfl (all1 ?_)
        refine Step.eff rfl (Wanted.plain rfl) (Eff.st (cs := [_, _]) (vs := [_, _]) (cs' := [_, _]) ty111) ?_
        rintro _ _ ⟨rfl, rfl⟩
        refine ⟨Fit.sub, ?_⟩
        refine D.done (by kernel_rfl) ?_
        exact V.mid ((b7), (b9)) (show True from trivial) (Sub.cons rfl (Sub.cons (lookV rfl (by first | rfl | simp)) (Sub.cons (lookV rfl (by first | rfl | simp)) Sub.nil))) (show Fit κ _ (blk (b7) [.int .u64 (0), .int .u64 (x.num * y.den)] 111 :: blk (b9) [.int .u64 (0), .int .u64 (y.num * x.den)] 111 :: blk b2 [I64 (y.num), I64 (y.den)] 45 :: blk b1 [I64 (x.num), I64 (x.den)] 45 :: I) from Fit.s)
      ·refine Step.eff rfl (Wanted.plain rfl) (Eff.alloc ty111 rfl) ?_
       rintro _ _ ⟨b10, rfl, rfl⟩
       refine ⟨Fit.sub, ?_⟩
       refine D.step (rs := [13, 14]) (by kernel_rfl) rfl rfl (all2 ?_ (all1 ?_))
       ·refine Step.eff rfl (Wanted.plain rfl) (Eff.call call85 rfl rfl (WMul_ok y.num x.den (by omega) (by omega))) ?_
        rintro _ _ ⟨_, _, ⟨rfl, rfl⟩, rfl, rfl⟩
        refine ⟨Fit.sub, ?_⟩
        refine D.step (rs := [14]) (by kernel_rfl) rfl rfl (all1 ?_)
        refine Step.eff rfl (Wanted.plain rfl) (Eff.alloc ty111 rfl) ?_
        rintro _ _ ⟨b11, rfl, rfl⟩
        refine ⟨Fit.sub, ?_⟩
        refine D.step (rs := [16]) (by kernel_rfl) rfl rfl (all1 ?_)
        refine Step.eff rfl (Wanted.plain rfl) (Eff.st (cs := [_, _]) (vs := [_, _]) (cs' := [_, _]) ty111) ?_
        rintro _ _ ⟨rfl, rfl⟩
        refine ⟨Fit.sub, ?_⟩
        refine D.step (rs := [17]) (by kernel_rfl) rfl rfl (all1 ?_)
        refine Step.eff rfl (Wanted.plain rfl) (Eff.st (cs := [_, _]) (vs := [_, _]) (cs' := [_, _]) ty111) ?_
        rintro _ _ ⟨rfl, rfl⟩
        refine ⟨Fit.sub, ?_⟩
        refine D.done (by kernel_rfl) ?_
        exact V.mid ((b11), (b10)) (show True from trivial) (Sub.cons rfl (Sub.cons (lookV rfl (by first | rfl | simp)) (Sub.cons (lookV rfl (by first | rfl | simp)) Sub.nil))) (show Fit κ _ (blk (b11) [.int .u64 (0), .int .u64 (x.num * y.den)] 111 :: blk (b10) [.int .u64 (0), .int .u64 (y.num * x.den)] 111 :: blk b2 [I64 (y.num), I64 (y.den)] 45 :: blk b1 [I64 (x.num), I64 (x.den)] 45 :: I) from Fit.s)
       ·refine Step.eff rfl (Wanted.plain rfl) (Eff.alloc ty111 rfl) ?_
        rintro _ _ ⟨b12, rfl, rfl⟩
        refine ⟨Fit.sub, ?_⟩
        refine D.step (rs := [13]) (by kernel_rfl) rfl rfl (all1 ?_)
        refine Step.eff rfl (Wanted.plain rfl) (Eff.call call85 rfl rfl (WMul_ok y.num x.den (by omega) (by omega))) ?_
        rintro _ _ ⟨_, _, ⟨rfl, rfl⟩, rfl, rfl⟩
        refine ⟨Fit.sub, ?_⟩
        refine D.step (rs := [16]) (by kernel_rfl) rfl rfl (all1 ?_)
        refine Step.eff rfl (Wanted.plain rfl) (Eff.st (cs := [_, _]) (vs := [_, _]) (cs' := [_, _]) ty111) ?_
        rintro _ _ ⟨rfl, rfl⟩
        refine ⟨Fit.sub, ?_⟩
        refine D.step (rs := [17]) (by kernel_rfl) rfl rfl (all1 ?_)
        refine Step.eff rfl (Wanted.plain rfl) (Eff.st (cs := [_, _]) (vs := [_, _]) (cs' := [_, _]) ty111) ?_
        rintro _ _ ⟨rfl, rfl⟩
        refine ⟨Fit.sub, ?_⟩
        refine D.done (by kernel_rfl) ?_
        exact V.mid ((b12), (b10)) (show True from trivial) (Sub.cons rfl (Sub.cons (lookV rfl (by first | rfl | simp)) (Sub.cons (lookV rfl (by first | rfl | simp)) Sub.nil))) (show Fit κ _ (blk (b12) [.int .u64 (0), .int .u64 (x.num * y.den)] 111 :: blk (b10) [.int .u64 (0), .int .u64 (y.num * x.den)] 111 :: blk b2 [I64 (y.num), I64 (y.den)] 45 :: blk b1 [I64 (x.num), I64 (x.den)] 45 :: I) from Fit.s)
     ·refine Step.eff rfl (Wanted.plain rfl) (Eff.alloc ty111 rfl) ?_
      rintro _ _ ⟨b13, rfl, rfl⟩
      refine ⟨Fit.sub, ?_⟩
      refine D.step (rs := [9, 15]) (by kernel_rfl) rfl rfl (all2 ?_ (all1 ?_))
      ·refine Step.eff rfl (Wanted.plain rfl) (Eff.call call84 rfl rfl (WSize_ok y.num (by omega))) ?_
       rintro _ _ ⟨_, _, ⟨rfl, rfl⟩, rfl, rfl⟩
       refine ⟨Fit.sub, ?_⟩
       refine D.step (rs := [13, 15]) (by kernel_rfl) rfl rfl (all2 ?_ (all1 ?_))
       ·refine Step.eff rfl (Wanted.plain rfl) (Eff.call call85 rfl rfl (WMul_ok y.num x.den (by omega) (by omega))) ?_
        rintro _ _ ⟨_, _, ⟨rfl, rfl⟩, rfl, rfl⟩
        refine ⟨Fit.sub, ?_⟩
        refine D.step (rs := [15]) (by kernel_rfl) rfl rfl (all1 ?_)
        refine Step.eff rfl (Wanted.plain rfl) (Eff.alloc ty111 rfl) ?_
        rintro _ _ ⟨b14, rfl, rfl⟩
        refine ⟨Fit.sub, ?_⟩
        refine D.step (rs := [16]) (by kernel_rfl) rfl rfl (all1 ?_)
        refine Step.eff rfl (Wanted.plain rfl) (Eff.st (cs := [_, _]) (vs := [_, _]) (cs' := [_, _]) ty111) ?_
        rintro _ _ ⟨rfl, rfl⟩
        refine ⟨Fit.sub, ?_⟩
        refine D.step (rs := [17]) (by kernel_rfl) rfl rfl (all1 ?_)
        refine Step.eff rfl (Wanted.plain rfl) (Eff.st (cs := [_, _]) (vs := [_, _]) (cs' := [_, _]) ty111) ?_
        rintro _ _ ⟨rfl, rfl⟩
        refine ⟨Fit.sub, ?_⟩
        refine D.done (by kernel_rfl) ?_
        exact V.mid ((b13), (b14)) (show True from trivial) (Sub.cons rfl (Sub.cons (lookV rfl (by first | rfl | simp)) (Sub.cons (lookV rfl (by first | rfl | simp)) Sub.nil))) (show Fit κ _ (blk (b13) [.int .u64 (0), .int .u64 (x.num * y.den)] 111 :: blk (b14) [.int .u64 (0), .int .u64 (y.num * x.den)] 111 :: blk b2 [I64 (y.num), I64 (y.den)] 45 :: blk b1 [I64 (x.num), I64 (x.den)] 45 :: I) from Fit.s)
       ·refine Step.eff rfl (Wanted.plain rfl) (Eff.alloc ty111 rfl) ?_
        rintro _ _ ⟨b15, rfl, rfl⟩
        refine ⟨Fit.sub, ?_⟩
        refine D.step (rs := [13]) (by kernel_rfl) rfl rfl (all1 ?_)
        refine Step.eff rfl (Wanted.plain rfl) (Eff.call call85 rfl rfl (WMul_ok y.num x.den (by omega) (by omega))) ?_
        rintro _ _ ⟨_, _, ⟨rfl, rfl⟩, rfl, rfl⟩
        refine ⟨Fit.sub, ?_⟩
        refine D.step (rs := [16]) (by kernel_rfl) rfl rfl (all1 ?_)
        refine Step.eff rfl (Wanted.plain rfl) (Eff.st (cs := [_, _]) (vs := [_, _]) (cs' := [_, _]) ty111) ?_
        rintro _ _ ⟨rfl, rfl⟩
        refine ⟨Fit.sub, ?_⟩
        refine D.step (rs := [17]) (by kernel_rfl) rfl rfl (all1 ?_)
        refine Step.eff rfl (Wanted.plain rfl) (Eff.st (cs := [_, _]) (vs := [_, _]) (cs' := [_, _]) ty111) ?_
        rintro _ _ ⟨rfl, rfl⟩
        refine ⟨Fit.sub, ?_⟩
        refine D.done (by kernel_rfl) ?_
        exact V.mid ((b13), (b15)) (show True from trivial) (Sub.cons rfl (Sub.cons (lookV rfl (by first | rfl | simp)) (Sub.cons (lookV rfl (by first | rfl | simp)) Sub.nil))) (show Fit κ _ (blk (b13) [.int .u64 (0), .int .u64 (x.num * y.den)] 111 :: blk (b15) [.int .u64 (0), .int .u64 (y.num * x.den)] 111 :: blk b2 [I64 (y.num), I64 (y.den)] 45 :: blk b1 [I64 (x.num), I64 (x.den)] 45 :: I) from Fit.s)
      ·refine Step.eff rfl (Wanted.plain rfl) (Eff.alloc ty111 rfl) ?_
       rintro _ _ ⟨b16, rfl, rfl⟩
       refine ⟨Fit.sub, ?_⟩
       refine D.step (rs := [9]) (by kernel_rfl) rfl rfl (all1 ?_)
       refine Step.eff rfl (Wanted.plain rfl) (Eff.call call84 rfl rfl (WSize_ok y.num (by omega))) ?_
       rintro _ _ ⟨_, _, ⟨rfl, rfl⟩, rfl, rfl⟩
       refine ⟨Fit.sub, ?_⟩
       refine D.step (rs := [13]) (by kernel_rfl) rfl rfl (all1 ?_)
       refine Step.eff rfl (Wanted.plain rfl) (Eff.call call85 rfl rfl (WMul_ok y.num x.den (by omega) (by omega))) ?_
       rintro _ _ ⟨_, _, ⟨rfl, rfl⟩, rfl, rfl⟩
       refine ⟨Fit.sub, ?_⟩
       refine D.step (rs := [16]) (by kernel_rfl) rfl rfl (all1 ?_)
       refine Step.eff rfl (Wanted.plain rfl) (Eff.st (cs := [_, _]) (vs := [_, _]) (cs' := [_, _]) ty111) ?_
       rintro _ _ ⟨rfl, rfl⟩
       refine ⟨Fit.sub, ?_⟩
       refine D.step (rs := [17]) (by kernel_rfl) rfl rfl (all1 ?_)
       refine Step.eff rfl (Wanted.plain rfl) (Eff.st (cs := [_, _]) (vs := [_, _]) (cs' := [_, _]) ty111) ?_
       rintro _ _ ⟨rfl, rfl⟩
       refine ⟨Fit.sub, ?_⟩
       refine D.done (by kernel_rfl) ?_
       exact V.mid ((b13), (b16)) (show True from trivial) (Sub.cons rfl (Sub.cons (lookV rfl (by first | rfl | simp)) (Sub.cons (lookV rfl (by first | rfl | simp)) Sub.nil))) (show Fit κ _ (blk (b13) [.int .u64 (0), .int .u64 (x.num * y.den)] 111 :: blk (b16) [.int .u64 (0), .int .u64 (y.num * x.den)] 111 :: blk b2 [I64 (y.num), I64 (y.den)] 45 :: blk b1 [I64 (x.num), I64 (x.den)] 45 :: I) from Fit.s)
     ·refine Step.eff rfl (Wanted.plain rfl) (Eff.alloc ty111 rfl) ?_
      rintro _ _ ⟨b17, rfl, rfl⟩
      refine ⟨Fit.sub, ?_⟩
      refine D.step (rs := [9, 14]) (by kernel_rfl) rfl rfl (all2 ?_ (all1 ?_))
      ·refine Step.eff rfl (Wanted.plain rfl) (Eff.call call84 rfl rfl (WSize_ok y.num (by omega))) ?_
       rintro _ _ ⟨_, _, ⟨rfl, rfl⟩, rfl, rfl⟩
       refine ⟨Fit.sub, ?_⟩
       refine D.step (rs := [13, 14]) (by kernel_rfl) rfl rfl (all2 ?_ (all1 ?_))
       ·refine Step.eff rfl (Wanted.plain rfl) (Eff.call call85 rfl rfl (WMul_ok y.num x.den (by omega) (by omega))) ?_
        rintro _ _ ⟨_, _, ⟨rfl, rfl⟩, rfl, rfl⟩
        refine ⟨Fit.sub, ?_⟩
        refine D.step (rs := [14]) (by kernel_rfl) rfl rfl (all1 ?_)
        refine Step.eff rfl (Wanted.plain rfl) (Eff.alloc ty111 rfl) ?_
        rintro _ _ ⟨b18, rfl, rfl⟩
        refine ⟨Fit.sub, ?_⟩
        refine D.step (rs := [16]) (by kernel_rfl) rfl rfl (all1 ?_)
        refine Step.eff rfl (Wanted.plain rfl) (Eff.st (cs := [_, _]) (vs := [_, _]) (cs' := [_, _]) ty111) ?_
        rintro _ _ ⟨rfl, rfl⟩
        refine ⟨Fit.sub, ?_⟩
        refine D.step (rs := [17]) (by kernel_rfl) rfl rfl (all1 ?_)
        refine Step.eff rfl (Wanted.plain rfl) (Eff.st (cs := [_, _]) (vs := [_, _]) (cs' := [_, _]) ty111) ?_
        rintro _ _ ⟨rfl, rfl⟩
        refine ⟨Fit.sub, ?_⟩
        refine D.done (by kernel_rfl) ?_
        exact V.mid ((b18), (b17)) (show True from trivial) (Sub.cons rfl (Sub.cons (lookV rfl (by first | rfl | simp)) (Sub.cons (lookV rfl (by first | rfl | simp)) Sub.nil))) (show Fit κ _ (blk (b18) [.int .u64 (0), .int .u64 (x.num * y.den)] 111 :: blk (b17) [.int .u64 (0), .int .u64 (y.num * x.den)] 111 :: blk b2 [I64 (y.num), I64 (y.den)] 45 :: blk b1 [I64 (x.num), I64 (x.den)] 45 :: I) from Fit.s)
       ·refine Step.eff rfl (Wanted.plain rfl) (Eff.alloc ty111 rfl) ?_
        rintro _ _ ⟨b19, rfl, rfl⟩
        refine ⟨Fit.sub, ?_⟩
        refine D.step (rs := [13]) (by kernel_rfl) rfl rfl (all1 ?_)
        refine Step.eff rfl (Wanted.plain rfl) (Eff.call call85 rfl rfl (WMul_ok y.num x.den (by omega) (by omega))) ?_
        rintro _ _ ⟨_, _, ⟨rfl, rfl⟩, rfl, rfl⟩
        refine ⟨Fit.sub, ?_⟩
        refine D.step (rs := [16]) (by kernel_rfl) rfl rfl (all1 ?_)
        refine Step.eff rfl (Wanted.plain rfl) (Eff.st (cs := [_, _]) (vs := [_, _]) (cs' := [_, _]) ty111) ?_
        rintro _ _ ⟨rfl, rfl⟩
        refine ⟨Fit.sub, ?_⟩
        refine D.step (rs := [17]) (by kernel_rfl) rfl rfl (all1 ?_)
        refine Step.eff rfl (Wanted.plain rfl) (Eff.st (cs := [_, _]) (vs := [_, _]) (cs' := [_, _]) ty111) ?_
        rintro _ _ ⟨rfl, rfl⟩
        refine ⟨Fit.sub, ?_⟩
        refine D.done (by kernel_rfl) ?_
        exact V.mid ((b19), (b17)) (show True from trivial) (Sub.cons rfl (Sub.cons (lookV rfl (by first | rfl | simp)) (Sub.cons (lookV rfl (by first | rfl | simp)) Sub.nil))) (show Fit κ _ (blk (b19) [.int .u64 (0), .int .u64 (x.num * y.den)] 111 :: blk (b17) [.int .u64 (0), .int .u64 (y.num * x.den)] 111 :: blk b2 [I64 (y.num), I64 (y.den)] 45 :: blk b1 [I64 (x.num), I64 (x.den)] 45 :: I) from Fit.s)
      ·refine Step.eff rfl (Wanted.plain rfl) (Eff.alloc ty111 rfl) ?_
       rintro _ _ ⟨b20, rfl, rfl⟩
       refine ⟨Fit.sub, ?_⟩
       refine D.step (rs := [9]) (by kernel_rfl) rfl rfl (all1 ?_)
       refine Step.eff rfl (Wanted.plain rfl) (Eff.call call84 rfl rfl (WSize_ok y.num (by omega))) ?_
       rintro _ _ ⟨_, _, ⟨rfl, rfl⟩, rfl, rfl⟩
       refine ⟨Fit.sub, ?_⟩
       refine D.step (rs := [13]) (by kernel_rfl) rfl rfl (all1 ?_)
       refine Step.eff rfl (Wanted.plain rfl) (Eff.call call85 rfl rfl (WMul_ok y.num x.den (by omega) (by omega))) ?_
       rintro _ _ ⟨_, _, ⟨rfl, rfl⟩, rfl, rfl⟩
       refine ⟨Fit.sub, ?_⟩
       refine D.step (rs := [16]) (by kernel_rfl) rfl rfl (all1 ?_)
       refine Step.eff rfl (Wanted.plain rfl) (Eff.st (cs := [_, _]) (vs := [_, _]) (cs' := [_, _]) ty111) ?_
       rintro _ _ ⟨rfl, rfl⟩
       refine ⟨Fit.sub, ?_⟩
       refine D.step (rs := [17]) (by kernel_rfl) rfl rfl (all1 ?_)
       refine Step.eff rfl (Wanted.plain rfl) (Eff.st (cs := [_, _]) (vs := [_, _]) (cs' := [_, _]) ty111) ?_
       rintro _ _ ⟨rfl, rfl⟩
       refine ⟨Fit.sub, ?_⟩
       refine D.done (by kernel_rfl) ?_
       exact V.mid ((b20), (b17)) (show True from trivial) (Sub.cons rfl (Sub.cons (lookV rfl (by first | rfl | simp)) (Sub.cons (lookV rfl (by first | rfl | simp)) Sub.nil))) (show Fit κ _ (blk (b20) [.int .u64 (0), .int .u64 (x.num * y.den)] 111 :: blk (b17) [.int .u64 (0), .int .u64 (y.num * x.den)] 111 :: blk b2 [I64 (y.num), I64 (y.den)] 45 :: blk b1 [I64 (x.num), I64 (x.den)] 45 :: I) from Fit.s)
    ·refine Step.eff rfl (Wanted.plain rfl) (Eff.alloc ty111 rfl) ?_
     rintro _ _ ⟨b21, rfl, rfl⟩
     refine ⟨Fit.sub, ?_⟩
     refine D.step (rs := [6, 15]) (by kernel_rfl) rfl rfl (all2 ?_ (all1 ?_))
     ·refine Step.eff rfl (Wanted.plain rfl) (Eff.call call85 rfl rfl (WMul_ok x.num y.den (by omega) (by omega))) ?_
      rintro _ _ ⟨_, _, ⟨rfl, rfl⟩, rfl, rfl⟩
      refine ⟨Fit.sub, ?_⟩
      refine D.step (rs := [9, 15]) (by kernel_rfl) rfl rfl (all2 ?_ (all1 ?_))
      ·refine Step.eff rfl (Wanted.plain rfl) (Eff.call call84 rfl rfl (WSize_ok y.num (by omega))) ?_
       rintro _ _ ⟨_, _, ⟨rfl, rfl⟩, rfl, rfl⟩
       refine ⟨Fit.sub, ?_⟩
       refine D.step (rs := [13, 15]) (by kernel_rfl) rfl rfl (all2 ?_ (all1 ?_))
       ·refine Step.eff rfl (Wanted.plain rfl) (Eff.call call85 rfl rfl (WMul_ok y.num x.den (by omega) (by omega))) ?_
        rintro _ _ ⟨_, _, ⟨rfl, rfl⟩, rfl, rfl⟩
        refine ⟨Fit.sub, ?_⟩
        refine D.step (rs := [15]) (by kernel_rfl) rfl rfl (all1 ?_)
        refine Step.eff rfl (Wanted.plain rfl) (Eff.alloc ty111 rfl) ?_
        rintro _ _ ⟨b22, rfl, rfl⟩
        refine ⟨Fit.sub, ?_⟩
        refine D.step (rs := [16]) (by kernel_rfl) rfl rfl (all1 ?_)
        refine Step.eff rfl (Wanted.plain rfl) (Eff.st (cs := [_, _]) (vs := [_, _]) (cs' := [_, _]) ty111) ?_
        rintro _ _ ⟨rfl, rfl⟩
        refine ⟨Fit.sub, ?_⟩
        refine D.step (rs := [17]) (by kernel_rfl) rfl rfl (all1 ?_)
        refine Step.eff rfl (Wanted.plain rfl) (Eff.st (cs := [_, _]) (vs := [_, _]) (cs' := [_, _]) ty111) ?_
        rintro _ _ ⟨rfl, rfl⟩
        refine ⟨Fit.sub, ?_⟩
        refine D.done (by kernel_rfl) ?_
        exact V.mid ((b21), (b22)) (show True from trivial) (Sub.cons rfl (Sub.cons (lookV rfl (by first | rfl | simp)) (Sub.cons (lookV rfl (by first | rfl | simp)) Sub.nil))) (show Fit κ _ (blk (b21) [.int .u64 (0), .int .u64 (x.num * y.den)] 111 :: blk (b22) [.int .u64 (0), .int .u64 (y.num * x.den)] 111 :: blk b2 [I64 (y.num), I64 (y.den)] 45 :: blk b1 [I64 (x.num), I64 (x.den)] 45 :: I) from Fit.s)
       ·refine Step.eff rfl (Wanted.plain rfl) (Eff.alloc ty111 rfl) ?_
        rintro _ _ ⟨b23, rfl, rfl⟩
        refine ⟨Fit.sub, ?_⟩
        refine D.step (rs := [13]) (by kernel_rfl) rfl rfl (all1 ?_)
        refine Step.eff rfl (Wanted.plain rfl) (Eff.call call85 rfl rfl (WMul_ok y.num x.den (by omega) (by omega))) ?_
        rintro _ _ ⟨_, _, ⟨rfl, rfl⟩, rfl, rfl⟩
        refine ⟨Fit.sub, ?_⟩
        refine D.step (rs := [16]) (by kernel_rfl) rfl rfl (all1 ?_)
        refine Step.eff rfl (Wanted.plain rfl) (Eff.st (cs := [_, _]) (vs := [_, _]) (cs' := [_, _]) ty111) ?_
        rintro _ _ ⟨rfl, rfl⟩
        refine ⟨Fit.sub, ?_⟩
        refine D.step (rs := [17]) (by kernel_rfl) rfl rfl (all1 ?_)
        refine Step.eff rfl (Wanted.plain rfl) (Eff.st (cs := [_, _]) (vs := [_, _]) (cs' := [_, _]) ty111) ?_
        rintro _ _ ⟨rfl, rfl⟩
        refine ⟨Fit.sub, ?_⟩
        refine D.done (by kernel_rfl) ?_
        exact V.mid ((b21), (b23)) (show True from trivial) (Sub.cons rfl (Sub.cons (lookV rfl (by first | rfl | simp)) (Sub.cons (lookV rfl (by first | rfl | simp)) Sub.nil))) (show Fit κ _ (blk (b21) [.int .u64 (0), .int .u64 (x.num * y.den)] 111 :: blk (b23) [.int .u64 (0), .int .u64 (y.num * x.den)] 111 :: blk b2 [I64 (y.num), I64 (y.den)] 45 :: blk b1 [I64 (x.num), I64 (x.den)] 45 :: I) from Fit.s)
      ·refine Step.eff rfl (Wanted.plain rfl) (Eff.alloc ty111 rfl) ?_
       rintro _ _ ⟨b24, rfl, rfl⟩
       refine ⟨Fit.sub, ?_⟩
       refine D.step (rs := [9]) (by kernel_rfl) rfl rfl (all1 ?_)
       refine Step.eff rfl (Wanted.plain rfl) (Eff.call call84 rfl rfl (WSize_ok y.num (by omega))) ?_
       rintro _ _ ⟨_, _, ⟨rfl, rfl⟩, rfl, rfl⟩
       refine ⟨Fit.sub, ?_⟩
       refine D.step (rs := [13]) (by kernel_rfl) rfl rfl (all1 ?_)
       refine Step.eff rfl (Wanted.plain rfl) (Eff.call call85 rfl rfl (WMul_ok y.num x.den (by omega) (by omega))) ?_
       rintro _ _ ⟨_, _, ⟨rfl, rfl⟩, rfl, rfl⟩
       refine ⟨Fit.sub, ?_⟩
       refine D.step (rs := [16]) (by kernel_rfl) rfl rfl (all1 ?_)
       refine Step.eff rfl (Wanted.plain rfl) (Eff.st (cs := [_, _]) (vs := [_, _]) (cs' := [_, _]) ty111) ?_
       rintro _ _ ⟨rfl, rfl⟩
       refine ⟨Fit.sub, ?_⟩
       refine D.step (rs := [17]) (by kernel_rfl) rfl rfl (all1 ?_)
       refine Step.eff rfl (Wanted.plain rfl) (Eff.st (cs := [_, _]) (vs := [_, _]) (cs' := [_, _]) ty111) ?_
       rintro _ _ ⟨rfl, rfl⟩
       refine ⟨Fit.sub, ?_⟩
       refine D.done (by kernel_rfl) ?_
       exact V.mid ((b21), (b24)) (show True from trivial) (Sub.cons rfl (Sub.cons (lookV rfl (by first | rfl | simp)) (Sub.cons (lookV rfl (by first | rfl | simp)) Sub.nil))) (show Fit κ _ (blk (b21) [.int .u64 (0), .int .u64 (x.num * y.den)] 111 :: blk (b24) [.int .u64 (0), .int .u64 (y.num * x.den)] 111 :: blk b2 [I64 (y.num), I64 (y.den)] 45 :: blk b1 [I64 (x.num), I64 (x.den)] 45 :: I) from Fit.s)
     ·refine Step.eff rfl (Wanted.plain rfl) (Eff.alloc ty111 rfl) ?_
      rintro _ _ ⟨b25, rfl, rfl⟩
      refine ⟨Fit.sub, ?_⟩
      refine D.step (rs := [6]) (by kernel_rfl) rfl rfl (all1 ?_)
      refine Step.eff rfl (Wanted.plain rfl) (Eff.call call85 rfl rfl (WMul_ok x.num y.den (by omega) (by omega))) ?_
      rintro _ _ ⟨_, _, ⟨rfl, rfl⟩, rfl, rfl⟩
      refine ⟨Fit.sub, ?_⟩
      refine D.step (rs := [9]) (by kernel_rfl) rfl rfl (all1 ?_)
      refine Step.eff rfl (Wanted.plain rfl) (Eff.call call84 rfl rfl (WSize_ok y.num (by omega))) ?_
      rintro _ _ ⟨_, _, ⟨rfl, rfl⟩, rfl, rfl⟩
      refine ⟨Fit.sub, ?_⟩
      refine D.step (rs := [13]) (by kernel_rfl) rfl rfl (all1 ?_)
      refine Step.eff rfl (Wanted.plain rfl) (Eff.call call85 rfl rfl (WMul_ok y.num x.den (by omega) (by omega))) ?_
      rintro _ _ ⟨_, _, ⟨rfl, rfl⟩, rfl, rfl⟩
      refine ⟨Fit.sub, ?_⟩
      refine D.step (rs := [16]) (by kernel_rfl) rfl rfl (all1 ?_)
      refine Step.eff rfl (Wanted.plain rfl) (Eff.st (cs := [_, _]) (vs := [_, _]) (cs' := [_, _]) ty111) ?_
      rintro _ _ ⟨rfl, rfl⟩
      refine ⟨Fit.sub, ?_⟩
      refine D.step (rs := [17]) (by kernel_rfl) rfl rfl (all1 ?_)
      refine Step.eff rfl (Wanted.plain rfl) (Eff.st (cs := [_, _]) (vs := [_, _]) (cs' := [_, _]) ty111) ?_
      rintro _ _ ⟨rfl, rfl⟩
      refine ⟨Fit.sub, ?_⟩
      refine D.done (by kernel_rfl) ?_
      exact V.mid ((b21), (b25)) (show True from trivial) (Sub.cons rfl (Sub.cons (lookV rfl (by first | rfl | simp)) (Sub.cons (lookV rfl (by first | rfl | simp)) Sub.nil))) (show Fit κ _ (blk (b21) [.int .u64 (0), .int .u64 (x.num * y.den)] 111 :: blk (b25) [.int .u64 (0), .int .u64 (y.num * x.den)] 111 :: blk b2 [I64 (y.num), I64 (y.den)] 45 :: blk b1 [I64 (x.num), I64 (x.den)] 45 :: I) from Fit.s)
    ·refine Step.eff rfl (Wanted.plain rfl) (Eff.alloc ty111 rfl) ?_
     rintro _ _ ⟨b26, rfl, rfl⟩
     refine ⟨Fit.sub, ?_⟩
     refine D.step (rs := [6, 14]) (by kernel_rfl) rfl rfl (all2 ?_ (all1 ?_))
     ·refine Step.eff rfl (Wanted.plain rfl) (Eff.call call85 rfl rfl (WMul_ok x.num y.den (by omega) (by omega))) ?_
      rintro _ _ ⟨_, _, ⟨rfl, rfl⟩, rfl, rfl⟩
      refine ⟨Fit.sub, ?_⟩
      refine D.step (rs := [9, 14]) (by kernel_rfl) rfl rfl (all2 ?_ (all1 ?_))
      ·refine Step.eff rfl (Wanted.plain rfl) (Eff.call call84 rfl rfl (WSize_ok y.num (by omega))) ?_
       rintro _ _ ⟨_, _, ⟨rfl, rfl⟩, rfl, rfl⟩
       refine ⟨Fit.sub, ?_⟩
       refine D.step (rs := [13, 14]) (by kernel_rfl) rfl rfl (all2 ?_ (all1 ?_))
       ·refine Step.eff rfl (Wanted.plain rfl) (Eff.call call85 rfl rfl (WMul_ok y.num x.den (by omega) (by omega))) ?_
        rintro _ _ ⟨_, _, ⟨rfl, rfl⟩, rfl, rfl⟩
        refine ⟨Fit.sub, ?_⟩
        refine D.step (rs := [14]) (by kernel_rfl) rfl rfl (all1 ?_)
        refine Step.eff rfl (Wanted.plain rfl) (Eff.alloc ty111 rfl) ?_
        rintro _ _ ⟨b27, rfl, rfl⟩
        refine ⟨Fit.sub, ?_⟩
        refine D.step (rs := [16]) (by kernel_rfl) rfl rfl (all1 ?_)
        refine Step.eff rfl (Wanted.plain rfl) (Eff.st (cs := [_, _]) (vs := [_, _]) (cs' := [_, _]) ty111) ?_
        rintro _ _ ⟨rfl, rfl⟩
        refine ⟨Fit.sub, ?_⟩
        refine D.step (rs := [17]) (by kernel_rfl) rfl rfl (all1 ?_)
        refine Step.eff rfl (Wanted.plain rfl) (Eff.st (cs := [_, _]) (vs := [_, _]) (cs' := [_, _]) ty111) ?_
        rintro _ _ ⟨rfl, rfl⟩
        refine ⟨Fit.sub, ?_⟩
        refine D.done (by kernel_rfl) ?_
        exact V.mid ((b27), (b26)) (show True from trivial) (Sub.cons rfl (Sub.cons (lookV rfl (by first | rfl | simp)) (Sub.cons (lookV rfl (by first | rfl | simp)) Sub.nil))) (show Fit κ _ (blk (b27) [.int .u64 (0), .int .u64 (x.num * y.den)] 111 :: blk (b26) [.int .u64 (0), .int .u64 (y.num * x.den)] 111 :: blk b2 [I64 (y.num), I64 (y.den)] 45 :: blk b1 [I64 (x.num), I64 (x.den)] 45 :: I) from Fit.s)
       ·refine Step.eff rfl (Wanted.plain rfl) (Eff.alloc ty111 rfl) ?_
        rintro _ _ ⟨b28, rfl, rfl⟩
        refine ⟨Fit.sub, ?_⟩
        refine D.step (rs := [13]) (by kernel_rfl) rfl rfl (all1 ?_)
        refine Step.eff rfl (Wanted.plain rfl) (Eff.call call85 rfl rfl (WMul_ok y.num x.den (by omega) (by omega))) ?_
        rintro _ _ ⟨_, _, ⟨rfl, rfl⟩, rfl, rfl⟩
        refine ⟨Fit.sub, ?_⟩
        refine D.step (rs := [16]) (by kernel_rfl) rfl rfl (all1 ?_)
        refine Step.eff rfl (Wanted.plain rfl) (Eff.st (cs := [_, _]) (vs := [_, _]) (cs' := [_, _]) ty111) ?_
        rintro _ _ ⟨rfl, rfl⟩
        refine ⟨Fit.sub, ?_⟩
        refine D.step (rs := [17]) (by kernel_rfl) rfl rfl (all1 ?_)
        refine Step.eff rfl (Wanted.plain rfl) (Eff.st (cs := [_, _]) (vs := [_, _]) (cs' := [_, _]) ty111) ?_
        rintro _ _ ⟨rfl, rfl⟩
        refine ⟨Fit.sub, ?_⟩
        refine D.done (by kernel_rfl) ?_
        exact V.mid ((b28), (b26)) (show True from trivial) (Sub.cons rfl (Sub.cons (lookV rfl (by first | rfl | simp)) (Sub.cons (lookV rfl (by first | rfl | simp)) Sub.nil))) (show Fit κ _ (blk (b28) [.int .u64 (0), .int .u64 (x.num * y.den)] 111 :: blk (b26) [.int .u64 (0), .int .u64 (y.num * x.den)] 111 :: blk b2 [I64 (y.num), I64 (y.den)] 45 :: blk b1 [I64 (x.num), I64 (x.den)] 45 :: I) from Fit.s)
      ·refine Step.eff rfl (Wanted.plain rfl) (Eff.alloc ty111 rfl) ?_
       rintro _ _ ⟨b29, rfl, rfl⟩
       refine ⟨Fit.sub, ?_⟩
       refine D.step (rs := [9]) (by kernel_rfl) rfl rfl (all1 ?_)
       refine Step.eff rfl (Wanted.plain rfl) (Eff.call call84 rfl rfl (WSize_ok y.num (by omega))) ?_
       rintro _ _ ⟨_, _, ⟨rfl, rfl⟩, rfl, rfl⟩
       refine ⟨Fit.sub, ?_⟩
       refine D.step (rs := [13]) (by kernel_rfl) rfl rfl (all1 ?_)
       refine Step.eff rfl (Wanted.plain rfl) (Eff.call call85 rfl rfl (WMul_ok y.num x.den (by omega) (by omega))) ?_
       rintro _ _ ⟨_, _, ⟨rfl, rfl⟩, rfl, rfl⟩
       refine ⟨Fit.sub, ?_⟩
       refine D.step (rs := [16]) (by kernel_rfl) rfl rfl (all1 ?_)
       refine Step.eff rfl (Wanted.plain rfl) (Eff.st (cs := [_, _]) (vs := [_, _]) (cs' := [_, _]) ty111) ?_
       rintro _ _ ⟨rfl, rfl⟩
       refine ⟨Fit.sub, ?_⟩
       refine D.step (rs := [17]) (by kernel_rfl) rfl rfl (all1 ?_)
       refine Step.eff rfl (Wanted.plain rfl) (Eff.st (cs := [_, _]) (vs := [_, _]) (cs' := [_, _]) ty111) ?_
       rintro _ _ ⟨rfl, rfl⟩
       refine ⟨Fit.sub, ?_⟩
       refine D.done (by kernel_rfl) ?_
       exact V.mid ((b29), (b26)) (show True from trivial) (Sub.cons rfl (Sub.cons (lookV rfl (by first | rfl | simp)) (Sub.cons (lookV rfl (by first | rfl | simp)) Sub.nil))) (show Fit κ _ (blk (b29) [.int .u64 (0), .int .u64 (x.num * y.den)] 111 :: blk (b26) [.int .u64 (0), .int .u64 (y.num * x.den)] 111 :: blk b2 [I64 (y.num), I64 (y.den)] 45 :: blk b1 [I64 (x.num), I64 (x.den)] 45 :: I) from Fit.s)
     ·refine Step.eff rfl (Wanted.plain rfl) (Eff.alloc ty111 rfl) ?_
      rintro _ _ ⟨b30, rfl, rfl⟩
      refine ⟨Fit.sub, ?_⟩
      refine D.step (rs := [6]) (by kernel_rfl) rfl rfl (all1 ?_)
      refine Step.eff rfl (Wanted.plain rfl) (Eff.call call85 rfl rfl (WMul_ok x.num y.den (by omega) (by omega))) ?_
      rintro _ _ ⟨_, _, ⟨rfl, rfl⟩, rfl, rfl⟩
      refine ⟨Fit.sub, ?_⟩
      refine D.step (rs := [9]) (by kernel_rfl) rfl rfl (all1 ?_)
      refine Step.eff rfl (Wanted.plain rfl) (Eff.call call84 rfl rfl (WSize_ok y.num (by omega))) ?_
      rintro _ _ ⟨_, _, ⟨rfl, rfl⟩, rfl, rfl⟩
      refine ⟨Fit.sub, ?_⟩
      refine D.step (rs := [13]) (by kernel_rfl) rfl rfl (all1 ?_)
      refine Step.eff rfl (Wanted.plain rfl) (Eff.call call85 rfl rfl (WMul_ok y.num x.den (by omega) (by omega))) ?_
      rintro _ _ ⟨_, _, ⟨rfl, rfl⟩, rfl, rfl⟩
      refine ⟨Fit.sub, ?_⟩
      refine D.step (rs := [16]) (by kernel_rfl) rfl rfl (all1 ?_)
      refine Step.eff rfl (Wanted.plain rfl) (Eff.st (cs := [_, _]) (vs := [_, _]) (cs' := [_, _]) ty111) ?_
      rintro _ _ ⟨rfl, rfl⟩
      refine ⟨Fit.sub, ?_⟩
      refine D.step (rs := [17]) (by kernel_rfl) rfl rfl (all1 ?_)
      refine Step.eff rfl (Wanted.plain rfl) (Eff.st (cs := [_, _]) (vs := [_, _]) (cs' := [_, _]) ty111) ?_
      rintro _ _ ⟨rfl, rfl⟩
      refine ⟨Fit.sub, ?_⟩
      refine D.done (by kernel_rfl) ?_
      exact V.mid ((b30), (b26)) (show True from trivial) (Sub.cons rfl (Sub.cons (lookV rfl (by first | rfl | simp)) (Sub.cons (lookV rfl (by first | rfl | simp)) Sub.nil))) (show Fit κ _ (blk (b30) [.int .u64 (0), .int .u64 (x.num * y.den)] 111 :: blk (b26) [.int .u64 (0), .int .u64 (y.num * x.den)] 111 :: blk b2 [I64 (y.num), I64 (y.den)] 45 :: blk b1 [I64 (x.num), I64 (x.den)] 45 :: I) from Fit.s)
   ·refine Step.eff rfl (Wanted.plain rfl) (Eff.alloc ty111 rfl) ?_
    rintro _ _ ⟨b31, rfl, rfl⟩
    refine ⟨Fit.sub, ?_⟩
    refine D.step (rs := [2, 15]) (by kernel_rfl) rfl rfl (all2 ?_ (all1 ?_))
    ·refine Step.eff rfl (Wanted.plain rfl) (Eff.call call84 rfl rfl (WSize_ok x.num (by omega))) ?_
     rintro _ _ ⟨_, _, ⟨rfl, rfl⟩, rfl, rfl⟩
     refine ⟨Fit.sub, ?_⟩
     refine D.step (rs := [6, 15]) (by kernel_rfl) rfl rfl (all2 ?_ (all1 ?_))
     ·refine Step.eff rfl (Wanted.plain rfl) (Eff.call call85 rfl rfl (WMul_ok x.num y.den (by omega) (by omega))) ?_
      rintro _ _ ⟨_, _, ⟨rfl, rfl⟩, rfl, rfl⟩
      refine ⟨Fit.sub, ?_⟩
      refine D.step (rs := [9, 15]) (by kernel_rfl) rfl rfl (all2 ?_ (all1 ?_))
      ·refine Step.eff rfl (Wanted.plain rfl) (Eff.call call84 rfl rfl (WSize_ok y.num (by omega))) ?_
       rintro _ _ ⟨_, _, ⟨rfl, rfl⟩, rfl, rfl⟩
       refine ⟨Fit.sub, ?_⟩
       refine D.step (rs := [13, 15]) (by kernel_rfl) rfl rfl (all2 ?_ (all1 ?_))
       ·refine Step.eff rfl (Wanted.plain rfl) (Eff.call call85 rfl rfl (WMul_ok y.num x.den (by omega) (by omega))) ?_
        rintro _ _ ⟨_, _, ⟨rfl, rfl⟩, rfl, rfl⟩
        refine ⟨Fit.sub, ?_⟩
        refine D.step (rs := [15]) (by kernel_rfl) rfl rfl (all1 ?_)
        refine Step.eff rfl (Wanted.plain rfl) (Eff.alloc ty111 rfl) ?_
        rintro _ _ ⟨b32, rfl, rfl⟩
        refine ⟨Fit.sub, ?_⟩
        refine D.step (rs := [16]) (by kernel_rfl) rfl rfl (all1 ?_)
        refine Step.eff rfl (Wanted.plain rfl) (Eff.st (cs := [_, _]) (vs := [_, _]) (cs' := [_, _]) ty111) ?_
        rintro _ _ ⟨rfl, rfl⟩
        refine ⟨Fit.sub, ?_⟩
        refine D.step (rs := [17]) (by kernel_rfl) rfl rfl (all1 ?_)
        refine Step.eff rfl (Wanted.plain rfl) (Eff.st (cs := [_, _]) (vs := [_, _]) (cs' := [_, _]) ty111) ?_
        rintro _ _ ⟨rfl, rfl⟩
        refine ⟨Fit.sub, ?_⟩
        refine D.done (by kernel_rfl) ?_
        exact V.mid ((b31), (b32)) (show True from trivial) (Sub.cons rfl (Sub.cons (lookV rfl (by first | rfl | simp)) (Sub.cons (lookV rfl (by first | rfl | simp)) Sub.nil))) (show Fit κ _ (blk (b31) [.int .u64 (0), .int .u64 (x.num * y.den)] 111 :: blk (b32) [.int .u64 (0), .int .u64 (y.num * x.den)] 111 :: blk b2 [I64 (y.num), I64 (y.den)] 45 :: blk b1 [I64 (x.num), I64 (x.den)] 45 :: I) from Fit.s)
       ·refine Step.eff rfl (Wanted.plain rfl) (Eff.alloc ty111 rfl) ?_
        rintro _ _ ⟨b33, rfl, rfl⟩
        refine ⟨Fit.sub, ?_⟩
        refine D.step (rs := [13]) (by kernel_rfl) rfl rfl (all1 ?_)
        refine Step.eff rfl (Wanted.plain rfl) (Eff.call call85 rfl rfl (WMul_ok y.num x.den (by omega) (by omega))) ?_
        rintro _ _ ⟨_, _, ⟨rfl, rfl⟩, rfl, rfl⟩
        refine ⟨Fit.sub, ?_⟩
        refine D.step (rs := [16]) (by kernel_rfl) rfl rfl (all1 ?_)
        refine Step.eff rfl (Wanted.plain rfl) (Eff.st (cs := [_, _]) (vs := [_, _]) (cs' := [_, _]) ty111) ?_
        rintro _ _ ⟨rfl, rfl⟩
        refine ⟨Fit.sub, ?_⟩
        refine D.step (rs := [17]) (by kernel_rfl) rfl rfl (all1 ?_)
        refine Step.eff rfl (Wanted.plain rfl) (Eff.st (cs := [_, _]) (vs := [_, _]) (cs' := [_, _]) ty111) ?_
        rintro _ _ ⟨rfl, rfl⟩
        refine ⟨Fit.sub, ?_⟩
        refine D.done (by kernel_rfl) ?_
        exact V.mid ((b31), (b33)) (show True from trivial) (Sub.cons rfl (Sub.cons (lookV rfl (by first | rfl | simp)) (Sub.cons (lookV rfl (by first | rfl | simp)) Sub.nil))) (show Fit κ _ (blk (b31) [.int .u64 (0), .int .u64 (x.num * y.den)] 111 :: blk (b33) [.int .u64 (0), .int .u64 (y.num * x.den)] 111 :: blk b2 [I64 (y.num), I64 (y.den)] 45 :: blk b1 [I64 (x.num), I64 (x.den)] 45 :: I) from Fit.s)
      ·refine Step.eff rfl (Wanted.plain rfl) (Eff.alloc ty111 rfl) ?_
       rintro _ _ ⟨b34, rfl, rfl⟩
       refine ⟨Fit.sub, ?_⟩
       refine D.step (rs := [9]) (by kernel_rfl) rfl rfl (all1 ?_)
       refine Step.eff rfl (Wanted.plain rfl) (Eff.call call84 rfl rfl (WSize_ok y.num (by omega))) ?_
       rintro _ _ ⟨_, _, ⟨rfl, rfl⟩, rfl, rfl⟩
       refine ⟨Fit.sub, ?_⟩
       refine D.step (rs := [13]) (by kernel_rfl) rfl rfl (all1 ?_)
       refine Step.eff rfl (Wanted.plain rfl) (Eff.call call85 rfl rfl (WMul_ok y.num x.den (by omega) (by omega))) ?_
       rintro _ _ ⟨_, _, ⟨rfl, rfl⟩, rfl, rfl⟩
       refine ⟨Fit.sub, ?_⟩
       refine D.step (rs := [16]) (by kernel_rfl) rfl rfl (all1 ?_)
       refine Step.eff rfl (Wanted.plain rfl) (Eff.st (cs := [_, _]) (vs := [_, _]) (cs' := [_, _]) ty111) ?_
       rintro _ _ ⟨rfl, rfl⟩
       refine ⟨Fit.sub, ?_⟩
       refine D.step (rs := [17]) (by kernel_rfl) rfl rfl (all1 ?_)
       refine Step.eff rfl (Wanted.plain rfl) (Eff.st (cs := [_, _]) (vs := [_, _]) (cs' := [_, _]) ty111) ?_
       rintro _ _ ⟨rfl, rfl⟩
       refine ⟨Fit.sub, ?_⟩
       refine D.done (by kernel_rfl) ?_
       exact V.mid ((b31), (b34)) (show True from trivial) (Sub.cons rfl (Sub.cons (lookV rfl (by first | rfl | simp)) (Sub.cons (lookV rfl (by first | rfl | simp)) Sub.nil))) (show Fit κ _ (blk (b31) [.int .u64 (0), .int .u64 (x.num * y.den)] 111 :: blk (b34) [.int .u64 (0), .int .u64 (y.num * x.den)] 111 :: blk b2 [I64 (y.num), I64 (y.den)] 45 :: blk b1 [I64 (x.num), I64 (x.den)] 45 :: I) from Fit.s)
     ·refine Step.eff rfl (Wanted.plain rfl) (Eff.alloc ty111 rfl) ?_
      rintro _ _ ⟨b35, rfl, rfl⟩
      refine ⟨Fit.sub, ?_⟩
      refine D.step (rs := [6]) (by kernel_rfl) rfl rfl (all1 ?_)
      refine Step.eff rfl (Wanted.plain rfl) (Eff.call call85 rfl rfl (WMul_ok x.num y.den (by omega) (by omega))) ?_
      rintro _ _ ⟨_, _, ⟨rfl, rfl⟩, rfl, rfl⟩
      refine ⟨Fit.sub, ?_⟩
      refine D.step (rs := [9]) (by kernel_rfl) rfl rfl (all1 ?_)
      refine Step.eff rfl (Wanted.plain rfl) (Eff.call call84 rfl rfl (WSize_ok y.num (by omega))) ?_
      rintro _ _ ⟨_, _, ⟨rfl, rfl⟩, rfl, rfl⟩
      refine ⟨Fit.sub, ?_⟩
      refine D.step (rs := [13]) (by kernel_rfl) rfl rfl (all1 ?_)
      refine Step.eff rfl (Wanted.plain rfl) (Eff.call call85 rfl rfl (WMul_ok y.num x.den (by omega) (by omega))) ?_
      rintro _ _ ⟨_, _, ⟨rfl, rfl⟩, rfl, rfl⟩
      refine ⟨Fit.sub, ?_⟩
      refine D.step (rs := [16]) (by kernel_rfl) rfl rfl (all1 ?_)
      refine Step.eff rfl (Wanted.plain rfl) (Eff.st (cs := [_, _]) (vs := [_, _]) (cs' := [_, _]) ty111) ?_
      rintro _ _ ⟨rfl, rfl⟩
      refine ⟨Fit.sub, ?_⟩
      refine D.step (rs := [17]) (by kernel_rfl) rfl rfl (all1 ?_)
      refine Step.eff rfl (Wanted.plain rfl) (Eff.st (cs := [_, _]) (vs := [_, _]) (cs' := [_, _]) ty111) ?_
      rintro _ _ ⟨rfl, rfl⟩
      refine ⟨Fit.sub, ?_⟩
      refine D.done (by kernel_rfl) ?_
      exact V.mid ((b31), (b35)) (show True from trivial) (Sub.cons rfl (Sub.cons (lookV rfl (by first | rfl | simp)) (Sub.cons (lookV rfl (by first | rfl | simp)) Sub.nil))) (show Fit κ _ (blk (b31) [.int .u64 (0), .int .u64 (x.num * y.den)] 111 :: blk (b35) [.int .u64 (0), .int .u64 (y.num * x.den)] 111 :: blk b2 [I64 (y.num), I64 (y.den)] 45 :: blk b1 [I64 (x.num), I64 (x.den)] 45 :: I) from Fit.s)
    ·refine Step.eff rfl (Wanted.plain rfl) (Eff.alloc ty111 rfl) ?_
     rintro _ _ ⟨b36, rfl, rfl⟩
     refine ⟨Fit.sub, ?_⟩
     refine D.step (rs := [2]) (by kernel_rfl) rfl rfl (all1 ?_)
     refine Step.eff rfl (Wanted.plain rfl) (Eff.call call84 rfl rfl (WSize_ok x.num (by omega))) ?_
     rintro _ _ ⟨_, _, ⟨rfl, rfl⟩, rfl, rfl⟩
     refine ⟨Fit.sub, ?_⟩
     refine D.step (rs := [6]) (by kernel_rfl) rfl rfl (all1 ?_)
     refine Step.eff rfl (Wanted.plain rfl) (Eff.call call85 rfl rfl (WMul_ok x.num y.den (by omega) (by omega))) ?_
     rintro _ _ ⟨_, _, ⟨rfl, rfl⟩, rfl, rfl⟩
     refine ⟨Fit.sub, ?_⟩
     refine D.step (rs := [9]) (by kernel_rfl) rfl rfl (all1 ?_)
     refine Step.eff rfl (Wanted.plain rfl) (Eff.call call84 rfl rfl (WSize_ok y.num (by omega))) ?_
     rintro _ _ ⟨_, _, ⟨rfl, rfl⟩, rfl, rfl⟩
     refine ⟨Fit.sub, ?_⟩
     refine D.step (rs := [13]) (by kernel_rfl) rfl rfl (all1 ?_)
     refine Step.eff rfl (Wanted.plain rfl) (Eff.call call85 rfl rfl (WMul_ok y.num x.den (by omega) (by omega))) ?_
     rintro _ _ ⟨_, _, ⟨rfl, rfl⟩, rfl, rfl⟩
     refine ⟨Fit.sub, ?_⟩
     refine D.step (rs := [16]) (by kernel_rfl) rfl rfl (all1 ?_)
     refine Step.eff rfl (Wanted.plain rfl) (Eff.st (cs := [_, _]) (vs := [_, _]) (cs' := [_, _]) ty111) ?_
     rintro _ _ ⟨rfl, rfl⟩
     refine ⟨Fit.sub, ?_⟩
     refine D.step (rs := [17]) (by kernel_rfl) rfl rfl (all1 ?_)
     refine Step.eff rfl (Wanted.plain rfl) (Eff.st (cs := [_, _]) (vs := [_, _]) (cs' := [_, _]) ty111) ?_
     rintro _ _ ⟨rfl, rfl⟩
     refine ⟨Fit.sub, ?_⟩
     refine D.done (by kernel_rfl) ?_
     exact V.mid ((b31), (b36)) (show True from trivial) (Sub.cons rfl (Sub.cons (lookV rfl (by first | rfl | simp)) (Sub.cons (lookV rfl (by first | rfl | simp)) Sub.nil))) (show Fit κ _ (blk (b31) [.int .u64 (0), .int .u64 (x.num * y.den)] 111 :: blk (b36) [.int .u64 (0), .int .u64 (y.num * x.den)] 111 :: blk b2 [I64 (y.num), I64 (y.den)] 45 :: blk b1 [I64 (x.num), I64 (x.den)] 45 :: I) from Fit.s)
   ·refine Step.eff rfl (Wanted.plain rfl) (Eff.alloc ty111 rfl) ?_
    rintro _ _ ⟨b37, rfl, rfl⟩
    refine ⟨Fit.sub, ?_⟩
    refine D.step (rs := [2, 14]) (by kernel_rfl) rfl rfl (all2 ?_ (all1 ?_))
    ·refine Step.eff rfl (Wanted.plain rfl) (Eff.call call84 rfl rfl (WSize_ok x.num (by omega))) ?_
     rintro _ _ ⟨_, _, ⟨rfl, rfl⟩, rfl, rfl⟩
     refine ⟨Fit.sub, ?_⟩
     refine D.step (rs := [6, 14]) (by kernel_rfl) rfl rfl (all2 ?_ (all1 ?_))
     ·refine Step.eff rfl (Wanted.plain rfl) (Eff.call call85 rfl rfl (WMul_ok x.num y.den (by omega) (by omega))) ?_
      rintro _ _ ⟨_, _, ⟨rfl, rfl⟩, rfl, rfl⟩
      refine ⟨Fit.sub, ?_⟩
      refine D.step (rs := [9, 14]) (by kernel_rfl) rfl rfl (all2 ?_ (all1 ?_))
      ·refine Step.eff rfl (Wanted.plain rfl) (Eff.call call84 rfl rfl (WSize_ok y.num (by omega))) ?_
       rintro _ _ ⟨_, _, ⟨rfl, rfl⟩, rfl, rfl⟩
       refine ⟨Fit.sub, ?_⟩
       refine D.step (rs := [13, 14]) (by kernel_rfl) rfl rfl (all2 ?_ (all1 ?_))
       ·refine Step.eff rfl (Wanted.plain rfl) (Eff.call call85 rfl rfl (WMul_ok y.num x.den (by omega) (by omega))) ?_
        rintro _ _ ⟨_, _, ⟨rfl, rfl⟩, rfl, rfl⟩
        refine ⟨Fit.sub, ?_⟩
        refine D.step (rs := [14]) (by kernel_rfl) rfl rfl (all1 ?_)
        refine Step.eff rfl (Wanted.plain rfl) (Eff.alloc ty111 rfl) ?_
        rintro _ _ ⟨b38, rfl, rfl⟩
        refine ⟨Fit.sub, ?_⟩
        refine D.step (rs := [16]) (by kernel_rfl) rfl rfl (all1 ?_)
        refine Step.eff rfl (Wanted.plain rfl) (Eff.st (cs := [_, _]) (vs := [_, _]) (cs' := [_, _]) ty111) ?_
        rintro _ _ ⟨rfl, rfl⟩
        refine ⟨Fit.sub, ?_⟩
        refine D.step (rs := [17]) (by kernel_rfl) rfl rfl (all1 ?_)
        refine Step.eff rfl (Wanted.plain rfl) (Eff.st (cs := [_, _]) (vs := [_, _]) (cs' := [_, _]) ty111) ?_
        rintro _ _ ⟨rfl, rfl⟩
        refine ⟨Fit.sub, ?_⟩
        refine D.done (by kernel_rfl) ?_
        exact V.mid ((b38), (b37)) (show True from trivial) (Sub.cons rfl (Sub.cons (lookV rfl (by first | rfl | simp)) (Sub.cons (lookV rfl (by first | rfl | simp)) Sub.nil))) (show Fit κ _ (blk (b38) [.int .u64 (0), .int .u64 (x.num * y.den)] 111 :: blk (b37) [.int .u64 (0), .int .u64 (y.num * x.den)] 111 :: blk b2 [I64 (y.num), I64 (y.den)] 45 :: blk b1 [I64 (x.num), I64 (x.den)] 45 :: I) from Fit.s)
       ·refine Step.eff rfl (Wanted.plain rfl) (Eff.alloc ty111 rfl) ?_
        rintro _ _ ⟨b39, rfl, rfl⟩
        refine ⟨Fit.sub, ?_⟩
        refine D.step (rs := [13]) (by kernel_rfl) rfl rfl (all1 ?_)
        refine Step.eff rfl (Wanted.plain rfl) (Eff.call call85 rfl rfl (WMul_ok y.num x.den (by omega) (by omega))) ?_
        rintro _ _ ⟨_, _, ⟨rfl, rfl⟩, rfl, rfl⟩
        refine ⟨Fit.sub, ?_⟩
        refine D.step (rs := [16]) (by kernel_rfl) rfl rfl (all1 ?_)
        refine Step.eff rfl (Wanted.plain rfl) (Eff.st (cs := [_, _]) (vs := [_, _]) (cs' := [_, _]) ty111) ?_
        rintro _ _ ⟨rfl, rfl⟩
        refine ⟨Fit.sub, ?_⟩
        refine D.step (rs := [17]) (by kernel_rfl) rfl rfl (all1 ?_)
        refine Step.eff rfl (Wanted.plain rfl) (Eff.st (cs := [_, _]) (vs := [_, _]) (cs' := [_, _]) ty111) ?_
        rintro _ _ ⟨rfl, rfl⟩
        refine ⟨Fit.sub, ?_⟩
        refine D.done (by kernel_rfl) ?_
        exact V.mid ((b39), (b37)) (show True from trivial) (Sub.cons rfl (Sub.cons (lookV rfl (by first | rfl | simp)) (Sub.cons (lookV rfl (by first | rfl | simp)) Sub.nil))) (show Fit κ _ (blk (b39) [.int .u64 (0), .int .u64 (x.num * y.den)] 111 :: blk (b37) [.int .u64 (0), .int .u64 (y.num * x.den)] 111 :: blk b2 [I64 (y.num), I64 (y.den)] 45 :: blk b1 [I64 (x.num), I64 (x.den)] 45 :: I) from Fit.s)
      ·refine Step.eff rfl (Wanted.plain rfl) (Eff.alloc ty111 rfl) ?_
       rintro _ _ ⟨b40, rfl, rfl⟩
       refine ⟨Fit.sub, ?_⟩
       refine D.step (rs := [9]) (by kernel_rfl) rfl rfl (all1 ?_)
       refine Step.eff rfl (Wanted.plain rfl) (Eff.call call84 rfl rfl (WSize_ok y.num (by omega))) ?_
       rintro _ _ ⟨_, _, ⟨rfl, rfl⟩, rfl, rfl⟩
       refine ⟨Fit.sub, ?_⟩
       refine D.step (rs := [13]) (by kernel_rfl) rfl rfl (all1 ?_)
       refine Step.eff rfl (Wanted.plain rfl) (Eff.call call85 rfl rfl (WMul_ok y.num x.den (by omega) (by omega))) ?_
       rintro _ _ ⟨_, _, ⟨rfl, rfl⟩, rfl, rfl⟩
       refine ⟨Fit.sub, ?_⟩
       refine D.step (rs := [16]) (by kernel_rfl) rfl rfl (all1 ?_)
       refine Step.eff rfl (Wanted.plain rfl) (Eff.st (cs := [_, _]) (vs := [_, _]) (cs' := [_, _]) ty111) ?_
       rintro _ _ ⟨rfl, rfl⟩
       refine ⟨Fit.sub, ?_⟩
       refine D.step (rs := [17]) (by kernel_rfl) rfl rfl (all1 ?_)
       refine Step.eff rfl (Wanted.plain rfl) (Eff.st (cs := [_, _]) (vs := [_, _]) (cs' := [_, _]) ty111) ?_
       rintro _ _ ⟨rfl, rfl⟩
       refine ⟨Fit.sub, ?_⟩
       refine D.done (by kernel_rfl) ?_
       exact V.mid ((b40), (b37)) (show True from trivial) (Sub.cons rfl (Sub.cons (lookV rfl (by first | rfl | simp)) (Sub.cons (lookV rfl (by first | rfl | simp)) Sub.nil))) (show Fit κ _ (blk (b40) [.int .u64 (0), .int .u64 (x.num * y.den)] 111 :: blk (b37) [.int .u64 (0), .int .u64 (y.num * x.den)] 111 :: blk b2 [I64 (y.num), I64 (y.den)] 45 :: blk b1 [I64 (x.num), I64 (x.den)] 45 :: I) from Fit.s)
     ·refine Step.eff rfl (Wanted.plain rfl) (Eff.alloc ty111 rfl) ?_
      rintro _ _ ⟨b41, rfl, rfl⟩
      refine ⟨Fit.sub, ?_⟩
      refine D.step (rs := [6]) (by kernel_rfl) rfl rfl (all1 ?_)
      refine Step.eff rfl (Wanted.plain rfl) (Eff.call call85 rfl rfl (WMul_ok x.num y.den (by omega) (by omega))) ?_
      rintro _ _ ⟨_, _, ⟨rfl, rfl⟩, rfl, rfl⟩
      refine ⟨Fit.sub, ?_⟩
      refine D.step (rs := [9]) (by kernel_rfl) rfl rfl (all1 ?_)
      refine Step.eff rfl (Wanted.plain rfl) (Eff.call call84 rfl rfl (WSize_ok y.num (by omega))) ?_
      rintro _ _ ⟨_, _, ⟨rfl, rfl⟩, rfl, rfl⟩
      refine ⟨Fit.sub, ?_⟩
      refine D.step (rs := [13]) (by kernel_rfl) rfl rfl (all1 ?_)
      refine Step.eff rfl (Wanted.plain rfl) (Eff.call call85 rfl rfl (WMul_ok y.num x.den (by omega) (by omega))) ?_
      rintro _ _ ⟨_, _, ⟨rfl, rfl⟩, rfl, rfl⟩
      refine ⟨Fit.sub, ?_⟩
      refine D.step (rs := [16]) (by kernel_rfl) rfl rfl (all1 ?_)
      refine Step.eff rfl (Wanted.plain rfl) (Eff.st (cs := [_, _]) (vs := [_, _]) (cs' := [_, _]) ty111) ?_
      rintro _ _ ⟨rfl, rfl⟩
      refine ⟨Fit.sub, ?_⟩
      refine D.step (rs := [17]) (by kernel_rfl) rfl rfl (all1 ?_)
      refine Step.eff rfl (Wanted.plain rfl) (Eff.st (cs := [_, _]) (vs := [_, _]) (cs' := [_, _]) ty111) ?_
      rintro _ _ ⟨rfl, rfl⟩
      refine ⟨Fit.sub, ?_⟩
      refine D.done (by kernel_rfl) ?_
      exact V.mid ((b41), (b37)) (show True from trivial) (Sub.cons rfl (Sub.cons (lookV rfl (by first | rfl | simp)) (Sub.cons (lookV rfl (by first | rfl | simp)) Sub.nil))) (show Fit κ _ (blk (b41) [.int .u64 (0), .int .u64 (x.num * y.den)] 111 :: blk (b37) [.int .u64 (0), .int .u64 (y.num * x.den)] 111 :: blk b2 [I64 (y.num), I64 (y.den)] 45 :: blk b1 [I64 (x.num), I64 (x.den)] 45 :: I) from Fit.s)
    ·refine Step.eff rfl (Wanted.plain rfl) (Eff.alloc ty111 rfl) ?_
     rintro _ _ ⟨b42, rfl, rfl⟩
     refine ⟨Fit.sub, ?_⟩
     refine D.step (rs := [2]) (by kernel_rfl) rfl rfl (all1 ?_)
     refine Step.eff rfl (Wanted.plain rfl) (Eff.call call84 rfl rfl (WSize_ok x.num (by omega))) ?_
     rintro _ _ ⟨_, _, ⟨rfl, rfl⟩, rfl, rfl⟩
     refine ⟨Fit.sub, ?_⟩
     refine D.step (rs := [6]) (by kernel_rfl) rfl rfl (all1 ?_)
     refine Step.eff rfl (Wanted.plain rfl) (Eff.call call85 rfl rfl (WMul_ok x.num y.den (by omega) (by omega))) ?_
     rintro _ _ ⟨_, _, ⟨rfl, rfl⟩, rfl, rfl⟩
     refine ⟨Fit.sub, ?_⟩
     refine D.step (rs := [9]) (by kernel_rfl) rfl rfl (all1 ?_)
     refine Step.eff rfl (Wanted.plain rfl) (Eff.call call84 rfl rfl (WSize_ok y.num (by omega))) ?_
     rintro _ _ ⟨_, _, ⟨rfl, rfl⟩, rfl, rfl⟩
     refine ⟨Fit.sub, ?_⟩
     refine D.step (rs := [13]) (by kernel_rfl) rfl rfl (all1 ?_)
     refine Step.eff rfl (Wanted.plain rfl) (Eff.call call85 rfl rfl (WMul_ok y.num x.den (by omega) (by omega))) ?_
     rintro _ _ ⟨_, _, ⟨rfl, rfl⟩, rfl, rfl⟩
     refine ⟨Fit.sub, ?_⟩
     refine D.step (rs := [16]) (by kernel_rfl) rfl rfl (all1 ?_)
     refine Step.eff rfl (Wanted.plain rfl) (Eff.st (cs := [_, _]) (vs := [_, _]) (cs' := [_, _]) ty111) ?_
     rintro _ _ ⟨rfl, rfl⟩
     refine ⟨Fit.sub, ?_⟩
     refine D.step (rs := [17]) (by kernel_rfl) rfl rfl (all1 ?_)
     refine Step.eff rfl (Wanted.plain rfl) (Eff.st (cs := [_, _]) (vs := [_, _]) (cs' := [_, _]) ty111) ?_
     rintro _ _ ⟨rfl, rfl⟩
     refine ⟨Fit.sub, ?_⟩
     refine D.done (by kernel_rfl) ?_
     exact V.mid ((b42), (b37)) (show True from trivial) (Sub.cons rfl (Sub.cons (lookV rfl (by first | rfl | simp)) (Sub.cons (lookV rfl (by first | rfl | simp)) Sub.nil))) (show Fit κ _ (blk (b42) [.int .u64 (0), .int .u64 (x.num * y.den)] 111 :: blk (b37) [.int .u64 (0), .int .u64 (y.num * x.den)] 111 :: blk b2 [I64 (y.num), I64 (y.den)] 45 :: blk b1 [I64 (x.num), I64 (x.den)] 45 :: I) from Fit.s)
  ·rintro ⟨b51, b61⟩ hp
   show W Tryz.prog κ 52 _ _ ([(2, .pointer (some ⟨b1, 0, none⟩)), (5, .pointer (some ⟨b51, 0, none⟩)), (6, .pointer (some ⟨b61, 0, none⟩))] : Env) (blk b51 [.int .u64 (0), .int .u64 (x.num * y.den)] 111 :: blk b61 [.int .u64 (0), .int .u64 (y.num * x.den)] 111 :: blk b2 [I64 (y.num), I64 (y.den)] 45 :: blk b1 [I64 (x.num), I64 (x.den)] 45 :: I)
   refine W.seq ?_
   refine W.sr ?_
   refine G.r (Runs.fieldAddr fld45_0 rfl) ?_
   refine G.r (Runs.ld ty3) ?_
   refine G.r (Runs.lss rfl rfl) ?_
   refine G.nt ?_
   refine W.ite rfl (fun c41 => ?_) (fun c41 => ?_)
   ·exact absurd c41 (by omega)
   ·refine W.skip ?_
    refine V.then ?_
    refine W.seq ?_
    refine W.block ?_
    refine W.sr ?_
    refine G.r (Runs.lds (vs := [_, _]) ty111) ?_
    refine G.r (Runs.lds (vs := [_, _]) ty111) ?_
    refine G.e (Eff.call call86 rfl rfl (WLess_ok (x.num * y.den) (y.num * x.den) )) ?_
    rintro _ _ ⟨_, _, ⟨rfl, rfl⟩, rfl, rfl⟩
    refine G.r (Runs.assign rfl) ?_
    refine G.nt ?_
    refine W.ite rfl (fun c44 => ?_) (fun c44 => ?_)
    ·refine W.sr ?_
     refine G.r (Runs.assign rfl) ?_
     refine G.nt ?_
     refine W.ret ?_
     refine V.block_ret ?_
     refine V.then_ret ?_
     exact V.ret1 rfl rfl (I) Fit.m ⟨congrArg I64 (by unfold cmpF; repeat (first | omega | split)), rfl⟩
    ·refine W.sr ?_
     refine G.r (Runs.lds (vs := [_, _]) ty111) ?_
     refine G.r (Runs.lds (vs := [_, _]) ty111) ?_
     refine G.r (Runs.eqlT (α := Wd) (a := (⟨0, x.num * y.den⟩ : Wd)) (b := (⟨0, y.num * x.den⟩ : Wd)) eqt111 rfl rfl) ?_
     refine G.r (Runs.assign rfl) ?_
     refine G.nt ?_
     refine W.sub (L' := [(48, _)]) (Sub.cons rfl Sub.nil) ?_
     refine W.ite rfl (fun c48 => ?_) (fun c48 => ?_)
     ·refine W.sr ?_
      refine G.r (Runs.assign rfl) ?_
      refine G.nt ?_
      refine W.ret ?_
      refine V.block_ret ?_
      refine V.then_ret ?_
      have hcq := c48
      rw [Wd.mk.injEq] at hcq
      exact V.ret1 rfl rfl (I) Fit.m ⟨congrArg I64 (by unfold cmpF; repeat (first | omega | split)), rfl⟩
     ·refine W.skip ?_
      refine V.block_normal ?_
      refine V.then ?_
      refine W.sr ?_
      refine G.r (Runs.assign rfl) ?_
      refine G.nt ?_
      refine W.ret ?_
      have hcq := c48
      rw [Wd.mk.injEq] at hcq
      exact V.ret1 rfl rfl (I) Fit.m ⟨congrArg I64 (by unfold cmpF; repeat (first | omega | split)), rfl⟩

end Go.Sl
namespace Go.Sl
open Go.Proofs
set_option linter.unusedVariables false
set_option linter.unusedSimpArgs false
set_option maxRecDepth 4000
theorem cmpD_ne {a b : Int} (h : ¬ cmpI a b ≠ 0) : ¬ b < a ∧ ¬ a < b := by unfold cmpI at h; split at h <;> (try split at h) <;> omega
theorem cmpD_drop (xs ys : List Int) (k : Nat) (hx : k < xs.length) (hy : k < ys.length) (h : cmpI (at_ xs (k : Int)) (at_ ys (k : Int)) ≠ 0) : cmpL (xs.drop k) (ys.drop k) = cmpI (at_ xs (k : Int)) (at_ ys (k : Int)) := by
  unfold cmpI at h ⊢
  by_cases h1 : at_ xs (k : Int) < at_ ys (k : Int)
  · rw [if_pos h1]; exact cmpL_dropn xs ys k hx hy (by omega) h1
  · rw [if_neg h1] at h ⊢
    by_cases h2 : at_ ys (k : Int) < at_ xs (k : Int)
    · rw [if_pos h2]; exact cmpL_drop1 xs ys k hx (.inr ⟨hy, h2⟩)
    · rw [if_neg h2] at h; omega
/-- An arc ars two numbers. -/
abbrev arL (p : Pt) : List Int := [p.u, p.v]
theorem cmp_arL (p q : Pt) : cmpL (arL p) (arL q) = Pt.cmp p q := by
  show cmpL [p.u, p.v] [q.u, q.v] = _
  simp only [cmpL]
  unfold Pt.cmp
  split <;> (try split) <;> (try split) <;> (try split) <;> (try split) <;> (try split) <;> omega
def badD (nd : Int) (p : Pt) : Int := if endsP nd p.u p.v then 0 else 6
theorem badD_zero {nd : Int} {p : Pt} : badD nd p = 0 ↔ endsP nd p.u p.v := by unfold badD; split <;> simp_all
def checkD (nd : Int) (ars : List Pt) : Int := if nd < 0 ∨ 64 < nd then 1 else scanL (badD nd) Pt.lt none ars
structure DgOk (nd : Int) (ars : List Pt) : Prop where
  rng : 0 ≤ nd ∧ nd ≤ 64
  asc : ars.Pairwise Pt.lt
  arc : ∀ a ∈ ars, endsP nd a.u a.v
theorem checkD_ok {nd : Int} {ars : List Pt} : checkD nd ars = 0 ↔ DgOk nd ars := by
  unfold checkD
  by_cases h : nd < 0 ∨ 64 < nd
  · rw [if_pos h]
    exact ⟨fun e => (by cases e), fun e => absurd e.rng (by omega)⟩
  · rw [if_neg h, scanL_zero Pt.lin]
    exact ⟨fun e => ⟨by omega, e.2, fun a ha => badD_zero.1 (e.1 a ha)⟩, fun e => ⟨fun a ha => badD_zero.2 (e.arc a ha), e.asc⟩⟩
/-- The rows of a digraph: to which nodes arcs lead. -/
def addO (rows : List (BitVec 64)) (a : Pt) : List (BitVec 64) := if endsP rows.length a.u a.v then rows.set a.u.toNat (at_ rows a.u ||| bitB a.v) else rows
def outB (nd : Int) (ars : List Pt) : List (BitVec 64) := ars.foldl addO (rows0 nd)
theorem addO_len (rows : List (BitVec 64)) (a : Pt) : (addO rows a).length = rows.length := by unfold addO; split <;> simp
theorem outB_take {nd : Int} {ars : List Pt} {k : Nat} (h : k < ars.length) : outB nd (ars.take (k + 1)) = addO (outB nd (ars.take k)) (at_ ars (k : Int)) := by
  unfold outB; rw [take_at ars k h, List.foldl_append]; rfl
theorem outB_len (nd : Int) (ars : List Pt) : (outB nd ars).length = (min (max nd 0) 64).toNat := by
  unfold outB
  have : ∀ (ars : List Pt) (r : List (BitVec 64)), (ars.foldl addO r).length = r.length := fun ars => by
    induction ars with
    | nil => intro r; rfl
    | cons e ars ih => intro r; rw [List.foldl_cons, ih, addO_len]
  rw [this]; simp [rows0]
/-- How many arcs lead from one set to another. -/
def betT (rows : List (BitVec 64)) (t : BitVec 64) (xs : List Int) : Int := (xs.map fun v => onesB (at_ rows v &&& t)).sum
def betB (rows : List (BitVec 64)) (f t : BitVec 64) : Int := betT rows t (listB (f &&& allB rows.length))
theorem betT_take {rows : List (BitVec 64)} {t : BitVec 64} {xs : List Int} {k : Nat} (h : k < xs.length) : betT rows t (xs.take (k + 1)) = betT rows t (xs.take k) + onesB (at_ rows (at_ xs (k : Int)) &&& t) := by
  unfold betT; rw [take_at xs k h, List.map_append, List.sum_append]; simp
theorem onesB_64 (m : BitVec 64) : 0 ≤ onesB m ∧ onesB m ≤ 64 := by rw [ones_pop]; have := listB_len m; omega
theorem betT_bd (rows : List (BitVec 64)) (t : BitVec 64) (xs : List Int) : 0 ≤ betT rows t xs ∧ betT rows t xs ≤ 64 * (xs.length : Int) := by
  unfold betT
  induction xs with
  | nil => simp
  | cons x xs ih =>
    rw [List.map_cons, List.sum_cons, List.length_cons]
    have := onesB_64 (at_ rows x &&& t)
    omega
theorem betB_bd (rows : List (BitVec 64)) (f t : BitVec 64) : 0 ≤ betB rows f t ∧ betB rows f t ≤ 4096 := by
  have h1 := betT_bd rows t (listB (f &&& allB rows.length))
  have h2 := listB_len (f &&& allB rows.length)
  unfold betB; omega
theorem sq_bd {n : Int} (h : 0 ≤ n ∧ n ≤ 4096) : 0 ≤ n * n ∧ n * n ≤ 16777216 := by
  have h1 := Int.mul_le_mul h.2 h.2 h.1 (by decide)
  exact ⟨Int.mul_nonneg h.1 h.1, by omega⟩
theorem ones_pos {m : BitVec 64} (h : m ≠ 0#64) : 1 ≤ onesB m := by
  rw [ones_pop, listB_step h]; simp; omega
theorem onm_bd {f t : BitVec 64} (hf : f ≠ 0#64) (ht : t ≠ 0#64) : 1 ≤ onesB f * onesB t ∧ onesB f * onesB t ≤ 4096 := by
  have h1 := ones_pos hf
  have h2 := ones_pos ht
  have h3 := onesB_64 f
  have h4 := onesB_64 t
  have h5 := Int.mul_le_mul h3.2 h4.2 h4.1 (by decide)
  have h6 := Int.mul_pos (show 0 < onesB f by omega) (show 0 < onesB t by omega)
  omega
def sqB (rows : List (BitVec 64)) (f t : BitVec 64) : Fr := mkF (betB rows f t * betB rows f t) (onesB f * onesB t)
theorem sqB_val {rows : List (BitVec 64)} {f t : BitVec 64} (hf : f ≠ 0#64) (ht : t ≠ 0#64) : FrV (sqB rows f t) := by
  have h1 := sq_bd (betB_bd rows f t)
  have h2 := onm_bd hf ht
  exact mkF_val h1.1 (by omega) (by omega) (by omega)
/-- A pair of sets with what is said of it. -/
structure Bst where
  F : List Int
  T : List Int
  n : Int
  sq : Fr
deriving DecidableEq
instance : Inhabited Bst := ⟨⟨[], [], 0, ⟨0, 0⟩⟩⟩
def pairB (rows : List (BitVec 64)) (f t : BitVec 64) : Bst := ⟨listB f, listB t, betB rows f t, sqB rows f t⟩
def noneB : Bst := ⟨[], [], 0, ⟨0, 1⟩⟩
def befB (a b : Bst) : Bool := if cmpF a.sq b.sq ≠ 0 then decide (0 < cmpF a.sq b.sq) else if cmpL a.F b.F ≠ 0 then decide (cmpL a.F b.F < 0) else decide (cmpL a.T b.T < 0)
theorem noneB_val : FrV noneB.sq := ⟨by decide, by decide, by decide, by decide, by decide +kernel⟩

theorem CompareD_ok {κ : Ctx} {I : List Item} {u v : Value} {xs ys : List Int} (hu : Sl κ I u xs) (hv : Sl κ I v ys) :
    CallS Tryz.prog κ 72 [u, v] I (fun r J => r = I64 (cmpL xs ys) ∧ I = J) := by
 refine CallS.pull hu.le fun hmax => ?_
 refine CallS.pull hv.le fun hmay => ?_
 refine CallS.enter (L := [(0, u), (1, v)]) Tryz.func72 rfl rfl rfl rfl ?_
 refine W.sr ?_
 refine G.r (Runs.assign rfl) ?_
 refine G.nt ?_
 refine W.seq ?_
 refine W.sr ?_
 refine G.r (Runs.move rfl) ?_
 refine G.r (Runs.lenT (α := Int) (xs := xs) Tryz.underlying22 rfl (Sl.f hu)) ?_
 refine G.r (Runs.move rfl) ?_
 refine G.nt ?_
 refine W.block ?_
 refine W.loop (σ := Nat) (fun s => ([(0, u), (1, v), (9, u), (10, I64 (((xs.length : Nat) : Int))), (11, I64 (((s : Nat) : Int)))] : Env)) (fun s => I) (fun s => (s ≤ xs.length) ∧ (cmpL xs ys = cmpL (xs.drop s) (ys.drop s))) (fun s => xs.length - s) (0) (show ((0 : Nat) ≤ xs.length) ∧ (cmpL xs ys = cmpL (xs.drop (0 : Nat)) (ys.drop (0 : Nat))) from ⟨(by omega), rfl⟩) (Sub.cons rfl (Sub.cons rfl (Sub.cons rfl (Sub.cons rfl (Sub.cons lookO Sub.nil))))) (show Fit κ _ (I) from Fit.sub) ?_
 rintro k hp
 obtain ⟨hk, hc⟩ : (k ≤ xs.length) ∧ (cmpL xs ys = cmpL (xs.drop k) (ys.drop k)) := hp
 show W Tryz.prog κ 36 _ _ ([(0, u), (1, v), (9, u), (10, I64 (((xs.length : Nat) : Int))), (11, I64 (((k : Nat) : Int)))] : Env) (I)
 refine W.sr ?_
 refine G.r (Runs.lss rfl rfl) ?_
 refine G.nt ?_
 refine W.seq ?_
 refine W.ite rfl (fun c12 => ?_) (fun c12 => ?_)
 ·refine W.skip ?_
  refine V.then ?_
  refine W.seq ?_
  refine W.block ?_
  refine W.sr ?_
  refine G.r (Runs.move rfl) ?_
  refine G.r (Runs.idx (α := Int) (xs := xs) Tryz.underlying22 ty3 rfl rfl (Sl.f hu) (by omega) (by omega)) ?_
  refine G.r (Runs.get (xs := xs) ty3 rfl (Sl.f hu) (by omega) (by omega)) ?_
  refine G.r (Runs.assign rfl) ?_
  refine G.r (Runs.assign rfl) ?_
  refine G.nt ?_
  refine W.seq ?_
  refine W.sr ?_
  refine G.r (Runs.move rfl) ?_
  refine G.r (Runs.move rfl) ?_
  refine G.r (Runs.lenT (α := Int) (xs := ys) Tryz.underlying22 rfl (Sl.f hv)) ?_
  refine G.r (Runs.geq rfl rfl) ?_
  refine G.nt ?_
  refine W.sub (L' := [(19, _), (6, _), (5, _), (0, _), (1, _), (9, _), (10, _), (11, _)]) (Sub.cons rfl (Sub.cons rfl (Sub.cons rfl (Sub.cons rfl (Sub.cons rfl (Sub.cons rfl (Sub.cons rfl (Sub.cons rfl Sub.nil)))))))) ?_
  refine W.ite rfl (fun c19 => ?_) (fun c19 => ?_)
  ·refine W.sr ?_
   refine G.r (Runs.assign rfl) ?_
   refine G.nt ?_
   refine W.ret ?_
   refine V.then_ret ?_
   refine V.block_ret ?_
   refine V.then_ret ?_
   refine V.then_ret ?_
   refine V.block_ret ?_
   refine V.then_ret ?_
   exact V.ret1 rfl rfl (I) Fit.m ⟨by rw [hc, cmpL_drop1 xs ys k (by omega) (.inl (by omega))], rfl⟩
  ·refine W.skip ?_
   refine V.then ?_
   refine W.sr ?_
   refine G.r (Runs.move rfl) ?_
   refine G.r (Runs.move rfl) ?_
   refine G.r (Runs.idx (α := Int) (xs := ys) Tryz.underlying22 ty3 rfl rfl (Sl.f hv) (by omega) (by omega)) ?_
   refine G.r (Runs.get (xs := ys) ty3 rfl (Sl.f hv) (by omega) (by omega)) ?_
   refine G.r (Runs.assign rfl) ?_
   refine G.nt ?_
   refine W.sr ?_
   refine G.r (Runs.move rfl) ?_
   refine G.r (Runs.move rfl) ?_
   refine G.e (Eff.call call121 rfl rfl (Compare_ok (at_ xs ((k : Nat) : Int)) (at_ ys ((k : Nat) : Int)))) ?_
   rintro _ _ ⟨_, _, ⟨rfl, rfl⟩, rfl, rfl⟩
   refine G.r (Runs.assign rfl) ?_
   refine G.nt ?_
   refine W.sub (L' := [(8, _), (0, _), (1, _), (9, _), (10, _), (11, _)]) (Sub.cons rfl (Sub.cons rfl (Sub.cons rfl (Sub.cons rfl (Sub.cons rfl (Sub.cons rfl Sub.nil)))))) ?_
   refine W.sr ?_
   refine G.r (Runs.move rfl) ?_
   refine G.r (Runs.neq rfl rfl) ?_
   refine G.nt ?_
   refine W.ite rfl (fun c28 => ?_) (fun c28 => ?_)
   ·refine W.sr ?_
    refine G.r (Runs.move rfl) ?_
    refine G.r (Runs.assign rfl) ?_
    refine G.nt ?_
    refine W.ret ?_
    refine V.block_ret ?_
    refine V.then_ret ?_
    refine V.then_ret ?_
    refine V.block_ret ?_
    refine V.then_ret ?_
    exact V.ret1 rfl rfl (I) Fit.m ⟨by rw [hc, cmpD_drop xs ys k (by omega) (by omega) c28], rfl⟩
   ·refine W.skip ?_
    refine V.block_normal ?_
    refine V.then ?_
    refine W.region ?_
    refine G.r (Runs.add rfl rfl (by unfold InR; omega)) ?_
    refine G.r (Runs.move rfl) ?_
    refine G.nil ?_
    exact V.next ((k + 1)) (show ((k + 1 : Nat) ≤ xs.length) ∧ (cmpL xs ys = cmpL (xs.drop (k + 1 : Nat)) (ys.drop (k + 1 : Nat))) from ⟨(by omega), (hc.trans (cmpL_drop xs ys k (by omega) (by omega) (cmpD_ne c28).1 (cmpD_ne c28).2))⟩) (show xs.length - (k + 1 : Nat) < xs.length - k from (by omega)) (Sub.cons rfl (Sub.cons rfl (Sub.cons rfl (Sub.cons rfl (Sub.cons lookO Sub.nil))))) (show Fit κ _ (I) from Fit.sub)
 ·refine W.exit ?_
  refine V.then_exit ?_
  refine V.then_exit ?_
  refine V.block_hit ?_
  refine V.then ?_
  refine W.seq ?_
  refine W.sr ?_
  refine G.r (Runs.move rfl) ?_
  refine G.r (Runs.lenT (α := Int) (xs := xs) Tryz.underlying22 rfl (Sl.f hu)) ?_
  refine G.r (Runs.move rfl) ?_
  refine G.r (Runs.lenT (α := Int) (xs := ys) Tryz.underlying22 rfl (Sl.f hv)) ?_
  refine G.r (Runs.lss rfl rfl) ?_
  refine G.nt ?_
  refine W.ite rfl (fun c35 => ?_) (fun c35 => ?_)
  ·refine W.sr ?_
   refine G.r (Runs.assign rfl) ?_
   refine G.nt ?_
   refine W.ret ?_
   refine V.then_ret ?_
   exact V.ret1 rfl rfl (I) Fit.m ⟨by rw [hc, cmpL_end xs ys k (by omega), if_pos (by omega)], rfl⟩
  ·refine W.skip ?_
   refine V.then ?_
   refine W.sr ?_
   refine G.r (Runs.assign rfl) ?_
   refine G.nt ?_
   refine W.ret ?_
   exact V.ret1 rfl rfl (I) Fit.m ⟨by rw [hc, cmpL_end xs ys k (by omega), if_neg (by omega)], rfl⟩

theorem NCmpD_ok {κ : Ctx} {I : List Item} {u v : Value} {xs ys : List Int} (hu : Sl κ I u xs) (hv : Sl κ I v ys) :
    CallS Tryz.prog κ 124 [u, v] I (fun r J => r = I64 (cmpL xs ys) ∧ I = J) := by
 refine CallS.enter (L := [(0, u), (1, v)]) Tryz.func124 rfl rfl rfl rfl ?_
 refine W.sr ?_
 refine G.r (Runs.assign rfl) ?_
 refine G.nt ?_
 refine W.sr ?_
 refine G.r (Runs.move rfl) ?_
 refine G.r (Runs.move rfl) ?_
 refine G.e (Eff.call call72 rfl rfl (CompareD_ok (Sl.f hu) (Sl.f hv))) ?_
 rintro _ _ ⟨_, _, ⟨rfl, rfl⟩, rfl, rfl⟩
 refine G.r (Runs.assign rfl) ?_
 refine G.nt ?_
 refine W.ret ?_
 exact V.ret1 rfl rfl (I) Fit.m ⟨rfl, rfl⟩

theorem CheckD_ok {κ : Ctx} {I : List Item} {nd : Int} {va : Value} {ars : List Pt} (hl : Sl κ I va ars) :
    CallS Tryz.prog κ 43 [.agg #[I64 (nd), va]] I (fun r J => r = I64 (checkD nd ars) ∧ I = J) := by
 refine CallS.pull hl.le fun hmax => ?_
 refine CallS.enter (L := [(0, .agg #[I64 (nd), va])]) Tryz.func43 rfl rfl rfl rfl ?_
 refine W.sr ?_
 refine G.e (Eff.box (cs := [_, _]) rfl rfl rfl) ?_
 rintro _ _ ⟨b1, rfl, rfl⟩
 refine G.r (Runs.assign rfl) ?_
 refine G.nt ?_
 refine W.seq ?_
 refine W.sr ?_
 refine G.r (Runs.fieldAddr fld54_0 rfl) ?_
 refine G.r (Runs.ld ty3) ?_
 refine G.r (Runs.lss rfl rfl) ?_
 refine G.r (Runs.move rfl) ?_
 refine G.split (d := 8) rfl (fun g8 => ?_) (fun g8 => ?_)
 ·refine G.po ?_
  refine G.po ?_
  refine G.po ?_
  refine G.r (Runs.pickt rfl rfl) ?_
  refine G.nt ?_
  refine W.yes rfl ?_
  refine W.sr ?_
  refine G.r (Runs.assign rfl) ?_
  refine G.nt ?_
  refine W.ret ?_
  refine V.then_ret ?_
  exact V.ret1 rfl rfl (I) Fit.m ⟨by rw [show checkD nd ars = 1 from (by unfold checkD; rw [if_pos (by omega)])], rfl⟩
 ·refine G.ro (Runs.fieldAddr fld54_0 rfl) ?_
  refine G.ro (Runs.ld ty3) ?_
  refine G.ro (Runs.gtr rfl rfl) ?_
  refine G.r (Runs.pickf rfl rfl) ?_
  refine G.nt ?_
  refine W.ite rfl (fun c12 => ?_) (fun c12 => ?_)
  ·refine W.sr ?_
   refine G.r (Runs.assign rfl) ?_
   refine G.nt ?_
   refine W.ret ?_
   refine V.then_ret ?_
   exact V.ret1 rfl rfl (I) Fit.m ⟨by rw [show checkD nd ars = 1 from (by unfold checkD; rw [if_pos (by omega)])], rfl⟩
  ·refine W.skip ?_
   refine V.then ?_
   refine W.seq ?_
   refine W.sr ?_
   refine G.r (Runs.fieldAddr fld54_1 rfl) ?_
   refine G.r (Runs.ld ty33) ?_
   refine G.r (Runs.lenT (α := Pt) (xs := ars) Tryz.underlying33 rfl (Sl.f hl)) ?_
   refine G.r (Runs.move rfl) ?_
   refine G.nt ?_
   refine W.sub (L' := [(16, _), (15, _), (14, _), (1, _)]) (Sub.cons rfl (Sub.cons rfl (Sub.cons rfl (Sub.cons rfl Sub.nil)))) ?_
   refine W.block ?_
   refine W.loop (σ := Nat) (fun s => ([(1, .pointer (some ⟨b1, 0, none⟩)), (14, va), (15, I64 (((ars.length : Nat) : Int))), (16, I64 (((s : Nat) : Int)))] : Env)) (fun s => blk b1 [I64 (nd), va] 54 :: I) (fun s => (s ≤ ars.length) ∧ (checkD nd ars = scanL (badD nd) Pt.lt (prevAt ars s) (ars.drop s))) (fun s => ars.length - s) (0) (show ((0 : Nat) ≤ ars.length) ∧ (checkD nd ars = scanL (badD nd) Pt.lt (prevAt ars (0 : Nat)) (ars.drop (0 : Nat))) from ⟨(by omega), (by unfold checkD; rw [if_neg (by omega)]; rfl)⟩) (Sub.cons rfl (Sub.cons rfl (Sub.cons rfl (Sub.cons lookO Sub.nil)))) (show Fit κ _ (blk b1 [I64 (nd), va] 54 :: I) from Fit.sub) ?_
   rintro k hp
   obtain ⟨hk, hs⟩ : (k ≤ ars.length) ∧ (checkD nd ars = scanL (badD nd) Pt.lt (prevAt ars k) (ars.drop k)) := hp
   show W Tryz.prog κ 45 _ _ ([(1, .pointer (some ⟨b1, 0, none⟩)), (14, va), (15, I64 (((ars.length : Nat) : Int))), (16, I64 (((k : Nat) : Int)))] : Env) (blk b1 [I64 (nd), va] 54 :: I)
   refine W.sr ?_
   refine G.r (Runs.lss rfl rfl) ?_
   refine G.nt ?_
   refine W.seq ?_
   refine W.ite rfl (fun c17 => ?_) (fun c17 => ?_)
   ·refine W.skip ?_
    refine V.then ?_
    refine W.seq ?_
    refine W.block ?_
    refine W.sr ?_
    refine G.r (Runs.move rfl) ?_
    refine G.r (Runs.idx (α := Pt) (xs := ars) Tryz.underlying33 ty32 rfl rfl (Sl.f hl) (by omega) (by omega)) ?_
    refine G.r (Runs.gets (α := Pt) (xs := ars) ty32 rfl (Sl.f hl) (by omega) (by omega)) ?_
    refine G.e (Eff.alloc ty32 rfl) ?_
    rintro _ _ ⟨b2, rfl, rfl⟩
    refine G.r (Runs.assign rfl) ?_
    refine G.e (Eff.st (cs := [_, _]) (vs := [_, _]) (cs' := [_, _]) ty32) ?_
    rintro _ _ ⟨rfl, rfl⟩
    refine G.nt ?_
    refine W.block ?_
    refine W.sr ?_
    refine G.r (Runs.fieldAddr fld54_0 rfl) ?_
    refine G.r (Runs.ld ty3) ?_
    refine G.r (Runs.idxArr Tryz.underlying32 ty2 rfl rfl (by omega) (by omega)) ?_
    refine G.r (Runs.ld ty3) ?_
    refine G.r (Runs.idxArr Tryz.underlying32 ty2 rfl rfl (by omega) (by omega)) ?_
    refine G.r (Runs.ld ty3) ?_
    refine G.e (Eff.call call68 rfl rfl (Ends_ok nd ((at_ ars ((k : Nat) : Int)).u) ((at_ ars ((k : Nat) : Int)).v))) ?_
    rintro _ _ ⟨_, _, ⟨rfl, rfl⟩, rfl, rfl⟩
    refine G.r (Runs.notd rfl) ?_
    refine G.r (Runs.assign rfl) ?_
    refine G.nt ?_
    refine W.sub (L' := [(21, _), (3, _), (4, _), (1, _), (14, _), (15, _), (16, _)]) (Sub.cons rfl (Sub.cons rfl (Sub.cons rfl (Sub.cons rfl (Sub.cons rfl (Sub.cons rfl (Sub.cons rfl Sub.nil))))))) ?_
    refine W.ite rfl (fun c21 => ?_) (fun c21 => ?_)
    ·refine W.sr ?_
     refine G.r (Runs.assign rfl) ?_
     refine G.nt ?_
     refine W.ret ?_
     refine V.block_ret ?_
     refine V.block_ret ?_
     refine V.then_ret ?_
     refine V.then_ret ?_
     refine V.block_ret ?_
     refine V.then_ret ?_
     exact V.ret1 rfl rfl (I) Fit.m ⟨by rw [show checkD nd ars = 6 from (hs.trans ((scanL_bad (by omega) (by unfold badD; rw [if_neg c21]; decide)).trans (by unfold badD; rw [if_neg c21])))], rfl⟩
    ·refine W.seq ?_
     refine W.drawn mixed ?_
     refine A.hold (blk b2 [I64 ((at_ ars ((k : Nat) : Int)).u), I64 ((at_ ars ((k : Nat) : Int)).v)] 32 :: blk b1 [I64 (nd), va] 54 :: I) 14 ?_
     refine D.r 0 rfl (Runs.move rfl) ?_ (hJ := Fit.sub)
     refine D.r 1 rfl (Runs.gtr rfl rfl) ?_ (hJ := Fit.sub)
     refine D.r 2 rfl (Runs.move rfl) ?_ (hJ := Fit.sub)
     refine D.split (d := 33) rfl (fun g33 => ?_) (fun g33 => ?_)
     ·refine D.read 3 rfl (by kernel_rfl) (by kernel_rfl) (by kernel_rfl) rfl (by kernel_rfl) (fun _ _ _ _ h => h) (Wanted.on rfl rfl rfl) rfl rfl Fit.sub (Runs.fieldAddr fld54_1 rfl) ?_
      refine D.read 4 rfl (by kernel_rfl) (by kernel_rfl) (by kernel_rfl) rfl (by kernel_rfl) (fun _ _ _ _ h => h) (Wanted.on rfl rfl rfl) rfl rfl Fit.sub (Runs.ld ty33) ?_
      refine D.read 5 rfl (by kernel_rfl) (by kernel_rfl) (by kernel_rfl) rfl (by kernel_rfl) (fun _ _ _ _ h => h) (Wanted.on rfl rfl rfl) rfl rfl Fit.sub (Runs.move rfl) ?_
      refine D.read 6 rfl (by kernel_rfl) (by kernel_rfl) (by kernel_rfl) rfl (by kernel_rfl) (fun _ _ _ _ h => h) (Wanted.on rfl rfl rfl) rfl rfl Fit.sub (Runs.sub rfl rfl (by unfold InR; omega)) ?_
      refine D.read 7 rfl (by kernel_rfl) (by kernel_rfl) (by kernel_rfl) rfl (by kernel_rfl) (fun _ _ _ _ h => h) (Wanted.on rfl rfl rfl) rfl rfl Fit.sub (Runs.idx (α := Pt) (xs := ars) Tryz.underlying33 ty32 rfl rfl (Sl.f hl) (by omega) (by omega)) ?_
      refine D.read 8 rfl (by kernel_rfl) (by kernel_rfl) (by kernel_rfl) rfl (by kernel_rfl) (fun _ _ _ _ h => h) (Wanted.on rfl rfl rfl) rfl rfl Fit.sub (Runs.sliceEl (α := Pt) (xs := ars) (n := 2) Tryz.underlying32 ty3 rfl (Sl.f hl) (by omega) (by decide)) ?_
      refine D.read 9 rfl (by kernel_rfl) (by kernel_rfl) (by kernel_rfl) rfl (by kernel_rfl) (fun _ _ _ _ h => h) (Wanted.on rfl rfl rfl) rfl rfl Fit.sub (Runs.sliceBlk Tryz.underlying32 ty3 rfl (by decide)) ?_
      refine D.step (rs := [10]) (by kernel_rfl) rfl rfl (all1 ?_)
      refine Step.eff rfl (Wanted.on rfl rfl rfl) (Eff.call call72 rfl rfl (CompareD_ok (Sl.el (α := Pt) (ys := arL (at_ ars (((k : Nat) : Int) - 1))) (Sl.f hl) (by omega) (by omega) rfl rfl rfl (by decide)) (Sl.arr (xs := arL (at_ ars ((k : Nat) : Int))) (BlkRd.of (by repeat (first | exact List.mem_cons_self | apply List.mem_cons_of_mem))) rfl rfl (by decide)))) ?_
      rintro _ _ ⟨_, _, ⟨rfl, rfl⟩, rfl, rfl⟩
      refine ⟨Fit.sub, ?_⟩
      refine D.read 11 rfl (by kernel_rfl) (by kernel_rfl) (by kernel_rfl) rfl (by kernel_rfl) (fun _ _ _ _ h => h) (Wanted.on rfl rfl rfl) rfl rfl Fit.sub (Runs.geq rfl rfl) ?_
      refine D.r 12 rfl (Runs.pickt rfl rfl) ?_ (hJ := Fit.sub)
      refine D.r 13 rfl (Runs.assign rfl) ?_ (hJ := Fit.sub)
      refine D.done (by kernel_rfl) ?_
      refine V.then ?_
      refine W.sub (L' := [(30, _), (1, _), (14, _), (15, _), (16, _)]) (Sub.cons rfl (Sub.cons rfl (Sub.cons rfl (Sub.cons rfl (Sub.cons rfl Sub.nil))))) ?_
      refine W.ite rfl (fun c30 => ?_) (fun c30 => ?_)
      ·refine W.sr ?_
       refine G.r (Runs.assign rfl) ?_
       refine G.nt ?_
       refine W.ret ?_
       refine V.block_ret ?_
       refine V.block_ret ?_
       refine V.then_ret ?_
       refine V.then_ret ?_
       refine V.block_ret ?_
       refine V.then_ret ?_
       exact V.ret1 rfl rfl (I) Fit.m ⟨by rw [show checkD nd ars = 5 from (hs.trans (scanL_order (by omega) (badD_zero.2 (Classical.not_not.1 c21)) (by omega) (fun h => by have h1 := (Pt.cmp_lt _ _).2 h; have h2 := c30; rw [cmp_arL] at h2; omega)))], rfl⟩
      ·refine W.skip ?_
       refine V.block_normal ?_
       refine V.block_normal ?_
       refine V.then ?_
       refine W.region ?_
       refine G.r (Runs.add rfl rfl (by unfold InR; omega)) ?_
       refine G.r (Runs.move rfl) ?_
       refine G.nil ?_
       exact V.next ((k + 1)) (show ((k + 1 : Nat) ≤ ars.length) ∧ (checkD nd ars = scanL (badD nd) Pt.lt (prevAt ars (k + 1 : Nat)) (ars.drop (k + 1 : Nat))) from ⟨(by omega), (hs.trans (scanL_step (by omega) (badD_zero.2 (Classical.not_not.1 c21)) (fun h0 => by first | omega | (have h2 := c30; rw [cmp_arL] at h2; exact (Pt.cmp_lt _ _).1 (by omega)))))⟩) (show ars.length - (k + 1 : Nat) < ars.length - k from (by omega)) (Sub.cons rfl (Sub.cons rfl (Sub.cons rfl (Sub.cons lookO Sub.nil)))) (show Fit κ _ (blk b1 [I64 (nd), va] 54 :: I) from Fit.sub)
     ·refine D.pass 3 rfl (by kernel_rfl) (by kernel_rfl) (by kernel_rfl) rfl (by kernel_rfl) (fun _ _ _ _ h => h) (Unwanted.off rfl rfl rfl) rfl rfl Fit.sub ?_
      refine D.pass 4 rfl (by kernel_rfl) (by kernel_rfl) (by kernel_rfl) rfl (by kernel_rfl) (fun _ _ _ _ h => h) (Unwanted.off rfl rfl rfl) rfl rfl Fit.sub ?_
      refine D.pass 5 rfl (by kernel_rfl) (by kernel_rfl) (by kernel_rfl) rfl (by kernel_rfl) (fun _ _ _ _ h => h) (Unwanted.off rfl rfl rfl) rfl rfl Fit.sub ?_
      refine D.pass 6 rfl (by kernel_rfl) (by kernel_rfl) (by kernel_rfl) rfl (by kernel_rfl) (fun _ _ _ _ h => h) (Unwanted.off rfl rfl rfl) rfl rfl Fit.sub ?_
      refine D.pass 7 rfl (by kernel_rfl) (by kernel_rfl) (by kernel_rfl) rfl (by kernel_rfl) (fun _ _ _ _ h => h) (Unwanted.off rfl rfl rfl) rfl rfl Fit.sub ?_
      refine D.pass 8 rfl (by kernel_rfl) (by kernel_rfl) (by kernel_rfl) rfl (by kernel_rfl) (fun _ _ _ _ h => h) (Unwanted.off rfl rfl rfl) rfl rfl Fit.sub ?_
      refine D.pass 9 rfl (by kernel_rfl) (by kernel_rfl) (by kernel_rfl) rfl (by kernel_rfl) (fun _ _ _ _ h => h) (Unwanted.off rfl rfl rfl) rfl rfl Fit.sub ?_
      refine D.pass 10 rfl (by kernel_rfl) (by kernel_rfl) (by kernel_rfl) rfl (by kernel_rfl) (fun _ _ _ _ h => h) (Unwanted.off rfl rfl rfl) rfl rfl Fit.sub ?_
      refine D.pass 11 rfl (by kernel_rfl) (by kernel_rfl) (by kernel_rfl) rfl (by kernel_rfl) (fun _ _ _ _ h => h) (Unwanted.off rfl rfl rfl) rfl rfl Fit.sub ?_
      refine D.r 12 rfl (Runs.pickf rfl rfl) ?_ (hJ := Fit.sub)
      refine D.r 13 rfl (Runs.assign rfl) ?_ (hJ := Fit.sub)
      refine D.done (by kernel_rfl) ?_
      refine V.then ?_
      refine W.sub (L' := [(30, _), (1, _), (14, _), (15, _), (16, _)]) (Sub.cons rfl (Sub.cons rfl (Sub.cons rfl (Sub.cons rfl (Sub.cons rfl Sub.nil))))) ?_
      refine W.no rfl ?_
      refine W.skip ?_
      refine V.block_normal ?_
      refine V.block_normal ?_
      refine V.then ?_
      refine W.region ?_
      refine G.r (Runs.add rfl rfl (by unfold InR; omega)) ?_
      refine G.r (Runs.move rfl) ?_
      refine G.nil ?_
      exact V.next ((k + 1)) (show ((k + 1 : Nat) ≤ ars.length) ∧ (checkD nd ars = scanL (badD nd) Pt.lt (prevAt ars (k + 1 : Nat)) (ars.drop (k + 1 : Nat))) from ⟨(by omega), (hs.trans (scanL_step (by omega) (badD_zero.2 (Classical.not_not.1 c21)) (fun h0 => by first | omega | (have h2 := c30; rw [cmp_arL] at h2; exact (Pt.cmp_lt _ _).1 (by omega)))))⟩) (show ars.length - (k + 1 : Nat) < ars.length - k from (by omega)) (Sub.cons rfl (Sub.cons rfl (Sub.cons rfl (Sub.cons lookO Sub.nil)))) (show Fit κ _ (blk b1 [I64 (nd), va] 54 :: I) from Fit.sub)
   ·refine W.exit ?_
    refine V.then_exit ?_
    refine V.then_exit ?_
    refine V.block_hit ?_
    refine V.then ?_
    refine W.sr ?_
    refine G.r (Runs.assign rfl) ?_
    refine G.nt ?_
    refine W.ret ?_
    exact V.ret1 rfl rfl (I) Fit.m ⟨by rw [show checkD nd ars = 0 from (hs.trans (scanL_end (by omega)))], rfl⟩

theorem Outs_ok {κ : Ctx} {I : List Item} {nd : Int} {va : Value} {ars : List Pt} (hl : Sl κ I va ars) :
    CallS Tryz.prog κ 74 [.agg #[I64 (nd), va]] I (fun r J => ∃ a c, r = .slice a (outB nd ars).length c ∧ J = vc 86 (.slice a (outB nd ars).length c) (outB nd ars) :: I) := by
 refine CallS.pull hl.le fun hmax => ?_
 refine CallS.enter (L := [(0, .agg #[I64 (nd), va])]) Tryz.func74 rfl rfl rfl rfl ?_
 refine W.sr ?_
 refine G.e (Eff.box (cs := [_, _]) rfl rfl rfl) ?_
 rintro _ _ ⟨b1, rfl, rfl⟩
 refine G.r (Runs.assign rfl) ?_
 refine G.nt ?_
 refine W.sr ?_
 refine G.r (Runs.fieldAddr fld54_0 rfl) ?_
 refine G.r (Runs.ld ty3) ?_
 refine G.r (Runs.max rfl rfl) ?_
 refine G.r (Runs.min rfl rfl) ?_
 refine G.e (Eff.make (α := (BitVec 64)) (n := (min (max nd 0) 64).toNat) Tryz.underlying104 ty86 rfl rfl rfl (by omega) (by omega) (by decide) rfl) ?_
 rintro _ _ ⟨ad2, cp3, rfl, rfl⟩
 have hrep : (List.replicate (min (max nd 0) 64).toNat (default : (BitVec 64))).length = (min (max nd 0) 64).toNat := List.length_replicate
 refine G.r (Runs.assign rfl) ?_
 refine G.nt ?_
 refine W.seq ?_
 refine W.sr ?_
 refine G.r (Runs.fieldAddr fld54_1 rfl) ?_
 refine G.r (Runs.ld ty33) ?_
 refine G.r (Runs.lenT (α := Pt) (xs := ars) Tryz.underlying33 rfl (Sl.f hl)) ?_
 refine G.r (Runs.move rfl) ?_
 refine G.nt ?_
 refine W.block ?_
 refine W.loop (σ := Nat × (List (BitVec 64))) (fun s => ([(3, .slice ad2 (List.replicate ((min (max nd 0) 64).toNat) (default : (BitVec 64))).length cp3), (12, va), (13, I64 (((ars.length : Nat) : Int))), (14, I64 (((s.1 : Nat) : Int)))] : Env)) (fun s => vc 86 (.slice ad2 (List.replicate ((min (max nd 0) 64).toNat) (default : (BitVec 64))).length cp3) (s.2) :: blk b1 [I64 (nd), va] 54 :: I) (fun s => (s.1 ≤ ars.length) ∧ (s.2 = outB nd (ars.take s.1)) ∧ (s.2.length = (min (max nd 0) 64).toNat)) (fun s => ars.length - s.1) (0, List.replicate (min (max nd 0) 64).toNat (default : (BitVec 64))) (show ((0 : Nat) ≤ ars.length) ∧ ((List.replicate (min (max nd 0) 64).toNat (default : (BitVec 64)) : List (BitVec 64)) = outB nd (ars.take (0 : Nat))) ∧ ((List.replicate (min (max nd 0) 64).toNat (default : (BitVec 64)) : List (BitVec 64)).length = (min (max nd 0) 64).toNat) from ⟨(by omega), rfl, (by simp)⟩) (Sub.cons rfl (Sub.cons rfl (Sub.cons rfl (Sub.cons lookO Sub.nil)))) (show Fit κ _ (vc 86 (.slice ad2 (List.replicate ((min (max nd 0) 64).toNat) (default : (BitVec 64))).length cp3) ((List.replicate (min (max nd 0) 64).toNat (default : (BitVec 64)))) :: blk b1 [I64 (nd), va] 54 :: I) from Fit.sub) ?_
 rintro ⟨k, rows⟩ hp
 obtain ⟨hk, hr, hrl⟩ : (k ≤ ars.length) ∧ (rows = outB nd (ars.take k)) ∧ (rows.length = (min (max nd 0) 64).toNat) := hp
 show W Tryz.prog κ 37 _ _ ([(3, .slice ad2 (List.replicate ((min (max nd 0) 64).toNat) (default : (BitVec 64))).length cp3), (12, va), (13, I64 (((ars.length : Nat) : Int))), (14, I64 (((k : Nat) : Int)))] : Env) (vc 86 (.slice ad2 (List.replicate ((min (max nd 0) 64).toNat) (default : (BitVec 64))).length cp3) (rows) :: blk b1 [I64 (nd), va] 54 :: I)
 refine W.sr ?_
 refine G.r (Runs.lss rfl rfl) ?_
 refine G.nt ?_
 refine W.seq ?_
 refine W.ite rfl (fun c15 => ?_) (fun c15 => ?_)
 ·refine W.skip ?_
  refine V.then ?_
  refine W.seq ?_
  refine W.block ?_
  refine W.sr ?_
  refine G.r (Runs.idx (α := Pt) (xs := ars) Tryz.underlying33 ty32 rfl rfl (Sl.f hl) (by first | omega | (unfold endsP at c24; omega)) (by first | omega | (unfold endsP at c24; simp only [List.length_set]; omega) | (unfold endsP at c24; omega))) ?_
  refine G.r (Runs.gets (α := Pt) (xs := ars) ty32 rfl (Sl.f hl) (by first | omega | (unfold endsP at c24; omega)) (by first | omega | (unfold endsP at c24; simp only [List.length_set]; omega) | (unfold endsP at c24; omega))) ?_
  refine G.e (Eff.alloc ty32 rfl) ?_
  rintro _ _ ⟨b4, rfl, rfl⟩
  refine G.e (Eff.st (cs := [_, _]) (vs := [_, _]) (cs' := [_, _]) ty32) ?_
  rintro _ _ ⟨rfl, rfl⟩
  refine G.nt ?_
  refine W.sr ?_
  refine G.r (Runs.move rfl) ?_
  refine G.r (Runs.lens Tryz.underlying104 rfl) ?_
  refine G.r (Runs.idxArr Tryz.underlying32 ty2 rfl rfl (by omega) (by omega)) ?_
  refine G.r (Runs.ld ty3) ?_
  refine G.r (Runs.idxArr Tryz.underlying32 ty2 rfl rfl (by omega) (by omega)) ?_
  refine G.r (Runs.ld ty3) ?_
  refine G.e (Eff.call call68 rfl rfl (Ends_ok (((List.replicate ((min (max nd 0) 64).toNat) (default : (BitVec 64))).length : Nat) : Int) ((at_ ars ((k : Nat) : Int)).u) ((at_ ars ((k : Nat) : Int)).v))) ?_
  rintro _ _ ⟨_, _, ⟨rfl, rfl⟩, rfl, rfl⟩
  refine G.nt ?_
  refine W.sub (L' := [(24, _), (5, _), (3, _), (12, _), (13, _), (14, _)]) (Sub.cons rfl (Sub.cons rfl (Sub.cons rfl (Sub.cons rfl (Sub.cons rfl (Sub.cons rfl Sub.nil)))))) ?_
  refine W.ite rfl (fun c24 => ?_) (fun c24 => ?_)
  ·refine W.drawn mixed ?_
   refine A.hold (blk b4 [I64 ((at_ ars ((k : Nat) : Int)).u), I64 ((at_ ars ((k : Nat) : Int)).v)] 32 :: blk b1 [I64 (nd), va] 54 :: I) 10 ?_
   refine D.r 0 rfl (Runs.move rfl) ?_ (hJ := Fit.sub)
   refine D.r 1 rfl (Runs.idxArr Tryz.underlying32 ty2 rfl rfl (by omega) (by omega)) ?_ (hJ := Fit.sub)
   refine D.r 2 rfl (Runs.ld ty3) ?_ (hJ := Fit.sub)
   refine D.r 5 rfl (Runs.idxArr Tryz.underlying32 ty2 rfl rfl (by omega) (by omega)) ?_ (hJ := Fit.sub)
   refine D.r 6 rfl (Runs.ld ty3) ?_ (hJ := Fit.sub)
   refine D.step (rs := [3, 7]) (by kernel_rfl) rfl rfl (all2 ?_ (all1 ?_))
   ·refine Step.read rfl (Wanted.plain rfl) rfl rfl (Runs.idx (α := (BitVec 64)) (xs := rows) Tryz.underlying104 ty86 rfl rfl Sl.o (by first | omega | (unfold endsP at c24; omega)) (by first | omega | (unfold endsP at c24; simp only [List.length_set]; omega) | (unfold endsP at c24; omega))) Fit.sub ?_
    refine D.step (rs := [4, 7]) (by kernel_rfl) rfl rfl (all2 ?_ (all1 ?_))
    ·refine Step.read rfl (Wanted.plain rfl) rfl rfl (Runs.getf0 (α := (BitVec 64)) (xs := rows) (u := U64 ((at_ rows ((at_ ars ((k : Nat) : Int)).u)))) ty86 rfl Sl.o (by first | omega | (unfold endsP at c24; omega)) (by first | omega | (unfold endsP at c24; simp only [List.length_set]; omega) | (unfold endsP at c24; omega)) rfl) Fit.sub ?_
     refine D.step (rs := [7]) (by kernel_rfl) rfl rfl (all1 ?_)
     refine Step.eff rfl (Wanted.plain rfl) (Eff.call call75 rfl rfl (Bit_ok ((at_ ars ((k : Nat) : Int)).v))) ?_
     rintro _ _ ⟨_, _, ⟨rfl, rfl⟩, rfl, rfl⟩
     refine ⟨Fit.sub, ?_⟩
     refine D.r 8 rfl (Runs.orB (a := (at_ rows ((at_ ars ((k : Nat) : Int)).u))) (b := bitB ((at_ ars ((k : Nat) : Int)).v)) rfl rfl) ?_ (hJ := Fit.sub)
     refine D.step (rs := [9]) (by kernel_rfl) rfl rfl (all1 ?_)
     refine Step.read rfl (Wanted.plain rfl) rfl rfl (Runs.idx (α := (BitVec 64)) (xs := rows) Tryz.underlying104 ty86 rfl rfl Sl.o (by first | omega | (unfold endsP at c24; omega)) (by first | omega | (unfold endsP at c24; simp only [List.length_set]; omega) | (unfold endsP at c24; omega))) Fit.sub ?_
     refine D.stop (by kernel_rfl) ?_
     refine A.eff (i := 10) (by kernel_rfl) rfl (Wanted.plain rfl) (Eff.set (α := (BitVec 64)) (xs := rows) (e := 86) (new := (at_ rows ((at_ ars ((k : Nat) : Int)).u)) ||| (bitB ((at_ ars ((k : Nat) : Int)).v))) ty86 rfl rfl rfl (by first | omega | (unfold endsP at c24; omega)) (by first | omega | (unfold endsP at c24; simp only [List.length_set]; omega) | (unfold endsP at c24; omega)) (by repeat (first | exact At.head _ _ _ | apply At.tail))) ?_
     rintro _ _ ⟨rfl, rfl⟩
     refine A.done (by kernel_rfl) ?_
     refine V.block_normal ?_
     refine V.then ?_
     refine W.sub (L' := [(3, _), (12, _), (13, _), (14, _)]) (Sub.cons rfl (Sub.cons rfl (Sub.cons rfl (Sub.cons rfl Sub.nil)))) ?_
     refine W.region ?_
     refine G.r (Runs.add rfl rfl (by unfold InR; omega)) ?_
     refine G.r (Runs.move rfl) ?_
     refine G.nil ?_
     exact V.next ((k + 1), (List.set rows ((at_ ars ((k : Nat) : Int)).u).toNat ((at_ rows ((at_ ars ((k : Nat) : Int)).u)) ||| (bitB ((at_ ars ((k : Nat) : Int)).v))))) (show ((k + 1 : Nat) ≤ ars.length) ∧ ((List.set rows ((at_ ars ((k : Nat) : Int)).u).toNat ((at_ rows ((at_ ars ((k : Nat) : Int)).u)) ||| (bitB ((at_ ars ((k : Nat) : Int)).v))) : List (BitVec 64)) = outB nd (ars.take (k + 1 : Nat))) ∧ ((List.set rows ((at_ ars ((k : Nat) : Int)).u).toNat ((at_ rows ((at_ ars ((k : Nat) : Int)).u)) ||| (bitB ((at_ ars ((k : Nat) : Int)).v))) : List (BitVec 64)).length = (min (max nd 0) 64).toNat) from ⟨(by omega), (by rw [outB_take (by omega), ← hr]; unfold addO; rw [hrl, ← hrep]; first | rw [if_pos c24] | rw [if_neg c24]), (by first | exact hrl | (rw [List.length_set]; exact hrl))⟩) (show ars.length - (k + 1 : Nat) < ars.length - k from (by omega)) (Sub.cons rfl (Sub.cons rfl (Sub.cons rfl (Sub.cons lookO Sub.nil)))) (show Fit κ _ (vc 86 (.slice ad2 (List.replicate ((min (max nd 0) 64).toNat) (default : (BitVec 64))).length cp3) ((List.set rows ((at_ ars ((k : Nat) : Int)).u).toNat ((at_ rows ((at_ ars ((k : Nat) : Int)).u)) ||| (bitB ((at_ ars ((k : Nat) : Int)).v))))) :: blk b1 [I64 (nd), va] 54 :: I) from Fit.sub)
    ·refine Step.eff rfl (Wanted.plain rfl) (Eff.call call75 rfl rfl (Bit_ok ((at_ ars ((k : Nat) : Int)).v))) ?_
     rintro _ _ ⟨_, _, ⟨rfl, rfl⟩, rfl, rfl⟩
     refine ⟨Fit.sub, ?_⟩
     refine D.step (rs := [4]) (by kernel_rfl) rfl rfl (all1 ?_)
     refine Step.read rfl (Wanted.plain rfl) rfl rfl (Runs.getf0 (α := (BitVec 64)) (xs := rows) (u := U64 ((at_ rows ((at_ ars ((k : Nat) : Int)).u)))) ty86 rfl Sl.o (by first | omega | (unfold endsP at c24; omega)) (by first | omega | (unfold endsP at c24; simp only [List.length_set]; omega) | (unfold endsP at c24; omega)) rfl) Fit.sub ?_
     refine D.r 8 rfl (Runs.orB (a := (at_ rows ((at_ ars ((k : Nat) : Int)).u))) (b := bitB ((at_ ars ((k : Nat) : Int)).v)) rfl rfl) ?_ (hJ := Fit.sub)
     refine D.step (rs := [9]) (by kernel_rfl) rfl rfl (all1 ?_)
     refine Step.read rfl (Wanted.plain rfl) rfl rfl (Runs.idx (α := (BitVec 64)) (xs := rows) Tryz.underlying104 ty86 rfl rfl Sl.o (by first | omega | (unfold endsP at c24; omega)) (by first | omega | (unfold endsP at c24; simp only [List.length_set]; omega) | (unfold endsP at c24; omega))) Fit.sub ?_
     refine D.stop (by kernel_rfl) ?_
     refine A.eff (i := 10) (by kernel_rfl) rfl (Wanted.plain rfl) (Eff.set (α := (BitVec 64)) (xs := rows) (e := 86) (new := (at_ rows ((at_ ars ((k : Nat) : Int)).u)) ||| (bitB ((at_ ars ((k : Nat) : Int)).v))) ty86 rfl rfl rfl (by first | omega | (unfold endsP at c24; omega)) (by first | omega | (unfold endsP at c24; simp only [List.length_set]; omega) | (unfold endsP at c24; omega)) (by repeat (first | exact At.head _ _ _ | apply At.tail))) ?_
     rintro _ _ ⟨rfl, rfl⟩
     refine A.done (by kernel_rfl) ?_
     refine V.block_normal ?_
     refine V.then ?_
     refine W.sub (L' := [(3, _), (12, _), (13, _), (14, _)]) (Sub.cons rfl (Sub.cons rfl (Sub.cons rfl (Sub.cons rfl Sub.nil)))) ?_
     refine W.region ?_
     refine G.r (Runs.add rfl rfl (by unfold InR; omega)) ?_
     refine G.r (Runs.move rfl) ?_
     refine G.nil ?_
     exact V.next ((k + 1), (List.set rows ((at_ ars ((k : Nat) : Int)).u).toNat ((at_ rows ((at_ ars ((k : Nat) : Int)).u)) ||| (bitB ((at_ ars ((k : Nat) : Int)).v))))) (show ((k + 1 : Nat) ≤ ars.length) ∧ ((List.set rows ((at_ ars ((k : Nat) : Int)).u).toNat ((at_ rows ((at_ ars ((k : Nat) : Int)).u)) ||| (bitB ((at_ ars ((k : Nat) : Int)).v))) : List (BitVec 64)) = outB nd (ars.take (k + 1 : Nat))) ∧ ((List.set rows ((at_ ars ((k : Nat) : Int)).u).toNat ((at_ rows ((at_ ars ((k : Nat) : Int)).u)) ||| (bitB ((at_ ars ((k : Nat) : Int)).v))) : List (BitVec 64)).length = (min (max nd 0) 64).toNat) from ⟨(by omega), (by rw [outB_take (by omega), ← hr]; unfold addO; rw [hrl, ← hrep]; first | rw [if_pos c24] | rw [if_neg c24]), (by first | exact hrl | (rw [List.length_set]; exact hrl))⟩) (show ars.length - (k + 1 : Nat) < ars.length - k from (by omega)) (Sub.cons rfl (Sub.cons rfl (Sub.cons rfl (Sub.cons lookO Sub.nil)))) (show Fit κ _ (vc 86 (.slice ad2 (List.replicate ((min (max nd 0) 64).toNat) (default : (BitVec 64))).length cp3) ((List.set rows ((at_ ars ((k : Nat) : Int)).u).toNat ((at_ rows ((at_ ars ((k : Nat) : Int)).u)) ||| (bitB ((at_ ars ((k : Nat) : Int)).v))))) :: blk b1 [I64 (nd), va] 54 :: I) from Fit.sub)
   ·refine Step.eff rfl (Wanted.plain rfl) (Eff.call call75 rfl rfl (Bit_ok ((at_ ars ((k : Nat) : Int)).v))) ?_
    rintro _ _ ⟨_, _, ⟨rfl, rfl⟩, rfl, rfl⟩
    refine ⟨Fit.sub, ?_⟩
    refine D.step (rs := [3]) (by kernel_rfl) rfl rfl (all1 ?_)
    refine Step.read rfl (Wanted.plain rfl) rfl rfl (Runs.idx (α := (BitVec 64)) (xs := rows) Tryz.underlying104 ty86 rfl rfl Sl.o (by first | omega | (unfold endsP at c24; omega)) (by first | omega | (unfold endsP at c24; simp only [List.length_set]; omega) | (unfold endsP at c24; omega))) Fit.sub ?_
    refine D.step (rs := [4]) (by kernel_rfl) rfl rfl (all1 ?_)
    refine Step.read rfl (Wanted.plain rfl) rfl rfl (Runs.getf0 (α := (BitVec 64)) (xs := rows) (u := U64 ((at_ rows ((at_ ars ((k : Nat) : Int)).u)))) ty86 rfl Sl.o (by first | omega | (unfold endsP at c24; omega)) (by first | omega | (unfold endsP at c24; simp only [List.length_set]; omega) | (unfold endsP at c24; omega)) rfl) Fit.sub ?_
    refine D.r 8 rfl (Runs.orB (a := (at_ rows ((at_ ars ((k : Nat) : Int)).u))) (b := bitB ((at_ ars ((k : Nat) : Int)).v)) rfl rfl) ?_ (hJ := Fit.sub)
    refine D.step (rs := [9]) (by kernel_rfl) rfl rfl (all1 ?_)
    refine Step.read rfl (Wanted.plain rfl) rfl rfl (Runs.idx (α := (BitVec 64)) (xs := rows) Tryz.underlying104 ty86 rfl rfl Sl.o (by first | omega | (unfold endsP at c24; omega)) (by first | omega | (unfold endsP at c24; simp only [List.length_set]; omega) | (unfold endsP at c24; omega))) Fit.sub ?_
    refine D.stop (by kernel_rfl) ?_
    refine A.eff (i := 10) (by kernel_rfl) rfl (Wanted.plain rfl) (Eff.set (α := (BitVec 64)) (xs := rows) (e := 86) (new := (at_ rows ((at_ ars ((k : Nat) : Int)).u)) ||| (bitB ((at_ ars ((k : Nat) : Int)).v))) ty86 rfl rfl rfl (by first | omega | (unfold endsP at c24; omega)) (by first | omega | (unfold endsP at c24; simp only [List.length_set]; omega) | (unfold endsP at c24; omega)) (by repeat (first | exact At.head _ _ _ | apply At.tail))) ?_
    rintro _ _ ⟨rfl, rfl⟩
    refine A.done (by kernel_rfl) ?_
    refine V.block_normal ?_
    refine V.then ?_
    refine W.sub (L' := [(3, _), (12, _), (13, _), (14, _)]) (Sub.cons rfl (Sub.cons rfl (Sub.cons rfl (Sub.cons rfl Sub.nil)))) ?_
    refine W.region ?_
    refine G.r (Runs.add rfl rfl (by unfold InR; omega)) ?_
    refine G.r (Runs.move rfl) ?_
    refine G.nil ?_
    exact V.next ((k + 1), (List.set rows ((at_ ars ((k : Nat) : Int)).u).toNat ((at_ rows ((at_ ars ((k : Nat) : Int)).u)) ||| (bitB ((at_ ars ((k : Nat) : Int)).v))))) (show ((k + 1 : Nat) ≤ ars.length) ∧ ((List.set rows ((at_ ars ((k : Nat) : Int)).u).toNat ((at_ rows ((at_ ars ((k : Nat) : Int)).u)) ||| (bitB ((at_ ars ((k : Nat) : Int)).v))) : List (BitVec 64)) = outB nd (ars.take (k + 1 : Nat))) ∧ ((List.set rows ((at_ ars ((k : Nat) : Int)).u).toNat ((at_ rows ((at_ ars ((k : Nat) : Int)).u)) ||| (bitB ((at_ ars ((k : Nat) : Int)).v))) : List (BitVec 64)).length = (min (max nd 0) 64).toNat) from ⟨(by omega), (by rw [outB_take (by omega), ← hr]; unfold addO; rw [hrl, ← hrep]; first | rw [if_pos c24] | rw [if_neg c24]), (by first | exact hrl | (rw [List.length_set]; exact hrl))⟩) (show ars.length - (k + 1 : Nat) < ars.length - k from (by omega)) (Sub.cons rfl (Sub.cons rfl (Sub.cons rfl (Sub.cons lookO Sub.nil)))) (show Fit κ _ (vc 86 (.slice ad2 (List.replicate ((min (max nd 0) 64).toNat) (default : (BitVec 64))).length cp3) ((List.set rows ((at_ ars ((k : Nat) : Int)).u).toNat ((at_ rows ((at_ ars ((k : Nat) : Int)).u)) ||| (bitB ((at_ ars ((k : Nat) : Int)).v))))) :: blk b1 [I64 (nd), va] 54 :: I) from Fit.sub)
  ·refine W.skip ?_
   refine V.block_normal ?_
   refine V.then ?_
   refine W.region ?_
   refine G.r (Runs.add rfl rfl (by unfold InR; omega)) ?_
   refine G.r (Runs.move rfl) ?_
   refine G.nil ?_
   exact V.next ((k + 1), (rows)) (show ((k + 1 : Nat) ≤ ars.length) ∧ ((rows : List (BitVec 64)) = outB nd (ars.take (k + 1 : Nat))) ∧ ((rows : List (BitVec 64)).length = (min (max nd 0) 64).toNat) from ⟨(by omega), (by rw [outB_take (by omega), ← hr]; unfold addO; rw [hrl, ← hrep]; first | rw [if_pos c24] | rw [if_neg c24]), (by first | exact hrl | (rw [List.length_set]; exact hrl))⟩) (show ars.length - (k + 1 : Nat) < ars.length - k from (by omega)) (Sub.cons rfl (Sub.cons rfl (Sub.cons rfl (Sub.cons lookO Sub.nil)))) (show Fit κ _ (vc 86 (.slice ad2 (List.replicate ((min (max nd 0) 64).toNat) (default : (BitVec 64))).length cp3) ((rows)) :: blk b1 [I64 (nd), va] 54 :: I) from Fit.sub)
 ·refine W.exit ?_
  refine V.then_exit ?_
  refine V.then_exit ?_
  refine V.block_hit ?_
  refine V.then ?_
  refine W.sr ?_
  refine G.r (Runs.move rfl) ?_
  refine G.r (Runs.assign rfl) ?_
  refine G.nt ?_
  refine W.ret ?_
  rw [List.take_of_length_le (by omega)] at hr
  subst hr
  have hle : (outB nd ars).length = (List.replicate (min (max nd 0) 64).toNat (default : (BitVec 64))).length := by omega
  exact V.ret1 rfl rfl (vc 86 (.slice ad2 (outB nd ars).length cp3) (outB nd ars) :: I) (by rw [hle]; exact Fit.sub) ⟨_, _, by rw [hle], rfl⟩

theorem Between0_ok {κ : Ctx} {I : List Item} {va : Value} {rows : List (BitVec 64)} (hl : Sl κ I va rows) (f t : BitVec 64) (hrl : rows.length ≤ 64) (hT : TabRd κ I 0 tzCells) :
    CallS Tryz.prog κ 104 [va, U64 (f), U64 (t)] I (fun r J => r = I64 (betB rows f t) ∧ I = J) := by
 have hlb := listB_len (f &&& allB rows.length)
 refine CallS.enter (L := [(0, va), (1, U64 (f)), (2, U64 (t))]) Tryz.func104 rfl rfl rfl rfl ?_
 refine W.sr ?_
 refine G.r (Runs.assign rfl) ?_
 refine G.nt ?_
 refine W.sr ?_
 refine G.r (Runs.assign rfl) ?_
 refine G.nt ?_
 refine W.seq ?_
 refine W.sr ?_
 refine G.r (Runs.move rfl) ?_
 refine G.r (Runs.move rfl) ?_
 refine G.r (Runs.lenT (α := (BitVec 64)) (xs := rows) Tryz.underlying104 rfl (Sl.f hl)) ?_
 refine G.e (Eff.call call62 rfl rfl (MaskAll_ok ((rows.length : Nat) : Int))) ?_
 rintro _ _ ⟨_, _, ⟨rfl, rfl⟩, rfl, rfl⟩
 refine G.r (Runs.andB (a := f) (b := allB ((rows.length : Nat) : Int)) rfl rfl) ?_
 refine G.e (Eff.call call54 rfl rfl (MList_ok (f &&& (allB ((rows.length : Nat) : Int))) (TabRd.fit hT Fit.m))) ?_
 rintro _ _ ⟨_, _, ⟨ad1, cp2, rfl, rfl⟩, rfl, rfl⟩
 refine G.r (Runs.lens Tryz.underlying22 rfl) ?_
 refine G.r (Runs.move rfl) ?_
 refine G.nt ?_
 refine W.block ?_
 refine W.loop (σ := Nat × Int) (fun s => ([(0, va), (2, U64 (t)), (7, I64 (s.2)), (15, .slice ad1 (listB (f &&& (allB ((rows.length : Nat) : Int)))).length cp2), (16, I64 ((((listB (f &&& (allB ((rows.length : Nat) : Int)))).length : Nat) : Int))), (17, I64 (((s.1 : Nat) : Int)))] : Env)) (fun s => vc 3 (.slice ad1 (listB (f &&& (allB ((rows.length : Nat) : Int)))).length cp2) (listB (f &&& (allB ((rows.length : Nat) : Int)))) :: I) (fun s => (s.1 ≤ (listB (f &&& allB rows.length)).length) ∧ (s.2 = betT rows t ((listB (f &&& allB rows.length)).take s.1))) (fun s => (listB (f &&& allB rows.length)).length - s.1) (0, 0) (show ((0 : Nat) ≤ (listB (f &&& allB rows.length)).length) ∧ ((0 : Int) = betT rows t ((listB (f &&& allB rows.length)).take (0 : Nat))) from ⟨(by omega), rfl⟩) (Sub.cons rfl (Sub.cons rfl (Sub.cons lookO (Sub.cons rfl (Sub.cons rfl (Sub.cons lookO Sub.nil)))))) (show Fit κ _ (vc 3 (.slice ad1 (listB (f &&& (allB ((rows.length : Nat) : Int)))).length cp2) (listB (f &&& (allB ((rows.length : Nat) : Int)))) :: I) from Fit.sub) ?_
 rintro ⟨k, q⟩ hp
 obtain ⟨hk, hq⟩ : (k ≤ (listB (f &&& allB rows.length)).length) ∧ (q = betT rows t ((listB (f &&& allB rows.length)).take k)) := hp
 show W Tryz.prog κ 32 _ _ ([(0, va), (2, U64 (t)), (7, I64 (q)), (15, .slice ad1 (listB (f &&& (allB ((rows.length : Nat) : Int)))).length cp2), (16, I64 ((((listB (f &&& (allB ((rows.length : Nat) : Int)))).length : Nat) : Int))), (17, I64 (((k : Nat) : Int)))] : Env) (vc 3 (.slice ad1 (listB (f &&& (allB ((rows.length : Nat) : Int)))).length cp2) (listB (f &&& (allB ((rows.length : Nat) : Int)))) :: I)
 have hqb : 0 ≤ q ∧ q ≤ 4096 := by rw [hq]; have h1 := betT_bd rows t ((listB (f &&& allB rows.length)).take k); have h2 := listB_len (f &&& allB rows.length); rw [List.length_take] at h1; omega
 have hob := onesB_64 (at_ rows (at_ (listB (f &&& allB rows.length)) ((k : Nat) : Int)) &&& t)
 have hmk : k < (listB (f &&& allB rows.length)).length → 0 ≤ at_ (listB (f &&& allB rows.length)) ((k : Nat) : Int) ∧ at_ (listB (f &&& allB rows.length)) ((k : Nat) : Int) < rows.length := fun h => by have h1 := at_mem (xs := (listB (f &&& allB rows.length))) (i := ((k : Nat) : Int)) (by omega) (by omega); obtain ⟨h2, h3⟩ := mem_listB.1 h1; rw [BitVec.getLsbD_and, Bool.and_eq_true] at h3; have h64 : (at_ (listB (f &&& allB rows.length)) ((k : Nat) : Int)).toNat < 64 := BitVec.lt_of_getLsbD h3.1; have h4 := h3.2; rw [getLsb_allB (by omega) (by omega) h64, decide_eq_true_eq] at h4; omega
 refine W.sr ?_
 refine G.r (Runs.lss rfl rfl) ?_
 refine G.nt ?_
 refine W.seq ?_
 refine W.ite rfl (fun c18 => ?_) (fun c18 => ?_)
 ·refine W.skip ?_
  refine V.then ?_
  refine W.seq ?_
  refine W.block ?_
  refine W.sr ?_
  refine G.r (Runs.idx (α := Int) (xs := listB (f &&& (allB ((rows.length : Nat) : Int)))) Tryz.underlying22 ty3 rfl rfl Sl.o (by first | omega | exact (hmk (by omega)).1) (by first | omega | (have := (hmk (by omega)).2; omega))) ?_
  refine G.r (Runs.get (xs := listB (f &&& (allB ((rows.length : Nat) : Int)))) ty3 rfl Sl.o (by first | omega | exact (hmk (by omega)).1) (by first | omega | (have := (hmk (by omega)).2; omega))) ?_
  refine G.r (Runs.assign rfl) ?_
  refine G.nt ?_
  refine W.region ?_
  refine G.r (Runs.move rfl) ?_
  refine G.r (Runs.move rfl) ?_
  refine G.r (Runs.move rfl) ?_
  refine G.r (Runs.idx (α := (BitVec 64)) (xs := rows) Tryz.underlying104 ty86 rfl rfl (Sl.f hl) (by first | omega | exact (hmk (by omega)).1) (by first | omega | (have := (hmk (by omega)).2; omega))) ?_
  refine G.r (Runs.getf0 (α := (BitVec 64)) (xs := rows) (u := U64 ((at_ rows (at_ (listB (f &&& (allB ((rows.length : Nat) : Int)))) ((k : Nat) : Int))))) ty86 rfl (Sl.f hl) (by first | omega | exact (hmk (by omega)).1) (by first | omega | (have := (hmk (by omega)).2; omega)) rfl) ?_
  refine G.r (Runs.move rfl) ?_
  refine G.r (Runs.andB (a := (at_ rows (at_ (listB (f &&& (allB ((rows.length : Nat) : Int)))) ((k : Nat) : Int)))) (b := t) rfl rfl) ?_
  refine G.e (Eff.call call57 rfl rfl (MCount_ok ((at_ rows (at_ (listB (f &&& (allB ((rows.length : Nat) : Int)))) ((k : Nat) : Int))) &&& t))) ?_
  rintro _ _ ⟨_, _, ⟨rfl, rfl⟩, rfl, rfl⟩
  refine G.r (Runs.add rfl rfl (by unfold InR; omega)) ?_
  refine G.r (Runs.assign rfl) ?_
  refine G.nil ?_
  refine V.block_normal ?_
  refine V.then ?_
  refine W.sub (L' := [(7, _), (0, _), (2, _), (15, _), (16, _), (17, _)]) (Sub.cons rfl (Sub.cons rfl (Sub.cons rfl (Sub.cons rfl (Sub.cons rfl (Sub.cons rfl Sub.nil)))))) ?_
  refine W.region ?_
  refine G.r (Runs.add rfl rfl (by unfold InR; omega)) ?_
  refine G.r (Runs.move rfl) ?_
  refine G.nil ?_
  exact V.next ((k + 1), (q + (onesB ((at_ rows (at_ (listB (f &&& (allB ((rows.length : Nat) : Int)))) ((k : Nat) : Int))) &&& t)))) (show ((k + 1 : Nat) ≤ (listB (f &&& allB rows.length)).length) ∧ ((q + (onesB ((at_ rows (at_ (listB (f &&& (allB ((rows.length : Nat) : Int)))) ((k : Nat) : Int))) &&& t)) : Int) = betT rows t ((listB (f &&& allB rows.length)).take (k + 1 : Nat))) from ⟨(by omega), (by rw [betT_take (by omega), ← hq])⟩) (show (listB (f &&& allB rows.length)).length - (k + 1 : Nat) < (listB (f &&& allB rows.length)).length - k from (by omega)) (Sub.cons rfl (Sub.cons rfl (Sub.cons lookO (Sub.cons rfl (Sub.cons rfl (Sub.cons lookO Sub.nil)))))) (show Fit κ _ (vc 3 (.slice ad1 (listB (f &&& (allB ((rows.length : Nat) : Int)))).length cp2) (listB (f &&& (allB ((rows.length : Nat) : Int)))) :: I) from Fit.sub)
 ·refine W.exit ?_
  refine V.then_exit ?_
  refine V.then_exit ?_
  refine V.block_hit ?_
  refine V.then ?_
  refine W.sr ?_
  refine G.r (Runs.move rfl) ?_
  refine G.r (Runs.assign rfl) ?_
  refine G.nt ?_
  refine W.ret ?_
  rw [List.take_of_length_le (by omega)] at hq
  have hq2 : q = betB rows f t := hq
  subst hq2
  exact V.ret1 rfl rfl (I) Fit.m ⟨rfl, rfl⟩

theorem Square0_ok {κ : Ctx} {I : List Item} {va : Value} {rows : List (BitVec 64)} (hl : Sl κ I va rows) (f t : BitVec 64) (hrl : rows.length ≤ 64) (hf : f ≠ 0#64) (ht : t ≠ 0#64) (hT : TabRd κ I 0 tzCells) :
    CallS Tryz.prog κ 103 [va, U64 (f), U64 (t)] I (fun r J => r = .agg #[I64 (sqB rows f t).num, I64 (sqB rows f t).den] ∧ I = J) := by
 have hom := onm_bd hf ht
 refine CallS.enter (L := [(0, va), (1, U64 (f)), (2, U64 (t))]) Tryz.func103 rfl rfl rfl rfl ?_
 refine W.sr ?_
 refine G.e (Eff.alloc ty45 rfl) ?_
 rintro _ _ ⟨b1, rfl, rfl⟩
 refine G.nt ?_
 refine W.sr ?_
 refine G.r (Runs.move rfl) ?_
 refine G.r (Runs.move rfl) ?_
 refine G.r (Runs.move rfl) ?_
 refine G.e (Eff.call call104 rfl rfl (Between0_ok (Sl.f hl) f t (by omega)  (TabRd.fit hT Fit.m))) ?_
 rintro _ _ ⟨_, _, ⟨rfl, rfl⟩, rfl, rfl⟩
 have hbb13 := betB_bd rows f t
 have hbs13 := sq_bd hbb13
 refine G.r (Runs.assign rfl) ?_
 refine G.nt ?_
 refine W.sr ?_
 refine G.r (Runs.move rfl) ?_
 refine G.r (Runs.move rfl) ?_
 refine G.r (Runs.mul rfl rfl (by unfold InR; omega)) ?_
 refine G.r (Runs.move rfl) ?_
 refine G.e (Eff.call call57 rfl rfl (MCount_ok f)) ?_
 rintro _ _ ⟨_, _, ⟨rfl, rfl⟩, rfl, rfl⟩
 refine G.r (Runs.move rfl) ?_
 refine G.e (Eff.call call57 rfl rfl (MCount_ok t)) ?_
 rintro _ _ ⟨_, _, ⟨rfl, rfl⟩, rfl, rfl⟩
 refine G.r (Runs.mul rfl rfl (by unfold InR; omega)) ?_
 refine G.e (Eff.call call63 rfl rfl (MakeF_ok ((betB rows f t) * (betB rows f t)) ((onesB f) * (onesB t)) (by omega) (by omega))) ?_
 rintro _ _ ⟨_, _, ⟨rfl, rfl⟩, rfl, rfl⟩
 refine G.r (Runs.move rfl) ?_
 refine G.r (Runs.extract rfl rfl) ?_
 refine G.r (Runs.extract rfl rfl) ?_
 refine G.e (Eff.alloc ty45 rfl) ?_
 rintro _ _ ⟨b2, rfl, rfl⟩
 refine G.e (Eff.st (cs := [_, _]) (vs := [_, _]) (cs' := [_, _]) ty45) ?_
 rintro _ _ ⟨rfl, rfl⟩
 refine G.r (Runs.assign rfl) ?_
 refine G.nt ?_
 refine W.sub (L' := [(8, _), (6, _)]) (Sub.cons rfl (Sub.cons rfl Sub.nil)) ?_
 refine W.sr ?_
 refine G.r (Runs.lds (vs := [_, _]) ty45) ?_
 refine G.e (Eff.st (cs := [_, _]) (vs := [_, _]) (cs' := [_, _]) ty45) ?_
 rintro _ _ ⟨rfl, rfl⟩
 refine G.nt ?_
 refine W.ret ?_
 exact V.retc rfl ty45 rfl (by repeat (first | exact List.mem_cons_self | apply List.mem_cons_of_mem)) rfl (I) Fit.m ⟨rfl, rfl⟩

theorem Pair0_ok {κ : Ctx} {I : List Item} {va : Value} {rows : List (BitVec 64)} (hl : Sl κ I va rows) (f t : BitVec 64) (hrl : rows.length ≤ 64) (hf : f ≠ 0#64) (ht : t ≠ 0#64) (hT : TabRd κ I 0 tzCells) :
    CallS Tryz.prog κ 78 [va, U64 (f), U64 (t)] I (fun r J => ∃ a c a2 c2, r = .agg #[.slice a (listB f).length c, .slice a2 (listB t).length c2, I64 (betB rows f t), I64 (sqB rows f t).num, I64 (sqB rows f t).den] ∧ J = vc 3 (.slice a2 (listB t).length c2) (listB t) :: vc 3 (.slice a (listB f).length c) (listB f) :: I) := by
 refine CallS.enter (L := [(0, va), (1, U64 (f)), (2, U64 (t))]) Tryz.func78 rfl rfl rfl rfl ?_
 refine W.sr ?_
 refine G.e (Eff.alloc ty58 rfl) ?_
 rintro _ _ ⟨b1, rfl, rfl⟩
 refine G.nt ?_
 refine W.sr ?_
 refine G.r (Runs.move rfl) ?_
 refine G.e (Eff.call call54 rfl rfl (MList_ok f (TabRd.fit hT Fit.m))) ?_
 rintro _ _ ⟨_, _, ⟨ad2, cp3, rfl, rfl⟩, rfl, rfl⟩
 refine G.r (Runs.move rfl) ?_
 refine G.e (Eff.call call54 rfl rfl (MList_ok t (TabRd.fit hT Fit.m))) ?_
 rintro _ _ ⟨_, _, ⟨ad4, cp5, rfl, rfl⟩, rfl, rfl⟩
 refine G.r (Runs.move rfl) ?_
 refine G.r (Runs.move rfl) ?_
 refine G.r (Runs.move rfl) ?_
 refine G.e (Eff.call call104 rfl rfl (Between0_ok (Sl.f hl) f t (by omega)  (TabRd.fit hT Fit.m))) ?_
 rintro _ _ ⟨_, _, ⟨rfl, rfl⟩, rfl, rfl⟩
 have hbb14 := betB_bd rows f t
 have hbs14 := sq_bd hbb14
 refine G.r (Runs.move rfl) ?_
 refine G.r (Runs.move rfl) ?_
 refine G.r (Runs.move rfl) ?_
 refine G.e (Eff.call call103 rfl rfl (Square0_ok (Sl.f hl) f t (by omega) hf ht (TabRd.fit hT Fit.m))) ?_
 rintro _ _ ⟨_, _, ⟨rfl, rfl⟩, rfl, rfl⟩
 refine G.r (Runs.build (cells := [_, _, _, _, _]) ty58 Tryz.underlying58 pl58 rfl rfl) ?_
 refine G.e (Eff.st (cs := [_, _, _, _, _]) (vs := [_, _, _, _, _]) (cs' := [_, _, _, _, _]) ty58) ?_
 rintro _ _ ⟨rfl, rfl⟩
 refine G.nt ?_
 refine W.sub (L' := [(6, _)]) (Sub.cons rfl Sub.nil) ?_
 refine W.ret ?_
 exact V.retc rfl ty58 rfl (by repeat (first | exact List.mem_cons_self | apply List.mem_cons_of_mem)) rfl (vc 3 (.slice ad4 (listB t).length cp5) (listB t) :: vc 3 (.slice ad2 (listB f).length cp3) (listB f) :: I) (by first | exact Fit.s | exact Fit.sub) ⟨ad2, cp3, ad4, cp5, rfl, rfl⟩

theorem None0_ok {κ : Ctx} {I : List Item}  :
    CallS Tryz.prog κ 76 [] I (fun r J => r = .agg #[.slice none 0 0, .slice none 0 0, I64 0, I64 0, I64 1] ∧ I = J) := by
 refine CallS.enter (L := []) Tryz.func76 rfl rfl rfl rfl ?_
 refine W.sr ?_
 refine G.e (Eff.alloc ty58 rfl) ?_
 rintro _ _ ⟨b1, rfl, rfl⟩
 refine G.nt ?_
 refine W.sr ?_
 refine G.r (Runs.build (cells := [_, _]) ty45 Tryz.underlying45 pl45 rfl rfl) ?_
 refine G.r (Runs.build (cells := [_, _, _, _, _]) ty58 Tryz.underlying58 pl58 rfl rfl) ?_
 refine G.e (Eff.st (cs := [_, _, _, _, _]) (vs := [_, _, _, _, _]) (cs' := [_, _, _, _, _]) ty58) ?_
 rintro _ _ ⟨rfl, rfl⟩
 refine G.nt ?_
 refine W.ret ?_
 exact V.retc rfl ty58 rfl (by repeat (first | exact List.mem_cons_self | apply List.mem_cons_of_mem)) rfl (I) Fit.m ⟨rfl, rfl⟩

theorem Before0_ok {κ : Ctx} {I : List Item} {vxf vxt vyf vyt : Value} {x y : Bst} (h1 : Sl κ I vxf x.F) (h2 : Sl κ I vxt x.T) (h3 : Sl κ I vyf y.F) (h4 : Sl κ I vyt y.T) (hx : FrV x.sq) (hy : FrV y.sq) :
    CallS Tryz.prog κ 79 [.agg #[vxf, vxt, I64 (x.n), I64 (x.sq.num), I64 (x.sq.den)], .agg #[vyf, vyt, I64 (y.n), I64 (y.sq.num), I64 (y.sq.den)]] I (fun r J => r = .bool (befB x y) ∧ I = J) := by
 refine CallS.enter (L := [(0, .agg #[vxf, vxt, I64 (x.n), I64 (x.sq.num), I64 (x.sq.den)]), (1, .agg #[vyf, vyt, I64 (y.n), I64 (y.sq.num), I64 (y.sq.den)])]) Tryz.func79 rfl rfl rfl rfl ?_
 refine W.sr ?_
 refine G.e (Eff.box (cs := [_, _, _, _, _]) rfl rfl rfl) ?_
 rintro _ _ ⟨b1, rfl, rfl⟩
 refine G.e (Eff.box (cs := [_, _, _, _, _]) rfl rfl rfl) ?_
 rintro _ _ ⟨b2, rfl, rfl⟩
 refine G.r (Runs.assign rfl) ?_
 refine G.nt ?_
 refine W.seq ?_
 refine W.sr ?_
 refine G.r (Runs.fieldAddr fld58_3 rfl) ?_
 refine G.r (Runs.lds (vs := [_, _]) ty45) ?_
 refine G.r (Runs.fieldAddr fld58_3 rfl) ?_
 refine G.r (Runs.lds (vs := [_, _]) ty45) ?_
 refine G.e (Eff.call call91 rfl rfl (RatCmp_ok x.sq y.sq (by first | exact hx | exact hy) (by first | exact hx | exact hy))) ?_
 rintro _ _ ⟨_, _, ⟨rfl, rfl⟩, rfl, rfl⟩
 refine G.r (Runs.assign rfl) ?_
 refine G.nt ?_
 refine W.sr ?_
 refine G.r (Runs.move rfl) ?_
 refine G.r (Runs.neq rfl rfl) ?_
 refine G.nt ?_
 refine W.ite rfl (fun c13 => ?_) (fun c13 => ?_)
 ·refine W.sr ?_
  refine G.r (Runs.move rfl) ?_
  refine G.r (Runs.gtr rfl rfl) ?_
  refine G.r (Runs.assign rfl) ?_
  refine G.nt ?_
  refine W.sub (L' := [(4, _)]) (Sub.cons rfl Sub.nil) ?_
  refine W.ret ?_
  refine V.then_ret ?_
  exact V.ret1 rfl rfl (I) Fit.m ⟨by unfold befB; first | rw [if_pos c13] | rw [if_neg c13, if_pos c22] | rw [if_neg c13, if_neg c22], rfl⟩
 ·refine W.skip ?_
  refine V.then ?_
  refine W.seq ?_
  refine W.sr ?_
  refine G.r (Runs.fieldAddr fld58_0 rfl) ?_
  refine G.r (Runs.ld ty22) ?_
  refine G.r (Runs.fieldAddr fld58_0 rfl) ?_
  refine G.r (Runs.ld ty22) ?_
  refine G.e (Eff.call call124 rfl rfl (NCmpD_ok (Sl.f h1) (Sl.f h3))) ?_
  rintro _ _ ⟨_, _, ⟨rfl, rfl⟩, rfl, rfl⟩
  refine G.r (Runs.assign rfl) ?_
  refine G.nt ?_
  refine W.sub (L' := [(6, _), (3, _), (2, _)]) (Sub.cons rfl (Sub.cons rfl (Sub.cons rfl Sub.nil))) ?_
  refine W.sr ?_
  refine G.r (Runs.move rfl) ?_
  refine G.r (Runs.neq rfl rfl) ?_
  refine G.nt ?_
  refine W.ite rfl (fun c22 => ?_) (fun c22 => ?_)
  ·refine W.sr ?_
   refine G.r (Runs.move rfl) ?_
   refine G.r (Runs.lss rfl rfl) ?_
   refine G.r (Runs.assign rfl) ?_
   refine G.nt ?_
   refine W.ret ?_
   refine V.then_ret ?_
   exact V.ret1 rfl rfl (I) Fit.m ⟨by unfold befB; first | rw [if_pos c13] | rw [if_neg c13, if_pos c22] | rw [if_neg c13, if_neg c22], rfl⟩
  ·refine W.skip ?_
   refine V.then ?_
   refine W.sr ?_
   refine G.r (Runs.fieldAddr fld58_1 rfl) ?_
   refine G.r (Runs.ld ty22) ?_
   refine G.r (Runs.fieldAddr fld58_1 rfl) ?_
   refine G.r (Runs.ld ty22) ?_
   refine G.e (Eff.call call124 rfl rfl (NCmpD_ok (Sl.f h2) (Sl.f h4))) ?_
   rintro _ _ ⟨_, _, ⟨rfl, rfl⟩, rfl, rfl⟩
   refine G.r (Runs.lss rfl rfl) ?_
   refine G.r (Runs.assign rfl) ?_
   refine G.nt ?_
   refine W.ret ?_
   exact V.ret1 rfl rfl (I) Fit.m ⟨by unfold befB; first | rw [if_pos c13] | rw [if_neg c13, if_pos c22] | rw [if_neg c13, if_neg c22], rfl⟩

end Go.Sl
namespace Go.Sl
open Go.Proofs
set_option linter.unusedVariables false
set_option linter.unusedSimpArgs false
set_option maxRecDepth 4000
/-- A callback on numbers, said of the numbers that p admits. -/
def CmpsI (P : Program) (κ : Ctx) (I : List Item) (g : FuncId) (caps : List Value) (p : Int → Prop) (cf : Int → Int → Int) : Prop := callable P g = true ∧ ∀ (x y : Int) (J : List Item), p x → p y → Fit κ J I → CallS P κ g ([] ++ [I64 x, I64 y] ++ caps) J fun r J' => r = I64 (cf x y) ∧ J = J'
theorem CmpsI.fit {P : Program} {κ : Ctx} {I J : List Item} {g : FuncId} {caps : List Value} {p : Int → Prop} {cf : Int → Int → Int} (h : CmpsI P κ I g caps p cf) (hf : Fit κ J I) : CmpsI P κ J g caps p cf := ⟨h.1, fun x y K hx hy hK => h.2 x y K hx hy (hK.trans hf)⟩
def insAt (l : List Int) (j : Nat) (x : Int) : List Int := l.take j ++ x :: l.drop j
def placeI (cf : Int → Int → Int) (l : List Int) (x : Int) : Nat → Nat
  | 0 => 0
  | j + 1 => if cf x (at_ l (j : Int)) < 0 then placeI cf l x j else j + 1
def insI (cf : Int → Int → Int) (l : List Int) (x : Int) : List Int := insAt l (placeI cf l x l.length) x
/-- Sorting by insertion; equal ones keep their order. -/
def isortI (cf : Int → Int → Int) (xs : List Int) : List Int := xs.foldl (insI cf) []
theorem insAt_perm (l : List Int) (j : Nat) (x : Int) : (insAt l j x).Perm (x :: l) := by
  have := List.perm_middle (a := x) (l₁ := l.take j) (l₂ := l.drop j)
  rw [List.take_append_drop] at this; exact this
theorem foldI_perm (cf : Int → Int → Int) : ∀ (xs acc : List Int), (xs.foldl (insI cf) acc).Perm (xs ++ acc)
  | [], acc => .refl _
  | x :: xs, acc => by
    rw [List.foldl_cons]
    refine (foldI_perm cf xs _).trans ?_
    refine (List.Perm.append_left xs (insAt_perm acc _ x)).trans ?_
    exact List.perm_middle
theorem isort_perm (cf : Int → Int → Int) (xs : List Int) : (isortI cf xs).Perm xs := by
  have := foldI_perm cf xs []
  rwa [List.append_nil] at this
theorem isort_take (cf : Int → Int → Int) {xs : List Int} {i : Nat} (h : i < xs.length) : isortI cf (xs.take (i + 1)) = insI cf (isortI cf (xs.take i)) (at_ xs (i : Int)) := by
  unfold isortI; rw [take_at xs i h, List.foldl_append]; rfl
theorem isort_tlen (cf : Int → Int → Int) {xs : List Int} {i : Nat} (h : i ≤ xs.length) : (isortI cf (xs.take i)).length = i := by
  rw [(isort_perm cf _).length_eq, List.length_take]; omega
theorem at_mid {l r : List Int} {j : Nat} {x : Int} (h : j ≤ l.length) : at_ (insAt l j x ++ r) (j : Int) = x := by
  unfold insAt
  have hl : (l.take j).length = j := by rw [List.length_take]; omega
  rw [at_nat, List.getD_eq_getElem?_getD, List.append_assoc, List.getElem?_append_right (by omega), hl, Nat.sub_self]; rfl
theorem at_prev {l r : List Int} {j : Nat} {x : Int} (h0 : 0 < j) (h : j ≤ l.length) : at_ (insAt l j x ++ r) ((j : Int) - 1) = at_ l ((j : Int) - 1) := by
  unfold insAt
  have hl : (l.take j).length = j := by rw [List.length_take]; omega
  have e : (j : Int) - 1 = ((j - 1 : Nat) : Int) := by omega
  rw [e, at_nat, at_nat, List.getD_eq_getElem?_getD, List.getD_eq_getElem?_getD, List.append_assoc, List.getElem?_append_left (by omega), List.getElem?_take, if_pos (by omega)]
theorem ins_swap {l r : List Int} {j : Nat} {x : Int} (h0 : 0 < j) (h : j ≤ l.length) : ((insAt l j x ++ r).set j (at_ l ((j : Int) - 1))).set (j - 1) x = insAt l (j - 1) x ++ r := by
  obtain ⟨m, rfl⟩ : ∃ m, j = m + 1 := ⟨j - 1, by omega⟩
  have e : ((m + 1 : Nat) : Int) - 1 = (m : Int) := by omega
  rw [e, Nat.add_sub_cancel]
  have hm : (l.take m).length = m := by rw [List.length_take]; omega
  have e1 : insAt l (m + 1) x ++ r = l.take m ++ (at_ l (m : Int) :: x :: (l.drop (m + 1) ++ r)) := by
    unfold insAt; rw [take_at l m (by omega)]; simp
  have e2 : insAt l m x ++ r = l.take m ++ (x :: at_ l (m : Int) :: (l.drop (m + 1) ++ r)) := by
    unfold insAt; rw [drop_at l m (by omega)]; simp
  rw [e1, e2, List.set_append_right _ _ (by omega), hm, Nat.add_sub_cancel_left, List.set_append_right _ _ (by omega), hm, Nat.sub_self]; rfl
theorem ins_start {cf : Int → Int → Int} {xs : List Int} {i : Nat} (h : i < xs.length) : isortI cf (xs.take i) ++ xs.drop i = insAt (isortI cf (xs.take i)) i (at_ xs (i : Int)) ++ xs.drop (i + 1) := by
  have hl := isort_tlen cf (Nat.le_of_lt h)
  generalize isortI cf (xs.take i) = l at hl ⊢
  unfold insAt
  rw [drop_at xs i h, List.take_of_length_le (show l.length ≤ i by omega), List.drop_eq_nil_of_le (show l.length ≤ i by omega)]; simp
theorem ins_ends {cf : Int → Int → Int} {xs : List Int} {i j : Nat} (h : i < xs.length) (hp : placeI cf (isortI cf (xs.take i)) (at_ xs (i : Int)) j = placeI cf (isortI cf (xs.take i)) (at_ xs (i : Int)) i) (hj : j = 0 ∨ (0 < j ∧ ¬ cf (at_ xs (i : Int)) (at_ (isortI cf (xs.take i)) ((j : Int) - 1)) < 0)) : insAt (isortI cf (xs.take i)) j (at_ xs (i : Int)) ++ xs.drop (i + 1) = isortI cf (xs.take (i + 1)) ++ xs.drop (i + 1) := by
  have hl := isort_tlen cf (Nat.le_of_lt h)
  have hpj : placeI cf (isortI cf (xs.take i)) (at_ xs (i : Int)) j = j := by
    rcases hj with rfl | ⟨h0, hn⟩
    · rfl
    · obtain ⟨m, rfl⟩ : ∃ m, j = m + 1 := ⟨j - 1, by omega⟩
      rw [show ((m + 1 : Nat) : Int) - 1 = (m : Int) by omega] at hn
      unfold placeI; rw [if_neg hn]
  rw [isort_take cf h]
  unfold insI
  rw [hl, ← hp, hpj]
theorem place_step {cf : Int → Int → Int} {l : List Int} {x : Int} {j : Nat} (h0 : 0 < j) (h : cf x (at_ l ((j : Int) - 1)) < 0) : placeI cf l x (j - 1) = placeI cf l x j := by
  obtain ⟨m, rfl⟩ : ∃ m, j = m + 1 := ⟨j - 1, by omega⟩
  rw [show ((m + 1 : Nat) : Int) - 1 = (m : Int) by omega] at h
  conv => rhs; unfold placeI
  rw [if_pos h]; rfl
theorem isort_mem (cf : Int → Int → Int) {xs : List Int} {i j : Nat} (hi : i ≤ xs.length) (hj : j < i) : at_ (isortI cf (xs.take i)) (j : Int) ∈ xs := by
  have hl := isort_tlen cf hi
  have h1 := at_mem (xs := isortI cf (xs.take i)) (i := (j : Int)) (by omega) (by omega)
  exact List.mem_of_mem_take ((isort_perm cf _).mem_iff.1 h1)

theorem InsSort_ok {κ : Ctx} {I : List Item} {a : Option Addr} {c : Nat} {xs : List Int} {g : FuncId} {cp_ : List Value} {p : Int → Prop} {cf : Int → Int → Int} (hcb : CmpsI Tryz.prog κ I g cp_ p cf) (hpx : ∀ x ∈ xs, p x) (hn : xs.length ≤ 1000) :
    CallS Tryz.prog κ 172 [.slice a xs.length c, I64 (0), I64 (((xs.length : Nat) : Int)), .func (.func g) #[] cp_.toArray] (vc 3 (.slice a xs.length c) (xs) :: I) (fun r J => r = .tuple #[] ∧ J = vc 3 (.slice a xs.length c) (isortI cf xs) :: I) := by
 refine CallS.pull (p := 0 < xs.length → a ≠ none) (vc.isSome (by repeat (first | exact List.mem_cons_self | apply List.mem_cons_of_mem))) fun hsm => ?_
 refine CallS.enter (L := [(0, .slice a xs.length c), (1, I64 (0)), (2, I64 (((xs.length : Nat) : Int))), (3, .func (.func g) #[] cp_.toArray)]) Tryz.func172 rfl rfl rfl rfl ?_
 refine W.sr ?_
 refine G.r (Runs.move rfl) ?_
 refine G.r (Runs.add rfl rfl (by unfold InR; omega)) ?_
 refine G.r (Runs.assign rfl) ?_
 refine G.nt ?_
 refine W.block ?_
 refine W.loop (σ := Nat × (List Int)) (fun s => ([(0, .slice a xs.length c), (1, I64 (0)), (2, I64 (((xs.length : Nat) : Int))), (3, .func (.func g) #[] cp_.toArray), (8, I64 (((s.1 : Nat) : Int)))] : Env)) (fun s => vc 3 (.slice a xs.length c) (s.2) :: I) (fun s => (1 ≤ s.1 ∧ (s.1 ≤ xs.length ∨ s.1 = 1)) ∧ (s.2 = (isortI cf (xs.take s.1)) ++ xs.drop s.1)) (fun s => xs.length - s.1) (1, xs) (show (1 ≤ (1 : Nat) ∧ ((1 : Nat) ≤ xs.length ∨ (1 : Nat) = 1)) ∧ ((xs : List Int) = (isortI cf (xs.take (1 : Nat))) ++ xs.drop (1 : Nat)) from ⟨(by omega), (by cases xs <;> rfl)⟩) (Sub.cons rfl (Sub.cons rfl (Sub.cons rfl (Sub.cons rfl (Sub.cons lookO Sub.nil))))) (show Fit κ _ (vc 3 (.slice a xs.length c) ((xs)) :: I) from Fit.sub) ?_
 rintro ⟨i, ys⟩ hp
 obtain ⟨hi, hy⟩ : (1 ≤ i ∧ (i ≤ xs.length ∨ i = 1)) ∧ (ys = (isortI cf (xs.take i)) ++ xs.drop i) := hp
 show W Tryz.prog κ 53 _ _ ([(0, .slice a xs.length c), (1, I64 (0)), (2, I64 (((xs.length : Nat) : Int))), (3, .func (.func g) #[] cp_.toArray), (8, I64 (((i : Nat) : Int)))] : Env) (vc 3 (.slice a xs.length c) (ys) :: I)
 have hil := fun h : i ≤ xs.length => isort_tlen cf h
 have hyl : ys.length = xs.length := by rw [hy, List.length_append, List.length_drop]; rcases hi.2 with h | h; (· have := hil h; omega); (· subst h; cases xs with | nil => rfl | cons x t => (have := hil (by simp); simp at this ⊢; omega))
 refine W.seq ?_
 refine W.sr ?_
 refine G.r (Runs.move rfl) ?_
 refine G.r (Runs.move rfl) ?_
 refine G.r (Runs.lss rfl rfl) ?_
 refine G.nt ?_
 refine W.ite rfl (fun c14 => ?_) (fun c14 => ?_)
 ·refine W.skip ?_
  refine V.then ?_
  refine W.seq ?_
  refine W.block ?_
  refine W.sr ?_
  refine G.r (Runs.move rfl) ?_
  refine G.r (Runs.assign rfl) ?_
  refine G.nt ?_
  refine W.block ?_
  refine W.loop (σ := Nat × (List Int)) (fun s => ([(0, .slice a xs.length c), (1, I64 (0)), (2, I64 (((xs.length : Nat) : Int))), (3, .func (.func g) #[] cp_.toArray), (8, I64 (((i : Nat) : Int))), (9, I64 (((s.1 : Nat) : Int)))] : Env)) (fun s => vc 3 (.slice a xs.length c) (s.2) :: I) (fun s => (s.1 ≤ i) ∧ (s.2 = insAt (isortI cf (xs.take i)) s.1 (at_ xs ((i : Nat) : Int)) ++ xs.drop (i + 1)) ∧ (placeI cf (isortI cf (xs.take i)) (at_ xs ((i : Nat) : Int)) s.1 = placeI cf (isortI cf (xs.take i)) (at_ xs ((i : Nat) : Int)) i)) (fun s => s.1) (i, ys) (show ((i : Nat) ≤ i) ∧ ((ys : List Int) = insAt (isortI cf (xs.take i)) (i : Nat) (at_ xs ((i : Nat) : Int)) ++ xs.drop (i + 1)) ∧ (placeI cf (isortI cf (xs.take i)) (at_ xs ((i : Nat) : Int)) (i : Nat) = placeI cf (isortI cf (xs.take i)) (at_ xs ((i : Nat) : Int)) i) from ⟨(by omega), (by rw [hy]; exact ins_start (by omega)), rfl⟩) (Sub.cons rfl (Sub.cons rfl (Sub.cons rfl (Sub.cons rfl (Sub.cons rfl (Sub.cons lookO Sub.nil)))))) (show Fit κ _ (vc 3 (.slice a xs.length c) ((ys)) :: I) from Fit.sub) ?_
  rintro ⟨j, zs⟩ hp
  obtain ⟨hj, hzs, hpl⟩ : (j ≤ i) ∧ (zs = insAt (isortI cf (xs.take i)) j (at_ xs ((i : Nat) : Int)) ++ xs.drop (i + 1)) ∧ (placeI cf (isortI cf (xs.take i)) (at_ xs ((i : Nat) : Int)) j = placeI cf (isortI cf (xs.take i)) (at_ xs ((i : Nat) : Int)) i) := hp
  show W Tryz.prog κ 53 _ _ ([(0, .slice a xs.length c), (1, I64 (0)), (2, I64 (((xs.length : Nat) : Int))), (3, .func (.func g) #[] cp_.toArray), (8, I64 (((i : Nat) : Int))), (9, I64 (((j : Nat) : Int)))] : Env) (vc 3 (.slice a xs.length c) (zs) :: I)
  have hil2 := hil (by omega)
  have hz0 : at_ zs ((j : Nat) : Int) = (at_ xs ((i : Nat) : Int)) := by rw [hzs]; exact at_mid (by omega)
  have hz1 : 0 < j → at_ zs (((j : Nat) : Int) - 1) = at_ (isortI cf (xs.take i)) (((j : Nat) : Int) - 1) := fun h => by rw [hzs]; exact at_prev h (by omega)
  have hmm : 0 < j → at_ (isortI cf (xs.take i)) (((j : Nat) : Int) - 1) ∈ xs := fun h => by have := isort_mem cf (xs := xs) (i := i) (j := j - 1) (by omega) (by omega); rwa [show ((j - 1 : Nat) : Int) = (j : Int) - 1 by omega] at this
  have hzl : zs.length = xs.length := by rw [hzs, List.length_append, List.length_drop]; unfold insAt; rw [List.length_append, List.length_cons, List.length_take, List.length_drop]; omega
  refine W.seq ?_
  refine W.seq ?_
  refine W.drawn mixed ?_
  refine A.hold (vc 3 (.slice a xs.length c) (zs) :: I) 17 ?_
  refine D.r 0 rfl (Runs.move rfl) ?_ (hJ := Fit.sub)
  refine D.r 1 rfl (Runs.move rfl) ?_ (hJ := Fit.sub)
  refine D.r 2 rfl (Runs.gtr rfl rfl) ?_ (hJ := Fit.sub)
  refine D.r 3 rfl (Runs.move rfl) ?_ (hJ := Fit.sub)
  refine D.split (d := 21) rfl (fun g21 => ?_) (fun g21 => ?_)
  ·refine D.read 4 rfl (by kernel_rfl) (by kernel_rfl) (by kernel_rfl) rfl (by kernel_rfl) (fun _ _ _ _ h => h) (Wanted.on rfl rfl rfl) rfl rfl Fit.sub (Runs.move rfl) ?_
   refine D.read 5 rfl (by kernel_rfl) (by kernel_rfl) (by kernel_rfl) rfl (by kernel_rfl) (fun _ _ _ _ h => h) (Wanted.on rfl rfl rfl) rfl rfl Fit.sub (Runs.move rfl) ?_
   refine D.read 6 rfl (by kernel_rfl) (by kernel_rfl) (by kernel_rfl) rfl (by kernel_rfl) (fun _ _ _ _ h => h) (Wanted.on rfl rfl rfl) rfl rfl Fit.sub (Runs.move rfl) ?_
   refine D.read 7 rfl (by kernel_rfl) (by kernel_rfl) (by kernel_rfl) rfl (by kernel_rfl) (fun _ _ _ _ h => h) (Wanted.on rfl rfl rfl) rfl rfl Fit.sub (Runs.idx (α := Int) (xs := zs) Tryz.underlying22 ty3 rfl rfl Sl.o (by omega) (by first | omega | (simp only [List.length_set]; omega))) ?_
   refine D.read 8 rfl (by kernel_rfl) (by kernel_rfl) (by kernel_rfl) rfl (by kernel_rfl) (fun _ _ _ _ h => h) (Wanted.on rfl rfl rfl) rfl rfl Fit.sub (Runs.get (xs := zs) ty3 rfl Sl.o (by omega) (by first | omega | (simp only [List.length_set]; omega))) ?_
   refine D.read 9 rfl (by kernel_rfl) (by kernel_rfl) (by kernel_rfl) rfl (by kernel_rfl) (fun _ _ _ _ h => h) (Wanted.on rfl rfl rfl) rfl rfl Fit.sub (Runs.move rfl) ?_
   refine D.read 10 rfl (by kernel_rfl) (by kernel_rfl) (by kernel_rfl) rfl (by kernel_rfl) (fun _ _ _ _ h => h) (Wanted.on rfl rfl rfl) rfl rfl Fit.sub (Runs.move rfl) ?_
   refine D.read 11 rfl (by kernel_rfl) (by kernel_rfl) (by kernel_rfl) rfl (by kernel_rfl) (fun _ _ _ _ h => h) (Wanted.on rfl rfl rfl) rfl rfl Fit.sub (Runs.sub rfl rfl (by unfold InR; omega)) ?_
   refine D.read 12 rfl (by kernel_rfl) (by kernel_rfl) (by kernel_rfl) rfl (by kernel_rfl) (fun _ _ _ _ h => h) (Wanted.on rfl rfl rfl) rfl rfl Fit.sub (Runs.idx (α := Int) (xs := zs) Tryz.underlying22 ty3 rfl rfl Sl.o (by omega) (by first | omega | (simp only [List.length_set]; omega))) ?_
   refine D.read 13 rfl (by kernel_rfl) (by kernel_rfl) (by kernel_rfl) rfl (by kernel_rfl) (fun _ _ _ _ h => h) (Wanted.on rfl rfl rfl) rfl rfl Fit.sub (Runs.get (xs := zs) ty3 rfl Sl.o (by omega) (by first | omega | (simp only [List.length_set]; omega))) ?_
   refine D.step (rs := [14]) (by kernel_rfl) rfl rfl (all1 ?_)
   refine Step.eff rfl (Wanted.on rfl rfl rfl) (Eff.callv hcb.1 (first := []) (caps := cp_) rfl rfl rfl (hcb.2 (at_ zs ((j : Nat) : Int)) (at_ zs (((j : Nat) : Int) - 1)) _ (by rw [hz0]; exact hpx _ (at_mem (by omega) (by omega))) (by rw [hz1 (by omega)]; exact hpx _ (hmm (by omega))) Fit.m)) ?_
   rintro _ _ ⟨_, _, ⟨rfl, rfl⟩, rfl, rfl⟩
   refine ⟨Fit.sub, ?_⟩
   refine D.read 15 rfl (by kernel_rfl) (by kernel_rfl) (by kernel_rfl) rfl (by kernel_rfl) (fun _ _ _ _ h => h) (Wanted.on rfl rfl rfl) rfl rfl Fit.sub (Runs.lss rfl rfl) ?_
   refine D.r 16 rfl (Runs.pickt rfl rfl) ?_ (hJ := Fit.sub)
   refine D.done (by kernel_rfl) ?_
   refine V.then ?_
   refine W.sub (L' := [(34, _), (0, _), (1, _), (2, _), (3, _), (8, _), (9, _)]) (Sub.cons rfl (Sub.cons rfl (Sub.cons rfl (Sub.cons rfl (Sub.cons rfl (Sub.cons rfl (Sub.cons rfl Sub.nil))))))) ?_
   refine W.ite rfl (fun c34 => ?_) (fun c34 => ?_)
   ·refine W.skip ?_
    refine V.then ?_
    refine W.seq ?_
    refine W.block ?_
    refine W.drawn mixed ?_
    refine A.hold (I) 18 ?_
    refine D.r 0 rfl (Runs.move rfl) ?_ (hJ := Fit.sub)
    refine D.r 1 rfl (Runs.move rfl) ?_ (hJ := Fit.sub)
    refine D.r 2 rfl (Runs.move rfl) ?_ (hJ := Fit.sub)
    refine D.r 3 rfl (Runs.move rfl) ?_ (hJ := Fit.sub)
    refine D.r 4 rfl (Runs.sub rfl rfl (by unfold InR; omega)) ?_ (hJ := Fit.sub)
    refine D.r 5 rfl (Runs.move rfl) ?_ (hJ := Fit.sub)
    refine D.r 6 rfl (Runs.move rfl) ?_ (hJ := Fit.sub)
    refine D.r 7 rfl (Runs.sub rfl rfl (by unfold InR; omega)) ?_ (hJ := Fit.sub)
    refine D.r 8 rfl (Runs.idxs Int Tryz.underlying22 ty3 rfl rfl (hsm (by omega)) (by omega) (by omega)) ?_ (hJ := Fit.sub)
    refine D.r 10 rfl (Runs.move rfl) ?_ (hJ := Fit.sub)
    refine D.r 11 rfl (Runs.move rfl) ?_ (hJ := Fit.sub)
    refine D.r 12 rfl (Runs.idxs Int Tryz.underlying22 ty3 rfl rfl (hsm (by omega)) (by omega) (by omega)) ?_ (hJ := Fit.sub)
    refine D.step (rs := [9, 13]) (by kernel_rfl) rfl rfl (all2 ?_ (all1 ?_))
    ·refine Step.read rfl (Wanted.plain rfl) rfl rfl (Runs.get (xs := zs) ty3 rfl Sl.o (by omega) (by first | omega | (simp only [List.length_set]; omega))) Fit.sub ?_
     refine D.step (rs := [13]) (by kernel_rfl) rfl rfl (all1 ?_)
     refine Step.read rfl (Wanted.plain rfl) rfl rfl (Runs.get (xs := zs) ty3 rfl Sl.o (by omega) (by first | omega | (simp only [List.length_set]; omega))) Fit.sub ?_
     refine D.r 14 rfl (Runs.idxs Int Tryz.underlying22 ty3 rfl rfl (hsm (by omega)) (by omega) (by omega)) ?_ (hJ := Fit.sub)
     refine D.step (rs := [15]) (by kernel_rfl) rfl rfl (all1 ?_)
     refine Step.eff rfl (Wanted.plain rfl) (Eff.set (α := Int) (xs := zs) (e := 3) (new := at_ zs (((j : Nat) : Int) - 1)) ty3 rfl rfl rfl (by omega) (by first | omega | (simp only [List.length_set]; omega)) (by repeat (first | exact At.head _ _ _ | apply At.tail))) ?_
     rintro _ _ ⟨rfl, rfl⟩
     refine ⟨Fit.sub, ?_⟩
     refine D.r 16 rfl (Runs.idxs Int Tryz.underlying22 ty3 rfl rfl (hsm (by omega)) (by omega) (by omega)) ?_ (hJ := Fit.sub)
     refine D.step (rs := [17]) (by kernel_rfl) rfl rfl (all1 ?_)
     refine Step.eff rfl (Wanted.plain rfl) (Eff.set (α := Int) (xs := List.set zs (((j : Nat) : Int)).toNat (at_ zs (((j : Nat) : Int) - 1))) (e := 3) (new := at_ zs ((j : Nat) : Int)) ty3 rfl rfl rfl (by omega) (by first | omega | (simp only [List.length_set]; omega)) (by repeat (first | exact At.head _ _ _ | apply At.tail))) ?_
     rintro _ _ ⟨rfl, rfl⟩
     refine ⟨Fit.sub, ?_⟩
     refine D.done (by kernel_rfl) ?_
     refine V.block_normal ?_
     refine V.then ?_
     refine W.sub (L' := [(0, _), (1, _), (2, _), (3, _), (8, _), (9, _)]) (Sub.cons rfl (Sub.cons rfl (Sub.cons rfl (Sub.cons rfl (Sub.cons rfl (Sub.cons rfl Sub.nil)))))) ?_
     refine W.region ?_
     refine G.r (Runs.move rfl) ?_
     refine G.r (Runs.sub rfl rfl (by unfold InR; omega)) ?_
     refine G.r (Runs.assign rfl) ?_
     refine G.nil ?_
     exact V.next ((j - 1), (List.set (List.set zs (((j : Nat) : Int)).toNat (at_ zs (((j : Nat) : Int) - 1))) (((j : Nat) : Int) - 1).toNat (at_ zs ((j : Nat) : Int)))) (show ((j - 1 : Nat) ≤ i) ∧ ((List.set (List.set zs (((j : Nat) : Int)).toNat (at_ zs (((j : Nat) : Int) - 1))) (((j : Nat) : Int) - 1).toNat (at_ zs ((j : Nat) : Int)) : List Int) = insAt (isortI cf (xs.take i)) (j - 1 : Nat) (at_ xs ((i : Nat) : Int)) ++ xs.drop (i + 1)) ∧ (placeI cf (isortI cf (xs.take i)) (at_ xs ((i : Nat) : Int)) (j - 1 : Nat) = placeI cf (isortI cf (xs.take i)) (at_ xs ((i : Nat) : Int)) i) from ⟨(by omega), (by have hsw := ins_swap (l := (isortI cf (xs.take i))) (r := xs.drop (i + 1)) (x := (at_ xs ((i : Nat) : Int))) (show 0 < j by omega) (by omega); rw [← hzs, ← hz0, ← hz1 (by omega)] at hsw; rw [hz0] at hsw ⊢; rw [show ((((j : Nat) : Int)).toNat) = j by omega, show ((((j : Nat) : Int) - 1).toNat) = j - 1 by omega]; exact hsw), ((place_step (by omega) (by rw [← hz1 (by omega), ← hz0]; assumption)).trans hpl)⟩) (show (j - 1 : Nat) < j from (by omega)) (Sub.cons rfl (Sub.cons rfl (Sub.cons rfl (Sub.cons rfl (Sub.cons rfl (Sub.cons lookO Sub.nil)))))) (show Fit κ _ (vc 3 (.slice a xs.length c) ((List.set (List.set zs (((j : Nat) : Int)).toNat (at_ zs (((j : Nat) : Int) - 1))) (((j : Nat) : Int) - 1).toNat (at_ zs ((j : Nat) : Int)))) :: I) from Fit.sub)
    ·refine Step.read rfl (Wanted.plain rfl) rfl rfl (Runs.get (xs := zs) ty3 rfl Sl.o (by omega) (by first | omega | (simp only [List.length_set]; omega))) Fit.sub ?_
     refine D.step (rs := [9]) (by kernel_rfl) rfl rfl (all1 ?_)
     refine Step.read rfl (Wanted.plain rfl) rfl rfl (Runs.get (xs := zs) ty3 rfl Sl.o (by omega) (by first | omega | (simp only [List.length_set]; omega))) Fit.sub ?_
     refine D.r 14 rfl (Runs.idxs Int Tryz.underlying22 ty3 rfl rfl (hsm (by omega)) (by omega) (by omega)) ?_ (hJ := Fit.sub)
     refine D.step (rs := [15]) (by kernel_rfl) rfl rfl (all1 ?_)
     refine Step.eff rfl (Wanted.plain rfl) (Eff.set (α := Int) (xs := zs) (e := 3) (new := at_ zs (((j : Nat) : Int) - 1)) ty3 rfl rfl rfl (by omega) (by first | omega | (simp only [List.length_set]; omega)) (by repeat (first | exact At.head _ _ _ | apply At.tail))) ?_
     rintro _ _ ⟨rfl, rfl⟩
     refine ⟨Fit.sub, ?_⟩
     refine D.r 16 rfl (Runs.idxs Int Tryz.underlying22 ty3 rfl rfl (hsm (by omega)) (by omega) (by omega)) ?_ (hJ := Fit.sub)
     refine D.step (rs := [17]) (by kernel_rfl) rfl rfl (all1 ?_)
     refine Step.eff rfl (Wanted.plain rfl) (Eff.set (α := Int) (xs := List.set zs (((j : Nat) : Int)).toNat (at_ zs (((j : Nat) : Int) - 1))) (e := 3) (new := at_ zs ((j : Nat) : Int)) ty3 rfl rfl rfl (by omega) (by first | omega | (simp only [List.length_set]; omega)) (by repeat (first | exact At.head _ _ _ | apply At.tail))) ?_
     rintro _ _ ⟨rfl, rfl⟩
     refine ⟨Fit.sub, ?_⟩
     refine D.done (by kernel_rfl) ?_
     refine V.block_normal ?_
     refine V.then ?_
     refine W.sub (L' := [(0, _), (1, _), (2, _), (3, _), (8, _), (9, _)]) (Sub.cons rfl (Sub.cons rfl (Sub.cons rfl (Sub.cons rfl (Sub.cons rfl (Sub.cons rfl Sub.nil)))))) ?_
     refine W.region ?_
     refine G.r (Runs.move rfl) ?_
     refine G.r (Runs.sub rfl rfl (by unfold InR; omega)) ?_
     refine G.r (Runs.assign rfl) ?_
     refine G.nil ?_
     exact V.next ((j - 1), (List.set (List.set zs (((j : Nat) : Int)).toNat (at_ zs (((j : Nat) : Int) - 1))) (((j : Nat) : Int) - 1).toNat (at_ zs ((j : Nat) : Int)))) (show ((j - 1 : Nat) ≤ i) ∧ ((List.set (List.set zs (((j : Nat) : Int)).toNat (at_ zs (((j : Nat) : Int) - 1))) (((j : Nat) : Int) - 1).toNat (at_ zs ((j : Nat) : Int)) : List Int) = insAt (isortI cf (xs.take i)) (j - 1 : Nat) (at_ xs ((i : Nat) : Int)) ++ xs.drop (i + 1)) ∧ (placeI cf (isortI cf (xs.take i)) (at_ xs ((i : Nat) : Int)) (j - 1 : Nat) = placeI cf (isortI cf (xs.take i)) (at_ xs ((i : Nat) : Int)) i) from ⟨(by omega), (by have hsw := ins_swap (l := (isortI cf (xs.take i))) (r := xs.drop (i + 1)) (x := (at_ xs ((i : Nat) : Int))) (show 0 < j by omega) (by omega); rw [← hzs, ← hz0, ← hz1 (by omega)] at hsw; rw [hz0] at hsw ⊢; rw [show ((((j : Nat) : Int)).toNat) = j by omega, show ((((j : Nat) : Int) - 1).toNat) = j - 1 by omega]; exact hsw), ((place_step (by omega) (by rw [← hz1 (by omega), ← hz0]; assumption)).trans hpl)⟩) (show (j - 1 : Nat) < j from (by omega)) (Sub.cons rfl (Sub.cons rfl (Sub.cons rfl (Sub.cons rfl (Sub.cons rfl (Sub.cons lookO Sub.nil)))))) (show Fit κ _ (vc 3 (.slice a xs.length c) ((List.set (List.set zs (((j : Nat) : Int)).toNat (at_ zs (((j : Nat) : Int) - 1))) (((j : Nat) : Int) - 1).toNat (at_ zs ((j : Nat) : Int)))) :: I) from Fit.sub)
   ·refine W.exit ?_
    refine V.then_exit ?_
    refine V.then_exit ?_
    refine V.block_hit ?_
    refine V.block_normal ?_
    refine V.then ?_
    refine W.region ?_
    refine G.r (Runs.move rfl) ?_
    refine G.r (Runs.add rfl rfl (by unfold InR; omega)) ?_
    refine G.r (Runs.assign rfl) ?_
    refine G.nil ?_
    exact V.next ((i + 1), (zs)) (show (1 ≤ (i + 1 : Nat) ∧ ((i + 1 : Nat) ≤ xs.length ∨ (i + 1 : Nat) = 1)) ∧ ((zs : List Int) = (isortI cf (xs.take (i + 1 : Nat))) ++ xs.drop (i + 1 : Nat)) from ⟨(by omega), (by rw [hzs]; exact ins_ends (by omega) hpl (by first | exact .inl (by omega) | (by_cases h0 : j = 0; (· exact .inl h0); (· exact .inr ⟨by omega, by rw [← hz0, ← hz1 (by omega)]; assumption⟩))))⟩) (show xs.length - (i + 1 : Nat) < xs.length - i from (by omega)) (Sub.cons rfl (Sub.cons rfl (Sub.cons rfl (Sub.cons rfl (Sub.cons lookO Sub.nil))))) (show Fit κ _ (vc 3 (.slice a xs.length c) ((zs)) :: I) from Fit.sub)
  ·refine D.pass 4 rfl (by kernel_rfl) (by kernel_rfl) (by kernel_rfl) rfl (by kernel_rfl) (fun _ _ _ _ h => h) (Unwanted.off rfl rfl rfl) rfl rfl Fit.sub ?_
   refine D.pass 5 rfl (by kernel_rfl) (by kernel_rfl) (by kernel_rfl) rfl (by kernel_rfl) (fun _ _ _ _ h => h) (Unwanted.off rfl rfl rfl) rfl rfl Fit.sub ?_
   refine D.pass 6 rfl (by kernel_rfl) (by kernel_rfl) (by kernel_rfl) rfl (by kernel_rfl) (fun _ _ _ _ h => h) (Unwanted.off rfl rfl rfl) rfl rfl Fit.sub ?_
   refine D.pass 7 rfl (by kernel_rfl) (by kernel_rfl) (by kernel_rfl) rfl (by kernel_rfl) (fun _ _ _ _ h => h) (Unwanted.off rfl rfl rfl) rfl rfl Fit.sub ?_
   refine D.pass 8 rfl (by kernel_rfl) (by kernel_rfl) (by kernel_rfl) rfl (by kernel_rfl) (fun _ _ _ _ h => h) (Unwanted.off rfl rfl rfl) rfl rfl Fit.sub ?_
   refine D.pass 9 rfl (by kernel_rfl) (by kernel_rfl) (by kernel_rfl) rfl (by kernel_rfl) (fun _ _ _ _ h => h) (Unwanted.off rfl rfl rfl) rfl rfl Fit.sub ?_
   refine D.pass 10 rfl (by kernel_rfl) (by kernel_rfl) (by kernel_rfl) rfl (by kernel_rfl) (fun _ _ _ _ h => h) (Unwanted.off rfl rfl rfl) rfl rfl Fit.sub ?_
   refine D.pass 11 rfl (by kernel_rfl) (by kernel_rfl) (by kernel_rfl) rfl (by kernel_rfl) (fun _ _ _ _ h => h) (Unwanted.off rfl rfl rfl) rfl rfl Fit.sub ?_
   refine D.pass 12 rfl (by kernel_rfl) (by kernel_rfl) (by kernel_rfl) rfl (by kernel_rfl) (fun _ _ _ _ h => h) (Unwanted.off rfl rfl rfl) rfl rfl Fit.sub ?_
   refine D.pass 13 rfl (by kernel_rfl) (by kernel_rfl) (by kernel_rfl) rfl (by kernel_rfl) (fun _ _ _ _ h => h) (Unwanted.off rfl rfl rfl) rfl rfl Fit.sub ?_
   refine D.pass 14 rfl (by kernel_rfl) (by kernel_rfl) (by kernel_rfl) rfl (by kernel_rfl) (fun _ _ _ _ h => h) (Unwanted.off rfl rfl rfl) rfl rfl Fit.sub ?_
   refine D.pass 15 rfl (by kernel_rfl) (by kernel_rfl) (by kernel_rfl) rfl (by kernel_rfl) (fun _ _ _ _ h => h) (Unwanted.off rfl rfl rfl) rfl rfl Fit.sub ?_
   refine D.r 16 rfl (Runs.pickf rfl rfl) ?_ (hJ := Fit.sub)
   refine D.done (by kernel_rfl) ?_
   refine V.then ?_
   refine W.sub (L' := [(34, _), (0, _), (1, _), (2, _), (3, _), (8, _), (9, _)]) (Sub.cons rfl (Sub.cons rfl (Sub.cons rfl (Sub.cons rfl (Sub.cons rfl (Sub.cons rfl (Sub.cons rfl Sub.nil))))))) ?_
   refine W.no rfl ?_
   refine W.exit ?_
   refine V.then_exit ?_
   refine V.then_exit ?_
   refine V.block_hit ?_
   refine V.block_normal ?_
   refine V.then ?_
   refine W.region ?_
   refine G.r (Runs.move rfl) ?_
   refine G.r (Runs.add rfl rfl (by unfold InR; omega)) ?_
   refine G.r (Runs.assign rfl) ?_
   refine G.nil ?_
   exact V.next ((i + 1), (zs)) (show (1 ≤ (i + 1 : Nat) ∧ ((i + 1 : Nat) ≤ xs.length ∨ (i + 1 : Nat) = 1)) ∧ ((zs : List Int) = (isortI cf (xs.take (i + 1 : Nat))) ++ xs.drop (i + 1 : Nat)) from ⟨(by omega), (by rw [hzs]; exact ins_ends (by omega) hpl (by first | exact .inl (by omega) | (by_cases h0 : j = 0; (· exact .inl h0); (· exact .inr ⟨by omega, by rw [← hz0, ← hz1 (by omega)]; assumption⟩))))⟩) (show xs.length - (i + 1 : Nat) < xs.length - i from (by omega)) (Sub.cons rfl (Sub.cons rfl (Sub.cons rfl (Sub.cons rfl (Sub.cons lookO Sub.nil))))) (show Fit κ _ (vc 3 (.slice a xs.length c) ((zs)) :: I) from Fit.sub)
 ·refine W.exit ?_
  refine V.then_exit ?_
  refine V.then_exit ?_
  refine V.block_hit ?_
  have hE : ys = isortI cf xs := by rw [hy]; rcases hi.2 with h | h; (· have e : i = xs.length := (by omega); rw [e, List.take_length, List.drop_length, List.append_nil]); (· rw [List.take_of_length_le (by omega), List.drop_eq_nil_of_le (by omega), List.append_nil])
  exact V.end0 rfl (vc 3 (.slice a xs.length c) (isortI cf xs) :: I) (by rw [hE]; exact Fit.sub) ⟨rfl, rfl⟩

theorem Stable_ok {κ : Ctx} {I : List Item} {a : Option Addr} {c : Nat} {xs : List Int} {g : FuncId} {cp_ : List Value} {p : Int → Prop} {cf : Int → Int → Int} (hcb : CmpsI Tryz.prog κ I g cp_ p cf) (hpx : ∀ x ∈ xs, p x) (hn : xs.length ≤ 19) :
    CallS Tryz.prog κ 150 [.slice a xs.length c, I64 (((xs.length : Nat) : Int)), .func (.func g) #[] cp_.toArray] (vc 3 (.slice a xs.length c) (xs) :: I) (fun r J => r = .tuple #[] ∧ J = vc 3 (.slice a xs.length c) (isortI cf xs) :: I) := by
 refine CallS.enter (L := [(0, .slice a xs.length c), (1, I64 (((xs.length : Nat) : Int))), (2, .func (.func g) #[] cp_.toArray)]) Tryz.func150 rfl rfl rfl rfl ?_
 refine W.sr ?_
 refine G.r (Runs.assign rfl) ?_
 refine G.nt ?_
 refine W.sr ?_
 refine G.r (Runs.move rfl) ?_
 refine G.r (Runs.assign rfl) ?_
 refine G.r (Runs.assign rfl) ?_
 refine G.nt ?_
 refine W.seq ?_
 refine W.block ?_
 refine W.loop (σ := Nat) (fun s => ([(0, .slice a xs.length c), (1, I64 (((xs.length : Nat) : Int))), (2, .func (.func g) #[] cp_.toArray), (6, I64 (20)), (7, I64 (0)), (8, I64 (20))] : Env)) (fun s => vc 3 (.slice a xs.length c) (xs) :: I) (fun s => True) (fun s => 0) (0) (show True from trivial) (Sub.cons rfl (Sub.cons rfl (Sub.cons rfl (Sub.cons rfl (Sub.cons rfl (Sub.cons rfl Sub.nil)))))) (show Fit κ _ (vc 3 (.slice a xs.length c) (xs) :: I) from Fit.sub) ?_
 rintro z hp
 show W Tryz.prog κ 63 _ _ ([(0, .slice a xs.length c), (1, I64 (((xs.length : Nat) : Int))), (2, .func (.func g) #[] cp_.toArray), (6, I64 (20)), (7, I64 (0)), (8, I64 (20))] : Env) (vc 3 (.slice a xs.length c) (xs) :: I)
 refine W.seq ?_
 refine W.sr ?_
 refine G.r (Runs.move rfl) ?_
 refine G.r (Runs.move rfl) ?_
 refine G.r (Runs.leq rfl rfl) ?_
 refine G.nt ?_
 refine W.ite rfl (fun c13 => ?_) (fun c13 => ?_)
 ·omega
 ·refine W.exit ?_
  refine V.then_exit ?_
  refine V.then_exit ?_
  refine V.block_hit ?_
  refine V.then ?_
  refine W.sr ?_
  refine G.r (Runs.move rfl) ?_
  refine G.r (Runs.move rfl) ?_
  refine G.r (Runs.move rfl) ?_
  refine G.r (Runs.move rfl) ?_
  refine G.e (Eff.call call172 rfl rfl (InsSort_ok hcb hpx (by omega))) ?_
  rintro _ _ ⟨_, _, ⟨rfl, rfl⟩, rfl, rfl⟩
  refine G.nt ?_
  refine W.sub (L' := [(0, _), (1, _), (2, _), (6, _)]) (Sub.cons rfl (Sub.cons rfl (Sub.cons rfl (Sub.cons rfl Sub.nil)))) ?_
  refine W.block ?_
  refine W.loop (σ := Nat) (fun s => ([(0, .slice a xs.length c), (1, I64 (((xs.length : Nat) : Int))), (2, .func (.func g) #[] cp_.toArray), (6, I64 (20))] : Env)) (fun s => vc 3 (.slice a xs.length c) (isortI cf xs) :: I) (fun s => True) (fun s => 0) (0) (show True from trivial) (Sub.cons rfl (Sub.cons rfl (Sub.cons rfl (Sub.cons rfl Sub.nil)))) (show Fit κ _ (vc 3 (.slice a xs.length c) (isortI cf xs) :: I) from Fit.sub) ?_
  rintro z hp
  show W Tryz.prog κ 63 _ _ ([(0, .slice a xs.length c), (1, I64 (((xs.length : Nat) : Int))), (2, .func (.func g) #[] cp_.toArray), (6, I64 (20))] : Env) (vc 3 (.slice a xs.length c) (isortI cf xs) :: I)
  refine W.seq ?_
  refine W.sr ?_
  refine G.r (Runs.move rfl) ?_
  refine G.r (Runs.move rfl) ?_
  refine G.r (Runs.lss rfl rfl) ?_
  refine G.nt ?_
  refine W.ite rfl (fun c30 => ?_) (fun c30 => ?_)
  ·omega
  ·refine W.exit ?_
   refine V.then_exit ?_
   refine V.then_exit ?_
   refine V.block_hit ?_
   exact V.end0 rfl (vc 3 (.slice a xs.length c) (isortI cf xs) :: I) Fit.sub ⟨rfl, rfl⟩

theorem SortStable_ok {κ : Ctx} {I : List Item} {a : Option Addr} {c : Nat} {xs : List Int} {g : FuncId} {cp_ : List Value} {p : Int → Prop} {cf : Int → Int → Int} (hcb : CmpsI Tryz.prog κ I g cp_ p cf) (hpx : ∀ x ∈ xs, p x) (hn : xs.length ≤ 19) :
    CallS Tryz.prog κ 122 [.slice a xs.length c, .func (.func g) #[] cp_.toArray] (vc 3 (.slice a xs.length c) (xs) :: I) (fun r J => r = .tuple #[] ∧ J = vc 3 (.slice a xs.length c) (isortI cf xs) :: I) := by
 refine CallS.enter (L := [(0, .slice a xs.length c), (1, .func (.func g) #[] cp_.toArray)]) Tryz.func122 rfl rfl rfl rfl ?_
 refine W.region ?_
 refine G.r (Runs.move rfl) ?_
 refine G.r (Runs.move rfl) ?_
 refine G.r (Runs.lens Tryz.underlying22 rfl) ?_
 refine G.r (Runs.move rfl) ?_
 refine G.e (Eff.call call150 rfl rfl (Stable_ok hcb hpx hn)) ?_
 rintro _ _ ⟨_, _, ⟨rfl, rfl⟩, rfl, rfl⟩
 refine G.nil ?_
 exact V.end0 rfl (vc 3 (.slice a xs.length c) (isortI cf xs) :: I) Fit.sub ⟨rfl, rfl⟩

end Go.Sl
