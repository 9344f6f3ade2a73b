/- A part of the proofs of statements of this seat: contracts of functions, and the plain laws that they lean on. No conditions. -/
import Derived.Test.YtbimaodbcjjbfaaGreatDoorGraphH5
import Derived.Test.YtbimaodbcjjbfaaGreatDoorRunsD5
/- Numbers of 128 bits whose upper half is nothing; division bit by bit. No conditions. -/
namespace Go.Sl
set_option linter.unusedVariables false
set_option linter.unusedSimpArgs false
/-- A number of 128 bits. -/
structure Wd where
  hi : Int
  lo : Int
deriving DecidableEq
instance : Inhabited Wd := ⟨⟨0, 0⟩⟩
instance : Enc Wd := ⟨fun r => [.int .u64 r.hi, .int .u64 r.lo], 2, by omega, fun _ => rfl, fun r u hu => by
  simp only [List.mem_cons, List.not_mem_nil, or_false] at hu
  rcases hu with rfl | rfl <;> rfl⟩
section
variable {P : Program}
/-- Fields of one number each, one after the other. -/
def flatU (P : Program) : List Field → Nat → Bool
  | [], _ => true
  | f :: fs, o => (f.name != "_") && (match P.underlying f.type with | some (.int .u64) => true | _ => false) && (f.offset == o) && flatU P fs (o + 1)
theorem run_eqFlatU (d : Nat) (w : World) (ns ms : List Int) : ∀ (fs : List Field) (o : Nat), flatU P fs o = true → ns.length = o + fs.length → ms.length = o + fs.length →
    (Op.eqFields (d + 1) (ns.map (Value.int .u64)).toArray (ms.map (Value.int .u64)).toArray fs).run P w = .ok (decide (ns.drop o = ms.drop o)) w
  | [], o, _, hn, hm => by
    have h1 : ns.drop o = [] := List.drop_eq_nil_of_le (by simp at hn; omega)
    have h2 : ms.drop o = [] := List.drop_eq_nil_of_le (by simp at hm; omega)
    simp [Op.eqFields, h1, h2]
  | f :: fs, o, h, hn, hm => by
    simp only [flatU, Bool.and_eq_true, bne_iff_ne, beq_iff_eq] at h
    obtain ⟨⟨⟨h1, h2⟩, h3⟩, h4⟩ := h
    have hu : P.underlying f.type = some (.int .u64) := by
      revert h2
      split
      · intro _; assumption
      · intro h; cases h
    simp only [List.length_cons] at hn hm
    have hno : o < ns.length := by omega
    have hmo : o < ms.length := by omega
    have ha : (isAgg f.type).run P w = .ok false w := by simp [isAgg, run_underlying hu]
    have hp : ∀ (ks : List Int) (hk : o < ks.length), (part f.type (ks.map (Value.int .u64)).toArray f.offset).run P w = .ok ((Value.int .u64) ks[o]) w := fun ks hk => by
      simp [part, ha, h3, hk]
    have ih := run_eqFlatU d w ns ms fs (o + 1) h4 (by omega) (by omega)
    simp only [Op.eqFields, if_pos h1, Sem.run_bind, hp ns hno, hp ms hmo, Result.andThen_ok, run_equalIn_int _ _ _ _ _ _ _ hu]
    have key : (ns.drop o = ms.drop o) ↔ (ns[o] = ms[o] ∧ ns.drop (o + 1) = ms.drop (o + 1)) := by rw [List.drop_eq_getElem_cons hno, List.drop_eq_getElem_cons hmo, List.cons.injEq]
    have key2 : decide (ns.drop o = ms.drop o) = decide (ns[o] = ms[o] ∧ ns.drop (o + 1) = ms.drop (o + 1)) := decide_eq_decide.2 key
    rw [key2]
    by_cases he : ns[o] = ms[o]
    · simp [he, ih]
    · simp [he]
theorem EqT.flatU {α : Type} [Enc α] [DecidableEq α] {T n : Nat} (ints : α → List Int) (henc : ∀ x, Enc.enc x = (ints x).map (Value.int .u64)) (hinj : ∀ x y, ints x = ints y → x = y) (hlen : ∀ x, (ints x).length = n)
    (ht : P.underlying T = some (.struct (P.fieldsOf T))) (hp : P.stoodInHeld T = false) (hf : flatU P (P.fieldsOf T).toList 0 = true) (hn : (P.fieldsOf T).size = n) (hg : P.eqGuardType P.depth T = false) : EqT P T α := by
  refine ⟨fun x y w => ?_, hg⟩
  rw [show (10000 : Nat) = 9999 + 1 from rfl, run_equalIn_struct w 9999 T _ _ ht hp, henc, henc, show (9999 : Nat) = 9998 + 1 from rfl,
    run_eqFlatU 9998 w (ints x) (ints y) _ 0 hf (by rw [hlen, Array.length_toList, hn]; omega) (by rw [hlen, Array.length_toList, hn]; omega)]
  congr 1
  rw [List.drop_zero, List.drop_zero, decide_eq_decide]
  exact ⟨hinj x y, fun e => by rw [e]⟩
end
/-- One bit. -/
def bitA (a i : Int) : Int := a / 2 ^ i.toNat % 2
theorem bitA_two (a i : Int) : bitA a i = 0 ∨ bitA a i = 1 := by unfold bitA; omega
theorem u64_nat {n : Int} (h0 : 0 ≤ n) (h1 : n < 18446744073709551616) : ∃ b : BitVec 64, n = (b.toNat : Int) :=
  ⟨BitVec.ofNat 64 n.toNat, by rw [BitVec.toNat_ofNat]; omega⟩
section
variable {P : Program} {κ : Ctx} {N : Nat} {L : Env} {J : List Item} {d : Option Tmp} {ty : TypeId} {ps : String} {af : Array Edge} {gd : Option (Nat × Bool)} {x y : Operand} {T U : TypeId} {k' : IntKind}
theorem Runs.shlU {m : Int} (hx : evalO L x = some (.int .u64 m)) (hy : evalO L y = some (.int k' 1)) (h0 : 0 ≤ m) (h1 : m < 9223372036854775808) : Runs P κ N ⟨d, .binOp .shl T x y U, ty, ps, af, gd⟩ L J (.int .u64 (2 * m)) := by
  have h := Runs.shlw (P := P) (κ := κ) (N := N) (J := J) (d := d) (ty := ty) (ps := ps) (af := af) (gd := gd) (T := T) (U := U) hx hy (by decide)
  have e : IntKind.u64.wrap (m * 2 ^ Min.min (1 : Int).toNat IntKind.u64.bits) = 2 * m := by
    rw [show Min.min (1 : Int).toNat IntKind.u64.bits = 1 from rfl, u64_wrap]; omega
  rwa [e] at h
theorem Runs.shr63 {m : Int} (hx : evalO L x = some (.int .u64 m)) (hy : evalO L y = some (.int k' 63)) (h0 : 0 ≤ m) (h1 : m < 9223372036854775808) : Runs P κ N ⟨d, .binOp .shr T x y U, ty, ps, af, gd⟩ L J (.int .u64 0) := by
  have h := Runs.shrw (P := P) (κ := κ) (N := N) (J := J) (d := d) (ty := ty) (ps := ps) (af := af) (gd := gd) (T := T) (U := U) hx hy (by decide)
  have e : m.fdiv (2 ^ Min.min (63 : Int).toNat IntKind.u64.bits) = 0 := by
    rw [show Min.min (63 : Int).toNat IntKind.u64.bits = 63 from rfl, Int.fdiv_eq_ediv_of_nonneg _ (by decide)]; omega
  rwa [e] at h
theorem Runs.shrU {m n : Int} (hx : evalO L x = some (.int .u64 m)) (hy : evalO L y = some (.int k' n)) (h0 : 0 ≤ n) (h1 : n < 64) : Runs P κ N ⟨d, .binOp .shr T x y U, ty, ps, af, gd⟩ L J (.int .u64 (m / 2 ^ n.toNat)) := by
  have h := Runs.shrw (P := P) (κ := κ) (N := N) (J := J) (d := d) (ty := ty) (ps := ps) (af := af) (gd := gd) (T := T) (U := U) hx hy h0
  have e : m.fdiv (2 ^ Min.min n.toNat IntKind.u64.bits) = m / 2 ^ n.toNat := by
    rw [show Min.min n.toNat IntKind.u64.bits = n.toNat by show Min.min n.toNat 64 = _; omega, Int.fdiv_eq_ediv_of_nonneg _ (Int.pow_nonneg (by decide))]
  rwa [e] at h
theorem Runs.zeroU {n : Int} (hx : evalO L x = some (.int .u64 0)) (hy : evalO L y = some (.int k' n)) (h0 : 0 ≤ n) (h1 : n < 64) : Runs P κ N ⟨d, .binOp .shr T x y U, ty, ps, af, gd⟩ L J (.int .u64 0) := by
  have h := Runs.shrU (P := P) (κ := κ) (N := N) (J := J) (d := d) (ty := ty) (ps := ps) (af := af) (gd := gd) (T := T) (U := U) hx hy h0 h1
  rwa [Int.zero_ediv] at h
theorem Runs.and1U {m : Int} (hx : evalO L x = some (.int .u64 m)) (hy : evalO L y = some (.int .u64 1)) (h0 : 0 ≤ m) (h1 : m < 18446744073709551616) : Runs P κ N ⟨d, .binOp .and T x y U, ty, ps, af, gd⟩ L J (.int .u64 (m % 2)) := by
  obtain ⟨b, rfl⟩ := u64_nat h0 h1
  have h := Runs.andB (P := P) (κ := κ) (N := N) (J := J) (d := d) (ty := ty) (ps := ps) (af := af) (gd := gd) (T := T) (U := U) (b := 1#64) hx hy
  have e : ((b &&& 1#64).toNat : Int) = (b.toNat : Int) % 2 := by
    rw [BitVec.toNat_and, show (1#64).toNat = 1 from rfl, Nat.and_one_is_mod]; rfl
  show Runs P κ N _ L J (.int .u64 ((b.toNat : Int) % 2))
  rw [← e]; exact h
theorem Runs.bitU {a i : Int} (hx : evalO L x = some (.int .u64 (a / 2 ^ i.toNat))) (hy : evalO L y = some (.int .u64 1)) (h0 : 0 ≤ a) (h1 : a < 18446744073709551616) : Runs P κ N ⟨d, .binOp .and T x y U, ty, ps, af, gd⟩ L J (.int .u64 (bitA a i)) :=
  Runs.and1U hx hy (Int.ediv_nonneg h0 (Int.pow_nonneg (by decide))) (Int.lt_of_le_of_lt (Int.ediv_le_self _ h0) h1)
theorem Runs.zand (hx : evalO L x = some (.int .u64 0)) (hy : evalO L y = some (.int .u64 1)) : Runs P κ N ⟨d, .binOp .and T x y U, ty, ps, af, gd⟩ L J (.int .u64 0) :=
  Runs.and1U hx hy (by decide) (by decide)
theorem Runs.or1U {m : Int} (hx : evalO L x = some (.int .u64 (2 * m))) (hy : evalO L y = some (.int .u64 1)) (h0 : 0 ≤ m) (h1 : m < 9223372036854775808) : Runs P κ N ⟨d, .binOp .or T x y U, ty, ps, af, gd⟩ L J (.int .u64 (2 * m + 1)) := by
  obtain ⟨b, hb⟩ := u64_nat (n := 2 * m) (by omega) (by omega)
  rw [hb] at hx
  have h := Runs.orB (P := P) (κ := κ) (N := N) (J := J) (d := d) (ty := ty) (ps := ps) (af := af) (gd := gd) (T := T) (U := U) (b := 1#64) hx hy
  have hz : b &&& 1#64 = 0#64 := BitVec.eq_of_toNat_eq (by rw [BitVec.toNat_and, show (1#64).toNat = 1 from rfl, Nat.and_one_is_mod]; show b.toNat % 2 = 0; omega)
  have e : ((b ||| 1#64).toNat : Int) = 2 * m + 1 := by
    rw [← BitVec.add_eq_or_of_and_eq_zero _ _ hz, BitVec.toNat_add, show (1#64).toNat = 1 from rfl]; omega
  show Runs P κ N _ L J (.int .u64 (2 * m + 1))
  rw [← e]; exact h
theorem Runs.orZ (hx : evalO L x = some (.int .u64 (2 * 0))) (hy : evalO L y = some (.int .u64 0)) : Runs P κ N ⟨d, .binOp .or T x y U, ty, ps, af, gd⟩ L J (.int .u64 0) :=
  Runs.orB (a := 0#64) (b := 0#64) hx hy
theorem Runs.subU {m n : Int} (hx : evalO L x = some (.int .u64 m)) (hy : evalO L y = some (.int .u64 n)) (h0 : 0 ≤ n) (h1 : n ≤ m) (h2 : m < 18446744073709551616) : Runs P κ N ⟨d, .binOp .sub T x y U, ty, ps, af, gd⟩ L J (.int .u64 (m - n)) := by
  have h := Runs.subw (P := P) (κ := κ) (N := N) (J := J) (d := d) (ty := ty) (ps := ps) (af := af) (gd := gd) (T := T) (U := U) hx hy
  have e : IntKind.u64.wrap (m - n) = m - n := by rw [u64_wrap]; omega
  rwa [e] at h
end
/-! Division, a bit at a time. -/
theorem bit_step {a i : Int} (h0 : 0 ≤ a) (hi : 0 ≤ i) : a / 2 ^ i.toNat = 2 * (a / 2 ^ (i + 1).toNat) + bitA a i := by
  have e : (2 : Int) ^ (i + 1).toNat = 2 ^ i.toNat * 2 := by rw [show (i + 1).toNat = i.toNat + 1 by omega, Int.pow_succ]
  unfold bitA
  rw [e, ← Int.ediv_ediv_of_nonneg (Int.pow_nonneg (by decide))]
  omega
theorem div_n0 {a b q r r' i : Int} (h0 : 0 ≤ a) (h : a / 2 ^ (i + 1).toNat = q * b + r) (hi : 0 ≤ i) (hr : r' = 2 * r + bitA a i) : a / 2 ^ (i - 1 + 1).toNat = 2 * q * b + r' := by
  rw [show i - 1 + 1 = i by omega, bit_step h0 hi, h, hr, Int.mul_add, Int.mul_assoc]; omega
theorem div_n1 {a b q r r' i : Int} (h0 : 0 ≤ a) (h : a / 2 ^ (i + 1).toNat = q * b + r) (hi : 0 ≤ i) (hr : r' = 2 * r + bitA a i) : a / 2 ^ (i - 1 + 1).toNat = (2 * q + 1) * b + (r' - b) := by
  rw [div_n0 h0 h hi hr, Int.add_mul, Int.one_mul]; omega
theorem bitA_high {a i : Int} (h0 : 0 ≤ a) (h1 : a < 9223372036854775808) (hi : 63 ≤ i) : bitA a i = 0 := by
  unfold bitA
  rw [Int.ediv_eq_zero_of_lt h0]
  · rfl
  · have : (2 : Int) ^ 63 ≤ 2 ^ i.toNat := by have h := Nat.pow_le_pow_right (n := 2) (by decide) (show 63 ≤ i.toNat by omega); exact_mod_cast h
    omega
theorem div_start {a b : Int} (h0 : 0 ≤ a) (h1 : a < 9223372036854775808) : a / 2 ^ ((127 : Int) + 1).toNat = 0 * b + 0 := by
  rw [Int.ediv_eq_zero_of_lt h0]
  · omega
  · exact Int.lt_of_lt_of_le h1 (by decide +kernel)
theorem div_end {a b q r i : Int} (h : a / 2 ^ (i + 1).toNat = q * b + r) (hi : i = -1) (h0 : 0 ≤ r) (h1 : r < b) : q = a / b ∧ r = a % b := by
  subst hi
  rw [show ((-1 : Int) + 1).toNat = 0 from rfl, Int.pow_zero, Int.ediv_one] at h
  have hb : 0 < b := by omega
  have e1 : a / b = q := by rw [h, Int.add_comm, Int.add_mul_ediv_right _ _ (by omega), Int.ediv_eq_zero_of_lt h0 h1]; omega
  have e2 : a % b = r := by rw [h, Int.add_comm, Int.add_mul_emod_self_right, Int.emod_eq_of_lt h0 h1]
  exact ⟨e1.symm, e2.symm⟩
theorem div_bd {a b q r i : Int} (h0 : 0 ≤ a) (h : a / 2 ^ (i + 1).toNat = q * b + r) (hr : 0 ≤ r) (hb : 0 < b) (hq : 0 ≤ q) : q ≤ a := by
  have h1 : a / 2 ^ (i + 1).toNat ≤ a := Int.ediv_le_self _ h0
  have h2 : q * 1 ≤ q * b := Int.mul_le_mul_of_nonneg_left (by omega) hq
  omega
/-- Two struct results in blocks. -/
theorem V.retcc {P : Program} {κ : Ctx} {N : Nat} {L : Env} {I : List Item} {fn : Func} {t u : Tmp} {T U b b' E E' sz sz' by' by2 : Nat} {z z' cs ds : List Value} {Post : Value → List Item → Prop} (hr : fn.results = #[.cell t T, .cell u U]) (hT : tyF P T = some (sz, true, by', z)) (hU : tyF P U = some (sz', true, by2, z'))
    (hv : look L t = some (.pointer (some ⟨b, 0, none⟩))) (hv' : look L u = some (.pointer (some ⟨b', 0, none⟩))) (hb : blk b cs E ∈ I) (hb' : blk b' ds E' ∈ I)
    (hl : cs.length = sz) (hl' : ds.length = sz') (J : List Item) (hf : Fit κ I J) (hp : Post (.tuple #[.agg cs.toArray, .agg ds.toArray]) J) : V κ N (bodyPost P fn (RetR κ Post)) .ret L I :=
  fun a w ha hs => by
    have hcell := fun j => cell_blk (w := w) (hs.ok _ hb).1 j
    have hcell2 := fun j => cell_blk (w := w) (hs.ok _ hb').1 j
    have hload : (loadVar T ⟨b, 0, none⟩).run P w = .ok (.agg cs.toArray) w := run_loadVar_agg hT hl fun j u hj => by rw [addr_add, hcell, ← hj]; simp
    have hload2 : (loadVar U ⟨b', 0, none⟩).run P w = .ok (.agg ds.toArray) w := run_loadVar_agg hU hl' fun j u hj => by rw [addr_add, hcell2, ← hj]; simp
    refine bodyPost_ret (v := .tuple #[.agg cs.toArray, .agg ds.toArray]) ?_ ha.defers ⟨_, J, rfl, hp, hf w hs⟩
    simp [results, hr, ha.get t _ hv, ha.get u _ hv', asAddr, hload, hload2]
end Go.Sl
