/- A part of the proofs of statements of this seat: contracts of functions, and the plain laws that they lean on. No conditions. -/
import Derived.Test.YtbimaodbcjjbfaaDoorRunsV4
import Derived.Test.YtbimaodbcjjbfaaDoorTy
import Derived.Test.YtbimaodbcjjbfaaDoorLib
import Derived.Test.YtbimaodbcjjbfaaDoorGraphG5
import Derived.Test.YtbimaodbcjjbfaaDoorRunsD5
import Derived.Test.YtbimaodbcjjbfaaDoorRunsT
import Derived.Test.YtbimaodbcjjbfaaDoorRunsW
/- Numbers of 64 bits as bit vectors. No conditions. -/
namespace Go.Sl
set_option linter.unusedVariables false
set_option linter.unusedSimpArgs false
/-- A number of 64 bits. -/
abbrev U64 (b : BitVec 64) : Value := .int .u64 (b.toNat : Int)
theorem u64_wrap (n : Int) : IntKind.u64.wrap n = n % 18446744073709551616 := IntKind.wrap_u64 n
theorem ofInt_toNat64 (a : BitVec 64) : BitVec.ofInt IntKind.u64.bits (a.toNat : Int) = a := by
  show BitVec.ofInt 64 (a.toNat : Int) = a
  rw [BitVec.ofInt_natCast, BitVec.ofNat_toNat]; simp
theorem wrap_toNat64 (a : BitVec 64) : IntKind.u64.wrap (a.toNat : Int) = (a.toNat : Int) := by
  rw [u64_wrap]; have := a.isLt; omega
theorem bits_andB (a b : BitVec 64) : bits .and .u64 (a.toNat : Int) (b.toNat : Int) = ((a &&& b).toNat : Int) := by
  unfold bits; simp only [ofInt_toNat64]; exact wrap_toNat64 (a &&& b)
theorem bits_orB (a b : BitVec 64) : bits .or .u64 (a.toNat : Int) (b.toNat : Int) = ((a ||| b).toNat : Int) := by
  unfold bits; simp only [ofInt_toNat64]; exact wrap_toNat64 (a ||| b)
theorem bits_andNotB (a b : BitVec 64) : bits .andNot .u64 (a.toNat : Int) (b.toNat : Int) = ((a &&& ~~~b).toNat : Int) := by
  unfold bits; simp only [ofInt_toNat64]; exact wrap_toNat64 (a &&& ~~~b)
theorem toNat_inj64 {a b : BitVec 64} : ((a.toNat : Int) = (b.toNat : Int)) ↔ a = b := ⟨fun h => BitVec.eq_of_toNat_eq (by omega), fun h => by rw [h]⟩
section
variable {P : Program} {κ : Ctx} {N : Nat} {Q : Exit → Act → World → Prop} {L : Env} {I J : List Item}
variable {d : Option Tmp} {ty : TypeId} {ps : String} {af : Array Edge} {gd : Option (Nat × Bool)}
variable {x y : Operand} {T U : TypeId} {a b : BitVec 64}
theorem Runs.andB (hx : evalO L x = some (U64 a)) (hy : evalO L y = some (U64 b)) : Runs P κ N ⟨d, .binOp .and T x y U, ty, ps, af, gd⟩ L J (U64 (a &&& b)) :=
  fun act w ha _ => by simp only [execOp, ha.eval hx, ha.eval hy]; simp [go_sem, bits_andB]
theorem Runs.orB (hx : evalO L x = some (U64 a)) (hy : evalO L y = some (U64 b)) : Runs P κ N ⟨d, .binOp .or T x y U, ty, ps, af, gd⟩ L J (U64 (a ||| b)) :=
  fun act w ha _ => by simp only [execOp, ha.eval hx, ha.eval hy]; simp [go_sem, bits_orB]
theorem Runs.andNotB (hx : evalO L x = some (U64 a)) (hy : evalO L y = some (U64 b)) : Runs P κ N ⟨d, .binOp .andNot T x y U, ty, ps, af, gd⟩ L J (U64 (a &&& ~~~b)) :=
  fun act w ha _ => by
    simp only [execOp, ha.eval hx, ha.eval hy]
    have h := bits_andNotB a b
    simp [go_sem, h]
theorem Runs.subB (hx : evalO L x = some (U64 a)) (hy : evalO L y = some (U64 b)) : Runs P κ N ⟨d, .binOp .sub T x y U, ty, ps, af, gd⟩ L J (U64 (a - b)) := by
  have h := Runs.subw (P := P) (κ := κ) (N := N) (J := J) (d := d) (ty := ty) (ps := ps) (af := af) (gd := gd) (T := T) (U := U) hx hy
  have e : IntKind.u64.wrap ((a.toNat : Int) - (b.toNat : Int)) = ((a - b).toNat : Int) := by rw [u64_wrap, BitVec.toNat_sub]; have := a.isLt; have := b.isLt; omega
  rwa [e] at h
theorem Runs.shlB {k' : IntKind} {n : Int} (hx : evalO L x = some (U64 a)) (hy : evalO L y = some (.int k' n)) (h0 : 0 ≤ n) (h1 : n < 64) : Runs P κ N ⟨d, .binOp .shl T x y U, ty, ps, af, gd⟩ L J (U64 (a <<< n.toNat)) := by
  have h := Runs.shlw (P := P) (κ := κ) (N := N) (J := J) (d := d) (ty := ty) (ps := ps) (af := af) (gd := gd) (T := T) (U := U) hx hy h0
  have e : IntKind.u64.wrap ((a.toNat : Int) * 2 ^ Min.min n.toNat IntKind.u64.bits) = ((a <<< n.toNat).toNat : Int) := by
    have hm : Min.min n.toNat IntKind.u64.bits = n.toNat := by show Min.min n.toNat 64 = _; omega
    have hc : ((a.toNat : Int) * 2 ^ n.toNat) = ((a.toNat * 2 ^ n.toNat : Nat) : Int) := by rw [Int.natCast_mul, Int.natCast_pow]; rfl
    rw [hm, u64_wrap, BitVec.toNat_shiftLeft, Nat.shiftLeft_eq, hc]
    generalize a.toNat * 2 ^ n.toNat = m
    omega
  rwa [e] at h
theorem Runs.shrB {k' : IntKind} {n : Int} (hx : evalO L x = some (U64 a)) (hy : evalO L y = some (.int k' n)) (h0 : 0 ≤ n) (h1 : n < 64) : Runs P κ N ⟨d, .binOp .shr T x y U, ty, ps, af, gd⟩ L J (U64 (a >>> n.toNat)) := by
  have h := Runs.shrw (P := P) (κ := κ) (N := N) (J := J) (d := d) (ty := ty) (ps := ps) (af := af) (gd := gd) (T := T) (U := U) hx hy h0
  have e : (a.toNat : Int).fdiv (2 ^ Min.min n.toNat IntKind.u64.bits) = ((a >>> n.toNat).toNat : Int) := by
    have hm : Min.min n.toNat IntKind.u64.bits = n.toNat := by show Min.min n.toNat 64 = _; omega
    rw [hm, BitVec.toNat_ushiftRight, Nat.shiftRight_eq_div_pow, Int.fdiv_eq_ediv_of_nonneg _ (Int.pow_nonneg (by decide))]
    push_cast; rfl
  rwa [e] at h
theorem Runs.eqB (hx : evalO L x = some (U64 a)) (hy : evalO L y = some (U64 b)) : Runs P κ N ⟨d, .binOp .eql T x y U, ty, ps, af, gd⟩ L J (.bool (decide (a = b))) := by
  have h := Runs.eql (P := P) (κ := κ) (N := N) (J := J) (d := d) (ty := ty) (ps := ps) (af := af) (gd := gd) (T := T) (U := U) hx hy
  rwa [decide_eq_decide.2 (toNat_inj64 (a := a) (b := b))] at h
theorem Runs.neB (hx : evalO L x = some (U64 a)) (hy : evalO L y = some (U64 b)) : Runs P κ N ⟨d, .binOp .neq T x y U, ty, ps, af, gd⟩ L J (.bool (decide (a ≠ b))) := by
  have h := Runs.neq (P := P) (κ := κ) (N := N) (J := J) (d := d) (ty := ty) (ps := ps) (af := af) (gd := gd) (T := T) (U := U) hx hy
  rwa [decide_eq_decide.2 (not_congr (toNat_inj64 (a := a) (b := b)))] at h
end
end Go.Sl
namespace Go.Sl
open Go.Proofs
set_option linter.unusedVariables false
set_option linter.unusedSimpArgs false
set_option maxRecDepth 4000
def bitB (v : Int) : BitVec 64 := if v < 0 ∨ 64 ≤ v then 0#64 else 1#64 <<< v.toNat
def maskB (l : List Int) : BitVec 64 := l.foldl (fun m v => m ||| bitB v) 0#64
def allB (n : Int) : BitVec 64 := if n ≤ 0 then 0#64 else if 64 ≤ n then 18446744073709551615#64 else (1#64 <<< n.toNat) - 1#64
theorem maskB_take {l : List Int} {k : Nat} (h : k < l.length) : maskB (l.take (k + 1)) = maskB (l.take k) ||| bitB (at_ l (k : Int)) := by
  unfold maskB; rw [take_at l k h, List.foldl_append]; rfl
theorem Bit_ok {κ : Ctx} {I : List Item} (v : Int) :
    CallS Tryd.prog κ 68 [I64 (v)] I (fun r J => r = U64 (bitB v) ∧ I = J) := by
 refine CallS.enter (L := [(0, I64 (v))]) Tryd.func68 rfl rfl rfl rfl ?_
 refine W.sr ?_
 refine G.r (Runs.assign rfl) ?_
 refine G.nt ?_
 refine W.seq ?_
 refine W.sr ?_
 refine G.r (Runs.move rfl) ?_
 refine G.r (Runs.lss rfl rfl) ?_
 refine G.r (Runs.move rfl) ?_
 refine G.split (d := 5) rfl (fun g5 => ?_) (fun g5 => ?_)
 ·refine G.po ?_
  refine G.po ?_
  refine G.r (Runs.pickt rfl rfl) ?_
  refine G.nt ?_
  refine W.yes rfl ?_
  refine W.sr ?_
  refine G.r (Runs.assign rfl) ?_
  refine G.nt ?_
  refine W.ret ?_
  refine V.then_ret ?_
  exact V.ret1 rfl rfl (I) Fit.m ⟨by unfold bitB; rw [if_pos (by omega)]; rfl, rfl⟩
 ·refine G.ro (Runs.move rfl) ?_
  refine G.ro (Runs.geq rfl rfl) ?_
  refine G.r (Runs.pickf rfl rfl) ?_
  refine G.nt ?_
  refine W.ite rfl (fun c8 => ?_) (fun c8 => ?_)
  ·refine W.sr ?_
   refine G.r (Runs.assign rfl) ?_
   refine G.nt ?_
   refine W.ret ?_
   refine V.then_ret ?_
   exact V.ret1 rfl rfl (I) Fit.m ⟨by unfold bitB; rw [if_pos (by omega)]; rfl, rfl⟩
  ·refine W.skip ?_
   refine V.then ?_
   refine W.sr ?_
   refine G.r (Runs.move rfl) ?_
   refine G.r (Runs.shlB (a := 1#64) rfl rfl (by omega) (by omega)) ?_
   refine G.r (Runs.assign rfl) ?_
   refine G.nt ?_
   refine W.ret ?_
   exact V.ret1 rfl rfl (I) Fit.m ⟨by unfold bitB; rw [if_neg (by omega)], rfl⟩

theorem MaskOf_ok {κ : Ctx} {I : List Item} {v : Value} {l : List Int} (hl : Sl κ I v l) :
    CallS Tryd.prog κ 76 [v] I (fun r J => r = U64 (maskB l) ∧ I = J) := by
 refine CallS.pull hl.le fun hmax => ?_
 refine CallS.enter (L := [(0, v)]) Tryd.func76 rfl rfl rfl rfl ?_
 refine W.sr ?_
 refine G.r (Runs.assign rfl) ?_
 refine G.nt ?_
 refine W.sr ?_
 refine G.r (Runs.assign rfl) ?_
 refine G.nt ?_
 refine W.seq ?_
 refine W.sr ?_
 refine G.r (Runs.move rfl) ?_
 refine G.r (Runs.lenT (α := Int) (xs := l) Tryd.underlying22 rfl (Sl.f hl)) ?_
 refine G.r (Runs.move rfl) ?_
 refine G.nt ?_
 refine W.block ?_
 refine W.loop (σ := Nat × (BitVec 64)) (fun s => ([(3, U64 (s.2)), (6, v), (7, I64 (((l.length : Nat) : Int))), (8, I64 (((s.1 : Nat) : Int)))] : Env)) (fun s => I) (fun s => (s.1 ≤ l.length) ∧ (s.2 = maskB (l.take s.1))) (fun s => l.length - s.1) (0, 0#64) (show ((0 : Nat) ≤ l.length) ∧ ((0#64 : BitVec 64) = maskB (l.take (0 : Nat))) from ⟨(by omega), rfl⟩) (Sub.cons (lookV rfl (by first | rfl | simp)) (Sub.cons rfl (Sub.cons rfl (Sub.cons lookO Sub.nil)))) (show Fit κ _ (I) from Fit.sub) ?_
 rintro ⟨k, m⟩ hp
 obtain ⟨hk, hm⟩ : (k ≤ l.length) ∧ (m = maskB (l.take k)) := hp
 show W Tryd.prog κ 18 _ _ ([(3, U64 (m)), (6, v), (7, I64 (((l.length : Nat) : Int))), (8, I64 (((k : Nat) : Int)))] : Env) (I)
 refine W.sr ?_
 refine G.r (Runs.lss rfl rfl) ?_
 refine G.nt ?_
 refine W.seq ?_
 refine W.ite rfl (fun c9 => ?_) (fun c9 => ?_)
 ·refine W.skip ?_
  refine V.then ?_
  refine W.seq ?_
  refine W.block ?_
  refine W.sr ?_
  refine G.r (Runs.idx (α := Int) (xs := l) Tryd.underlying22 ty3 rfl rfl (Sl.f hl) (by omega) (by omega)) ?_
  refine G.r (Runs.get (xs := l) ty3 rfl (Sl.f hl) (by omega) (by omega)) ?_
  refine G.r (Runs.assign rfl) ?_
  refine G.nt ?_
  refine W.region ?_
  refine G.r (Runs.move rfl) ?_
  refine G.r (Runs.move rfl) ?_
  refine G.e (Eff.call call68 rfl rfl (Bit_ok (at_ l ((k : Nat) : Int)))) ?_
  rintro _ _ ⟨_, _, ⟨rfl, rfl⟩, rfl, rfl⟩
  refine G.r (Runs.orB (a := m) (b := bitB (at_ l ((k : Nat) : Int))) rfl rfl) ?_
  refine G.r (Runs.assign rfl) ?_
  refine G.nil ?_
  refine V.block_normal ?_
  refine V.then ?_
  refine W.region ?_
  refine G.r (Runs.add rfl rfl (by unfold InR; omega)) ?_
  refine G.r (Runs.move rfl) ?_
  refine G.nil ?_
  exact V.next ((k + 1), (m ||| (bitB (at_ l ((k : Nat) : Int))))) (show ((k + 1 : Nat) ≤ l.length) ∧ ((m ||| (bitB (at_ l ((k : Nat) : Int))) : BitVec 64) = maskB (l.take (k + 1 : Nat))) from ⟨(by omega), (by rw [maskB_take (by omega), ← hm])⟩) (show l.length - (k + 1 : Nat) < l.length - k from (by omega)) (Sub.cons (lookV rfl (by first | rfl | simp)) (Sub.cons rfl (Sub.cons rfl (Sub.cons lookO Sub.nil)))) (show Fit κ _ (I) from Fit.sub)
 ·refine W.exit ?_
  refine V.then_exit ?_
  refine V.then_exit ?_
  refine V.block_hit ?_
  refine V.then ?_
  refine W.sr ?_
  refine G.r (Runs.move rfl) ?_
  refine G.r (Runs.assign rfl) ?_
  refine G.nt ?_
  refine W.ret ?_
  rw [List.take_of_length_le (by omega)] at hm
  exact V.ret1 rfl rfl (I) Fit.m ⟨by rw [hm], rfl⟩

theorem MaskAll_ok {κ : Ctx} {I : List Item} (n : Int) :
    CallS Tryd.prog κ 77 [I64 (n)] I (fun r J => r = U64 (allB n) ∧ I = J) := by
 refine CallS.enter (L := [(0, I64 (n))]) Tryd.func77 rfl rfl rfl rfl ?_
 refine W.sr ?_
 refine G.r (Runs.assign rfl) ?_
 refine G.nt ?_
 refine W.seq ?_
 refine W.block ?_
 refine W.sr ?_
 refine G.r (Runs.move rfl) ?_
 refine G.r (Runs.leq rfl rfl) ?_
 refine G.r (Runs.assign rfl) ?_
 refine G.nt ?_
 refine W.ite rfl (fun c3 => ?_) (fun c3 => ?_)
 ·refine W.sr ?_
  refine G.r (Runs.assign rfl) ?_
  refine G.nt ?_
  refine W.ret ?_
  refine V.block_ret ?_
  refine V.then_ret ?_
  exact V.ret1 rfl rfl (I) Fit.m ⟨by unfold allB; rw [if_pos (by omega)]; rfl, rfl⟩
 ·refine W.sr ?_
  refine G.r (Runs.move rfl) ?_
  refine G.r (Runs.geq rfl rfl) ?_
  refine G.r (Runs.assign rfl) ?_
  refine G.nt ?_
  refine W.ite rfl (fun c6 => ?_) (fun c6 => ?_)
  ·refine W.sr ?_
   refine G.r (Runs.assign rfl) ?_
   refine G.nt ?_
   refine W.ret ?_
   refine V.block_ret ?_
   refine V.then_ret ?_
   exact V.ret1 rfl rfl (I) Fit.m ⟨by unfold allB; rw [if_neg (by omega), if_pos (by omega)]; rfl, rfl⟩
  ·refine W.skip ?_
   refine V.block_normal ?_
   refine V.then ?_
   refine W.sr ?_
   refine G.r (Runs.move rfl) ?_
   refine G.r (Runs.shlB (a := 1#64) rfl rfl (by omega) (by omega)) ?_
   refine G.r (Runs.subB (a := (1#64) <<< (n).toNat) (b := 1#64) rfl rfl) ?_
   refine G.r (Runs.assign rfl) ?_
   refine G.nt ?_
   refine W.ret ?_
   exact V.ret1 rfl rfl (I) Fit.m ⟨by unfold allB; rw [if_neg (by omega), if_neg (by omega)], rfl⟩

end Go.Sl
namespace Go.Sl
open Go.Proofs
set_option linter.unusedVariables false
set_option linter.unusedSimpArgs false
set_option maxRecDepth 4000
theorem bitB_two {v : Int} (h0 : 0 ≤ v) (h1 : v < 64) : bitB v = BitVec.twoPow 64 v.toNat := by
  unfold bitB; rw [if_neg (by omega)]; rfl
theorem getLsb_bitB {v : Int} {i : Nat} (hi : i < 64) : (bitB v).getLsbD i = decide (v = (i : Int)) := by
  by_cases h : 0 ≤ v ∧ v < 64
  · rw [bitB_two h.1 h.2, BitVec.getLsbD_twoPow]
    have e : (v.toNat = i) ↔ (v = (i : Int)) := by omega
    simp [hi, h, e]
  · unfold bitB
    rw [if_pos (by omega)]
    have : ¬ v = (i : Int) := by omega
    simp [this]
theorem getLsb_maskB {i : Nat} (hi : i < 64) : ∀ (l : List Int) (m : BitVec 64), (l.foldl (fun m v => m ||| bitB v) m).getLsbD i = (m.getLsbD i || decide ((i : Int) ∈ l))
  | [], m => by simp
  | v :: l, m => by
    rw [List.foldl_cons, getLsb_maskB hi l, BitVec.getLsbD_or, getLsb_bitB hi]
    by_cases h1 : v = (i : Int)
    · simp [h1]
    · have : ¬ (i : Int) = v := fun e => h1 e.symm
      simp [h1, this]
end Go.Sl
namespace Go.Sl
open Go.Proofs
set_option linter.unusedVariables false
set_option linter.unusedSimpArgs false
set_option maxRecDepth 4000
structure Fr where
  num : Int
  den : Int
deriving DecidableEq
instance : Inhabited Fr := ⟨⟨0, 0⟩⟩
instance : Enc Fr := ⟨fun r => [I64 r.num, I64 r.den], 2, by omega, fun _ => rfl, fun r u hu => by
  simp only [List.mem_cons, List.not_mem_nil, or_false] at hu
  rcases hu with rfl | rfl <;> rfl⟩
end Go.Sl
namespace Go.Sl
open Go.Proofs
set_option linter.unusedVariables false
set_option linter.unusedSimpArgs false
set_option maxRecDepth 4000
open Go.Proofs Go.Shelf Go.Sort in
theorem SortE_ok {κ : Ctx} {I : List Item} {a : Option Addr} {c : Nat} {xs : List Pt} (hsz : xs.length < 1000000000) :
    CallS Tryd.prog κ 176 [.slice a xs.length c, .func (.func 119) #[] #[]] (vc 38 (.slice a xs.length c) xs :: I) fun r J => ∃ ys : List Pt, (r = .tuple #[] ∧ SortedP xs ys ∧ ys.length = xs.length) ∧ J = [] ++ vc 38 (.slice a xs.length c) ys :: I :=
  (sort_any (α := Pt) (ρ := Tryd.sort176_ren) Tryd.sort176 Tryd.isAgg38 Tryd.sizeOf38 Pt.cmp swo_pt 119 #[] (enters_of Tryd.func119 (by kernel_rfl) rfl) (fun x y W => lays_of (Order_ok x y)) (by omega)).mono fun r J ⟨ys, ⟨h1, h2, h3⟩, h4⟩ =>
    ⟨ys, ⟨h1, ⟨h2, h3.imp fun {a b} h => by rw [← Pt.cmp_lt]; exact of_decide_eq_false h⟩, h2.length_eq⟩, by rw [h4, h2.length_eq]⟩
theorem SortE_at {κ : Ctx} {I : List Item} {F : Item → List Item} {a : Option Addr} {n c : Nat} {xs : List Pt} (hat : AtF I (vc 38 (.slice a n c) xs) F) (hn : xs.length = n) (hsz : xs.length < 1000000000) :
    CallS Tryd.prog κ 176 [.slice a n c, .func (.func 119) #[] #[]] I fun r J => ∃ ys : List Pt, (r = .tuple #[] ∧ SortedP xs ys ∧ ys.length = n) ∧ J = [] ++ F (vc 38 (.slice a n c) ys) :=
  CallS.at (Z := fun _ => []) (X := fun ys : List Pt => vc 38 (.slice a n c) ys) (Post := fun r ys => r = .tuple #[] ∧ SortedP xs ys ∧ ys.length = n) hat fun J _ _ => by subst hn; exact SortE_ok hsz
end Go.Sl
namespace Go.Sl
open Go.Proofs
set_option linter.unusedVariables false
set_option linter.unusedSimpArgs false
set_option maxRecDepth 4000
end Go.Sl
