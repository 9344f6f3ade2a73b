/- A part of the proofs of statements of this seat: contracts of functions, and the plain laws that they lean on. No conditions. -/
import Derived.Test.YtbimaodbcjjbfaaGreatDoorDirK
import Derived.Test.YtbimaodbcjjbfaaGreatDoorRets
namespace Go.Sl
open Go.Proofs
set_option linter.unusedVariables false
set_option linter.unusedSimpArgs false
set_option maxRecDepth 4000
abbrev natB (m : Nat) : BitVec 64 := BitVec.ofNat 64 m
theorem natB_nat {m : Nat} (h : m < 4611686018427387904) : (natB m).toNat = m := by unfold natB; rw [BitVec.toNat_ofNat]; exact Nat.mod_eq_of_lt (by omega)
theorem bits_andI {a c : BitVec 64} (h : a.toNat < 9223372036854775808) : bits .and .i64 (a.toNat : Int) (c.toNat : Int) = ((a &&& c).toNat : Int) := by
  have hl : (a &&& c).toNat ≤ a.toNat := by rw [BitVec.toNat_and]; exact Nat.and_le_left
  unfold bits
  show IntKind.i64.wrap ((BitVec.ofInt 64 (a.toNat : Int) &&& BitVec.ofInt 64 (c.toNat : Int)).toNat : Int) = _
  rw [show BitVec.ofInt 64 (a.toNat : Int) = a from ofInt_toNat64 a, show BitVec.ofInt 64 (c.toNat : Int) = c from ofInt_toNat64 c, IntKind.wrap_i64]
  omega
section
variable {P : Program} {κ : Ctx} {N : Nat} {L : Env} {J : List Item} {d : Option Tmp} {ty : TypeId} {ps : String} {af : Array Edge} {gd : Option (Nat × Bool)} {x y : Operand} {T U : TypeId} {k' : IntKind}
theorem Runs.andBI {m n : Int} {a c : BitVec 64} (hx : evalO L x = some (I64 m)) (hy : evalO L y = some (I64 n)) (hm : m = ((a.toNat : Nat) : Int)) (hn : n = ((c.toNat : Nat) : Int)) (h : a.toNat < 9223372036854775808) : Runs P κ N ⟨d, .binOp .and T x y U, ty, ps, af, gd⟩ L J (I64 (((a &&& c).toNat : Nat) : Int)) := fun act w ha _ => by
  subst hm hn
  simp only [execOp, ha.eval hx, ha.eval hy]
  simp [go_sem, bits_andI h]
theorem Runs.shrBI {m n : Int} {a : BitVec 64} (hx : evalO L x = some (I64 m)) (hy : evalO L y = some (.int k' n)) (hm : m = ((a.toNat : Nat) : Int)) (h0 : 0 ≤ n) (h1 : n < 64) : Runs P κ N ⟨d, .binOp .shr T x y U, ty, ps, af, gd⟩ L J (I64 (((a >>> n.toNat).toNat : Nat) : Int)) := by
  subst hm
  have h := Runs.shrw (P := P) (κ := κ) (N := N) (J := J) (d := d) (ty := ty) (ps := ps) (af := af) (gd := gd) (T := T) (U := U) hx hy h0
  have e : ((a.toNat : Nat) : Int).fdiv (2 ^ Min.min n.toNat IntKind.i64.bits) = (((a >>> n.toNat).toNat : Nat) : Int) := by
    rw [show Min.min n.toNat IntKind.i64.bits = n.toNat by show Min.min n.toNat 64 = _; omega, Int.fdiv_eq_ediv_of_nonneg _ (Int.pow_nonneg (by decide)), BitVec.toNat_ushiftRight, Nat.shiftRight_eq_div_pow, Int.natCast_ediv, Int.natCast_pow]; rfl
  rwa [e] at h
theorem Runs.shl1 {n : Int} (hx : evalO L x = some (I64 1)) (hy : evalO L y = some (.int k' n)) (h0 : 0 ≤ n) (h1 : n ≤ 20) : Runs P κ N ⟨d, .binOp .shl T x y U, ty, ps, af, gd⟩ L J (I64 ((2 ^ n.toNat : Nat) : Int)) := by
  have h := Runs.shlw (P := P) (κ := κ) (N := N) (J := J) (d := d) (ty := ty) (ps := ps) (af := af) (gd := gd) (T := T) (U := U) hx hy h0
  have e : IntKind.i64.wrap ((1 : Int) * 2 ^ Min.min n.toNat IntKind.i64.bits) = ((2 ^ n.toNat : Nat) : Int) := by
    have hp : (2 : Nat) ^ n.toNat ≤ 2 ^ 20 := Nat.pow_le_pow_right (by decide) (by omega)
    rw [show Min.min n.toNat IntKind.i64.bits = n.toNat by show Min.min n.toNat 64 = _; omega, Int.one_mul, IntKind.wrap_i64, show (2 : Int) ^ n.toNat = ((2 ^ n.toNat : Nat) : Int) by rw [Int.natCast_pow]; rfl]
    generalize 2 ^ n.toNat = q at hp ⊢
    omega
  rwa [e] at h
end
theorem pred_nat {b : BitVec 64} (h : 0 < b.toNat) : ((b.toNat : Nat) : Int) - 1 = (((b - 1#64).toNat : Nat) : Int) := by
  rw [BitVec.toNat_sub, show (1#64).toNat = 1 from rfl]
  have := b.isLt
  omega
theorem pred_le {b : BitVec 64} : (b &&& (b - 1#64)).toNat ≤ b.toNat := by rw [BitVec.toNat_and]; exact Nat.and_le_left
theorem ne_of_pos {b : BitVec 64} (h : 0 < b.toNat) : b ≠ 0#64 := fun e => by rw [e] at h; simp at h
theorem bit_shr {s : BitVec 64} {v : Nat} : ((s >>> v) &&& 1#64).toNat = if s.getLsbD v = true then 1 else 0 := by
  rw [BitVec.toNat_and, show (1#64).toNat = 1 from rfl, Nat.and_one_is_mod, BitVec.toNat_ushiftRight]
  have : s.getLsbD v = (s.toNat >>> v).testBit 0 := by rw [Nat.testBit_shiftRight, Nat.add_zero]; rfl
  rw [this, Nat.testBit_zero]
  by_cases h : s.toNat >>> v % 2 = 1
  · simp [h]
  · have : s.toNat >>> v % 2 = 0 := by omega
    simp [this]
theorem shr_none {s : BitVec 64} {v : Nat} (h : (s >>> v).toNat = 0) (i : Nat) (hi : v ≤ i) : s.getLsbD i = false := by
  have e : s >>> v = 0#64 := BitVec.eq_of_toNat_eq h
  have := congrArg (fun b => BitVec.getLsbD b (i - v)) e
  simp only [BitVec.getLsbD_ushiftRight, BitVec.getLsbD_zero] at this
  rwa [show v + (i - v) = i by omega] at this
theorem shr_bound {s : BitVec 64} {v : Nat} (hs : s.toNat < 4611686018427387904) (h : 0 < (s >>> v).toNat) : v < 62 := Nat.not_le.1 fun hv => by
  rw [BitVec.toNat_ushiftRight, Nat.shiftRight_eq_div_pow] at h
  have hp : (2 : Nat) ^ 62 ≤ 2 ^ v := Nat.pow_le_pow_right (by decide) hv
  rw [Nat.div_eq_of_lt (by omega)] at h; omega
theorem set_step {s : BitVec 64} {v : Nat} (hv : v < 64) : (listB s).filter (fun x => decide (x < ((v + 1 : Nat) : Int))) = (listB s).filter (fun x => decide (x < (v : Int))) ++ (if s.getLsbD v = true then [(v : Int)] else []) := by
  refine intLin.uniq ((listB_asc s).sublist List.filter_sublist) ?_ fun x => ?_
  · rw [List.pairwise_append]
    refine ⟨(listB_asc s).sublist List.filter_sublist, by split <;> simp, fun a ha b hb => ?_⟩
    have h1 := of_decide_eq_true (List.mem_filter.1 ha).2
    split at hb
    · rw [List.mem_singleton] at hb; omega
    · cases hb
  · rw [List.mem_append, List.mem_filter, List.mem_filter, decide_eq_true_eq, decide_eq_true_eq, mem_listB]
    constructor
    · rintro ⟨⟨h0, h1⟩, h2⟩
      by_cases e : x < (v : Int)
      · exact .inl ⟨⟨h0, h1⟩, e⟩
      · have e2 : x = (v : Int) := by omega
        rw [e2, Int.toNat_natCast] at h1
        rw [if_pos h1, e2]; exact .inr List.mem_cons_self
    · rintro (⟨h1, h2⟩ | h)
      · exact ⟨h1, by omega⟩
      · split at h
        · rename_i hb
          rw [List.mem_singleton] at h
          rw [h, Int.toNat_natCast]
          exact ⟨⟨by omega, hb⟩, by omega⟩
        · cases h
theorem set_all {s : BitVec 64} {v : Nat} (h : (s >>> v).toNat = 0) : (listB s).filter (fun x => decide (x < (v : Int))) = listB s := List.filter_eq_self.2 fun x hx => by
  obtain ⟨h0, h1⟩ := mem_listB.1 hx
  refine decide_eq_true (Int.not_le.1 fun hle => ?_)
  rw [shr_none h x.toNat (by omega)] at h1; cases h1
theorem bit01 (b : BitVec 64) : (b &&& 1#64).toNat ≤ 1 := by rw [BitVec.toNat_and, show (1#64).toNat = 1 from rfl]; exact Nat.and_le_right
theorem Size03_ok {κ : Ctx} {I : List Item} {sB : BitVec 64} (hs : sB.toNat < 4611686018427387904) :
    CallS Tryz.prog κ 81 [I64 (((sB.toNat : Nat) : Int))] I (fun r J => r = I64 (((listB sB).length : Nat) : Int) ∧ I = J) := by
 refine CallS.enter (L := [(0, I64 (((sB.toNat : Nat) : Int)))]) Tryz.func81 rfl rfl rfl rfl ?_
 refine W.sr ?_
 refine G.r (Runs.assign rfl) ?_
 refine G.nt ?_
 refine W.sr ?_
 refine G.r (Runs.assign rfl) ?_
 refine G.nt ?_
 refine W.seq ?_
 refine W.block ?_
 refine W.loop (σ := (BitVec 64) × Int) (fun s => ([(0, I64 (((s.1.toNat : Nat) : Int))), (3, I64 (s.2))] : Env)) (fun s => I) (fun s => (s.2 + (listB s.1).length = (listB sB).length) ∧ (s.1.toNat ≤ sB.toNat) ∧ (0 ≤ s.2)) (fun s => (listB s.1).length) (sB, 0) (show ((0 : Int) + (listB (sB : BitVec 64)).length = (listB sB).length) ∧ ((sB : BitVec 64).toNat ≤ sB.toNat) ∧ (0 ≤ (0 : Int)) from ⟨(by omega), (by omega), (by omega)⟩) (Sub.cons lookO (Sub.cons lookO Sub.nil)) (show Fit κ _ (I) from Fit.sub) ?_
 rintro ⟨bq, q⟩ hp
 obtain ⟨hq, hb, hq0⟩ : (q + (listB bq).length = (listB sB).length) ∧ (bq.toNat ≤ sB.toNat) ∧ (0 ≤ q) := hp
 show W Tryz.prog κ 13 _ _ ([(0, I64 (((bq.toNat : Nat) : Int))), (3, I64 (q))] : Env) (I)
 have hls := listB_len sB
 refine W.seq ?_
 refine W.sr ?_
 refine G.r (Runs.move rfl) ?_
 refine G.r (Runs.gtr rfl rfl) ?_
 refine G.nt ?_
 refine W.ite rfl (fun c5 => ?_) (fun c5 => ?_)
 ·refine W.skip ?_
  refine V.then ?_
  refine W.seq ?_
  refine W.block ?_
  refine W.region ?_
  refine G.r (Runs.move rfl) ?_
  refine G.r (Runs.add rfl rfl (by unfold InR; omega)) ?_
  refine G.r (Runs.assign rfl) ?_
  refine G.nil ?_
  refine V.block_normal ?_
  refine V.then ?_
  refine W.region ?_
  refine G.r (Runs.move rfl) ?_
  refine G.r (Runs.move rfl) ?_
  refine G.r (Runs.sub rfl rfl (by unfold InR; omega)) ?_
  refine G.r (Runs.andBI (a := bq) (c := bq - 1#64) rfl rfl rfl (pred_nat (by omega)) (by omega)) ?_
  refine G.r (Runs.assign rfl) ?_
  refine G.nil ?_
  have hst := congrArg List.length (listB_step (ne_of_pos (b := bq) (by omega)))
  rw [List.length_cons] at hst
  have hpl := pred_le (b := bq)
  exact V.next ((bq &&& (bq - 1#64)), (q + 1)) (show ((q + 1 : Int) + (listB (bq &&& (bq - 1#64) : BitVec 64)).length = (listB sB).length) ∧ ((bq &&& (bq - 1#64) : BitVec 64).toNat ≤ sB.toNat) ∧ (0 ≤ (q + 1 : Int)) from ⟨(by omega), (by omega), (by omega)⟩) (show (listB (bq &&& (bq - 1#64) : BitVec 64)).length < (listB bq).length from (by omega)) (Sub.cons rfl (Sub.cons lookO Sub.nil)) (show Fit κ _ (I) from Fit.sub)
 ·refine W.exit ?_
  refine V.then_exit ?_
  refine V.then_exit ?_
  refine V.block_hit ?_
  refine V.then ?_
  refine W.sr ?_
  refine G.r (Runs.move rfl) ?_
  refine G.r (Runs.assign rfl) ?_
  refine G.nt ?_
  refine W.ret ?_
  have hz : bq = 0#64 := BitVec.eq_of_toNat_eq (by show bq.toNat = 0; omega)
  rw [hz, listB_zero] at hq
  exact V.ret1 rfl rfl (I) Fit.m ⟨congrArg I64 (by simp only [List.length_nil] at hq; omega), rfl⟩

theorem Size03_nat {κ : Ctx} {I : List Item} (m : Nat) (h : m < 4611686018427387904) : CallS Tryz.prog κ 81 [I64 ((m : Nat) : Int)] I fun r J => r = I64 (((listB (natB m)).length : Nat) : Int) ∧ I = J := by
  have := Size03_ok (κ := κ) (I := I) (sB := natB m) (by rw [natB_nat h]; exact h)
  rwa [natB_nat h] at this

theorem Set03_ok {κ : Ctx} {I : List Item} {sB : BitVec 64} (hs : sB.toNat < 4611686018427387904) :
    CallS Tryz.prog κ 82 [I64 (((sB.toNat : Nat) : Int))] I (fun r J => ∃ a c, r = .slice a (listB sB).length c ∧ J = vc 3 (.slice a (listB sB).length c) (listB sB) :: I) := by
 refine CallS.enter (L := [(0, I64 (((sB.toNat : Nat) : Int)))]) Tryz.func82 rfl rfl rfl rfl ?_
 refine W.sr ?_
 refine G.r (Runs.assign rfl) ?_
 refine G.nt ?_
 refine W.sr ?_
 refine G.r (Runs.assign rfl) ?_
 refine G.nt ?_
 refine W.seq ?_
 refine W.sr ?_
 refine G.r (Runs.assign rfl) ?_
 refine G.nt ?_
 refine W.block ?_
 refine W.loop (σ := Nat × (Option Addr) × Nat × (List Int)) (fun s => ([(0, I64 (((sB.toNat : Nat) : Int))), (3, .slice s.2.1 s.2.2.2.length s.2.2.1), (4, I64 (((s.1 : Nat) : Int)))] : Env)) (fun s => vc 3 (.slice s.2.1 s.2.2.2.length s.2.2.1) (s.2.2.2) :: I) (fun s => (s.1 ≤ 62) ∧ (s.2.2.2 = (listB sB).filter fun x => decide (x < (s.1 : Int)))) (fun s => 63 - s.1) (0, none, 0, []) (show ((0 : Nat) ≤ 62) ∧ (([] : List Int) = (listB sB).filter fun x => decide (x < ((0 : Nat) : Int))) from ⟨(by omega), (by rw [eq_comm, List.filter_eq_nil_iff]; intro x hx; have := listB_rng hx; simp; omega)⟩) (Sub.cons rfl (Sub.cons (lookV rfl (by first | rfl | simp)) (Sub.cons lookO Sub.nil))) (show Fit κ _ (vc 3 (.slice (none) ([]).length (0)) (([])) :: I) from (Fit.nilvc _ _)) ?_
 rintro ⟨v, a, c, out⟩ hp
 obtain ⟨hv, ho⟩ : (v ≤ 62) ∧ (out = (listB sB).filter fun x => decide (x < (v : Int))) := hp
 show W Tryz.prog κ 23 _ _ ([(0, I64 (((sB.toNat : Nat) : Int))), (3, .slice a out.length c), (4, I64 (((v : Nat) : Int)))] : Env) (vc 3 (.slice a out.length c) (out) :: I)
 have hol : out.length ≤ 64 := by rw [ho]; exact Nat.le_trans (List.length_filter_le _ _) (listB_len sB)
 have htn : (((v : Nat) : Int)).toNat = v := Int.toNat_natCast v
 refine W.seq ?_
 refine W.sr ?_
 refine G.r (Runs.move rfl) ?_
 refine G.r (Runs.move rfl) ?_
 refine G.r (Runs.convU Tryz.underlying3 Tryz.underlying109 rfl (by omega)) ?_
 refine G.r (Runs.shrBI (a := sB) rfl rfl rfl (by omega) (by omega)) ?_
 refine G.r (Runs.gtr rfl rfl) ?_
 refine G.nt ?_
 refine W.ite rfl (fun c9 => ?_) (fun c9 => ?_)
 ·refine W.skip ?_
  refine V.then ?_
  refine W.seq ?_
  refine W.block ?_
  refine W.sr ?_
  refine G.r (Runs.move rfl) ?_
  refine G.r (Runs.move rfl) ?_
  refine G.r (Runs.convU Tryz.underlying3 Tryz.underlying109 rfl (by omega)) ?_
  refine G.r (Runs.shrBI (a := sB) rfl rfl rfl (by omega) (by omega)) ?_
  refine G.r (Runs.andBI (a := sB >>> (((v : Nat) : Int)).toNat) (c := 1#64) rfl rfl rfl rfl (by have := BitVec.toNat_ushiftRight sB (((v : Nat) : Int)).toNat; rw [Nat.shiftRight_eq_div_pow] at this; have := Nat.div_le_self sB.toNat (2 ^ (((v : Nat) : Int)).toNat); omega)) ?_
  refine G.r (Runs.eql rfl rfl) ?_
  refine G.nt ?_
  refine W.sub (L' := [(17, _), (0, _), (3, _), (4, _)]) (Sub.cons rfl (Sub.cons rfl (Sub.cons rfl (Sub.cons rfl Sub.nil)))) ?_
  refine W.ite rfl (fun c17 => ?_) (fun c17 => ?_)
  ·refine W.region ?_
   refine G.r (Runs.move rfl) ?_
   refine G.r (Runs.move rfl) ?_
   refine G.e (Eff.bs (α := Int) (cs := [_]) (xs := [((v : Nat) : Int)]) Tryz.underlying22 ty3 rfl rfl (by decide) (by decide) rfl rfl rfl rfl) ?_
   rintro _ _ ⟨ad1, rfl, rfl⟩
   refine G.e (Eff.app (α := Int) (e := 3) (xs := out) (ys := ([((v : Nat) : Int)] : List Int)) Tryz.underlying22 ty3 rfl rfl rfl (by repeat (first | exact List.mem_cons_self | apply List.mem_cons_of_mem)) Sl.o (by simp only [List.length_cons, List.length_nil]; omega) (by decide) rfl (fun _ _ => (by repeat (first | exact At.head _ _ _ | apply At.tail)))) ?_
   rintro _ _ ⟨ad2, cp3, rfl, rfl⟩
   refine G.r (Runs.assign rfl) ?_
   refine G.nil ?_
   refine V.block_normal ?_
   refine V.then ?_
   refine W.region ?_
   refine G.r (Runs.move rfl) ?_
   refine G.r (Runs.add rfl rfl (by unfold InR; omega)) ?_
   refine G.r (Runs.assign rfl) ?_
   refine G.nil ?_
   have hvb := shr_bound hs (v := v) (by rw [htn] at c9; omega)
   have hb1 := bit_shr (s := sB) (v := v)
   exact V.next ((v + 1), (ad2), (cp3), (out ++ ([((v : Nat) : Int)] : List Int))) (show ((v + 1 : Nat) ≤ 62) ∧ ((out ++ ([((v : Nat) : Int)] : List Int) : List Int) = (listB sB).filter fun x => decide (x < ((v + 1 : Nat) : Int))) from ⟨(by omega), (by rw [set_step (by omega), ← ho]; rw [htn] at c17; by_cases hbt : sB.getLsbD v = true; (· first | (rw [if_pos hbt]; done) | (rw [if_pos hbt] at hb1; omega)); (· first | (rw [if_neg hbt, List.append_nil]; done) | (rw [if_neg hbt] at hb1; omega)))⟩) (show 63 - (v + 1 : Nat) < 63 - v from (by omega)) (Sub.cons rfl (Sub.cons (lookV rfl (by first | rfl | simp)) (Sub.cons lookO Sub.nil))) (show Fit κ _ (vc 3 (.slice (ad2) (out ++ ([((v : Nat) : Int)] : List Int)).length (cp3)) ((out ++ ([((v : Nat) : Int)] : List Int))) :: I) from Fit.sub)
  ·refine W.skip ?_
   refine V.block_normal ?_
   refine V.then ?_
   refine W.region ?_
   refine G.r (Runs.move rfl) ?_
   refine G.r (Runs.add rfl rfl (by unfold InR; omega)) ?_
   refine G.r (Runs.assign rfl) ?_
   refine G.nil ?_
   have hvb := shr_bound hs (v := v) (by rw [htn] at c9; omega)
   have hb1 := bit_shr (s := sB) (v := v)
   exact V.next ((v + 1), (a), (c), (out)) (show ((v + 1 : Nat) ≤ 62) ∧ ((out : List Int) = (listB sB).filter fun x => decide (x < ((v + 1 : Nat) : Int))) from ⟨(by omega), (by rw [set_step (by omega), ← ho]; rw [htn] at c17; by_cases hbt : sB.getLsbD v = true; (· first | (rw [if_pos hbt]; done) | (rw [if_pos hbt] at hb1; omega)); (· first | (rw [if_neg hbt, List.append_nil]; done) | (rw [if_neg hbt] at hb1; omega)))⟩) (show 63 - (v + 1 : Nat) < 63 - v from (by omega)) (Sub.cons rfl (Sub.cons (lookV rfl (by first | rfl | simp)) (Sub.cons lookO Sub.nil))) (show Fit κ _ (vc 3 (.slice (a) (out).length (c)) ((out)) :: I) from Fit.sub)
 ·refine W.exit ?_
  refine V.then_exit ?_
  refine V.then_exit ?_
  refine V.block_hit ?_
  refine V.then ?_
  refine W.sr ?_
  refine G.r (Runs.move rfl) ?_
  refine G.r (Runs.assign rfl) ?_
  refine G.nt ?_
  refine W.ret ?_
  have hE : out = listB sB := by rw [ho]; exact set_all (by rw [htn] at c9; omega)
  subst hE
  exact V.ret1 rfl rfl (vc 3 (.slice a (listB sB).length c) (listB sB) :: I) Fit.sub ⟨a, c, rfl, rfl⟩

theorem Set03_nat {κ : Ctx} {I : List Item} (m : Nat) (h : m < 4611686018427387904) : CallS Tryz.prog κ 82 [I64 ((m : Nat) : Int)] I fun r J => ∃ a c, r = .slice a (listB (natB m)).length c ∧ J = vc 3 (.slice a (listB (natB m)).length c) (listB (natB m)) :: I := by
  have := Set03_ok (κ := κ) (I := I) (sB := natB m) (by rw [natB_nat h]; exact h)
  rwa [natB_nat h] at this

theorem natB_nz {m : Nat} (h : 1 ≤ m) (h2 : m < 4611686018427387904) : natB m ≠ 0#64 := fun e => by
  have := congrArg BitVec.toNat e
  rw [natB_nat h2] at this; simp at this; omega
theorem natB_bit {m n i : Nat} (h : m < 2 ^ n) (hi : (natB m).getLsbD i = true) : i < n := by
  have h64 := BitVec.lt_of_getLsbD hi
  unfold natB at hi
  rw [BitVec.getLsbD_ofNat] at hi
  simp only [h64, decide_true, Bool.true_and] at hi
  exact Nat.lt_of_not_le fun hle => by
    have := Nat.testBit_lt_two_pow (Nat.lt_of_lt_of_le h (Nat.pow_le_pow_right (by decide) hle))
    rw [this] at hi; cases hi
end Go.Sl
