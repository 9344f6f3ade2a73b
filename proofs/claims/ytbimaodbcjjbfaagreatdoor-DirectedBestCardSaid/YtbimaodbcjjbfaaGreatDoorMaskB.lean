/- A part of the proofs of statements of this seat: contracts of functions, and the plain laws that they lean on. No conditions. -/
import Derived.Test.YtbimaodbcjjbfaaGreatDoorGraphH5
import Derived.Test.YtbimaodbcjjbfaaGreatDoorTab
import Derived.Test.YtbimaodbcjjbfaaGreatDoorPop
namespace Go.Sl
open Go.Proofs
set_option linter.unusedVariables false
set_option linter.unusedSimpArgs false
set_option maxRecDepth 4000
theorem tz_small (m : BitVec 64) : 0 ≤ tzTab.getD (tzIx m) 0 ∧ tzTab.getD (tzIx m) 0 ≤ 64 := by
  have h : ∀ k : Fin 64, 0 ≤ tzTab.getD k.val 0 ∧ tzTab.getD k.val 0 ≤ 64 := by decide +kernel
  exact h ⟨tzIx m, tzIx_lt m⟩

theorem Tz_ok {κ : Ctx} {I : List Item} (m : BitVec 64) (hT : TabRd κ I 0 tzCells) :
    CallS Tryz.prog κ 110 [U64 (m)] I (fun r J => r = I64 (tzB m) ∧ I = J) := by
 refine CallS.enter (L := [(0, U64 (m))]) Tryz.func110 rfl rfl rfl rfl ?_
 refine W.sr ?_
 refine G.r (Runs.assign rfl) ?_
 refine G.nt ?_
 refine W.seq ?_
 refine W.sr ?_
 refine G.r (Runs.move rfl) ?_
 refine G.r (Runs.eqB (a := m) (b := 0#64) rfl rfl) ?_
 refine G.nt ?_
 refine W.ite rfl (fun c4 => ?_) (fun c4 => ?_)
 ·refine W.sr ?_
  refine G.r (Runs.assign rfl) ?_
  refine G.nt ?_
  refine W.ret ?_
  refine V.then_ret ?_
  exact V.ret1 rfl rfl (I) Fit.m ⟨by unfold tzB; rw [if_pos c4], rfl⟩
 ·refine W.skip ?_
  refine V.then ?_
  refine W.sr ?_
  refine G.r (Runs.move rfl) ?_
  refine G.r (Runs.move rfl) ?_
  refine G.r (Runs.negB (a := m) rfl) ?_
  refine G.r (Runs.andB (a := m) (b := -m) rfl rfl) ?_
  refine G.r (Runs.mulB (a := m &&& (-m)) (b := 285870213051353865#64) rfl rfl) ?_
  refine G.r (Runs.shrB (a := (m &&& (-m)) * 285870213051353865#64) rfl rfl (by omega) (by omega)) ?_
  refine G.r (Runs.idxArrU (i := tzIx m) Tryz.underlying147 ty5 rfl rfl (tzIx_lt m)) ?_
  refine G.r (Runs.loadTab ty5 rfl (TabRd.fit hT Fit.m) (tzCells_at m)) ?_
  refine G.r (Runs.convI Tryz.underlying5 Tryz.underlying3 rfl (by unfold InR; have := tz_small m; omega)) ?_
  refine G.r (Runs.assign rfl) ?_
  refine G.nt ?_
  refine W.sub (L' := [(2, _)]) (Sub.cons rfl Sub.nil) ?_
  refine W.ret ?_
  exact V.ret1 rfl rfl (I) Fit.m ⟨by unfold tzB; rw [if_neg c4], rfl⟩

theorem MList_ok {κ : Ctx} {I : List Item} (m : BitVec 64) (hT : TabRd κ I 0 tzCells) :
    CallS Tryz.prog κ 54 [U64 (m)] I (fun r J => ∃ a c, r = .slice a (listB m).length c ∧ J = vc 3 (.slice a (listB m).length c) (listB m) :: I) := by
 refine CallS.enter (L := [(0, U64 (m))]) Tryz.func54 rfl rfl rfl rfl ?_
 refine W.sr ?_
 refine G.r (Runs.assign rfl) ?_
 refine G.nt ?_
 refine W.sr ?_
 refine G.r (Runs.assign rfl) ?_
 refine G.nt ?_
 refine W.seq ?_
 refine W.block ?_
 refine W.loop (σ := (BitVec 64) × (Option Addr) × Nat × (List Int)) (fun s => ([(0, U64 (s.1)), (3, .slice s.2.1 s.2.2.2.length s.2.2.1)] : Env)) (fun s => vc 3 (.slice s.2.1 s.2.2.2.length s.2.2.1) (s.2.2.2) :: I) (fun s => (listB m = s.2.2.2 ++ listB s.1)) (fun s => (listB s.1).length) (m, none, 0, []) (show (listB m = ([] : List Int) ++ listB (m : BitVec 64)) from rfl) (Sub.cons (lookV rfl (by first | rfl | simp)) (Sub.cons (lookV rfl (by first | rfl | simp)) Sub.nil)) (show Fit κ _ (vc 3 (.slice (none) ([]).length (0)) (([])) :: I) from (Fit.nilvc _ _)) ?_
 rintro ⟨n, a, c, out⟩ hp
 have ho : (listB m = out ++ listB n) := hp
 show W Tryz.prog κ 16 _ _ ([(0, U64 (n)), (3, .slice a out.length c)] : Env) (vc 3 (.slice a out.length c) (out) :: I)
 have hol := congrArg List.length ho
 rw [List.length_append] at hol
 have hml := listB_len m
 refine W.seq ?_
 refine W.sr ?_
 refine G.r (Runs.move rfl) ?_
 refine G.r (Runs.neB (a := n) (b := 0#64) rfl rfl) ?_
 refine G.nt ?_
 refine W.ite rfl (fun c5 => ?_) (fun c5 => ?_)
 ·refine W.skip ?_
  refine V.then ?_
  refine W.seq ?_
  refine W.block ?_
  refine W.region ?_
  refine G.r (Runs.move rfl) ?_
  refine G.r (Runs.move rfl) ?_
  refine G.e (Eff.call call110 rfl rfl (Tz_ok n (TabRd.fit hT Fit.m))) ?_
  rintro _ _ ⟨_, _, ⟨rfl, rfl⟩, rfl, rfl⟩
  refine G.e (Eff.bs (α := Int) (cs := [_]) (xs := [tzB n]) Tryz.underlying22 ty3 rfl rfl (by decide) (by decide) rfl rfl rfl rfl) ?_
  rintro _ _ ⟨ad1, rfl, rfl⟩
  refine G.e (Eff.app (α := Int) (e := 3) (xs := out) (ys := ([tzB n] : List Int)) Tryz.underlying22 ty3 rfl rfl rfl (by repeat (first | exact List.mem_cons_self | apply List.mem_cons_of_mem)) Sl.o (by simp only [List.length_cons, List.length_nil]; omega) (by decide) rfl (fun _ _ => (by repeat (first | exact At.head _ _ _ | apply At.tail)))) ?_
  rintro _ _ ⟨ad2, cp3, rfl, rfl⟩
  refine G.r (Runs.assign rfl) ?_
  refine G.nil ?_
  refine V.block_normal ?_
  refine V.then ?_
  refine W.region ?_
  refine G.r (Runs.move rfl) ?_
  refine G.r (Runs.move rfl) ?_
  refine G.r (Runs.subB (a := n) (b := 1#64) rfl rfl) ?_
  refine G.r (Runs.andB (a := n) (b := n - (1#64)) rfl rfl) ?_
  refine G.r (Runs.assign rfl) ?_
  refine G.nil ?_
  exact V.next ((n &&& (n - (1#64))), (ad2), (cp3), (out ++ ([tzB n] : List Int))) (show (listB m = (out ++ ([tzB n] : List Int) : List Int) ++ listB (n &&& (n - (1#64)) : BitVec 64)) from (by rw [ho, listB_step c5, List.append_assoc]; rfl)) (show (listB (n &&& (n - (1#64)) : BitVec 64)).length < (listB n).length from (listB_less c5)) (Sub.cons (lookV rfl (by first | rfl | simp)) (Sub.cons (lookV rfl (by first | rfl | simp)) Sub.nil)) (show Fit κ _ (vc 3 (.slice (ad2) (out ++ ([tzB n] : List Int)).length (cp3)) ((out ++ ([tzB n] : List Int))) :: I) from Fit.sub)
 ·refine W.exit ?_
  refine V.then_exit ?_
  refine V.then_exit ?_
  refine V.block_hit ?_
  refine V.then ?_
  refine W.sr ?_
  refine G.r (Runs.move rfl) ?_
  refine G.r (Runs.assign rfl) ?_
  refine G.nt ?_
  refine W.ret ?_
  have hn0 : n = 0#64 := Classical.not_not.1 c5
  have hE : out = listB m := by rw [ho, hn0, listB_zero, List.append_nil]
  subst hE
  exact V.ret1 rfl rfl (vc 3 (.slice a (listB m).length c) (listB m) :: I) Fit.sub ⟨a, c, rfl, rfl⟩

theorem ones1_val {m : BitVec 64} {bs : List Nat} (hl : bs.length = 8) (hb : ∀ b ∈ bs, b < 256) (hm : m.toNat = valN bs) : (ones1 m).toNat = valN (bs.map p1) := by
  unfold ones1
  have hle : valN (bs.map p1) ≤ repN 255 8 := by
    have := valN_le (c := 255) (bs.map p1) fun b h => by obtain ⟨x, hx, rfl⟩ := List.mem_map.1 h; have := (b1 ⟨x, hb x hx⟩).1; simp only at this; omega
    rwa [List.length_map, hl] at this
  rw [BitVec.toNat_add, BitVec.toNat_and, BitVec.toNat_and, BitVec.toNat_ushiftRight, Nat.shiftRight_eq_div_pow, show 2 ^ (1 : Int).toNat = 2 from rfl, hm, show (6148914691236517205#64).toNat = repN 85 bs.length by rw [hl]; decide +kernel, step1 bs hb]
  exact Nat.mod_eq_of_lt (Nat.lt_of_le_of_lt hle (by decide +kernel))
theorem ones2_val {m : BitVec 64} {bs : List Nat} (hl : bs.length = 8) (hb : ∀ b ∈ bs, b < 256 ∧ p2 b < 256) (hm : m.toNat = valN bs) : (ones2 m).toNat = valN (bs.map p2) := by
  unfold ones2
  have hle : valN (bs.map p2) ≤ repN 255 8 := by
    have := valN_le (c := 255) (bs.map p2) fun b h => by obtain ⟨x, hx, rfl⟩ := List.mem_map.1 h; have := (hb x hx).2; omega
    rwa [List.length_map, hl] at this
  rw [BitVec.toNat_add, BitVec.toNat_and, BitVec.toNat_and, BitVec.toNat_ushiftRight, Nat.shiftRight_eq_div_pow, show 2 ^ (2 : Int).toNat = 4 from rfl, hm, show (3689348814741910323#64).toNat = repN 51 bs.length by rw [hl]; decide +kernel, step2 bs fun b h => (hb b h).1]
  exact Nat.mod_eq_of_lt (Nat.lt_of_le_of_lt hle (by decide +kernel))
theorem ones3_val {m : BitVec 64} {bs : List Nat} (hl : bs.length = 8) (hb : ∀ b ∈ bs, b % 16 ≤ 4 ∧ b / 16 ≤ 4) (hm : m.toNat = valN bs) : (ones3 m).toNat = valN (bs.map p3) := by
  unfold ones3
  have hle : valN bs ≤ repN 68 8 := by
    have := valN_le (c := 68) bs fun b h => by have := hb b h; omega
    rwa [hl] at this
  have hr : repN 68 8 = 4919131752989213764 := by decide +kernel
  rw [BitVec.toNat_and, BitVec.toNat_add, BitVec.toNat_ushiftRight, Nat.shiftRight_eq_div_pow, show 2 ^ (4 : Int).toNat = 16 from rfl, hm, show (1085102592571150095#64).toNat = repN 15 bs.length by rw [hl]; decide +kernel, Nat.mod_eq_of_lt (by omega), step3 bs hb]
/-- The library counts the bits. -/
theorem ones_pop (m : BitVec 64) : onesB m = ((listB m).length : Int) := by
  unfold onesB
  have hl := bytesN_len m.toNat 8
  have hlt := bytesN_lt m.toNat 8
  have hv := bytesN_val 8 m.toNat (Nat.lt_of_lt_of_le m.isLt (by decide))
  generalize bytesN m.toNat 8 = bs at hl hlt hv
  have hb := fun b (h : b ∈ bs) => b1 ⟨b, hlt b h⟩
  have e1 := ones1_val hl hlt hv.symm
  have e2 := ones2_val (bs := bs.map p1) (by rw [List.length_map, hl]) (fun b h => by obtain ⟨x, hx, rfl⟩ := List.mem_map.1 h; have := hb x hx; simp only at this; exact ⟨this.1, by omega⟩) e1
  have e3 := ones3_val (bs := (bs.map p1).map p2) (by rw [List.length_map, List.length_map, hl]) (fun b h => by obtain ⟨y, hy, rfl⟩ := List.mem_map.1 h; obtain ⟨x, hx, rfl⟩ := List.mem_map.1 hy; have := hb x hx; simp only at this; exact ⟨this.2.1, this.2.2.1⟩) e2
  generalize ones3 (ones2 (ones1 m)) = a at e3
  have hc : valN bs = m.toNat := hv
  have hcnt := cnt_val bs hlt
  obtain ⟨f1, f2⟩ := fold_all (n := a.toNat) (n4 := a.toNat + a.toNat / 256) (n5 := a.toNat + a.toNat / 256 + (a.toNat + a.toNat / 256) / 65536) (n6 := a.toNat + a.toNat / 256 + (a.toNat + a.toNat / 256) / 65536 + (a.toNat + a.toNat / 256 + (a.toNat + a.toNat / 256) / 65536) / 4294967296)
    (bs := ((bs.map p1).map p2).map p3) (by rw [List.length_map, List.length_map, List.length_map, hl]) (fun b h => by obtain ⟨z, hz, rfl⟩ := List.mem_map.1 h; obtain ⟨y, hy, rfl⟩ := List.mem_map.1 hz; obtain ⟨x, hx, rfl⟩ := List.mem_map.1 hy; have := hb x hx; simp only at this; exact this.2.2.2.1) e3 rfl rfl rfl
  have g4 : (ones4 a).toNat = a.toNat + a.toNat / 256 := by
    unfold ones4; rw [BitVec.toNat_add, BitVec.toNat_ushiftRight, Nat.shiftRight_eq_div_pow, show 2 ^ (8 : Int).toNat = 256 from rfl]; exact Nat.mod_eq_of_lt (by omega)
  have g5 : (ones5 (ones4 a)).toNat = a.toNat + a.toNat / 256 + (a.toNat + a.toNat / 256) / 65536 := by
    unfold ones5; rw [BitVec.toNat_add, BitVec.toNat_ushiftRight, Nat.shiftRight_eq_div_pow, show 2 ^ (16 : Int).toNat = 65536 from rfl, g4]; exact Nat.mod_eq_of_lt (by omega)
  have g6 : (ones6 (ones5 (ones4 a))).toNat = a.toNat + a.toNat / 256 + (a.toNat + a.toNat / 256) / 65536 + (a.toNat + a.toNat / 256 + (a.toNat + a.toNat / 256) / 65536) / 4294967296 := by
    unfold ones6; rw [BitVec.toNat_add, BitVec.toNat_ushiftRight, Nat.shiftRight_eq_div_pow, show 2 ^ (32 : Int).toNat = 4294967296 from rfl, g5]; exact Nat.mod_eq_of_lt (by omega)
  have hL : (listB m).length = sumN' (((bs.map p1).map p2).map p3) := by
    unfold listB listN
    rw [List.length_map, List.map_map, List.map_map, show (fun i => m.getLsbD i) = fun j => (valN bs).testBit j from by funext j; rw [hc]; rfl]
    rw [hl] at hcnt
    exact hcnt
  rw [g6, hL, ← f1]
  omega

end Go.Sl
