/- A part of the proofs of statements of this seat: contracts of functions, and the plain laws that they lean on. No conditions. -/
import Derived.Test.YtbimaodbcjjbfaaRunS9
import Derived.Test.YtbimaodbcjjbfaaRunsW
namespace Go.Sl
open Go.Proofs
set_option linter.unusedVariables false
set_option linter.unusedSimpArgs false
set_option maxRecDepth 4000
theorem back_succ {xs : List Pt} {k : Nat} (h : k < xs.length) : (xs.drop (xs.length - k)).reverse ++ [at_ xs ((xs.length : Int) - 1 - (k : Int))] = (xs.drop (xs.length - (k + 1))).reverse := by
  have e : ((xs.length : Int) - 1 - (k : Int)) = ((xs.length - (k + 1) : Nat) : Int) := by omega
  rw [e, at_nat, List.drop_eq_getElem_cons (show xs.length - (k + 1) < xs.length by omega), List.reverse_cons, List.getD_eq_getElem?_getD, List.getElem?_eq_getElem (by omega), Option.getD_some, show xs.length - (k + 1) + 1 = xs.length - k by omega]
theorem sort_same {xs : List Pt} {k : Nat} (h : xs.length ≤ k) : sortB Pt.lt ((xs.drop (xs.length - k)).reverse) = sortB Pt.lt xs := by
  rw [show xs.length - k = 0 by omega, List.drop_zero]
  exact Pt.lin.sortB_eq (Pt.lin.sortB _) fun p => by rw [mem_sortB, List.mem_reverse]
theorem back_right {xs : List Pt} {k : Nat} (h : ∀ p ∈ xs, p.right) : ∀ p ∈ (xs.drop (xs.length - k)).reverse, p.right := fun p hp => h p (List.mem_of_mem_drop (List.mem_reverse.1 hp))
set_option maxHeartbeats 4000000 in
theorem RunsSort_walk {κ : Ctx} {I : List Item} {la : Option Addr} {ln lc : Nat} {ls : List Int} {a8 b8 : Int} (hl : Sl κ I (.slice la ln lc) ls) (ha : 0 ≤ a8 ∧ a8 ≤ 255) (hb : 0 ≤ b8 ∧ b8 ≤ 255) :
    CallS Try.prog κ 10 [.slice la ln lc, .int .u8 (a8), .int .u8 (b8)] I (fun r J => r = .bool true ∧ I = J) := by
 have ht5 : 0 ≤ Int.tmod a8 5 ∧ Int.tmod a8 5 < 5 := by rw [Int.tmod_eq_emod_of_nonneg ha.1]; omega
 have ht4 : 0 ≤ Int.tmod b8 4 ∧ Int.tmod b8 4 < 4 := by rw [Int.tmod_eq_emod_of_nonneg hb.1]; omega
 refine CallS.enter (L := [(0, .slice la ln lc), (1, .int .u8 (a8)), (2, .int .u8 (b8))]) Try.func10 rfl rfl rfl rfl ?_
 refine W.sr ?_
 refine G.r (Runs.assign rfl) ?_
 refine G.nt ?_
 refine W.seq ?_
 refine W.sr ?_
 refine G.r (Runs.move rfl) ?_
 refine G.e (Eff.call call42 rfl rfl Few_ok) ?_
 rintro _ _ ⟨_, _, ⟨rfl, rfl⟩, rfl, rfl⟩
 refine G.r (Runs.notd rfl) ?_
 refine G.nt ?_
 refine W.ite rfl (fun c25 => ?_) (fun c25 => ?_)
 ·refine W.sr ?_
  refine G.e (Eff.call call43 rfl rfl Awake34_ok) ?_
  rintro _ _ ⟨_, _, ⟨rfl, rfl⟩, rfl, rfl⟩
  refine G.r (Runs.assign rfl) ?_
  refine G.nt ?_
  refine W.ret ?_
  refine V.then_ret ?_
  exact V.ret1 rfl rfl (I) Fit.m ⟨rfl, rfl⟩
 ·refine W.skip ?_
  refine V.then ?_
  refine W.sr ?_
  refine G.r (Runs.move rfl) ?_
  refine G.e (Eff.call call22 rfl rfl New_ok) ?_
  rintro _ _ ⟨_, _, ⟨dk1, rfl, rfl⟩, rfl, rfl⟩
  show G Try.prog κ _ _ _ _ ([(28, .pointer (some ⟨dk1, 0, none⟩)), (27, .slice la ln lc), (25, .bool (decide (¬ (((ln : Nat) : Int) ≤ 500)))), (24, .bool (decide (((ln : Nat) : Int) ≤ 500))), (23, .slice la ln lc), (6, .bool false), (0, .slice la ln lc), (1, .int .u8 (a8)), (2, .int .u8 (b8))] : Env) (blk dk1 [.slice la ln lc, I64 (0)] 129 :: I)
  have hi0 : (0 : Int) ≤ 0 := Int.le_refl _
  refine G.r (Runs.assign rfl) ?_
  refine G.nt ?_
  refine W.sr ?_
  refine G.r (Runs.move rfl) ?_
  refine G.e (Eff.call call63 rfl rfl (Records_at (by repeat (first | exact AtF.head _ _ | apply AtF.tail)) (fun _ => Sl.fit hl Fit.m) (by omega)  (by omega))) ?_
  rintro _ _ ⟨_, _, ⟨⟨ad2, cp3, rs4, i5⟩, ⟨⟨rfl, hrrs4⟩, hi5⟩, rfl⟩, rfl, rfl⟩
  show G Try.prog κ _ _ _ _ ([(30, .slice ad2 rs4.length cp3), (29, .pointer (some ⟨dk1, 0, none⟩)), (7, .pointer (some ⟨dk1, 0, none⟩)), (28, .pointer (some ⟨dk1, 0, none⟩)), (27, .slice la ln lc), (25, .bool (decide (¬ (((ln : Nat) : Int) ≤ 500)))), (24, .bool (decide (((ln : Nat) : Int) ≤ 500))), (23, .slice la ln lc), (6, .bool false), (0, .slice la ln lc), (1, .int .u8 (a8)), (2, .int .u8 (b8))] : Env) (vc 60 (.slice ad2 rs4.length cp3) (rs4) :: blk dk1 [.slice la ln lc, I64 (i5)] 129 :: I)
  have hi5 : 0 ≤ i5 := hi5
  dsimp only at hrrs4
  have hrr : ∀ p ∈ rs4, p.right := fun p hp => (hrrs4.1 p hp).1
  have hlen := hrrs4.2
  refine G.r (Runs.assign rfl) ?_
  refine G.nt ?_
  refine W.sr ?_
  refine G.r (Runs.assign rfl) ?_
  refine G.nt ?_
  refine W.sub (L' := [(9, _), (8, _), (1, _), (2, _)]) (Sub.cons rfl (Sub.cons rfl (Sub.cons rfl (Sub.cons rfl Sub.nil)))) ?_
  refine W.seq ?_
  refine W.sr ?_
  refine G.r (Runs.move rfl) ?_
  refine G.r (Runs.lens Try.underlying55 rfl) ?_
  refine G.r (Runs.sub rfl rfl (by unfold InR; omega)) ?_
  refine G.r (Runs.assign rfl) ?_
  refine G.nt ?_
  refine W.block ?_
  refine W.loop (σ := Nat × (Option Addr) × Nat × (List Pt)) (fun s => ([(1, .int .u8 (a8)), (2, .int .u8 (b8)), (8, .slice ad2 rs4.length cp3), (9, .slice s.2.1 s.2.2.2.length s.2.2.1), (10, I64 (((rs4.length : Nat) : Int) - 1 - ((s.1 : Nat) : Int)))] : Env)) (fun s => vc 60 (.slice s.2.1 s.2.2.2.length s.2.2.1) (s.2.2.2) :: vc 60 (.slice ad2 rs4.length cp3) (rs4) :: blk dk1 [.slice la ln lc, I64 (i5)] 129 :: I) (fun s => (s.1 ≤ rs4.length) ∧ (s.2.2.2 = (rs4.drop (rs4.length - s.1)).reverse) ∧ (s.2.2.2.length = s.1)) (fun s => rs4.length - s.1) (0, none, 0, []) (show ((0 : Nat) ≤ rs4.length) ∧ (([] : List Pt) = (rs4.drop (rs4.length - (0 : Nat))).reverse) ∧ (([] : List Pt).length = (0 : Nat)) from ⟨(by omega), (by simp), rfl⟩) (Sub.cons rfl (Sub.cons rfl (Sub.cons rfl (Sub.cons (lookV rfl (by first | rfl | simp)) (Sub.cons lookO Sub.nil))))) (show Fit κ _ (vc 60 (.slice (none) ([]).length (0)) (([])) :: vc 60 (.slice ad2 rs4.length cp3) (rs4) :: blk dk1 [.slice la ln lc, I64 (i5)] 129 :: I) from (Fit.nilvc _ _)) ?_
  rintro ⟨k, ab, cb, bl⟩ hp
  obtain ⟨hk, hbl, hbn⟩ : (k ≤ rs4.length) ∧ (bl = (rs4.drop (rs4.length - k)).reverse) ∧ (bl.length = k) := hp
  show W Try.prog κ 131 _ _ ([(1, .int .u8 (a8)), (2, .int .u8 (b8)), (8, .slice ad2 rs4.length cp3), (9, .slice ab bl.length cb), (10, I64 (((rs4.length : Nat) : Int) - 1 - ((k : Nat) : Int)))] : Env) (vc 60 (.slice ab bl.length cb) (bl) :: vc 60 (.slice ad2 rs4.length cp3) (rs4) :: blk dk1 [.slice la ln lc, I64 (i5)] 129 :: I)
  refine W.seq ?_
  refine W.sr ?_
  refine G.r (Runs.move rfl) ?_
  refine G.r (Runs.geq rfl rfl) ?_
  refine G.nt ?_
  refine W.ite rfl (fun c35 => ?_) (fun c35 => ?_)
  ·refine W.skip ?_
   refine V.then ?_
   refine W.seq ?_
   refine W.block ?_
   refine W.region ?_
   refine G.r (Runs.move rfl) ?_
   refine G.r (Runs.move rfl) ?_
   refine G.r (Runs.move rfl) ?_
   refine G.r (Runs.idx (α := Pt) (xs := rs4) Try.underlying55 ty60 rfl rfl Sl.o (by omega) (by omega)) ?_
   refine G.r (Runs.gets (α := Pt) (xs := rs4) ty60 rfl Sl.o (by omega) (by omega)) ?_
   refine G.e (Eff.bs (α := Pt) (cs := [_, _]) (xs := [⟨(at_ rs4 (((rs4.length : Nat) : Int) - 1 - ((k : Nat) : Int))).u, (at_ rs4 (((rs4.length : Nat) : Int) - 1 - ((k : Nat) : Int))).v⟩]) Try.underlying55 ty60 rfl rfl (by decide) (by decide) rfl rfl rfl rfl) ?_
   rintro _ _ ⟨ad6, rfl, rfl⟩
   refine G.e (Eff.app (α := Pt) (e := 60) (xs := bl) (ys := ([⟨(at_ rs4 (((rs4.length : Nat) : Int) - 1 - ((k : Nat) : Int))).u, (at_ rs4 (((rs4.length : Nat) : Int) - 1 - ((k : Nat) : Int))).v⟩] : List Pt)) Try.underlying55 ty60 rfl rfl rfl (by repeat (first | exact List.mem_cons_self | apply List.mem_cons_of_mem)) Sl.o (by first | omega | (simp only [List.length_cons, List.length_nil]; omega)) (by decide) rfl (fun _ _ => (by repeat (first | exact At.head _ _ _ | apply At.tail)))) ?_
   rintro _ _ ⟨ad7, cp8, rfl, rfl⟩
   refine G.r (Runs.assign rfl) ?_
   refine G.nil ?_
   refine V.block_normal ?_
   refine V.then ?_
   refine W.sub (L' := [(9, _), (1, _), (2, _), (8, _), (10, _)]) (Sub.cons rfl (Sub.cons rfl (Sub.cons rfl (Sub.cons rfl (Sub.cons rfl Sub.nil))))) ?_
   refine W.region ?_
   refine G.r (Runs.move rfl) ?_
   refine G.r (Runs.sub rfl rfl (by unfold InR; omega)) ?_
   refine G.r (Runs.assign rfl) ?_
   refine G.nil ?_
   exact V.next ((k + 1), (ad7), (cp8), (bl ++ ([⟨(at_ rs4 (((rs4.length : Nat) : Int) - 1 - ((k : Nat) : Int))).u, (at_ rs4 (((rs4.length : Nat) : Int) - 1 - ((k : Nat) : Int))).v⟩] : List Pt))) (show ((k + 1 : Nat) ≤ rs4.length) ∧ ((bl ++ ([⟨(at_ rs4 (((rs4.length : Nat) : Int) - 1 - ((k : Nat) : Int))).u, (at_ rs4 (((rs4.length : Nat) : Int) - 1 - ((k : Nat) : Int))).v⟩] : List Pt) : List Pt) = (rs4.drop (rs4.length - (k + 1 : Nat))).reverse) ∧ ((bl ++ ([⟨(at_ rs4 (((rs4.length : Nat) : Int) - 1 - ((k : Nat) : Int))).u, (at_ rs4 (((rs4.length : Nat) : Int) - 1 - ((k : Nat) : Int))).v⟩] : List Pt) : List Pt).length = (k + 1 : Nat)) from ⟨(by omega), (by rw [hbl]; exact back_succ (by omega)), (by simp only [List.length_append, List.length_cons, List.length_nil]; omega)⟩) (show rs4.length - (k + 1 : Nat) < rs4.length - k from (by omega)) (Sub.cons rfl (Sub.cons rfl (Sub.cons rfl (Sub.cons (lookV rfl (by first | rfl | simp)) (Sub.cons lookO Sub.nil))))) (show Fit κ _ (vc 60 (.slice (ad7) (bl ++ ([⟨(at_ rs4 (((rs4.length : Nat) : Int) - 1 - ((k : Nat) : Int))).u, (at_ rs4 (((rs4.length : Nat) : Int) - 1 - ((k : Nat) : Int))).v⟩] : List Pt)).length (cp8)) ((bl ++ ([⟨(at_ rs4 (((rs4.length : Nat) : Int) - 1 - ((k : Nat) : Int))).u, (at_ rs4 (((rs4.length : Nat) : Int) - 1 - ((k : Nat) : Int))).v⟩] : List Pt))) :: vc 60 (.slice ad2 rs4.length cp3) (rs4) :: blk dk1 [.slice la ln lc, I64 (i5)] 129 :: I) from Fit.sub)
  ·refine W.exit ?_
   refine V.then_exit ?_
   refine V.then_exit ?_
   refine V.block_hit ?_
   refine V.then ?_
   refine W.sr ?_
   refine G.r (Runs.move rfl) ?_
   refine G.r (Runs.move rfl) ?_
   refine G.r (Runs.rem rfl rfl (by omega)) ?_
   refine G.r (Runs.convI Try.underlying5 Try.underlying3 rfl (by unfold InR; omega)) ?_
   refine G.r (Runs.add rfl rfl (by unfold InR; omega)) ?_
   obtain ⟨sza, hsza, hbsza⟩ : ∃ n : Nat, (1 + (Int.tmod a8 5)) = ((n : Nat) : Int) ∧ (1 ≤ n ∧ n ≤ 5) := ⟨(1 + (Int.tmod a8 5)).toNat, by omega, by omega⟩
   rw [hsza]
   refine G.r (Runs.move rfl) ?_
   refine G.r (Runs.rem rfl rfl (by omega)) ?_
   refine G.r (Runs.convI Try.underlying5 Try.underlying3 rfl (by unfold InR; omega)) ?_
   refine G.r (Runs.add rfl rfl (by unfold InR; omega)) ?_
   obtain ⟨mea, hmea, hbmea⟩ : ∃ n : Nat, (3 + (Int.tmod b8 4)) = ((n : Nat) : Int) ∧ (3 ≤ n ∧ n ≤ 6) := ⟨(3 + (Int.tmod b8 4)).toNat, by omega, by omega⟩
   rw [hmea]
   refine G.e (Eff.call call64 rfl rfl (Sort_ok (sz := sza) (me := mea) Sl.o (by omega) (by omega) hrr (by omega))) ?_
   rintro _ _ ⟨_, _, ⟨ad9, cp10, rn11, rfl, hrn11, rfl⟩, rfl, rfl⟩
   have hsad9 := sortB_len (lt := Pt.lt) rs4
   refine G.r (Runs.move rfl) ?_
   refine G.r (Runs.extract rfl rfl) ?_
   refine G.r (Runs.extract rfl rfl) ?_
   refine G.r (Runs.extract rfl rfl) ?_
   refine G.e (Eff.alloc ty57 rfl) ?_
   rintro _ _ ⟨b12, rfl, rfl⟩
   refine G.e (Eff.st (cs := [_, _]) (vs := [_, _]) (cs' := [_, _]) ty57) ?_
   rintro _ _ ⟨rfl, rfl⟩
   refine G.r (Runs.assign rfl) ?_
   refine G.r (Runs.assign rfl) ?_
   refine G.nt ?_
   refine W.sub (L' := [(13, _), (11, _), (8, _), (9, _)]) (Sub.cons rfl (Sub.cons rfl (Sub.cons rfl (Sub.cons rfl Sub.nil)))) ?_
   refine W.sr ?_
   refine G.r (Runs.move rfl) ?_
   refine G.e (Eff.call call64 rfl rfl (Sort_ok (sz := 32) (me := 3) Sl.o (by omega) (by omega) (by rw [hbl]; exact back_right hrr) (by omega))) ?_
   rintro _ _ ⟨_, _, ⟨ad13, cp14, rn15, rfl, hrn15, rfl⟩, rfl, rfl⟩
   have hsad13 := sortB_len (lt := Pt.lt) bl
   have hsame : sortB Pt.lt bl = sortB Pt.lt rs4 := by rw [hbl]; exact sort_same (by omega)
   have hRok : RunOk ((sza : Nat) : Int) (sortB Pt.lt rs4) := ⟨by omega, Pt.lin.sortB _, fun p hp => hrr p ((mem_sortB _ _).1 hp)⟩
   refine G.r (Runs.move rfl) ?_
   refine G.r (Runs.extract rfl rfl) ?_
   refine G.r (Runs.extract rfl rfl) ?_
   refine G.r (Runs.extract rfl rfl) ?_
   refine G.e (Eff.alloc ty57 rfl) ?_
   rintro _ _ ⟨b16, rfl, rfl⟩
   refine G.e (Eff.st (cs := [_, _]) (vs := [_, _]) (cs' := [_, _]) ty57) ?_
   rintro _ _ ⟨rfl, rfl⟩
   refine G.r (Runs.assign rfl) ?_
   refine G.r (Runs.assign rfl) ?_
   refine G.nt ?_
   refine W.seq ?_
   refine W.sr ?_
   refine G.r (Runs.move rfl) ?_
   refine G.r (Runs.neq rfl rfl) ?_
   refine G.r (Runs.move rfl) ?_
   refine G.split (d := 67) rfl (fun g67 => ?_) (fun g67 => ?_)
   ·exact absurd rfl g67
   ·refine G.ro (Runs.move rfl) ?_
    refine G.ro (Runs.neq rfl rfl) ?_
    refine G.r (Runs.pickf rfl rfl) ?_
    refine G.r (Runs.move rfl) ?_
    refine G.split (d := 71) rfl (fun g71 => ?_) (fun g71 => ?_)
    ·exact absurd rfl g71
    ·refine G.ro (Runs.move rfl) ?_
     refine G.ro (Runs.neq rfl rfl) ?_
     refine G.r (Runs.pickf rfl rfl) ?_
     refine G.r (Runs.move rfl) ?_
     refine G.split (d := 75) rfl (fun g75 => ?_) (fun g75 => ?_)
     ·exact absurd (hrn15.1 (by omega)) g75
     ·refine G.ro (Runs.lds (vs := [_, _]) ty57) ?_
      refine G.eff (Wanted.on rfl rfl rfl) (Eff.call call65 rfl rfl (RunsCheck_ok Sl.o hRok)) ?_
      rintro _ _ ⟨_, _, ⟨rfl, rfl⟩, rfl, rfl⟩
      refine G.ro (Runs.neq rfl rfl) ?_
      refine G.r (Runs.pickf rfl rfl) ?_
      refine G.r (Runs.move rfl) ?_
      refine G.split (d := 80) rfl (fun g80 => ?_) (fun g80 => ?_)
      ·exact absurd rfl g80
      ·refine G.ro (Runs.fieldAddr fld57_1 rfl) ?_
       refine G.ro (Runs.ld ty55) ?_
       refine G.ro (Runs.lens Try.underlying55 rfl) ?_
       refine G.ro (Runs.fieldAddr fld57_1 rfl) ?_
       refine G.ro (Runs.ld ty55) ?_
       refine G.ro (Runs.lens Try.underlying55 rfl) ?_
       refine G.ro (Runs.neq rfl rfl) ?_
       refine G.r (Runs.pickf rfl rfl) ?_
       refine G.nt ?_
       refine W.sub (L' := [(88, _), (14, _), (11, _), (8, _)]) (Sub.cons rfl (Sub.cons rfl (Sub.cons rfl (Sub.cons rfl Sub.nil)))) ?_
       refine W.ite rfl (fun c88 => ?_) (fun c88 => ?_)
       ·exact absurd (by rw [hsame]) c88
       ·refine W.skip ?_
        refine V.then ?_
        refine W.seq ?_
        refine W.sr ?_
        refine G.r (Runs.fieldAddr fld57_1 rfl) ?_
        refine G.r (Runs.ld ty55) ?_
        refine G.r (Runs.lens Try.underlying55 rfl) ?_
        refine G.r (Runs.move rfl) ?_
        refine G.nt ?_
        refine W.block ?_
        refine W.loop (σ := Nat) (fun s => ([(8, .slice ad2 rs4.length cp3), (11, .pointer (some ⟨b12, 0, none⟩)), (14, .pointer (some ⟨b16, 0, none⟩)), (91, I64 ((((sortB Pt.lt rs4).length : Nat) : Int))), (92, I64 (((s : Nat) : Int)))] : Env)) (fun s => blk b16 [I64 (32), .slice ad13 (sortB Pt.lt bl).length cp14] 57 :: vc 60 (.slice ad13 (sortB Pt.lt bl).length cp14) (sortB Pt.lt bl) :: blk b12 [I64 (((sza : Nat) : Int)), .slice ad9 (sortB Pt.lt rs4).length cp10] 57 :: vc 60 (.slice ad9 (sortB Pt.lt rs4).length cp10) (sortB Pt.lt rs4) :: vc 60 (.slice ab bl.length cb) (bl) :: vc 60 (.slice ad2 rs4.length cp3) (rs4) :: blk dk1 [.slice la ln lc, I64 (i5)] 129 :: I) (fun s => (s ≤ (sortB Pt.lt rs4).length)) (fun s => (sortB Pt.lt rs4).length - s) (0) (show ((0 : Nat) ≤ (sortB Pt.lt rs4).length) from (by omega)) (Sub.cons rfl (Sub.cons rfl (Sub.cons rfl (Sub.cons rfl (Sub.cons lookO Sub.nil))))) (show Fit κ _ (blk b16 [I64 (32), .slice ad13 (sortB Pt.lt bl).length cp14] 57 :: vc 60 (.slice ad13 (sortB Pt.lt bl).length cp14) (sortB Pt.lt bl) :: blk b12 [I64 (((sza : Nat) : Int)), .slice ad9 (sortB Pt.lt rs4).length cp10] 57 :: vc 60 (.slice ad9 (sortB Pt.lt rs4).length cp10) (sortB Pt.lt rs4) :: vc 60 (.slice ab bl.length cb) (bl) :: vc 60 (.slice ad2 rs4.length cp3) (rs4) :: blk dk1 [.slice la ln lc, I64 (i5)] 129 :: I) from Fit.sub) ?_
        rintro k hp
        have hk : (k ≤ (sortB Pt.lt rs4).length) := hp
        show W Try.prog κ 131 _ _ ([(8, .slice ad2 rs4.length cp3), (11, .pointer (some ⟨b12, 0, none⟩)), (14, .pointer (some ⟨b16, 0, none⟩)), (91, I64 ((((sortB Pt.lt rs4).length : Nat) : Int))), (92, I64 (((k : Nat) : Int)))] : Env) (blk b16 [I64 (32), .slice ad13 (sortB Pt.lt bl).length cp14] 57 :: vc 60 (.slice ad13 (sortB Pt.lt bl).length cp14) (sortB Pt.lt bl) :: blk b12 [I64 (((sza : Nat) : Int)), .slice ad9 (sortB Pt.lt rs4).length cp10] 57 :: vc 60 (.slice ad9 (sortB Pt.lt rs4).length cp10) (sortB Pt.lt rs4) :: vc 60 (.slice ab bl.length cb) (bl) :: vc 60 (.slice ad2 rs4.length cp3) (rs4) :: blk dk1 [.slice la ln lc, I64 (i5)] 129 :: I)
        refine W.sr ?_
        refine G.r (Runs.lss rfl rfl) ?_
        refine G.nt ?_
        refine W.seq ?_
        refine W.ite rfl (fun c93 => ?_) (fun c93 => ?_)
        ·refine W.skip ?_
         refine V.then ?_
         refine W.seq ?_
         refine W.block ?_
         refine W.sr ?_
         refine G.r (Runs.move rfl) ?_
         refine G.r (Runs.assign rfl) ?_
         refine G.nt ?_
         refine W.seq ?_
         refine W.drawn mixed ?_
         refine A.hold (blk b16 [I64 (32), .slice ad13 (sortB Pt.lt bl).length cp14] 57 :: vc 60 (.slice ad13 (sortB Pt.lt bl).length cp14) (sortB Pt.lt bl) :: blk b12 [I64 (((sza : Nat) : Int)), .slice ad9 (sortB Pt.lt rs4).length cp10] 57 :: vc 60 (.slice ad9 (sortB Pt.lt rs4).length cp10) (sortB Pt.lt rs4) :: vc 60 (.slice ab bl.length cb) (bl) :: vc 60 (.slice ad2 rs4.length cp3) (rs4) :: blk dk1 [.slice la ln lc, I64 (i5)] 129 :: I) 11 ?_
         refine D.r 0 rfl (Runs.fieldAddr fld57_1 rfl) ?_
         refine D.r 1 rfl (Runs.ld ty55) ?_
         refine D.r 2 rfl (Runs.move rfl) ?_
         refine D.r 3 rfl (Runs.idx (α := Pt) (xs := sortB Pt.lt rs4) Try.underlying55 ty60 rfl rfl Sl.o (by omega) (by omega)) ?_
         refine D.r 4 rfl (Runs.gets (α := Pt) (xs := sortB Pt.lt rs4) ty60 rfl Sl.o (by omega) (by omega)) ?_
         refine D.r 5 rfl (Runs.fieldAddr fld57_1 rfl) ?_
         refine D.r 6 rfl (Runs.ld ty55) ?_
         refine D.r 7 rfl (Runs.move rfl) ?_
         refine D.r 8 rfl (Runs.idx (α := Pt) (xs := sortB Pt.lt bl) Try.underlying55 ty60 rfl rfl Sl.o (by omega) (by omega)) ?_
         refine D.r 9 rfl (Runs.gets (α := Pt) (xs := sortB Pt.lt bl) ty60 rfl Sl.o (by omega) (by omega)) ?_
         refine D.r 10 rfl (Runs.neqT (α := Pt) (a := (at_ (sortB Pt.lt rs4) ((k : Nat) : Int))) (b := (at_ (sortB Pt.lt bl) ((k : Nat) : Int))) eqt60 rfl rfl) ?_
         refine D.done (by kernel_rfl) ?_
         refine V.then ?_
         refine W.sub (L' := [(105, _), (8, _), (11, _), (14, _), (91, _), (92, _)]) (Sub.cons rfl (Sub.cons rfl (Sub.cons rfl (Sub.cons rfl (Sub.cons rfl (Sub.cons rfl Sub.nil)))))) ?_
         refine W.ite rfl (fun c105 => ?_) (fun c105 => ?_)
         ·exact absurd (by rw [hsame]) c105
         ·refine W.skip ?_
          refine V.block_normal ?_
          refine V.then ?_
          refine W.region ?_
          refine G.r (Runs.add rfl rfl (by unfold InR; omega)) ?_
          refine G.r (Runs.move rfl) ?_
          refine G.nil ?_
          exact V.next ((k + 1)) (show ((k + 1 : Nat) ≤ (sortB Pt.lt rs4).length) from (by omega)) (show (sortB Pt.lt rs4).length - (k + 1 : Nat) < (sortB Pt.lt rs4).length - k from (by omega)) (Sub.cons rfl (Sub.cons rfl (Sub.cons rfl (Sub.cons rfl (Sub.cons lookO Sub.nil))))) (show Fit κ _ (blk b16 [I64 (32), .slice ad13 (sortB Pt.lt bl).length cp14] 57 :: vc 60 (.slice ad13 (sortB Pt.lt bl).length cp14) (sortB Pt.lt bl) :: blk b12 [I64 (((sza : Nat) : Int)), .slice ad9 (sortB Pt.lt rs4).length cp10] 57 :: vc 60 (.slice ad9 (sortB Pt.lt rs4).length cp10) (sortB Pt.lt rs4) :: vc 60 (.slice ab bl.length cb) (bl) :: vc 60 (.slice ad2 rs4.length cp3) (rs4) :: blk dk1 [.slice la ln lc, I64 (i5)] 129 :: I) from Fit.sub)
        ·refine W.exit ?_
         refine V.then_exit ?_
         refine V.then_exit ?_
         refine V.block_hit ?_
         refine V.then ?_
         refine W.seq ?_
         refine W.sr ?_
         refine G.r (Runs.move rfl) ?_
         refine G.r (Runs.lens Try.underlying55 rfl) ?_
         refine G.r (Runs.move rfl) ?_
         refine G.nt ?_
         refine W.block ?_
         refine W.loop (σ := Nat) (fun s => ([(11, .pointer (some ⟨b12, 0, none⟩)), (107, .slice ad2 rs4.length cp3), (108, I64 (((rs4.length : Nat) : Int))), (109, I64 (((s : Nat) : Int)))] : Env)) (fun s => blk b16 [I64 (32), .slice ad13 (sortB Pt.lt bl).length cp14] 57 :: vc 60 (.slice ad13 (sortB Pt.lt bl).length cp14) (sortB Pt.lt bl) :: blk b12 [I64 (((sza : Nat) : Int)), .slice ad9 (sortB Pt.lt rs4).length cp10] 57 :: vc 60 (.slice ad9 (sortB Pt.lt rs4).length cp10) (sortB Pt.lt rs4) :: vc 60 (.slice ab bl.length cb) (bl) :: vc 60 (.slice ad2 rs4.length cp3) (rs4) :: blk dk1 [.slice la ln lc, I64 (i5)] 129 :: I) (fun s => (s ≤ rs4.length)) (fun s => rs4.length - s) (0) (show ((0 : Nat) ≤ rs4.length) from (by omega)) (Sub.cons rfl (Sub.cons rfl (Sub.cons rfl (Sub.cons lookO Sub.nil)))) (show Fit κ _ (blk b16 [I64 (32), .slice ad13 (sortB Pt.lt bl).length cp14] 57 :: vc 60 (.slice ad13 (sortB Pt.lt bl).length cp14) (sortB Pt.lt bl) :: blk b12 [I64 (((sza : Nat) : Int)), .slice ad9 (sortB Pt.lt rs4).length cp10] 57 :: vc 60 (.slice ad9 (sortB Pt.lt rs4).length cp10) (sortB Pt.lt rs4) :: vc 60 (.slice ab bl.length cb) (bl) :: vc 60 (.slice ad2 rs4.length cp3) (rs4) :: blk dk1 [.slice la ln lc, I64 (i5)] 129 :: I) from Fit.sub) ?_
         rintro k hp
         have hk : (k ≤ rs4.length) := hp
         show W Try.prog κ 131 _ _ ([(11, .pointer (some ⟨b12, 0, none⟩)), (107, .slice ad2 rs4.length cp3), (108, I64 (((rs4.length : Nat) : Int))), (109, I64 (((k : Nat) : Int)))] : Env) (blk b16 [I64 (32), .slice ad13 (sortB Pt.lt bl).length cp14] 57 :: vc 60 (.slice ad13 (sortB Pt.lt bl).length cp14) (sortB Pt.lt bl) :: blk b12 [I64 (((sza : Nat) : Int)), .slice ad9 (sortB Pt.lt rs4).length cp10] 57 :: vc 60 (.slice ad9 (sortB Pt.lt rs4).length cp10) (sortB Pt.lt rs4) :: vc 60 (.slice ab bl.length cb) (bl) :: vc 60 (.slice ad2 rs4.length cp3) (rs4) :: blk dk1 [.slice la ln lc, I64 (i5)] 129 :: I)
         refine W.sr ?_
         refine G.r (Runs.lss rfl rfl) ?_
         refine G.nt ?_
         refine W.seq ?_
         refine W.ite rfl (fun c110 => ?_) (fun c110 => ?_)
         ·refine W.skip ?_
          refine V.then ?_
          refine W.seq ?_
          refine W.block ?_
          refine W.sr ?_
          refine G.r (Runs.idx (α := Pt) (xs := rs4) Try.underlying55 ty60 rfl rfl Sl.o (by omega) (by omega)) ?_
          refine G.r (Runs.gets (α := Pt) (xs := rs4) ty60 rfl Sl.o (by omega) (by omega)) ?_
          refine G.e (Eff.alloc ty60 rfl) ?_
          rintro _ _ ⟨b17, rfl, rfl⟩
          refine G.e (Eff.st (cs := [_, _]) (vs := [_, _]) (cs' := [_, _]) ty60) ?_
          rintro _ _ ⟨rfl, rfl⟩
          refine G.nt ?_
          refine W.sr ?_
          refine G.r (Runs.lds (vs := [_, _]) ty57) ?_
          refine G.r (Runs.idxArr Try.underlying60 ty2 rfl rfl (by omega) (by omega)) ?_
          refine G.r (Runs.ld ty3) ?_
          refine G.r (Runs.idxArr Try.underlying60 ty2 rfl rfl (by omega) (by omega)) ?_
          refine G.r (Runs.ld ty3) ?_
          refine G.e (Eff.call call46 rfl rfl (Find_ok Sl.o hRok (by omega) (⟨(at_ rs4 ((k : Nat) : Int)).u, (at_ rs4 ((k : Nat) : Int)).v⟩ : Pt))) ?_
          rintro _ _ ⟨_, _, ⟨rfl, rfl⟩, rfl, rfl⟩
          refine G.r (Runs.move rfl) ?_
          refine G.r (Runs.extract rfl rfl) ?_
          refine G.r (Runs.extract rfl rfl) ?_
          refine G.r (Runs.extract rfl rfl) ?_
          refine G.r (Runs.assign rfl) ?_
          refine G.r (Runs.assign rfl) ?_
          refine G.r (Runs.assign rfl) ?_
          refine G.nt ?_
          refine W.sub (L' := [(22, _), (20, _), (11, _), (107, _), (108, _), (109, _)]) (Sub.cons rfl (Sub.cons rfl (Sub.cons rfl (Sub.cons rfl (Sub.cons rfl (Sub.cons rfl Sub.nil)))))) ?_
          refine W.sr ?_
          refine G.r (Runs.move rfl) ?_
          refine G.r (Runs.not rfl) ?_
          refine G.r (Runs.move rfl) ?_
          refine G.splitb (d := 125) rfl (fun g125 => ?_) (fun g125 => ?_)
          ·exact absurd g125 (by rw [(find_spec (by omega) (Pt.lin.sortB _) _).1, decide_eq_true ((mem_sortB _ _).2 (at_mem (xs := rs4) (i := ((k : Nat) : Int)) (by omega) (by omega)))]; decide)
          ·refine G.ro (Runs.move rfl) ?_
           refine G.ro (Runs.neq rfl rfl) ?_
           refine G.r (Runs.pickf rfl rfl) ?_
           refine G.nt ?_
           refine W.ite rfl (fun c128 => ?_) (fun c128 => ?_)
           ·exact absurd rfl c128
           ·refine W.skip ?_
            refine V.block_normal ?_
            refine V.then ?_
            refine W.region ?_
            refine G.r (Runs.add rfl rfl (by unfold InR; omega)) ?_
            refine G.r (Runs.move rfl) ?_
            refine G.nil ?_
            exact V.next ((k + 1)) (show ((k + 1 : Nat) ≤ rs4.length) from (by omega)) (show rs4.length - (k + 1 : Nat) < rs4.length - k from (by omega)) (Sub.cons rfl (Sub.cons rfl (Sub.cons rfl (Sub.cons lookO Sub.nil)))) (show Fit κ _ (blk b16 [I64 (32), .slice ad13 (sortB Pt.lt bl).length cp14] 57 :: vc 60 (.slice ad13 (sortB Pt.lt bl).length cp14) (sortB Pt.lt bl) :: blk b12 [I64 (((sza : Nat) : Int)), .slice ad9 (sortB Pt.lt rs4).length cp10] 57 :: vc 60 (.slice ad9 (sortB Pt.lt rs4).length cp10) (sortB Pt.lt rs4) :: vc 60 (.slice ab bl.length cb) (bl) :: vc 60 (.slice ad2 rs4.length cp3) (rs4) :: blk dk1 [.slice la ln lc, I64 (i5)] 129 :: I) from Fit.sub)
         ·refine W.exit ?_
          refine V.then_exit ?_
          refine V.then_exit ?_
          refine V.block_hit ?_
          refine V.then ?_
          refine W.sr ?_
          refine G.e (Eff.call call43 rfl rfl Awake34_ok) ?_
          rintro _ _ ⟨_, _, ⟨rfl, rfl⟩, rfl, rfl⟩
          refine G.r (Runs.assign rfl) ?_
          refine G.nt ?_
          refine W.ret ?_
          exact V.ret1 rfl rfl (I) Fit.m ⟨rfl, rfl⟩

end Go.Sl
