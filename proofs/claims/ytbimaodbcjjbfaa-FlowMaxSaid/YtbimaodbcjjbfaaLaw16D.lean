/- A part of the proofs of statements of this seat: contracts of functions, and the plain laws that they lean on. No conditions. -/
import Derived.Test.YtbimaodbcjjbfaaNetY
import Derived.Test.YtbimaodbcjjbfaaNet
namespace Go.Sl
open Go.Proofs
set_option linter.unusedVariables false
set_option linter.unusedSimpArgs false
set_option maxRecDepth 4000
def Net.Slight (n : Net) : Prop := (n.arcs.length : Int) ≤ 60 ∧ (n.nodes ≤ 20 ∨ checkN n ≠ 0)
instance (n : Net) : Decidable n.Slight := by unfold Net.Slight; infer_instance

theorem Light_ok {κ : Ctx} {I : List Item} {n : Net} {v : Value} (hl : Sl κ I v n.arcs) :
    CallS Try.prog κ 31 [.agg #[I64 (n.nodes), I64 (n.source), I64 (n.sink), v]] I (fun r J => r = .bool (decide n.Slight) ∧ I = J) := by
 refine CallS.enter (L := [(0, .agg #[I64 (n.nodes), I64 (n.source), I64 (n.sink), v])]) Try.func31 rfl rfl rfl rfl ?_
 refine W.sr ?_
 refine G.e (Eff.box (cs := [_, _, _, _]) rfl rfl rfl) ?_
 rintro _ _ ⟨b1, rfl, rfl⟩
 refine G.r (Runs.assign rfl) ?_
 refine G.nt ?_
 refine W.sr ?_
 refine G.r (Runs.fieldAddr fld30_3 rfl) ?_
 refine G.r (Runs.ld ty28) ?_
 refine G.r (Runs.lenT (α := Arc) (xs := n.arcs) Try.underlying28 rfl (Sl.f hl)) ?_
 refine G.r (Runs.leq rfl rfl) ?_
 refine G.r (Runs.move rfl) ?_
 refine G.split (d := 7) rfl (fun g7 => ?_) (fun g7 => ?_)
 ·refine G.ro (Runs.fieldAddr fld30_0 rfl) ?_
  refine G.ro (Runs.ld ty3) ?_
  refine G.ro (Runs.leq rfl rfl) ?_
  refine G.ro (Runs.move rfl) ?_
  refine G.split (d := 11) rfl (fun g11 => ?_) (fun g11 => ?_)
  ·refine G.po ?_
   refine G.po ?_
   refine G.po ?_
   refine G.ro (Runs.pickt rfl rfl) ?_
   refine G.r (Runs.pickt rfl rfl) ?_
   refine G.r (Runs.assign rfl) ?_
   refine G.nt ?_
   refine W.sub (L' := [(2, _)]) (Sub.cons rfl Sub.nil) ?_
   refine W.ret ?_
   exact V.ret1 rfl rfl (I) Fit.m ⟨by rw [decide_eq_true (show n.Slight from ⟨g7, .inl g11⟩)], rfl⟩
  ·refine G.ro (Runs.lds (vs := [_, _, _, _]) ty30) ?_
   refine G.eff (Wanted.on rfl rfl rfl) (Eff.call call35 rfl rfl (RCheck_ok (n := n) (Sl.f hl))) ?_
   rintro _ _ ⟨_, _, ⟨rfl, rfl⟩, rfl, rfl⟩
   refine G.ro (Runs.neq rfl rfl) ?_
   refine G.ro (Runs.pickf rfl rfl) ?_
   refine G.r (Runs.pickt rfl rfl) ?_
   refine G.r (Runs.assign rfl) ?_
   refine G.nt ?_
   refine W.sub (L' := [(2, _)]) (Sub.cons rfl Sub.nil) ?_
   refine W.ret ?_
   exact V.ret1 rfl rfl (I) Fit.m ⟨by rw [decide_eq_decide.2 (show n.Slight ↔ checkN n ≠ 0 from ⟨fun h => h.2.resolve_left g11, fun h => ⟨g7, .inr h⟩⟩)], rfl⟩
 ·refine G.po ?_
  refine G.po ?_
  refine G.po ?_
  refine G.po ?_
  refine G.pu ?_
  refine G.pu ?_
  refine G.pu ?_
  refine G.po ?_
  refine G.r (Runs.pickf rfl rfl) ?_
  refine G.r (Runs.assign rfl) ?_
  refine G.nt ?_
  refine W.sub (L' := [(2, _)]) (Sub.cons rfl Sub.nil) ?_
  refine W.ret ?_
  exact V.ret1 rfl rfl (I) Fit.m ⟨by rw [decide_eq_false (show ¬ n.Slight from fun h => g7 h.1)], rfl⟩

set_option maxHeartbeats 4000000 in
theorem Odd_base {κ : Ctx} {I : List Item} {b : Nat} {lv : Value} {ls : List Int} {i : Int} {n : Net} {v : Value} (hl : ∀ q, Sl κ (deck b lv q :: I) lv ls) (h0 : 0 ≤ i) (hn : ∀ q, Sl κ (deck b lv q :: I) v n.arcs) (hm : n.Made) :
    CallS Try.prog κ 32 [.pointer (some ⟨b, 0, none⟩), .agg #[I64 (n.nodes), I64 (n.source), I64 (n.sink), v]] (blk b [lv, I64 (i)] 129 :: I) (fun r J => ∃ y : Net × (Option Addr) × Nat × Int, ((r = .agg #[I64 y.1.nodes, I64 y.1.source, I64 y.1.sink, .slice y.2.1 y.1.arcs.length y.2.2.1] ∧ y.1.arcs.length ≤ 15) ∧ 0 ≤ y.2.2.2) ∧ J = [vc 43 (.slice y.2.1 y.1.arcs.length y.2.2.1) y.1.arcs] ++ deck b lv y.2.2.2 :: I) := by
 have hmlim := hm.lim
 refine CallS.enter (L := [(0, .pointer (some ⟨b, 0, none⟩)), (1, .agg #[I64 (n.nodes), I64 (n.source), I64 (n.sink), v])]) Try.func32 rfl rfl rfl rfl ?_
 refine W.sr ?_
 refine G.e (Eff.box (cs := [_, _, _, _]) rfl rfl rfl) ?_
 rintro _ _ ⟨b1, rfl, rfl⟩
 refine G.e (Eff.alloc ty30 rfl) ?_
 rintro _ _ ⟨b2, rfl, rfl⟩
 refine G.nt ?_
 refine W.sr ?_
 refine G.r (Runs.fieldAddr fld30_3 rfl) ?_
 refine G.r (Runs.ld ty28) ?_
 refine G.e (Eff.clone (α := Arc) (ys := n.arcs) Try.underlying28 ty43 rfl rfl rfl (Sl.fit (hn _) Fit.m) (by omega) (by decide) rfl) ?_
 rintro _ _ ⟨ad3, cp4, rfl, rfl⟩
 refine G.r (Runs.fieldAddr fld30_3 rfl) ?_
 refine G.e (Eff.st (cs := [_, _, _, _]) (vs := [_]) (cs' := [_, _, _, _]) ty28) ?_
 rintro _ _ ⟨rfl, rfl⟩
 refine G.nt ?_
 refine W.cut (σ := Int × Int × Int × (List Arc) × Int) (fun s => ([(3, .pointer (some ⟨b1, 0, none⟩)), (4, .pointer (some ⟨b2, 0, none⟩))] : Env)) (fun s => vc 43 (.slice ad3 (n.arcs).length cp4) (s.2.2.2.1) :: blk b2 [I64 (0), I64 (0), I64 (0), .slice none 0 0] 30 :: blk b1 [I64 (s.1), I64 (s.2.1), I64 (s.2.2.1), .slice ad3 (n.arcs).length cp4] 30 :: blk b [lv, I64 (s.2.2.2.2)] 129 :: I) (fun s => (s.2.2.2.1.length = n.arcs.length) ∧ (0 ≤ s.2.2.2.2)) ?_ ?_
 ·refine W.sr ?_
  refine G.r (Runs.fieldAddr fld30_3 rfl) ?_
  refine G.r (Runs.ld ty28) ?_
  refine G.r (Runs.lens Try.underlying28 rfl) ?_
  refine G.r (Runs.assign rfl) ?_
  refine G.nt ?_
  refine W.sr ?_
  refine G.r (Runs.move rfl) ?_
  refine G.e (Eff.call call25 rfl rfl (Next_ok (by repeat (first | exact AtF.head _ _ | apply AtF.tail)) (Sl.fit (hl _) Fit.m) (by omega) (by omega))) ?_
  rintro _ _ ⟨_, _, ⟨x5, i6, rfl, hx5, hi6, rfl⟩, rfl, rfl⟩
  show G Try.prog κ _ _ _ _ ([(15, I64 (x5)), (14, .pointer (some ⟨b, 0, none⟩)), (5, I64 ((((n.arcs).length : Nat) : Int))), (13, I64 ((((n.arcs).length : Nat) : Int))), (12, .slice ad3 (n.arcs).length cp4), (11, .pointer (some ⟨b1, 3, none⟩)), (10, .pointer (some ⟨b1, 3, none⟩)), (9, .slice ad3 (n.arcs).length cp4), (8, v), (7, .pointer (some ⟨b1, 3, none⟩)), (4, .pointer (some ⟨b2, 0, none⟩)), (3, .pointer (some ⟨b1, 0, none⟩)), (0, .pointer (some ⟨b, 0, none⟩)), (1, .agg #[I64 (n.nodes), I64 (n.source), I64 (n.sink), v])] : Env) (vc 43 (.slice ad3 (n.arcs).length cp4) (n.arcs) :: blk b2 [I64 (0), I64 (0), I64 (0), .slice none 0 0] 30 :: blk b1 [I64 (n.nodes), I64 (n.source), I64 (n.sink), .slice ad3 (n.arcs).length cp4] 30 :: blk b [lv, I64 (i6)] 129 :: I)
  refine G.nt ?_
  refine W.sub (L' := [(15, _), (5, _), (4, _), (3, _), (0, _)]) (Sub.cons rfl (Sub.cons rfl (Sub.cons rfl (Sub.cons rfl (Sub.cons rfl Sub.nil))))) ?_
  refine W.block ?_
  refine W.sr ?_
  refine G.r (Runs.eql rfl rfl) ?_
  refine G.r (Runs.assign rfl) ?_
  refine G.nt ?_
  refine W.ite rfl (fun c16 => ?_) (fun c16 => ?_)
  ·refine W.region ?_
   refine G.r (Runs.move rfl) ?_
   refine G.e (Eff.call call25 rfl rfl (Next_ok (by repeat (first | exact AtF.head _ _ | apply AtF.tail)) (Sl.fit (hl _) Fit.m) (by omega) (by omega))) ?_
   rintro _ _ ⟨_, _, ⟨x7, i8, rfl, hx7, hi8, rfl⟩, rfl, rfl⟩
   show G Try.prog κ _ _ _ _ ([(19, I64 (x7)), (18, .pointer (some ⟨b, 0, none⟩)), (16, .bool (decide (x5 = 0))), (17, .bool (decide (x5 = 0))), (15, I64 (x5)), (5, I64 ((((n.arcs).length : Nat) : Int))), (4, .pointer (some ⟨b2, 0, none⟩)), (3, .pointer (some ⟨b1, 0, none⟩)), (0, .pointer (some ⟨b, 0, none⟩))] : Env) (vc 43 (.slice ad3 (n.arcs).length cp4) (n.arcs) :: blk b2 [I64 (0), I64 (0), I64 (0), .slice none 0 0] 30 :: blk b1 [I64 (n.nodes), I64 (n.source), I64 (n.sink), .slice ad3 (n.arcs).length cp4] 30 :: blk b [lv, I64 (i8)] 129 :: I)
   refine G.r (Runs.sub rfl rfl (by unfold InR; omega)) ?_
   refine G.r (Runs.fieldAddr fld30_1 rfl) ?_
   refine G.e (Eff.st (cs := [_, _, _, _]) (vs := [_]) (cs' := [_, _, _, _]) ty3) ?_
   rintro _ _ ⟨rfl, rfl⟩
   refine G.nil ?_
   refine V.block_normal ?_
   exact V.mid ((n.nodes), (x7 - 1), (n.sink), (n.arcs), (i8)) (show ((n.arcs : List Arc).length = n.arcs.length) ∧ (0 ≤ (i8 : Int)) from ⟨(by first | rfl | exact List.length_set), (by omega)⟩) (Sub.cons rfl (Sub.cons rfl Sub.nil)) (show Fit κ _ (vc 43 (.slice ad3 (n.arcs).length cp4) ((n.arcs)) :: blk b2 [I64 (0), I64 (0), I64 (0), .slice none 0 0] 30 :: blk b1 [I64 ((n.nodes)), I64 ((x7 - 1)), I64 ((n.sink)), .slice ad3 (n.arcs).length cp4] 30 :: blk b [lv, I64 ((i8))] 129 :: I) from (by first | exact Fit.s | (simp only [List.length_set]; exact Fit.s)))
  ·refine W.sr ?_
   refine G.r (Runs.eql rfl rfl) ?_
   refine G.r (Runs.assign rfl) ?_
   refine G.nt ?_
   refine W.ite rfl (fun c22 => ?_) (fun c22 => ?_)
   ·refine W.region ?_
    refine G.r (Runs.fieldAddr fld30_1 rfl) ?_
    refine G.r (Runs.ld ty3) ?_
    refine G.r (Runs.fieldAddr fld30_2 rfl) ?_
    refine G.e (Eff.st (cs := [_, _, _, _]) (vs := [_]) (cs' := [_, _, _, _]) ty3) ?_
    rintro _ _ ⟨rfl, rfl⟩
    refine G.nil ?_
    refine V.block_normal ?_
    exact V.mid ((n.nodes), (n.source), (n.source), (n.arcs), (i6)) (show ((n.arcs : List Arc).length = n.arcs.length) ∧ (0 ≤ (i6 : Int)) from ⟨(by first | rfl | exact List.length_set), (by omega)⟩) (Sub.cons rfl (Sub.cons rfl Sub.nil)) (show Fit κ _ (vc 43 (.slice ad3 (n.arcs).length cp4) ((n.arcs)) :: blk b2 [I64 (0), I64 (0), I64 (0), .slice none 0 0] 30 :: blk b1 [I64 ((n.nodes)), I64 ((n.source)), I64 ((n.source)), .slice ad3 (n.arcs).length cp4] 30 :: blk b [lv, I64 ((i6))] 129 :: I) from (by first | exact Fit.s | (simp only [List.length_set]; exact Fit.s)))
   ·refine W.sr ?_
    refine G.r (Runs.eql rfl rfl) ?_
    refine G.r (Runs.assign rfl) ?_
    refine G.nt ?_
    refine W.ite rfl (fun c27 => ?_) (fun c27 => ?_)
    ·refine W.region ?_
     refine G.e (Eff.bs (α := Int) (cs := [I64 (-1), I64 (0), I64 (1), I64 (2), I64 (4201)]) (xs := [-1, 0, 1, 2, 4201]) Try.underlying22 ty3 rfl rfl (by decide) (by decide) rfl (by kernel_rfl) rfl rfl) ?_
     rintro _ _ ⟨ad9, rfl, rfl⟩
     refine G.r (Runs.move rfl) ?_
     refine G.e (Eff.call call25 rfl rfl (Next_ok (by repeat (first | exact AtF.head _ _ | apply AtF.tail)) (Sl.fit (hl _) Fit.m) (by omega) (by omega))) ?_
     rintro _ _ ⟨_, _, ⟨x10, i11, rfl, hx10, hi11, rfl⟩, rfl, rfl⟩
     show G Try.prog κ _ _ _ _ ([(31, I64 (x10)), (30, .pointer (some ⟨b, 0, none⟩)), (29, .slice ad9 5 5), (27, .bool (decide (x5 = 2))), (28, .bool (decide (x5 = 2))), (22, .bool (decide (x5 = 1))), (23, .bool (decide (x5 = 1))), (16, .bool (decide (x5 = 0))), (17, .bool (decide (x5 = 0))), (15, I64 (x5)), (5, I64 ((((n.arcs).length : Nat) : Int))), (4, .pointer (some ⟨b2, 0, none⟩)), (3, .pointer (some ⟨b1, 0, none⟩)), (0, .pointer (some ⟨b, 0, none⟩))] : Env) (vc 3 (.slice ad9 5 5) (([-1, 0, 1, 2, 4201] : List Int)) :: vc 43 (.slice ad3 (n.arcs).length cp4) (n.arcs) :: blk b2 [I64 (0), I64 (0), I64 (0), .slice none 0 0] 30 :: blk b1 [I64 (n.nodes), I64 (n.source), I64 (n.sink), .slice ad3 (n.arcs).length cp4] 30 :: blk b [lv, I64 (i11)] 129 :: I)
     refine G.r (Runs.idx (α := Int) (xs := ([-1, 0, 1, 2, 4201] : List Int)) Try.underlying22 ty3 rfl rfl Sl.o (by omega) (by first | omega | (simp only [List.length_cons, List.length_nil]; omega))) ?_
     refine G.r (Runs.get (xs := ([-1, 0, 1, 2, 4201] : List Int)) ty3 rfl Sl.o (by omega) (by first | omega | (simp only [List.length_cons, List.length_nil]; omega))) ?_
     refine G.r (Runs.fieldAddr fld30_0 rfl) ?_
     refine G.e (Eff.st (cs := [_, _, _, _]) (vs := [_]) (cs' := [_, _, _, _]) ty3) ?_
     rintro _ _ ⟨rfl, rfl⟩
     refine G.nil ?_
     refine V.block_normal ?_
     exact V.mid ((at_ ([-1, 0, 1, 2, 4201] : List Int) x10), (n.source), (n.sink), (n.arcs), (i11)) (show ((n.arcs : List Arc).length = n.arcs.length) ∧ (0 ≤ (i11 : Int)) from ⟨(by first | rfl | exact List.length_set), (by omega)⟩) (Sub.cons rfl (Sub.cons rfl Sub.nil)) (show Fit κ _ (vc 43 (.slice ad3 (n.arcs).length cp4) ((n.arcs)) :: blk b2 [I64 (0), I64 (0), I64 (0), .slice none 0 0] 30 :: blk b1 [I64 ((at_ ([-1, 0, 1, 2, 4201] : List Int) x10)), I64 ((n.source)), I64 ((n.sink)), .slice ad3 (n.arcs).length cp4] 30 :: blk b [lv, I64 ((i11))] 129 :: I) from (by first | exact Fit.s | (simp only [List.length_set]; exact Fit.s)))
    ·refine W.sr ?_
     refine G.r (Runs.eql rfl rfl) ?_
     refine G.r (Runs.assign rfl) ?_
     refine G.nt ?_
     refine W.ite rfl (fun c35 => ?_) (fun c35 => ?_)
     ·refine W.sr ?_
      refine G.r (Runs.move rfl) ?_
      refine G.r (Runs.gtr rfl rfl) ?_
      refine G.nt ?_
      refine W.sub (L' := [(38, _), (5, _), (4, _), (3, _), (0, _)]) (Sub.cons rfl (Sub.cons rfl (Sub.cons rfl (Sub.cons rfl (Sub.cons rfl Sub.nil))))) ?_
      refine W.ite rfl (fun c38 => ?_) (fun c38 => ?_)
      ·refine W.drawn mixed ?_
       refine A.hold (vc 43 (.slice ad3 (n.arcs).length cp4) (n.arcs) :: blk b2 [I64 (0), I64 (0), I64 (0), .slice none 0 0] 30 :: blk b1 [I64 (n.nodes), I64 (n.source), I64 (n.sink), .slice ad3 (n.arcs).length cp4] 30 :: I) 12 ?_
       refine D.r 0 rfl (Runs.fieldAddr fld30_3 rfl) ?_ (hJ := Fit.sub)
       refine D.r 1 rfl (Runs.ld ty28) ?_ (hJ := Fit.sub)
       refine D.r 2 rfl (Runs.move rfl) ?_ (hJ := Fit.sub)
       refine D.r 3 rfl (Runs.move rfl) ?_ (hJ := Fit.sub)
       refine D.r 6 rfl (Runs.move rfl) ?_ (hJ := Fit.sub)
       refine D.step (rs := [4, 5]) (by kernel_rfl) rfl rfl (all2 ?_ (all1 ?_))
       ·refine Step.eff rfl (Wanted.plain rfl) (Eff.call call25 rfl rfl (Next_ok (by repeat (first | exact AtF.head _ _ | apply AtF.tail)) (Sl.fit (hl _) Fit.m) (by omega) (by omega))) ?_
        rintro _ _ ⟨_, _, ⟨x12, i13, rfl, hx12, hi13, rfl⟩, rfl, rfl⟩
        refine ⟨Fit.sub, ?_⟩
        show D Try.prog κ _ _ _ _ _ _ _ ([(43, I64 (x12)), (45, .pointer (some ⟨b, 0, none⟩)), (42, I64 ((((n.arcs).length : Nat) : Int))), (41, .pointer (some ⟨b, 0, none⟩)), (40, .slice ad3 (n.arcs).length cp4), (39, .pointer (some ⟨b1, 3, none⟩)), (38, .bool (decide (0 < (((n.arcs).length : Nat) : Int)))), (5, I64 ((((n.arcs).length : Nat) : Int))), (4, .pointer (some ⟨b2, 0, none⟩)), (3, .pointer (some ⟨b1, 0, none⟩)), (0, .pointer (some ⟨b, 0, none⟩))] : Env) (vc 43 (.slice ad3 (n.arcs).length cp4) (n.arcs) :: blk b2 [I64 (0), I64 (0), I64 (0), .slice none 0 0] 30 :: blk b1 [I64 (n.nodes), I64 (n.source), I64 (n.sink), .slice ad3 (n.arcs).length cp4] 30 :: blk b [lv, I64 (i13)] 129 :: I)
        refine D.step (rs := [5, 7]) (by kernel_rfl) rfl rfl (all2 ?_ (all1 ?_))
        ·refine Step.eff rfl (Wanted.plain rfl) (Eff.bs (α := Int) (cs := [_, _, _, _]) (xs := [-1, 0, 1099511627776, 1099511627777]) Try.underlying22 ty3 rfl rfl (by decide) (by decide) rfl rfl rfl rfl) ?_
         rintro _ _ ⟨ad14, rfl, rfl⟩
         refine ⟨Fit.sub, ?_⟩
         refine D.step (rs := [7]) (by kernel_rfl) rfl rfl (all1 ?_)
         refine Step.eff rfl (Wanted.plain rfl) (Eff.call call25 rfl rfl (Next_ok (by repeat (first | exact AtF.head _ _ | apply AtF.tail)) (Sl.fit (hl _) Fit.m) (by omega) (by omega))) ?_
         rintro _ _ ⟨_, _, ⟨x15, i16, rfl, hx15, hi16, rfl⟩, rfl, rfl⟩
         refine ⟨Fit.sub, ?_⟩
         show D Try.prog κ _ _ _ _ _ _ _ ([(46, I64 (x15)), (44, .slice ad14 4 4), (43, I64 (x12)), (45, .pointer (some ⟨b, 0, none⟩)), (42, I64 ((((n.arcs).length : Nat) : Int))), (41, .pointer (some ⟨b, 0, none⟩)), (40, .slice ad3 (n.arcs).length cp4), (39, .pointer (some ⟨b1, 3, none⟩)), (38, .bool (decide (0 < (((n.arcs).length : Nat) : Int)))), (5, I64 ((((n.arcs).length : Nat) : Int))), (4, .pointer (some ⟨b2, 0, none⟩)), (3, .pointer (some ⟨b1, 0, none⟩)), (0, .pointer (some ⟨b, 0, none⟩))] : Env) (vc 3 (.slice ad14 4 4) (([-1, 0, 1099511627776, 1099511627777] : List Int)) :: vc 43 (.slice ad3 (n.arcs).length cp4) (n.arcs) :: blk b2 [I64 (0), I64 (0), I64 (0), .slice none 0 0] 30 :: blk b1 [I64 (n.nodes), I64 (n.source), I64 (n.sink), .slice ad3 (n.arcs).length cp4] 30 :: blk b [lv, I64 (i16)] 129 :: I)
         refine D.step (rs := [8]) (by kernel_rfl) rfl rfl (all1 ?_)
         refine Step.read rfl (Wanted.plain rfl) rfl rfl (Runs.idx (α := Int) (xs := ([-1, 0, 1099511627776, 1099511627777] : List Int)) Try.underlying22 ty3 rfl rfl Sl.o (by omega) (by first | omega | (simp only [List.length_cons, List.length_nil]; omega))) Fit.sub ?_
         refine D.step (rs := [9]) (by kernel_rfl) rfl rfl (all1 ?_)
         refine Step.read rfl (Wanted.plain rfl) rfl rfl (Runs.get (xs := ([-1, 0, 1099511627776, 1099511627777] : List Int)) ty3 rfl Sl.o (by omega) (by first | omega | (simp only [List.length_cons, List.length_nil]; omega))) Fit.sub ?_
         refine D.step (rs := [10]) (by kernel_rfl) rfl rfl (all1 ?_)
         refine Step.read rfl (Wanted.plain rfl) rfl rfl (Runs.idx (α := Arc) (xs := n.arcs) Try.underlying28 ty43 rfl rfl Sl.o (by omega) (by first | omega | (simp only [List.length_cons, List.length_nil]; omega))) Fit.sub ?_
         refine D.r 11 rfl (Runs.fld (α := Arc) (xs := n.arcs) fld43_2 rfl Sl.o (by omega)) ?_ (hJ := Fit.sub)
         refine D.stop (by kernel_rfl) ?_
         refine A.eff (i := 12) (by kernel_rfl) rfl (Wanted.plain rfl) (Eff.setf (α := Arc) (xs := n.arcs) (e := 43) (new := { at_ n.arcs x12 with cap := at_ ([-1, 0, 1099511627776, 1099511627777] : List Int) x15 }) (j := 2) ty3 rfl rfl rfl rfl (by decide) rfl (by omega) (by first | omega | (simp only [List.length_cons, List.length_nil]; omega)) (by repeat (first | exact At.head _ _ _ | apply At.tail))) ?_
         rintro _ _ ⟨rfl, rfl⟩
         refine A.done (by kernel_rfl) ?_
         refine V.block_normal ?_
         exact V.mid ((n.nodes), (n.source), (n.sink), (List.set n.arcs (x12).toNat ({ at_ n.arcs x12 with cap := at_ ([-1, 0, 1099511627776, 1099511627777] : List Int) x15 })), (i16)) (show ((List.set n.arcs (x12).toNat ({ at_ n.arcs x12 with cap := at_ ([-1, 0, 1099511627776, 1099511627777] : List Int) x15 }) : List Arc).length = n.arcs.length) ∧ (0 ≤ (i16 : Int)) from ⟨(by first | rfl | exact List.length_set), (by omega)⟩) (Sub.cons rfl (Sub.cons rfl Sub.nil)) (show Fit κ _ (vc 43 (.slice ad3 (n.arcs).length cp4) ((List.set n.arcs (x12).toNat ({ at_ n.arcs x12 with cap := at_ ([-1, 0, 1099511627776, 1099511627777] : List Int) x15 }))) :: blk b2 [I64 (0), I64 (0), I64 (0), .slice none 0 0] 30 :: blk b1 [I64 ((n.nodes)), I64 ((n.source)), I64 ((n.sink)), .slice ad3 (n.arcs).length cp4] 30 :: blk b [lv, I64 ((i16))] 129 :: I) from (by first | exact Fit.s | (simp only [List.length_set]; exact Fit.s)))
        ·refine Step.eff rfl (Wanted.plain rfl) (Eff.call call25 rfl rfl (Next_ok (by repeat (first | exact AtF.head _ _ | apply AtF.tail)) (Sl.fit (hl _) Fit.m) (by omega) (by omega))) ?_
         rintro _ _ ⟨_, _, ⟨x17, i18, rfl, hx17, hi18, rfl⟩, rfl, rfl⟩
         refine ⟨Fit.sub, ?_⟩
         show D Try.prog κ _ _ _ _ _ _ _ ([(46, I64 (x17)), (43, I64 (x12)), (45, .pointer (some ⟨b, 0, none⟩)), (42, I64 ((((n.arcs).length : Nat) : Int))), (41, .pointer (some ⟨b, 0, none⟩)), (40, .slice ad3 (n.arcs).length cp4), (39, .pointer (some ⟨b1, 3, none⟩)), (38, .bool (decide (0 < (((n.arcs).length : Nat) : Int)))), (5, I64 ((((n.arcs).length : Nat) : Int))), (4, .pointer (some ⟨b2, 0, none⟩)), (3, .pointer (some ⟨b1, 0, none⟩)), (0, .pointer (some ⟨b, 0, none⟩))] : Env) (vc 43 (.slice ad3 (n.arcs).length cp4) (n.arcs) :: blk b2 [I64 (0), I64 (0), I64 (0), .slice none 0 0] 30 :: blk b1 [I64 (n.nodes), I64 (n.source), I64 (n.sink), .slice ad3 (n.arcs).length cp4] 30 :: blk b [lv, I64 (i18)] 129 :: I)
         refine D.step (rs := [5]) (by kernel_rfl) rfl rfl (all1 ?_)
         refine Step.eff rfl (Wanted.plain rfl) (Eff.bs (α := Int) (cs := [_, _, _, _]) (xs := [-1, 0, 1099511627776, 1099511627777]) Try.underlying22 ty3 rfl rfl (by decide) (by decide) rfl rfl rfl rfl) ?_
         rintro _ _ ⟨ad19, rfl, rfl⟩
         refine ⟨Fit.sub, ?_⟩
         refine D.step (rs := [8]) (by kernel_rfl) rfl rfl (all1 ?_)
         refine Step.read rfl (Wanted.plain rfl) rfl rfl (Runs.idx (α := Int) (xs := ([-1, 0, 1099511627776, 1099511627777] : List Int)) Try.underlying22 ty3 rfl rfl Sl.o (by omega) (by first | omega | (simp only [List.length_cons, List.length_nil]; omega))) Fit.sub ?_
         refine D.step (rs := [9]) (by kernel_rfl) rfl rfl (all1 ?_)
         refine Step.read rfl (Wanted.plain rfl) rfl rfl (Runs.get (xs := ([-1, 0, 1099511627776, 1099511627777] : List Int)) ty3 rfl Sl.o (by omega) (by first | omega | (simp only [List.length_cons, List.length_nil]; omega))) Fit.sub ?_
         refine D.step (rs := [10]) (by kernel_rfl) rfl rfl (all1 ?_)
         refine Step.read rfl (Wanted.plain rfl) rfl rfl (Runs.idx (α := Arc) (xs := n.arcs) Try.underlying28 ty43 rfl rfl Sl.o (by omega) (by first | omega | (simp only [List.length_cons, List.length_nil]; omega))) Fit.sub ?_
         refine D.r 11 rfl (Runs.fld (α := Arc) (xs := n.arcs) fld43_2 rfl Sl.o (by omega)) ?_ (hJ := Fit.sub)
         refine D.stop (by kernel_rfl) ?_
         refine A.eff (i := 12) (by kernel_rfl) rfl (Wanted.plain rfl) (Eff.setf (α := Arc) (xs := n.arcs) (e := 43) (new := { at_ n.arcs x12 with cap := at_ ([-1, 0, 1099511627776, 1099511627777] : List Int) x17 }) (j := 2) ty3 rfl rfl rfl rfl (by decide) rfl (by omega) (by first | omega | (simp only [List.length_cons, List.length_nil]; omega)) (by repeat (first | exact At.head _ _ _ | apply At.tail))) ?_
         rintro _ _ ⟨rfl, rfl⟩
         refine A.done (by kernel_rfl) ?_
         refine V.block_normal ?_
         exact V.mid ((n.nodes), (n.source), (n.sink), (List.set n.arcs (x12).toNat ({ at_ n.arcs x12 with cap := at_ ([-1, 0, 1099511627776, 1099511627777] : List Int) x17 })), (i18)) (show ((List.set n.arcs (x12).toNat ({ at_ n.arcs x12 with cap := at_ ([-1, 0, 1099511627776, 1099511627777] : List Int) x17 }) : List Arc).length = n.arcs.length) ∧ (0 ≤ (i18 : Int)) from ⟨(by first | rfl | exact List.length_set), (by omega)⟩) (Sub.cons rfl (Sub.cons rfl Sub.nil)) (show Fit κ _ (vc 43 (.slice ad3 (n.arcs).length cp4) ((List.set n.arcs (x12).toNat ({ at_ n.arcs x12 with cap := at_ ([-1, 0, 1099511627776, 1099511627777] : List Int) x17 }))) :: blk b2 [I64 (0), I64 (0), I64 (0), .slice none 0 0] 30 :: blk b1 [I64 ((n.nodes)), I64 ((n.source)), I64 ((n.sink)), .slice ad3 (n.arcs).length cp4] 30 :: blk b [lv, I64 ((i18))] 129 :: I) from (by first | exact Fit.s | (simp only [List.length_set]; exact Fit.s)))
       ·refine Step.eff rfl (Wanted.plain rfl) (Eff.bs (α := Int) (cs := [_, _, _, _]) (xs := [-1, 0, 1099511627776, 1099511627777]) Try.underlying22 ty3 rfl rfl (by decide) (by decide) rfl rfl rfl rfl) ?_
        rintro _ _ ⟨ad20, rfl, rfl⟩
        refine ⟨Fit.sub, ?_⟩
        refine D.step (rs := [4]) (by kernel_rfl) rfl rfl (all1 ?_)
        refine Step.eff rfl (Wanted.plain rfl) (Eff.call call25 rfl rfl (Next_ok (by repeat (first | exact AtF.head _ _ | apply AtF.tail)) (Sl.fit (hl _) Fit.m) (by omega) (by omega))) ?_
        rintro _ _ ⟨_, _, ⟨x21, i22, rfl, hx21, hi22, rfl⟩, rfl, rfl⟩
        refine ⟨Fit.sub, ?_⟩
        show D Try.prog κ _ _ _ _ _ _ _ ([(43, I64 (x21)), (44, .slice ad20 4 4), (45, .pointer (some ⟨b, 0, none⟩)), (42, I64 ((((n.arcs).length : Nat) : Int))), (41, .pointer (some ⟨b, 0, none⟩)), (40, .slice ad3 (n.arcs).length cp4), (39, .pointer (some ⟨b1, 3, none⟩)), (38, .bool (decide (0 < (((n.arcs).length : Nat) : Int)))), (5, I64 ((((n.arcs).length : Nat) : Int))), (4, .pointer (some ⟨b2, 0, none⟩)), (3, .pointer (some ⟨b1, 0, none⟩)), (0, .pointer (some ⟨b, 0, none⟩))] : Env) (vc 3 (.slice ad20 4 4) (([-1, 0, 1099511627776, 1099511627777] : List Int)) :: vc 43 (.slice ad3 (n.arcs).length cp4) (n.arcs) :: blk b2 [I64 (0), I64 (0), I64 (0), .slice none 0 0] 30 :: blk b1 [I64 (n.nodes), I64 (n.source), I64 (n.sink), .slice ad3 (n.arcs).length cp4] 30 :: blk b [lv, I64 (i22)] 129 :: I)
        refine D.step (rs := [7]) (by kernel_rfl) rfl rfl (all1 ?_)
        refine Step.eff rfl (Wanted.plain rfl) (Eff.call call25 rfl rfl (Next_ok (by repeat (first | exact AtF.head _ _ | apply AtF.tail)) (Sl.fit (hl _) Fit.m) (by omega) (by omega))) ?_
        rintro _ _ ⟨_, _, ⟨x23, i24, rfl, hx23, hi24, rfl⟩, rfl, rfl⟩
        refine ⟨Fit.sub, ?_⟩
        show D Try.prog κ _ _ _ _ _ _ _ ([(46, I64 (x23)), (43, I64 (x21)), (44, .slice ad20 4 4), (45, .pointer (some ⟨b, 0, none⟩)), (42, I64 ((((n.arcs).length : Nat) : Int))), (41, .pointer (some ⟨b, 0, none⟩)), (40, .slice ad3 (n.arcs).length cp4), (39, .pointer (some ⟨b1, 3, none⟩)), (38, .bool (decide (0 < (((n.arcs).length : Nat) : Int)))), (5, I64 ((((n.arcs).length : Nat) : Int))), (4, .pointer (some ⟨b2, 0, none⟩)), (3, .pointer (some ⟨b1, 0, none⟩)), (0, .pointer (some ⟨b, 0, none⟩))] : Env) (vc 3 (.slice ad20 4 4) (([-1, 0, 1099511627776, 1099511627777] : List Int)) :: vc 43 (.slice ad3 (n.arcs).length cp4) (n.arcs) :: blk b2 [I64 (0), I64 (0), I64 (0), .slice none 0 0] 30 :: blk b1 [I64 (n.nodes), I64 (n.source), I64 (n.sink), .slice ad3 (n.arcs).length cp4] 30 :: blk b [lv, I64 (i24)] 129 :: I)
        refine D.step (rs := [8]) (by kernel_rfl) rfl rfl (all1 ?_)
        refine Step.read rfl (Wanted.plain rfl) rfl rfl (Runs.idx (α := Int) (xs := ([-1, 0, 1099511627776, 1099511627777] : List Int)) Try.underlying22 ty3 rfl rfl Sl.o (by omega) (by first | omega | (simp only [List.length_cons, List.length_nil]; omega))) Fit.sub ?_
        refine D.step (rs := [9]) (by kernel_rfl) rfl rfl (all1 ?_)
        refine Step.read rfl (Wanted.plain rfl) rfl rfl (Runs.get (xs := ([-1, 0, 1099511627776, 1099511627777] : List Int)) ty3 rfl Sl.o (by omega) (by first | omega | (simp only [List.length_cons, List.length_nil]; omega))) Fit.sub ?_
        refine D.step (rs := [10]) (by kernel_rfl) rfl rfl (all1 ?_)
        refine Step.read rfl (Wanted.plain rfl) rfl rfl (Runs.idx (α := Arc) (xs := n.arcs) Try.underlying28 ty43 rfl rfl Sl.o (by omega) (by first | omega | (simp only [List.length_cons, List.length_nil]; omega))) Fit.sub ?_
        refine D.r 11 rfl (Runs.fld (α := Arc) (xs := n.arcs) fld43_2 rfl Sl.o (by omega)) ?_ (hJ := Fit.sub)
        refine D.stop (by kernel_rfl) ?_
        refine A.eff (i := 12) (by kernel_rfl) rfl (Wanted.plain rfl) (Eff.setf (α := Arc) (xs := n.arcs) (e := 43) (new := { at_ n.arcs x21 with cap := at_ ([-1, 0, 1099511627776, 1099511627777] : List Int) x23 }) (j := 2) ty3 rfl rfl rfl rfl (by decide) rfl (by omega) (by first | omega | (simp only [List.length_cons, List.length_nil]; omega)) (by repeat (first | exact At.head _ _ _ | apply At.tail))) ?_
        rintro _ _ ⟨rfl, rfl⟩
        refine A.done (by kernel_rfl) ?_
        refine V.block_normal ?_
        exact V.mid ((n.nodes), (n.source), (n.sink), (List.set n.arcs (x21).toNat ({ at_ n.arcs x21 with cap := at_ ([-1, 0, 1099511627776, 1099511627777] : List Int) x23 })), (i24)) (show ((List.set n.arcs (x21).toNat ({ at_ n.arcs x21 with cap := at_ ([-1, 0, 1099511627776, 1099511627777] : List Int) x23 }) : List Arc).length = n.arcs.length) ∧ (0 ≤ (i24 : Int)) from ⟨(by first | rfl | exact List.length_set), (by omega)⟩) (Sub.cons rfl (Sub.cons rfl Sub.nil)) (show Fit κ _ (vc 43 (.slice ad3 (n.arcs).length cp4) ((List.set n.arcs (x21).toNat ({ at_ n.arcs x21 with cap := at_ ([-1, 0, 1099511627776, 1099511627777] : List Int) x23 }))) :: blk b2 [I64 (0), I64 (0), I64 (0), .slice none 0 0] 30 :: blk b1 [I64 ((n.nodes)), I64 ((n.source)), I64 ((n.sink)), .slice ad3 (n.arcs).length cp4] 30 :: blk b [lv, I64 ((i24))] 129 :: I) from (by first | exact Fit.s | (simp only [List.length_set]; exact Fit.s)))
      ·refine W.skip ?_
       refine V.block_normal ?_
       exact V.mid ((n.nodes), (n.source), (n.sink), (n.arcs), (i6)) (show ((n.arcs : List Arc).length = n.arcs.length) ∧ (0 ≤ (i6 : Int)) from ⟨(by first | rfl | exact List.length_set), (by omega)⟩) (Sub.cons rfl (Sub.cons rfl Sub.nil)) (show Fit κ _ (vc 43 (.slice ad3 (n.arcs).length cp4) ((n.arcs)) :: blk b2 [I64 (0), I64 (0), I64 (0), .slice none 0 0] 30 :: blk b1 [I64 ((n.nodes)), I64 ((n.source)), I64 ((n.sink)), .slice ad3 (n.arcs).length cp4] 30 :: blk b [lv, I64 ((i6))] 129 :: I) from (by first | exact Fit.s | (simp only [List.length_set]; exact Fit.s)))
     ·refine W.sr ?_
      refine G.r (Runs.eql rfl rfl) ?_
      refine G.r (Runs.assign rfl) ?_
      refine G.nt ?_
      refine W.sub (L' := [(51, _), (5, _), (4, _), (3, _), (0, _)]) (Sub.cons rfl (Sub.cons rfl (Sub.cons rfl (Sub.cons rfl (Sub.cons rfl Sub.nil))))) ?_
      refine W.ite rfl (fun c51 => ?_) (fun c51 => ?_)
      ·refine W.sr ?_
       refine G.r (Runs.move rfl) ?_
       refine G.r (Runs.gtr rfl rfl) ?_
       refine G.nt ?_
       refine W.ite rfl (fun c54 => ?_) (fun c54 => ?_)
       ·refine W.sr ?_
        refine G.r (Runs.move rfl) ?_
        refine G.r (Runs.move rfl) ?_
        refine G.e (Eff.call call25 rfl rfl (Next_ok (by repeat (first | exact AtF.head _ _ | apply AtF.tail)) (Sl.fit (hl _) Fit.m) (by omega) (by omega))) ?_
        rintro _ _ ⟨_, _, ⟨x25, i26, rfl, hx25, hi26, rfl⟩, rfl, rfl⟩
        show G Try.prog κ _ _ _ _ ([(57, I64 (x25)), (56, I64 ((((n.arcs).length : Nat) : Int))), (55, .pointer (some ⟨b, 0, none⟩)), (54, .bool (decide (0 < (((n.arcs).length : Nat) : Int)))), (53, I64 ((((n.arcs).length : Nat) : Int))), (51, .bool (decide (x5 = 4))), (5, I64 ((((n.arcs).length : Nat) : Int))), (4, .pointer (some ⟨b2, 0, none⟩)), (3, .pointer (some ⟨b1, 0, none⟩)), (0, .pointer (some ⟨b, 0, none⟩))] : Env) (vc 43 (.slice ad3 (n.arcs).length cp4) (n.arcs) :: blk b2 [I64 (0), I64 (0), I64 (0), .slice none 0 0] 30 :: blk b1 [I64 (n.nodes), I64 (n.source), I64 (n.sink), .slice ad3 (n.arcs).length cp4] 30 :: blk b [lv, I64 (i26)] 129 :: I)
        refine G.r (Runs.assign rfl) ?_
        refine G.nt ?_
        refine W.drawn mixed ?_
        refine A.hold (vc 43 (.slice ad3 (n.arcs).length cp4) (n.arcs) :: blk b2 [I64 (0), I64 (0), I64 (0), .slice none 0 0] 30 :: blk b1 [I64 (n.nodes), I64 (n.source), I64 (n.sink), .slice ad3 (n.arcs).length cp4] 30 :: blk b [lv, I64 (i26)] 129 :: I) 11 ?_
        refine D.r 0 rfl (Runs.fieldAddr fld30_3 rfl) ?_
        refine D.r 1 rfl (Runs.ld ty28) ?_
        refine D.r 2 rfl (Runs.move rfl) ?_
        refine D.r 3 rfl (Runs.fieldAddr fld30_3 rfl) ?_
        refine D.r 4 rfl (Runs.ld ty28) ?_
        refine D.r 5 rfl (Runs.move rfl) ?_
        refine D.r 6 rfl (Runs.idx (α := Arc) (xs := n.arcs) Try.underlying28 ty43 rfl rfl Sl.o (by omega) (by first | omega | (simp only [List.length_cons, List.length_nil]; omega))) ?_
        refine D.r 7 rfl (Runs.fld (α := Arc) (xs := n.arcs) fld43_0 rfl Sl.o (by omega)) ?_
        refine D.r 8 rfl (Runs.getf (α := Arc) (xs := n.arcs) (u := I64 ((at_ n.arcs x25).frm)) ty3 rfl Sl.o (by omega) (by first | omega | (simp only [List.length_cons, List.length_nil]; omega)) rfl) ?_
        refine D.step (rs := [9]) (by kernel_rfl) rfl rfl (all1 ?_)
        refine Step.read rfl (Wanted.plain rfl) rfl rfl (Runs.idx (α := Arc) (xs := n.arcs) Try.underlying28 ty43 rfl rfl Sl.o (by omega) (by first | omega | (simp only [List.length_cons, List.length_nil]; omega))) Fit.m ?_
        refine D.r 10 rfl (Runs.fld (α := Arc) (xs := n.arcs) fld43_1 rfl Sl.o (by omega)) ?_
        refine D.stop (by kernel_rfl) ?_
        refine A.eff (i := 11) (by kernel_rfl) rfl (Wanted.plain rfl) (Eff.setf (α := Arc) (xs := n.arcs) (e := 43) (new := { at_ n.arcs x25 with dst := (at_ n.arcs x25).frm }) (j := 1) ty3 rfl rfl rfl rfl (by decide) rfl (by omega) (by first | omega | (simp only [List.length_cons, List.length_nil]; omega)) (by repeat (first | exact At.head _ _ _ | apply At.tail))) ?_
        rintro _ _ ⟨rfl, rfl⟩
        refine A.done (by kernel_rfl) ?_
        refine V.block_normal ?_
        exact V.mid ((n.nodes), (n.source), (n.sink), (List.set n.arcs (x25).toNat ({ at_ n.arcs x25 with dst := (at_ n.arcs x25).frm })), (i26)) (show ((List.set n.arcs (x25).toNat ({ at_ n.arcs x25 with dst := (at_ n.arcs x25).frm }) : List Arc).length = n.arcs.length) ∧ (0 ≤ (i26 : Int)) from ⟨(by first | rfl | exact List.length_set), (by omega)⟩) (Sub.cons rfl (Sub.cons rfl Sub.nil)) (show Fit κ _ (vc 43 (.slice ad3 (n.arcs).length cp4) ((List.set n.arcs (x25).toNat ({ at_ n.arcs x25 with dst := (at_ n.arcs x25).frm }))) :: blk b2 [I64 (0), I64 (0), I64 (0), .slice none 0 0] 30 :: blk b1 [I64 ((n.nodes)), I64 ((n.source)), I64 ((n.sink)), .slice ad3 (n.arcs).length cp4] 30 :: blk b [lv, I64 ((i26))] 129 :: I) from (by first | exact Fit.s | (simp only [List.length_set]; exact Fit.s)))
       ·refine W.skip ?_
        refine V.block_normal ?_
        exact V.mid ((n.nodes), (n.source), (n.sink), (n.arcs), (i6)) (show ((n.arcs : List Arc).length = n.arcs.length) ∧ (0 ≤ (i6 : Int)) from ⟨(by first | rfl | exact List.length_set), (by omega)⟩) (Sub.cons rfl (Sub.cons rfl Sub.nil)) (show Fit κ _ (vc 43 (.slice ad3 (n.arcs).length cp4) ((n.arcs)) :: blk b2 [I64 (0), I64 (0), I64 (0), .slice none 0 0] 30 :: blk b1 [I64 ((n.nodes)), I64 ((n.source)), I64 ((n.sink)), .slice ad3 (n.arcs).length cp4] 30 :: blk b [lv, I64 ((i6))] 129 :: I) from (by first | exact Fit.s | (simp only [List.length_set]; exact Fit.s)))
      ·refine W.skip ?_
       refine V.block_normal ?_
       exact V.mid ((n.nodes), (n.source), (n.sink), (n.arcs), (i6)) (show ((n.arcs : List Arc).length = n.arcs.length) ∧ (0 ≤ (i6 : Int)) from ⟨(by first | rfl | exact List.length_set), (by omega)⟩) (Sub.cons rfl (Sub.cons rfl Sub.nil)) (show Fit κ _ (vc 43 (.slice ad3 (n.arcs).length cp4) ((n.arcs)) :: blk b2 [I64 (0), I64 (0), I64 (0), .slice none 0 0] 30 :: blk b1 [I64 ((n.nodes)), I64 ((n.source)), I64 ((n.sink)), .slice ad3 (n.arcs).length cp4] 30 :: blk b [lv, I64 ((i6))] 129 :: I) from (by first | exact Fit.s | (simp only [List.length_set]; exact Fit.s)))
 ·rintro ⟨m0, m1, m2, ms, i9⟩ hp
  obtain ⟨hms, hi9⟩ : (ms.length = n.arcs.length) ∧ (0 ≤ i9) := hp
  show W Try.prog κ 70 _ _ ([(3, .pointer (some ⟨b1, 0, none⟩)), (4, .pointer (some ⟨b2, 0, none⟩))] : Env) (vc 43 (.slice ad3 (n.arcs).length cp4) (ms) :: blk b2 [I64 (0), I64 (0), I64 (0), .slice none 0 0] 30 :: blk b1 [I64 (m0), I64 (m1), I64 (m2), .slice ad3 (n.arcs).length cp4] 30 :: blk b [lv, I64 (i9)] 129 :: I)
  refine W.sr ?_
  refine G.r (Runs.lds (vs := [_, _, _, _]) ty30) ?_
  refine G.e (Eff.st (cs := [_, _, _, _]) (vs := [_, _, _, _]) (cs' := [_, _, _, _]) ty30) ?_
  rintro _ _ ⟨rfl, rfl⟩
  refine G.nt ?_
  refine W.ret ?_
  exact V.retc rfl ty30 rfl (by repeat (first | exact List.mem_cons_self | apply List.mem_cons_of_mem)) rfl (vc 43 (.slice ad3 (n.arcs).length cp4) (ms) :: blk b [lv, I64 (i9)] 129 :: I) (by first | exact Fit.s | (simp only [← hms]; exact Fit.s)) ⟨(⟨m0, m1, m2, ms⟩, ad3, cp4, i9), ⟨⟨by simp only [hms], by show ms.length ≤ 15; omega⟩, hi9⟩, by simp only [hms]; rfl⟩

theorem Odd_at {κ : Ctx} {I : List Item} {F : Item → List Item} {b : Nat} {lv : Value} {ls : List Int} {i : Int} {n : Net} {v : Value} (hat : AtF I (deck b lv i) F) (hl : ∀ q, Sl κ (F (deck b lv q)) lv ls) (h0 : 0 ≤ i) (hn : ∀ q, Sl κ (F (deck b lv q)) v n.arcs) (hm : n.Made) :
    CallS Try.prog κ 32 [.pointer (some ⟨b, 0, none⟩), .agg #[I64 (n.nodes), I64 (n.source), I64 (n.sink), v]] I fun r J => ∃ y : Net × (Option Addr) × Nat × Int, ((r = .agg #[I64 y.1.nodes, I64 y.1.source, I64 y.1.sink, .slice y.2.1 y.1.arcs.length y.2.2.1] ∧ y.1.arcs.length ≤ 15) ∧ 0 ≤ y.2.2.2) ∧ J = [vc 43 (.slice y.2.1 y.1.arcs.length y.2.2.1) y.1.arcs] ++ F (deck b lv y.2.2.2) :=
  CallS.at (Post := fun r (y : Net × (Option Addr) × Nat × Int) => (r = .agg #[I64 y.1.nodes, I64 y.1.source, I64 y.1.sink, .slice y.2.1 y.1.arcs.length y.2.2.1] ∧ y.1.arcs.length ≤ 15) ∧ 0 ≤ y.2.2.2) (Z := fun y : Net × (Option Addr) × Nat × Int => [vc 43 (.slice y.2.1 y.1.arcs.length y.2.2.1) y.1.arcs]) (X := fun y : Net × (Option Addr) × Nat × Int => deck b lv y.2.2.2) hat fun J _ hF => Odd_base (fun q => (hl q).fit (hF _)) h0 (fun q => (hn q).fit (hF _)) hm

end Go.Sl
