/- A part of the proofs of statements of this seat: contracts of functions, and the plain laws that they lean on. No conditions. -/
import Derived.Test.YtbimaodbcjjbfaaDoorReach9
import Derived.Test.YtbimaodbcjjbfaaDoorKed8
import Derived.Test.YtbimaodbcjjbfaaDoorParts8
import Derived.Test.YtbimaodbcjjbfaaDoorLookB
import Derived.Test.YtbimaodbcjjbfaaDoorLaw15A
import Derived.Test.YtbimaodbcjjbfaaDoorParts9
/- An owned slice without its first elements; rows that are owned, and fewer of them. No conditions. -/
namespace Go.Sl
set_option linter.unusedVariables false
set_option linter.unusedSectionVars false
section
variable {α : Type} [Enc α] {κ : Ctx} {I : List Item}
end
end Go.Sl
namespace Go.Sl
open Go.Proofs
set_option linter.unusedVariables false
set_option linter.unusedSimpArgs false
set_option maxRecDepth 4000
def DisjL (l : List (List Int)) : Prop := l.Pairwise fun a b => ∀ x ∈ a, x ∉ b
theorem DisjL.perm {l m : List (List Int)} (h : DisjL l) (hp : m.Perm l) : DisjL m := hp.symm.pairwise h fun {a b} hab x hx hxa => hab x hxa hx
/-- Sets that are still to be looked at, and parts that are found. -/
structure WorkP (nd k : Int) (es : List Pt) (opn out : List (List Int)) : Prop where
  val : ∀ p ∈ out, ValidP p nd ∧ 2 ≤ p.length ∧ KC k es p
  opv : ∀ q ∈ opn, ValidP q nd
  cover : ∀ X, 2 ≤ X.length → X.Nodup → KC k es X → (∀ x ∈ X, 0 ≤ x ∧ x < nd) → ∃ p ∈ opn ++ out, ∀ x ∈ X, x ∈ p
  disj : DisjL (opn ++ out)
theorem WorkP.small {nd k : Int} {es : List Pt} {q : List Int} {rest out : List (List Int)} (h : WorkP nd k es (q :: rest) out) (hq : q.length < 2) : WorkP nd k es rest out := by
  refine ⟨h.val, fun p hp => h.opv p (List.mem_cons_of_mem _ hp), fun X h2 hn hX hb => ?_, (List.pairwise_cons.1 h.disj).2⟩
  obtain ⟨p, hp, hs⟩ := h.cover X h2 hn hX hb
  rcases List.mem_cons.1 hp with rfl | hp
  · have := List.Nodup.length_le_of_subset hn hs; omega
  · exact ⟨p, hp, hs⟩
theorem WorkP.put {nd k : Int} {es : List Pt} {q : List Int} {rest out out' : List (List Int)} (h : WorkP nd k es (q :: rest) out) (h2 : 2 ≤ q.length) (hk : KC k es q) (ho : out'.Perm (q :: out)) : WorkP nd k es rest out' := by
  have hp : (rest ++ out').Perm (q :: rest ++ out) := (List.Perm.append_left rest ho).trans List.perm_middle
  refine ⟨fun p hp => ?_, fun p hp => h.opv p (List.mem_cons_of_mem _ hp), fun X a b c d => ?_, h.disj.perm hp⟩
  · rcases List.mem_cons.1 (ho.mem_iff.1 hp) with rfl | hp
    · exact ⟨h.opv _ List.mem_cons_self, h2, hk⟩
    · exact h.val p hp
  · obtain ⟨p, h1, h2⟩ := h.cover X a b c d
    exact ⟨p, hp.mem_iff.2 h1, h2⟩
theorem WorkP.split {nd k val x0 y : Int} {es : List Pt} {q side rest' : List Int} {rest out : List (List Int)} (h : WorkP nd k es (q :: rest) out) (hx : x0 ∈ q) (hm : MinSide (inS q es) nd x0 y side val) (hk : val < k) (hr : ∀ z, z ∈ rest' ↔ z ∈ q ∧ z ∉ side) (hv : ValidP rest' nd) : WorkP nd k es (rest ++ [side, rest']) out := by
  have hw := hm.within hx
  have hp : (rest ++ [side, rest'] ++ out).Perm (side :: rest' :: (rest ++ out)) := by
    rw [List.append_assoc]
    exact List.perm_middle.trans (List.Perm.cons _ List.perm_middle)
  obtain ⟨hd1, hd2⟩ := List.pairwise_cons.1 h.disj
  refine ⟨h.val, fun p hpm => ?_, fun X a b c d => ?_, DisjL.perm ?_ hp⟩
  · rcases List.mem_append.1 hpm with hpm | hpm
    · exact h.opv p (List.mem_cons_of_mem _ hpm)
    · simp only [List.mem_cons, List.not_mem_nil, or_false] at hpm
      rcases hpm with rfl | rfl
      · exact hm.valid
      · exact hv
  · obtain ⟨p, hpm, hs⟩ := h.cover X a b c d
    rcases List.mem_cons.1 hpm with rfl | hpm
    · by_cases hin : ∃ x ∈ X, x ∈ side
      · obtain ⟨x, hxX, hxs⟩ := hin
        refine ⟨side, hp.mem_iff.2 List.mem_cons_self, fun z hz => Classical.byContradiction fun hzs => ?_⟩
        have h3 := c x hxX z hz (inL side) (decide_eq_true hxs) (decide_eq_false hzs)
        have h4 := lvE_mono (inS_sub (es := es) hs) (inL side)
        have h5 := hm.eq
        omega
      · exact ⟨rest', hp.mem_iff.2 (List.mem_cons_of_mem _ List.mem_cons_self), fun z hz => (hr z).2 ⟨hs z hz, fun hzs => hin ⟨z, hz, hzs⟩⟩⟩
    · exact ⟨p, hp.mem_iff.2 (List.mem_cons_of_mem _ (List.mem_cons_of_mem _ hpm)), hs⟩
  · refine List.pairwise_cons.2 ⟨fun b hb x hx hxb => ?_, List.pairwise_cons.2 ⟨fun b hb x hx hxb => hd1 b hb x ((hr x).1 hx).1 hxb, hd2⟩⟩
    rcases List.mem_cons.1 hb with rfl | hb
    · exact ((hr x).1 hxb).2 hx
    · exact hd1 b hb x (hw x hx) hxb
theorem WorkP.ends {nd k : Int} {es : List Pt} {W : List Int} {out : List (List Int)} (h : WorkP nd k es [] out) (hW : ∀ x, x ∈ W ↔ 0 ≤ x ∧ x < nd) : DivP nd k es W out :=
  ⟨fun p hp => by
    obtain ⟨a, b, c⟩ := h.val p hp
    exact ⟨a, b, c, fun x hx => (hW x).2 ((ValidP_iff.1 a).1 x hx)⟩, fun X a b c d => h.cover X a b c fun x hx => (hW x).1 (d x hx), h.disj⟩
/-- Sets that no edge leaves, together all nodes. -/
theorem WorkP.start {nd k : Int} {es : List Pt} {cs : List (List Int)} (hk : 1 ≤ k) (hv : ∀ q ∈ cs, ValidP q nd) (hd : DisjL cs) (hc : ∀ x, 0 ≤ x → x < nd → ∃ q ∈ cs, x ∈ q) (hs : ∀ q ∈ cs, ∀ e ∈ es, e.u ∈ q ↔ e.v ∈ q) : WorkP nd k es cs [] := by
  refine ⟨fun p hp => (by cases hp), hv, fun X a b c d => ?_, by rw [List.append_nil]; exact hd⟩
  have hx0 : at_ X 0 ∈ X := head_mem (by omega)
  obtain ⟨q, hq, hxq⟩ := hc _ (d _ hx0).1 (d _ hx0).2
  refine ⟨q, by rw [List.append_nil]; exact hq, fun z hz => Classical.byContradiction fun hzq => ?_⟩
  have h3 := c _ hx0 z hz (inL q) (decide_eq_true hxq) (decide_eq_false hzq)
  have h4 : lvE (inS X es) (inL q) = 0 := by
    unfold lvE
    rw [List.filter_eq_nil_iff.2 fun e he => ?_]
    · rfl
    · have := hs q hq e (mem_inS.1 he).1
      simp [cross, inL, this]
  omega
end Go.Sl
namespace Go.Sl
open Go.Proofs
set_option linter.unusedVariables false
set_option linter.unusedSimpArgs false
set_option maxRecDepth 4000
end Go.Sl
namespace Go.Sl
open Go.Proofs
set_option linter.unusedVariables false
set_option linter.unusedSimpArgs false
set_option maxRecDepth 4000
end Go.Sl
namespace Go.Sl
open Go.Proofs
set_option linter.unusedVariables false
set_option linter.unusedSimpArgs false
set_option maxRecDepth 4000
end Go.Sl
namespace Go.Sl
open Go.Proofs
set_option linter.unusedVariables false
set_option linter.unusedSimpArgs false
set_option maxRecDepth 4000
theorem ins_perm {xs : List Int} {x : Int} {p : Nat} : (xs.take p ++ ([x] ++ xs.drop p)).Perm (x :: xs) := by
  have := List.perm_middle (a := x) (l₁ := xs.take p) (l₂ := xs.drop p)
  rw [List.take_append_drop] at this
  exact this

set_option maxHeartbeats 1000000 in
theorem Order_base {κ : Ctx} {I : List Item} {b : Nat} {lv : Value} {ls : List Int} {i : Int}  (hl : ∀ q, Sl κ (deck b lv q :: I) lv ls) (h0 : 0 ≤ i)  {n : Int} (hn : n ≤ 1000) :
    CallS Tryd.prog κ 43 [.pointer (some ⟨b, 0, none⟩), I64 (n)] (blk b [lv, I64 (i)] 96 :: I) (fun r J => ∃ y : (Option Addr) × Nat × (List Int) × Int, ((r = .slice y.1 y.2.2.1.length y.2.1 ∧ (y.2.2.1.Nodup ∧ (∀ x ∈ y.2.2.1, 0 ≤ x ∧ x < n) ∧ y.2.2.1.length = n.toNat)) ∧ 0 ≤ y.2.2.2) ∧ J = [vc 3 (.slice y.1 y.2.2.1.length y.2.1) y.2.2.1] ++ deck b lv y.2.2.2 :: I) := by
 refine CallS.enter (L := [(0, .pointer (some ⟨b, 0, none⟩)), (1, I64 (n))]) Tryd.func43 rfl rfl rfl rfl ?_
 refine W.sr ?_
 refine G.r (Runs.assign rfl) ?_
 refine G.nt ?_
 refine W.sr ?_
 refine G.r (Runs.assign rfl) ?_
 refine G.nt ?_
 refine W.seq ?_
 refine W.sr ?_
 refine G.r (Runs.assign rfl) ?_
 refine G.nt ?_
 refine W.block ?_
 refine W.loop (σ := Nat × (Option Addr) × Nat × (List Int) × Int) (fun s => ([(0, .pointer (some ⟨b, 0, none⟩)), (1, I64 (n)), (5, .slice s.2.1 s.2.2.2.1.length s.2.2.1), (6, I64 (((s.1 : Nat) : Int)))] : Env)) (fun s => vc 3 (.slice s.2.1 s.2.2.2.1.length s.2.2.1) (s.2.2.2.1) :: blk b [lv, I64 (s.2.2.2.2)] 96 :: I) (fun s => (s.1 ≤ n.toNat) ∧ (s.2.2.2.1.Perm ((List.range s.1).map fun i : Nat => (i : Int))) ∧ (0 ≤ s.2.2.2.2)) (fun s => n.toNat - s.1) (0, none, 0, [], i) (show ((0 : Nat) ≤ n.toNat) ∧ (([] : List Int).Perm ((List.range (0 : Nat)).map fun i : Nat => (i : Int))) ∧ (0 ≤ (i : Int)) from ⟨(by omega), (by simp), (by omega)⟩) (Sub.cons rfl (Sub.cons rfl (Sub.cons (lookV rfl (by first | rfl | simp)) (Sub.cons lookO Sub.nil)))) (show Fit κ _ (vc 3 (.slice (none) ([]).length (0)) (([])) :: blk b [lv, I64 ((i))] 96 :: I) from (Fit.nilvc _ _)) ?_
 rintro ⟨k, a, c, os, iq⟩ hp
 obtain ⟨hk, hp, hq⟩ : (k ≤ n.toNat) ∧ (os.Perm ((List.range k).map fun i : Nat => (i : Int))) ∧ (0 ≤ iq) := hp
 show W Tryd.prog κ 28 _ _ ([(0, .pointer (some ⟨b, 0, none⟩)), (1, I64 (n)), (5, .slice a os.length c), (6, I64 (((k : Nat) : Int)))] : Env) (vc 3 (.slice a os.length c) (os) :: blk b [lv, I64 (iq)] 96 :: I)
 have hol := hp.length_eq
 rw [List.length_map, List.length_range] at hol
 refine W.seq ?_
 refine W.sr ?_
 refine G.r (Runs.move rfl) ?_
 refine G.r (Runs.move rfl) ?_
 refine G.r (Runs.lss rfl rfl) ?_
 refine G.nt ?_
 refine W.ite rfl (fun c10 => ?_) (fun c10 => ?_)
 ·refine W.skip ?_
  refine V.then ?_
  refine W.seq ?_
  refine W.block ?_
  refine W.sr ?_
  refine G.r (Runs.move rfl) ?_
  refine G.r (Runs.move rfl) ?_
  refine G.r (Runs.add rfl rfl (by unfold InR; omega)) ?_
  refine G.e (Eff.call call22 rfl rfl (Next_ok (by repeat (first | exact AtF.head _ _ | apply AtF.tail)) (Sl.fit (hl _) Fit.m) (by omega) (by omega))) ?_
  rintro _ _ ⟨_, _, ⟨x1, i2, rfl, hx1, hi2, rfl⟩, rfl, rfl⟩
  show G Tryd.prog κ _ _ _ _ ([(16, I64 (x1)), (15, I64 (((k : Nat) : Int) + 1)), (14, I64 (((k : Nat) : Int))), (13, .pointer (some ⟨b, 0, none⟩)), (10, .bool (decide (((k : Nat) : Int) < n))), (9, I64 (n)), (8, I64 (((k : Nat) : Int))), (0, .pointer (some ⟨b, 0, none⟩)), (1, I64 (n)), (5, .slice a os.length c), (6, I64 (((k : Nat) : Int)))] : Env) (vc 3 (.slice a os.length c) (os) :: blk b [lv, I64 (i2)] 96 :: I)
  refine G.r (Runs.assign rfl) ?_
  refine G.nt ?_
  refine W.drawn mixed ?_
  refine A.hold (blk b [lv, I64 (i2)] 96 :: I) 11 ?_
  refine D.r 0 rfl (Runs.move rfl) ?_ (hJ := Fit.sub)
  refine D.r 1 rfl (Runs.move rfl) ?_ (hJ := Fit.sub)
  refine D.r 3 rfl (Runs.move rfl) ?_ (hJ := Fit.sub)
  refine D.r 5 rfl (Runs.move rfl) ?_ (hJ := Fit.sub)
  refine D.r 6 rfl (Runs.move rfl) ?_ (hJ := Fit.sub)
  refine D.step (rs := [2, 4, 7]) (by kernel_rfl) rfl rfl (all2 ?_ (all2 ?_ (all1 ?_)))
  ·refine Step.read rfl (Wanted.plain rfl) rfl rfl (Runs.hi (α := Int) (xs := os) (h := (x1).toNat) Tryd.underlying22 ty3 rfl rfl (by omega) Sl.o (by omega)) Fit.sub ?_
   refine D.step (rs := [4, 7]) (by kernel_rfl) rfl rfl (all2 ?_ (all1 ?_))
   ·refine Step.eff rfl (Wanted.plain rfl) (Eff.bs (α := Int) (cs := [_]) (xs := [((k : Nat) : Int)]) Tryd.underlying22 ty3 rfl rfl (by decide) (by decide) rfl rfl rfl rfl) ?_
    rintro _ _ ⟨ad3, rfl, rfl⟩
    refine ⟨Fit.sub, ?_⟩
    refine D.step (rs := [7]) (by kernel_rfl) rfl rfl (all1 ?_)
    refine Step.read rfl (Wanted.plain rfl) rfl rfl (Runs.lo (α := Int) (xs := os) (l := (x1).toNat) Tryd.underlying22 ty3 rfl rfl (by omega) Sl.o (by omega)) Fit.sub ?_
    refine D.step (rs := [8]) (by kernel_rfl) rfl rfl (all1 ?_)
    refine Step.eff rfl (Wanted.plain rfl) (Eff.app (α := Int) (e := 3) (xs := ([((k : Nat) : Int)] : List Int)) (ys := List.drop ((x1).toNat) os) Tryd.underlying22 ty3 rfl rfl rfl (by repeat (first | exact List.mem_cons_self | apply List.mem_cons_of_mem)) (Sl.drop Sl.o (by omega)) (by simp only [List.length_cons, List.length_nil, List.length_append, List.length_take, List.length_drop]; omega) (by decide) rfl (fun _ _ => (by repeat (first | exact At.head _ _ _ | apply At.tail)))) ?_
    rintro _ _ ⟨ad4, cp5, rfl, rfl⟩
    refine ⟨Fit.sub, ?_⟩
    refine D.fit (J := vc 3 (.slice a (List.take ((x1).toNat) os).length c) (List.take ((x1).toNat) os) :: vc 3 (.slice ad4 (([((k : Nat) : Int)] : List Int) ++ (List.drop ((x1).toNat) os)).length cp5) (([((k : Nat) : Int)] : List Int) ++ (List.drop ((x1).toNat) os)) :: blk b [lv, I64 (i2)] 96 :: I) (Fit.trans (show Fit κ _ (vc 3 (.slice a os.length c) (os) :: vc 3 (.slice ad4 (([((k : Nat) : Int)] : List Int) ++ (List.drop ((x1).toNat) os)).length cp5) (([((k : Nat) : Int)] : List Int) ++ (List.drop ((x1).toNat) os)) :: blk b [lv, I64 (i2)] 96 :: I) from Fit.s) (Fit.takevc (α := Int) rfl)) ?_
    refine D.step (rs := [9]) (by kernel_rfl) rfl rfl (all1 ?_)
    refine Step.eff rfl (Wanted.plain rfl) (Eff.app (α := Int) (e := 3) (xs := List.take ((x1).toNat) os) (ys := ([((k : Nat) : Int)] : List Int) ++ (List.drop ((x1).toNat) os)) Tryd.underlying22 ty3 rfl rfl rfl (by repeat (first | exact List.mem_cons_self | apply List.mem_cons_of_mem)) Sl.o (by simp only [List.length_cons, List.length_nil, List.length_append, List.length_take, List.length_drop]; omega) (by decide) rfl (fun _ _ => (by repeat (first | exact At.head _ _ _ | apply At.tail)))) ?_
    rintro _ _ ⟨ad6, cp7, rfl, rfl⟩
    refine ⟨Fit.sub, ?_⟩
    refine D.r 10 rfl (Runs.assign rfl) ?_ (hJ := Fit.sub)
    refine D.done (by kernel_rfl) ?_
    refine V.block_normal ?_
    refine V.then ?_
    refine W.sub (L' := [(5, _), (0, _), (1, _), (6, _)]) (Sub.cons rfl (Sub.cons rfl (Sub.cons rfl (Sub.cons rfl Sub.nil)))) ?_
    refine W.region ?_
    refine G.r (Runs.move rfl) ?_
    refine G.r (Runs.add rfl rfl (by unfold InR; omega)) ?_
    refine G.r (Runs.assign rfl) ?_
    refine G.nil ?_
    exact V.next ((k + 1), (ad6), (cp7), ((List.take ((x1).toNat) os) ++ (([((k : Nat) : Int)] : List Int) ++ (List.drop ((x1).toNat) os))), (i2)) (show ((k + 1 : Nat) ≤ n.toNat) ∧ (((List.take ((x1).toNat) os) ++ (([((k : Nat) : Int)] : List Int) ++ (List.drop ((x1).toNat) os)) : List Int).Perm ((List.range (k + 1 : Nat)).map fun i : Nat => (i : Int))) ∧ (0 ≤ (i2 : Int)) from ⟨(by omega), (by rw [List.range_succ, List.map_append]; exact (ins_perm.trans (List.Perm.cons _ hp)).trans (List.perm_append_comm (l₁ := [(k : Int)]))), (by omega)⟩) (show n.toNat - (k + 1 : Nat) < n.toNat - k from (by omega)) (Sub.cons rfl (Sub.cons rfl (Sub.cons (lookV rfl (by first | rfl | simp)) (Sub.cons lookO Sub.nil)))) (show Fit κ _ (vc 3 (.slice (ad6) ((List.take ((x1).toNat) os) ++ (([((k : Nat) : Int)] : List Int) ++ (List.drop ((x1).toNat) os))).length (cp7)) (((List.take ((x1).toNat) os) ++ (([((k : Nat) : Int)] : List Int) ++ (List.drop ((x1).toNat) os)))) :: blk b [lv, I64 ((i2))] 96 :: I) from Fit.sub)
   ·refine Step.read rfl (Wanted.plain rfl) rfl rfl (Runs.lo (α := Int) (xs := os) (l := (x1).toNat) Tryd.underlying22 ty3 rfl rfl (by omega) Sl.o (by omega)) Fit.sub ?_
    refine D.step (rs := [4]) (by kernel_rfl) rfl rfl (all1 ?_)
    refine Step.eff rfl (Wanted.plain rfl) (Eff.bs (α := Int) (cs := [_]) (xs := [((k : Nat) : Int)]) Tryd.underlying22 ty3 rfl rfl (by decide) (by decide) rfl rfl rfl rfl) ?_
    rintro _ _ ⟨ad8, rfl, rfl⟩
    refine ⟨Fit.sub, ?_⟩
    refine D.step (rs := [8]) (by kernel_rfl) rfl rfl (all1 ?_)
    refine Step.eff rfl (Wanted.plain rfl) (Eff.app (α := Int) (e := 3) (xs := ([((k : Nat) : Int)] : List Int)) (ys := List.drop ((x1).toNat) os) Tryd.underlying22 ty3 rfl rfl rfl (by repeat (first | exact List.mem_cons_self | apply List.mem_cons_of_mem)) (Sl.drop Sl.o (by omega)) (by simp only [List.length_cons, List.length_nil, List.length_append, List.length_take, List.length_drop]; omega) (by decide) rfl (fun _ _ => (by repeat (first | exact At.head _ _ _ | apply At.tail)))) ?_
    rintro _ _ ⟨ad9, cp10, rfl, rfl⟩
    refine ⟨Fit.sub, ?_⟩
    refine D.fit (J := vc 3 (.slice a (List.take ((x1).toNat) os).length c) (List.take ((x1).toNat) os) :: vc 3 (.slice ad9 (([((k : Nat) : Int)] : List Int) ++ (List.drop ((x1).toNat) os)).length cp10) (([((k : Nat) : Int)] : List Int) ++ (List.drop ((x1).toNat) os)) :: blk b [lv, I64 (i2)] 96 :: I) (Fit.trans (show Fit κ _ (vc 3 (.slice a os.length c) (os) :: vc 3 (.slice ad9 (([((k : Nat) : Int)] : List Int) ++ (List.drop ((x1).toNat) os)).length cp10) (([((k : Nat) : Int)] : List Int) ++ (List.drop ((x1).toNat) os)) :: blk b [lv, I64 (i2)] 96 :: I) from Fit.s) (Fit.takevc (α := Int) rfl)) ?_
    refine D.step (rs := [9]) (by kernel_rfl) rfl rfl (all1 ?_)
    refine Step.eff rfl (Wanted.plain rfl) (Eff.app (α := Int) (e := 3) (xs := List.take ((x1).toNat) os) (ys := ([((k : Nat) : Int)] : List Int) ++ (List.drop ((x1).toNat) os)) Tryd.underlying22 ty3 rfl rfl rfl (by repeat (first | exact List.mem_cons_self | apply List.mem_cons_of_mem)) Sl.o (by simp only [List.length_cons, List.length_nil, List.length_append, List.length_take, List.length_drop]; omega) (by decide) rfl (fun _ _ => (by repeat (first | exact At.head _ _ _ | apply At.tail)))) ?_
    rintro _ _ ⟨ad11, cp12, rfl, rfl⟩
    refine ⟨Fit.sub, ?_⟩
    refine D.r 10 rfl (Runs.assign rfl) ?_ (hJ := Fit.sub)
    refine D.done (by kernel_rfl) ?_
    refine V.block_normal ?_
    refine V.then ?_
    refine W.sub (L' := [(5, _), (0, _), (1, _), (6, _)]) (Sub.cons rfl (Sub.cons rfl (Sub.cons rfl (Sub.cons rfl Sub.nil)))) ?_
    refine W.region ?_
    refine G.r (Runs.move rfl) ?_
    refine G.r (Runs.add rfl rfl (by unfold InR; omega)) ?_
    refine G.r (Runs.assign rfl) ?_
    refine G.nil ?_
    exact V.next ((k + 1), (ad11), (cp12), ((List.take ((x1).toNat) os) ++ (([((k : Nat) : Int)] : List Int) ++ (List.drop ((x1).toNat) os))), (i2)) (show ((k + 1 : Nat) ≤ n.toNat) ∧ (((List.take ((x1).toNat) os) ++ (([((k : Nat) : Int)] : List Int) ++ (List.drop ((x1).toNat) os)) : List Int).Perm ((List.range (k + 1 : Nat)).map fun i : Nat => (i : Int))) ∧ (0 ≤ (i2 : Int)) from ⟨(by omega), (by rw [List.range_succ, List.map_append]; exact (ins_perm.trans (List.Perm.cons _ hp)).trans (List.perm_append_comm (l₁ := [(k : Int)]))), (by omega)⟩) (show n.toNat - (k + 1 : Nat) < n.toNat - k from (by omega)) (Sub.cons rfl (Sub.cons rfl (Sub.cons (lookV rfl (by first | rfl | simp)) (Sub.cons lookO Sub.nil)))) (show Fit κ _ (vc 3 (.slice (ad11) ((List.take ((x1).toNat) os) ++ (([((k : Nat) : Int)] : List Int) ++ (List.drop ((x1).toNat) os))).length (cp12)) (((List.take ((x1).toNat) os) ++ (([((k : Nat) : Int)] : List Int) ++ (List.drop ((x1).toNat) os)))) :: blk b [lv, I64 ((i2))] 96 :: I) from Fit.sub)
  ·refine Step.eff rfl (Wanted.plain rfl) (Eff.bs (α := Int) (cs := [_]) (xs := [((k : Nat) : Int)]) Tryd.underlying22 ty3 rfl rfl (by decide) (by decide) rfl rfl rfl rfl) ?_
   rintro _ _ ⟨ad13, rfl, rfl⟩
   refine ⟨Fit.sub, ?_⟩
   refine D.step (rs := [2, 7]) (by kernel_rfl) rfl rfl (all2 ?_ (all1 ?_))
   ·refine Step.read rfl (Wanted.plain rfl) rfl rfl (Runs.hi (α := Int) (xs := os) (h := (x1).toNat) Tryd.underlying22 ty3 rfl rfl (by omega) Sl.o (by omega)) Fit.sub ?_
    refine D.step (rs := [7]) (by kernel_rfl) rfl rfl (all1 ?_)
    refine Step.read rfl (Wanted.plain rfl) rfl rfl (Runs.lo (α := Int) (xs := os) (l := (x1).toNat) Tryd.underlying22 ty3 rfl rfl (by omega) Sl.o (by omega)) Fit.sub ?_
    refine D.step (rs := [8]) (by kernel_rfl) rfl rfl (all1 ?_)
    refine Step.eff rfl (Wanted.plain rfl) (Eff.app (α := Int) (e := 3) (xs := ([((k : Nat) : Int)] : List Int)) (ys := List.drop ((x1).toNat) os) Tryd.underlying22 ty3 rfl rfl rfl (by repeat (first | exact List.mem_cons_self | apply List.mem_cons_of_mem)) (Sl.drop Sl.o (by omega)) (by simp only [List.length_cons, List.length_nil, List.length_append, List.length_take, List.length_drop]; omega) (by decide) rfl (fun _ _ => (by repeat (first | exact At.head _ _ _ | apply At.tail)))) ?_
    rintro _ _ ⟨ad14, cp15, rfl, rfl⟩
    refine ⟨Fit.sub, ?_⟩
    refine D.fit (J := vc 3 (.slice a (List.take ((x1).toNat) os).length c) (List.take ((x1).toNat) os) :: vc 3 (.slice ad14 (([((k : Nat) : Int)] : List Int) ++ (List.drop ((x1).toNat) os)).length cp15) (([((k : Nat) : Int)] : List Int) ++ (List.drop ((x1).toNat) os)) :: blk b [lv, I64 (i2)] 96 :: I) (Fit.trans (show Fit κ _ (vc 3 (.slice a os.length c) (os) :: vc 3 (.slice ad14 (([((k : Nat) : Int)] : List Int) ++ (List.drop ((x1).toNat) os)).length cp15) (([((k : Nat) : Int)] : List Int) ++ (List.drop ((x1).toNat) os)) :: blk b [lv, I64 (i2)] 96 :: I) from Fit.s) (Fit.takevc (α := Int) rfl)) ?_
    refine D.step (rs := [9]) (by kernel_rfl) rfl rfl (all1 ?_)
    refine Step.eff rfl (Wanted.plain rfl) (Eff.app (α := Int) (e := 3) (xs := List.take ((x1).toNat) os) (ys := ([((k : Nat) : Int)] : List Int) ++ (List.drop ((x1).toNat) os)) Tryd.underlying22 ty3 rfl rfl rfl (by repeat (first | exact List.mem_cons_self | apply List.mem_cons_of_mem)) Sl.o (by simp only [List.length_cons, List.length_nil, List.length_append, List.length_take, List.length_drop]; omega) (by decide) rfl (fun _ _ => (by repeat (first | exact At.head _ _ _ | apply At.tail)))) ?_
    rintro _ _ ⟨ad16, cp17, rfl, rfl⟩
    refine ⟨Fit.sub, ?_⟩
    refine D.r 10 rfl (Runs.assign rfl) ?_ (hJ := Fit.sub)
    refine D.done (by kernel_rfl) ?_
    refine V.block_normal ?_
    refine V.then ?_
    refine W.sub (L' := [(5, _), (0, _), (1, _), (6, _)]) (Sub.cons rfl (Sub.cons rfl (Sub.cons rfl (Sub.cons rfl Sub.nil)))) ?_
    refine W.region ?_
    refine G.r (Runs.move rfl) ?_
    refine G.r (Runs.add rfl rfl (by unfold InR; omega)) ?_
    refine G.r (Runs.assign rfl) ?_
    refine G.nil ?_
    exact V.next ((k + 1), (ad16), (cp17), ((List.take ((x1).toNat) os) ++ (([((k : Nat) : Int)] : List Int) ++ (List.drop ((x1).toNat) os))), (i2)) (show ((k + 1 : Nat) ≤ n.toNat) ∧ (((List.take ((x1).toNat) os) ++ (([((k : Nat) : Int)] : List Int) ++ (List.drop ((x1).toNat) os)) : List Int).Perm ((List.range (k + 1 : Nat)).map fun i : Nat => (i : Int))) ∧ (0 ≤ (i2 : Int)) from ⟨(by omega), (by rw [List.range_succ, List.map_append]; exact (ins_perm.trans (List.Perm.cons _ hp)).trans (List.perm_append_comm (l₁ := [(k : Int)]))), (by omega)⟩) (show n.toNat - (k + 1 : Nat) < n.toNat - k from (by omega)) (Sub.cons rfl (Sub.cons rfl (Sub.cons (lookV rfl (by first | rfl | simp)) (Sub.cons lookO Sub.nil)))) (show Fit κ _ (vc 3 (.slice (ad16) ((List.take ((x1).toNat) os) ++ (([((k : Nat) : Int)] : List Int) ++ (List.drop ((x1).toNat) os))).length (cp17)) (((List.take ((x1).toNat) os) ++ (([((k : Nat) : Int)] : List Int) ++ (List.drop ((x1).toNat) os)))) :: blk b [lv, I64 ((i2))] 96 :: I) from Fit.sub)
   ·refine Step.read rfl (Wanted.plain rfl) rfl rfl (Runs.lo (α := Int) (xs := os) (l := (x1).toNat) Tryd.underlying22 ty3 rfl rfl (by omega) Sl.o (by omega)) Fit.sub ?_
    refine D.step (rs := [2, 8]) (by kernel_rfl) rfl rfl (all2 ?_ (all1 ?_))
    ·refine Step.read rfl (Wanted.plain rfl) rfl rfl (Runs.hi (α := Int) (xs := os) (h := (x1).toNat) Tryd.underlying22 ty3 rfl rfl (by omega) Sl.o (by omega)) Fit.sub ?_
     refine D.step (rs := [8]) (by kernel_rfl) rfl rfl (all1 ?_)
     refine Step.eff rfl (Wanted.plain rfl) (Eff.app (α := Int) (e := 3) (xs := ([((k : Nat) : Int)] : List Int)) (ys := List.drop ((x1).toNat) os) Tryd.underlying22 ty3 rfl rfl rfl (by repeat (first | exact List.mem_cons_self | apply List.mem_cons_of_mem)) (Sl.drop Sl.o (by omega)) (by simp only [List.length_cons, List.length_nil, List.length_append, List.length_take, List.length_drop]; omega) (by decide) rfl (fun _ _ => (by repeat (first | exact At.head _ _ _ | apply At.tail)))) ?_
     rintro _ _ ⟨ad18, cp19, rfl, rfl⟩
     refine ⟨Fit.sub, ?_⟩
     refine D.fit (J := vc 3 (.slice a (List.take ((x1).toNat) os).length c) (List.take ((x1).toNat) os) :: vc 3 (.slice ad18 (([((k : Nat) : Int)] : List Int) ++ (List.drop ((x1).toNat) os)).length cp19) (([((k : Nat) : Int)] : List Int) ++ (List.drop ((x1).toNat) os)) :: blk b [lv, I64 (i2)] 96 :: I) (Fit.trans (show Fit κ _ (vc 3 (.slice a os.length c) (os) :: vc 3 (.slice ad18 (([((k : Nat) : Int)] : List Int) ++ (List.drop ((x1).toNat) os)).length cp19) (([((k : Nat) : Int)] : List Int) ++ (List.drop ((x1).toNat) os)) :: blk b [lv, I64 (i2)] 96 :: I) from Fit.s) (Fit.takevc (α := Int) rfl)) ?_
     refine D.step (rs := [9]) (by kernel_rfl) rfl rfl (all1 ?_)
     refine Step.eff rfl (Wanted.plain rfl) (Eff.app (α := Int) (e := 3) (xs := List.take ((x1).toNat) os) (ys := ([((k : Nat) : Int)] : List Int) ++ (List.drop ((x1).toNat) os)) Tryd.underlying22 ty3 rfl rfl rfl (by repeat (first | exact List.mem_cons_self | apply List.mem_cons_of_mem)) Sl.o (by simp only [List.length_cons, List.length_nil, List.length_append, List.length_take, List.length_drop]; omega) (by decide) rfl (fun _ _ => (by repeat (first | exact At.head _ _ _ | apply At.tail)))) ?_
     rintro _ _ ⟨ad20, cp21, rfl, rfl⟩
     refine ⟨Fit.sub, ?_⟩
     refine D.r 10 rfl (Runs.assign rfl) ?_ (hJ := Fit.sub)
     refine D.done (by kernel_rfl) ?_
     refine V.block_normal ?_
     refine V.then ?_
     refine W.sub (L' := [(5, _), (0, _), (1, _), (6, _)]) (Sub.cons rfl (Sub.cons rfl (Sub.cons rfl (Sub.cons rfl Sub.nil)))) ?_
     refine W.region ?_
     refine G.r (Runs.move rfl) ?_
     refine G.r (Runs.add rfl rfl (by unfold InR; omega)) ?_
     refine G.r (Runs.assign rfl) ?_
     refine G.nil ?_
     exact V.next ((k + 1), (ad20), (cp21), ((List.take ((x1).toNat) os) ++ (([((k : Nat) : Int)] : List Int) ++ (List.drop ((x1).toNat) os))), (i2)) (show ((k + 1 : Nat) ≤ n.toNat) ∧ (((List.take ((x1).toNat) os) ++ (([((k : Nat) : Int)] : List Int) ++ (List.drop ((x1).toNat) os)) : List Int).Perm ((List.range (k + 1 : Nat)).map fun i : Nat => (i : Int))) ∧ (0 ≤ (i2 : Int)) from ⟨(by omega), (by rw [List.range_succ, List.map_append]; exact (ins_perm.trans (List.Perm.cons _ hp)).trans (List.perm_append_comm (l₁ := [(k : Int)]))), (by omega)⟩) (show n.toNat - (k + 1 : Nat) < n.toNat - k from (by omega)) (Sub.cons rfl (Sub.cons rfl (Sub.cons (lookV rfl (by first | rfl | simp)) (Sub.cons lookO Sub.nil)))) (show Fit κ _ (vc 3 (.slice (ad20) ((List.take ((x1).toNat) os) ++ (([((k : Nat) : Int)] : List Int) ++ (List.drop ((x1).toNat) os))).length (cp21)) (((List.take ((x1).toNat) os) ++ (([((k : Nat) : Int)] : List Int) ++ (List.drop ((x1).toNat) os)))) :: blk b [lv, I64 ((i2))] 96 :: I) from Fit.sub)
    ·refine Step.eff rfl (Wanted.plain rfl) (Eff.app (α := Int) (e := 3) (xs := ([((k : Nat) : Int)] : List Int)) (ys := List.drop ((x1).toNat) os) Tryd.underlying22 ty3 rfl rfl rfl (by repeat (first | exact List.mem_cons_self | apply List.mem_cons_of_mem)) (Sl.drop Sl.o (by omega)) (by simp only [List.length_cons, List.length_nil, List.length_append, List.length_take, List.length_drop]; omega) (by decide) rfl (fun _ _ => (by repeat (first | exact At.head _ _ _ | apply At.tail)))) ?_
     rintro _ _ ⟨ad22, cp23, rfl, rfl⟩
     refine ⟨Fit.sub, ?_⟩
     refine D.step (rs := [2]) (by kernel_rfl) rfl rfl (all1 ?_)
     refine Step.read rfl (Wanted.plain rfl) rfl rfl (Runs.hi (α := Int) (xs := os) (h := (x1).toNat) Tryd.underlying22 ty3 rfl rfl (by omega) Sl.o (by omega)) Fit.sub ?_
     refine D.fit (J := vc 3 (.slice a (List.take ((x1).toNat) os).length c) (List.take ((x1).toNat) os) :: vc 3 (.slice ad22 (([((k : Nat) : Int)] : List Int) ++ (List.drop ((x1).toNat) os)).length cp23) (([((k : Nat) : Int)] : List Int) ++ (List.drop ((x1).toNat) os)) :: blk b [lv, I64 (i2)] 96 :: I) (Fit.trans (show Fit κ _ (vc 3 (.slice a os.length c) (os) :: vc 3 (.slice ad22 (([((k : Nat) : Int)] : List Int) ++ (List.drop ((x1).toNat) os)).length cp23) (([((k : Nat) : Int)] : List Int) ++ (List.drop ((x1).toNat) os)) :: blk b [lv, I64 (i2)] 96 :: I) from Fit.s) (Fit.takevc (α := Int) rfl)) ?_
     refine D.step (rs := [9]) (by kernel_rfl) rfl rfl (all1 ?_)
     refine Step.eff rfl (Wanted.plain rfl) (Eff.app (α := Int) (e := 3) (xs := List.take ((x1).toNat) os) (ys := ([((k : Nat) : Int)] : List Int) ++ (List.drop ((x1).toNat) os)) Tryd.underlying22 ty3 rfl rfl rfl (by repeat (first | exact List.mem_cons_self | apply List.mem_cons_of_mem)) Sl.o (by simp only [List.length_cons, List.length_nil, List.length_append, List.length_take, List.length_drop]; omega) (by decide) rfl (fun _ _ => (by repeat (first | exact At.head _ _ _ | apply At.tail)))) ?_
     rintro _ _ ⟨ad24, cp25, rfl, rfl⟩
     refine ⟨Fit.sub, ?_⟩
     refine D.r 10 rfl (Runs.assign rfl) ?_ (hJ := Fit.sub)
     refine D.done (by kernel_rfl) ?_
     refine V.block_normal ?_
     refine V.then ?_
     refine W.sub (L' := [(5, _), (0, _), (1, _), (6, _)]) (Sub.cons rfl (Sub.cons rfl (Sub.cons rfl (Sub.cons rfl Sub.nil)))) ?_
     refine W.region ?_
     refine G.r (Runs.move rfl) ?_
     refine G.r (Runs.add rfl rfl (by unfold InR; omega)) ?_
     refine G.r (Runs.assign rfl) ?_
     refine G.nil ?_
     exact V.next ((k + 1), (ad24), (cp25), ((List.take ((x1).toNat) os) ++ (([((k : Nat) : Int)] : List Int) ++ (List.drop ((x1).toNat) os))), (i2)) (show ((k + 1 : Nat) ≤ n.toNat) ∧ (((List.take ((x1).toNat) os) ++ (([((k : Nat) : Int)] : List Int) ++ (List.drop ((x1).toNat) os)) : List Int).Perm ((List.range (k + 1 : Nat)).map fun i : Nat => (i : Int))) ∧ (0 ≤ (i2 : Int)) from ⟨(by omega), (by rw [List.range_succ, List.map_append]; exact (ins_perm.trans (List.Perm.cons _ hp)).trans (List.perm_append_comm (l₁ := [(k : Int)]))), (by omega)⟩) (show n.toNat - (k + 1 : Nat) < n.toNat - k from (by omega)) (Sub.cons rfl (Sub.cons rfl (Sub.cons (lookV rfl (by first | rfl | simp)) (Sub.cons lookO Sub.nil)))) (show Fit κ _ (vc 3 (.slice (ad24) ((List.take ((x1).toNat) os) ++ (([((k : Nat) : Int)] : List Int) ++ (List.drop ((x1).toNat) os))).length (cp25)) (((List.take ((x1).toNat) os) ++ (([((k : Nat) : Int)] : List Int) ++ (List.drop ((x1).toNat) os)))) :: blk b [lv, I64 ((i2))] 96 :: I) from Fit.sub)
  ·refine Step.read rfl (Wanted.plain rfl) rfl rfl (Runs.lo (α := Int) (xs := os) (l := (x1).toNat) Tryd.underlying22 ty3 rfl rfl (by omega) Sl.o (by omega)) Fit.sub ?_
   refine D.step (rs := [2, 4]) (by kernel_rfl) rfl rfl (all2 ?_ (all1 ?_))
   ·refine Step.read rfl (Wanted.plain rfl) rfl rfl (Runs.hi (α := Int) (xs := os) (h := (x1).toNat) Tryd.underlying22 ty3 rfl rfl (by omega) Sl.o (by omega)) Fit.sub ?_
    refine D.step (rs := [4]) (by kernel_rfl) rfl rfl (all1 ?_)
    refine Step.eff rfl (Wanted.plain rfl) (Eff.bs (α := Int) (cs := [_]) (xs := [((k : Nat) : Int)]) Tryd.underlying22 ty3 rfl rfl (by decide) (by decide) rfl rfl rfl rfl) ?_
    rintro _ _ ⟨ad26, rfl, rfl⟩
    refine ⟨Fit.sub, ?_⟩
    refine D.step (rs := [8]) (by kernel_rfl) rfl rfl (all1 ?_)
    refine Step.eff rfl (Wanted.plain rfl) (Eff.app (α := Int) (e := 3) (xs := ([((k : Nat) : Int)] : List Int)) (ys := List.drop ((x1).toNat) os) Tryd.underlying22 ty3 rfl rfl rfl (by repeat (first | exact List.mem_cons_self | apply List.mem_cons_of_mem)) (Sl.drop Sl.o (by omega)) (by simp only [List.length_cons, List.length_nil, List.length_append, List.length_take, List.length_drop]; omega) (by decide) rfl (fun _ _ => (by repeat (first | exact At.head _ _ _ | apply At.tail)))) ?_
    rintro _ _ ⟨ad27, cp28, rfl, rfl⟩
    refine ⟨Fit.sub, ?_⟩
    refine D.fit (J := vc 3 (.slice a (List.take ((x1).toNat) os).length c) (List.take ((x1).toNat) os) :: vc 3 (.slice ad27 (([((k : Nat) : Int)] : List Int) ++ (List.drop ((x1).toNat) os)).length cp28) (([((k : Nat) : Int)] : List Int) ++ (List.drop ((x1).toNat) os)) :: blk b [lv, I64 (i2)] 96 :: I) (Fit.trans (show Fit κ _ (vc 3 (.slice a os.length c) (os) :: vc 3 (.slice ad27 (([((k : Nat) : Int)] : List Int) ++ (List.drop ((x1).toNat) os)).length cp28) (([((k : Nat) : Int)] : List Int) ++ (List.drop ((x1).toNat) os)) :: blk b [lv, I64 (i2)] 96 :: I) from Fit.s) (Fit.takevc (α := Int) rfl)) ?_
    refine D.step (rs := [9]) (by kernel_rfl) rfl rfl (all1 ?_)
    refine Step.eff rfl (Wanted.plain rfl) (Eff.app (α := Int) (e := 3) (xs := List.take ((x1).toNat) os) (ys := ([((k : Nat) : Int)] : List Int) ++ (List.drop ((x1).toNat) os)) Tryd.underlying22 ty3 rfl rfl rfl (by repeat (first | exact List.mem_cons_self | apply List.mem_cons_of_mem)) Sl.o (by simp only [List.length_cons, List.length_nil, List.length_append, List.length_take, List.length_drop]; omega) (by decide) rfl (fun _ _ => (by repeat (first | exact At.head _ _ _ | apply At.tail)))) ?_
    rintro _ _ ⟨ad29, cp30, rfl, rfl⟩
    refine ⟨Fit.sub, ?_⟩
    refine D.r 10 rfl (Runs.assign rfl) ?_ (hJ := Fit.sub)
    refine D.done (by kernel_rfl) ?_
    refine V.block_normal ?_
    refine V.then ?_
    refine W.sub (L' := [(5, _), (0, _), (1, _), (6, _)]) (Sub.cons rfl (Sub.cons rfl (Sub.cons rfl (Sub.cons rfl Sub.nil)))) ?_
    refine W.region ?_
    refine G.r (Runs.move rfl) ?_
    refine G.r (Runs.add rfl rfl (by unfold InR; omega)) ?_
    refine G.r (Runs.assign rfl) ?_
    refine G.nil ?_
    exact V.next ((k + 1), (ad29), (cp30), ((List.take ((x1).toNat) os) ++ (([((k : Nat) : Int)] : List Int) ++ (List.drop ((x1).toNat) os))), (i2)) (show ((k + 1 : Nat) ≤ n.toNat) ∧ (((List.take ((x1).toNat) os) ++ (([((k : Nat) : Int)] : List Int) ++ (List.drop ((x1).toNat) os)) : List Int).Perm ((List.range (k + 1 : Nat)).map fun i : Nat => (i : Int))) ∧ (0 ≤ (i2 : Int)) from ⟨(by omega), (by rw [List.range_succ, List.map_append]; exact (ins_perm.trans (List.Perm.cons _ hp)).trans (List.perm_append_comm (l₁ := [(k : Int)]))), (by omega)⟩) (show n.toNat - (k + 1 : Nat) < n.toNat - k from (by omega)) (Sub.cons rfl (Sub.cons rfl (Sub.cons (lookV rfl (by first | rfl | simp)) (Sub.cons lookO Sub.nil)))) (show Fit κ _ (vc 3 (.slice (ad29) ((List.take ((x1).toNat) os) ++ (([((k : Nat) : Int)] : List Int) ++ (List.drop ((x1).toNat) os))).length (cp30)) (((List.take ((x1).toNat) os) ++ (([((k : Nat) : Int)] : List Int) ++ (List.drop ((x1).toNat) os)))) :: blk b [lv, I64 ((i2))] 96 :: I) from Fit.sub)
   ·refine Step.eff rfl (Wanted.plain rfl) (Eff.bs (α := Int) (cs := [_]) (xs := [((k : Nat) : Int)]) Tryd.underlying22 ty3 rfl rfl (by decide) (by decide) rfl rfl rfl rfl) ?_
    rintro _ _ ⟨ad31, rfl, rfl⟩
    refine ⟨Fit.sub, ?_⟩
    refine D.step (rs := [2, 8]) (by kernel_rfl) rfl rfl (all2 ?_ (all1 ?_))
    ·refine Step.read rfl (Wanted.plain rfl) rfl rfl (Runs.hi (α := Int) (xs := os) (h := (x1).toNat) Tryd.underlying22 ty3 rfl rfl (by omega) Sl.o (by omega)) Fit.sub ?_
     refine D.step (rs := [8]) (by kernel_rfl) rfl rfl (all1 ?_)
     refine Step.eff rfl (Wanted.plain rfl) (Eff.app (α := Int) (e := 3) (xs := ([((k : Nat) : Int)] : List Int)) (ys := List.drop ((x1).toNat) os) Tryd.underlying22 ty3 rfl rfl rfl (by repeat (first | exact List.mem_cons_self | apply List.mem_cons_of_mem)) (Sl.drop Sl.o (by omega)) (by simp only [List.length_cons, List.length_nil, List.length_append, List.length_take, List.length_drop]; omega) (by decide) rfl (fun _ _ => (by repeat (first | exact At.head _ _ _ | apply At.tail)))) ?_
     rintro _ _ ⟨ad32, cp33, rfl, rfl⟩
     refine ⟨Fit.sub, ?_⟩
     refine D.fit (J := vc 3 (.slice a (List.take ((x1).toNat) os).length c) (List.take ((x1).toNat) os) :: vc 3 (.slice ad32 (([((k : Nat) : Int)] : List Int) ++ (List.drop ((x1).toNat) os)).length cp33) (([((k : Nat) : Int)] : List Int) ++ (List.drop ((x1).toNat) os)) :: blk b [lv, I64 (i2)] 96 :: I) (Fit.trans (show Fit κ _ (vc 3 (.slice a os.length c) (os) :: vc 3 (.slice ad32 (([((k : Nat) : Int)] : List Int) ++ (List.drop ((x1).toNat) os)).length cp33) (([((k : Nat) : Int)] : List Int) ++ (List.drop ((x1).toNat) os)) :: blk b [lv, I64 (i2)] 96 :: I) from Fit.s) (Fit.takevc (α := Int) rfl)) ?_
     refine D.step (rs := [9]) (by kernel_rfl) rfl rfl (all1 ?_)
     refine Step.eff rfl (Wanted.plain rfl) (Eff.app (α := Int) (e := 3) (xs := List.take ((x1).toNat) os) (ys := ([((k : Nat) : Int)] : List Int) ++ (List.drop ((x1).toNat) os)) Tryd.underlying22 ty3 rfl rfl rfl (by repeat (first | exact List.mem_cons_self | apply List.mem_cons_of_mem)) Sl.o (by simp only [List.length_cons, List.length_nil, List.length_append, List.length_take, List.length_drop]; omega) (by decide) rfl (fun _ _ => (by repeat (first | exact At.head _ _ _ | apply At.tail)))) ?_
     rintro _ _ ⟨ad34, cp35, rfl, rfl⟩
     refine ⟨Fit.sub, ?_⟩
     refine D.r 10 rfl (Runs.assign rfl) ?_ (hJ := Fit.sub)
     refine D.done (by kernel_rfl) ?_
     refine V.block_normal ?_
     refine V.then ?_
     refine W.sub (L' := [(5, _), (0, _), (1, _), (6, _)]) (Sub.cons rfl (Sub.cons rfl (Sub.cons rfl (Sub.cons rfl Sub.nil)))) ?_
     refine W.region ?_
     refine G.r (Runs.move rfl) ?_
     refine G.r (Runs.add rfl rfl (by unfold InR; omega)) ?_
     refine G.r (Runs.assign rfl) ?_
     refine G.nil ?_
     exact V.next ((k + 1), (ad34), (cp35), ((List.take ((x1).toNat) os) ++ (([((k : Nat) : Int)] : List Int) ++ (List.drop ((x1).toNat) os))), (i2)) (show ((k + 1 : Nat) ≤ n.toNat) ∧ (((List.take ((x1).toNat) os) ++ (([((k : Nat) : Int)] : List Int) ++ (List.drop ((x1).toNat) os)) : List Int).Perm ((List.range (k + 1 : Nat)).map fun i : Nat => (i : Int))) ∧ (0 ≤ (i2 : Int)) from ⟨(by omega), (by rw [List.range_succ, List.map_append]; exact (ins_perm.trans (List.Perm.cons _ hp)).trans (List.perm_append_comm (l₁ := [(k : Int)]))), (by omega)⟩) (show n.toNat - (k + 1 : Nat) < n.toNat - k from (by omega)) (Sub.cons rfl (Sub.cons rfl (Sub.cons (lookV rfl (by first | rfl | simp)) (Sub.cons lookO Sub.nil)))) (show Fit κ _ (vc 3 (.slice (ad34) ((List.take ((x1).toNat) os) ++ (([((k : Nat) : Int)] : List Int) ++ (List.drop ((x1).toNat) os))).length (cp35)) (((List.take ((x1).toNat) os) ++ (([((k : Nat) : Int)] : List Int) ++ (List.drop ((x1).toNat) os)))) :: blk b [lv, I64 ((i2))] 96 :: I) from Fit.sub)
    ·refine Step.eff rfl (Wanted.plain rfl) (Eff.app (α := Int) (e := 3) (xs := ([((k : Nat) : Int)] : List Int)) (ys := List.drop ((x1).toNat) os) Tryd.underlying22 ty3 rfl rfl rfl (by repeat (first | exact List.mem_cons_self | apply List.mem_cons_of_mem)) (Sl.drop Sl.o (by omega)) (by simp only [List.length_cons, List.length_nil, List.length_append, List.length_take, List.length_drop]; omega) (by decide) rfl (fun _ _ => (by repeat (first | exact At.head _ _ _ | apply At.tail)))) ?_
     rintro _ _ ⟨ad36, cp37, rfl, rfl⟩
     refine ⟨Fit.sub, ?_⟩
     refine D.step (rs := [2]) (by kernel_rfl) rfl rfl (all1 ?_)
     refine Step.read rfl (Wanted.plain rfl) rfl rfl (Runs.hi (α := Int) (xs := os) (h := (x1).toNat) Tryd.underlying22 ty3 rfl rfl (by omega) Sl.o (by omega)) Fit.sub ?_
     refine D.fit (J := vc 3 (.slice a (List.take ((x1).toNat) os).length c) (List.take ((x1).toNat) os) :: vc 3 (.slice ad36 (([((k : Nat) : Int)] : List Int) ++ (List.drop ((x1).toNat) os)).length cp37) (([((k : Nat) : Int)] : List Int) ++ (List.drop ((x1).toNat) os)) :: blk b [lv, I64 (i2)] 96 :: I) (Fit.trans (show Fit κ _ (vc 3 (.slice a os.length c) (os) :: vc 3 (.slice ad36 (([((k : Nat) : Int)] : List Int) ++ (List.drop ((x1).toNat) os)).length cp37) (([((k : Nat) : Int)] : List Int) ++ (List.drop ((x1).toNat) os)) :: blk b [lv, I64 (i2)] 96 :: I) from Fit.s) (Fit.takevc (α := Int) rfl)) ?_
     refine D.step (rs := [9]) (by kernel_rfl) rfl rfl (all1 ?_)
     refine Step.eff rfl (Wanted.plain rfl) (Eff.app (α := Int) (e := 3) (xs := List.take ((x1).toNat) os) (ys := ([((k : Nat) : Int)] : List Int) ++ (List.drop ((x1).toNat) os)) Tryd.underlying22 ty3 rfl rfl rfl (by repeat (first | exact List.mem_cons_self | apply List.mem_cons_of_mem)) Sl.o (by simp only [List.length_cons, List.length_nil, List.length_append, List.length_take, List.length_drop]; omega) (by decide) rfl (fun _ _ => (by repeat (first | exact At.head _ _ _ | apply At.tail)))) ?_
     rintro _ _ ⟨ad38, cp39, rfl, rfl⟩
     refine ⟨Fit.sub, ?_⟩
     refine D.r 10 rfl (Runs.assign rfl) ?_ (hJ := Fit.sub)
     refine D.done (by kernel_rfl) ?_
     refine V.block_normal ?_
     refine V.then ?_
     refine W.sub (L' := [(5, _), (0, _), (1, _), (6, _)]) (Sub.cons rfl (Sub.cons rfl (Sub.cons rfl (Sub.cons rfl Sub.nil)))) ?_
     refine W.region ?_
     refine G.r (Runs.move rfl) ?_
     refine G.r (Runs.add rfl rfl (by unfold InR; omega)) ?_
     refine G.r (Runs.assign rfl) ?_
     refine G.nil ?_
     exact V.next ((k + 1), (ad38), (cp39), ((List.take ((x1).toNat) os) ++ (([((k : Nat) : Int)] : List Int) ++ (List.drop ((x1).toNat) os))), (i2)) (show ((k + 1 : Nat) ≤ n.toNat) ∧ (((List.take ((x1).toNat) os) ++ (([((k : Nat) : Int)] : List Int) ++ (List.drop ((x1).toNat) os)) : List Int).Perm ((List.range (k + 1 : Nat)).map fun i : Nat => (i : Int))) ∧ (0 ≤ (i2 : Int)) from ⟨(by omega), (by rw [List.range_succ, List.map_append]; exact (ins_perm.trans (List.Perm.cons _ hp)).trans (List.perm_append_comm (l₁ := [(k : Int)]))), (by omega)⟩) (show n.toNat - (k + 1 : Nat) < n.toNat - k from (by omega)) (Sub.cons rfl (Sub.cons rfl (Sub.cons (lookV rfl (by first | rfl | simp)) (Sub.cons lookO Sub.nil)))) (show Fit κ _ (vc 3 (.slice (ad38) ((List.take ((x1).toNat) os) ++ (([((k : Nat) : Int)] : List Int) ++ (List.drop ((x1).toNat) os))).length (cp39)) (((List.take ((x1).toNat) os) ++ (([((k : Nat) : Int)] : List Int) ++ (List.drop ((x1).toNat) os)))) :: blk b [lv, I64 ((i2))] 96 :: I) from Fit.sub)
 ·refine W.exit ?_
  refine V.then_exit ?_
  refine V.then_exit ?_
  refine V.block_hit ?_
  refine V.then ?_
  refine W.sr ?_
  refine G.r (Runs.move rfl) ?_
  refine G.r (Runs.assign rfl) ?_
  refine G.nt ?_
  refine W.ret ?_
  exact V.ret1 rfl rfl (_) Fit.m ⟨(a, c, os, iq), ⟨⟨rfl, hp.nodup_iff.2 (List.pairwise_map.2 (List.nodup_range.imp fun h => by omega)), fun x hx => by obtain ⟨i, hi, rfl⟩ := List.mem_map.1 (hp.mem_iff.1 hx); have := List.mem_range.1 hi; omega, (show os.length = n.toNat from by omega)⟩, by omega⟩, rfl⟩

theorem Order_at {κ : Ctx} {I : List Item} {F : Item → List Item} {b : Nat} {lv : Value} {ls : List Int} {i : Int}  (hat : AtF I (deck b lv i) F) (hl : ∀ q, Sl κ (F (deck b lv q)) lv ls) (h0 : 0 ≤ i)  {n : Int} (hn : n ≤ 1000) :
    CallS Tryd.prog κ 43 [.pointer (some ⟨b, 0, none⟩), I64 (n)] I fun r J => ∃ y : (Option Addr) × Nat × (List Int) × Int, ((r = .slice y.1 y.2.2.1.length y.2.1 ∧ (y.2.2.1.Nodup ∧ (∀ x ∈ y.2.2.1, 0 ≤ x ∧ x < n) ∧ y.2.2.1.length = n.toNat)) ∧ 0 ≤ y.2.2.2) ∧ J = [vc 3 (.slice y.1 y.2.2.1.length y.2.1) y.2.2.1] ++ F (deck b lv y.2.2.2) :=
  CallS.at (Post := fun r (y : (Option Addr) × Nat × (List Int) × Int) => (r = .slice y.1 y.2.2.1.length y.2.1 ∧ (y.2.2.1.Nodup ∧ (∀ x ∈ y.2.2.1, 0 ≤ x ∧ x < n) ∧ y.2.2.1.length = n.toNat)) ∧ 0 ≤ y.2.2.2) (Z := fun y : (Option Addr) × Nat × (List Int) × Int => [vc 3 (.slice y.1 y.2.2.1.length y.2.1) y.2.2.1]) (X := fun y : (Option Addr) × Nat × (List Int) × Int => deck b lv y.2.2.2) hat fun J _ hF => Order_base (fun q => (hl q).fit (hF _)) h0  hn

end Go.Sl
