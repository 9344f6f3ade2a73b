/- A part of the proofs of statements of this seat: contracts of functions, and the plain laws that they lean on. No conditions. -/
import Derived.Test.YtbimaodbcjjbfaaLaw16D
namespace Go.Sl
open Go.Proofs
set_option linter.unusedVariables false
set_option linter.unusedSimpArgs false
set_option maxRecDepth 4000
theorem CallS.monoF {P : Program} {κ : Ctx} {f : FuncId} {args : List Value} {I : List Item} {Post Post' : Value → List Item → Prop} (h : CallS P κ f args I Post) (hp : ∀ v J, Post v J → ∃ J', Fit κ J J' ∧ Post' v J') : CallS P κ f args I Post' :=
  fun w s => (h w s).mono fun e w' ⟨v, J, he, hq, hs⟩ => by
    obtain ⟨J', hf, hq'⟩ := hp v J hq
    exact ⟨v, J', he, hq', hf w' hs⟩
/-- The greatest flow, or nothing where the network is wrong. -/
def MaxA (n : Net) (f side : List Int) (val : Int) : Prop := if checkN n = 0 then MaxF n f side val else f = [] ∧ side = [] ∧ val = 0
def GreatA (n : Net) (m : List Int) : Prop := if checkN n = 0 then GreatL n m else m = []
theorem MaxA.unique {n : Net} {f g s t : List Int} {v w : Int} (h : MaxA n f s v) (h' : MaxA n g t w) : v = w ∧ s = t := by
  unfold MaxA at *
  by_cases he : checkN n = 0
  · rw [if_pos he] at h h'; exact MaxF.unique (checkN_ok.1 he) h h'
  · rw [if_neg he] at h h'
    obtain ⟨_, h1, h2⟩ := h
    obtain ⟨_, h3, h4⟩ := h'
    exact ⟨by rw [h2, h4], by rw [h1, h3]⟩
theorem GreatA.unique {n : Net} {s t : List Int} (h : GreatA n s) (h' : GreatA n t) : s = t := by
  unfold GreatA at *
  by_cases he : checkN n = 0
  · rw [if_pos he] at h h'; exact GreatL.unique (checkN_ok.1 he) h h'
  · rw [if_neg he] at h h'; rw [h, h']
theorem MaxA.proof {n : Net} {f s : List Int} {v : Int} (h : MaxA n f s v) (he : checkN n = 0) : provesE n f s v = 0 := by
  unfold MaxA at h
  rw [if_pos he] at h
  exact h.proof (checkN_ok.1 he)
section
variable {κ : Ctx} {I : List Item} {n : Net} {v : Value}
theorem max_any {f : FuncId} (h0 : checkN n ≠ 0 → CallS Try.prog κ f [.agg #[I64 n.nodes, I64 n.source, I64 n.sink, v]] I fun r J => r = .tuple #[.agg #[.slice none 0 0, I64 0, .slice none 0 0], I64 (checkN n)] ∧ I = J)
    (h1 : n.Ok → CallS Try.prog κ f [.agg #[I64 n.nodes, I64 n.source, I64 n.sink, v]] I fun r J => ∃ a c f a' c' side val, r = .tuple #[.agg #[.slice a f.length c, I64 val, .slice a' side.length c'], I64 0] ∧ MaxF n f side val ∧ J = vc 3 (.slice a' side.length c') side :: vc 3 (.slice a f.length c) f :: I) :
    CallS Try.prog κ f [.agg #[I64 n.nodes, I64 n.source, I64 n.sink, v]] I fun r J => ∃ a c f a' c' side val, r = .tuple #[.agg #[.slice a f.length c, I64 val, .slice a' side.length c'], I64 (checkN n)] ∧ MaxA n f side val ∧ J = vc 3 (.slice a' side.length c') side :: vc 3 (.slice a f.length c) f :: I := by
  by_cases he : checkN n = 0
  · refine (h1 (checkN_ok.1 he)).mono fun r J ⟨a, c, f, a', c', side, val, hr, hm, hJ⟩ => ⟨a, c, f, a', c', side, val, by rw [hr, he], by unfold MaxA; rw [if_pos he]; exact hm, hJ⟩
  · refine (h0 he).monoF fun r J ⟨hr, hJ⟩ => ⟨_, ?_, none, 0, [], none, 0, [], 0, hr, by unfold MaxA; rw [if_neg he]; exact ⟨rfl, rfl, rfl⟩, rfl⟩
    subst hJ
    exact (Fit.nilvc 3 I).trans (Fit.nilvc 3 _)
theorem great_any {f : FuncId} (h0 : checkN n ≠ 0 → CallS Try.prog κ f [.agg #[I64 n.nodes, I64 n.source, I64 n.sink, v]] I fun r J => r = .tuple #[.slice none 0 0, I64 (checkN n)] ∧ I = J)
    (h1 : n.Ok → CallS Try.prog κ f [.agg #[I64 n.nodes, I64 n.source, I64 n.sink, v]] I fun r J => ∃ a c side, r = .tuple #[.slice a side.length c, I64 0] ∧ GreatL n side ∧ J = vc 3 (.slice a side.length c) side :: I) :
    CallS Try.prog κ f [.agg #[I64 n.nodes, I64 n.source, I64 n.sink, v]] I fun r J => ∃ a c side, r = .tuple #[.slice a side.length c, I64 (checkN n)] ∧ GreatA n side ∧ J = vc 3 (.slice a side.length c) side :: I := by
  by_cases he : checkN n = 0
  · refine (h1 (checkN_ok.1 he)).mono fun r J ⟨a, c, side, hr, hm, hJ⟩ => ⟨a, c, side, by rw [hr, he], by unfold GreatA; rw [if_pos he]; exact hm, hJ⟩
  · refine (h0 he).monoF fun r J ⟨hr, hJ⟩ => ⟨_, ?_, none, 0, [], hr, by unfold GreatA; rw [if_neg he], rfl⟩
    subst hJ
    exact Fit.nilvc 3 I
end
/-- A network as an element. -/
structure NRow where
  net : Net
  a : Option Addr
  c : Nat
instance : Inhabited NRow := ⟨⟨⟨0, 0, 0, []⟩, none, 0⟩⟩
instance : Enc NRow := ⟨fun r => [I64 r.net.nodes, I64 r.net.source, I64 r.net.sink, .slice r.a r.net.arcs.length r.c], 4, by omega, fun _ => rfl, fun r u hu => by
  simp only [List.mem_cons, List.not_mem_nil, or_false] at hu
  rcases hu with rfl | rfl | rfl | rfl <;> rfl⟩
def NRow.Held (κ : Ctx) (I : List Item) (r : NRow) : Prop := Sl κ I (.slice r.a r.net.arcs.length r.c) r.net.arcs
theorem nheld3 {κ : Ctx} {I : List Item} {a b c : NRow} (ha : a.Held κ I) (hb : b.Held κ I) (hc : c.Held κ I) : ∀ i : Int, 0 ≤ i → i < 3 → (at_ [a, b, c] i).Held κ I := fun i h0 h1 => by
  obtain ⟨k, rfl⟩ : ∃ k : Nat, i = (k : Int) := ⟨i.toNat, by omega⟩
  have : k = 0 ∨ k = 1 ∨ k = 2 := by omega
  rcases this with rfl | rfl | rfl
  · exact ha
  · exact hb
  · exact hc
def Row.Held (κ : Ctx) (I : List Item) (r : Row) : Prop := Sl κ I (.slice r.a r.xs.length r.c) r.xs
theorem rheld2 {κ : Ctx} {I : List Item} {a b : Row} (ha : a.Held κ I) (hb : b.Held κ I) : ∀ i : Int, 0 ≤ i → i < 2 → (at_ [a, b] i).Held κ I := fun i h0 h1 => by
  obtain ⟨k, rfl⟩ : ∃ k : Nat, i = (k : Int) := ⟨i.toNat, by omega⟩
  have : k = 0 ∨ k = 1 := by omega
  rcases this with rfl | rfl
  · exact ha
  · exact hb

set_option maxHeartbeats 4000000 in
theorem FlowMax_walk {κ : Ctx} {I : List Item} {ra sa la : Option Addr} {rc sc ln lc : Nat} {rn : Net} {rs ls : List Int} (hr : Sl κ I (.slice ra rn.arcs.length rc) rn.arcs) (hrs : Sl κ I (.slice sa rs.length sc) rs) (hl : Sl κ I (.slice la ln lc) ls) :
    CallS Try.prog κ 5 [.agg #[I64 (rn.nodes), I64 (rn.source), I64 (rn.sink), .slice ra rn.arcs.length rc], .slice sa rs.length sc, .slice la ln lc] I (fun r J => r = .bool true ∧ I = J) := by
 refine CallS.enter (L := [(0, .agg #[I64 (rn.nodes), I64 (rn.source), I64 (rn.sink), .slice ra rn.arcs.length rc]), (1, .slice sa rs.length sc), (2, .slice la ln lc)]) Try.func5 rfl rfl rfl rfl ?_
 refine W.sr ?_
 refine G.e (Eff.box (cs := [_, _, _, _]) rfl rfl rfl) ?_
 rintro _ _ ⟨b1, rfl, rfl⟩
 refine G.r (Runs.assign rfl) ?_
 refine G.nt ?_
 refine W.seq ?_
 refine W.sr ?_
 refine G.r (Runs.lds (vs := [_, _, _, _]) ty30) ?_
 refine G.e (Eff.call call31 rfl rfl (Light_ok (n := rn) (Sl.f hr))) ?_
 rintro _ _ ⟨_, _, ⟨rfl, rfl⟩, rfl, rfl⟩
 refine G.r (Runs.notd rfl) ?_
 refine G.r (Runs.move rfl) ?_
 refine G.split (d := 28) rfl (fun g28 => ?_) (fun g28 => ?_)
 ·refine G.po ?_
  refine G.po ?_
  refine G.po ?_
  refine G.r (Runs.pickt rfl rfl) ?_
  refine G.nt ?_
  refine W.sub (L' := [(32, _), (3, _), (1, _), (2, _)]) (Sub.cons rfl (Sub.cons rfl (Sub.cons rfl (Sub.cons rfl Sub.nil)))) ?_
  refine W.yes rfl ?_
  refine W.sr ?_
  refine G.e (Eff.call call21 rfl rfl Awake_ok) ?_
  rintro _ _ ⟨_, _, ⟨rfl, rfl⟩, rfl, rfl⟩
  refine G.r (Runs.assign rfl) ?_
  refine G.nt ?_
  refine W.ret ?_
  refine V.then_ret ?_
  exact V.ret1 rfl rfl (I) Fit.m ⟨rfl, rfl⟩
 ·refine G.ro (Runs.move rfl) ?_
  refine G.ro (Runs.lens Try.underlying22 rfl) ?_
  refine G.ro (Runs.gtr rfl rfl) ?_
  refine G.r (Runs.pickf rfl rfl) ?_
  refine G.nt ?_
  refine W.sub (L' := [(32, _), (3, _), (1, _), (2, _)]) (Sub.cons rfl (Sub.cons rfl (Sub.cons rfl (Sub.cons rfl Sub.nil)))) ?_
  refine W.ite rfl (fun c32 => ?_) (fun c32 => ?_)
  ·refine W.sr ?_
   refine G.e (Eff.call call21 rfl rfl Awake_ok) ?_
   rintro _ _ ⟨_, _, ⟨rfl, rfl⟩, rfl, rfl⟩
   refine G.r (Runs.assign rfl) ?_
   refine G.nt ?_
   refine W.ret ?_
   refine V.then_ret ?_
   exact V.ret1 rfl rfl (I) Fit.m ⟨rfl, rfl⟩
  ·refine W.skip ?_
   refine V.then ?_
   refine W.sr ?_
   refine G.r (Runs.move rfl) ?_
   refine G.e (Eff.call call22 rfl rfl New_ok) ?_
   rintro _ _ ⟨_, _, ⟨dk2, rfl, rfl⟩, rfl, rfl⟩
   show G Try.prog κ _ _ _ _ ([(35, .pointer (some ⟨dk2, 0, none⟩)), (34, .slice la ln lc), (32, .bool (decide (40 < ((rs.length : Nat) : Int)))), (3, .pointer (some ⟨b1, 0, none⟩)), (1, .slice sa rs.length sc), (2, .slice la ln lc)] : Env) (blk dk2 [.slice la ln lc, I64 (0)] 129 :: blk b1 [I64 (rn.nodes), I64 (rn.source), I64 (rn.sink), .slice ra rn.arcs.length rc] 30 :: I)
   have hi0 : (0 : Int) ≤ 0 := Int.le_refl _
   refine G.r (Runs.assign rfl) ?_
   refine G.nt ?_
   refine W.sr ?_
   refine G.r (Runs.move rfl) ?_
   refine G.e (Eff.call call23 rfl rfl (Network_at (by repeat (first | exact AtF.head _ _ | apply AtF.tail)) (fun _ => Sl.fit hl Fit.m) (by omega))) ?_
   rintro _ _ ⟨_, _, ⟨n, ad4, cp5, i3, rfl, hmade, hi3, rfl⟩, rfl, rfl⟩
   show G Try.prog κ _ _ _ _ ([(37, .agg #[I64 (n.nodes), I64 (n.source), I64 (n.sink), .slice ad4 n.arcs.length cp5]), (36, .pointer (some ⟨dk2, 0, none⟩)), (7, .pointer (some ⟨dk2, 0, none⟩)), (35, .pointer (some ⟨dk2, 0, none⟩)), (34, .slice la ln lc), (32, .bool (decide (40 < ((rs.length : Nat) : Int)))), (3, .pointer (some ⟨b1, 0, none⟩)), (1, .slice sa rs.length sc), (2, .slice la ln lc)] : Env) (vc 43 (.slice ad4 n.arcs.length cp5) (n.arcs) :: blk dk2 [.slice la ln lc, I64 (i3)] 129 :: blk b1 [I64 (rn.nodes), I64 (rn.source), I64 (rn.sink), .slice ra rn.arcs.length rc] 30 :: I)
   have hok := hmade.ok
   have hmlim := hmade.lim
   have htwo := hok.two
   refine G.e (Eff.alloc ty30 rfl) ?_
   rintro _ _ ⟨b6, rfl, rfl⟩
   refine G.e (Eff.st (cs := [_, _, _, _]) (vs := [_, _, _, _]) (cs' := [_, _, _, _]) ty30) ?_
   rintro _ _ ⟨rfl, rfl⟩
   refine G.nt ?_
   refine W.seq ?_
   refine W.seq ?_
   refine W.drawn mixed ?_
   refine A.hold (blk b6 [I64 (n.nodes), I64 (n.source), I64 (n.sink), .slice ad4 n.arcs.length cp5] 30 :: vc 43 (.slice ad4 n.arcs.length cp5) (n.arcs) :: blk b1 [I64 (rn.nodes), I64 (rn.source), I64 (rn.sink), .slice ra rn.arcs.length rc] 30 :: I) 8 ?_
   refine D.r 0 rfl (Runs.lds (vs := [_, _, _, _]) ty30) ?_ (hJ := Fit.sub)
   refine D.r 1 rfl (Runs.lds (vs := [_, _, _, _]) ty30) ?_ (hJ := Fit.sub)
   refine D.r 2 rfl (Runs.move rfl) ?_ (hJ := Fit.sub)
   refine D.r 3 rfl (Runs.lds (vs := [_, _, _, _]) ty30) ?_ (hJ := Fit.sub)
   refine D.r 7 rfl (Runs.move rfl) ?_ (hJ := Fit.sub)
   refine D.step (rs := [4]) (by kernel_rfl) rfl rfl (all1 ?_)
   refine Step.eff rfl (Wanted.plain rfl) (Eff.call call32 rfl rfl (Odd_at (by repeat (first | exact AtF.head _ _ | apply AtF.tail)) (fun _ => Sl.fit hl Fit.m) (by omega) (fun _ => Sl.vec (by repeat (first | exact List.mem_cons_self | apply List.mem_cons_of_mem))) hmade)) ?_
   rintro _ _ ⟨_, _, ⟨⟨m7, ad8, cp9, i10⟩, ⟨⟨rfl, hlm7⟩, hi10⟩, rfl⟩, rfl, rfl⟩
   refine ⟨Fit.sub, ?_⟩
   show D Try.prog κ _ _ _ _ _ _ _ ([(42, .agg #[I64 (m7.nodes), I64 (m7.source), I64 (m7.sink), .slice ad8 m7.arcs.length cp9]), (45, I64 (0)), (41, .agg #[I64 (n.nodes), I64 (n.source), I64 (n.sink), .slice ad4 n.arcs.length cp5]), (40, .pointer (some ⟨dk2, 0, none⟩)), (39, .agg #[I64 (rn.nodes), I64 (rn.source), I64 (rn.sink), .slice ra rn.arcs.length rc]), (38, .agg #[I64 (n.nodes), I64 (n.source), I64 (n.sink), .slice ad4 n.arcs.length cp5]), (8, .pointer (some ⟨b6, 0, none⟩)), (37, .agg #[I64 (n.nodes), I64 (n.source), I64 (n.sink), .slice ad4 n.arcs.length cp5]), (36, .pointer (some ⟨dk2, 0, none⟩)), (7, .pointer (some ⟨dk2, 0, none⟩)), (35, .pointer (some ⟨dk2, 0, none⟩)), (34, .slice la ln lc), (32, .bool (decide (40 < ((rs.length : Nat) : Int)))), (3, .pointer (some ⟨b1, 0, none⟩)), (1, .slice sa rs.length sc), (2, .slice la ln lc)] : Env) (vc 43 (.slice ad8 m7.arcs.length cp9) (m7.arcs) :: blk b6 [I64 (n.nodes), I64 (n.source), I64 (n.sink), .slice ad4 n.arcs.length cp5] 30 :: vc 43 (.slice ad4 n.arcs.length cp5) (n.arcs) :: blk dk2 [.slice la ln lc, I64 (i10)] 129 :: blk b1 [I64 (rn.nodes), I64 (rn.source), I64 (rn.sink), .slice ra rn.arcs.length rc] 30 :: I)
   have hi10 : 0 ≤ i10 := hi10
   refine D.step (rs := [5]) (by kernel_rfl) rfl rfl (all1 ?_)
   refine Step.eff rfl (Wanted.plain rfl) (Eff.bs (α := NRow) (cs := [I64 (n.nodes), I64 (n.source), I64 (n.sink), .slice ad4 n.arcs.length cp5, I64 (rn.nodes), I64 (rn.source), I64 (rn.sink), .slice ra rn.arcs.length rc, I64 (m7.nodes), I64 (m7.source), I64 (m7.sink), .slice ad8 m7.arcs.length cp9]) (xs := [⟨n, ad4, cp5⟩, ⟨rn, ra, rc⟩, ⟨m7, ad8, cp9⟩]) Try.underlying47 ty30 rfl rfl (by decide) (by decide) rfl (by kernel_rfl) rfl rfl) ?_
   rintro _ _ ⟨ad11, rfl, rfl⟩
   refine ⟨Fit.sub, ?_⟩
   generalize hX : ([⟨n, ad4, cp5⟩, ⟨rn, ra, rc⟩, ⟨m7, ad8, cp9⟩] : List NRow) = X
   have hXl : X.length = 3 := by rw [← hX]; rfl
   refine D.r 6 rfl (Runs.lens Try.underlying47 rfl) ?_ (hJ := Fit.sub)
   have hheld : ∀ i : Int, 0 ≤ i → i < 3 → NRow.Held κ (vc 43 (.slice ad8 m7.arcs.length cp9) (m7.arcs) :: vc 43 (.slice ad4 n.arcs.length cp5) (n.arcs) :: I) (at_ X i) := by rw [← hX]; exact nheld3 (show NRow.Held _ _ _ from Sl.o) (show NRow.Held _ _ _ from Sl.fit hr Fit.m) (show NRow.Held _ _ _ from Sl.o)
   refine D.done (by kernel_rfl) ?_
   refine V.then ?_
   refine W.sub (L' := [(44, _), (43, _), (45, _), (7, _), (1, _)]) (Sub.cons rfl (Sub.cons rfl (Sub.cons rfl (Sub.cons rfl (Sub.cons rfl Sub.nil))))) ?_
   refine W.block ?_
   refine W.loop (σ := Nat × Int) (fun s => ([(1, .slice sa rs.length sc), (7, .pointer (some ⟨dk2, 0, none⟩)), (43, .slice ad11 3 3), (44, I64 (((3 : Nat) : Int))), (45, I64 (((s.1 : Nat) : Int)))] : Env)) (fun s => vc 30 (.slice ad11 3 3) (X) :: vc 43 (.slice ad8 m7.arcs.length cp9) (m7.arcs) :: blk b6 [I64 (n.nodes), I64 (n.source), I64 (n.sink), .slice ad4 n.arcs.length cp5] 30 :: vc 43 (.slice ad4 n.arcs.length cp5) (n.arcs) :: blk dk2 [.slice la ln lc, I64 (s.2)] 129 :: blk b1 [I64 (rn.nodes), I64 (rn.source), I64 (rn.sink), .slice ra rn.arcs.length rc] 30 :: I) (fun s => (s.1 ≤ 3) ∧ (0 ≤ s.2)) (fun s => 3 - s.1) (0, i10) (show ((0 : Nat) ≤ 3) ∧ (0 ≤ (i10 : Int)) from ⟨(by omega), (by omega)⟩) (Sub.cons rfl (Sub.cons rfl (Sub.cons rfl (Sub.cons rfl (Sub.cons lookO Sub.nil))))) (show Fit κ _ (vc 30 (.slice ad11 3 3) (X) :: vc 43 (.slice ad8 m7.arcs.length cp9) (m7.arcs) :: blk b6 [I64 (n.nodes), I64 (n.source), I64 (n.sink), .slice ad4 n.arcs.length cp5] 30 :: vc 43 (.slice ad4 n.arcs.length cp5) (n.arcs) :: blk dk2 [.slice la ln lc, I64 ((i10))] 129 :: blk b1 [I64 (rn.nodes), I64 (rn.source), I64 (rn.sink), .slice ra rn.arcs.length rc] 30 :: I) from Fit.sub) ?_
   rintro ⟨k, i6⟩ hp
   obtain ⟨hk, hi6⟩ : (k ≤ 3) ∧ (0 ≤ i6) := hp
   show W Try.prog κ 152 _ _ ([(1, .slice sa rs.length sc), (7, .pointer (some ⟨dk2, 0, none⟩)), (43, .slice ad11 3 3), (44, I64 (((3 : Nat) : Int))), (45, I64 (((k : Nat) : Int)))] : Env) (vc 30 (.slice ad11 3 3) (X) :: vc 43 (.slice ad8 m7.arcs.length cp9) (m7.arcs) :: blk b6 [I64 (n.nodes), I64 (n.source), I64 (n.sink), .slice ad4 n.arcs.length cp5] 30 :: vc 43 (.slice ad4 n.arcs.length cp5) (n.arcs) :: blk dk2 [.slice la ln lc, I64 (i6)] 129 :: blk b1 [I64 (rn.nodes), I64 (rn.source), I64 (rn.sink), .slice ra rn.arcs.length rc] 30 :: I)
   refine W.sr ?_
   refine G.r (Runs.lss rfl rfl) ?_
   refine G.nt ?_
   refine W.seq ?_
   refine W.ite rfl (fun c46 => ?_) (fun c46 => ?_)
   ·refine W.skip ?_
    refine V.then ?_
    refine W.seq ?_
    refine W.block ?_
    refine W.sr ?_
    refine G.r (Runs.idx (α := NRow) (xs := X) Try.underlying47 ty30 rfl rfl Sl.o (by omega) (by omega)) ?_
    refine G.r (Runs.gets (α := NRow) (xs := X) ty30 rfl Sl.o (by omega) (by omega)) ?_
    refine G.e (Eff.alloc ty30 rfl) ?_
    rintro _ _ ⟨b12, rfl, rfl⟩
    refine G.e (Eff.st (cs := [_, _, _, _]) (vs := [_, _, _, _]) (cs' := [_, _, _, _]) ty30) ?_
    rintro _ _ ⟨rfl, rfl⟩
    refine G.nt ?_
    refine W.seq ?_
    refine W.sr ?_
    refine G.r (Runs.lds (vs := [_, _, _, _]) ty30) ?_
    refine G.e (Eff.call call31 rfl rfl (Light_ok (n := (at_ X ((k : Nat) : Int)).net) (Sl.fit (hheld ((k : Nat) : Int) (by omega) (by omega)) Fit.sub))) ?_
    rintro _ _ ⟨_, _, ⟨rfl, rfl⟩, rfl, rfl⟩
    refine G.r (Runs.notd rfl) ?_
    refine G.nt ?_
    refine W.ite rfl (fun c51 => ?_) (fun c51 => ?_)
    ·refine W.exit ?_
     refine V.then_exit ?_
     refine V.block_hit ?_
     refine V.then ?_
     refine W.region ?_
     refine G.r (Runs.add rfl rfl (by unfold InR; omega)) ?_
     refine G.r (Runs.move rfl) ?_
     refine G.nil ?_
     exact V.next ((k + 1), (i6)) (show ((k + 1 : Nat) ≤ 3) ∧ (0 ≤ (i6 : Int)) from ⟨(by omega), (by omega)⟩) (show 3 - (k + 1 : Nat) < 3 - k from (by omega)) (Sub.cons rfl (Sub.cons rfl (Sub.cons rfl (Sub.cons rfl (Sub.cons lookO Sub.nil))))) (show Fit κ _ (vc 30 (.slice ad11 3 3) (X) :: vc 43 (.slice ad8 m7.arcs.length cp9) (m7.arcs) :: blk b6 [I64 (n.nodes), I64 (n.source), I64 (n.sink), .slice ad4 n.arcs.length cp5] 30 :: vc 43 (.slice ad4 n.arcs.length cp5) (n.arcs) :: blk dk2 [.slice la ln lc, I64 ((i6))] 129 :: blk b1 [I64 (rn.nodes), I64 (rn.source), I64 (rn.sink), .slice ra rn.arcs.length rc] 30 :: I) from Fit.sub)
    ·refine W.skip ?_
     refine V.then ?_
     refine W.sr ?_
     refine G.r (Runs.lds (vs := [_, _, _, _]) ty30) ?_
     refine G.e (Eff.call call30 rfl rfl (max_any (n := (at_ X ((k : Nat) : Int)).net) (FMax_err (Sl.fit (hheld ((k : Nat) : Int) (by omega) (by omega)) Fit.sub)) (FMax_ok (Sl.fit (hheld ((k : Nat) : Int) (by omega) (by omega)) Fit.sub)))) ?_
     rintro _ _ ⟨_, _, ⟨ad13, cp14, f15, ad16, cp17, sd18, vl19, rfl, hf15, rfl⟩, rfl, rfl⟩
     refine G.r (Runs.move rfl) ?_
     refine G.r (Runs.extract rfl rfl) ?_
     refine G.r (Runs.extract rfl rfl) ?_
     refine G.e (Eff.alloc ty24 rfl) ?_
     rintro _ _ ⟨b20, rfl, rfl⟩
     refine G.e (Eff.st (cs := [_, _, _]) (vs := [_, _, _]) (cs' := [_, _, _]) ty24) ?_
     rintro _ _ ⟨rfl, rfl⟩
     refine G.r (Runs.assign rfl) ?_
     refine G.nt ?_
     refine W.sub (L' := [(12, _), (11, _), (10, _), (1, _), (7, _), (43, _), (44, _), (45, _)]) (Sub.cons rfl (Sub.cons rfl (Sub.cons rfl (Sub.cons rfl (Sub.cons rfl (Sub.cons rfl (Sub.cons rfl (Sub.cons rfl Sub.nil)))))))) ?_
     refine W.sr ?_
     refine G.r (Runs.lds (vs := [_, _, _, _]) ty30) ?_
     refine G.e (Eff.call call24 rfl rfl (max_any (n := (at_ X ((k : Nat) : Int)).net) (RMax_err (Sl.fit (hheld ((k : Nat) : Int) (by omega) (by omega)) Fit.sub)) (RMax_ok (Sl.fit (hheld ((k : Nat) : Int) (by omega) (by omega)) Fit.sub)))) ?_
     rintro _ _ ⟨_, _, ⟨ad21, cp22, f23, ad24, cp25, sd26, vl27, rfl, hf23, rfl⟩, rfl, rfl⟩
     refine G.r (Runs.move rfl) ?_
     refine G.r (Runs.extract rfl rfl) ?_
     refine G.r (Runs.extract rfl rfl) ?_
     refine G.e (Eff.alloc ty24 rfl) ?_
     rintro _ _ ⟨b28, rfl, rfl⟩
     refine G.e (Eff.st (cs := [_, _, _]) (vs := [_, _, _]) (cs' := [_, _, _]) ty24) ?_
     rintro _ _ ⟨rfl, rfl⟩
     refine G.r (Runs.assign rfl) ?_
     refine G.nt ?_
     refine W.sub (L' := [(14, _), (13, _), (12, _), (11, _), (10, _), (1, _), (7, _), (43, _), (44, _), (45, _)]) (Sub.cons rfl (Sub.cons rfl (Sub.cons rfl (Sub.cons rfl (Sub.cons rfl (Sub.cons rfl (Sub.cons rfl (Sub.cons rfl (Sub.cons rfl (Sub.cons rfl Sub.nil)))))))))) ?_
     refine W.sr ?_
     refine G.r (Runs.lds (vs := [_, _, _, _]) ty30) ?_
     refine G.e (Eff.call call33 rfl rfl (great_any (n := (at_ X ((k : Nat) : Int)).net) (FGreat_err (Sl.fit (hheld ((k : Nat) : Int) (by omega) (by omega)) Fit.sub)) (FGreat_ok (Sl.fit (hheld ((k : Nat) : Int) (by omega) (by omega)) Fit.sub)))) ?_
     rintro _ _ ⟨_, _, ⟨ad29, cp30, gr31, rfl, hgr31, rfl⟩, rfl, rfl⟩
     refine G.r (Runs.move rfl) ?_
     refine G.r (Runs.extract rfl rfl) ?_
     refine G.r (Runs.extract rfl rfl) ?_
     refine G.r (Runs.assign rfl) ?_
     refine G.r (Runs.assign rfl) ?_
     refine G.nt ?_
     refine W.sub (L' := [(16, _), (15, _), (14, _), (13, _), (12, _), (11, _), (10, _), (1, _), (7, _), (43, _), (44, _), (45, _)]) (Sub.cons rfl (Sub.cons rfl (Sub.cons rfl (Sub.cons rfl (Sub.cons rfl (Sub.cons rfl (Sub.cons rfl (Sub.cons rfl (Sub.cons rfl (Sub.cons rfl (Sub.cons rfl (Sub.cons rfl Sub.nil)))))))))))) ?_
     refine W.sr ?_
     refine G.r (Runs.lds (vs := [_, _, _, _]) ty30) ?_
     refine G.e (Eff.call call27 rfl rfl (great_any (n := (at_ X ((k : Nat) : Int)).net) (RGreat_err (Sl.fit (hheld ((k : Nat) : Int) (by omega) (by omega)) Fit.sub)) (RGreat_ok (Sl.fit (hheld ((k : Nat) : Int) (by omega) (by omega)) Fit.sub)))) ?_
     rintro _ _ ⟨_, _, ⟨ad32, cp33, gr34, rfl, hgr34, rfl⟩, rfl, rfl⟩
     have hu := MaxA.unique hf15 hf23
     have hg := GreatA.unique hgr31 hgr34
     refine G.r (Runs.move rfl) ?_
     refine G.r (Runs.extract rfl rfl) ?_
     refine G.r (Runs.extract rfl rfl) ?_
     refine G.r (Runs.assign rfl) ?_
     refine G.r (Runs.assign rfl) ?_
     refine G.nt ?_
     refine W.sub (L' := [(18, _), (17, _), (16, _), (15, _), (14, _), (13, _), (12, _), (11, _), (10, _), (1, _), (7, _), (43, _), (44, _), (45, _)]) (Sub.cons rfl (Sub.cons rfl (Sub.cons rfl (Sub.cons rfl (Sub.cons rfl (Sub.cons rfl (Sub.cons rfl (Sub.cons rfl (Sub.cons rfl (Sub.cons rfl (Sub.cons rfl (Sub.cons rfl (Sub.cons rfl (Sub.cons rfl Sub.nil)))))))))))))) ?_
     refine W.seq ?_
     refine W.seq ?_
     refine W.drawn mixed ?_
     refine A.hold (vc 3 (.slice ad32 gr34.length cp33) (gr34) :: vc 3 (.slice ad29 gr31.length cp30) (gr31) :: blk b28 [.slice ad21 f23.length cp22, I64 (vl27), .slice ad24 sd26.length cp25] 24 :: vc 3 (.slice ad24 sd26.length cp25) (sd26) :: vc 3 (.slice ad21 f23.length cp22) (f23) :: blk b20 [.slice ad13 f15.length cp14, I64 (vl19), .slice ad16 sd18.length cp17] 24 :: vc 3 (.slice ad16 sd18.length cp17) (sd18) :: vc 3 (.slice ad13 f15.length cp14) (f15) :: blk b12 [I64 ((at_ X ((k : Nat) : Int)).net.nodes), I64 ((at_ X ((k : Nat) : Int)).net.source), I64 ((at_ X ((k : Nat) : Int)).net.sink), .slice (at_ X ((k : Nat) : Int)).a (at_ X ((k : Nat) : Int)).net.arcs.length (at_ X ((k : Nat) : Int)).c] 30 :: vc 30 (.slice ad11 3 3) (X) :: vc 43 (.slice ad8 m7.arcs.length cp9) (m7.arcs) :: blk b6 [I64 (n.nodes), I64 (n.source), I64 (n.sink), .slice ad4 n.arcs.length cp5] 30 :: vc 43 (.slice ad4 n.arcs.length cp5) (n.arcs) :: blk dk2 [.slice la ln lc, I64 (i6)] 129 :: blk b1 [I64 (rn.nodes), I64 (rn.source), I64 (rn.sink), .slice ra rn.arcs.length rc] 30 :: I) 36 ?_
     refine D.r 0 rfl (Runs.lds (vs := [_, _, _, _]) ty30) ?_
     refine D.r 2 rfl (Runs.lds (vs := [_, _, _, _]) ty30) ?_
     refine D.step (rs := [1]) (by kernel_rfl) rfl rfl (all1 ?_)
     refine Step.eff rfl (Wanted.plain rfl) (Eff.call call34 rfl rfl (FCheck_ok (n := (at_ X ((k : Nat) : Int)).net) (Sl.fit (hheld ((k : Nat) : Int) (by omega) (by omega)) Fit.sub))) ?_
     rintro _ _ ⟨_, _, ⟨rfl, rfl⟩, rfl, rfl⟩
     refine ⟨Fit.m, ?_⟩
     refine D.step (rs := [3]) (by kernel_rfl) rfl rfl (all1 ?_)
     refine Step.eff rfl (Wanted.plain rfl) (Eff.call call35 rfl rfl (RCheck_ok (n := (at_ X ((k : Nat) : Int)).net) (Sl.fit (hheld ((k : Nat) : Int) (by omega) (by omega)) Fit.sub))) ?_
     rintro _ _ ⟨_, _, ⟨rfl, rfl⟩, rfl, rfl⟩
     refine ⟨Fit.m, ?_⟩
     refine D.r 4 rfl (Runs.neq rfl rfl) ?_
     refine D.r 5 rfl (Runs.move rfl) ?_
     refine D.split (d := 77) rfl (fun g77 => ?_) (fun g77 => ?_)
     ·exact absurd rfl g77
     ·refine D.ro 6 rfl (Runs.move rfl) ?_
      refine D.ro 7 rfl (Runs.move rfl) ?_
      refine D.ro 8 rfl (Runs.neq rfl rfl) ?_
      refine D.r 9 rfl (Runs.pickf rfl rfl) ?_
      refine D.r 10 rfl (Runs.move rfl) ?_
      refine D.split (d := 82) rfl (fun g82 => ?_) (fun g82 => ?_)
      ·exact absurd rfl g82
      ·refine D.ro 11 rfl (Runs.move rfl) ?_
       refine D.ro 12 rfl (Runs.move rfl) ?_
       refine D.ro 13 rfl (Runs.neq rfl rfl) ?_
       refine D.r 14 rfl (Runs.pickf rfl rfl) ?_
       refine D.r 15 rfl (Runs.move rfl) ?_
       refine D.split (d := 87) rfl (fun g87 => ?_) (fun g87 => ?_)
       ·exact absurd rfl g87
       ·refine D.ro 16 rfl (Runs.fieldAddr fld24_1 rfl) ?_
        refine D.ro 17 rfl (Runs.ld ty3) ?_
        refine D.ro 18 rfl (Runs.fieldAddr fld24_1 rfl) ?_
        refine D.ro 19 rfl (Runs.ld ty3) ?_
        refine D.ro 20 rfl (Runs.neq rfl rfl) ?_
        refine D.r 21 rfl (Runs.pickf rfl rfl) ?_
        refine D.r 22 rfl (Runs.move rfl) ?_
        refine D.split (d := 94) rfl (fun g94 => ?_) (fun g94 => ?_)
        ·exact absurd hu.1 g94
        ·refine D.ro 23 rfl (Runs.fieldAddr fld24_2 rfl) ?_
         refine D.ro 24 rfl (Runs.ld ty22) ?_
         refine D.ro 25 rfl (Runs.fieldAddr fld24_2 rfl) ?_
         refine D.ro 26 rfl (Runs.ld ty22) ?_
         refine D.step (rs := [27]) (by kernel_rfl) rfl rfl (all1 ?_)
         refine Step.eff rfl (Wanted.on rfl rfl rfl) (Eff.call call36 rfl rfl (Same_ok Sl.o Sl.o)) ?_
         rintro _ _ ⟨_, _, ⟨rfl, rfl⟩, rfl, rfl⟩
         refine ⟨Fit.m, ?_⟩
         refine D.ro 28 rfl (Runs.notd rfl) ?_
         refine D.r 29 rfl (Runs.pickf rfl rfl) ?_
         refine D.r 30 rfl (Runs.move rfl) ?_
         refine D.split (d := 102) rfl (fun g102 => ?_) (fun g102 => ?_)
         ·exact absurd hu.2 g102
         ·refine D.ro 31 rfl (Runs.move rfl) ?_
          refine D.ro 32 rfl (Runs.move rfl) ?_
          refine D.step (rs := [33]) (by kernel_rfl) rfl rfl (all1 ?_)
          refine Step.eff rfl (Wanted.on rfl rfl rfl) (Eff.call call36 rfl rfl (Same_ok Sl.o Sl.o)) ?_
          rintro _ _ ⟨_, _, ⟨rfl, rfl⟩, rfl, rfl⟩
          refine ⟨Fit.m, ?_⟩
          refine D.ro 34 rfl (Runs.notd rfl) ?_
          refine D.r 35 rfl (Runs.pickf rfl rfl) ?_
          refine D.done (by kernel_rfl) ?_
          refine V.then ?_
          refine W.sub (L' := [(107, _), (12, _), (11, _), (10, _), (1, _), (7, _), (43, _), (44, _), (45, _)]) (Sub.cons rfl (Sub.cons rfl (Sub.cons rfl (Sub.cons rfl (Sub.cons rfl (Sub.cons rfl (Sub.cons rfl (Sub.cons rfl (Sub.cons rfl Sub.nil))))))))) ?_
          refine W.ite rfl (fun c107 => ?_) (fun c107 => ?_)
          ·exact absurd hg c107
          ·refine W.skip ?_
           refine V.then ?_
           refine W.cut (σ := Nat) (fun s => ([(1, .slice sa rs.length sc), (7, .pointer (some ⟨dk2, 0, none⟩)), (10, .pointer (some ⟨b12, 0, none⟩)), (43, .slice ad11 3 3), (44, I64 (((3 : Nat) : Int))), (45, I64 (((k : Nat) : Int)))] : Env)) (fun s => vc 3 (.slice ad32 gr34.length cp33) (gr34) :: vc 3 (.slice ad29 gr31.length cp30) (gr31) :: blk b28 [.slice ad21 f23.length cp22, I64 (vl27), .slice ad24 sd26.length cp25] 24 :: vc 3 (.slice ad24 sd26.length cp25) (sd26) :: vc 3 (.slice ad21 f23.length cp22) (f23) :: blk b20 [.slice ad13 f15.length cp14, I64 (vl19), .slice ad16 sd18.length cp17] 24 :: vc 3 (.slice ad16 sd18.length cp17) (sd18) :: vc 3 (.slice ad13 f15.length cp14) (f15) :: blk b12 [I64 ((at_ X ((k : Nat) : Int)).net.nodes), I64 ((at_ X ((k : Nat) : Int)).net.source), I64 ((at_ X ((k : Nat) : Int)).net.sink), .slice (at_ X ((k : Nat) : Int)).a (at_ X ((k : Nat) : Int)).net.arcs.length (at_ X ((k : Nat) : Int)).c] 30 :: vc 30 (.slice ad11 3 3) (X) :: vc 43 (.slice ad8 m7.arcs.length cp9) (m7.arcs) :: blk b6 [I64 (n.nodes), I64 (n.source), I64 (n.sink), .slice ad4 n.arcs.length cp5] 30 :: vc 43 (.slice ad4 n.arcs.length cp5) (n.arcs) :: blk dk2 [.slice la ln lc, I64 (i6)] 129 :: blk b1 [I64 (rn.nodes), I64 (rn.source), I64 (rn.sink), .slice ra rn.arcs.length rc] 30 :: I) (fun s => True) ?_ ?_
           ·refine W.sr ?_
            refine G.r (Runs.move rfl) ?_
            refine G.r (Runs.eql rfl rfl) ?_
            refine G.r (Runs.move rfl) ?_
            refine G.split (d := 110) rfl (fun g110 => ?_) (fun g110 => ?_)
            ·refine G.ro (Runs.lds (vs := [_, _, _, _]) ty30) ?_
             refine G.ro (Runs.lds (vs := [_, _, _]) ty24) ?_
             refine G.eff (Wanted.on rfl rfl rfl) (Eff.call call29 rfl rfl (RProves_ok (n := (at_ X ((k : Nat) : Int)).net) (Sl.fit (hheld ((k : Nat) : Int) (by omega) (by omega)) Fit.sub) Sl.o Sl.o)) ?_
             rintro _ _ ⟨_, _, ⟨rfl, rfl⟩, rfl, rfl⟩
             refine G.ro (Runs.neq rfl rfl) ?_
             refine G.r (Runs.pickt rfl rfl) ?_
             refine G.nt ?_
             refine W.sub (L' := [(115, _), (10, _), (1, _), (7, _), (43, _), (44, _), (45, _)]) (Sub.cons rfl (Sub.cons rfl (Sub.cons rfl (Sub.cons rfl (Sub.cons rfl (Sub.cons rfl (Sub.cons rfl Sub.nil))))))) ?_
             refine W.ite rfl (fun c115 => ?_) (fun c115 => ?_)
             ·exact absurd (hf15.proof g110) c115
             ·refine W.skip ?_
              exact V.mid ((0)) (show True from trivial) (Sub.cons rfl (Sub.cons rfl (Sub.cons rfl (Sub.cons rfl (Sub.cons rfl (Sub.cons rfl Sub.nil)))))) (show Fit κ _ (vc 3 (.slice ad32 gr34.length cp33) (gr34) :: vc 3 (.slice ad29 gr31.length cp30) (gr31) :: blk b28 [.slice ad21 f23.length cp22, I64 (vl27), .slice ad24 sd26.length cp25] 24 :: vc 3 (.slice ad24 sd26.length cp25) (sd26) :: vc 3 (.slice ad21 f23.length cp22) (f23) :: blk b20 [.slice ad13 f15.length cp14, I64 (vl19), .slice ad16 sd18.length cp17] 24 :: vc 3 (.slice ad16 sd18.length cp17) (sd18) :: vc 3 (.slice ad13 f15.length cp14) (f15) :: blk b12 [I64 ((at_ X ((k : Nat) : Int)).net.nodes), I64 ((at_ X ((k : Nat) : Int)).net.source), I64 ((at_ X ((k : Nat) : Int)).net.sink), .slice (at_ X ((k : Nat) : Int)).a (at_ X ((k : Nat) : Int)).net.arcs.length (at_ X ((k : Nat) : Int)).c] 30 :: vc 30 (.slice ad11 3 3) (X) :: vc 43 (.slice ad8 m7.arcs.length cp9) (m7.arcs) :: blk b6 [I64 (n.nodes), I64 (n.source), I64 (n.sink), .slice ad4 n.arcs.length cp5] 30 :: vc 43 (.slice ad4 n.arcs.length cp5) (n.arcs) :: blk dk2 [.slice la ln lc, I64 (i6)] 129 :: blk b1 [I64 (rn.nodes), I64 (rn.source), I64 (rn.sink), .slice ra rn.arcs.length rc] 30 :: I) from Fit.s)
            ·refine G.po ?_
             refine G.po ?_
             refine G.po ?_
             refine G.po ?_
             refine G.r (Runs.pickf rfl rfl) ?_
             refine G.nt ?_
             refine W.sub (L' := [(115, _), (10, _), (1, _), (7, _), (43, _), (44, _), (45, _)]) (Sub.cons rfl (Sub.cons rfl (Sub.cons rfl (Sub.cons rfl (Sub.cons rfl (Sub.cons rfl (Sub.cons rfl Sub.nil))))))) ?_
             refine W.no rfl ?_
             refine W.skip ?_
             exact V.mid ((0)) (show True from trivial) (Sub.cons rfl (Sub.cons rfl (Sub.cons rfl (Sub.cons rfl (Sub.cons rfl (Sub.cons rfl Sub.nil)))))) (show Fit κ _ (vc 3 (.slice ad32 gr34.length cp33) (gr34) :: vc 3 (.slice ad29 gr31.length cp30) (gr31) :: blk b28 [.slice ad21 f23.length cp22, I64 (vl27), .slice ad24 sd26.length cp25] 24 :: vc 3 (.slice ad24 sd26.length cp25) (sd26) :: vc 3 (.slice ad21 f23.length cp22) (f23) :: blk b20 [.slice ad13 f15.length cp14, I64 (vl19), .slice ad16 sd18.length cp17] 24 :: vc 3 (.slice ad16 sd18.length cp17) (sd18) :: vc 3 (.slice ad13 f15.length cp14) (f15) :: blk b12 [I64 ((at_ X ((k : Nat) : Int)).net.nodes), I64 ((at_ X ((k : Nat) : Int)).net.source), I64 ((at_ X ((k : Nat) : Int)).net.sink), .slice (at_ X ((k : Nat) : Int)).a (at_ X ((k : Nat) : Int)).net.arcs.length (at_ X ((k : Nat) : Int)).c] 30 :: vc 30 (.slice ad11 3 3) (X) :: vc 43 (.slice ad8 m7.arcs.length cp9) (m7.arcs) :: blk b6 [I64 (n.nodes), I64 (n.source), I64 (n.sink), .slice ad4 n.arcs.length cp5] 30 :: vc 43 (.slice ad4 n.arcs.length cp5) (n.arcs) :: blk dk2 [.slice la ln lc, I64 (i6)] 129 :: blk b1 [I64 (rn.nodes), I64 (rn.source), I64 (rn.sink), .slice ra rn.arcs.length rc] 30 :: I) from Fit.s)
           ·rintro z hp
            show W Try.prog κ 152 _ _ ([(1, .slice sa rs.length sc), (7, .pointer (some ⟨dk2, 0, none⟩)), (10, .pointer (some ⟨b12, 0, none⟩)), (43, .slice ad11 3 3), (44, I64 (((3 : Nat) : Int))), (45, I64 (((k : Nat) : Int)))] : Env) (vc 3 (.slice ad32 gr34.length cp33) (gr34) :: vc 3 (.slice ad29 gr31.length cp30) (gr31) :: blk b28 [.slice ad21 f23.length cp22, I64 (vl27), .slice ad24 sd26.length cp25] 24 :: vc 3 (.slice ad24 sd26.length cp25) (sd26) :: vc 3 (.slice ad21 f23.length cp22) (f23) :: blk b20 [.slice ad13 f15.length cp14, I64 (vl19), .slice ad16 sd18.length cp17] 24 :: vc 3 (.slice ad16 sd18.length cp17) (sd18) :: vc 3 (.slice ad13 f15.length cp14) (f15) :: blk b12 [I64 ((at_ X ((k : Nat) : Int)).net.nodes), I64 ((at_ X ((k : Nat) : Int)).net.source), I64 ((at_ X ((k : Nat) : Int)).net.sink), .slice (at_ X ((k : Nat) : Int)).a (at_ X ((k : Nat) : Int)).net.arcs.length (at_ X ((k : Nat) : Int)).c] 30 :: vc 30 (.slice ad11 3 3) (X) :: vc 43 (.slice ad8 m7.arcs.length cp9) (m7.arcs) :: blk b6 [I64 (n.nodes), I64 (n.source), I64 (n.sink), .slice ad4 n.arcs.length cp5] 30 :: vc 43 (.slice ad4 n.arcs.length cp5) (n.arcs) :: blk dk2 [.slice la ln lc, I64 (i6)] 129 :: blk b1 [I64 (rn.nodes), I64 (rn.source), I64 (rn.sink), .slice ra rn.arcs.length rc] 30 :: I)
            refine W.sr ?_
            refine G.r (Runs.move rfl) ?_
            refine G.r (Runs.move rfl) ?_
            refine G.r (Runs.fieldAddr fld30_0 rfl) ?_
            refine G.r (Runs.ld ty3) ?_
            refine G.r (Runs.min rfl rfl) ?_
            refine G.r (Runs.max rfl rfl) ?_
            have hmx : (if 0 < (if ((at_ X ((k : Nat) : Int)).net.nodes) < 9 then ((at_ X ((k : Nat) : Int)).net.nodes) else 9) then (if ((at_ X ((k : Nat) : Int)).net.nodes) < 9 then ((at_ X ((k : Nat) : Int)).net.nodes) else 9) else 0) ≤ 9 := by split <;> (try split) <;> omega
            refine G.e (Eff.call call26 rfl rfl (Set_at (by repeat (first | exact AtF.head _ _ | apply AtF.tail)) (fun _ => Sl.fit hl Fit.m) (by omega) (by omega))) ?_
            rintro _ _ ⟨_, _, ⟨ad36, cp37, o38, i35, rfl, ho38, hlo38, hi35, rfl⟩, rfl, rfl⟩
            show G Try.prog κ _ _ _ _ ([(122, .slice ad36 o38.length cp37), (121, I64 (if 0 < (if ((at_ X ((k : Nat) : Int)).net.nodes) < 9 then ((at_ X ((k : Nat) : Int)).net.nodes) else 9) then (if ((at_ X ((k : Nat) : Int)).net.nodes) < 9 then ((at_ X ((k : Nat) : Int)).net.nodes) else 9) else 0)), (120, I64 (if ((at_ X ((k : Nat) : Int)).net.nodes) < 9 then ((at_ X ((k : Nat) : Int)).net.nodes) else 9)), (119, I64 ((at_ X ((k : Nat) : Int)).net.nodes)), (118, .pointer (some ⟨b12, 0, none⟩)), (117, .pointer (some ⟨dk2, 0, none⟩)), (116, .slice sa rs.length sc), (1, .slice sa rs.length sc), (7, .pointer (some ⟨dk2, 0, none⟩)), (10, .pointer (some ⟨b12, 0, none⟩)), (43, .slice ad11 3 3), (44, I64 (((3 : Nat) : Int))), (45, I64 (((k : Nat) : Int)))] : Env) (vc 3 (.slice ad36 o38.length cp37) (o38) :: vc 3 (.slice ad32 gr34.length cp33) (gr34) :: vc 3 (.slice ad29 gr31.length cp30) (gr31) :: blk b28 [.slice ad21 f23.length cp22, I64 (vl27), .slice ad24 sd26.length cp25] 24 :: vc 3 (.slice ad24 sd26.length cp25) (sd26) :: vc 3 (.slice ad21 f23.length cp22) (f23) :: blk b20 [.slice ad13 f15.length cp14, I64 (vl19), .slice ad16 sd18.length cp17] 24 :: vc 3 (.slice ad16 sd18.length cp17) (sd18) :: vc 3 (.slice ad13 f15.length cp14) (f15) :: blk b12 [I64 ((at_ X ((k : Nat) : Int)).net.nodes), I64 ((at_ X ((k : Nat) : Int)).net.source), I64 ((at_ X ((k : Nat) : Int)).net.sink), .slice (at_ X ((k : Nat) : Int)).a (at_ X ((k : Nat) : Int)).net.arcs.length (at_ X ((k : Nat) : Int)).c] 30 :: vc 30 (.slice ad11 3 3) (X) :: vc 43 (.slice ad8 m7.arcs.length cp9) (m7.arcs) :: blk b6 [I64 (n.nodes), I64 (n.source), I64 (n.sink), .slice ad4 n.arcs.length cp5] 30 :: vc 43 (.slice ad4 n.arcs.length cp5) (n.arcs) :: blk dk2 [.slice la ln lc, I64 (i35)] 129 :: blk b1 [I64 (rn.nodes), I64 (rn.source), I64 (rn.sink), .slice ra rn.arcs.length rc] 30 :: I)
            refine G.e (Eff.bs (α := Row) (cs := [.slice sa rs.length sc, .slice ad36 o38.length cp37]) (xs := [⟨sa, sc, rs⟩, ⟨ad36, cp37, o38⟩]) Try.underlying50 ty22 rfl rfl (by decide) (by decide) rfl (by kernel_rfl) rfl rfl) ?_
            rintro _ _ ⟨ad39, rfl, rfl⟩
            generalize hY : ([⟨sa, sc, rs⟩, ⟨ad36, cp37, o38⟩] : List Row) = Y
            have hYl : Y.length = 2 := by rw [← hY]; rfl
            have hheld2 : ∀ i : Int, 0 ≤ i → i < 2 → Row.Held κ (vc 3 (.slice ad36 o38.length cp37) (o38) :: I) (at_ Y i) := by rw [← hY]; exact rheld2 (show Row.Held _ _ _ from Sl.fit hrs Fit.m) (show Row.Held _ _ _ from Sl.vec (by repeat (first | exact List.mem_cons_self | apply List.mem_cons_of_mem)))
            refine G.r (Runs.lens Try.underlying50 rfl) ?_
            refine G.r (Runs.move rfl) ?_
            refine G.nt ?_
            refine W.sub (L' := [(125, _), (124, _), (123, _), (1, _), (7, _), (10, _), (43, _), (44, _), (45, _)]) (Sub.cons rfl (Sub.cons rfl (Sub.cons rfl (Sub.cons rfl (Sub.cons rfl (Sub.cons rfl (Sub.cons rfl (Sub.cons rfl (Sub.cons rfl Sub.nil))))))))) ?_
            refine W.block ?_
            refine W.loop (σ := Nat) (fun s => ([(1, .slice sa rs.length sc), (7, .pointer (some ⟨dk2, 0, none⟩)), (10, .pointer (some ⟨b12, 0, none⟩)), (43, .slice ad11 3 3), (44, I64 (((3 : Nat) : Int))), (45, I64 (((k : Nat) : Int))), (123, .slice ad39 2 2), (124, I64 (((2 : Nat) : Int))), (125, I64 (((s : Nat) : Int)))] : Env)) (fun s => vc 22 (.slice ad39 2 2) (Y) :: vc 3 (.slice ad36 o38.length cp37) (o38) :: vc 3 (.slice ad32 gr34.length cp33) (gr34) :: vc 3 (.slice ad29 gr31.length cp30) (gr31) :: blk b28 [.slice ad21 f23.length cp22, I64 (vl27), .slice ad24 sd26.length cp25] 24 :: vc 3 (.slice ad24 sd26.length cp25) (sd26) :: vc 3 (.slice ad21 f23.length cp22) (f23) :: blk b20 [.slice ad13 f15.length cp14, I64 (vl19), .slice ad16 sd18.length cp17] 24 :: vc 3 (.slice ad16 sd18.length cp17) (sd18) :: vc 3 (.slice ad13 f15.length cp14) (f15) :: blk b12 [I64 ((at_ X ((k : Nat) : Int)).net.nodes), I64 ((at_ X ((k : Nat) : Int)).net.source), I64 ((at_ X ((k : Nat) : Int)).net.sink), .slice (at_ X ((k : Nat) : Int)).a (at_ X ((k : Nat) : Int)).net.arcs.length (at_ X ((k : Nat) : Int)).c] 30 :: vc 30 (.slice ad11 3 3) (X) :: vc 43 (.slice ad8 m7.arcs.length cp9) (m7.arcs) :: blk b6 [I64 (n.nodes), I64 (n.source), I64 (n.sink), .slice ad4 n.arcs.length cp5] 30 :: vc 43 (.slice ad4 n.arcs.length cp5) (n.arcs) :: blk dk2 [.slice la ln lc, I64 (i35)] 129 :: blk b1 [I64 (rn.nodes), I64 (rn.source), I64 (rn.sink), .slice ra rn.arcs.length rc] 30 :: I) (fun s => (s ≤ 2)) (fun s => 2 - s) (0) (show ((0 : Nat) ≤ 2) from (by omega)) (Sub.cons rfl (Sub.cons rfl (Sub.cons rfl (Sub.cons rfl (Sub.cons rfl (Sub.cons rfl (Sub.cons rfl (Sub.cons rfl (Sub.cons lookO Sub.nil))))))))) (show Fit κ _ (vc 22 (.slice ad39 2 2) (Y) :: vc 3 (.slice ad36 o38.length cp37) (o38) :: vc 3 (.slice ad32 gr34.length cp33) (gr34) :: vc 3 (.slice ad29 gr31.length cp30) (gr31) :: blk b28 [.slice ad21 f23.length cp22, I64 (vl27), .slice ad24 sd26.length cp25] 24 :: vc 3 (.slice ad24 sd26.length cp25) (sd26) :: vc 3 (.slice ad21 f23.length cp22) (f23) :: blk b20 [.slice ad13 f15.length cp14, I64 (vl19), .slice ad16 sd18.length cp17] 24 :: vc 3 (.slice ad16 sd18.length cp17) (sd18) :: vc 3 (.slice ad13 f15.length cp14) (f15) :: blk b12 [I64 ((at_ X ((k : Nat) : Int)).net.nodes), I64 ((at_ X ((k : Nat) : Int)).net.source), I64 ((at_ X ((k : Nat) : Int)).net.sink), .slice (at_ X ((k : Nat) : Int)).a (at_ X ((k : Nat) : Int)).net.arcs.length (at_ X ((k : Nat) : Int)).c] 30 :: vc 30 (.slice ad11 3 3) (X) :: vc 43 (.slice ad8 m7.arcs.length cp9) (m7.arcs) :: blk b6 [I64 (n.nodes), I64 (n.source), I64 (n.sink), .slice ad4 n.arcs.length cp5] 30 :: vc 43 (.slice ad4 n.arcs.length cp5) (n.arcs) :: blk dk2 [.slice la ln lc, I64 (i35)] 129 :: blk b1 [I64 (rn.nodes), I64 (rn.source), I64 (rn.sink), .slice ra rn.arcs.length rc] 30 :: I) from Fit.sub) ?_
            rintro k2 hp
            have hk2 : (k2 ≤ 2) := hp
            show W Try.prog κ 152 _ _ ([(1, .slice sa rs.length sc), (7, .pointer (some ⟨dk2, 0, none⟩)), (10, .pointer (some ⟨b12, 0, none⟩)), (43, .slice ad11 3 3), (44, I64 (((3 : Nat) : Int))), (45, I64 (((k : Nat) : Int))), (123, .slice ad39 2 2), (124, I64 (((2 : Nat) : Int))), (125, I64 (((k2 : Nat) : Int)))] : Env) (vc 22 (.slice ad39 2 2) (Y) :: vc 3 (.slice ad36 o38.length cp37) (o38) :: vc 3 (.slice ad32 gr34.length cp33) (gr34) :: vc 3 (.slice ad29 gr31.length cp30) (gr31) :: blk b28 [.slice ad21 f23.length cp22, I64 (vl27), .slice ad24 sd26.length cp25] 24 :: vc 3 (.slice ad24 sd26.length cp25) (sd26) :: vc 3 (.slice ad21 f23.length cp22) (f23) :: blk b20 [.slice ad13 f15.length cp14, I64 (vl19), .slice ad16 sd18.length cp17] 24 :: vc 3 (.slice ad16 sd18.length cp17) (sd18) :: vc 3 (.slice ad13 f15.length cp14) (f15) :: blk b12 [I64 ((at_ X ((k : Nat) : Int)).net.nodes), I64 ((at_ X ((k : Nat) : Int)).net.source), I64 ((at_ X ((k : Nat) : Int)).net.sink), .slice (at_ X ((k : Nat) : Int)).a (at_ X ((k : Nat) : Int)).net.arcs.length (at_ X ((k : Nat) : Int)).c] 30 :: vc 30 (.slice ad11 3 3) (X) :: vc 43 (.slice ad8 m7.arcs.length cp9) (m7.arcs) :: blk b6 [I64 (n.nodes), I64 (n.source), I64 (n.sink), .slice ad4 n.arcs.length cp5] 30 :: vc 43 (.slice ad4 n.arcs.length cp5) (n.arcs) :: blk dk2 [.slice la ln lc, I64 (i35)] 129 :: blk b1 [I64 (rn.nodes), I64 (rn.source), I64 (rn.sink), .slice ra rn.arcs.length rc] 30 :: I)
            refine W.sr ?_
            refine G.r (Runs.lss rfl rfl) ?_
            refine G.nt ?_
            refine W.seq ?_
            refine W.ite rfl (fun c126 => ?_) (fun c126 => ?_)
            ·refine W.skip ?_
             refine V.then ?_
             refine W.seq ?_
             refine W.block ?_
             refine W.sr ?_
             refine G.r (Runs.idx (α := Row) (xs := Y) Try.underlying50 ty22 rfl rfl Sl.o (by omega) (by omega)) ?_
             refine G.r (Runs.getf0 (α := Row) (xs := Y) (u := .slice (at_ Y ((k2 : Nat) : Int)).a (at_ Y ((k2 : Nat) : Int)).xs.length (at_ Y ((k2 : Nat) : Int)).c) ty22 rfl Sl.o (by omega) (by omega) rfl) ?_
             refine G.r (Runs.assign rfl) ?_
             refine G.nt ?_
             refine W.sr ?_
             refine G.r (Runs.lds (vs := [_, _, _, _]) ty30) ?_
             refine G.r (Runs.move rfl) ?_
             refine G.e (Eff.call call37 rfl rfl (FOut_ok (n := (at_ X ((k : Nat) : Int)).net) (Sl.fit (hheld ((k : Nat) : Int) (by omega) (by omega)) Fit.sub) (Sl.fit (hheld2 ((k2 : Nat) : Int) (by omega) (by omega)) Fit.sub))) ?_
             rintro _ _ ⟨_, _, ⟨rfl, rfl⟩, rfl, rfl⟩
             refine G.r (Runs.move rfl) ?_
             refine G.r (Runs.extract rfl rfl) ?_
             refine G.r (Runs.extract rfl rfl) ?_
             refine G.r (Runs.assign rfl) ?_
             refine G.r (Runs.assign rfl) ?_
             refine G.nt ?_
             refine W.sub (L' := [(22, _), (21, _), (20, _), (1, _), (7, _), (10, _), (43, _), (44, _), (45, _), (123, _), (124, _), (125, _)]) (Sub.cons rfl (Sub.cons rfl (Sub.cons rfl (Sub.cons rfl (Sub.cons rfl (Sub.cons rfl (Sub.cons rfl (Sub.cons rfl (Sub.cons rfl (Sub.cons rfl (Sub.cons rfl (Sub.cons rfl Sub.nil)))))))))))) ?_
             refine W.sr ?_
             refine G.r (Runs.lds (vs := [_, _, _, _]) ty30) ?_
             refine G.r (Runs.move rfl) ?_
             refine G.e (Eff.call call38 rfl rfl (ROut_ok (n := (at_ X ((k : Nat) : Int)).net) (Sl.fit (hheld ((k : Nat) : Int) (by omega) (by omega)) Fit.sub) (Sl.fit (hheld2 ((k2 : Nat) : Int) (by omega) (by omega)) Fit.sub))) ?_
             rintro _ _ ⟨_, _, ⟨rfl, rfl⟩, rfl, rfl⟩
             refine G.r (Runs.move rfl) ?_
             refine G.r (Runs.extract rfl rfl) ?_
             refine G.r (Runs.extract rfl rfl) ?_
             refine G.r (Runs.assign rfl) ?_
             refine G.r (Runs.assign rfl) ?_
             refine G.nt ?_
             refine W.sub (L' := [(24, _), (23, _), (22, _), (21, _), (1, _), (7, _), (10, _), (43, _), (44, _), (45, _), (123, _), (124, _), (125, _)]) (Sub.cons rfl (Sub.cons rfl (Sub.cons rfl (Sub.cons rfl (Sub.cons rfl (Sub.cons rfl (Sub.cons rfl (Sub.cons rfl (Sub.cons rfl (Sub.cons rfl (Sub.cons rfl (Sub.cons rfl (Sub.cons rfl Sub.nil))))))))))))) ?_
             refine W.sr ?_
             refine G.r (Runs.move rfl) ?_
             refine G.r (Runs.move rfl) ?_
             refine G.r (Runs.neq rfl rfl) ?_
             refine G.r (Runs.move rfl) ?_
             refine G.split (d := 144) rfl (fun g144 => ?_) (fun g144 => ?_)
             ·exact absurd rfl g144
             ·refine G.ro (Runs.move rfl) ?_
              refine G.ro (Runs.move rfl) ?_
              refine G.ro (Runs.neq rfl rfl) ?_
              refine G.r (Runs.pickf rfl rfl) ?_
              refine G.nt ?_
              refine W.sub (L' := [(148, _), (1, _), (7, _), (10, _), (43, _), (44, _), (45, _), (123, _), (124, _), (125, _)]) (Sub.cons rfl (Sub.cons rfl (Sub.cons rfl (Sub.cons rfl (Sub.cons rfl (Sub.cons rfl (Sub.cons rfl (Sub.cons rfl (Sub.cons rfl (Sub.cons rfl Sub.nil)))))))))) ?_
              refine W.ite rfl (fun c148 => ?_) (fun c148 => ?_)
              ·exact absurd rfl c148
              ·refine W.skip ?_
               refine V.block_normal ?_
               refine V.then ?_
               refine W.region ?_
               refine G.r (Runs.add rfl rfl (by unfold InR; omega)) ?_
               refine G.r (Runs.move rfl) ?_
               refine G.nil ?_
               exact V.next ((k2 + 1)) (show ((k2 + 1 : Nat) ≤ 2) from (by omega)) (show 2 - (k2 + 1 : Nat) < 2 - k2 from (by omega)) (Sub.cons rfl (Sub.cons rfl (Sub.cons rfl (Sub.cons rfl (Sub.cons rfl (Sub.cons rfl (Sub.cons rfl (Sub.cons rfl (Sub.cons lookO Sub.nil))))))))) (show Fit κ _ (vc 22 (.slice ad39 2 2) (Y) :: vc 3 (.slice ad36 o38.length cp37) (o38) :: vc 3 (.slice ad32 gr34.length cp33) (gr34) :: vc 3 (.slice ad29 gr31.length cp30) (gr31) :: blk b28 [.slice ad21 f23.length cp22, I64 (vl27), .slice ad24 sd26.length cp25] 24 :: vc 3 (.slice ad24 sd26.length cp25) (sd26) :: vc 3 (.slice ad21 f23.length cp22) (f23) :: blk b20 [.slice ad13 f15.length cp14, I64 (vl19), .slice ad16 sd18.length cp17] 24 :: vc 3 (.slice ad16 sd18.length cp17) (sd18) :: vc 3 (.slice ad13 f15.length cp14) (f15) :: blk b12 [I64 ((at_ X ((k : Nat) : Int)).net.nodes), I64 ((at_ X ((k : Nat) : Int)).net.source), I64 ((at_ X ((k : Nat) : Int)).net.sink), .slice (at_ X ((k : Nat) : Int)).a (at_ X ((k : Nat) : Int)).net.arcs.length (at_ X ((k : Nat) : Int)).c] 30 :: vc 30 (.slice ad11 3 3) (X) :: vc 43 (.slice ad8 m7.arcs.length cp9) (m7.arcs) :: blk b6 [I64 (n.nodes), I64 (n.source), I64 (n.sink), .slice ad4 n.arcs.length cp5] 30 :: vc 43 (.slice ad4 n.arcs.length cp5) (n.arcs) :: blk dk2 [.slice la ln lc, I64 (i35)] 129 :: blk b1 [I64 (rn.nodes), I64 (rn.source), I64 (rn.sink), .slice ra rn.arcs.length rc] 30 :: I) from Fit.sub)
            ·refine W.exit ?_
             refine V.then_exit ?_
             refine V.then_exit ?_
             refine V.block_hit ?_
             refine V.block_normal ?_
             refine V.then ?_
             refine W.region ?_
             refine G.r (Runs.add rfl rfl (by unfold InR; omega)) ?_
             refine G.r (Runs.move rfl) ?_
             refine G.nil ?_
             exact V.next ((k + 1), (i35)) (show ((k + 1 : Nat) ≤ 3) ∧ (0 ≤ (i35 : Int)) from ⟨(by omega), (by omega)⟩) (show 3 - (k + 1 : Nat) < 3 - k from (by omega)) (Sub.cons rfl (Sub.cons rfl (Sub.cons rfl (Sub.cons rfl (Sub.cons lookO Sub.nil))))) (show Fit κ _ (vc 30 (.slice ad11 3 3) (X) :: vc 43 (.slice ad8 m7.arcs.length cp9) (m7.arcs) :: blk b6 [I64 (n.nodes), I64 (n.source), I64 (n.sink), .slice ad4 n.arcs.length cp5] 30 :: vc 43 (.slice ad4 n.arcs.length cp5) (n.arcs) :: blk dk2 [.slice la ln lc, I64 ((i35))] 129 :: blk b1 [I64 (rn.nodes), I64 (rn.source), I64 (rn.sink), .slice ra rn.arcs.length rc] 30 :: I) from Fit.sub)
   ·refine W.exit ?_
    refine V.then_exit ?_
    refine V.then_exit ?_
    refine V.block_hit ?_
    refine V.then ?_
    refine W.sr ?_
    refine G.e (Eff.call call21 rfl rfl Awake_ok) ?_
    rintro _ _ ⟨_, _, ⟨rfl, rfl⟩, rfl, rfl⟩
    refine G.r (Runs.assign rfl) ?_
    refine G.nt ?_
    refine W.ret ?_
    exact V.ret1 rfl rfl (I) Fit.m ⟨rfl, rfl⟩

end Go.Sl
