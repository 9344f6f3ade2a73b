/- A part of the proofs of statements of this seat: contracts of functions, and the plain laws that they lean on. No conditions. -/
import Derived.Test.YtbimaodbcjjbfaaGreatDoorGraphL5
import Derived.Test.YtbimaodbcjjbfaaGreatDoorRunsY
namespace Go.Sl
open Go.Proofs
set_option linter.unusedVariables false
set_option linter.unusedSimpArgs false
set_option maxRecDepth 4000
def PB (B : Int) (p : Pt) : Prop := -B ≤ p.u ∧ p.u ≤ B ∧ -B ≤ p.v ∧ p.v ≤ B
def BdE (B : Int) (es : List Pt) : Prop := ∀ p ∈ es, PB B p
theorem BdE.mono {B C : Int} {es : List Pt} (h : BdE B es) (hc : B ≤ C) : BdE C es := fun p hp => by have := h p hp; unfold PB at *; omega
theorem BdE.at {B : Int} {es : List Pt} (h : BdE B es) {i : Int} (h0 : 0 ≤ i) (h1 : i < es.length) : PB B (at_ es i) := h _ (at_mem h0 h1)
theorem BdE.set {B : Int} {es : List Pt} (h : BdE B es) {i : Nat} {x : Pt} (hx : PB B x) : BdE B (es.set i x) := fun p hp => by
  rcases List.mem_or_eq_of_mem_set hp with h1 | h1
  · exact h p h1
  · exact h1 ▸ hx
theorem BdE.snoc {B : Int} {es : List Pt} (h : BdE B es) {x : Pt} (hx : PB B x) : BdE B (es ++ [x]) := fun p hp => by
  rcases List.mem_append.1 hp with h1 | h1
  · exact h p h1
  · rw [List.mem_singleton] at h1; exact h1 ▸ hx
theorem BdE.setu {B : Int} {es : List Pt} (h : BdE B es) {i y : Int} (h0 : 0 ≤ i) (h1 : i < es.length) (hy : -B ≤ y ∧ y ≤ B) : BdE B (es.set i.toNat { at_ es i with u := y }) := h.set (by have := h.at h0 h1; unfold PB at *; simp only; omega)
theorem BdE.setv {B : Int} {es : List Pt} (h : BdE B es) {i y : Int} (h0 : 0 ≤ i) (h1 : i < es.length) (hy : -B ≤ y ∧ y ≤ B) : BdE B (es.set i.toNat { at_ es i with v := y }) := h.set (by have := h.at h0 h1; unfold PB at *; simp only; omega)
theorem GrOk.bde {nd B : Int} {es : List Pt} (h : GrOk nd es) (hB : nd ≤ B) : BdE B es := fun p hp => by have := h.edge p hp; unfold PB; omega

theorem Check03G_ok {κ : Ctx} {I : List Item} {nd : Int} {v : Value} {es : List Pt} (hl : Sl κ I v es) :
    CallS Tryz.prog κ 35 [.agg #[I64 (nd), v]] I (fun r J => r = I64 (checkG nd es) ∧ I = J) := by
 refine CallS.pull hl.le fun hmax => ?_
 refine CallS.enter (L := [(0, .agg #[I64 (nd), v])]) Tryz.func35 rfl rfl rfl rfl ?_
 refine W.sr ?_
 refine G.e (Eff.box (cs := [_, _]) rfl rfl rfl) ?_
 rintro _ _ ⟨b1, rfl, rfl⟩
 refine G.r (Runs.assign rfl) ?_
 refine G.nt ?_
 refine W.seq ?_
 refine W.sr ?_
 refine G.r (Runs.fieldAddr fld28_0 rfl) ?_
 refine G.r (Runs.ld ty3) ?_
 refine G.r (Runs.lss rfl rfl) ?_
 refine G.r (Runs.move rfl) ?_
 refine G.split (d := 8) rfl (fun g8 => ?_) (fun g8 => ?_)
 ·refine G.po ?_
  refine G.po ?_
  refine G.po ?_
  refine G.r (Runs.pickt rfl rfl) ?_
  refine G.nt ?_
  refine W.yes rfl ?_
  refine W.sr ?_
  refine G.r (Runs.assign rfl) ?_
  refine G.nt ?_
  refine W.ret ?_
  refine V.then_ret ?_
  exact V.ret1 rfl rfl (I) Fit.m ⟨by rw [show checkG nd es = 1 from (by unfold checkG; rw [if_pos (by omega)])], rfl⟩
 ·refine G.ro (Runs.fieldAddr fld28_0 rfl) ?_
  refine G.ro (Runs.ld ty3) ?_
  refine G.ro (Runs.gtr rfl rfl) ?_
  refine G.r (Runs.pickf rfl rfl) ?_
  refine G.nt ?_
  refine W.ite rfl (fun c12 => ?_) (fun c12 => ?_)
  ·refine W.sr ?_
   refine G.r (Runs.assign rfl) ?_
   refine G.nt ?_
   refine W.ret ?_
   refine V.then_ret ?_
   exact V.ret1 rfl rfl (I) Fit.m ⟨by rw [show checkG nd es = 1 from (by unfold checkG; rw [if_pos (by omega)])], rfl⟩
  ·refine W.skip ?_
   refine V.then ?_
   refine W.seq ?_
   refine W.sr ?_
   refine G.r (Runs.fieldAddr fld28_1 rfl) ?_
   refine G.r (Runs.ld ty26) ?_
   refine G.r (Runs.lenT (α := Pt) (xs := es) Tryz.underlying26 rfl (Sl.f hl)) ?_
   refine G.r (Runs.move rfl) ?_
   refine G.nt ?_
   refine W.sub (L' := [(16, _), (15, _), (14, _), (1, _)]) (Sub.cons rfl (Sub.cons rfl (Sub.cons rfl (Sub.cons rfl Sub.nil)))) ?_
   refine W.block ?_
   refine W.loop (σ := Nat) (fun s => ([(1, .pointer (some ⟨b1, 0, none⟩)), (14, v), (15, I64 (((es.length : Nat) : Int))), (16, I64 (((s : Nat) : Int)))] : Env)) (fun s => blk b1 [I64 (nd), v] 28 :: I) (fun s => (s ≤ es.length) ∧ (checkG nd es = scanL (badE nd) Pt.lt (prevAt es s) (es.drop s))) (fun s => es.length - s) (0) (show ((0 : Nat) ≤ es.length) ∧ (checkG nd es = scanL (badE nd) Pt.lt (prevAt es (0 : Nat)) (es.drop (0 : Nat))) from ⟨(by omega), (by unfold checkG; rw [if_neg (by omega)]; rfl)⟩) (Sub.cons rfl (Sub.cons rfl (Sub.cons rfl (Sub.cons lookO Sub.nil)))) (show Fit κ _ (blk b1 [I64 (nd), v] 28 :: I) from Fit.sub) ?_
   rintro k hp
   obtain ⟨hk, hs⟩ : (k ≤ es.length) ∧ (checkG nd es = scanL (badE nd) Pt.lt (prevAt es k) (es.drop k)) := hp
   show W Tryz.prog κ 52 _ _ ([(1, .pointer (some ⟨b1, 0, none⟩)), (14, v), (15, I64 (((es.length : Nat) : Int))), (16, I64 (((k : Nat) : Int)))] : Env) (blk b1 [I64 (nd), v] 28 :: I)
   refine W.sr ?_
   refine G.r (Runs.lss rfl rfl) ?_
   refine G.nt ?_
   refine W.seq ?_
   refine W.ite rfl (fun c17 => ?_) (fun c17 => ?_)
   ·refine W.skip ?_
    refine V.then ?_
    refine W.seq ?_
    refine W.block ?_
    refine W.sr ?_
    refine G.r (Runs.move rfl) ?_
    refine G.r (Runs.idx (α := Pt) (xs := es) Tryz.underlying26 ty52 rfl rfl (Sl.f hl) (by omega) (by omega)) ?_
    refine G.r (Runs.gets (α := Pt) (xs := es) ty52 rfl (Sl.f hl) (by omega) (by omega)) ?_
    refine G.e (Eff.alloc ty52 rfl) ?_
    rintro _ _ ⟨b2, rfl, rfl⟩
    refine G.r (Runs.assign rfl) ?_
    refine G.e (Eff.st (cs := [_, _]) (vs := [_, _]) (cs' := [_, _]) ty52) ?_
    rintro _ _ ⟨rfl, rfl⟩
    refine G.nt ?_
    refine W.seq ?_
    refine W.sr ?_
    refine G.r (Runs.fieldAddr fld52_0 rfl) ?_
    refine G.r (Runs.ld ty3) ?_
    refine G.r (Runs.lss rfl rfl) ?_
    refine G.r (Runs.move rfl) ?_
    refine G.split (d := 24) rfl (fun g24 => ?_) (fun g24 => ?_)
    ·refine G.po ?_
     refine G.po ?_
     refine G.po ?_
     refine G.po ?_
     refine G.po ?_
     refine G.r (Runs.pickt rfl rfl) ?_
     refine G.r (Runs.move rfl) ?_
     refine G.po ?_
     refine G.po ?_
     refine G.po ?_
     refine G.po ?_
     refine G.po ?_
     refine G.r (Runs.pickt rfl rfl) ?_
     refine G.nt ?_
     refine W.sub (L' := [(37, _), (3, _), (4, _), (1, _), (14, _), (15, _), (16, _)]) (Sub.cons rfl (Sub.cons rfl (Sub.cons rfl (Sub.cons rfl (Sub.cons rfl (Sub.cons rfl (Sub.cons rfl Sub.nil))))))) ?_
     refine W.yes rfl ?_
     refine W.sr ?_
     refine G.r (Runs.assign rfl) ?_
     refine G.nt ?_
     refine W.ret ?_
     refine V.then_ret ?_
     refine V.block_ret ?_
     refine V.then_ret ?_
     refine V.then_ret ?_
     refine V.block_ret ?_
     refine V.then_ret ?_
     exact V.ret1 rfl rfl (I) Fit.m ⟨by rw [show checkG nd es = 6 from (hs.trans ((scanL_bad (by omega) (by unfold badE; rw [if_pos (by omega)]; decide)).trans (by unfold badE; rw [if_pos (by omega)])))], rfl⟩
    ·refine G.ro (Runs.fieldAddr fld52_0 rfl) ?_
     refine G.ro (Runs.ld ty3) ?_
     refine G.ro (Runs.fieldAddr fld52_1 rfl) ?_
     refine G.ro (Runs.ld ty3) ?_
     refine G.ro (Runs.geq rfl rfl) ?_
     refine G.r (Runs.pickf rfl rfl) ?_
     refine G.r (Runs.move rfl) ?_
     refine G.split (d := 31) rfl (fun g31 => ?_) (fun g31 => ?_)
     ·refine G.po ?_
      refine G.po ?_
      refine G.po ?_
      refine G.po ?_
      refine G.po ?_
      refine G.r (Runs.pickt rfl rfl) ?_
      refine G.nt ?_
      refine W.sub (L' := [(37, _), (3, _), (4, _), (1, _), (14, _), (15, _), (16, _)]) (Sub.cons rfl (Sub.cons rfl (Sub.cons rfl (Sub.cons rfl (Sub.cons rfl (Sub.cons rfl (Sub.cons rfl Sub.nil))))))) ?_
      refine W.yes rfl ?_
      refine W.sr ?_
      refine G.r (Runs.assign rfl) ?_
      refine G.nt ?_
      refine W.ret ?_
      refine V.then_ret ?_
      refine V.block_ret ?_
      refine V.then_ret ?_
      refine V.then_ret ?_
      refine V.block_ret ?_
      refine V.then_ret ?_
      exact V.ret1 rfl rfl (I) Fit.m ⟨by rw [show checkG nd es = 6 from (hs.trans ((scanL_bad (by omega) (by unfold badE; rw [if_pos (by omega)]; decide)).trans (by unfold badE; rw [if_pos (by omega)])))], rfl⟩
     ·refine G.ro (Runs.fieldAddr fld52_1 rfl) ?_
      refine G.ro (Runs.ld ty3) ?_
      refine G.ro (Runs.fieldAddr fld28_0 rfl) ?_
      refine G.ro (Runs.ld ty3) ?_
      refine G.ro (Runs.geq rfl rfl) ?_
      refine G.r (Runs.pickf rfl rfl) ?_
      refine G.nt ?_
      refine W.sub (L' := [(37, _), (3, _), (4, _), (1, _), (14, _), (15, _), (16, _)]) (Sub.cons rfl (Sub.cons rfl (Sub.cons rfl (Sub.cons rfl (Sub.cons rfl (Sub.cons rfl (Sub.cons rfl Sub.nil))))))) ?_
      refine W.ite rfl (fun c37 => ?_) (fun c37 => ?_)
      ·refine W.sr ?_
       refine G.r (Runs.assign rfl) ?_
       refine G.nt ?_
       refine W.ret ?_
       refine V.then_ret ?_
       refine V.block_ret ?_
       refine V.then_ret ?_
       refine V.then_ret ?_
       refine V.block_ret ?_
       refine V.then_ret ?_
       exact V.ret1 rfl rfl (I) Fit.m ⟨by rw [show checkG nd es = 6 from (hs.trans ((scanL_bad (by omega) (by unfold badE; rw [if_pos (by omega)]; decide)).trans (by unfold badE; rw [if_pos (by omega)])))], rfl⟩
      ·refine W.skip ?_
       refine V.then ?_
       refine W.seq ?_
       refine W.drawn mixed ?_
       refine A.hold (blk b2 [I64 ((at_ es ((k : Nat) : Int)).u), I64 ((at_ es ((k : Nat) : Int)).v)] 52 :: blk b1 [I64 (nd), v] 28 :: I) 13 ?_
       refine D.r 0 rfl (Runs.move rfl) ?_
       refine D.r 1 rfl (Runs.gtr rfl rfl) ?_
       refine D.r 2 rfl (Runs.move rfl) ?_
       refine D.split (d := 40) rfl (fun g40 => ?_) (fun g40 => ?_)
       ·refine D.ro 3 rfl (Runs.fieldAddr fld28_1 rfl) ?_
        refine D.ro 4 rfl (Runs.ld ty26) ?_
        refine D.ro 5 rfl (Runs.move rfl) ?_
        refine D.ro 6 rfl (Runs.sub rfl rfl (by unfold InR; omega)) ?_
        refine D.ro 7 rfl (Runs.idx (α := Pt) (xs := es) Tryz.underlying26 ty52 rfl rfl (Sl.f hl) (by omega) (by omega)) ?_
        refine D.ro 8 rfl (Runs.gets (α := Pt) (xs := es) ty52 rfl (Sl.f hl) (by omega) (by omega)) ?_
        refine D.ro 9 rfl (Runs.lds (vs := [_, _]) ty52) ?_
        refine D.step (rs := [10]) (by kernel_rfl) rfl rfl (all1 ?_)
        refine Step.eff rfl (Wanted.on rfl rfl rfl) (Eff.call call88 rfl rfl (Before03_ok (at_ es (((k : Nat) : Int) - 1)) (at_ es ((k : Nat) : Int)))) ?_
        rintro _ _ ⟨_, _, ⟨rfl, rfl⟩, rfl, rfl⟩
        refine ⟨Fit.m, ?_⟩
        refine D.ro 11 rfl (Runs.notd rfl) ?_
        refine D.r 12 rfl (Runs.pickt rfl rfl) ?_
        refine D.done (by kernel_rfl) ?_
        refine V.then ?_
        refine W.sub (L' := [(50, _), (1, _), (14, _), (15, _), (16, _)]) (Sub.cons rfl (Sub.cons rfl (Sub.cons rfl (Sub.cons rfl (Sub.cons rfl Sub.nil))))) ?_
        refine W.ite rfl (fun c50 => ?_) (fun c50 => ?_)
        ·refine W.sr ?_
         refine G.r (Runs.assign rfl) ?_
         refine G.nt ?_
         refine W.ret ?_
         refine V.block_ret ?_
         refine V.then_ret ?_
         refine V.then_ret ?_
         refine V.block_ret ?_
         refine V.then_ret ?_
         exact V.ret1 rfl rfl (I) Fit.m ⟨by rw [show checkG nd es = 5 from (hs.trans (scanL_order (by omega) (badE_zero.2 (by omega)) (by omega) (by first | assumption | simpa using c50)))], rfl⟩
        ·refine W.skip ?_
         refine V.block_normal ?_
         refine V.then ?_
         refine W.region ?_
         refine G.r (Runs.add rfl rfl (by unfold InR; omega)) ?_
         refine G.r (Runs.move rfl) ?_
         refine G.nil ?_
         exact V.next ((k + 1)) (show ((k + 1 : Nat) ≤ es.length) ∧ (checkG nd es = scanL (badE nd) Pt.lt (prevAt es (k + 1 : Nat)) (es.drop (k + 1 : Nat))) from ⟨(by omega), (hs.trans (scanL_step (by omega) (badE_zero.2 (by omega)) (fun h0 => by first | omega | exact Classical.not_not.1 (by assumption) | assumption)))⟩) (show es.length - (k + 1 : Nat) < es.length - k from (by omega)) (Sub.cons rfl (Sub.cons rfl (Sub.cons rfl (Sub.cons lookO Sub.nil)))) (show Fit κ _ (blk b1 [I64 (nd), v] 28 :: I) from Fit.sub)
       ·refine D.po 3 rfl ?_
        refine D.po 4 rfl ?_
        refine D.po 5 rfl ?_
        refine D.po 6 rfl ?_
        refine D.po 7 rfl ?_
        refine D.po 8 rfl ?_
        refine D.po 9 rfl ?_
        refine D.po 10 rfl ?_
        refine D.po 11 rfl ?_
        refine D.r 12 rfl (Runs.pickf rfl rfl) ?_
        refine D.done (by kernel_rfl) ?_
        refine V.then ?_
        refine W.sub (L' := [(50, _), (1, _), (14, _), (15, _), (16, _)]) (Sub.cons rfl (Sub.cons rfl (Sub.cons rfl (Sub.cons rfl (Sub.cons rfl Sub.nil))))) ?_
        refine W.no rfl ?_
        refine W.skip ?_
        refine V.block_normal ?_
        refine V.then ?_
        refine W.region ?_
        refine G.r (Runs.add rfl rfl (by unfold InR; omega)) ?_
        refine G.r (Runs.move rfl) ?_
        refine G.nil ?_
        exact V.next ((k + 1)) (show ((k + 1 : Nat) ≤ es.length) ∧ (checkG nd es = scanL (badE nd) Pt.lt (prevAt es (k + 1 : Nat)) (es.drop (k + 1 : Nat))) from ⟨(by omega), (hs.trans (scanL_step (by omega) (badE_zero.2 (by omega)) (fun h0 => by first | omega | exact Classical.not_not.1 (by assumption) | assumption)))⟩) (show es.length - (k + 1 : Nat) < es.length - k from (by omega)) (Sub.cons rfl (Sub.cons rfl (Sub.cons rfl (Sub.cons lookO Sub.nil)))) (show Fit κ _ (blk b1 [I64 (nd), v] 28 :: I) from Fit.sub)
   ·refine W.exit ?_
    refine V.then_exit ?_
    refine V.then_exit ?_
    refine V.block_hit ?_
    refine V.then ?_
    refine W.sr ?_
    refine G.r (Runs.assign rfl) ?_
    refine G.nt ?_
    refine W.ret ?_
    exact V.ret1 rfl rfl (I) Fit.m ⟨by rw [show checkG nd es = 0 from (hs.trans (scanL_end (by omega)))], rfl⟩

theorem Edge03_ok {κ : Ctx} {I : List Item} (u v : Int) :
    CallS Tryz.prog κ 52 [I64 (u), I64 (v)] I (fun r J => r = .agg #[I64 (edgeP u v).u, I64 (edgeP u v).v] ∧ I = J) := by
 refine CallS.enter (L := [(0, I64 (u)), (1, I64 (v))]) Tryz.func52 rfl rfl rfl rfl ?_
 refine W.sr ?_
 refine G.e (Eff.alloc ty52 rfl) ?_
 rintro _ _ ⟨b1, rfl, rfl⟩
 refine G.nt ?_
 refine W.sr ?_
 refine G.r (Runs.move rfl) ?_
 refine G.r (Runs.move rfl) ?_
 refine G.r (Runs.min rfl rfl) ?_
 refine G.r (Runs.move rfl) ?_
 refine G.r (Runs.move rfl) ?_
 refine G.r (Runs.max rfl rfl) ?_
 refine G.r (Runs.build (cells := [_, _]) ty52 Tryz.underlying52 pl52 rfl rfl) ?_
 refine G.e (Eff.st (cs := [_, _]) (vs := [_, _]) (cs' := [_, _]) ty52) ?_
 rintro _ _ ⟨rfl, rfl⟩
 refine G.nt ?_
 refine W.ret ?_
 exact V.retc rfl ty52 rfl (by repeat (first | exact List.mem_cons_self | apply List.mem_cons_of_mem)) rfl (I) Fit.m ⟨rfl, rfl⟩

end Go.Sl
namespace Go.Sl
open Go.Proofs
set_option linter.unusedVariables false
set_option linter.unusedSimpArgs false
set_option maxRecDepth 4000
section
variable {P : Program} {κ : Ctx} {N : Nat} {L : Env} {I J : List Item} {d : Option Tmp} {ty : TypeId} {ps : String} {af : Array Edge} {gd : Option (Nat × Bool)}
theorem vc.isSome {α : Type} [Enc α] {xs : List α} {e : TypeId} {ad : Option Addr} {n c : Nat} (h : vc e (.slice ad n c) xs ∈ I) : ∀ w, Sep κ w I → (0 < xs.length → ad ≠ none) := fun w hs hlt => by
  obtain ⟨b, o, cap, h0, _⟩ := ((Sl.vec (κ := κ) h) w hs).some hlt
  cases h0
  exact fun hh => by cases hh
/-- The address of an element; what lies there is not looked at. -/
theorem Runs.idxs (α : Type) [Enc α] {x y : Operand} {T E by' n c : Nat} {ag : Bool} {z : List Value} {ad : Option Addr} {i : Int} (ht : P.underlying T = some (.slice E)) (hE : tyF P E = some (Enc.sz α, ag, by', z)) (hx : evalO L x = some (.slice ad n c))
    (hy : evalO L y = some (I64 i)) (ha : ad ≠ none) (h0 : 0 ≤ i) (hn : i < n) : Runs P κ N ⟨d, .indexAddr T x y, ty, ps, af, gd⟩ L J (elemPtr (.slice ad n c) (i.toNat * Enc.sz α)) := by
  cases ad with
  | none => exact absurd rfl ha
  | some ad => exact fun a w ha hs => by simp [execOp, ha.eval hx, ha.eval hy, Instr.indexAt, asIntOf, run_underlying ht, h0, hn, run_sizeOf hE, elemPtr]
end

theorem Spoilt_base {κ : Ctx} {I : List Item} {b : Nat} {lv : Value} {ls : List Int} {i : Int} {a0 : Option Addr} {c0 : Nat} {nd B : Int} {es : List Pt} (hl : ∀ q, Sl κ (deck b lv q :: I) lv ls) (h0 : 0 ≤ i) (hv : ∀ q, Sl κ (deck b lv q :: I) (.slice a0 es.length c0) es) (hm : BdE B es) (hB : 0 ≤ B ∧ B ≤ 1000000) (hlen : es.length ≤ 100000) :
    CallS Tryz.prog κ 11 [.pointer (some ⟨b, 0, none⟩), .agg #[I64 (nd), .slice a0 es.length c0]] (blk b [lv, I64 (i)] 79 :: I) (fun r J => ∃ y : Int × (Option Addr) × Nat × (List Pt) × Int, ((r = .agg #[I64 y.1, .slice y.2.1 y.2.2.2.1.length y.2.2.1] ∧ y.2.2.2.1.length ≤ es.length + 1 ∧ BdE (B + 10) y.2.2.2.1) ∧ 0 ≤ y.2.2.2.2) ∧ J = [vc 52 (.slice y.2.1 y.2.2.2.1.length y.2.2.1) y.2.2.2.1] ++ deck b lv y.2.2.2.2 :: I) := by
 refine CallS.enter (L := [(0, .pointer (some ⟨b, 0, none⟩)), (1, .agg #[I64 (nd), .slice a0 es.length c0])]) Tryz.func11 rfl rfl rfl rfl ?_
 refine W.sr ?_
 refine G.e (Eff.box (cs := [_, _]) rfl rfl rfl) ?_
 rintro _ _ ⟨b1, rfl, rfl⟩
 refine G.e (Eff.alloc ty28 rfl) ?_
 rintro _ _ ⟨b2, rfl, rfl⟩
 refine G.nt ?_
 refine W.sr ?_
 refine G.r (Runs.fieldAddr fld28_1 rfl) ?_
 refine G.r (Runs.ld ty26) ?_
 refine G.e (Eff.clone (α := Pt) (ys := es) Tryz.underlying26 ty52 rfl rfl rfl (Sl.fit (hv _) Fit.m) (by first | omega | (simp only [List.length_cons, List.length_nil]; omega)) (by decide) rfl) ?_
 rintro _ _ ⟨ad3, cp4, rfl, rfl⟩
 refine G.pull (p := 0 < es.length → ad3 ≠ none) (vc.isSome (by repeat (first | exact List.mem_cons_self | apply List.mem_cons_of_mem))) fun hsome => ?_
 refine G.r (Runs.fieldAddr fld28_1 rfl) ?_
 refine G.e (Eff.st (cs := [_, _]) (vs := [_]) (cs' := [_, _]) ty26) ?_
 rintro _ _ ⟨rfl, rfl⟩
 refine G.nt ?_
 refine W.seq ?_
 refine W.sr ?_
 refine G.r (Runs.fieldAddr fld28_1 rfl) ?_
 refine G.r (Runs.ld ty26) ?_
 refine G.r (Runs.lens Tryz.underlying26 rfl) ?_
 refine G.r (Runs.assign rfl) ?_
 refine G.nt ?_
 refine W.sr ?_
 refine G.r (Runs.move rfl) ?_
 refine G.e (Eff.call call10 rfl rfl (Next_ok (by repeat (first | exact AtF.head _ _ | apply AtF.tail)) (Sl.fit (hl _) Fit.m) (by omega) (by omega))) ?_
 rintro _ _ ⟨_, _, ⟨x5, i6, rfl, hx5, hi6, rfl⟩, rfl, rfl⟩
 show G Tryz.prog κ _ _ _ _ ([(15, I64 (x5)), (14, .pointer (some ⟨b, 0, none⟩)), (5, I64 ((((es).length : Nat) : Int))), (13, I64 ((((es).length : Nat) : Int))), (12, .slice ad3 (es).length cp4), (11, .pointer (some ⟨b1, 1, none⟩)), (10, .pointer (some ⟨b1, 1, none⟩)), (9, .slice ad3 (es).length cp4), (8, .slice a0 es.length c0), (7, .pointer (some ⟨b1, 1, none⟩)), (4, .pointer (some ⟨b2, 0, none⟩)), (3, .pointer (some ⟨b1, 0, none⟩)), (0, .pointer (some ⟨b, 0, none⟩)), (1, .agg #[I64 (nd), .slice a0 es.length c0])] : Env) (vc 52 (.slice ad3 (es).length cp4) (es) :: blk b2 [I64 (0), .slice none 0 0] 28 :: blk b1 [I64 (nd), .slice ad3 (es).length cp4] 28 :: blk b [lv, I64 (i6)] 79 :: I)
 refine G.nt ?_
 refine W.sub (L' := [(15, _), (5, _), (4, _), (3, _), (0, _)]) (Sub.cons rfl (Sub.cons rfl (Sub.cons rfl (Sub.cons rfl (Sub.cons rfl Sub.nil))))) ?_
 refine W.block ?_
 refine W.sr ?_
 refine G.r (Runs.eql rfl rfl) ?_
 refine G.r (Runs.assign rfl) ?_
 refine G.nt ?_
 refine W.ite rfl (fun c16 => ?_) (fun c16 => ?_)
 ·refine W.region ?_
  refine G.r (Runs.move rfl) ?_
  refine G.e (Eff.call call10 rfl rfl (Next_ok (by repeat (first | exact AtF.head _ _ | apply AtF.tail)) (Sl.fit (hl _) Fit.m) (by omega) (by omega))) ?_
  rintro _ _ ⟨_, _, ⟨x7, i8, rfl, hx7, hi8, rfl⟩, rfl, rfl⟩
  show G Tryz.prog κ _ _ _ _ ([(19, I64 (x7)), (18, .pointer (some ⟨b, 0, none⟩)), (16, .bool (decide (x5 = 0))), (17, .bool (decide (x5 = 0))), (15, I64 (x5)), (5, I64 ((((es).length : Nat) : Int))), (4, .pointer (some ⟨b2, 0, none⟩)), (3, .pointer (some ⟨b1, 0, none⟩)), (0, .pointer (some ⟨b, 0, none⟩))] : Env) (vc 52 (.slice ad3 (es).length cp4) (es) :: blk b2 [I64 (0), .slice none 0 0] 28 :: blk b1 [I64 (nd), .slice ad3 (es).length cp4] 28 :: blk b [lv, I64 (i8)] 79 :: I)
  refine G.r (Runs.sub rfl rfl (by unfold InR; omega)) ?_
  refine G.r (Runs.fieldAddr fld28_0 rfl) ?_
  refine G.e (Eff.st (cs := [_, _]) (vs := [_]) (cs' := [_, _]) ty3) ?_
  rintro _ _ ⟨rfl, rfl⟩
  refine G.nil ?_
  refine V.block_normal ?_
  refine V.then ?_
  refine W.sr ?_
  refine G.r (Runs.lds (vs := [_, _]) ty28) ?_
  refine G.e (Eff.st (cs := [_, _]) (vs := [_, _]) (cs' := [_, _]) ty28) ?_
  rintro _ _ ⟨rfl, rfl⟩
  refine G.nt ?_
  refine W.ret ?_
  have hxl : es.length ≤ es.length + 1 := by first | omega | (simp only [List.length_set, List.length_append, List.length_cons, List.length_nil]; omega)
  have hxe : es.length = (es).length := by simp only [List.length_set, List.length_append, List.length_cons, List.length_nil]
  exact V.retc rfl ty28 rfl (by repeat (first | exact List.mem_cons_self | apply List.mem_cons_of_mem)) rfl (vc 52 (.slice ad3 es.length cp4) (es) :: blk b [lv, I64 (i8)] 79 :: I) (by rw [hxe]; exact Fit.sub) ⟨(x7 - 2, ad3, cp4, es, i8), ⟨⟨by simp only [List.length_set], hxl, by first | exact hm.mono (by omega) | exact (hm.snoc (hm.at (by omega) (by omega))).mono (by omega) | exact (hm.mono (by omega)).setv (by omega) (by omega) (by have h1 := hm.at (i := 0) (by omega) (by omega); unfold PB at h1; omega) | exact (((hm.set (hm.at (by omega) (by omega))).set (hm.at (by omega) (by omega)))).mono (by omega) | exact ((hm.setu (by omega) (by omega) (by have h1 := hm.at (i := 0) (by omega) (by omega); unfold PB at h1; omega)).setv (by omega) (by rw [List.length_set]; omega) (by have h1 := hm.at (i := 0) (by omega) (by omega); unfold PB at h1; omega)).mono (by omega)⟩, by show 0 ≤ i8; omega⟩, rfl⟩
 ·refine W.sr ?_
  refine G.r (Runs.eql rfl rfl) ?_
  refine G.r (Runs.assign rfl) ?_
  refine G.nt ?_
  refine W.ite rfl (fun c22 => ?_) (fun c22 => ?_)
  ·refine W.sr ?_
   refine G.r (Runs.move rfl) ?_
   refine G.r (Runs.gtr rfl rfl) ?_
   refine G.nt ?_
   refine W.ite rfl (fun c25 => ?_) (fun c25 => ?_)
   ·refine W.sr ?_
    refine G.r (Runs.move rfl) ?_
    refine G.r (Runs.move rfl) ?_
    refine G.e (Eff.call call10 rfl rfl (Next_ok (by repeat (first | exact AtF.head _ _ | apply AtF.tail)) (Sl.fit (hl _) Fit.m) (by omega) (by omega))) ?_
    rintro _ _ ⟨_, _, ⟨x9, i10, rfl, hx9, hi10, rfl⟩, rfl, rfl⟩
    show G Tryz.prog κ _ _ _ _ ([(28, I64 (x9)), (27, I64 ((((es).length : Nat) : Int))), (26, .pointer (some ⟨b, 0, none⟩)), (25, .bool (decide (0 < (((es).length : Nat) : Int)))), (24, I64 ((((es).length : Nat) : Int))), (22, .bool (decide (x5 = 1))), (23, .bool (decide (x5 = 1))), (16, .bool (decide (x5 = 0))), (17, .bool (decide (x5 = 0))), (15, I64 (x5)), (5, I64 ((((es).length : Nat) : Int))), (4, .pointer (some ⟨b2, 0, none⟩)), (3, .pointer (some ⟨b1, 0, none⟩)), (0, .pointer (some ⟨b, 0, none⟩))] : Env) (vc 52 (.slice ad3 (es).length cp4) (es) :: blk b2 [I64 (0), .slice none 0 0] 28 :: blk b1 [I64 (nd), .slice ad3 (es).length cp4] 28 :: blk b [lv, I64 (i10)] 79 :: I)
    refine G.r (Runs.assign rfl) ?_
    refine G.nt ?_
    refine W.sub (L' := [(6, _), (4, _), (3, _)]) (Sub.cons rfl (Sub.cons rfl (Sub.cons rfl Sub.nil))) ?_
    refine W.drawn mixed ?_
    refine A.hold (blk b2 [I64 (0), .slice none 0 0] 28 :: blk b1 [I64 (nd), .slice ad3 (es).length cp4] 28 :: I) 24 ?_
    refine D.r 0 rfl (Runs.fieldAddr fld28_1 rfl) ?_ (hJ := Fit.sub)
    refine D.r 1 rfl (Runs.ld ty26) ?_ (hJ := Fit.sub)
    refine D.r 2 rfl (Runs.move rfl) ?_ (hJ := Fit.sub)
    refine D.r 3 rfl (Runs.fieldAddr fld28_1 rfl) ?_ (hJ := Fit.sub)
    refine D.r 4 rfl (Runs.ld ty26) ?_ (hJ := Fit.sub)
    refine D.r 5 rfl (Runs.move rfl) ?_ (hJ := Fit.sub)
    refine D.r 6 rfl (Runs.fieldAddr fld28_1 rfl) ?_ (hJ := Fit.sub)
    refine D.r 7 rfl (Runs.ld ty26) ?_ (hJ := Fit.sub)
    refine D.r 8 rfl (Runs.move rfl) ?_ (hJ := Fit.sub)
    refine D.r 9 rfl (Runs.idxs Pt Tryz.underlying26 ty52 rfl rfl (hsome (by omega)) (by omega) (by omega)) ?_ (hJ := Fit.sub)
    refine D.r 12 rfl (Runs.fieldAddr fld28_1 rfl) ?_ (hJ := Fit.sub)
    refine D.r 13 rfl (Runs.ld ty26) ?_ (hJ := Fit.sub)
    refine D.r 14 rfl (Runs.move rfl) ?_ (hJ := Fit.sub)
    refine D.r 15 rfl (Runs.idxs Pt Tryz.underlying26 ty52 rfl rfl (hsome (by omega)) (by omega) (by omega)) ?_ (hJ := Fit.sub)
    refine D.step (rs := [10, 16]) (by kernel_rfl) rfl rfl (all2 ?_ (all1 ?_))
    ·refine Step.read rfl (Wanted.plain rfl) rfl rfl (Runs.fld (α := Pt) (xs := es) fld52_1 rfl Sl.o (by first | omega | (simp only [List.length_set]; omega))) Fit.sub ?_
     refine D.step (rs := [11, 16]) (by kernel_rfl) rfl rfl (all2 ?_ (all1 ?_))
     ·refine Step.read rfl (Wanted.plain rfl) rfl rfl (Runs.getf (α := Pt) (xs := es) (u := I64 ((at_ es x9).v)) ty3 rfl Sl.o (by omega) (by first | omega | (simp only [List.length_set]; omega)) rfl) Fit.sub ?_
      refine D.step (rs := [16]) (by kernel_rfl) rfl rfl (all1 ?_)
      refine Step.read rfl (Wanted.plain rfl) rfl rfl (Runs.fld (α := Pt) (xs := es) fld52_0 rfl Sl.o (by first | omega | (simp only [List.length_set]; omega))) Fit.sub ?_
      refine D.step (rs := [17]) (by kernel_rfl) rfl rfl (all1 ?_)
      refine Step.read rfl (Wanted.plain rfl) rfl rfl (Runs.getf (α := Pt) (xs := es) (u := I64 ((at_ es x9).u)) ty3 rfl Sl.o (by omega) (by first | omega | (simp only [List.length_set]; omega)) rfl) Fit.sub ?_
      refine D.r 18 rfl (Runs.idxs Pt Tryz.underlying26 ty52 rfl rfl (hsome (by omega)) (by omega) (by omega)) ?_ (hJ := Fit.sub)
      refine D.step (rs := [19]) (by kernel_rfl) rfl rfl (all1 ?_)
      refine Step.read rfl (Wanted.plain rfl) rfl rfl (Runs.fld (α := Pt) (xs := es) fld52_0 rfl Sl.o (by first | omega | (simp only [List.length_set]; omega))) Fit.sub ?_
      refine D.step (rs := [20]) (by kernel_rfl) rfl rfl (all1 ?_)
      refine Step.eff rfl (Wanted.plain rfl) (Eff.setf (α := Pt) (xs := es) (e := 52) (new := { at_ es x9 with u := (at_ es x9).v }) (j := 0) ty3 rfl rfl rfl rfl (by decide) rfl (by omega) (by first | omega | (simp only [List.length_set]; omega)) (by repeat (first | exact At.head _ _ _ | apply At.tail))) ?_
      rintro _ _ ⟨rfl, rfl⟩
      refine ⟨Fit.sub, ?_⟩
      refine D.r 21 rfl (Runs.idxs Pt Tryz.underlying26 ty52 rfl rfl (hsome (by omega)) (by omega) (by omega)) ?_ (hJ := Fit.sub)
      refine D.step (rs := [22]) (by kernel_rfl) rfl rfl (all1 ?_)
      refine Step.read rfl (Wanted.plain rfl) rfl rfl (Runs.fld (α := Pt) (xs := List.set es (x9).toNat ({ at_ es x9 with u := (at_ es x9).v })) fld52_1 rfl Sl.o (by first | omega | (simp only [List.length_set]; omega))) Fit.sub ?_
      refine D.step (rs := [23]) (by kernel_rfl) rfl rfl (all1 ?_)
      refine Step.eff rfl (Wanted.plain rfl) (Eff.setf (α := Pt) (xs := List.set es (x9).toNat ({ at_ es x9 with u := (at_ es x9).v })) (e := 52) (new := { at_ (List.set es (x9).toNat ({ at_ es x9 with u := (at_ es x9).v })) x9 with v := (at_ es x9).u }) (j := 1) ty3 rfl rfl rfl rfl (by decide) rfl (by omega) (by first | omega | (simp only [List.length_set]; omega)) (by repeat (first | exact At.head _ _ _ | apply At.tail))) ?_
      rintro _ _ ⟨rfl, rfl⟩
      refine ⟨Fit.sub, ?_⟩
      refine D.done (by kernel_rfl) ?_
      refine V.block_normal ?_
      refine V.then ?_
      refine W.sub (L' := [(4, _), (3, _)]) (Sub.cons rfl (Sub.cons rfl Sub.nil)) ?_
      refine W.sr ?_
      refine G.r (Runs.lds (vs := [_, _]) ty28) ?_
      refine G.e (Eff.st (cs := [_, _]) (vs := [_, _]) (cs' := [_, _]) ty28) ?_
      rintro _ _ ⟨rfl, rfl⟩
      refine G.nt ?_
      refine W.ret ?_
      have hxl : (List.set (List.set es (x9).toNat ({ at_ es x9 with u := (at_ es x9).v })) (x9).toNat ({ at_ (List.set es (x9).toNat ({ at_ es x9 with u := (at_ es x9).v })) x9 with v := (at_ es x9).u })).length ≤ es.length + 1 := by first | omega | (simp only [List.length_set, List.length_append, List.length_cons, List.length_nil]; omega)
      have hxe : (List.set (List.set es (x9).toNat ({ at_ es x9 with u := (at_ es x9).v })) (x9).toNat ({ at_ (List.set es (x9).toNat ({ at_ es x9 with u := (at_ es x9).v })) x9 with v := (at_ es x9).u })).length = (es).length := by simp only [List.length_set, List.length_append, List.length_cons, List.length_nil]
      exact V.retc rfl ty28 rfl (by repeat (first | exact List.mem_cons_self | apply List.mem_cons_of_mem)) rfl (vc 52 (.slice ad3 (List.set (List.set es (x9).toNat ({ at_ es x9 with u := (at_ es x9).v })) (x9).toNat ({ at_ (List.set es (x9).toNat ({ at_ es x9 with u := (at_ es x9).v })) x9 with v := (at_ es x9).u })).length cp4) (List.set (List.set es (x9).toNat ({ at_ es x9 with u := (at_ es x9).v })) (x9).toNat ({ at_ (List.set es (x9).toNat ({ at_ es x9 with u := (at_ es x9).v })) x9 with v := (at_ es x9).u })) :: blk b [lv, I64 (i10)] 79 :: I) (by rw [hxe]; exact Fit.sub) ⟨(nd, ad3, cp4, List.set (List.set es (x9).toNat ({ at_ es x9 with u := (at_ es x9).v })) (x9).toNat ({ at_ (List.set es (x9).toNat ({ at_ es x9 with u := (at_ es x9).v })) x9 with v := (at_ es x9).u }), i10), ⟨⟨by simp only [List.length_set], hxl, by first | exact hm.mono (by omega) | exact (hm.snoc (hm.at (by omega) (by omega))).mono (by omega) | exact (hm.mono (by omega)).setv (by omega) (by omega) (by have h1 := hm.at (i := x9) (by omega) (by omega); unfold PB at h1; omega) | exact (((hm.set (hm.at (by omega) (by omega))).set (hm.at (by omega) (by omega)))).mono (by omega) | exact ((hm.setu (by omega) (by omega) (by have h1 := hm.at (i := x9) (by omega) (by omega); unfold PB at h1; omega)).setv (by omega) (by rw [List.length_set]; omega) (by have h1 := hm.at (i := x9) (by omega) (by omega); unfold PB at h1; omega)).mono (by omega)⟩, by show 0 ≤ i10; omega⟩, rfl⟩
     ·refine Step.read rfl (Wanted.plain rfl) rfl rfl (Runs.fld (α := Pt) (xs := es) fld52_0 rfl Sl.o (by first | omega | (simp only [List.length_set]; omega))) Fit.sub ?_
      refine D.step (rs := [11, 17]) (by kernel_rfl) rfl rfl (all2 ?_ (all1 ?_))
      ·refine Step.read rfl (Wanted.plain rfl) rfl rfl (Runs.getf (α := Pt) (xs := es) (u := I64 ((at_ es x9).v)) ty3 rfl Sl.o (by omega) (by first | omega | (simp only [List.length_set]; omega)) rfl) Fit.sub ?_
       refine D.step (rs := [17]) (by kernel_rfl) rfl rfl (all1 ?_)
       refine Step.read rfl (Wanted.plain rfl) rfl rfl (Runs.getf (α := Pt) (xs := es) (u := I64 ((at_ es x9).u)) ty3 rfl Sl.o (by omega) (by first | omega | (simp only [List.length_set]; omega)) rfl) Fit.sub ?_
       refine D.r 18 rfl (Runs.idxs Pt Tryz.underlying26 ty52 rfl rfl (hsome (by omega)) (by omega) (by omega)) ?_ (hJ := Fit.sub)
       refine D.step (rs := [19]) (by kernel_rfl) rfl rfl (all1 ?_)
       refine Step.read rfl (Wanted.plain rfl) rfl rfl (Runs.fld (α := Pt) (xs := es) fld52_0 rfl Sl.o (by first | omega | (simp only [List.length_set]; omega))) Fit.sub ?_
       refine D.step (rs := [20]) (by kernel_rfl) rfl rfl (all1 ?_)
       refine Step.eff rfl (Wanted.plain rfl) (Eff.setf (α := Pt) (xs := es) (e := 52) (new := { at_ es x9 with u := (at_ es x9).v }) (j := 0) ty3 rfl rfl rfl rfl (by decide) rfl (by omega) (by first | omega | (simp only [List.length_set]; omega)) (by repeat (first | exact At.head _ _ _ | apply At.tail))) ?_
       rintro _ _ ⟨rfl, rfl⟩
       refine ⟨Fit.sub, ?_⟩
       refine D.r 21 rfl (Runs.idxs Pt Tryz.underlying26 ty52 rfl rfl (hsome (by omega)) (by omega) (by omega)) ?_ (hJ := Fit.sub)
       refine D.step (rs := [22]) (by kernel_rfl) rfl rfl (all1 ?_)
       refine Step.read rfl (Wanted.plain rfl) rfl rfl (Runs.fld (α := Pt) (xs := List.set es (x9).toNat ({ at_ es x9 with u := (at_ es x9).v })) fld52_1 rfl Sl.o (by first | omega | (simp only [List.length_set]; omega))) Fit.sub ?_
       refine D.step (rs := [23]) (by kernel_rfl) rfl rfl (all1 ?_)
       refine Step.eff rfl (Wanted.plain rfl) (Eff.setf (α := Pt) (xs := List.set es (x9).toNat ({ at_ es x9 with u := (at_ es x9).v })) (e := 52) (new := { at_ (List.set es (x9).toNat ({ at_ es x9 with u := (at_ es x9).v })) x9 with v := (at_ es x9).u }) (j := 1) ty3 rfl rfl rfl rfl (by decide) rfl (by omega) (by first | omega | (simp only [List.length_set]; omega)) (by repeat (first | exact At.head _ _ _ | apply At.tail))) ?_
       rintro _ _ ⟨rfl, rfl⟩
       refine ⟨Fit.sub, ?_⟩
       refine D.done (by kernel_rfl) ?_
       refine V.block_normal ?_
       refine V.then ?_
       refine W.sub (L' := [(4, _), (3, _)]) (Sub.cons rfl (Sub.cons rfl Sub.nil)) ?_
       refine W.sr ?_
       refine G.r (Runs.lds (vs := [_, _]) ty28) ?_
       refine G.e (Eff.st (cs := [_, _]) (vs := [_, _]) (cs' := [_, _]) ty28) ?_
       rintro _ _ ⟨rfl, rfl⟩
       refine G.nt ?_
       refine W.ret ?_
       have hxl : (List.set (List.set es (x9).toNat ({ at_ es x9 with u := (at_ es x9).v })) (x9).toNat ({ at_ (List.set es (x9).toNat ({ at_ es x9 with u := (at_ es x9).v })) x9 with v := (at_ es x9).u })).length ≤ es.length + 1 := by first | omega | (simp only [List.length_set, List.length_append, List.length_cons, List.length_nil]; omega)
       have hxe : (List.set (List.set es (x9).toNat ({ at_ es x9 with u := (at_ es x9).v })) (x9).toNat ({ at_ (List.set es (x9).toNat ({ at_ es x9 with u := (at_ es x9).v })) x9 with v := (at_ es x9).u })).length = (es).length := by simp only [List.length_set, List.length_append, List.length_cons, List.length_nil]
       exact V.retc rfl ty28 rfl (by repeat (first | exact List.mem_cons_self | apply List.mem_cons_of_mem)) rfl (vc 52 (.slice ad3 (List.set (List.set es (x9).toNat ({ at_ es x9 with u := (at_ es x9).v })) (x9).toNat ({ at_ (List.set es (x9).toNat ({ at_ es x9 with u := (at_ es x9).v })) x9 with v := (at_ es x9).u })).length cp4) (List.set (List.set es (x9).toNat ({ at_ es x9 with u := (at_ es x9).v })) (x9).toNat ({ at_ (List.set es (x9).toNat ({ at_ es x9 with u := (at_ es x9).v })) x9 with v := (at_ es x9).u })) :: blk b [lv, I64 (i10)] 79 :: I) (by rw [hxe]; exact Fit.sub) ⟨(nd, ad3, cp4, List.set (List.set es (x9).toNat ({ at_ es x9 with u := (at_ es x9).v })) (x9).toNat ({ at_ (List.set es (x9).toNat ({ at_ es x9 with u := (at_ es x9).v })) x9 with v := (at_ es x9).u }), i10), ⟨⟨by simp only [List.length_set], hxl, by first | exact hm.mono (by omega) | exact (hm.snoc (hm.at (by omega) (by omega))).mono (by omega) | exact (hm.mono (by omega)).setv (by omega) (by omega) (by have h1 := hm.at (i := x9) (by omega) (by omega); unfold PB at h1; omega) | exact (((hm.set (hm.at (by omega) (by omega))).set (hm.at (by omega) (by omega)))).mono (by omega) | exact ((hm.setu (by omega) (by omega) (by have h1 := hm.at (i := x9) (by omega) (by omega); unfold PB at h1; omega)).setv (by omega) (by rw [List.length_set]; omega) (by have h1 := hm.at (i := x9) (by omega) (by omega); unfold PB at h1; omega)).mono (by omega)⟩, by show 0 ≤ i10; omega⟩, rfl⟩
      ·refine Step.read rfl (Wanted.plain rfl) rfl rfl (Runs.getf (α := Pt) (xs := es) (u := I64 ((at_ es x9).u)) ty3 rfl Sl.o (by omega) (by first | omega | (simp only [List.length_set]; omega)) rfl) Fit.sub ?_
       refine D.step (rs := [11]) (by kernel_rfl) rfl rfl (all1 ?_)
       refine Step.read rfl (Wanted.plain rfl) rfl rfl (Runs.getf (α := Pt) (xs := es) (u := I64 ((at_ es x9).v)) ty3 rfl Sl.o (by omega) (by first | omega | (simp only [List.length_set]; omega)) rfl) Fit.sub ?_
       refine D.r 18 rfl (Runs.idxs Pt Tryz.underlying26 ty52 rfl rfl (hsome (by omega)) (by omega) (by omega)) ?_ (hJ := Fit.sub)
       refine D.step (rs := [19]) (by kernel_rfl) rfl rfl (all1 ?_)
       refine Step.read rfl (Wanted.plain rfl) rfl rfl (Runs.fld (α := Pt) (xs := es) fld52_0 rfl Sl.o (by first | omega | (simp only [List.length_set]; omega))) Fit.sub ?_
       refine D.step (rs := [20]) (by kernel_rfl) rfl rfl (all1 ?_)
       refine Step.eff rfl (Wanted.plain rfl) (Eff.setf (α := Pt) (xs := es) (e := 52) (new := { at_ es x9 with u := (at_ es x9).v }) (j := 0) ty3 rfl rfl rfl rfl (by decide) rfl (by omega) (by first | omega | (simp only [List.length_set]; omega)) (by repeat (first | exact At.head _ _ _ | apply At.tail))) ?_
       rintro _ _ ⟨rfl, rfl⟩
       refine ⟨Fit.sub, ?_⟩
       refine D.r 21 rfl (Runs.idxs Pt Tryz.underlying26 ty52 rfl rfl (hsome (by omega)) (by omega) (by omega)) ?_ (hJ := Fit.sub)
       refine D.step (rs := [22]) (by kernel_rfl) rfl rfl (all1 ?_)
       refine Step.read rfl (Wanted.plain rfl) rfl rfl (Runs.fld (α := Pt) (xs := List.set es (x9).toNat ({ at_ es x9 with u := (at_ es x9).v })) fld52_1 rfl Sl.o (by first | omega | (simp only [List.length_set]; omega))) Fit.sub ?_
       refine D.step (rs := [23]) (by kernel_rfl) rfl rfl (all1 ?_)
       refine Step.eff rfl (Wanted.plain rfl) (Eff.setf (α := Pt) (xs := List.set es (x9).toNat ({ at_ es x9 with u := (at_ es x9).v })) (e := 52) (new := { at_ (List.set es (x9).toNat ({ at_ es x9 with u := (at_ es x9).v })) x9 with v := (at_ es x9).u }) (j := 1) ty3 rfl rfl rfl rfl (by decide) rfl (by omega) (by first | omega | (simp only [List.length_set]; omega)) (by repeat (first | exact At.head _ _ _ | apply At.tail))) ?_
       rintro _ _ ⟨rfl, rfl⟩
       refine ⟨Fit.sub, ?_⟩
       refine D.done (by kernel_rfl) ?_
       refine V.block_normal ?_
       refine V.then ?_
       refine W.sub (L' := [(4, _), (3, _)]) (Sub.cons rfl (Sub.cons rfl Sub.nil)) ?_
       refine W.sr ?_
       refine G.r (Runs.lds (vs := [_, _]) ty28) ?_
       refine G.e (Eff.st (cs := [_, _]) (vs := [_, _]) (cs' := [_, _]) ty28) ?_
       rintro _ _ ⟨rfl, rfl⟩
       refine G.nt ?_
       refine W.ret ?_
       have hxl : (List.set (List.set es (x9).toNat ({ at_ es x9 with u := (at_ es x9).v })) (x9).toNat ({ at_ (List.set es (x9).toNat ({ at_ es x9 with u := (at_ es x9).v })) x9 with v := (at_ es x9).u })).length ≤ es.length + 1 := by first | omega | (simp only [List.length_set, List.length_append, List.length_cons, List.length_nil]; omega)
       have hxe : (List.set (List.set es (x9).toNat ({ at_ es x9 with u := (at_ es x9).v })) (x9).toNat ({ at_ (List.set es (x9).toNat ({ at_ es x9 with u := (at_ es x9).v })) x9 with v := (at_ es x9).u })).length = (es).length := by simp only [List.length_set, List.length_append, List.length_cons, List.length_nil]
       exact V.retc rfl ty28 rfl (by repeat (first | exact List.mem_cons_self | apply List.mem_cons_of_mem)) rfl (vc 52 (.slice ad3 (List.set (List.set es (x9).toNat ({ at_ es x9 with u := (at_ es x9).v })) (x9).toNat ({ at_ (List.set es (x9).toNat ({ at_ es x9 with u := (at_ es x9).v })) x9 with v := (at_ es x9).u })).length cp4) (List.set (List.set es (x9).toNat ({ at_ es x9 with u := (at_ es x9).v })) (x9).toNat ({ at_ (List.set es (x9).toNat ({ at_ es x9 with u := (at_ es x9).v })) x9 with v := (at_ es x9).u })) :: blk b [lv, I64 (i10)] 79 :: I) (by rw [hxe]; exact Fit.sub) ⟨(nd, ad3, cp4, List.set (List.set es (x9).toNat ({ at_ es x9 with u := (at_ es x9).v })) (x9).toNat ({ at_ (List.set es (x9).toNat ({ at_ es x9 with u := (at_ es x9).v })) x9 with v := (at_ es x9).u }), i10), ⟨⟨by simp only [List.length_set], hxl, by first | exact hm.mono (by omega) | exact (hm.snoc (hm.at (by omega) (by omega))).mono (by omega) | exact (hm.mono (by omega)).setv (by omega) (by omega) (by have h1 := hm.at (i := x9) (by omega) (by omega); unfold PB at h1; omega) | exact (((hm.set (hm.at (by omega) (by omega))).set (hm.at (by omega) (by omega)))).mono (by omega) | exact ((hm.setu (by omega) (by omega) (by have h1 := hm.at (i := x9) (by omega) (by omega); unfold PB at h1; omega)).setv (by omega) (by rw [List.length_set]; omega) (by have h1 := hm.at (i := x9) (by omega) (by omega); unfold PB at h1; omega)).mono (by omega)⟩, by show 0 ≤ i10; omega⟩, rfl⟩
    ·refine Step.read rfl (Wanted.plain rfl) rfl rfl (Runs.fld (α := Pt) (xs := es) fld52_0 rfl Sl.o (by first | omega | (simp only [List.length_set]; omega))) Fit.sub ?_
     refine D.step (rs := [10, 17]) (by kernel_rfl) rfl rfl (all2 ?_ (all1 ?_))
     ·refine Step.read rfl (Wanted.plain rfl) rfl rfl (Runs.fld (α := Pt) (xs := es) fld52_1 rfl Sl.o (by first | omega | (simp only [List.length_set]; omega))) Fit.sub ?_
      refine D.step (rs := [11, 17]) (by kernel_rfl) rfl rfl (all2 ?_ (all1 ?_))
      ·refine Step.read rfl (Wanted.plain rfl) rfl rfl (Runs.getf (α := Pt) (xs := es) (u := I64 ((at_ es x9).v)) ty3 rfl Sl.o (by omega) (by first | omega | (simp only [List.length_set]; omega)) rfl) Fit.sub ?_
       refine D.step (rs := [17]) (by kernel_rfl) rfl rfl (all1 ?_)
       refine Step.read rfl (Wanted.plain rfl) rfl rfl (Runs.getf (α := Pt) (xs := es) (u := I64 ((at_ es x9).u)) ty3 rfl Sl.o (by omega) (by first | omega | (simp only [List.length_set]; omega)) rfl) Fit.sub ?_
       refine D.r 18 rfl (Runs.idxs Pt Tryz.underlying26 ty52 rfl rfl (hsome (by omega)) (by omega) (by omega)) ?_ (hJ := Fit.sub)
       refine D.step (rs := [19]) (by kernel_rfl) rfl rfl (all1 ?_)
       refine Step.read rfl (Wanted.plain rfl) rfl rfl (Runs.fld (α := Pt) (xs := es) fld52_0 rfl Sl.o (by first | omega | (simp only [List.length_set]; omega))) Fit.sub ?_
       refine D.step (rs := [20]) (by kernel_rfl) rfl rfl (all1 ?_)
       refine Step.eff rfl (Wanted.plain rfl) (Eff.setf (α := Pt) (xs := es) (e := 52) (new := { at_ es x9 with u := (at_ es x9).v }) (j := 0) ty3 rfl rfl rfl rfl (by decide) rfl (by omega) (by first | omega | (simp only [List.length_set]; omega)) (by repeat (first | exact At.head _ _ _ | apply At.tail))) ?_
       rintro _ _ ⟨rfl, rfl⟩
       refine ⟨Fit.sub, ?_⟩
       refine D.r 21 rfl (Runs.idxs Pt Tryz.underlying26 ty52 rfl rfl (hsome (by omega)) (by omega) (by omega)) ?_ (hJ := Fit.sub)
       refine D.step (rs := [22]) (by kernel_rfl) rfl rfl (all1 ?_)
       refine Step.read rfl (Wanted.plain rfl) rfl rfl (Runs.fld (α := Pt) (xs := List.set es (x9).toNat ({ at_ es x9 with u := (at_ es x9).v })) fld52_1 rfl Sl.o (by first | omega | (simp only [List.length_set]; omega))) Fit.sub ?_
       refine D.step (rs := [23]) (by kernel_rfl) rfl rfl (all1 ?_)
       refine Step.eff rfl (Wanted.plain rfl) (Eff.setf (α := Pt) (xs := List.set es (x9).toNat ({ at_ es x9 with u := (at_ es x9).v })) (e := 52) (new := { at_ (List.set es (x9).toNat ({ at_ es x9 with u := (at_ es x9).v })) x9 with v := (at_ es x9).u }) (j := 1) ty3 rfl rfl rfl rfl (by decide) rfl (by omega) (by first | omega | (simp only [List.length_set]; omega)) (by repeat (first | exact At.head _ _ _ | apply At.tail))) ?_
       rintro _ _ ⟨rfl, rfl⟩
       refine ⟨Fit.sub, ?_⟩
       refine D.done (by kernel_rfl) ?_
       refine V.block_normal ?_
       refine V.then ?_
       refine W.sub (L' := [(4, _), (3, _)]) (Sub.cons rfl (Sub.cons rfl Sub.nil)) ?_
       refine W.sr ?_
       refine G.r (Runs.lds (vs := [_, _]) ty28) ?_
       refine G.e (Eff.st (cs := [_, _]) (vs := [_, _]) (cs' := [_, _]) ty28) ?_
       rintro _ _ ⟨rfl, rfl⟩
       refine G.nt ?_
       refine W.ret ?_
       have hxl : (List.set (List.set es (x9).toNat ({ at_ es x9 with u := (at_ es x9).v })) (x9).toNat ({ at_ (List.set es (x9).toNat ({ at_ es x9 with u := (at_ es x9).v })) x9 with v := (at_ es x9).u })).length ≤ es.length + 1 := by first | omega | (simp only [List.length_set, List.length_append, List.length_cons, List.length_nil]; omega)
       have hxe : (List.set (List.set es (x9).toNat ({ at_ es x9 with u := (at_ es x9).v })) (x9).toNat ({ at_ (List.set es (x9).toNat ({ at_ es x9 with u := (at_ es x9).v })) x9 with v := (at_ es x9).u })).length = (es).length := by simp only [List.length_set, List.length_append, List.length_cons, List.length_nil]
       exact V.retc rfl ty28 rfl (by repeat (first | exact List.mem_cons_self | apply List.mem_cons_of_mem)) rfl (vc 52 (.slice ad3 (List.set (List.set es (x9).toNat ({ at_ es x9 with u := (at_ es x9).v })) (x9).toNat ({ at_ (List.set es (x9).toNat ({ at_ es x9 with u := (at_ es x9).v })) x9 with v := (at_ es x9).u })).length cp4) (List.set (List.set es (x9).toNat ({ at_ es x9 with u := (at_ es x9).v })) (x9).toNat ({ at_ (List.set es (x9).toNat ({ at_ es x9 with u := (at_ es x9).v })) x9 with v := (at_ es x9).u })) :: blk b [lv, I64 (i10)] 79 :: I) (by rw [hxe]; exact Fit.sub) ⟨(nd, ad3, cp4, List.set (List.set es (x9).toNat ({ at_ es x9 with u := (at_ es x9).v })) (x9).toNat ({ at_ (List.set es (x9).toNat ({ at_ es x9 with u := (at_ es x9).v })) x9 with v := (at_ es x9).u }), i10), ⟨⟨by simp only [List.length_set], hxl, by first | exact hm.mono (by omega) | exact (hm.snoc (hm.at (by omega) (by omega))).mono (by omega) | exact (hm.mono (by omega)).setv (by omega) (by omega) (by have h1 := hm.at (i := x9) (by omega) (by omega); unfold PB at h1; omega) | exact (((hm.set (hm.at (by omega) (by omega))).set (hm.at (by omega) (by omega)))).mono (by omega) | exact ((hm.setu (by omega) (by omega) (by have h1 := hm.at (i := x9) (by omega) (by omega); unfold PB at h1; omega)).setv (by omega) (by rw [List.length_set]; omega) (by have h1 := hm.at (i := x9) (by omega) (by omega); unfold PB at h1; omega)).mono (by omega)⟩, by show 0 ≤ i10; omega⟩, rfl⟩
      ·refine Step.read rfl (Wanted.plain rfl) rfl rfl (Runs.getf (α := Pt) (xs := es) (u := I64 ((at_ es x9).u)) ty3 rfl Sl.o (by omega) (by first | omega | (simp only [List.length_set]; omega)) rfl) Fit.sub ?_
       refine D.step (rs := [11]) (by kernel_rfl) rfl rfl (all1 ?_)
       refine Step.read rfl (Wanted.plain rfl) rfl rfl (Runs.getf (α := Pt) (xs := es) (u := I64 ((at_ es x9).v)) ty3 rfl Sl.o (by omega) (by first | omega | (simp only [List.length_set]; omega)) rfl) Fit.sub ?_
       refine D.r 18 rfl (Runs.idxs Pt Tryz.underlying26 ty52 rfl rfl (hsome (by omega)) (by omega) (by omega)) ?_ (hJ := Fit.sub)
       refine D.step (rs := [19]) (by kernel_rfl) rfl rfl (all1 ?_)
       refine Step.read rfl (Wanted.plain rfl) rfl rfl (Runs.fld (α := Pt) (xs := es) fld52_0 rfl Sl.o (by first | omega | (simp only [List.length_set]; omega))) Fit.sub ?_
       refine D.step (rs := [20]) (by kernel_rfl) rfl rfl (all1 ?_)
       refine Step.eff rfl (Wanted.plain rfl) (Eff.setf (α := Pt) (xs := es) (e := 52) (new := { at_ es x9 with u := (at_ es x9).v }) (j := 0) ty3 rfl rfl rfl rfl (by decide) rfl (by omega) (by first | omega | (simp only [List.length_set]; omega)) (by repeat (first | exact At.head _ _ _ | apply At.tail))) ?_
       rintro _ _ ⟨rfl, rfl⟩
       refine ⟨Fit.sub, ?_⟩
       refine D.r 21 rfl (Runs.idxs Pt Tryz.underlying26 ty52 rfl rfl (hsome (by omega)) (by omega) (by omega)) ?_ (hJ := Fit.sub)
       refine D.step (rs := [22]) (by kernel_rfl) rfl rfl (all1 ?_)
       refine Step.read rfl (Wanted.plain rfl) rfl rfl (Runs.fld (α := Pt) (xs := List.set es (x9).toNat ({ at_ es x9 with u := (at_ es x9).v })) fld52_1 rfl Sl.o (by first | omega | (simp only [List.length_set]; omega))) Fit.sub ?_
       refine D.step (rs := [23]) (by kernel_rfl) rfl rfl (all1 ?_)
       refine Step.eff rfl (Wanted.plain rfl) (Eff.setf (α := Pt) (xs := List.set es (x9).toNat ({ at_ es x9 with u := (at_ es x9).v })) (e := 52) (new := { at_ (List.set es (x9).toNat ({ at_ es x9 with u := (at_ es x9).v })) x9 with v := (at_ es x9).u }) (j := 1) ty3 rfl rfl rfl rfl (by decide) rfl (by omega) (by first | omega | (simp only [List.length_set]; omega)) (by repeat (first | exact At.head _ _ _ | apply At.tail))) ?_
       rintro _ _ ⟨rfl, rfl⟩
       refine ⟨Fit.sub, ?_⟩
       refine D.done (by kernel_rfl) ?_
       refine V.block_normal ?_
       refine V.then ?_
       refine W.sub (L' := [(4, _), (3, _)]) (Sub.cons rfl (Sub.cons rfl Sub.nil)) ?_
       refine W.sr ?_
       refine G.r (Runs.lds (vs := [_, _]) ty28) ?_
       refine G.e (Eff.st (cs := [_, _]) (vs := [_, _]) (cs' := [_, _]) ty28) ?_
       rintro _ _ ⟨rfl, rfl⟩
       refine G.nt ?_
       refine W.ret ?_
       have hxl : (List.set (List.set es (x9).toNat ({ at_ es x9 with u := (at_ es x9).v })) (x9).toNat ({ at_ (List.set es (x9).toNat ({ at_ es x9 with u := (at_ es x9).v })) x9 with v := (at_ es x9).u })).length ≤ es.length + 1 := by first | omega | (simp only [List.length_set, List.length_append, List.length_cons, List.length_nil]; omega)
       have hxe : (List.set (List.set es (x9).toNat ({ at_ es x9 with u := (at_ es x9).v })) (x9).toNat ({ at_ (List.set es (x9).toNat ({ at_ es x9 with u := (at_ es x9).v })) x9 with v := (at_ es x9).u })).length = (es).length := by simp only [List.length_set, List.length_append, List.length_cons, List.length_nil]
       exact V.retc rfl ty28 rfl (by repeat (first | exact List.mem_cons_self | apply List.mem_cons_of_mem)) rfl (vc 52 (.slice ad3 (List.set (List.set es (x9).toNat ({ at_ es x9 with u := (at_ es x9).v })) (x9).toNat ({ at_ (List.set es (x9).toNat ({ at_ es x9 with u := (at_ es x9).v })) x9 with v := (at_ es x9).u })).length cp4) (List.set (List.set es (x9).toNat ({ at_ es x9 with u := (at_ es x9).v })) (x9).toNat ({ at_ (List.set es (x9).toNat ({ at_ es x9 with u := (at_ es x9).v })) x9 with v := (at_ es x9).u })) :: blk b [lv, I64 (i10)] 79 :: I) (by rw [hxe]; exact Fit.sub) ⟨(nd, ad3, cp4, List.set (List.set es (x9).toNat ({ at_ es x9 with u := (at_ es x9).v })) (x9).toNat ({ at_ (List.set es (x9).toNat ({ at_ es x9 with u := (at_ es x9).v })) x9 with v := (at_ es x9).u }), i10), ⟨⟨by simp only [List.length_set], hxl, by first | exact hm.mono (by omega) | exact (hm.snoc (hm.at (by omega) (by omega))).mono (by omega) | exact (hm.mono (by omega)).setv (by omega) (by omega) (by have h1 := hm.at (i := x9) (by omega) (by omega); unfold PB at h1; omega) | exact (((hm.set (hm.at (by omega) (by omega))).set (hm.at (by omega) (by omega)))).mono (by omega) | exact ((hm.setu (by omega) (by omega) (by have h1 := hm.at (i := x9) (by omega) (by omega); unfold PB at h1; omega)).setv (by omega) (by rw [List.length_set]; omega) (by have h1 := hm.at (i := x9) (by omega) (by omega); unfold PB at h1; omega)).mono (by omega)⟩, by show 0 ≤ i10; omega⟩, rfl⟩
     ·refine Step.read rfl (Wanted.plain rfl) rfl rfl (Runs.getf (α := Pt) (xs := es) (u := I64 ((at_ es x9).u)) ty3 rfl Sl.o (by omega) (by first | omega | (simp only [List.length_set]; omega)) rfl) Fit.sub ?_
      refine D.step (rs := [10]) (by kernel_rfl) rfl rfl (all1 ?_)
      refine Step.read rfl (Wanted.plain rfl) rfl rfl (Runs.fld (α := Pt) (xs := es) fld52_1 rfl Sl.o (by first | omega | (simp only [List.length_set]; omega))) Fit.sub ?_
      refine D.step (rs := [11]) (by kernel_rfl) rfl rfl (all1 ?_)
      refine Step.read rfl (Wanted.plain rfl) rfl rfl (Runs.getf (α := Pt) (xs := es) (u := I64 ((at_ es x9).v)) ty3 rfl Sl.o (by omega) (by first | omega | (simp only [List.length_set]; omega)) rfl) Fit.sub ?_
      refine D.r 18 rfl (Runs.idxs Pt Tryz.underlying26 ty52 rfl rfl (hsome (by omega)) (by omega) (by omega)) ?_ (hJ := Fit.sub)
      refine D.step (rs := [19]) (by kernel_rfl) rfl rfl (all1 ?_)
      refine Step.read rfl (Wanted.plain rfl) rfl rfl (Runs.fld (α := Pt) (xs := es) fld52_0 rfl Sl.o (by first | omega | (simp only [List.length_set]; omega))) Fit.sub ?_
      refine D.step (rs := [20]) (by kernel_rfl) rfl rfl (all1 ?_)
      refine Step.eff rfl (Wanted.plain rfl) (Eff.setf (α := Pt) (xs := es) (e := 52) (new := { at_ es x9 with u := (at_ es x9).v }) (j := 0) ty3 rfl rfl rfl rfl (by decide) rfl (by omega) (by first | omega | (simp only [List.length_set]; omega)) (by repeat (first | exact At.head _ _ _ | apply At.tail))) ?_
      rintro _ _ ⟨rfl, rfl⟩
      refine ⟨Fit.sub, ?_⟩
      refine D.r 21 rfl (Runs.idxs Pt Tryz.underlying26 ty52 rfl rfl (hsome (by omega)) (by omega) (by omega)) ?_ (hJ := Fit.sub)
      refine D.step (rs := [22]) (by kernel_rfl) rfl rfl (all1 ?_)
      refine Step.read rfl (Wanted.plain rfl) rfl rfl (Runs.fld (α := Pt) (xs := List.set es (x9).toNat ({ at_ es x9 with u := (at_ es x9).v })) fld52_1 rfl Sl.o (by first | omega | (simp only [List.length_set]; omega))) Fit.sub ?_
      refine D.step (rs := [23]) (by kernel_rfl) rfl rfl (all1 ?_)
      refine Step.eff rfl (Wanted.plain rfl) (Eff.setf (α := Pt) (xs := List.set es (x9).toNat ({ at_ es x9 with u := (at_ es x9).v })) (e := 52) (new := { at_ (List.set es (x9).toNat ({ at_ es x9 with u := (at_ es x9).v })) x9 with v := (at_ es x9).u }) (j := 1) ty3 rfl rfl rfl rfl (by decide) rfl (by omega) (by first | omega | (simp only [List.length_set]; omega)) (by repeat (first | exact At.head _ _ _ | apply At.tail))) ?_
      rintro _ _ ⟨rfl, rfl⟩
      refine ⟨Fit.sub, ?_⟩
      refine D.done (by kernel_rfl) ?_
      refine V.block_normal ?_
      refine V.then ?_
      refine W.sub (L' := [(4, _), (3, _)]) (Sub.cons rfl (Sub.cons rfl Sub.nil)) ?_
      refine W.sr ?_
      refine G.r (Runs.lds (vs := [_, _]) ty28) ?_
      refine G.e (Eff.st (cs := [_, _]) (vs := [_, _]) (cs' := [_, _]) ty28) ?_
      rintro _ _ ⟨rfl, rfl⟩
      refine G.nt ?_
      refine W.ret ?_
      have hxl : (List.set (List.set es (x9).toNat ({ at_ es x9 with u := (at_ es x9).v })) (x9).toNat ({ at_ (List.set es (x9).toNat ({ at_ es x9 with u := (at_ es x9).v })) x9 with v := (at_ es x9).u })).length ≤ es.length + 1 := by first | omega | (simp only [List.length_set, List.length_append, List.length_cons, List.length_nil]; omega)
      have hxe : (List.set (List.set es (x9).toNat ({ at_ es x9 with u := (at_ es x9).v })) (x9).toNat ({ at_ (List.set es (x9).toNat ({ at_ es x9 with u := (at_ es x9).v })) x9 with v := (at_ es x9).u })).length = (es).length := by simp only [List.length_set, List.length_append, List.length_cons, List.length_nil]
      exact V.retc rfl ty28 rfl (by repeat (first | exact List.mem_cons_self | apply List.mem_cons_of_mem)) rfl (vc 52 (.slice ad3 (List.set (List.set es (x9).toNat ({ at_ es x9 with u := (at_ es x9).v })) (x9).toNat ({ at_ (List.set es (x9).toNat ({ at_ es x9 with u := (at_ es x9).v })) x9 with v := (at_ es x9).u })).length cp4) (List.set (List.set es (x9).toNat ({ at_ es x9 with u := (at_ es x9).v })) (x9).toNat ({ at_ (List.set es (x9).toNat ({ at_ es x9 with u := (at_ es x9).v })) x9 with v := (at_ es x9).u })) :: blk b [lv, I64 (i10)] 79 :: I) (by rw [hxe]; exact Fit.sub) ⟨(nd, ad3, cp4, List.set (List.set es (x9).toNat ({ at_ es x9 with u := (at_ es x9).v })) (x9).toNat ({ at_ (List.set es (x9).toNat ({ at_ es x9 with u := (at_ es x9).v })) x9 with v := (at_ es x9).u }), i10), ⟨⟨by simp only [List.length_set], hxl, by first | exact hm.mono (by omega) | exact (hm.snoc (hm.at (by omega) (by omega))).mono (by omega) | exact (hm.mono (by omega)).setv (by omega) (by omega) (by have h1 := hm.at (i := x9) (by omega) (by omega); unfold PB at h1; omega) | exact (((hm.set (hm.at (by omega) (by omega))).set (hm.at (by omega) (by omega)))).mono (by omega) | exact ((hm.setu (by omega) (by omega) (by have h1 := hm.at (i := x9) (by omega) (by omega); unfold PB at h1; omega)).setv (by omega) (by rw [List.length_set]; omega) (by have h1 := hm.at (i := x9) (by omega) (by omega); unfold PB at h1; omega)).mono (by omega)⟩, by show 0 ≤ i10; omega⟩, rfl⟩
   ·refine W.skip ?_
    refine V.block_normal ?_
    refine V.then ?_
    refine W.sr ?_
    refine G.r (Runs.lds (vs := [_, _]) ty28) ?_
    refine G.e (Eff.st (cs := [_, _]) (vs := [_, _]) (cs' := [_, _]) ty28) ?_
    rintro _ _ ⟨rfl, rfl⟩
    refine G.nt ?_
    refine W.ret ?_
    have hxl : es.length ≤ es.length + 1 := by first | omega | (simp only [List.length_set, List.length_append, List.length_cons, List.length_nil]; omega)
    have hxe : es.length = (es).length := by simp only [List.length_set, List.length_append, List.length_cons, List.length_nil]
    exact V.retc rfl ty28 rfl (by repeat (first | exact List.mem_cons_self | apply List.mem_cons_of_mem)) rfl (vc 52 (.slice ad3 es.length cp4) (es) :: blk b [lv, I64 (i6)] 79 :: I) (by rw [hxe]; exact Fit.sub) ⟨(nd, ad3, cp4, es, i6), ⟨⟨by simp only [List.length_set], hxl, by first | exact hm.mono (by omega) | exact (hm.snoc (hm.at (by omega) (by omega))).mono (by omega) | exact (hm.mono (by omega)).setv (by omega) (by omega) (by have h1 := hm.at (i := x9) (by omega) (by omega); unfold PB at h1; omega) | exact (((hm.set (hm.at (by omega) (by omega))).set (hm.at (by omega) (by omega)))).mono (by omega) | exact ((hm.setu (by omega) (by omega) (by have h1 := hm.at (i := x9) (by omega) (by omega); unfold PB at h1; omega)).setv (by omega) (by rw [List.length_set]; omega) (by have h1 := hm.at (i := x9) (by omega) (by omega); unfold PB at h1; omega)).mono (by omega)⟩, by show 0 ≤ i6; omega⟩, rfl⟩
  ·refine W.sr ?_
   refine G.r (Runs.eql rfl rfl) ?_
   refine G.r (Runs.assign rfl) ?_
   refine G.nt ?_
   refine W.ite rfl (fun c51 => ?_) (fun c51 => ?_)
   ·refine W.sr ?_
    refine G.r (Runs.move rfl) ?_
    refine G.r (Runs.gtr rfl rfl) ?_
    refine G.nt ?_
    refine W.ite rfl (fun c54 => ?_) (fun c54 => ?_)
    ·refine W.drawn mixed ?_
     refine A.hold (blk b2 [I64 (0), .slice none 0 0] 28 :: blk b1 [I64 (nd), .slice ad3 (es).length cp4] 28 :: I) 20 ?_
     refine D.r 0 rfl (Runs.fieldAddr fld28_1 rfl) ?_ (hJ := Fit.sub)
     refine D.r 1 rfl (Runs.ld ty26) ?_ (hJ := Fit.sub)
     refine D.r 2 rfl (Runs.fieldAddr fld28_1 rfl) ?_ (hJ := Fit.sub)
     refine D.r 3 rfl (Runs.ld ty26) ?_ (hJ := Fit.sub)
     refine D.r 4 rfl (Runs.move rfl) ?_ (hJ := Fit.sub)
     refine D.r 5 rfl (Runs.sub rfl rfl (by unfold InR; omega)) ?_ (hJ := Fit.sub)
     refine D.r 6 rfl (Runs.fieldAddr fld28_1 rfl) ?_ (hJ := Fit.sub)
     refine D.r 7 rfl (Runs.ld ty26) ?_ (hJ := Fit.sub)
     refine D.r 8 rfl (Runs.move rfl) ?_ (hJ := Fit.sub)
     refine D.r 9 rfl (Runs.sub rfl rfl (by unfold InR; omega)) ?_ (hJ := Fit.sub)
     refine D.r 10 rfl (Runs.idxs Pt Tryz.underlying26 ty52 rfl rfl (hsome (by omega)) (by omega) (by omega)) ?_ (hJ := Fit.sub)
     refine D.r 12 rfl (Runs.fieldAddr fld28_1 rfl) ?_ (hJ := Fit.sub)
     refine D.r 13 rfl (Runs.ld ty26) ?_ (hJ := Fit.sub)
     refine D.r 14 rfl (Runs.idxs Pt Tryz.underlying26 ty52 rfl rfl (hsome (by omega)) (by omega) (by omega)) ?_ (hJ := Fit.sub)
     refine D.step (rs := [11, 15]) (by kernel_rfl) rfl rfl (all2 ?_ (all1 ?_))
     ·refine Step.read rfl (Wanted.plain rfl) rfl rfl (Runs.gets (α := Pt) (xs := es) ty52 rfl Sl.o (by omega) (by first | omega | (simp only [List.length_set]; omega))) Fit.sub ?_
      refine D.step (rs := [15]) (by kernel_rfl) rfl rfl (all1 ?_)
      refine Step.read rfl (Wanted.plain rfl) rfl rfl (Runs.gets (α := Pt) (xs := es) ty52 rfl Sl.o (by omega) (by first | omega | (simp only [List.length_set]; omega))) Fit.sub ?_
      refine D.r 16 rfl (Runs.idxs Pt Tryz.underlying26 ty52 rfl rfl (hsome (by omega)) (by omega) (by omega)) ?_ (hJ := Fit.sub)
      refine D.step (rs := [17]) (by kernel_rfl) rfl rfl (all1 ?_)
      refine Step.eff rfl (Wanted.plain rfl) (Eff.set (α := Pt) (xs := es) (e := 52) (new := ⟨(at_ es ((((es).length : Nat) : Int) - 1)).u, (at_ es ((((es).length : Nat) : Int) - 1)).v⟩) ty52 rfl rfl rfl (by omega) (by first | omega | (simp only [List.length_set]; omega)) (by repeat (first | exact At.head _ _ _ | apply At.tail))) ?_
      rintro _ _ ⟨rfl, rfl⟩
      refine ⟨Fit.sub, ?_⟩
      refine D.r 18 rfl (Runs.idxs Pt Tryz.underlying26 ty52 rfl rfl (hsome (by omega)) (by omega) (by omega)) ?_ (hJ := Fit.sub)
      refine D.step (rs := [19]) (by kernel_rfl) rfl rfl (all1 ?_)
      refine Step.eff rfl (Wanted.plain rfl) (Eff.set (α := Pt) (xs := List.set es ((0 : Int)).toNat (⟨(at_ es ((((es).length : Nat) : Int) - 1)).u, (at_ es ((((es).length : Nat) : Int) - 1)).v⟩)) (e := 52) (new := ⟨(at_ es (0 : Int)).u, (at_ es (0 : Int)).v⟩) ty52 rfl rfl rfl (by omega) (by first | omega | (simp only [List.length_set]; omega)) (by repeat (first | exact At.head _ _ _ | apply At.tail))) ?_
      rintro _ _ ⟨rfl, rfl⟩
      refine ⟨Fit.sub, ?_⟩
      refine D.done (by kernel_rfl) ?_
      refine V.block_normal ?_
      refine V.then ?_
      refine W.sub (L' := [(4, _), (3, _)]) (Sub.cons rfl (Sub.cons rfl Sub.nil)) ?_
      refine W.sr ?_
      refine G.r (Runs.lds (vs := [_, _]) ty28) ?_
      refine G.e (Eff.st (cs := [_, _]) (vs := [_, _]) (cs' := [_, _]) ty28) ?_
      rintro _ _ ⟨rfl, rfl⟩
      refine G.nt ?_
      refine W.ret ?_
      have hxl : (List.set (List.set es ((0 : Int)).toNat (⟨(at_ es ((((es).length : Nat) : Int) - 1)).u, (at_ es ((((es).length : Nat) : Int) - 1)).v⟩)) ((((es).length : Nat) : Int) - 1).toNat (⟨(at_ es (0 : Int)).u, (at_ es (0 : Int)).v⟩)).length ≤ es.length + 1 := by first | omega | (simp only [List.length_set, List.length_append, List.length_cons, List.length_nil]; omega)
      have hxe : (List.set (List.set es ((0 : Int)).toNat (⟨(at_ es ((((es).length : Nat) : Int) - 1)).u, (at_ es ((((es).length : Nat) : Int) - 1)).v⟩)) ((((es).length : Nat) : Int) - 1).toNat (⟨(at_ es (0 : Int)).u, (at_ es (0 : Int)).v⟩)).length = (es).length := by simp only [List.length_set, List.length_append, List.length_cons, List.length_nil]
      exact V.retc rfl ty28 rfl (by repeat (first | exact List.mem_cons_self | apply List.mem_cons_of_mem)) rfl (vc 52 (.slice ad3 (List.set (List.set es ((0 : Int)).toNat (⟨(at_ es ((((es).length : Nat) : Int) - 1)).u, (at_ es ((((es).length : Nat) : Int) - 1)).v⟩)) ((((es).length : Nat) : Int) - 1).toNat (⟨(at_ es (0 : Int)).u, (at_ es (0 : Int)).v⟩)).length cp4) (List.set (List.set es ((0 : Int)).toNat (⟨(at_ es ((((es).length : Nat) : Int) - 1)).u, (at_ es ((((es).length : Nat) : Int) - 1)).v⟩)) ((((es).length : Nat) : Int) - 1).toNat (⟨(at_ es (0 : Int)).u, (at_ es (0 : Int)).v⟩)) :: blk b [lv, I64 (i6)] 79 :: I) (by rw [hxe]; exact Fit.sub) ⟨(nd, ad3, cp4, List.set (List.set es ((0 : Int)).toNat (⟨(at_ es ((((es).length : Nat) : Int) - 1)).u, (at_ es ((((es).length : Nat) : Int) - 1)).v⟩)) ((((es).length : Nat) : Int) - 1).toNat (⟨(at_ es (0 : Int)).u, (at_ es (0 : Int)).v⟩), i6), ⟨⟨by simp only [List.length_set], hxl, by first | exact hm.mono (by omega) | exact (hm.snoc (hm.at (by omega) (by omega))).mono (by omega) | exact (hm.mono (by omega)).setv (by omega) (by omega) (by have h1 := hm.at (i := x9) (by omega) (by omega); unfold PB at h1; omega) | exact (((hm.set (hm.at (by omega) (by omega))).set (hm.at (by omega) (by omega)))).mono (by omega) | exact ((hm.setu (by omega) (by omega) (by have h1 := hm.at (i := x9) (by omega) (by omega); unfold PB at h1; omega)).setv (by omega) (by rw [List.length_set]; omega) (by have h1 := hm.at (i := x9) (by omega) (by omega); unfold PB at h1; omega)).mono (by omega)⟩, by show 0 ≤ i6; omega⟩, rfl⟩
     ·refine Step.read rfl (Wanted.plain rfl) rfl rfl (Runs.gets (α := Pt) (xs := es) ty52 rfl Sl.o (by omega) (by first | omega | (simp only [List.length_set]; omega))) Fit.sub ?_
      refine D.step (rs := [11]) (by kernel_rfl) rfl rfl (all1 ?_)
      refine Step.read rfl (Wanted.plain rfl) rfl rfl (Runs.gets (α := Pt) (xs := es) ty52 rfl Sl.o (by omega) (by first | omega | (simp only [List.length_set]; omega))) Fit.sub ?_
      refine D.r 16 rfl (Runs.idxs Pt Tryz.underlying26 ty52 rfl rfl (hsome (by omega)) (by omega) (by omega)) ?_ (hJ := Fit.sub)
      refine D.step (rs := [17]) (by kernel_rfl) rfl rfl (all1 ?_)
      refine Step.eff rfl (Wanted.plain rfl) (Eff.set (α := Pt) (xs := es) (e := 52) (new := ⟨(at_ es ((((es).length : Nat) : Int) - 1)).u, (at_ es ((((es).length : Nat) : Int) - 1)).v⟩) ty52 rfl rfl rfl (by omega) (by first | omega | (simp only [List.length_set]; omega)) (by repeat (first | exact At.head _ _ _ | apply At.tail))) ?_
      rintro _ _ ⟨rfl, rfl⟩
      refine ⟨Fit.sub, ?_⟩
      refine D.r 18 rfl (Runs.idxs Pt Tryz.underlying26 ty52 rfl rfl (hsome (by omega)) (by omega) (by omega)) ?_ (hJ := Fit.sub)
      refine D.step (rs := [19]) (by kernel_rfl) rfl rfl (all1 ?_)
      refine Step.eff rfl (Wanted.plain rfl) (Eff.set (α := Pt) (xs := List.set es ((0 : Int)).toNat (⟨(at_ es ((((es).length : Nat) : Int) - 1)).u, (at_ es ((((es).length : Nat) : Int) - 1)).v⟩)) (e := 52) (new := ⟨(at_ es (0 : Int)).u, (at_ es (0 : Int)).v⟩) ty52 rfl rfl rfl (by omega) (by first | omega | (simp only [List.length_set]; omega)) (by repeat (first | exact At.head _ _ _ | apply At.tail))) ?_
      rintro _ _ ⟨rfl, rfl⟩
      refine ⟨Fit.sub, ?_⟩
      refine D.done (by kernel_rfl) ?_
      refine V.block_normal ?_
      refine V.then ?_
      refine W.sub (L' := [(4, _), (3, _)]) (Sub.cons rfl (Sub.cons rfl Sub.nil)) ?_
      refine W.sr ?_
      refine G.r (Runs.lds (vs := [_, _]) ty28) ?_
      refine G.e (Eff.st (cs := [_, _]) (vs := [_, _]) (cs' := [_, _]) ty28) ?_
      rintro _ _ ⟨rfl, rfl⟩
      refine G.nt ?_
      refine W.ret ?_
      have hxl : (List.set (List.set es ((0 : Int)).toNat (⟨(at_ es ((((es).length : Nat) : Int) - 1)).u, (at_ es ((((es).length : Nat) : Int) - 1)).v⟩)) ((((es).length : Nat) : Int) - 1).toNat (⟨(at_ es (0 : Int)).u, (at_ es (0 : Int)).v⟩)).length ≤ es.length + 1 := by first | omega | (simp only [List.length_set, List.length_append, List.length_cons, List.length_nil]; omega)
      have hxe : (List.set (List.set es ((0 : Int)).toNat (⟨(at_ es ((((es).length : Nat) : Int) - 1)).u, (at_ es ((((es).length : Nat) : Int) - 1)).v⟩)) ((((es).length : Nat) : Int) - 1).toNat (⟨(at_ es (0 : Int)).u, (at_ es (0 : Int)).v⟩)).length = (es).length := by simp only [List.length_set, List.length_append, List.length_cons, List.length_nil]
      exact V.retc rfl ty28 rfl (by repeat (first | exact List.mem_cons_self | apply List.mem_cons_of_mem)) rfl (vc 52 (.slice ad3 (List.set (List.set es ((0 : Int)).toNat (⟨(at_ es ((((es).length : Nat) : Int) - 1)).u, (at_ es ((((es).length : Nat) : Int) - 1)).v⟩)) ((((es).length : Nat) : Int) - 1).toNat (⟨(at_ es (0 : Int)).u, (at_ es (0 : Int)).v⟩)).length cp4) (List.set (List.set es ((0 : Int)).toNat (⟨(at_ es ((((es).length : Nat) : Int) - 1)).u, (at_ es ((((es).length : Nat) : Int) - 1)).v⟩)) ((((es).length : Nat) : Int) - 1).toNat (⟨(at_ es (0 : Int)).u, (at_ es (0 : Int)).v⟩)) :: blk b [lv, I64 (i6)] 79 :: I) (by rw [hxe]; exact Fit.sub) ⟨(nd, ad3, cp4, List.set (List.set es ((0 : Int)).toNat (⟨(at_ es ((((es).length : Nat) : Int) - 1)).u, (at_ es ((((es).length : Nat) : Int) - 1)).v⟩)) ((((es).length : Nat) : Int) - 1).toNat (⟨(at_ es (0 : Int)).u, (at_ es (0 : Int)).v⟩), i6), ⟨⟨by simp only [List.length_set], hxl, by first | exact hm.mono (by omega) | exact (hm.snoc (hm.at (by omega) (by omega))).mono (by omega) | exact (hm.mono (by omega)).setv (by omega) (by omega) (by have h1 := hm.at (i := x9) (by omega) (by omega); unfold PB at h1; omega) | exact (((hm.set (hm.at (by omega) (by omega))).set (hm.at (by omega) (by omega)))).mono (by omega) | exact ((hm.setu (by omega) (by omega) (by have h1 := hm.at (i := x9) (by omega) (by omega); unfold PB at h1; omega)).setv (by omega) (by rw [List.length_set]; omega) (by have h1 := hm.at (i := x9) (by omega) (by omega); unfold PB at h1; omega)).mono (by omega)⟩, by show 0 ≤ i6; omega⟩, rfl⟩
    ·refine W.skip ?_
     refine V.block_normal ?_
     refine V.then ?_
     refine W.sr ?_
     refine G.r (Runs.lds (vs := [_, _]) ty28) ?_
     refine G.e (Eff.st (cs := [_, _]) (vs := [_, _]) (cs' := [_, _]) ty28) ?_
     rintro _ _ ⟨rfl, rfl⟩
     refine G.nt ?_
     refine W.sub (L' := [(4, _)]) (Sub.cons rfl Sub.nil) ?_
     refine W.ret ?_
     have hxl : es.length ≤ es.length + 1 := by first | omega | (simp only [List.length_set, List.length_append, List.length_cons, List.length_nil]; omega)
     have hxe : es.length = (es).length := by simp only [List.length_set, List.length_append, List.length_cons, List.length_nil]
     exact V.retc rfl ty28 rfl (by repeat (first | exact List.mem_cons_self | apply List.mem_cons_of_mem)) rfl (vc 52 (.slice ad3 es.length cp4) (es) :: blk b [lv, I64 (i6)] 79 :: I) (by rw [hxe]; exact Fit.sub) ⟨(nd, ad3, cp4, es, i6), ⟨⟨by simp only [List.length_set], hxl, by first | exact hm.mono (by omega) | exact (hm.snoc (hm.at (by omega) (by omega))).mono (by omega) | exact (hm.mono (by omega)).setv (by omega) (by omega) (by have h1 := hm.at (i := x9) (by omega) (by omega); unfold PB at h1; omega) | exact (((hm.set (hm.at (by omega) (by omega))).set (hm.at (by omega) (by omega)))).mono (by omega) | exact ((hm.setu (by omega) (by omega) (by have h1 := hm.at (i := x9) (by omega) (by omega); unfold PB at h1; omega)).setv (by omega) (by rw [List.length_set]; omega) (by have h1 := hm.at (i := x9) (by omega) (by omega); unfold PB at h1; omega)).mono (by omega)⟩, by show 0 ≤ i6; omega⟩, rfl⟩
   ·refine W.sr ?_
    refine G.r (Runs.eql rfl rfl) ?_
    refine G.r (Runs.assign rfl) ?_
    refine G.nt ?_
    refine W.ite rfl (fun c73 => ?_) (fun c73 => ?_)
    ·refine W.sr ?_
     refine G.r (Runs.move rfl) ?_
     refine G.r (Runs.gtr rfl rfl) ?_
     refine G.nt ?_
     refine W.sub (L' := [(76, _), (5, _), (4, _), (3, _)]) (Sub.cons rfl (Sub.cons rfl (Sub.cons rfl (Sub.cons rfl Sub.nil)))) ?_
     refine W.ite rfl (fun c76 => ?_) (fun c76 => ?_)
     ·refine W.drawn mixed ?_
      refine A.hold (blk b2 [I64 (0), .slice none 0 0] 28 :: blk b1 [I64 (nd), .slice ad3 (es).length cp4] 28 :: I) 11 ?_
      refine D.r 0 rfl (Runs.fieldAddr fld28_1 rfl) ?_ (hJ := Fit.sub)
      refine D.r 1 rfl (Runs.ld ty26) ?_ (hJ := Fit.sub)
      refine D.r 2 rfl (Runs.fieldAddr fld28_1 rfl) ?_ (hJ := Fit.sub)
      refine D.r 3 rfl (Runs.ld ty26) ?_ (hJ := Fit.sub)
      refine D.r 4 rfl (Runs.move rfl) ?_ (hJ := Fit.sub)
      refine D.r 5 rfl (Runs.sub rfl rfl (by unfold InR; omega)) ?_ (hJ := Fit.sub)
      refine D.r 6 rfl (Runs.idxs Pt Tryz.underlying26 ty52 rfl rfl (hsome (by omega)) (by omega) (by omega)) ?_ (hJ := Fit.sub)
      refine D.step (rs := [7]) (by kernel_rfl) rfl rfl (all1 ?_)
      refine Step.read rfl (Wanted.plain rfl) rfl rfl (Runs.gets (α := Pt) (xs := es) ty52 rfl Sl.o (by omega) (by first | omega | (simp only [List.length_set]; omega))) Fit.sub ?_
      refine D.step (rs := [8]) (by kernel_rfl) rfl rfl (all1 ?_)
      refine Step.eff rfl (Wanted.plain rfl) (Eff.bs (α := Pt) (cs := [_, _]) (xs := [⟨(at_ es ((((es).length : Nat) : Int) - 1)).u, (at_ es ((((es).length : Nat) : Int) - 1)).v⟩]) Tryz.underlying26 ty52 rfl rfl (by decide) (by decide) rfl rfl rfl rfl) ?_
      rintro _ _ ⟨ad11, rfl, rfl⟩
      refine ⟨Fit.sub, ?_⟩
      refine D.step (rs := [9]) (by kernel_rfl) rfl rfl (all1 ?_)
      refine Step.eff rfl (Wanted.plain rfl) (Eff.app (α := Pt) (e := 52) (xs := es) (ys := ([⟨(at_ es ((((es).length : Nat) : Int) - 1)).u, (at_ es ((((es).length : Nat) : Int) - 1)).v⟩] : List Pt)) Tryz.underlying26 ty52 rfl rfl rfl (by repeat (first | exact List.mem_cons_self | apply List.mem_cons_of_mem)) Sl.o (by first | omega | (simp only [List.length_cons, List.length_nil]; omega)) (by decide) rfl (fun _ _ => (by repeat (first | exact At.head _ _ _ | apply At.tail)))) ?_
      rintro _ _ ⟨ad12, cp13, rfl, rfl⟩
      refine ⟨Fit.sub, ?_⟩
      refine D.r 10 rfl (Runs.fieldAddr fld28_1 rfl) ?_ (hJ := Fit.sub)
      refine D.stop (by kernel_rfl) ?_
      refine A.eff (i := 11) (by kernel_rfl) rfl (Wanted.plain rfl) (Eff.st (cs := [_, _]) (vs := [_]) (cs' := [_, _]) ty26) ?_
      rintro _ _ ⟨rfl, rfl⟩
      refine A.done (by kernel_rfl) ?_
      refine V.block_normal ?_
      refine V.then ?_
      refine W.sub (L' := [(4, _), (3, _)]) (Sub.cons rfl (Sub.cons rfl Sub.nil)) ?_
      refine W.sr ?_
      refine G.r (Runs.lds (vs := [_, _]) ty28) ?_
      refine G.e (Eff.st (cs := [_, _]) (vs := [_, _]) (cs' := [_, _]) ty28) ?_
      rintro _ _ ⟨rfl, rfl⟩
      refine G.nt ?_
      refine W.ret ?_
      have hxl : (es ++ ([⟨(at_ es ((((es).length : Nat) : Int) - 1)).u, (at_ es ((((es).length : Nat) : Int) - 1)).v⟩] : List Pt)).length ≤ es.length + 1 := by first | omega | (simp only [List.length_set, List.length_append, List.length_cons, List.length_nil]; omega)
      exact V.retc rfl ty28 rfl (by repeat (first | exact List.mem_cons_self | apply List.mem_cons_of_mem)) rfl (vc 52 (.slice ad12 (es ++ ([⟨(at_ es ((((es).length : Nat) : Int) - 1)).u, (at_ es ((((es).length : Nat) : Int) - 1)).v⟩] : List Pt)).length cp13) (es ++ ([⟨(at_ es ((((es).length : Nat) : Int) - 1)).u, (at_ es ((((es).length : Nat) : Int) - 1)).v⟩] : List Pt)) :: blk b [lv, I64 (i6)] 79 :: I) Fit.sub ⟨(nd, ad12, cp13, es ++ ([⟨(at_ es ((((es).length : Nat) : Int) - 1)).u, (at_ es ((((es).length : Nat) : Int) - 1)).v⟩] : List Pt), i6), ⟨⟨rfl, hxl, by first | exact hm.mono (by omega) | exact (hm.snoc (hm.at (by omega) (by omega))).mono (by omega) | exact (hm.mono (by omega)).setv (by omega) (by omega) (by have h1 := hm.at (i := x9) (by omega) (by omega); unfold PB at h1; omega) | exact (((hm.set (hm.at (by omega) (by omega))).set (hm.at (by omega) (by omega)))).mono (by omega) | exact ((hm.setu (by omega) (by omega) (by have h1 := hm.at (i := x9) (by omega) (by omega); unfold PB at h1; omega)).setv (by omega) (by rw [List.length_set]; omega) (by have h1 := hm.at (i := x9) (by omega) (by omega); unfold PB at h1; omega)).mono (by omega)⟩, by show 0 ≤ i6; omega⟩, rfl⟩
     ·refine W.skip ?_
      refine V.block_normal ?_
      refine V.then ?_
      refine W.sr ?_
      refine G.r (Runs.lds (vs := [_, _]) ty28) ?_
      refine G.e (Eff.st (cs := [_, _]) (vs := [_, _]) (cs' := [_, _]) ty28) ?_
      rintro _ _ ⟨rfl, rfl⟩
      refine G.nt ?_
      refine W.ret ?_
      have hxl : es.length ≤ es.length + 1 := by first | omega | (simp only [List.length_set, List.length_append, List.length_cons, List.length_nil]; omega)
      have hxe : es.length = (es).length := by simp only [List.length_set, List.length_append, List.length_cons, List.length_nil]
      exact V.retc rfl ty28 rfl (by repeat (first | exact List.mem_cons_self | apply List.mem_cons_of_mem)) rfl (vc 52 (.slice ad3 es.length cp4) (es) :: blk b [lv, I64 (i6)] 79 :: I) (by rw [hxe]; exact Fit.sub) ⟨(nd, ad3, cp4, es, i6), ⟨⟨by simp only [List.length_set], hxl, by first | exact hm.mono (by omega) | exact (hm.snoc (hm.at (by omega) (by omega))).mono (by omega) | exact (hm.mono (by omega)).setv (by omega) (by omega) (by have h1 := hm.at (i := x9) (by omega) (by omega); unfold PB at h1; omega) | exact (((hm.set (hm.at (by omega) (by omega))).set (hm.at (by omega) (by omega)))).mono (by omega) | exact ((hm.setu (by omega) (by omega) (by have h1 := hm.at (i := x9) (by omega) (by omega); unfold PB at h1; omega)).setv (by omega) (by rw [List.length_set]; omega) (by have h1 := hm.at (i := x9) (by omega) (by omega); unfold PB at h1; omega)).mono (by omega)⟩, by show 0 ≤ i6; omega⟩, rfl⟩
    ·refine W.sr ?_
     refine G.r (Runs.eql rfl rfl) ?_
     refine G.r (Runs.assign rfl) ?_
     refine G.nt ?_
     refine W.sub (L' := [(88, _), (5, _), (4, _), (3, _), (0, _)]) (Sub.cons rfl (Sub.cons rfl (Sub.cons rfl (Sub.cons rfl (Sub.cons rfl Sub.nil))))) ?_
     refine W.ite rfl (fun c88 => ?_) (fun c88 => ?_)
     ·refine W.sr ?_
      refine G.r (Runs.move rfl) ?_
      refine G.r (Runs.gtr rfl rfl) ?_
      refine G.nt ?_
      refine W.ite rfl (fun c91 => ?_) (fun c91 => ?_)
      ·refine W.drawn mixed ?_
       refine A.hold (blk b2 [I64 (0), .slice none 0 0] 28 :: blk b1 [I64 (nd), .slice ad3 (es).length cp4] 28 :: I) 15 ?_
       refine D.r 0 rfl (Runs.fieldAddr fld28_1 rfl) ?_ (hJ := Fit.sub)
       refine D.r 1 rfl (Runs.ld ty26) ?_ (hJ := Fit.sub)
       refine D.r 2 rfl (Runs.move rfl) ?_ (hJ := Fit.sub)
       refine D.r 3 rfl (Runs.move rfl) ?_ (hJ := Fit.sub)
       refine D.r 8 rfl (Runs.move rfl) ?_ (hJ := Fit.sub)
       refine D.step (rs := [4]) (by kernel_rfl) rfl rfl (all1 ?_)
       refine Step.eff rfl (Wanted.plain rfl) (Eff.call call10 rfl rfl (Next_ok (by repeat (first | exact AtF.head _ _ | apply AtF.tail)) (Sl.fit (hl _) Fit.m) (by omega) (by omega))) ?_
       rintro _ _ ⟨_, _, ⟨x14, i15, rfl, hx14, hi15, rfl⟩, rfl, rfl⟩
       refine ⟨Fit.sub, ?_⟩
       show D Tryz.prog κ _ _ _ _ _ _ _ ([(96, I64 (x14)), (100, .pointer (some ⟨b, 0, none⟩)), (95, I64 ((((es).length : Nat) : Int))), (94, .pointer (some ⟨b, 0, none⟩)), (93, .slice ad3 (es).length cp4), (92, .pointer (some ⟨b1, 1, none⟩)), (91, .bool (decide (0 < (((es).length : Nat) : Int)))), (90, I64 ((((es).length : Nat) : Int))), (88, .bool (decide (x5 = 4))), (5, I64 ((((es).length : Nat) : Int))), (4, .pointer (some ⟨b2, 0, none⟩)), (3, .pointer (some ⟨b1, 0, none⟩)), (0, .pointer (some ⟨b, 0, none⟩))] : Env) (vc 52 (.slice ad3 (es).length cp4) (es) :: blk b2 [I64 (0), .slice none 0 0] 28 :: blk b1 [I64 (nd), .slice ad3 (es).length cp4] 28 :: blk b [lv, I64 (i15)] 79 :: I)
       have hbp := hm.at (i := x14) (by omega) (by omega)
       unfold PB at hbp
       refine D.r 5 rfl (Runs.idxs Pt Tryz.underlying26 ty52 rfl rfl (hsome (by omega)) (by omega) (by omega)) ?_ (hJ := Fit.sub)
       refine D.step (rs := [6, 9]) (by kernel_rfl) rfl rfl (all2 ?_ (all1 ?_))
       ·refine Step.read rfl (Wanted.plain rfl) rfl rfl (Runs.fld (α := Pt) (xs := es) fld52_1 rfl Sl.o (by first | omega | (simp only [List.length_set]; omega))) Fit.sub ?_
        refine D.step (rs := [7, 9]) (by kernel_rfl) rfl rfl (all2 ?_ (all1 ?_))
        ·refine Step.read rfl (Wanted.plain rfl) rfl rfl (Runs.getf (α := Pt) (xs := es) (u := I64 ((at_ es x14).v)) ty3 rfl Sl.o (by omega) (by first | omega | (simp only [List.length_set]; omega)) rfl) Fit.sub ?_
         refine D.step (rs := [9]) (by kernel_rfl) rfl rfl (all1 ?_)
         refine Step.eff rfl (Wanted.plain rfl) (Eff.call call10 rfl rfl (Next_ok (by repeat (first | exact AtF.head _ _ | apply AtF.tail)) (Sl.fit (hl _) Fit.m) (by omega) (by omega))) ?_
         rintro _ _ ⟨_, _, ⟨x16, i17, rfl, hx16, hi17, rfl⟩, rfl, rfl⟩
         refine ⟨Fit.sub, ?_⟩
         show D Tryz.prog κ _ _ _ _ _ _ _ ([(101, I64 (x16)), (99, I64 ((at_ es x14).v)), (98, elemPtr (.slice ad3 (es).length cp4) ((x14).toNat * Enc.sz Pt + 1)), (97, elemPtr (.slice ad3 (es).length cp4) ((x14).toNat * Enc.sz Pt)), (96, I64 (x14)), (100, .pointer (some ⟨b, 0, none⟩)), (95, I64 ((((es).length : Nat) : Int))), (94, .pointer (some ⟨b, 0, none⟩)), (93, .slice ad3 (es).length cp4), (92, .pointer (some ⟨b1, 1, none⟩)), (91, .bool (decide (0 < (((es).length : Nat) : Int)))), (90, I64 ((((es).length : Nat) : Int))), (88, .bool (decide (x5 = 4))), (5, I64 ((((es).length : Nat) : Int))), (4, .pointer (some ⟨b2, 0, none⟩)), (3, .pointer (some ⟨b1, 0, none⟩)), (0, .pointer (some ⟨b, 0, none⟩))] : Env) (vc 52 (.slice ad3 (es).length cp4) (es) :: blk b2 [I64 (0), .slice none 0 0] 28 :: blk b1 [I64 (nd), .slice ad3 (es).length cp4] 28 :: blk b [lv, I64 (i17)] 79 :: I)
         refine D.r 10 rfl (Runs.sub rfl rfl (by unfold InR; omega)) ?_ (hJ := Fit.sub)
         refine D.r 11 rfl (Runs.add rfl rfl (by unfold InR; omega)) ?_ (hJ := Fit.sub)
         refine D.r 12 rfl (Runs.idxs Pt Tryz.underlying26 ty52 rfl rfl (hsome (by omega)) (by omega) (by omega)) ?_ (hJ := Fit.sub)
         refine D.step (rs := [13]) (by kernel_rfl) rfl rfl (all1 ?_)
         refine Step.read rfl (Wanted.plain rfl) rfl rfl (Runs.fld (α := Pt) (xs := es) fld52_1 rfl Sl.o (by first | omega | (simp only [List.length_set]; omega))) Fit.sub ?_
         refine D.step (rs := [14]) (by kernel_rfl) rfl rfl (all1 ?_)
         refine Step.eff rfl (Wanted.plain rfl) (Eff.setf (α := Pt) (xs := es) (e := 52) (new := { at_ es x14 with v := ((at_ es x14).v) + (x16 - 2) }) (j := 1) ty3 rfl rfl rfl rfl (by decide) rfl (by omega) (by first | omega | (simp only [List.length_set]; omega)) (by repeat (first | exact At.head _ _ _ | apply At.tail))) ?_
         rintro _ _ ⟨rfl, rfl⟩
         refine ⟨Fit.sub, ?_⟩
         refine D.done (by kernel_rfl) ?_
         refine V.block_normal ?_
         refine V.then ?_
         refine W.sub (L' := [(4, _), (3, _)]) (Sub.cons rfl (Sub.cons rfl Sub.nil)) ?_
         refine W.sr ?_
         refine G.r (Runs.lds (vs := [_, _]) ty28) ?_
         refine G.e (Eff.st (cs := [_, _]) (vs := [_, _]) (cs' := [_, _]) ty28) ?_
         rintro _ _ ⟨rfl, rfl⟩
         refine G.nt ?_
         refine W.ret ?_
         have hxl : (List.set es (x14).toNat ({ at_ es x14 with v := ((at_ es x14).v) + (x16 - 2) })).length ≤ es.length + 1 := by first | omega | (simp only [List.length_set, List.length_append, List.length_cons, List.length_nil]; omega)
         have hxe : (List.set es (x14).toNat ({ at_ es x14 with v := ((at_ es x14).v) + (x16 - 2) })).length = (es).length := by simp only [List.length_set, List.length_append, List.length_cons, List.length_nil]
         exact V.retc rfl ty28 rfl (by repeat (first | exact List.mem_cons_self | apply List.mem_cons_of_mem)) rfl (vc 52 (.slice ad3 (List.set es (x14).toNat ({ at_ es x14 with v := ((at_ es x14).v) + (x16 - 2) })).length cp4) (List.set es (x14).toNat ({ at_ es x14 with v := ((at_ es x14).v) + (x16 - 2) })) :: blk b [lv, I64 (i17)] 79 :: I) (by rw [hxe]; exact Fit.sub) ⟨(nd, ad3, cp4, List.set es (x14).toNat ({ at_ es x14 with v := ((at_ es x14).v) + (x16 - 2) }), i17), ⟨⟨by simp only [List.length_set], hxl, by first | exact hm.mono (by omega) | exact (hm.snoc (hm.at (by omega) (by omega))).mono (by omega) | exact (hm.mono (by omega)).setv (by omega) (by omega) (by have h1 := hm.at (i := x14) (by omega) (by omega); unfold PB at h1; omega) | exact (((hm.set (hm.at (by omega) (by omega))).set (hm.at (by omega) (by omega)))).mono (by omega) | exact ((hm.setu (by omega) (by omega) (by have h1 := hm.at (i := x14) (by omega) (by omega); unfold PB at h1; omega)).setv (by omega) (by rw [List.length_set]; omega) (by have h1 := hm.at (i := x14) (by omega) (by omega); unfold PB at h1; omega)).mono (by omega)⟩, by show 0 ≤ i17; omega⟩, rfl⟩
        ·refine Step.eff rfl (Wanted.plain rfl) (Eff.call call10 rfl rfl (Next_ok (by repeat (first | exact AtF.head _ _ | apply AtF.tail)) (Sl.fit (hl _) Fit.m) (by omega) (by omega))) ?_
         rintro _ _ ⟨_, _, ⟨x18, i19, rfl, hx18, hi19, rfl⟩, rfl, rfl⟩
         refine ⟨Fit.sub, ?_⟩
         show D Tryz.prog κ _ _ _ _ _ _ _ ([(101, I64 (x18)), (98, elemPtr (.slice ad3 (es).length cp4) ((x14).toNat * Enc.sz Pt + 1)), (97, elemPtr (.slice ad3 (es).length cp4) ((x14).toNat * Enc.sz Pt)), (96, I64 (x14)), (100, .pointer (some ⟨b, 0, none⟩)), (95, I64 ((((es).length : Nat) : Int))), (94, .pointer (some ⟨b, 0, none⟩)), (93, .slice ad3 (es).length cp4), (92, .pointer (some ⟨b1, 1, none⟩)), (91, .bool (decide (0 < (((es).length : Nat) : Int)))), (90, I64 ((((es).length : Nat) : Int))), (88, .bool (decide (x5 = 4))), (5, I64 ((((es).length : Nat) : Int))), (4, .pointer (some ⟨b2, 0, none⟩)), (3, .pointer (some ⟨b1, 0, none⟩)), (0, .pointer (some ⟨b, 0, none⟩))] : Env) (vc 52 (.slice ad3 (es).length cp4) (es) :: blk b2 [I64 (0), .slice none 0 0] 28 :: blk b1 [I64 (nd), .slice ad3 (es).length cp4] 28 :: blk b [lv, I64 (i19)] 79 :: I)
         refine D.r 10 rfl (Runs.sub rfl rfl (by unfold InR; omega)) ?_ (hJ := Fit.sub)
         refine D.step (rs := [7]) (by kernel_rfl) rfl rfl (all1 ?_)
         refine Step.read rfl (Wanted.plain rfl) rfl rfl (Runs.getf (α := Pt) (xs := es) (u := I64 ((at_ es x14).v)) ty3 rfl Sl.o (by omega) (by first | omega | (simp only [List.length_set]; omega)) rfl) Fit.sub ?_
         refine D.r 11 rfl (Runs.add rfl rfl (by unfold InR; omega)) ?_ (hJ := Fit.sub)
         refine D.r 12 rfl (Runs.idxs Pt Tryz.underlying26 ty52 rfl rfl (hsome (by omega)) (by omega) (by omega)) ?_ (hJ := Fit.sub)
         refine D.step (rs := [13]) (by kernel_rfl) rfl rfl (all1 ?_)
         refine Step.read rfl (Wanted.plain rfl) rfl rfl (Runs.fld (α := Pt) (xs := es) fld52_1 rfl Sl.o (by first | omega | (simp only [List.length_set]; omega))) Fit.sub ?_
         refine D.step (rs := [14]) (by kernel_rfl) rfl rfl (all1 ?_)
         refine Step.eff rfl (Wanted.plain rfl) (Eff.setf (α := Pt) (xs := es) (e := 52) (new := { at_ es x14 with v := ((at_ es x14).v) + (x18 - 2) }) (j := 1) ty3 rfl rfl rfl rfl (by decide) rfl (by omega) (by first | omega | (simp only [List.length_set]; omega)) (by repeat (first | exact At.head _ _ _ | apply At.tail))) ?_
         rintro _ _ ⟨rfl, rfl⟩
         refine ⟨Fit.sub, ?_⟩
         refine D.done (by kernel_rfl) ?_
         refine V.block_normal ?_
         refine V.then ?_
         refine W.sub (L' := [(4, _), (3, _)]) (Sub.cons rfl (Sub.cons rfl Sub.nil)) ?_
         refine W.sr ?_
         refine G.r (Runs.lds (vs := [_, _]) ty28) ?_
         refine G.e (Eff.st (cs := [_, _]) (vs := [_, _]) (cs' := [_, _]) ty28) ?_
         rintro _ _ ⟨rfl, rfl⟩
         refine G.nt ?_
         refine W.ret ?_
         have hxl : (List.set es (x14).toNat ({ at_ es x14 with v := ((at_ es x14).v) + (x18 - 2) })).length ≤ es.length + 1 := by first | omega | (simp only [List.length_set, List.length_append, List.length_cons, List.length_nil]; omega)
         have hxe : (List.set es (x14).toNat ({ at_ es x14 with v := ((at_ es x14).v) + (x18 - 2) })).length = (es).length := by simp only [List.length_set, List.length_append, List.length_cons, List.length_nil]
         exact V.retc rfl ty28 rfl (by repeat (first | exact List.mem_cons_self | apply List.mem_cons_of_mem)) rfl (vc 52 (.slice ad3 (List.set es (x14).toNat ({ at_ es x14 with v := ((at_ es x14).v) + (x18 - 2) })).length cp4) (List.set es (x14).toNat ({ at_ es x14 with v := ((at_ es x14).v) + (x18 - 2) })) :: blk b [lv, I64 (i19)] 79 :: I) (by rw [hxe]; exact Fit.sub) ⟨(nd, ad3, cp4, List.set es (x14).toNat ({ at_ es x14 with v := ((at_ es x14).v) + (x18 - 2) }), i19), ⟨⟨by simp only [List.length_set], hxl, by first | exact hm.mono (by omega) | exact (hm.snoc (hm.at (by omega) (by omega))).mono (by omega) | exact (hm.mono (by omega)).setv (by omega) (by omega) (by have h1 := hm.at (i := x14) (by omega) (by omega); unfold PB at h1; omega) | exact (((hm.set (hm.at (by omega) (by omega))).set (hm.at (by omega) (by omega)))).mono (by omega) | exact ((hm.setu (by omega) (by omega) (by have h1 := hm.at (i := x14) (by omega) (by omega); unfold PB at h1; omega)).setv (by omega) (by rw [List.length_set]; omega) (by have h1 := hm.at (i := x14) (by omega) (by omega); unfold PB at h1; omega)).mono (by omega)⟩, by show 0 ≤ i19; omega⟩, rfl⟩
       ·refine Step.eff rfl (Wanted.plain rfl) (Eff.call call10 rfl rfl (Next_ok (by repeat (first | exact AtF.head _ _ | apply AtF.tail)) (Sl.fit (hl _) Fit.m) (by omega) (by omega))) ?_
        rintro _ _ ⟨_, _, ⟨x20, i21, rfl, hx20, hi21, rfl⟩, rfl, rfl⟩
        refine ⟨Fit.sub, ?_⟩
        show D Tryz.prog κ _ _ _ _ _ _ _ ([(101, I64 (x20)), (97, elemPtr (.slice ad3 (es).length cp4) ((x14).toNat * Enc.sz Pt)), (96, I64 (x14)), (100, .pointer (some ⟨b, 0, none⟩)), (95, I64 ((((es).length : Nat) : Int))), (94, .pointer (some ⟨b, 0, none⟩)), (93, .slice ad3 (es).length cp4), (92, .pointer (some ⟨b1, 1, none⟩)), (91, .bool (decide (0 < (((es).length : Nat) : Int)))), (90, I64 ((((es).length : Nat) : Int))), (88, .bool (decide (x5 = 4))), (5, I64 ((((es).length : Nat) : Int))), (4, .pointer (some ⟨b2, 0, none⟩)), (3, .pointer (some ⟨b1, 0, none⟩)), (0, .pointer (some ⟨b, 0, none⟩))] : Env) (vc 52 (.slice ad3 (es).length cp4) (es) :: blk b2 [I64 (0), .slice none 0 0] 28 :: blk b1 [I64 (nd), .slice ad3 (es).length cp4] 28 :: blk b [lv, I64 (i21)] 79 :: I)
        refine D.r 10 rfl (Runs.sub rfl rfl (by unfold InR; omega)) ?_ (hJ := Fit.sub)
        refine D.step (rs := [6]) (by kernel_rfl) rfl rfl (all1 ?_)
        refine Step.read rfl (Wanted.plain rfl) rfl rfl (Runs.fld (α := Pt) (xs := es) fld52_1 rfl Sl.o (by first | omega | (simp only [List.length_set]; omega))) Fit.sub ?_
        refine D.step (rs := [7]) (by kernel_rfl) rfl rfl (all1 ?_)
        refine Step.read rfl (Wanted.plain rfl) rfl rfl (Runs.getf (α := Pt) (xs := es) (u := I64 ((at_ es x14).v)) ty3 rfl Sl.o (by omega) (by first | omega | (simp only [List.length_set]; omega)) rfl) Fit.sub ?_
        refine D.r 11 rfl (Runs.add rfl rfl (by unfold InR; omega)) ?_ (hJ := Fit.sub)
        refine D.r 12 rfl (Runs.idxs Pt Tryz.underlying26 ty52 rfl rfl (hsome (by omega)) (by omega) (by omega)) ?_ (hJ := Fit.sub)
        refine D.step (rs := [13]) (by kernel_rfl) rfl rfl (all1 ?_)
        refine Step.read rfl (Wanted.plain rfl) rfl rfl (Runs.fld (α := Pt) (xs := es) fld52_1 rfl Sl.o (by first | omega | (simp only [List.length_set]; omega))) Fit.sub ?_
        refine D.step (rs := [14]) (by kernel_rfl) rfl rfl (all1 ?_)
        refine Step.eff rfl (Wanted.plain rfl) (Eff.setf (α := Pt) (xs := es) (e := 52) (new := { at_ es x14 with v := ((at_ es x14).v) + (x20 - 2) }) (j := 1) ty3 rfl rfl rfl rfl (by decide) rfl (by omega) (by first | omega | (simp only [List.length_set]; omega)) (by repeat (first | exact At.head _ _ _ | apply At.tail))) ?_
        rintro _ _ ⟨rfl, rfl⟩
        refine ⟨Fit.sub, ?_⟩
        refine D.done (by kernel_rfl) ?_
        refine V.block_normal ?_
        refine V.then ?_
        refine W.sub (L' := [(4, _), (3, _)]) (Sub.cons rfl (Sub.cons rfl Sub.nil)) ?_
        refine W.sr ?_
        refine G.r (Runs.lds (vs := [_, _]) ty28) ?_
        refine G.e (Eff.st (cs := [_, _]) (vs := [_, _]) (cs' := [_, _]) ty28) ?_
        rintro _ _ ⟨rfl, rfl⟩
        refine G.nt ?_
        refine W.ret ?_
        have hxl : (List.set es (x14).toNat ({ at_ es x14 with v := ((at_ es x14).v) + (x20 - 2) })).length ≤ es.length + 1 := by first | omega | (simp only [List.length_set, List.length_append, List.length_cons, List.length_nil]; omega)
        have hxe : (List.set es (x14).toNat ({ at_ es x14 with v := ((at_ es x14).v) + (x20 - 2) })).length = (es).length := by simp only [List.length_set, List.length_append, List.length_cons, List.length_nil]
        exact V.retc rfl ty28 rfl (by repeat (first | exact List.mem_cons_self | apply List.mem_cons_of_mem)) rfl (vc 52 (.slice ad3 (List.set es (x14).toNat ({ at_ es x14 with v := ((at_ es x14).v) + (x20 - 2) })).length cp4) (List.set es (x14).toNat ({ at_ es x14 with v := ((at_ es x14).v) + (x20 - 2) })) :: blk b [lv, I64 (i21)] 79 :: I) (by rw [hxe]; exact Fit.sub) ⟨(nd, ad3, cp4, List.set es (x14).toNat ({ at_ es x14 with v := ((at_ es x14).v) + (x20 - 2) }), i21), ⟨⟨by simp only [List.length_set], hxl, by first | exact hm.mono (by omega) | exact (hm.snoc (hm.at (by omega) (by omega))).mono (by omega) | exact (hm.mono (by omega)).setv (by omega) (by omega) (by have h1 := hm.at (i := x14) (by omega) (by omega); unfold PB at h1; omega) | exact (((hm.set (hm.at (by omega) (by omega))).set (hm.at (by omega) (by omega)))).mono (by omega) | exact ((hm.setu (by omega) (by omega) (by have h1 := hm.at (i := x14) (by omega) (by omega); unfold PB at h1; omega)).setv (by omega) (by rw [List.length_set]; omega) (by have h1 := hm.at (i := x14) (by omega) (by omega); unfold PB at h1; omega)).mono (by omega)⟩, by show 0 ≤ i21; omega⟩, rfl⟩
      ·refine W.skip ?_
       refine V.block_normal ?_
       refine V.then ?_
       refine W.sr ?_
       refine G.r (Runs.lds (vs := [_, _]) ty28) ?_
       refine G.e (Eff.st (cs := [_, _]) (vs := [_, _]) (cs' := [_, _]) ty28) ?_
       rintro _ _ ⟨rfl, rfl⟩
       refine G.nt ?_
       refine W.ret ?_
       have hxl : es.length ≤ es.length + 1 := by first | omega | (simp only [List.length_set, List.length_append, List.length_cons, List.length_nil]; omega)
       have hxe : es.length = (es).length := by simp only [List.length_set, List.length_append, List.length_cons, List.length_nil]
       exact V.retc rfl ty28 rfl (by repeat (first | exact List.mem_cons_self | apply List.mem_cons_of_mem)) rfl (vc 52 (.slice ad3 es.length cp4) (es) :: blk b [lv, I64 (i6)] 79 :: I) (by rw [hxe]; exact Fit.sub) ⟨(nd, ad3, cp4, es, i6), ⟨⟨by simp only [List.length_set], hxl, by first | exact hm.mono (by omega) | exact (hm.snoc (hm.at (by omega) (by omega))).mono (by omega) | exact (hm.mono (by omega)).setv (by omega) (by omega) (by have h1 := hm.at (i := x14) (by omega) (by omega); unfold PB at h1; omega) | exact (((hm.set (hm.at (by omega) (by omega))).set (hm.at (by omega) (by omega)))).mono (by omega) | exact ((hm.setu (by omega) (by omega) (by have h1 := hm.at (i := x14) (by omega) (by omega); unfold PB at h1; omega)).setv (by omega) (by rw [List.length_set]; omega) (by have h1 := hm.at (i := x14) (by omega) (by omega); unfold PB at h1; omega)).mono (by omega)⟩, by show 0 ≤ i6; omega⟩, rfl⟩
     ·refine W.skip ?_
      refine V.block_normal ?_
      refine V.then ?_
      refine W.sr ?_
      refine G.r (Runs.lds (vs := [_, _]) ty28) ?_
      refine G.e (Eff.st (cs := [_, _]) (vs := [_, _]) (cs' := [_, _]) ty28) ?_
      rintro _ _ ⟨rfl, rfl⟩
      refine G.nt ?_
      refine W.ret ?_
      have hxl : es.length ≤ es.length + 1 := by first | omega | (simp only [List.length_set, List.length_append, List.length_cons, List.length_nil]; omega)
      have hxe : es.length = (es).length := by simp only [List.length_set, List.length_append, List.length_cons, List.length_nil]
      exact V.retc rfl ty28 rfl (by repeat (first | exact List.mem_cons_self | apply List.mem_cons_of_mem)) rfl (vc 52 (.slice ad3 es.length cp4) (es) :: blk b [lv, I64 (i6)] 79 :: I) (by rw [hxe]; exact Fit.sub) ⟨(nd, ad3, cp4, es, i6), ⟨⟨by simp only [List.length_set], hxl, by first | exact hm.mono (by omega) | exact (hm.snoc (hm.at (by omega) (by omega))).mono (by omega) | exact (hm.mono (by omega)).setv (by omega) (by omega) (by have h1 := hm.at (i := x14) (by omega) (by omega); unfold PB at h1; omega) | exact (((hm.set (hm.at (by omega) (by omega))).set (hm.at (by omega) (by omega)))).mono (by omega) | exact ((hm.setu (by omega) (by omega) (by have h1 := hm.at (i := x14) (by omega) (by omega); unfold PB at h1; omega)).setv (by omega) (by rw [List.length_set]; omega) (by have h1 := hm.at (i := x14) (by omega) (by omega); unfold PB at h1; omega)).mono (by omega)⟩, by show 0 ≤ i6; omega⟩, rfl⟩

theorem Spoilt_at {κ : Ctx} {I : List Item} {F : Item → List Item} {b : Nat} {lv : Value} {ls : List Int} {i : Int} {a0 : Option Addr} {c0 : Nat} {nd B : Int} {es : List Pt} (hat : AtF I (deck b lv i) F) (hl : ∀ q, Sl κ (F (deck b lv q)) lv ls) (h0 : 0 ≤ i) (hv : ∀ q, Sl κ (F (deck b lv q)) (.slice a0 es.length c0) es) (hm : BdE B es) (hB : 0 ≤ B ∧ B ≤ 1000000) (hlen : es.length ≤ 100000) :
    CallS Tryz.prog κ 11 [.pointer (some ⟨b, 0, none⟩), .agg #[I64 (nd), .slice a0 es.length c0]] I fun r J => ∃ y : Int × (Option Addr) × Nat × (List Pt) × Int, ((r = .agg #[I64 y.1, .slice y.2.1 y.2.2.2.1.length y.2.2.1] ∧ y.2.2.2.1.length ≤ es.length + 1 ∧ BdE (B + 10) y.2.2.2.1) ∧ 0 ≤ y.2.2.2.2) ∧ J = [vc 52 (.slice y.2.1 y.2.2.2.1.length y.2.2.1) y.2.2.2.1] ++ F (deck b lv y.2.2.2.2) :=
  CallS.at (Post := fun r (y : Int × (Option Addr) × Nat × (List Pt) × Int) => (r = .agg #[I64 y.1, .slice y.2.1 y.2.2.2.1.length y.2.2.1] ∧ y.2.2.2.1.length ≤ es.length + 1 ∧ BdE (B + 10) y.2.2.2.1) ∧ 0 ≤ y.2.2.2.2) (Z := fun y : Int × (Option Addr) × Nat × (List Pt) × Int => [vc 52 (.slice y.2.1 y.2.2.2.1.length y.2.2.1) y.2.2.2.1]) (X := fun y : Int × (Option Addr) × Nat × (List Pt) × Int => deck b lv y.2.2.2.2) hat fun J _ hF => Spoilt_base (fun q => (hl q).fit (hF _)) h0 (fun q => (hv q).fit (hF _)) hm hB hlen

end Go.Sl
namespace Go.Sl
open Go.Proofs
set_option linter.unusedVariables false
set_option linter.unusedSimpArgs false
set_option maxRecDepth 4000

end Go.Sl
namespace Go.Sl
open Go.Proofs
set_option linter.unusedVariables false
set_option linter.unusedSimpArgs false
set_option maxRecDepth 4000

end Go.Sl
