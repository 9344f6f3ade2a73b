/- A part of the proofs of statements of this seat: contracts of functions, and the plain laws that they lean on. No conditions. -/
import Derived.Test.YtbimaodbcjjbfaaGreatDoorGraphL5
import Derived.Test.YtbimaodbcjjbfaaGreatDoorRunsY
namespace Go.Sl
open Go.Proofs
set_option linter.unusedVariables false
set_option linter.unusedSimpArgs false
set_option maxRecDepth 4000
theorem Check03G_ok {κ : Ctx} {I : List Item} {nd : Int} {v : Value} {es : List Pt} (hl : Sl κ I v es) :
    CallS Tryz.prog κ 35 [.agg #[I64 (nd), v]] I (fun r J => r = I64 (checkG nd es) ∧ I = J) := by
 refine CallS.pull hl.le fun hmax => ?_
 refine CallS.enter (L := [(0, .agg #[I64 (nd), v])]) Tryz.func35 rfl rfl rfl rfl ?_
 refine W.sr ?_
 refine G.e (Eff.box (cs := [_, _]) rfl rfl rfl) ?_
 rintro _ _ ⟨b1, rfl, rfl⟩
 refine G.r (Runs.assign rfl) ?_
 refine G.nt ?_
 refine W.seq ?_
 refine W.sr ?_
 refine G.r (Runs.fieldAddr fld28_0 rfl) ?_
 refine G.r (Runs.ld ty3) ?_
 refine G.r (Runs.lss rfl rfl) ?_
 refine G.r (Runs.move rfl) ?_
 refine G.split (d := 8) rfl (fun g8 => ?_) (fun g8 => ?_)
 ·refine G.po ?_
  refine G.po ?_
  refine G.po ?_
  refine G.r (Runs.pickt rfl rfl) ?_
  refine G.nt ?_
  refine W.yes rfl ?_
  refine W.sr ?_
  refine G.r (Runs.assign rfl) ?_
  refine G.nt ?_
  refine W.ret ?_
  refine V.then_ret ?_
  exact V.ret1 rfl rfl (I) Fit.m ⟨by rw [show checkG nd es = 1 from (by unfold checkG; rw [if_pos (by omega)])], rfl⟩
 ·refine G.ro (Runs.fieldAddr fld28_0 rfl) ?_
  refine G.ro (Runs.ld ty3) ?_
  refine G.ro (Runs.gtr rfl rfl) ?_
  refine G.r (Runs.pickf rfl rfl) ?_
  refine G.nt ?_
  refine W.ite rfl (fun c12 => ?_) (fun c12 => ?_)
  ·refine W.sr ?_
   refine G.r (Runs.assign rfl) ?_
   refine G.nt ?_
   refine W.ret ?_
   refine V.then_ret ?_
   exact V.ret1 rfl rfl (I) Fit.m ⟨by rw [show checkG nd es = 1 from (by unfold checkG; rw [if_pos (by omega)])], rfl⟩
  ·refine W.skip ?_
   refine V.then ?_
   refine W.seq ?_
   refine W.sr ?_
   refine G.r (Runs.fieldAddr fld28_1 rfl) ?_
   refine G.r (Runs.ld ty26) ?_
   refine G.r (Runs.lenT (α := Pt) (xs := es) Tryz.underlying26 rfl (Sl.f hl)) ?_
   refine G.r (Runs.move rfl) ?_
   refine G.nt ?_
   refine W.sub (L' := [(16, _), (15, _), (14, _), (1, _)]) (Sub.cons rfl (Sub.cons rfl (Sub.cons rfl (Sub.cons rfl Sub.nil)))) ?_
   refine W.block ?_
   refine W.loop (σ := Nat) (fun s => ([(1, .pointer (some ⟨b1, 0, none⟩)), (14, v), (15, I64 (((es.length : Nat) : Int))), (16, I64 (((s : Nat) : Int)))] : Env)) (fun s => blk b1 [I64 (nd), v] 28 :: I) (fun s => (s ≤ es.length) ∧ (checkG nd es = scanL (badE nd) Pt.lt (prevAt es s) (es.drop s))) (fun s => es.length - s) (0) (show ((0 : Nat) ≤ es.length) ∧ (checkG nd es = scanL (badE nd) Pt.lt (prevAt es (0 : Nat)) (es.drop (0 : Nat))) from ⟨(by omega), (by unfold checkG; rw [if_neg (by omega)]; rfl)⟩) (Sub.cons rfl (Sub.cons rfl (Sub.cons rfl (Sub.cons lookO Sub.nil)))) (show Fit κ _ (blk b1 [I64 (nd), v] 28 :: I) from Fit.sub) ?_
   rintro k hp
   obtain ⟨hk, hs⟩ : (k ≤ es.length) ∧ (checkG nd es = scanL (badE nd) Pt.lt (prevAt es k) (es.drop k)) := hp
   show W Tryz.prog κ 52 _ _ ([(1, .pointer (some ⟨b1, 0, none⟩)), (14, v), (15, I64 (((es.length : Nat) : Int))), (16, I64 (((k : Nat) : Int)))] : Env) (blk b1 [I64 (nd), v] 28 :: I)
   refine W.sr ?_
   refine G.r (Runs.lss rfl rfl) ?_
   refine G.nt ?_
   refine W.seq ?_
   refine W.ite rfl (fun c17 => ?_) (fun c17 => ?_)
   ·refine W.skip ?_
    refine V.then ?_
    refine W.seq ?_
    refine W.block ?_
    refine W.sr ?_
    refine G.r (Runs.move rfl) ?_
    refine G.r (Runs.idx (α := Pt) (xs := es) Tryz.underlying26 ty52 rfl rfl (Sl.f hl) (by omega) (by omega)) ?_
    refine G.r (Runs.gets (α := Pt) (xs := es) ty52 rfl (Sl.f hl) (by omega) (by omega)) ?_
    refine G.e (Eff.alloc ty52 rfl) ?_
    rintro _ _ ⟨b2, rfl, rfl⟩
    refine G.r (Runs.assign rfl) ?_
    refine G.e (Eff.st (cs := [_, _]) (vs := [_, _]) (cs' := [_, _]) ty52) ?_
    rintro _ _ ⟨rfl, rfl⟩
    refine G.nt ?_
    refine W.seq ?_
    refine W.sr ?_
    refine G.r (Runs.fieldAddr fld52_0 rfl) ?_
    refine G.r (Runs.ld ty3) ?_
    refine G.r (Runs.lss rfl rfl) ?_
    refine G.r (Runs.move rfl) ?_
    refine G.split (d := 24) rfl (fun g24 => ?_) (fun g24 => ?_)
    ·refine G.po ?_
     refine G.po ?_
     refine G.po ?_
     refine G.po ?_
     refine G.po ?_
     refine G.r (Runs.pickt rfl rfl) ?_
     refine G.r (Runs.move rfl) ?_
     refine G.po ?_
     refine G.po ?_
     refine G.po ?_
     refine G.po ?_
     refine G.po ?_
     refine G.r (Runs.pickt rfl rfl) ?_
     refine G.nt ?_
     refine W.sub (L' := [(37, _), (3, _), (4, _), (1, _), (14, _), (15, _), (16, _)]) (Sub.cons rfl (Sub.cons rfl (Sub.cons rfl (Sub.cons rfl (Sub.cons rfl (Sub.cons rfl (Sub.cons rfl Sub.nil))))))) ?_
     refine W.yes rfl ?_
     refine W.sr ?_
     refine G.r (Runs.assign rfl) ?_
     refine G.nt ?_
     refine W.ret ?_
     refine V.then_ret ?_
     refine V.block_ret ?_
     refine V.then_ret ?_
     refine V.then_ret ?_
     refine V.block_ret ?_
     refine V.then_ret ?_
     exact V.ret1 rfl rfl (I) Fit.m ⟨by rw [show checkG nd es = 6 from (hs.trans ((scanL_bad (by omega) (by unfold badE; rw [if_pos (by omega)]; decide)).trans (by unfold badE; rw [if_pos (by omega)])))], rfl⟩
    ·refine G.ro (Runs.fieldAddr fld52_0 rfl) ?_
     refine G.ro (Runs.ld ty3) ?_
     refine G.ro (Runs.fieldAddr fld52_1 rfl) ?_
     refine G.ro (Runs.ld ty3) ?_
     refine G.ro (Runs.geq rfl rfl) ?_
     refine G.r (Runs.pickf rfl rfl) ?_
     refine G.r (Runs.move rfl) ?_
     refine G.split (d := 31) rfl (fun g31 => ?_) (fun g31 => ?_)
     ·refine G.po ?_
      refine G.po ?_
      refine G.po ?_
      refine G.po ?_
      refine G.po ?_
      refine G.r (Runs.pickt rfl rfl) ?_
      refine G.nt ?_
      refine W.sub (L' := [(37, _), (3, _), (4, _), (1, _), (14, _), (15, _), (16, _)]) (Sub.cons rfl (Sub.cons rfl (Sub.cons rfl (Sub.cons rfl (Sub.cons rfl (Sub.cons rfl (Sub.cons rfl Sub.nil))))))) ?_
      refine W.yes rfl ?_
      refine W.sr ?_
      refine G.r (Runs.assign rfl) ?_
      refine G.nt ?_
      refine W.ret ?_
      refine V.then_ret ?_
      refine V.block_ret ?_
      refine V.then_ret ?_
      refine V.then_ret ?_
      refine V.block_ret ?_
      refine V.then_ret ?_
      exact V.ret1 rfl rfl (I) Fit.m ⟨by rw [show checkG nd es = 6 from (hs.trans ((scanL_bad (by omega) (by unfold badE; rw [if_pos (by omega)]; decide)).trans (by unfold badE; rw [if_pos (by omega)])))], rfl⟩
     ·refine G.ro (Runs.fieldAddr fld52_1 rfl) ?_
      refine G.ro (Runs.ld ty3) ?_
      refine G.ro (Runs.fieldAddr fld28_0 rfl) ?_
      refine G.ro (Runs.ld ty3) ?_
      refine G.ro (Runs.geq rfl rfl) ?_
      refine G.r (Runs.pickf rfl rfl) ?_
      refine G.nt ?_
      refine W.sub (L' := [(37, _), (3, _), (4, _), (1, _), (14, _), (15, _), (16, _)]) (Sub.cons rfl (Sub.cons rfl (Sub.cons rfl (Sub.cons rfl (Sub.cons rfl (Sub.cons rfl (Sub.cons rfl Sub.nil))))))) ?_
      refine W.ite rfl (fun c37 => ?_) (fun c37 => ?_)
      ·refine W.sr ?_
       refine G.r (Runs.assign rfl) ?_
       refine G.nt ?_
       refine W.ret ?_
       refine V.then_ret ?_
       refine V.block_ret ?_
       refine V.then_ret ?_
       refine V.then_ret ?_
       refine V.block_ret ?_
       refine V.then_ret ?_
       exact V.ret1 rfl rfl (I) Fit.m ⟨by rw [show checkG nd es = 6 from (hs.trans ((scanL_bad (by omega) (by unfold badE; rw [if_pos (by omega)]; decide)).trans (by unfold badE; rw [if_pos (by omega)])))], rfl⟩
      ·refine W.skip ?_
       refine V.then ?_
       refine W.seq ?_
       refine W.drawn mixed ?_
       refine A.hold (blk b2 [I64 ((at_ es ((k : Nat) : Int)).u), I64 ((at_ es ((k : Nat) : Int)).v)] 52 :: blk b1 [I64 (nd), v] 28 :: I) 13 ?_
       refine D.r 0 rfl (Runs.move rfl) ?_
       refine D.r 1 rfl (Runs.gtr rfl rfl) ?_
       refine D.r 2 rfl (Runs.move rfl) ?_
       refine D.split (d := 40) rfl (fun g40 => ?_) (fun g40 => ?_)
       ·refine D.ro 3 rfl (Runs.fieldAddr fld28_1 rfl) ?_
        refine D.ro 4 rfl (Runs.ld ty26) ?_
        refine D.ro 5 rfl (Runs.move rfl) ?_
        refine D.ro 6 rfl (Runs.sub rfl rfl (by unfold InR; omega)) ?_
        refine D.ro 7 rfl (Runs.idx (α := Pt) (xs := es) Tryz.underlying26 ty52 rfl rfl (Sl.f hl) (by omega) (by omega)) ?_
        refine D.ro 8 rfl (Runs.gets (α := Pt) (xs := es) ty52 rfl (Sl.f hl) (by omega) (by omega)) ?_
        refine D.ro 9 rfl (Runs.lds (vs := [_, _]) ty52) ?_
        refine D.step (rs := [10]) (by kernel_rfl) rfl rfl (all1 ?_)
        refine Step.eff rfl (Wanted.on rfl rfl rfl) (Eff.call call88 rfl rfl (Before03_ok (at_ es (((k : Nat) : Int) - 1)) (at_ es ((k : Nat) : Int)))) ?_
        rintro _ _ ⟨_, _, ⟨rfl, rfl⟩, rfl, rfl⟩
        refine ⟨Fit.m, ?_⟩
        refine D.ro 11 rfl (Runs.notd rfl) ?_
        refine D.r 12 rfl (Runs.pickt rfl rfl) ?_
        refine D.done (by kernel_rfl) ?_
        refine V.then ?_
        refine W.sub (L' := [(50, _), (1, _), (14, _), (15, _), (16, _)]) (Sub.cons rfl (Sub.cons rfl (Sub.cons rfl (Sub.cons rfl (Sub.cons rfl Sub.nil))))) ?_
        refine W.ite rfl (fun c50 => ?_) (fun c50 => ?_)
        ·refine W.sr ?_
         refine G.r (Runs.assign rfl) ?_
         refine G.nt ?_
         refine W.ret ?_
         refine V.block_ret ?_
         refine V.then_ret ?_
         refine V.then_ret ?_
         refine V.block_ret ?_
         refine V.then_ret ?_
         exact V.ret1 rfl rfl (I) Fit.m ⟨by rw [show checkG nd es = 5 from (hs.trans (scanL_order (by omega) (badE_zero.2 (by omega)) (by omega) (by first | assumption | simpa using c50)))], rfl⟩
        ·refine W.skip ?_
         refine V.block_normal ?_
         refine V.then ?_
         refine W.region ?_
         refine G.r (Runs.add rfl rfl (by unfold InR; omega)) ?_
         refine G.r (Runs.move rfl) ?_
         refine G.nil ?_
         exact V.next ((k + 1)) (show ((k + 1 : Nat) ≤ es.length) ∧ (checkG nd es = scanL (badE nd) Pt.lt (prevAt es (k + 1 : Nat)) (es.drop (k + 1 : Nat))) from ⟨(by omega), (hs.trans (scanL_step (by omega) (badE_zero.2 (by omega)) (fun h0 => by first | omega | exact Classical.not_not.1 (by assumption) | assumption)))⟩) (show es.length - (k + 1 : Nat) < es.length - k from (by omega)) (Sub.cons rfl (Sub.cons rfl (Sub.cons rfl (Sub.cons lookO Sub.nil)))) (show Fit κ _ (blk b1 [I64 (nd), v] 28 :: I) from Fit.sub)
       ·refine D.po 3 rfl ?_
        refine D.po 4 rfl ?_
        refine D.po 5 rfl ?_
        refine D.po 6 rfl ?_
        refine D.po 7 rfl ?_
        refine D.po 8 rfl ?_
        refine D.po 9 rfl ?_
        refine D.po 10 rfl ?_
        refine D.po 11 rfl ?_
        refine D.r 12 rfl (Runs.pickf rfl rfl) ?_
        refine D.done (by kernel_rfl) ?_
        refine V.then ?_
        refine W.sub (L' := [(50, _), (1, _), (14, _), (15, _), (16, _)]) (Sub.cons rfl (Sub.cons rfl (Sub.cons rfl (Sub.cons rfl (Sub.cons rfl Sub.nil))))) ?_
        refine W.no rfl ?_
        refine W.skip ?_
        refine V.block_normal ?_
        refine V.then ?_
        refine W.region ?_
        refine G.r (Runs.add rfl rfl (by unfold InR; omega)) ?_
        refine G.r (Runs.move rfl) ?_
        refine G.nil ?_
        exact V.next ((k + 1)) (show ((k + 1 : Nat) ≤ es.length) ∧ (checkG nd es = scanL (badE nd) Pt.lt (prevAt es (k + 1 : Nat)) (es.drop (k + 1 : Nat))) from ⟨(by omega), (hs.trans (scanL_step (by omega) (badE_zero.2 (by omega)) (fun h0 => by first | omega | exact Classical.not_not.1 (by assumption) | assumption)))⟩) (show es.length - (k + 1 : Nat) < es.length - k from (by omega)) (Sub.cons rfl (Sub.cons rfl (Sub.cons rfl (Sub.cons lookO Sub.nil)))) (show Fit κ _ (blk b1 [I64 (nd), v] 28 :: I) from Fit.sub)
   ·refine W.exit ?_
    refine V.then_exit ?_
    refine V.then_exit ?_
    refine V.block_hit ?_
    refine V.then ?_
    refine W.sr ?_
    refine G.r (Runs.assign rfl) ?_
    refine G.nt ?_
    refine W.ret ?_
    exact V.ret1 rfl rfl (I) Fit.m ⟨by rw [show checkG nd es = 0 from (hs.trans (scanL_end (by omega)))], rfl⟩

end Go.Sl
namespace Go.Sl
open Go.Proofs
set_option linter.unusedVariables false
set_option linter.unusedSimpArgs false
set_option maxRecDepth 4000
section
variable {P : Program} {κ : Ctx} {N : Nat} {L : Env} {I J : List Item} {d : Option Tmp} {ty : TypeId} {ps : String} {af : Array Edge} {gd : Option (Nat × Bool)}
theorem vc.isSome {α : Type} [Enc α] {xs : List α} {e : TypeId} {ad : Option Addr} {n c : Nat} (h : vc e (.slice ad n c) xs ∈ I) : ∀ w, Sep κ w I → (0 < xs.length → ad ≠ none) := fun w hs hlt => by
  obtain ⟨b, o, cap, h0, _⟩ := ((Sl.vec (κ := κ) h) w hs).some hlt
  cases h0
  exact fun hh => by cases hh
/-- The address of an element; what lies there is not looked at. -/
theorem Runs.idxs (α : Type) [Enc α] {x y : Operand} {T E by' n c : Nat} {ag : Bool} {z : List Value} {ad : Option Addr} {i : Int} (ht : P.underlying T = some (.slice E)) (hE : tyF P E = some (Enc.sz α, ag, by', z)) (hx : evalO L x = some (.slice ad n c))
    (hy : evalO L y = some (I64 i)) (ha : ad ≠ none) (h0 : 0 ≤ i) (hn : i < n) : Runs P κ N ⟨d, .indexAddr T x y, ty, ps, af, gd⟩ L J (elemPtr (.slice ad n c) (i.toNat * Enc.sz α)) := by
  cases ad with
  | none => exact absurd rfl ha
  | some ad => exact fun a w ha hs => by simp [execOp, ha.eval hx, ha.eval hy, Instr.indexAt, asIntOf, run_underlying ht, h0, hn, run_sizeOf hE, elemPtr]
end

end Go.Sl
namespace Go.Sl
open Go.Proofs
set_option linter.unusedVariables false
set_option linter.unusedSimpArgs false
set_option maxRecDepth 4000

end Go.Sl
namespace Go.Sl
open Go.Proofs
set_option linter.unusedVariables false
set_option linter.unusedSimpArgs false
set_option maxRecDepth 4000

end Go.Sl
