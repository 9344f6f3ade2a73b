/- A part of the proofs of statements of this seat: contracts of functions, and the plain laws that they lean on. No conditions. -/
import Derived.Test.YtbimaodbcjjbfaaGreatDoorDirQ
import Derived.Test.YtbimaodbcjjbfaaGreatDoorDirR
namespace Go.Sl
open Go.Proofs
set_option linter.unusedVariables false
set_option linter.unusedSimpArgs false
set_option maxRecDepth 4000
section
variable {P : Program} {κ : Ctx} {N : Nat} {L : Env} {I J : List Item} {d : Option Tmp} {ty : TypeId} {ps : String} {af : Array Edge} {gd : Option (Nat × Bool)}
theorem vcD.isSome {α : Type} [Enc α] {xs : List α} {e : TypeId} {ad : Option Addr} {n c : Nat} (h : vc e (.slice ad n c) xs ∈ I) : ∀ w, Sep κ w I → (0 < xs.length → ad ≠ none) := fun w hs hlt => by
  obtain ⟨b, o, cap, h0, _⟩ := ((Sl.vec (κ := κ) h) w hs).some hlt
  cases h0
  exact fun hh => by cases hh
/-- The address of an element; what lies there is not looked at. -/
theorem Runs.idxsD (α : Type) [Enc α] {x y : Operand} {T E by' n c : Nat} {ag : Bool} {z : List Value} {ad : Option Addr} {i : Int} (ht : P.underlying T = some (.slice E)) (hE : tyF P E = some (Enc.sz α, ag, by', z)) (hx : evalO L x = some (.slice ad n c))
    (hy : evalO L y = some (I64 i)) (ha : ad ≠ none) (h0 : 0 ≤ i) (hn : i < n) : Runs P κ N ⟨d, .indexAddr T x y, ty, ps, af, gd⟩ L J (elemPtr (.slice ad n c) (i.toNat * Enc.sz α)) := by
  cases ad with
  | none => exact absurd rfl ha
  | some ad => exact fun a w ha hs => by simp [execOp, ha.eval hx, ha.eval hy, Instr.indexAt, asIntOf, run_underlying ht, h0, hn, run_sizeOf hE, elemPtr]
/-- An index into an element that is an array. -/
theorem Runs.idxElD {α : Type} [Enc α] {xs : List α} {x y : Operand} {T E n sz m by' : Nat} {ag : Bool} {z : List Value} {v : Value} {i : Int} (ht : P.underlying T = some (.array n E)) (hE : tyF P E = some (sz, ag, by', z)) (hx : evalO L x = some (elemPtr v m))
    (hy : evalO L y = some (I64 i)) (hv : Sl κ J v xs) (hl : 0 < xs.length) (h0 : 0 ≤ i) (hn : i < n) : Runs P κ N ⟨d, .indexAddr T x y, ty, ps, af, gd⟩ L J (elemPtr v (m + i.toNat * sz)) := fun a w ha hs => by
  obtain ⟨b, o, cap, rfl, _⟩ := (hv w hs).some hl
  simp [execOp, ha.eval hx, ha.eval hy, elemPtr, Instr.indexAt, asIntOf, run_underlying ht, h0, hn, run_sizeOf hE, Instr.sureAddr, addr_add, Nat.add_assoc]
end
/-- A digraph as an element. -/
structure DgV where
  n : Int
  a : Option Addr
  c : Nat
  xs : List Pt
instance : Inhabited DgV := ⟨⟨0, none, 0, []⟩⟩
instance : Enc DgV := ⟨fun r => [I64 r.n, .slice r.a r.xs.length r.c], 2, by omega, fun _ => rfl, fun r u hu => by
  simp only [List.mem_cons, List.not_mem_nil, or_false] at hu
  rcases hu with rfl | rfl <;> rfl⟩
def HeldDg (κ : Ctx) (I : List Item) (rs : List DgV) : Prop := ∀ r ∈ rs, Sl κ I (.slice r.a r.xs.length r.c) r.xs
theorem HeldDg.nil {κ : Ctx} {I : List Item} : HeldDg κ I [] := fun r hr => by cases hr
theorem HeldDg.cons {κ : Ctx} {I : List Item} {r : DgV} {rs : List DgV} (h1 : Sl κ I (.slice r.a r.xs.length r.c) r.xs) (h : HeldDg κ I rs) : HeldDg κ I (r :: rs) := fun x hx => by
  rcases List.mem_cons.1 hx with rfl | hx
  · exact h1
  · exact h x hx
theorem HeldDg.at {κ : Ctx} {I : List Item} {rs : List DgV} (h : HeldDg κ I rs) {i : Int} (h0 : 0 ≤ i) (hn : i < rs.length) : Sl κ I (.slice (at_ rs i).a (at_ rs i).xs.length (at_ rs i).c) (at_ rs i).xs := h _ (at_mem h0 hn)

theorem Odd23_base {κ : Ctx} {I : List Item} {b : Nat} {lv : Value} {ls : List Int} {i : Int} {a0 : Option Addr} {c0 : Nat} {nd : Int} {ars : List Pt} (hl : ∀ q, Sl κ (deck b lv q :: I) lv ls) (h0 : 0 ≤ i) (hv : ∀ q, Sl κ (deck b lv q :: I) (.slice a0 ars.length c0) ars) (hd : DgOk nd ars) (hlen : ars.length ≤ 100000) :
    CallS Tryz.prog κ 38 [.pointer (some ⟨b, 0, none⟩), .agg #[I64 (nd), .slice a0 ars.length c0]] (blk b [lv, I64 (i)] 79 :: I) (fun r J => ∃ y : Int × (Option Addr) × Nat × (List Pt) × Int, ((r = .agg #[I64 y.1, .slice y.2.1 y.2.2.2.1.length y.2.2.1] ∧ y.2.2.2.1.length = ars.length) ∧ 0 ≤ y.2.2.2.2) ∧ J = [vc 32 (.slice y.2.1 y.2.2.2.1.length y.2.2.1) y.2.2.2.1] ++ deck b lv y.2.2.2.2 :: I) := by
 refine CallS.enter (L := [(0, .pointer (some ⟨b, 0, none⟩)), (1, .agg #[I64 (nd), .slice a0 ars.length c0])]) Tryz.func38 rfl rfl rfl rfl ?_
 refine W.sr ?_
 refine G.e (Eff.box (cs := [_, _]) rfl rfl rfl) ?_
 rintro _ _ ⟨b1, rfl, rfl⟩
 refine G.e (Eff.alloc ty54 rfl) ?_
 rintro _ _ ⟨b2, rfl, rfl⟩
 refine G.nt ?_
 refine W.sr ?_
 refine G.r (Runs.fieldAddr fld54_1 rfl) ?_
 refine G.r (Runs.ld ty33) ?_
 refine G.e (Eff.clone (α := Pt) (ys := ars) Tryz.underlying33 ty32 rfl rfl rfl (Sl.fit (hv _) Fit.m) (by first | omega | (simp only [List.length_cons, List.length_nil]; omega)) (by decide) rfl) ?_
 rintro _ _ ⟨ad3, cp4, rfl, rfl⟩
 refine G.pull (p := 0 < ars.length → ad3 ≠ none) (vcD.isSome (by repeat (first | exact List.mem_cons_self | apply List.mem_cons_of_mem))) fun hsome => ?_
 refine G.r (Runs.fieldAddr fld54_1 rfl) ?_
 refine G.e (Eff.st (cs := [_, _]) (vs := [_]) (cs' := [_, _]) ty33) ?_
 rintro _ _ ⟨rfl, rfl⟩
 refine G.nt ?_
 refine W.seq ?_
 refine W.sr ?_
 refine G.r (Runs.fieldAddr fld54_1 rfl) ?_
 refine G.r (Runs.ld ty33) ?_
 refine G.r (Runs.lens Tryz.underlying33 rfl) ?_
 refine G.r (Runs.assign rfl) ?_
 refine G.nt ?_
 refine W.sr ?_
 refine G.r (Runs.move rfl) ?_
 refine G.e (Eff.call call10 rfl rfl (Next_ok (by repeat (first | exact AtF.head _ _ | apply AtF.tail)) (Sl.fit (hl _) Fit.m) (by omega) (by omega))) ?_
 rintro _ _ ⟨_, _, ⟨x5, i6, rfl, hx5, hi6, rfl⟩, rfl, rfl⟩
 show G Tryz.prog κ _ _ _ _ ([(14, I64 (x5)), (13, .pointer (some ⟨b, 0, none⟩)), (5, I64 ((((ars).length : Nat) : Int))), (12, I64 ((((ars).length : Nat) : Int))), (11, .slice ad3 (ars).length cp4), (10, .pointer (some ⟨b1, 1, none⟩)), (9, .pointer (some ⟨b1, 1, none⟩)), (8, .slice ad3 (ars).length cp4), (7, .slice a0 ars.length c0), (6, .pointer (some ⟨b1, 1, none⟩)), (4, .pointer (some ⟨b2, 0, none⟩)), (3, .pointer (some ⟨b1, 0, none⟩)), (0, .pointer (some ⟨b, 0, none⟩)), (1, .agg #[I64 (nd), .slice a0 ars.length c0])] : Env) (vc 32 (.slice ad3 (ars).length cp4) (ars) :: blk b2 [I64 (0), .slice none 0 0] 54 :: blk b1 [I64 (nd), .slice ad3 (ars).length cp4] 54 :: blk b [lv, I64 (i6)] 79 :: I)
 refine G.nt ?_
 refine W.sub (L' := [(14, _), (5, _), (4, _), (3, _), (0, _)]) (Sub.cons rfl (Sub.cons rfl (Sub.cons rfl (Sub.cons rfl (Sub.cons rfl Sub.nil))))) ?_
 refine W.block ?_
 refine W.sr ?_
 refine G.r (Runs.eql rfl rfl) ?_
 refine G.r (Runs.assign rfl) ?_
 refine G.nt ?_
 refine W.ite rfl (fun c15 => ?_) (fun c15 => ?_)
 ·refine W.region ?_
  refine G.r (Runs.move rfl) ?_
  refine G.e (Eff.call call10 rfl rfl (Next_ok (by repeat (first | exact AtF.head _ _ | apply AtF.tail)) (Sl.fit (hl _) Fit.m) (by omega) (by omega))) ?_
  rintro _ _ ⟨_, _, ⟨x7, i8, rfl, hx7, hi8, rfl⟩, rfl, rfl⟩
  show G Tryz.prog κ _ _ _ _ ([(18, I64 (x7)), (17, .pointer (some ⟨b, 0, none⟩)), (15, .bool (decide (x5 = 0))), (16, .bool (decide (x5 = 0))), (14, I64 (x5)), (5, I64 ((((ars).length : Nat) : Int))), (4, .pointer (some ⟨b2, 0, none⟩)), (3, .pointer (some ⟨b1, 0, none⟩)), (0, .pointer (some ⟨b, 0, none⟩))] : Env) (vc 32 (.slice ad3 (ars).length cp4) (ars) :: blk b2 [I64 (0), .slice none 0 0] 54 :: blk b1 [I64 (nd), .slice ad3 (ars).length cp4] 54 :: blk b [lv, I64 (i8)] 79 :: I)
  refine G.r (Runs.sub rfl rfl (by unfold InR; omega)) ?_
  refine G.r (Runs.fieldAddr fld54_0 rfl) ?_
  refine G.e (Eff.st (cs := [_, _]) (vs := [_]) (cs' := [_, _]) ty3) ?_
  rintro _ _ ⟨rfl, rfl⟩
  refine G.nil ?_
  refine V.block_normal ?_
  refine V.then ?_
  refine W.sr ?_
  refine G.r (Runs.lds (vs := [_, _]) ty54) ?_
  refine G.e (Eff.st (cs := [_, _]) (vs := [_, _]) (cs' := [_, _]) ty54) ?_
  rintro _ _ ⟨rfl, rfl⟩
  refine G.nt ?_
  refine W.ret ?_
  have hxe : ars.length = (ars).length := by simp only [List.length_set]
  exact V.retc rfl ty54 rfl (by repeat (first | exact List.mem_cons_self | apply List.mem_cons_of_mem)) rfl (vc 32 (.slice ad3 ars.length cp4) (ars) :: blk b [lv, I64 (i8)] 79 :: I) (by rw [hxe]; exact Fit.sub) ⟨(x7 - 2, ad3, cp4, ars, i8), ⟨⟨by simp only [List.length_set], by first | rfl | simp only [List.length_set]⟩, by show 0 ≤ i8; omega⟩, rfl⟩
 ·refine W.sr ?_
  refine G.r (Runs.eql rfl rfl) ?_
  refine G.r (Runs.assign rfl) ?_
  refine G.nt ?_
  refine W.ite rfl (fun c21 => ?_) (fun c21 => ?_)
  ·refine W.sr ?_
   refine G.r (Runs.move rfl) ?_
   refine G.r (Runs.gtr rfl rfl) ?_
   refine G.nt ?_
   refine W.ite rfl (fun c24 => ?_) (fun c24 => ?_)
   ·refine W.drawn mixed ?_
    refine A.hold (blk b2 [I64 (0), .slice none 0 0] 54 :: blk b1 [I64 (nd), .slice ad3 (ars).length cp4] 54 :: I) 15 ?_
    refine D.r 0 rfl (Runs.fieldAddr fld54_1 rfl) ?_ (hJ := Fit.sub)
    refine D.r 1 rfl (Runs.ld ty33) ?_ (hJ := Fit.sub)
    refine D.r 2 rfl (Runs.move rfl) ?_ (hJ := Fit.sub)
    refine D.r 3 rfl (Runs.move rfl) ?_ (hJ := Fit.sub)
    refine D.r 8 rfl (Runs.move rfl) ?_ (hJ := Fit.sub)
    refine D.step (rs := [4]) (by kernel_rfl) rfl rfl (all1 ?_)
    refine Step.eff rfl (Wanted.plain rfl) (Eff.call call10 rfl rfl (Next_ok (by repeat (first | exact AtF.head _ _ | apply AtF.tail)) (Sl.fit (hl _) Fit.m) (by omega) (by omega))) ?_
    rintro _ _ ⟨_, _, ⟨x9, i10, rfl, hx9, hi10, rfl⟩, rfl, rfl⟩
    refine ⟨Fit.sub, ?_⟩
    show D Tryz.prog κ _ _ _ _ _ _ _ ([(29, I64 (x9)), (33, .pointer (some ⟨b, 0, none⟩)), (28, I64 ((((ars).length : Nat) : Int))), (27, .pointer (some ⟨b, 0, none⟩)), (26, .slice ad3 (ars).length cp4), (25, .pointer (some ⟨b1, 1, none⟩)), (24, .bool (decide (0 < (((ars).length : Nat) : Int)))), (23, I64 ((((ars).length : Nat) : Int))), (21, .bool (decide (x5 = 1))), (22, .bool (decide (x5 = 1))), (15, .bool (decide (x5 = 0))), (16, .bool (decide (x5 = 0))), (14, I64 (x5)), (5, I64 ((((ars).length : Nat) : Int))), (4, .pointer (some ⟨b2, 0, none⟩)), (3, .pointer (some ⟨b1, 0, none⟩)), (0, .pointer (some ⟨b, 0, none⟩))] : Env) (vc 32 (.slice ad3 (ars).length cp4) (ars) :: blk b2 [I64 (0), .slice none 0 0] 54 :: blk b1 [I64 (nd), .slice ad3 (ars).length cp4] 54 :: blk b [lv, I64 (i10)] 79 :: I)
    have hbp := hd.arc _ (at_mem (xs := ars) (i := x9) (by omega) (by omega))
    unfold endsP at hbp
    have hrg := hd.rng
    refine D.r 5 rfl (Runs.idxsD Pt Tryz.underlying33 ty32 rfl rfl (hsome (by omega)) (by omega) (by omega)) ?_ (hJ := Fit.sub)
    refine D.r 12 rfl (Runs.idxsD Pt Tryz.underlying33 ty32 rfl rfl (hsome (by omega)) (by omega) (by omega)) ?_ (hJ := Fit.sub)
    refine D.step (rs := [6, 9]) (by kernel_rfl) rfl rfl (all2 ?_ (all1 ?_))
    ·refine Step.read rfl (Wanted.plain rfl) rfl rfl (Runs.idxElD (α := Pt) (xs := ars) Tryz.underlying32 ty3 rfl rfl Sl.o (by first | omega | (simp only [List.length_set]; omega)) (by decide) (by decide)) Fit.sub ?_
     refine D.step (rs := [7, 9]) (by kernel_rfl) rfl rfl (all2 ?_ (all1 ?_))
     ·refine Step.read rfl (Wanted.plain rfl) rfl rfl (Runs.getf (α := Pt) (xs := ars) (u := I64 ((at_ ars x9).v)) ty3 rfl Sl.o (by omega) (by first | omega | (simp only [List.length_set]; omega)) rfl) Fit.sub ?_
      refine D.step (rs := [9]) (by kernel_rfl) rfl rfl (all1 ?_)
      refine Step.eff rfl (Wanted.plain rfl) (Eff.call call10 rfl rfl (Next_ok (by repeat (first | exact AtF.head _ _ | apply AtF.tail)) (Sl.fit (hl _) Fit.m) (by omega) (by omega))) ?_
      rintro _ _ ⟨_, _, ⟨x11, i12, rfl, hx11, hi12, rfl⟩, rfl, rfl⟩
      refine ⟨Fit.sub, ?_⟩
      show D Tryz.prog κ _ _ _ _ _ _ _ ([(34, I64 (x11)), (32, I64 ((at_ ars x9).v)), (31, elemPtr (.slice ad3 (ars).length cp4) ((x9).toNat * Enc.sz Pt + 1)), (37, elemPtr (.slice ad3 (ars).length cp4) ((x9).toNat * Enc.sz Pt)), (30, elemPtr (.slice ad3 (ars).length cp4) ((x9).toNat * Enc.sz Pt)), (29, I64 (x9)), (33, .pointer (some ⟨b, 0, none⟩)), (28, I64 ((((ars).length : Nat) : Int))), (27, .pointer (some ⟨b, 0, none⟩)), (26, .slice ad3 (ars).length cp4), (25, .pointer (some ⟨b1, 1, none⟩)), (24, .bool (decide (0 < (((ars).length : Nat) : Int)))), (23, I64 ((((ars).length : Nat) : Int))), (21, .bool (decide (x5 = 1))), (22, .bool (decide (x5 = 1))), (15, .bool (decide (x5 = 0))), (16, .bool (decide (x5 = 0))), (14, I64 (x5)), (5, I64 ((((ars).length : Nat) : Int))), (4, .pointer (some ⟨b2, 0, none⟩)), (3, .pointer (some ⟨b1, 0, none⟩)), (0, .pointer (some ⟨b, 0, none⟩))] : Env) (vc 32 (.slice ad3 (ars).length cp4) (ars) :: blk b2 [I64 (0), .slice none 0 0] 54 :: blk b1 [I64 (nd), .slice ad3 (ars).length cp4] 54 :: blk b [lv, I64 (i12)] 79 :: I)
      refine D.r 10 rfl (Runs.sub rfl rfl (by unfold InR; omega)) ?_ (hJ := Fit.sub)
      refine D.r 11 rfl (Runs.add rfl rfl (by unfold InR; omega)) ?_ (hJ := Fit.sub)
      refine D.step (rs := [13]) (by kernel_rfl) rfl rfl (all1 ?_)
      refine Step.read rfl (Wanted.plain rfl) rfl rfl (Runs.idxElD (α := Pt) (xs := ars) Tryz.underlying32 ty3 rfl rfl Sl.o (by first | omega | (simp only [List.length_set]; omega)) (by decide) (by decide)) Fit.sub ?_
      refine D.step (rs := [14]) (by kernel_rfl) rfl rfl (all1 ?_)
      refine Step.eff rfl (Wanted.plain rfl) (Eff.setf (α := Pt) (xs := ars) (e := 32) (new := { at_ ars x9 with v := ((at_ ars x9).v) + (x11 - 1) }) (j := 1) ty3 rfl rfl rfl rfl (by decide) rfl (by omega) (by first | omega | (simp only [List.length_set]; omega)) (by repeat (first | exact At.head _ _ _ | apply At.tail))) ?_
      rintro _ _ ⟨rfl, rfl⟩
      refine ⟨Fit.sub, ?_⟩
      refine D.done (by kernel_rfl) ?_
      refine V.block_normal ?_
      refine V.then ?_
      refine W.sub (L' := [(4, _), (3, _)]) (Sub.cons rfl (Sub.cons rfl Sub.nil)) ?_
      refine W.sr ?_
      refine G.r (Runs.lds (vs := [_, _]) ty54) ?_
      refine G.e (Eff.st (cs := [_, _]) (vs := [_, _]) (cs' := [_, _]) ty54) ?_
      rintro _ _ ⟨rfl, rfl⟩
      refine G.nt ?_
      refine W.ret ?_
      have hxe : (List.set ars (x9).toNat ({ at_ ars x9 with v := ((at_ ars x9).v) + (x11 - 1) })).length = (ars).length := by simp only [List.length_set]
      exact V.retc rfl ty54 rfl (by repeat (first | exact List.mem_cons_self | apply List.mem_cons_of_mem)) rfl (vc 32 (.slice ad3 (List.set ars (x9).toNat ({ at_ ars x9 with v := ((at_ ars x9).v) + (x11 - 1) })).length cp4) (List.set ars (x9).toNat ({ at_ ars x9 with v := ((at_ ars x9).v) + (x11 - 1) })) :: blk b [lv, I64 (i12)] 79 :: I) (by rw [hxe]; exact Fit.sub) ⟨(nd, ad3, cp4, List.set ars (x9).toNat ({ at_ ars x9 with v := ((at_ ars x9).v) + (x11 - 1) }), i12), ⟨⟨by simp only [List.length_set], by first | rfl | simp only [List.length_set]⟩, by show 0 ≤ i12; omega⟩, rfl⟩
     ·refine Step.eff rfl (Wanted.plain rfl) (Eff.call call10 rfl rfl (Next_ok (by repeat (first | exact AtF.head _ _ | apply AtF.tail)) (Sl.fit (hl _) Fit.m) (by omega) (by omega))) ?_
      rintro _ _ ⟨_, _, ⟨x13, i14, rfl, hx13, hi14, rfl⟩, rfl, rfl⟩
      refine ⟨Fit.sub, ?_⟩
      show D Tryz.prog κ _ _ _ _ _ _ _ ([(34, I64 (x13)), (31, elemPtr (.slice ad3 (ars).length cp4) ((x9).toNat * Enc.sz Pt + 1)), (37, elemPtr (.slice ad3 (ars).length cp4) ((x9).toNat * Enc.sz Pt)), (30, elemPtr (.slice ad3 (ars).length cp4) ((x9).toNat * Enc.sz Pt)), (29, I64 (x9)), (33, .pointer (some ⟨b, 0, none⟩)), (28, I64 ((((ars).length : Nat) : Int))), (27, .pointer (some ⟨b, 0, none⟩)), (26, .slice ad3 (ars).length cp4), (25, .pointer (some ⟨b1, 1, none⟩)), (24, .bool (decide (0 < (((ars).length : Nat) : Int)))), (23, I64 ((((ars).length : Nat) : Int))), (21, .bool (decide (x5 = 1))), (22, .bool (decide (x5 = 1))), (15, .bool (decide (x5 = 0))), (16, .bool (decide (x5 = 0))), (14, I64 (x5)), (5, I64 ((((ars).length : Nat) : Int))), (4, .pointer (some ⟨b2, 0, none⟩)), (3, .pointer (some ⟨b1, 0, none⟩)), (0, .pointer (some ⟨b, 0, none⟩))] : Env) (vc 32 (.slice ad3 (ars).length cp4) (ars) :: blk b2 [I64 (0), .slice none 0 0] 54 :: blk b1 [I64 (nd), .slice ad3 (ars).length cp4] 54 :: blk b [lv, I64 (i14)] 79 :: I)
      refine D.r 10 rfl (Runs.sub rfl rfl (by unfold InR; omega)) ?_ (hJ := Fit.sub)
      refine D.step (rs := [7]) (by kernel_rfl) rfl rfl (all1 ?_)
      refine Step.read rfl (Wanted.plain rfl) rfl rfl (Runs.getf (α := Pt) (xs := ars) (u := I64 ((at_ ars x9).v)) ty3 rfl Sl.o (by omega) (by first | omega | (simp only [List.length_set]; omega)) rfl) Fit.sub ?_
      refine D.r 11 rfl (Runs.add rfl rfl (by unfold InR; omega)) ?_ (hJ := Fit.sub)
      refine D.step (rs := [13]) (by kernel_rfl) rfl rfl (all1 ?_)
      refine Step.read rfl (Wanted.plain rfl) rfl rfl (Runs.idxElD (α := Pt) (xs := ars) Tryz.underlying32 ty3 rfl rfl Sl.o (by first | omega | (simp only [List.length_set]; omega)) (by decide) (by decide)) Fit.sub ?_
      refine D.step (rs := [14]) (by kernel_rfl) rfl rfl (all1 ?_)
      refine Step.eff rfl (Wanted.plain rfl) (Eff.setf (α := Pt) (xs := ars) (e := 32) (new := { at_ ars x9 with v := ((at_ ars x9).v) + (x13 - 1) }) (j := 1) ty3 rfl rfl rfl rfl (by decide) rfl (by omega) (by first | omega | (simp only [List.length_set]; omega)) (by repeat (first | exact At.head _ _ _ | apply At.tail))) ?_
      rintro _ _ ⟨rfl, rfl⟩
      refine ⟨Fit.sub, ?_⟩
      refine D.done (by kernel_rfl) ?_
      refine V.block_normal ?_
      refine V.then ?_
      refine W.sub (L' := [(4, _), (3, _)]) (Sub.cons rfl (Sub.cons rfl Sub.nil)) ?_
      refine W.sr ?_
      refine G.r (Runs.lds (vs := [_, _]) ty54) ?_
      refine G.e (Eff.st (cs := [_, _]) (vs := [_, _]) (cs' := [_, _]) ty54) ?_
      rintro _ _ ⟨rfl, rfl⟩
      refine G.nt ?_
      refine W.ret ?_
      have hxe : (List.set ars (x9).toNat ({ at_ ars x9 with v := ((at_ ars x9).v) + (x13 - 1) })).length = (ars).length := by simp only [List.length_set]
      exact V.retc rfl ty54 rfl (by repeat (first | exact List.mem_cons_self | apply List.mem_cons_of_mem)) rfl (vc 32 (.slice ad3 (List.set ars (x9).toNat ({ at_ ars x9 with v := ((at_ ars x9).v) + (x13 - 1) })).length cp4) (List.set ars (x9).toNat ({ at_ ars x9 with v := ((at_ ars x9).v) + (x13 - 1) })) :: blk b [lv, I64 (i14)] 79 :: I) (by rw [hxe]; exact Fit.sub) ⟨(nd, ad3, cp4, List.set ars (x9).toNat ({ at_ ars x9 with v := ((at_ ars x9).v) + (x13 - 1) }), i14), ⟨⟨by simp only [List.length_set], by first | rfl | simp only [List.length_set]⟩, by show 0 ≤ i14; omega⟩, rfl⟩
    ·refine Step.eff rfl (Wanted.plain rfl) (Eff.call call10 rfl rfl (Next_ok (by repeat (first | exact AtF.head _ _ | apply AtF.tail)) (Sl.fit (hl _) Fit.m) (by omega) (by omega))) ?_
     rintro _ _ ⟨_, _, ⟨x15, i16, rfl, hx15, hi16, rfl⟩, rfl, rfl⟩
     refine ⟨Fit.sub, ?_⟩
     show D Tryz.prog κ _ _ _ _ _ _ _ ([(34, I64 (x15)), (37, elemPtr (.slice ad3 (ars).length cp4) ((x9).toNat * Enc.sz Pt)), (30, elemPtr (.slice ad3 (ars).length cp4) ((x9).toNat * Enc.sz Pt)), (29, I64 (x9)), (33, .pointer (some ⟨b, 0, none⟩)), (28, I64 ((((ars).length : Nat) : Int))), (27, .pointer (some ⟨b, 0, none⟩)), (26, .slice ad3 (ars).length cp4), (25, .pointer (some ⟨b1, 1, none⟩)), (24, .bool (decide (0 < (((ars).length : Nat) : Int)))), (23, I64 ((((ars).length : Nat) : Int))), (21, .bool (decide (x5 = 1))), (22, .bool (decide (x5 = 1))), (15, .bool (decide (x5 = 0))), (16, .bool (decide (x5 = 0))), (14, I64 (x5)), (5, I64 ((((ars).length : Nat) : Int))), (4, .pointer (some ⟨b2, 0, none⟩)), (3, .pointer (some ⟨b1, 0, none⟩)), (0, .pointer (some ⟨b, 0, none⟩))] : Env) (vc 32 (.slice ad3 (ars).length cp4) (ars) :: blk b2 [I64 (0), .slice none 0 0] 54 :: blk b1 [I64 (nd), .slice ad3 (ars).length cp4] 54 :: blk b [lv, I64 (i16)] 79 :: I)
     refine D.r 10 rfl (Runs.sub rfl rfl (by unfold InR; omega)) ?_ (hJ := Fit.sub)
     refine D.step (rs := [6]) (by kernel_rfl) rfl rfl (all1 ?_)
     refine Step.read rfl (Wanted.plain rfl) rfl rfl (Runs.idxElD (α := Pt) (xs := ars) Tryz.underlying32 ty3 rfl rfl Sl.o (by first | omega | (simp only [List.length_set]; omega)) (by decide) (by decide)) Fit.sub ?_
     refine D.step (rs := [7]) (by kernel_rfl) rfl rfl (all1 ?_)
     refine Step.read rfl (Wanted.plain rfl) rfl rfl (Runs.getf (α := Pt) (xs := ars) (u := I64 ((at_ ars x9).v)) ty3 rfl Sl.o (by omega) (by first | omega | (simp only [List.length_set]; omega)) rfl) Fit.sub ?_
     refine D.r 11 rfl (Runs.add rfl rfl (by unfold InR; omega)) ?_ (hJ := Fit.sub)
     refine D.step (rs := [13]) (by kernel_rfl) rfl rfl (all1 ?_)
     refine Step.read rfl (Wanted.plain rfl) rfl rfl (Runs.idxElD (α := Pt) (xs := ars) Tryz.underlying32 ty3 rfl rfl Sl.o (by first | omega | (simp only [List.length_set]; omega)) (by decide) (by decide)) Fit.sub ?_
     refine D.step (rs := [14]) (by kernel_rfl) rfl rfl (all1 ?_)
     refine Step.eff rfl (Wanted.plain rfl) (Eff.setf (α := Pt) (xs := ars) (e := 32) (new := { at_ ars x9 with v := ((at_ ars x9).v) + (x15 - 1) }) (j := 1) ty3 rfl rfl rfl rfl (by decide) rfl (by omega) (by first | omega | (simp only [List.length_set]; omega)) (by repeat (first | exact At.head _ _ _ | apply At.tail))) ?_
     rintro _ _ ⟨rfl, rfl⟩
     refine ⟨Fit.sub, ?_⟩
     refine D.done (by kernel_rfl) ?_
     refine V.block_normal ?_
     refine V.then ?_
     refine W.sub (L' := [(4, _), (3, _)]) (Sub.cons rfl (Sub.cons rfl Sub.nil)) ?_
     refine W.sr ?_
     refine G.r (Runs.lds (vs := [_, _]) ty54) ?_
     refine G.e (Eff.st (cs := [_, _]) (vs := [_, _]) (cs' := [_, _]) ty54) ?_
     rintro _ _ ⟨rfl, rfl⟩
     refine G.nt ?_
     refine W.ret ?_
     have hxe : (List.set ars (x9).toNat ({ at_ ars x9 with v := ((at_ ars x9).v) + (x15 - 1) })).length = (ars).length := by simp only [List.length_set]
     exact V.retc rfl ty54 rfl (by repeat (first | exact List.mem_cons_self | apply List.mem_cons_of_mem)) rfl (vc 32 (.slice ad3 (List.set ars (x9).toNat ({ at_ ars x9 with v := ((at_ ars x9).v) + (x15 - 1) })).length cp4) (List.set ars (x9).toNat ({ at_ ars x9 with v := ((at_ ars x9).v) + (x15 - 1) })) :: blk b [lv, I64 (i16)] 79 :: I) (by rw [hxe]; exact Fit.sub) ⟨(nd, ad3, cp4, List.set ars (x9).toNat ({ at_ ars x9 with v := ((at_ ars x9).v) + (x15 - 1) }), i16), ⟨⟨by simp only [List.length_set], by first | rfl | simp only [List.length_set]⟩, by show 0 ≤ i16; omega⟩, rfl⟩
   ·refine W.skip ?_
    refine V.block_normal ?_
    refine V.then ?_
    refine W.sr ?_
    refine G.r (Runs.lds (vs := [_, _]) ty54) ?_
    refine G.e (Eff.st (cs := [_, _]) (vs := [_, _]) (cs' := [_, _]) ty54) ?_
    rintro _ _ ⟨rfl, rfl⟩
    refine G.nt ?_
    refine W.ret ?_
    have hxe : ars.length = (ars).length := by simp only [List.length_set]
    exact V.retc rfl ty54 rfl (by repeat (first | exact List.mem_cons_self | apply List.mem_cons_of_mem)) rfl (vc 32 (.slice ad3 ars.length cp4) (ars) :: blk b [lv, I64 (i6)] 79 :: I) (by rw [hxe]; exact Fit.sub) ⟨(nd, ad3, cp4, ars, i6), ⟨⟨by simp only [List.length_set], by first | rfl | simp only [List.length_set]⟩, by show 0 ≤ i6; omega⟩, rfl⟩
  ·refine W.sr ?_
   refine G.r (Runs.eql rfl rfl) ?_
   refine G.r (Runs.assign rfl) ?_
   refine G.nt ?_
   refine W.ite rfl (fun c39 => ?_) (fun c39 => ?_)
   ·refine W.sr ?_
    refine G.r (Runs.move rfl) ?_
    refine G.r (Runs.gtr rfl rfl) ?_
    refine G.nt ?_
    refine W.ite rfl (fun c42 => ?_) (fun c42 => ?_)
    ·refine W.drawn mixed ?_
     refine A.hold (blk b2 [I64 (0), .slice none 0 0] 54 :: blk b1 [I64 (nd), .slice ad3 (ars).length cp4] 54 :: I) 20 ?_
     refine D.r 0 rfl (Runs.fieldAddr fld54_1 rfl) ?_ (hJ := Fit.sub)
     refine D.r 1 rfl (Runs.ld ty33) ?_ (hJ := Fit.sub)
     refine D.r 2 rfl (Runs.fieldAddr fld54_1 rfl) ?_ (hJ := Fit.sub)
     refine D.r 3 rfl (Runs.ld ty33) ?_ (hJ := Fit.sub)
     refine D.r 4 rfl (Runs.move rfl) ?_ (hJ := Fit.sub)
     refine D.r 5 rfl (Runs.sub rfl rfl (by unfold InR; omega)) ?_ (hJ := Fit.sub)
     refine D.r 6 rfl (Runs.fieldAddr fld54_1 rfl) ?_ (hJ := Fit.sub)
     refine D.r 7 rfl (Runs.ld ty33) ?_ (hJ := Fit.sub)
     refine D.r 8 rfl (Runs.move rfl) ?_ (hJ := Fit.sub)
     refine D.r 9 rfl (Runs.sub rfl rfl (by unfold InR; omega)) ?_ (hJ := Fit.sub)
     refine D.r 10 rfl (Runs.idxsD Pt Tryz.underlying33 ty32 rfl rfl (hsome (by omega)) (by omega) (by omega)) ?_ (hJ := Fit.sub)
     refine D.r 12 rfl (Runs.fieldAddr fld54_1 rfl) ?_ (hJ := Fit.sub)
     refine D.r 13 rfl (Runs.ld ty33) ?_ (hJ := Fit.sub)
     refine D.r 14 rfl (Runs.idxsD Pt Tryz.underlying33 ty32 rfl rfl (hsome (by omega)) (by omega) (by omega)) ?_ (hJ := Fit.sub)
     refine D.step (rs := [11, 15]) (by kernel_rfl) rfl rfl (all2 ?_ (all1 ?_))
     ·refine Step.read rfl (Wanted.plain rfl) rfl rfl (Runs.gets (α := Pt) (xs := ars) ty32 rfl Sl.o (by omega) (by first | omega | (simp only [List.length_set]; omega))) Fit.sub ?_
      refine D.step (rs := [15]) (by kernel_rfl) rfl rfl (all1 ?_)
      refine Step.read rfl (Wanted.plain rfl) rfl rfl (Runs.gets (α := Pt) (xs := ars) ty32 rfl Sl.o (by omega) (by first | omega | (simp only [List.length_set]; omega))) Fit.sub ?_
      refine D.r 16 rfl (Runs.idxsD Pt Tryz.underlying33 ty32 rfl rfl (hsome (by omega)) (by omega) (by omega)) ?_ (hJ := Fit.sub)
      refine D.step (rs := [17]) (by kernel_rfl) rfl rfl (all1 ?_)
      refine Step.eff rfl (Wanted.plain rfl) (Eff.set (α := Pt) (xs := ars) (e := 32) (new := ⟨(at_ ars ((((ars).length : Nat) : Int) - 1)).u, (at_ ars ((((ars).length : Nat) : Int) - 1)).v⟩) ty32 rfl rfl rfl (by omega) (by first | omega | (simp only [List.length_set]; omega)) (by repeat (first | exact At.head _ _ _ | apply At.tail))) ?_
      rintro _ _ ⟨rfl, rfl⟩
      refine ⟨Fit.sub, ?_⟩
      refine D.r 18 rfl (Runs.idxsD Pt Tryz.underlying33 ty32 rfl rfl (hsome (by omega)) (by omega) (by omega)) ?_ (hJ := Fit.sub)
      refine D.step (rs := [19]) (by kernel_rfl) rfl rfl (all1 ?_)
      refine Step.eff rfl (Wanted.plain rfl) (Eff.set (α := Pt) (xs := List.set ars ((0 : Int)).toNat (⟨(at_ ars ((((ars).length : Nat) : Int) - 1)).u, (at_ ars ((((ars).length : Nat) : Int) - 1)).v⟩)) (e := 32) (new := ⟨(at_ ars (0 : Int)).u, (at_ ars (0 : Int)).v⟩) ty32 rfl rfl rfl (by omega) (by first | omega | (simp only [List.length_set]; omega)) (by repeat (first | exact At.head _ _ _ | apply At.tail))) ?_
      rintro _ _ ⟨rfl, rfl⟩
      refine ⟨Fit.sub, ?_⟩
      refine D.done (by kernel_rfl) ?_
      refine V.block_normal ?_
      refine V.then ?_
      refine W.sub (L' := [(4, _), (3, _)]) (Sub.cons rfl (Sub.cons rfl Sub.nil)) ?_
      refine W.sr ?_
      refine G.r (Runs.lds (vs := [_, _]) ty54) ?_
      refine G.e (Eff.st (cs := [_, _]) (vs := [_, _]) (cs' := [_, _]) ty54) ?_
      rintro _ _ ⟨rfl, rfl⟩
      refine G.nt ?_
      refine W.ret ?_
      have hxe : (List.set (List.set ars ((0 : Int)).toNat (⟨(at_ ars ((((ars).length : Nat) : Int) - 1)).u, (at_ ars ((((ars).length : Nat) : Int) - 1)).v⟩)) ((((ars).length : Nat) : Int) - 1).toNat (⟨(at_ ars (0 : Int)).u, (at_ ars (0 : Int)).v⟩)).length = (ars).length := by simp only [List.length_set]
      exact V.retc rfl ty54 rfl (by repeat (first | exact List.mem_cons_self | apply List.mem_cons_of_mem)) rfl (vc 32 (.slice ad3 (List.set (List.set ars ((0 : Int)).toNat (⟨(at_ ars ((((ars).length : Nat) : Int) - 1)).u, (at_ ars ((((ars).length : Nat) : Int) - 1)).v⟩)) ((((ars).length : Nat) : Int) - 1).toNat (⟨(at_ ars (0 : Int)).u, (at_ ars (0 : Int)).v⟩)).length cp4) (List.set (List.set ars ((0 : Int)).toNat (⟨(at_ ars ((((ars).length : Nat) : Int) - 1)).u, (at_ ars ((((ars).length : Nat) : Int) - 1)).v⟩)) ((((ars).length : Nat) : Int) - 1).toNat (⟨(at_ ars (0 : Int)).u, (at_ ars (0 : Int)).v⟩)) :: blk b [lv, I64 (i6)] 79 :: I) (by rw [hxe]; exact Fit.sub) ⟨(nd, ad3, cp4, List.set (List.set ars ((0 : Int)).toNat (⟨(at_ ars ((((ars).length : Nat) : Int) - 1)).u, (at_ ars ((((ars).length : Nat) : Int) - 1)).v⟩)) ((((ars).length : Nat) : Int) - 1).toNat (⟨(at_ ars (0 : Int)).u, (at_ ars (0 : Int)).v⟩), i6), ⟨⟨by simp only [List.length_set], by first | rfl | simp only [List.length_set]⟩, by show 0 ≤ i6; omega⟩, rfl⟩
     ·refine Step.read rfl (Wanted.plain rfl) rfl rfl (Runs.gets (α := Pt) (xs := ars) ty32 rfl Sl.o (by omega) (by first | omega | (simp only [List.length_set]; omega))) Fit.sub ?_
      refine D.step (rs := [11]) (by kernel_rfl) rfl rfl (all1 ?_)
      refine Step.read rfl (Wanted.plain rfl) rfl rfl (Runs.gets (α := Pt) (xs := ars) ty32 rfl Sl.o (by omega) (by first | omega | (simp only [List.length_set]; omega))) Fit.sub ?_
      refine D.r 16 rfl (Runs.idxsD Pt Tryz.underlying33 ty32 rfl rfl (hsome (by omega)) (by omega) (by omega)) ?_ (hJ := Fit.sub)
      refine D.step (rs := [17]) (by kernel_rfl) rfl rfl (all1 ?_)
      refine Step.eff rfl (Wanted.plain rfl) (Eff.set (α := Pt) (xs := ars) (e := 32) (new := ⟨(at_ ars ((((ars).length : Nat) : Int) - 1)).u, (at_ ars ((((ars).length : Nat) : Int) - 1)).v⟩) ty32 rfl rfl rfl (by omega) (by first | omega | (simp only [List.length_set]; omega)) (by repeat (first | exact At.head _ _ _ | apply At.tail))) ?_
      rintro _ _ ⟨rfl, rfl⟩
      refine ⟨Fit.sub, ?_⟩
      refine D.r 18 rfl (Runs.idxsD Pt Tryz.underlying33 ty32 rfl rfl (hsome (by omega)) (by omega) (by omega)) ?_ (hJ := Fit.sub)
      refine D.step (rs := [19]) (by kernel_rfl) rfl rfl (all1 ?_)
      refine Step.eff rfl (Wanted.plain rfl) (Eff.set (α := Pt) (xs := List.set ars ((0 : Int)).toNat (⟨(at_ ars ((((ars).length : Nat) : Int) - 1)).u, (at_ ars ((((ars).length : Nat) : Int) - 1)).v⟩)) (e := 32) (new := ⟨(at_ ars (0 : Int)).u, (at_ ars (0 : Int)).v⟩) ty32 rfl rfl rfl (by omega) (by first | omega | (simp only [List.length_set]; omega)) (by repeat (first | exact At.head _ _ _ | apply At.tail))) ?_
      rintro _ _ ⟨rfl, rfl⟩
      refine ⟨Fit.sub, ?_⟩
      refine D.done (by kernel_rfl) ?_
      refine V.block_normal ?_
      refine V.then ?_
      refine W.sub (L' := [(4, _), (3, _)]) (Sub.cons rfl (Sub.cons rfl Sub.nil)) ?_
      refine W.sr ?_
      refine G.r (Runs.lds (vs := [_, _]) ty54) ?_
      refine G.e (Eff.st (cs := [_, _]) (vs := [_, _]) (cs' := [_, _]) ty54) ?_
      rintro _ _ ⟨rfl, rfl⟩
      refine G.nt ?_
      refine W.ret ?_
      have hxe : (List.set (List.set ars ((0 : Int)).toNat (⟨(at_ ars ((((ars).length : Nat) : Int) - 1)).u, (at_ ars ((((ars).length : Nat) : Int) - 1)).v⟩)) ((((ars).length : Nat) : Int) - 1).toNat (⟨(at_ ars (0 : Int)).u, (at_ ars (0 : Int)).v⟩)).length = (ars).length := by simp only [List.length_set]
      exact V.retc rfl ty54 rfl (by repeat (first | exact List.mem_cons_self | apply List.mem_cons_of_mem)) rfl (vc 32 (.slice ad3 (List.set (List.set ars ((0 : Int)).toNat (⟨(at_ ars ((((ars).length : Nat) : Int) - 1)).u, (at_ ars ((((ars).length : Nat) : Int) - 1)).v⟩)) ((((ars).length : Nat) : Int) - 1).toNat (⟨(at_ ars (0 : Int)).u, (at_ ars (0 : Int)).v⟩)).length cp4) (List.set (List.set ars ((0 : Int)).toNat (⟨(at_ ars ((((ars).length : Nat) : Int) - 1)).u, (at_ ars ((((ars).length : Nat) : Int) - 1)).v⟩)) ((((ars).length : Nat) : Int) - 1).toNat (⟨(at_ ars (0 : Int)).u, (at_ ars (0 : Int)).v⟩)) :: blk b [lv, I64 (i6)] 79 :: I) (by rw [hxe]; exact Fit.sub) ⟨(nd, ad3, cp4, List.set (List.set ars ((0 : Int)).toNat (⟨(at_ ars ((((ars).length : Nat) : Int) - 1)).u, (at_ ars ((((ars).length : Nat) : Int) - 1)).v⟩)) ((((ars).length : Nat) : Int) - 1).toNat (⟨(at_ ars (0 : Int)).u, (at_ ars (0 : Int)).v⟩), i6), ⟨⟨by simp only [List.length_set], by first | rfl | simp only [List.length_set]⟩, by show 0 ≤ i6; omega⟩, rfl⟩
    ·refine W.skip ?_
     refine V.block_normal ?_
     refine V.then ?_
     refine W.sr ?_
     refine G.r (Runs.lds (vs := [_, _]) ty54) ?_
     refine G.e (Eff.st (cs := [_, _]) (vs := [_, _]) (cs' := [_, _]) ty54) ?_
     rintro _ _ ⟨rfl, rfl⟩
     refine G.nt ?_
     refine W.sub (L' := [(4, _)]) (Sub.cons rfl Sub.nil) ?_
     refine W.ret ?_
     have hxe : ars.length = (ars).length := by simp only [List.length_set]
     exact V.retc rfl ty54 rfl (by repeat (first | exact List.mem_cons_self | apply List.mem_cons_of_mem)) rfl (vc 32 (.slice ad3 ars.length cp4) (ars) :: blk b [lv, I64 (i6)] 79 :: I) (by rw [hxe]; exact Fit.sub) ⟨(nd, ad3, cp4, ars, i6), ⟨⟨by simp only [List.length_set], by first | rfl | simp only [List.length_set]⟩, by show 0 ≤ i6; omega⟩, rfl⟩
   ·refine W.skip ?_
    refine V.block_normal ?_
    refine V.then ?_
    refine W.sr ?_
    refine G.r (Runs.lds (vs := [_, _]) ty54) ?_
    refine G.e (Eff.st (cs := [_, _]) (vs := [_, _]) (cs' := [_, _]) ty54) ?_
    rintro _ _ ⟨rfl, rfl⟩
    refine G.nt ?_
    refine W.ret ?_
    have hxe : ars.length = (ars).length := by simp only [List.length_set]
    exact V.retc rfl ty54 rfl (by repeat (first | exact List.mem_cons_self | apply List.mem_cons_of_mem)) rfl (vc 32 (.slice ad3 ars.length cp4) (ars) :: blk b [lv, I64 (i6)] 79 :: I) (by rw [hxe]; exact Fit.sub) ⟨(nd, ad3, cp4, ars, i6), ⟨⟨by simp only [List.length_set], by first | rfl | simp only [List.length_set]⟩, by show 0 ≤ i6; omega⟩, rfl⟩

theorem Odd23_at {κ : Ctx} {I : List Item} {F : Item → List Item} {b : Nat} {lv : Value} {ls : List Int} {i : Int} {a0 : Option Addr} {c0 : Nat} {nd : Int} {ars : List Pt} (hat : AtF I (deck b lv i) F) (hl : ∀ q, Sl κ (F (deck b lv q)) lv ls) (h0 : 0 ≤ i) (hv : ∀ q, Sl κ (F (deck b lv q)) (.slice a0 ars.length c0) ars) (hd : DgOk nd ars) (hlen : ars.length ≤ 100000) :
    CallS Tryz.prog κ 38 [.pointer (some ⟨b, 0, none⟩), .agg #[I64 (nd), .slice a0 ars.length c0]] I fun r J => ∃ y : Int × (Option Addr) × Nat × (List Pt) × Int, ((r = .agg #[I64 y.1, .slice y.2.1 y.2.2.2.1.length y.2.2.1] ∧ y.2.2.2.1.length = ars.length) ∧ 0 ≤ y.2.2.2.2) ∧ J = [vc 32 (.slice y.2.1 y.2.2.2.1.length y.2.2.1) y.2.2.2.1] ++ F (deck b lv y.2.2.2.2) :=
  CallS.at (Post := fun r (y : Int × (Option Addr) × Nat × (List Pt) × Int) => (r = .agg #[I64 y.1, .slice y.2.1 y.2.2.2.1.length y.2.2.1] ∧ y.2.2.2.1.length = ars.length) ∧ 0 ≤ y.2.2.2.2) (Z := fun y : Int × (Option Addr) × Nat × (List Pt) × Int => [vc 32 (.slice y.2.1 y.2.2.2.1.length y.2.2.1) y.2.2.2.1]) (X := fun y : Int × (Option Addr) × Nat × (List Pt) × Int => deck b lv y.2.2.2.2) hat fun J _ hF => Odd23_base (fun q => (hl q).fit (hF _)) h0 (fun q => (hv q).fit (hF _)) hd hlen

set_option maxHeartbeats 4000000 in
theorem DirectedBest_walk {κ : Ctx} {I : List Item} {nd : Int} {ra : Option Addr} {rc : Nat} {rx : List Pt} (hrx : Sl κ I (.slice ra rx.length rc) rx) {la : Option Addr} {ln lc : Nat} {ls : List Int} (hl : Sl κ I (.slice la ln lc) ls) (hT : TabRd κ I 0 tzCells) :
    CallS Tryz.prog κ 5 [.agg #[I64 (nd), .slice ra rx.length rc], .slice la ln lc] I (fun r J => r = .bool true ∧ I = J) := by
 refine CallS.pull hrx.le fun hmrx => ?_
 refine CallS.enter (L := [(0, .agg #[I64 (nd), .slice ra rx.length rc]), (1, .slice la ln lc)]) Tryz.func5 rfl rfl rfl rfl ?_
 refine W.sr ?_
 refine G.e (Eff.box (cs := [_, _]) rfl rfl rfl) ?_
 rintro _ _ ⟨b1, rfl, rfl⟩
 refine G.r (Runs.assign rfl) ?_
 refine G.nt ?_
 refine W.sr ?_
 refine G.r (Runs.move rfl) ?_
 refine G.e (Eff.call call8 rfl rfl New_ok) ?_
 rintro _ _ ⟨_, _, ⟨dk2, rfl, rfl⟩, rfl, rfl⟩
 show G Tryz.prog κ _ _ _ _ ([(18, .pointer (some ⟨dk2, 0, none⟩)), (17, .slice la ln lc), (4, .bool false), (2, .pointer (some ⟨b1, 0, none⟩)), (0, .agg #[I64 (nd), .slice ra rx.length rc]), (1, .slice la ln lc)] : Env) (blk dk2 [.slice la ln lc, I64 (0)] 79 :: blk b1 [I64 (nd), .slice ra rx.length rc] 54 :: I)
 have hi0 : (0 : Int) ≤ 0 := Int.le_refl _
 refine G.r (Runs.assign rfl) ?_
 refine G.nt ?_
 refine W.sr ?_
 refine G.r (Runs.move rfl) ?_
 refine G.e (Eff.call call37 rfl rfl (MkDigraph_at (by repeat (first | exact AtF.head _ _ | apply AtF.tail)) (fun _ => Sl.fit hl Fit.m) (by omega)  (by omega))) ?_
 rintro _ _ ⟨_, _, ⟨⟨nd3, ad4, cp5, dg6, i7⟩, ⟨⟨rfl, hgdg6⟩, hi7⟩, rfl⟩, rfl, rfl⟩
 show G Tryz.prog κ _ _ _ _ ([(20, .agg #[I64 (nd3), .slice ad4 dg6.length cp5]), (19, .pointer (some ⟨dk2, 0, none⟩)), (5, .pointer (some ⟨dk2, 0, none⟩)), (18, .pointer (some ⟨dk2, 0, none⟩)), (17, .slice la ln lc), (4, .bool false), (2, .pointer (some ⟨b1, 0, none⟩)), (0, .agg #[I64 (nd), .slice ra rx.length rc]), (1, .slice la ln lc)] : Env) (vc 32 (.slice ad4 dg6.length cp5) (dg6) :: blk dk2 [.slice la ln lc, I64 (i7)] 79 :: blk b1 [I64 (nd), .slice ra rx.length rc] 54 :: I)
 have hi7 : 0 ≤ i7 := hi7
 dsimp only at hgdg6
 have hd := hgdg6.2.1
 have hdl := hgdg6.2.2
 have hnd := hgdg6.1
 have hrng := hd.rng
 refine G.e (Eff.alloc ty54 rfl) ?_
 rintro _ _ ⟨b8, rfl, rfl⟩
 refine G.e (Eff.st (cs := [_, _]) (vs := [_, _]) (cs' := [_, _]) ty54) ?_
 rintro _ _ ⟨rfl, rfl⟩
 refine G.nt ?_
 refine W.seq ?_
 refine W.seq ?_
 refine W.drawn mixed ?_
 refine A.hold (blk b8 [I64 (nd3), .slice ad4 dg6.length cp5] 54 :: vc 32 (.slice ad4 dg6.length cp5) (dg6) :: blk b1 [I64 (nd), .slice ra rx.length rc] 54 :: I) 8 ?_
 refine D.r 0 rfl (Runs.lds (vs := [_, _]) ty54) ?_ (hJ := Fit.sub)
 refine D.r 1 rfl (Runs.lds (vs := [_, _]) ty54) ?_ (hJ := Fit.sub)
 refine D.r 2 rfl (Runs.move rfl) ?_ (hJ := Fit.sub)
 refine D.r 3 rfl (Runs.lds (vs := [_, _]) ty54) ?_ (hJ := Fit.sub)
 refine D.r 7 rfl (Runs.move rfl) ?_ (hJ := Fit.sub)
 refine D.step (rs := [4]) (by kernel_rfl) rfl rfl (all1 ?_)
 refine Step.eff rfl (Wanted.plain rfl) (Eff.call call38 rfl rfl (Odd23_at (by repeat (first | exact AtF.head _ _ | apply AtF.tail)) (fun _ => Sl.fit hl Fit.m) (by omega) (fun _ => Sl.vec (by repeat (first | exact List.mem_cons_self | apply List.mem_cons_of_mem))) hd (by omega))) ?_
 rintro _ _ ⟨_, _, ⟨⟨nd9, ad10, cp11, dg12, i13⟩, ⟨⟨rfl, hsdg12⟩, hi13⟩, rfl⟩, rfl, rfl⟩
 refine ⟨Fit.sub, ?_⟩
 show D Tryz.prog κ _ _ _ _ _ _ _ ([(25, .agg #[I64 (nd9), .slice ad10 dg12.length cp11]), (28, I64 (0)), (24, .agg #[I64 (nd3), .slice ad4 dg6.length cp5]), (23, .pointer (some ⟨dk2, 0, none⟩)), (22, .agg #[I64 (nd), .slice ra rx.length rc]), (21, .agg #[I64 (nd3), .slice ad4 dg6.length cp5]), (6, .pointer (some ⟨b8, 0, none⟩)), (20, .agg #[I64 (nd3), .slice ad4 dg6.length cp5]), (19, .pointer (some ⟨dk2, 0, none⟩)), (5, .pointer (some ⟨dk2, 0, none⟩)), (18, .pointer (some ⟨dk2, 0, none⟩)), (17, .slice la ln lc), (4, .bool false), (2, .pointer (some ⟨b1, 0, none⟩)), (0, .agg #[I64 (nd), .slice ra rx.length rc]), (1, .slice la ln lc)] : Env) (vc 32 (.slice ad10 dg12.length cp11) (dg12) :: blk b8 [I64 (nd3), .slice ad4 dg6.length cp5] 54 :: vc 32 (.slice ad4 dg6.length cp5) (dg6) :: blk dk2 [.slice la ln lc, I64 (i13)] 79 :: blk b1 [I64 (nd), .slice ra rx.length rc] 54 :: I)
 have hi13 : 0 ≤ i13 := hi13
 dsimp only at hsdg12
 refine D.step (rs := [5]) (by kernel_rfl) rfl rfl (all1 ?_)
 refine Step.eff rfl (Wanted.plain rfl) (Eff.bs (α := DgV) (cs := [I64 (nd3), .slice ad4 dg6.length cp5, I64 (nd), .slice ra rx.length rc, I64 (nd9), .slice ad10 dg12.length cp11]) (xs := [⟨nd3, ad4, cp5, dg6⟩, ⟨nd, ra, rc, rx⟩, ⟨nd9, ad10, cp11, dg12⟩]) Tryz.underlying70 ty54 rfl rfl (by decide) (by decide) rfl (by kernel_rfl) rfl rfl) ?_
 rintro _ _ ⟨ad14, rfl, rfl⟩
 refine ⟨Fit.sub, ?_⟩
 generalize hX : ([⟨nd3, ad4, cp5, dg6⟩, ⟨nd, ra, rc, rx⟩, ⟨nd9, ad10, cp11, dg12⟩] : List DgV) = X
 have hXl : X.length = 3 := by rw [← hX]; rfl
 refine D.r 6 rfl (Runs.lens Tryz.underlying70 rfl) ?_ (hJ := Fit.sub)
 have hhg : HeldDg κ (vc 32 (.slice ad10 dg12.length cp11) (dg12) :: vc 32 (.slice ad4 dg6.length cp5) (dg6) :: I) X := by rw [← hX]; exact (HeldDg.cons (show Sl κ _ (.slice ad4 dg6.length cp5) dg6 from Sl.vec (by repeat (first | exact List.mem_cons_self | apply List.mem_cons_of_mem))) (HeldDg.cons (show Sl κ _ (.slice ra rx.length rc) rx from Sl.fit hrx Fit.m) (HeldDg.cons (show Sl κ _ (.slice ad10 dg12.length cp11) dg12 from Sl.vec (by repeat (first | exact List.mem_cons_self | apply List.mem_cons_of_mem))) HeldDg.nil)))
 refine D.done (by kernel_rfl) ?_
 refine V.then ?_
 refine W.sub (L' := [(27, _), (26, _), (28, _)]) (Sub.cons rfl (Sub.cons rfl (Sub.cons rfl Sub.nil))) ?_
 refine W.block ?_
 refine W.loop (σ := Nat × Int) (fun s => ([(26, .slice ad14 3 3), (27, I64 (((3 : Nat) : Int))), (28, I64 (((s.1 : Nat) : Int)))] : Env)) (fun s => vc 54 (.slice ad14 3 3) (X) :: vc 32 (.slice ad10 dg12.length cp11) (dg12) :: blk b8 [I64 (nd3), .slice ad4 dg6.length cp5] 54 :: vc 32 (.slice ad4 dg6.length cp5) (dg6) :: blk dk2 [.slice la ln lc, I64 (s.2)] 79 :: blk b1 [I64 (nd), .slice ra rx.length rc] 54 :: I) (fun s => (s.1 ≤ 3) ∧ (0 ≤ s.2)) (fun s => 3 - s.1) (0, i13) (show ((0 : Nat) ≤ 3) ∧ (0 ≤ (i13 : Int)) from ⟨(by omega), (by omega)⟩) (Sub.cons rfl (Sub.cons rfl (Sub.cons lookO Sub.nil))) (show Fit κ _ (vc 54 (.slice ad14 3 3) (X) :: vc 32 (.slice ad10 dg12.length cp11) (dg12) :: blk b8 [I64 (nd3), .slice ad4 dg6.length cp5] 54 :: vc 32 (.slice ad4 dg6.length cp5) (dg6) :: blk dk2 [.slice la ln lc, I64 ((i13))] 79 :: blk b1 [I64 (nd), .slice ra rx.length rc] 54 :: I) from Fit.sub) ?_
 rintro ⟨k, iqz⟩ hp
 obtain ⟨hk, hiqz⟩ : (k ≤ 3) ∧ (0 ≤ iqz) := hp
 show W Tryz.prog κ 84 _ _ ([(26, .slice ad14 3 3), (27, I64 (((3 : Nat) : Int))), (28, I64 (((k : Nat) : Int)))] : Env) (vc 54 (.slice ad14 3 3) (X) :: vc 32 (.slice ad10 dg12.length cp11) (dg12) :: blk b8 [I64 (nd3), .slice ad4 dg6.length cp5] 54 :: vc 32 (.slice ad4 dg6.length cp5) (dg6) :: blk dk2 [.slice la ln lc, I64 (iqz)] 79 :: blk b1 [I64 (nd), .slice ra rx.length rc] 54 :: I)
 refine W.sr ?_
 refine G.r (Runs.lss rfl rfl) ?_
 refine G.nt ?_
 refine W.seq ?_
 refine W.ite rfl (fun c29 => ?_) (fun c29 => ?_)
 ·refine W.skip ?_
  refine V.then ?_
  refine W.seq ?_
  refine W.block ?_
  refine W.sr ?_
  refine G.r (Runs.idx (α := DgV) (xs := X) Tryz.underlying70 ty54 rfl rfl Sl.o (by omega) (by omega)) ?_
  refine G.r (Runs.gets (α := DgV) (xs := X) ty54 rfl Sl.o (by omega) (by omega)) ?_
  refine G.e (Eff.alloc ty54 rfl) ?_
  rintro _ _ ⟨b15, rfl, rfl⟩
  refine G.e (Eff.st (cs := [_, _]) (vs := [_, _]) (cs' := [_, _]) ty54) ?_
  rintro _ _ ⟨rfl, rfl⟩
  refine G.nt ?_
  refine W.seq ?_
  refine W.sr ?_
  refine G.r (Runs.lds (vs := [_, _]) ty54) ?_
  refine G.e (Eff.call call39 rfl rfl (Light23_ok (nd := ((at_ X ((k : Nat) : Int)).n)) (Sl.fit (HeldDg.at hhg (i := ((k : Nat) : Int)) (by omega) (by omega)) Fit.s))) ?_
  rintro _ _ ⟨_, _, ⟨rfl, rfl⟩, rfl, rfl⟩
  refine G.r (Runs.notd rfl) ?_
  refine G.nt ?_
  refine W.ite rfl (fun c34 => ?_) (fun c34 => ?_)
  ·refine W.exit ?_
   refine V.then_exit ?_
   refine V.block_hit ?_
   refine V.then ?_
   refine W.region ?_
   refine G.r (Runs.add rfl rfl (by unfold InR; omega)) ?_
   refine G.r (Runs.move rfl) ?_
   refine G.nil ?_
   exact V.next ((k + 1), (iqz)) (show ((k + 1 : Nat) ≤ 3) ∧ (0 ≤ (iqz : Int)) from ⟨(by omega), (by omega)⟩) (show 3 - (k + 1 : Nat) < 3 - k from (by omega)) (Sub.cons rfl (Sub.cons rfl (Sub.cons lookO Sub.nil))) (show Fit κ _ (vc 54 (.slice ad14 3 3) (X) :: vc 32 (.slice ad10 dg12.length cp11) (dg12) :: blk b8 [I64 (nd3), .slice ad4 dg6.length cp5] 54 :: vc 32 (.slice ad4 dg6.length cp5) (dg6) :: blk dk2 [.slice la ln lc, I64 ((iqz))] 79 :: blk b1 [I64 (nd), .slice ra rx.length rc] 54 :: I) from (by first | exact Fit.s | exact Fit.sub))
  ·refine W.skip ?_
   refine V.then ?_
   refine W.sr ?_
   refine G.r (Runs.lds (vs := [_, _]) ty54) ?_
   refine G.e (Eff.call call30 rfl rfl (BestD_ok (nd := ((at_ X ((k : Nat) : Int)).n)) (Sl.fit (HeldDg.at hhg (i := ((k : Nat) : Int)) (by omega) (by omega)) Fit.s) (fun h => by omega) (TabRd.fit hT Fit.m))) ?_
   rintro _ _ ⟨_, _, ⟨ad16, cp17, ad18, cp19, rfl, rfl⟩, rfl, rfl⟩
   refine G.r (Runs.move rfl) ?_
   refine G.r (Runs.extract rfl rfl) ?_
   refine G.r (Runs.extract rfl rfl) ?_
   refine G.e (Eff.alloc ty58 rfl) ?_
   rintro _ _ ⟨b20, rfl, rfl⟩
   refine G.e (Eff.st (cs := [_, _, _, _, _]) (vs := [_, _, _, _, _]) (cs' := [_, _, _, _, _]) ty58) ?_
   rintro _ _ ⟨rfl, rfl⟩
   refine G.r (Runs.assign rfl) ?_
   refine G.nt ?_
   refine W.sub (L' := [(10, _), (9, _), (8, _), (26, _), (27, _), (28, _)]) (Sub.cons rfl (Sub.cons rfl (Sub.cons rfl (Sub.cons rfl (Sub.cons rfl (Sub.cons rfl Sub.nil)))))) ?_
   refine W.sr ?_
   refine G.r (Runs.lds (vs := [_, _]) ty54) ?_
   refine G.e (Eff.call call40 rfl rfl (Best23_ok (nd := ((at_ X ((k : Nat) : Int)).n)) (Sl.fit (HeldDg.at hhg (i := ((k : Nat) : Int)) (by omega) (by omega)) Fit.s) (fun h => by omega) (by omega))) ?_
   rintro _ _ ⟨_, _, ⟨ad21, cp22, ad23, cp24, rfl, rfl⟩, rfl, rfl⟩
   refine G.r (Runs.move rfl) ?_
   refine G.r (Runs.extract rfl rfl) ?_
   refine G.r (Runs.extract rfl rfl) ?_
   refine G.e (Eff.alloc ty58 rfl) ?_
   rintro _ _ ⟨b25, rfl, rfl⟩
   refine G.e (Eff.st (cs := [_, _, _, _, _]) (vs := [_, _, _, _, _]) (cs' := [_, _, _, _, _]) ty58) ?_
   rintro _ _ ⟨rfl, rfl⟩
   refine G.r (Runs.assign rfl) ?_
   refine G.nt ?_
   refine W.sr ?_
   refine G.r (Runs.lds (vs := [_, _]) ty54) ?_
   refine G.e (Eff.call call41 rfl rfl (PeelD_ok (nd := ((at_ X ((k : Nat) : Int)).n)) (Sl.fit (HeldDg.at hhg (i := ((k : Nat) : Int)) (by omega) (by omega)) Fit.s) (fun h => by omega) (TabRd.fit hT Fit.m))) ?_
   rintro _ _ ⟨_, _, ⟨ad26, cp27, ad28, cp29, rfl, rfl⟩, rfl, rfl⟩
   refine G.r (Runs.move rfl) ?_
   refine G.r (Runs.extract rfl rfl) ?_
   refine G.r (Runs.extract rfl rfl) ?_
   refine G.e (Eff.alloc ty58 rfl) ?_
   rintro _ _ ⟨b30, rfl, rfl⟩
   refine G.e (Eff.st (cs := [_, _, _, _, _]) (vs := [_, _, _, _, _]) (cs' := [_, _, _, _, _]) ty58) ?_
   rintro _ _ ⟨rfl, rfl⟩
   refine G.r (Runs.assign rfl) ?_
   refine G.nt ?_
   refine W.sub (L' := [(14, _), (13, _), (12, _), (11, _), (10, _), (9, _), (8, _), (26, _), (27, _), (28, _)]) (Sub.cons rfl (Sub.cons rfl (Sub.cons rfl (Sub.cons rfl (Sub.cons rfl (Sub.cons rfl (Sub.cons rfl (Sub.cons rfl (Sub.cons rfl (Sub.cons rfl Sub.nil)))))))))) ?_
   refine W.sr ?_
   refine G.r (Runs.lds (vs := [_, _]) ty54) ?_
   refine G.e (Eff.call call42 rfl rfl (Peel23_ok (nd := ((at_ X ((k : Nat) : Int)).n)) (Sl.fit (HeldDg.at hhg (i := ((k : Nat) : Int)) (by omega) (by omega)) Fit.s) (by omega))) ?_
   rintro _ _ ⟨_, _, ⟨ad31, cp32, ad33, cp34, Y35, rfl, hFY35, hTY35, rfl⟩, rfl, rfl⟩
   refine G.fit (J := blk b30 [.slice ad26 (peelG ((at_ X ((k : Nat) : Int)).n) ((at_ X ((k : Nat) : Int)).xs)).F.length cp27, .slice ad28 (peelG ((at_ X ((k : Nat) : Int)).n) ((at_ X ((k : Nat) : Int)).xs)).T.length cp29, I64 ((peelG ((at_ X ((k : Nat) : Int)).n) ((at_ X ((k : Nat) : Int)).xs)).n), I64 ((peelG ((at_ X ((k : Nat) : Int)).n) ((at_ X ((k : Nat) : Int)).xs)).sq.num), I64 ((peelG ((at_ X ((k : Nat) : Int)).n) ((at_ X ((k : Nat) : Int)).xs)).sq.den)] 58 :: vc 3 (.slice ad26 (peelG ((at_ X ((k : Nat) : Int)).n) ((at_ X ((k : Nat) : Int)).xs)).F.length cp27) ((peelG ((at_ X ((k : Nat) : Int)).n) ((at_ X ((k : Nat) : Int)).xs)).F) :: vc 3 (.slice ad28 (peelG ((at_ X ((k : Nat) : Int)).n) ((at_ X ((k : Nat) : Int)).xs)).T.length cp29) ((peelG ((at_ X ((k : Nat) : Int)).n) ((at_ X ((k : Nat) : Int)).xs)).T) :: blk b25 [.slice ad21 (bestG ((at_ X ((k : Nat) : Int)).n) ((at_ X ((k : Nat) : Int)).xs)).F.length cp22, .slice ad23 (bestG ((at_ X ((k : Nat) : Int)).n) ((at_ X ((k : Nat) : Int)).xs)).T.length cp24, I64 ((bestG ((at_ X ((k : Nat) : Int)).n) ((at_ X ((k : Nat) : Int)).xs)).n), I64 ((bestG ((at_ X ((k : Nat) : Int)).n) ((at_ X ((k : Nat) : Int)).xs)).sq.num), I64 ((bestG ((at_ X ((k : Nat) : Int)).n) ((at_ X ((k : Nat) : Int)).xs)).sq.den)] 58 :: vc 3 (.slice ad21 (bestG ((at_ X ((k : Nat) : Int)).n) ((at_ X ((k : Nat) : Int)).xs)).F.length cp22) ((bestG ((at_ X ((k : Nat) : Int)).n) ((at_ X ((k : Nat) : Int)).xs)).F) :: vc 3 (.slice ad23 (bestG ((at_ X ((k : Nat) : Int)).n) ((at_ X ((k : Nat) : Int)).xs)).T.length cp24) ((bestG ((at_ X ((k : Nat) : Int)).n) ((at_ X ((k : Nat) : Int)).xs)).T) :: blk b20 [.slice ad16 (bestG ((at_ X ((k : Nat) : Int)).n) ((at_ X ((k : Nat) : Int)).xs)).F.length cp17, .slice ad18 (bestG ((at_ X ((k : Nat) : Int)).n) ((at_ X ((k : Nat) : Int)).xs)).T.length cp19, I64 ((bestG ((at_ X ((k : Nat) : Int)).n) ((at_ X ((k : Nat) : Int)).xs)).n), I64 ((bestG ((at_ X ((k : Nat) : Int)).n) ((at_ X ((k : Nat) : Int)).xs)).sq.num), I64 ((bestG ((at_ X ((k : Nat) : Int)).n) ((at_ X ((k : Nat) : Int)).xs)).sq.den)] 58 :: vc 3 (.slice ad16 (bestG ((at_ X ((k : Nat) : Int)).n) ((at_ X ((k : Nat) : Int)).xs)).F.length cp17) ((bestG ((at_ X ((k : Nat) : Int)).n) ((at_ X ((k : Nat) : Int)).xs)).F) :: vc 3 (.slice ad18 (bestG ((at_ X ((k : Nat) : Int)).n) ((at_ X ((k : Nat) : Int)).xs)).T.length cp19) ((bestG ((at_ X ((k : Nat) : Int)).n) ((at_ X ((k : Nat) : Int)).xs)).T) :: blk b15 [I64 ((at_ X ((k : Nat) : Int)).n), .slice (at_ X ((k : Nat) : Int)).a (at_ X ((k : Nat) : Int)).xs.length (at_ X ((k : Nat) : Int)).c] 54 :: vc 54 (.slice ad14 3 3) (X) :: vc 32 (.slice ad10 dg12.length cp11) (dg12) :: blk b8 [I64 (nd3), .slice ad4 dg6.length cp5] 54 :: vc 32 (.slice ad4 dg6.length cp5) (dg6) :: blk dk2 [.slice la ln lc, I64 (iqz)] 79 :: blk b1 [I64 (nd), .slice ra rx.length rc] 54 :: (Y35 ++ I)) Fit.s ?_
   refine G.r (Runs.move rfl) ?_
   refine G.r (Runs.extract rfl rfl) ?_
   refine G.r (Runs.extract rfl rfl) ?_
   refine G.e (Eff.alloc ty58 rfl) ?_
   rintro _ _ ⟨b36, rfl, rfl⟩
   refine G.e (Eff.st (cs := [_, _, _, _, _]) (vs := [_, _, _, _, _]) (cs' := [_, _, _, _, _]) ty58) ?_
   rintro _ _ ⟨rfl, rfl⟩
   refine G.r (Runs.assign rfl) ?_
   refine G.nt ?_
   refine W.sub (L' := [(16, _), (15, _), (14, _), (13, _), (12, _), (11, _), (10, _), (9, _), (8, _), (26, _), (27, _), (28, _)]) (Sub.cons rfl (Sub.cons rfl (Sub.cons rfl (Sub.cons rfl (Sub.cons rfl (Sub.cons rfl (Sub.cons rfl (Sub.cons rfl (Sub.cons rfl (Sub.cons rfl (Sub.cons rfl (Sub.cons rfl Sub.nil)))))))))))) ?_
   refine W.seq ?_
   refine W.drawn mixed ?_
   refine A.hold (blk b36 [.slice ad31 (peelG ((at_ X ((k : Nat) : Int)).n) ((at_ X ((k : Nat) : Int)).xs)).F.length cp32, .slice ad33 (peelG ((at_ X ((k : Nat) : Int)).n) ((at_ X ((k : Nat) : Int)).xs)).T.length cp34, I64 ((peelG ((at_ X ((k : Nat) : Int)).n) ((at_ X ((k : Nat) : Int)).xs)).n), I64 ((peelG ((at_ X ((k : Nat) : Int)).n) ((at_ X ((k : Nat) : Int)).xs)).sq.num), I64 ((peelG ((at_ X ((k : Nat) : Int)).n) ((at_ X ((k : Nat) : Int)).xs)).sq.den)] 58 :: blk b30 [.slice ad26 (peelG ((at_ X ((k : Nat) : Int)).n) ((at_ X ((k : Nat) : Int)).xs)).F.length cp27, .slice ad28 (peelG ((at_ X ((k : Nat) : Int)).n) ((at_ X ((k : Nat) : Int)).xs)).T.length cp29, I64 ((peelG ((at_ X ((k : Nat) : Int)).n) ((at_ X ((k : Nat) : Int)).xs)).n), I64 ((peelG ((at_ X ((k : Nat) : Int)).n) ((at_ X ((k : Nat) : Int)).xs)).sq.num), I64 ((peelG ((at_ X ((k : Nat) : Int)).n) ((at_ X ((k : Nat) : Int)).xs)).sq.den)] 58 :: vc 3 (.slice ad26 (peelG ((at_ X ((k : Nat) : Int)).n) ((at_ X ((k : Nat) : Int)).xs)).F.length cp27) ((peelG ((at_ X ((k : Nat) : Int)).n) ((at_ X ((k : Nat) : Int)).xs)).F) :: vc 3 (.slice ad28 (peelG ((at_ X ((k : Nat) : Int)).n) ((at_ X ((k : Nat) : Int)).xs)).T.length cp29) ((peelG ((at_ X ((k : Nat) : Int)).n) ((at_ X ((k : Nat) : Int)).xs)).T) :: blk b25 [.slice ad21 (bestG ((at_ X ((k : Nat) : Int)).n) ((at_ X ((k : Nat) : Int)).xs)).F.length cp22, .slice ad23 (bestG ((at_ X ((k : Nat) : Int)).n) ((at_ X ((k : Nat) : Int)).xs)).T.length cp24, I64 ((bestG ((at_ X ((k : Nat) : Int)).n) ((at_ X ((k : Nat) : Int)).xs)).n), I64 ((bestG ((at_ X ((k : Nat) : Int)).n) ((at_ X ((k : Nat) : Int)).xs)).sq.num), I64 ((bestG ((at_ X ((k : Nat) : Int)).n) ((at_ X ((k : Nat) : Int)).xs)).sq.den)] 58 :: vc 3 (.slice ad21 (bestG ((at_ X ((k : Nat) : Int)).n) ((at_ X ((k : Nat) : Int)).xs)).F.length cp22) ((bestG ((at_ X ((k : Nat) : Int)).n) ((at_ X ((k : Nat) : Int)).xs)).F) :: vc 3 (.slice ad23 (bestG ((at_ X ((k : Nat) : Int)).n) ((at_ X ((k : Nat) : Int)).xs)).T.length cp24) ((bestG ((at_ X ((k : Nat) : Int)).n) ((at_ X ((k : Nat) : Int)).xs)).T) :: blk b20 [.slice ad16 (bestG ((at_ X ((k : Nat) : Int)).n) ((at_ X ((k : Nat) : Int)).xs)).F.length cp17, .slice ad18 (bestG ((at_ X ((k : Nat) : Int)).n) ((at_ X ((k : Nat) : Int)).xs)).T.length cp19, I64 ((bestG ((at_ X ((k : Nat) : Int)).n) ((at_ X ((k : Nat) : Int)).xs)).n), I64 ((bestG ((at_ X ((k : Nat) : Int)).n) ((at_ X ((k : Nat) : Int)).xs)).sq.num), I64 ((bestG ((at_ X ((k : Nat) : Int)).n) ((at_ X ((k : Nat) : Int)).xs)).sq.den)] 58 :: vc 3 (.slice ad16 (bestG ((at_ X ((k : Nat) : Int)).n) ((at_ X ((k : Nat) : Int)).xs)).F.length cp17) ((bestG ((at_ X ((k : Nat) : Int)).n) ((at_ X ((k : Nat) : Int)).xs)).F) :: vc 3 (.slice ad18 (bestG ((at_ X ((k : Nat) : Int)).n) ((at_ X ((k : Nat) : Int)).xs)).T.length cp19) ((bestG ((at_ X ((k : Nat) : Int)).n) ((at_ X ((k : Nat) : Int)).xs)).T) :: blk b15 [I64 ((at_ X ((k : Nat) : Int)).n), .slice (at_ X ((k : Nat) : Int)).a (at_ X ((k : Nat) : Int)).xs.length (at_ X ((k : Nat) : Int)).c] 54 :: vc 54 (.slice ad14 3 3) (X) :: vc 32 (.slice ad10 dg12.length cp11) (dg12) :: blk b8 [I64 (nd3), .slice ad4 dg6.length cp5] 54 :: vc 32 (.slice ad4 dg6.length cp5) (dg6) :: blk dk2 [.slice la ln lc, I64 (iqz)] 79 :: blk b1 [I64 (nd), .slice ra rx.length rc] 54 :: (Y35 ++ I)) 27 ?_
   refine D.r 0 rfl (Runs.lds (vs := [_, _]) ty54) ?_
   refine D.r 2 rfl (Runs.lds (vs := [_, _]) ty54) ?_
   refine D.step (rs := [1]) (by kernel_rfl) rfl rfl (all1 ?_)
   refine Step.eff rfl (Wanted.plain rfl) (Eff.call call43 rfl rfl (CheckD_ok (nd := ((at_ X ((k : Nat) : Int)).n)) (Sl.fit (HeldDg.at hhg (i := ((k : Nat) : Int)) (by omega) (by omega)) Fit.s))) ?_
   rintro _ _ ⟨_, _, ⟨rfl, rfl⟩, rfl, rfl⟩
   refine ⟨Fit.m, ?_⟩
   refine D.step (rs := [3]) (by kernel_rfl) rfl rfl (all1 ?_)
   refine Step.eff rfl (Wanted.plain rfl) (Eff.call call44 rfl rfl (Check23_ok (nd := ((at_ X ((k : Nat) : Int)).n)) (Sl.fit (HeldDg.at hhg (i := ((k : Nat) : Int)) (by omega) (by omega)) Fit.s))) ?_
   rintro _ _ ⟨_, _, ⟨rfl, rfl⟩, rfl, rfl⟩
   refine ⟨Fit.m, ?_⟩
   refine D.r 4 rfl (Runs.neq rfl rfl) ?_
   refine D.r 5 rfl (Runs.move rfl) ?_
   refine D.split (d := 60) rfl (fun g60 => ?_) (fun g60 => ?_)
   ·exact absurd rfl g60
   ·refine D.ro 6 rfl (Runs.move rfl) ?_
    refine D.ro 7 rfl (Runs.move rfl) ?_
    refine D.ro 8 rfl (Runs.neq rfl rfl) ?_
    refine D.r 9 rfl (Runs.pickf rfl rfl) ?_
    refine D.r 10 rfl (Runs.move rfl) ?_
    refine D.split (d := 65) rfl (fun g65 => ?_) (fun g65 => ?_)
    ·exact absurd rfl g65
    ·refine D.ro 11 rfl (Runs.move rfl) ?_
     refine D.ro 12 rfl (Runs.move rfl) ?_
     refine D.ro 13 rfl (Runs.neq rfl rfl) ?_
     refine D.r 14 rfl (Runs.pickf rfl rfl) ?_
     refine D.r 15 rfl (Runs.move rfl) ?_
     refine D.split (d := 70) rfl (fun g70 => ?_) (fun g70 => ?_)
     ·exact absurd rfl g70
     ·refine D.ro 16 rfl (Runs.lds (vs := [_, _, _, _, _]) ty58) ?_
      refine D.ro 17 rfl (Runs.lds (vs := [_, _, _, _, _]) ty58) ?_
      refine D.step (rs := [18]) (by kernel_rfl) rfl rfl (all1 ?_)
      refine Step.eff rfl (Wanted.on rfl rfl rfl) (Eff.call call45 rfl rfl (SamePair_ok (x := (bestG ((at_ X ((k : Nat) : Int)).n) ((at_ X ((k : Nat) : Int)).xs))) Sl.o Sl.o Sl.o Sl.o)) ?_
      rintro _ _ ⟨_, _, ⟨rfl, rfl⟩, rfl, rfl⟩
      refine ⟨Fit.m, ?_⟩
      refine D.ro 19 rfl (Runs.not rfl) ?_
      refine D.r 20 rfl (Runs.pickf rfl rfl) ?_
      refine D.r 21 rfl (Runs.move rfl) ?_
      refine D.ro 22 rfl (Runs.lds (vs := [_, _, _, _, _]) ty58) ?_
      refine D.ro 23 rfl (Runs.lds (vs := [_, _, _, _, _]) ty58) ?_
      refine D.step (rs := [24]) (by kernel_rfl) rfl rfl (all1 ?_)
      refine Step.eff rfl (Wanted.on rfl rfl rfl) (Eff.call call45 rfl rfl (SamePair_ok (x := (peelG ((at_ X ((k : Nat) : Int)).n) ((at_ X ((k : Nat) : Int)).xs))) Sl.o Sl.o (Sl.fit (show Sl κ (Y35 ++ I) (.slice ad31 (peelG ((at_ X ((k : Nat) : Int)).n) ((at_ X ((k : Nat) : Int)).xs)).F.length cp32) (peelG ((at_ X ((k : Nat) : Int)).n) ((at_ X ((k : Nat) : Int)).xs)).F from Sl.fit hFY35 (Fit.of_sublist (List.sublist_append_left _ _))) Fit.m) (Sl.fit (show Sl κ (Y35 ++ I) (.slice ad33 (peelG ((at_ X ((k : Nat) : Int)).n) ((at_ X ((k : Nat) : Int)).xs)).T.length cp34) (peelG ((at_ X ((k : Nat) : Int)).n) ((at_ X ((k : Nat) : Int)).xs)).T from Sl.fit hTY35 (Fit.of_sublist (List.sublist_append_left _ _))) Fit.m))) ?_
      rintro _ _ ⟨_, _, ⟨rfl, rfl⟩, rfl, rfl⟩
      refine ⟨Fit.m, ?_⟩
      refine D.ro 25 rfl (Runs.not rfl) ?_
      refine D.r 26 rfl (Runs.pickf rfl rfl) ?_
      refine D.done (by kernel_rfl) ?_
      refine V.then ?_
      refine W.sub (L' := [(81, _), (26, _), (27, _), (28, _)]) (Sub.cons rfl (Sub.cons rfl (Sub.cons rfl (Sub.cons rfl Sub.nil)))) ?_
      refine W.no rfl ?_
      refine W.skip ?_
      refine V.block_normal ?_
      refine V.then ?_
      refine W.region ?_
      refine G.r (Runs.add rfl rfl (by unfold InR; omega)) ?_
      refine G.r (Runs.move rfl) ?_
      refine G.nil ?_
      exact V.next ((k + 1), (iqz)) (show ((k + 1 : Nat) ≤ 3) ∧ (0 ≤ (iqz : Int)) from ⟨(by omega), (by omega)⟩) (show 3 - (k + 1 : Nat) < 3 - k from (by omega)) (Sub.cons rfl (Sub.cons rfl (Sub.cons lookO Sub.nil))) (show Fit κ _ (vc 54 (.slice ad14 3 3) (X) :: vc 32 (.slice ad10 dg12.length cp11) (dg12) :: blk b8 [I64 (nd3), .slice ad4 dg6.length cp5] 54 :: vc 32 (.slice ad4 dg6.length cp5) (dg6) :: blk dk2 [.slice la ln lc, I64 ((iqz))] 79 :: blk b1 [I64 (nd), .slice ra rx.length rc] 54 :: I) from (by first | exact Fit.s | exact Fit.sub))
 ·refine W.exit ?_
  refine V.then_exit ?_
  refine V.then_exit ?_
  refine V.block_hit ?_
  refine V.then ?_
  refine W.sr ?_
  refine G.e (Eff.call call36 rfl rfl (Awake23_ok (TabRd.fit hT Fit.m))) ?_
  rintro _ _ ⟨_, _, ⟨rfl, rfl⟩, rfl, rfl⟩
  refine G.r (Runs.assign rfl) ?_
  refine G.nt ?_
  refine W.ret ?_
  exact V.ret1 rfl rfl (I) Fit.m ⟨rfl, rfl⟩

end Go.Sl
