/- A part of the proof of FlowProvesSaid: contracts of the functions that it reaches, and the plain laws that they lean on. No conditions. -/
import Derived.Test.YtbimaodbcjjbfaaPart02
import Derived.Test.YtbimaodbcjjbfaaPart04
namespace Go.Sl
open Go.Proofs
set_option linter.unusedVariables false
set_option linter.unusedSimpArgs false
set_option maxRecDepth 4000
theorem Way_ok {κ : Ctx} {I : List Item} {n : Net} {f : List Int} {v u : Value} (hl : Sl κ I v n.arcs) (hu : Sl κ I u f) (hok : n.Ok) (hfl : f.length = n.arcs.length) :
    CallS Try.prog κ 93 [.agg #[I64 (n.nodes), I64 (n.source), I64 (n.sink), v], u] I (fun r J => ∃ a c out, r = .slice a out.length c ∧ WaySpec n f out ∧ J = vc 3 (.slice a out.length c) out :: I) := by
 have hlim := hok.lim
 have hsrc := hok.src
 refine CallS.enter (L := [(0, .agg #[I64 (n.nodes), I64 (n.source), I64 (n.sink), v]), (1, u)]) Try.func93 rfl rfl rfl rfl ?_
 refine W.sr ?_
 refine G.e (Eff.box (cs := [_, _, _, _]) rfl rfl rfl) ?_
 rintro _ _ ⟨b1, rfl, rfl⟩
 refine G.r (Runs.assign rfl) ?_
 refine G.nt ?_
 refine W.sr ?_
 refine G.r (Runs.fieldAddr fld30_0 rfl) ?_
 refine G.r (Runs.ld ty3) ?_
 refine G.e (Eff.make (α := Int) (n := n.nodes.toNat) Try.underlying22 ty3 rfl rfl rfl (by omega) (by omega) (by decide) rfl) ?_
 rintro _ _ ⟨ad2, cp3, rfl, rfl⟩
 refine G.r (Runs.assign rfl) ?_
 refine G.nt ?_
 refine W.seq ?_
 refine W.sr ?_
 refine G.r (Runs.move rfl) ?_
 refine G.r (Runs.lens Try.underlying22 rfl) ?_
 refine G.r (Runs.move rfl) ?_
 refine G.nt ?_
 refine W.block ?_
 refine W.loop (σ := Nat × (List Int)) (fun s => ([(1, u), (2, .pointer (some ⟨b1, 0, none⟩)), (5, .slice ad2 (List.replicate n.nodes.toNat (default : Int)).length cp3), (15, I64 ((((List.replicate n.nodes.toNat (default : Int)).length : Nat) : Int))), (16, I64 (((s.1 : Nat) : Int)))] : Env)) (fun s => vc 3 (.slice ad2 (List.replicate n.nodes.toNat (default : Int)).length cp3) (s.2) :: blk b1 [I64 (n.nodes), I64 (n.source), I64 (n.sink), v] 30 :: I) (fun s => (s.1 ≤ n.nodes.toNat) ∧ (s.2.length = n.nodes.toNat) ∧ (∀ j, j < s.1 → at_ s.2 (j : Int) = -1)) (fun s => n.nodes.toNat - s.1) (0, List.replicate n.nodes.toNat (default : Int)) (show ((0 : Nat) ≤ n.nodes.toNat) ∧ ((List.replicate n.nodes.toNat (default : Int) : List Int).length = n.nodes.toNat) ∧ (∀ j, j < (0 : Nat) → at_ (List.replicate n.nodes.toNat (default : Int) : List Int) (j : Int) = -1) from ⟨(by omega), (by simp), all_zero⟩) (Sub.cons rfl (Sub.cons rfl (Sub.cons rfl (Sub.cons rfl (Sub.cons (lookI rfl (by omega)) Sub.nil))))) (show Fit κ _ (vc 3 (.slice ad2 (List.replicate n.nodes.toNat (default : Int)).length cp3) ((List.replicate n.nodes.toNat (default : Int))) :: blk b1 [I64 (n.nodes), I64 (n.source), I64 (n.sink), v] 30 :: I) from Fit.sub) ?_
 rintro ⟨k, out⟩ hp
 obtain ⟨hk, hol, ho⟩ : (k ≤ n.nodes.toNat) ∧ (out.length = n.nodes.toNat) ∧ (∀ j, j < k → at_ out (j : Int) = -1) := hp
 show W Try.prog κ 112 _ _ ([(1, u), (2, .pointer (some ⟨b1, 0, none⟩)), (5, .slice ad2 (List.replicate n.nodes.toNat (default : Int)).length cp3), (15, I64 ((((List.replicate n.nodes.toNat (default : Int)).length : Nat) : Int))), (16, I64 (((k : Nat) : Int)))] : Env) (vc 3 (.slice ad2 (List.replicate n.nodes.toNat (default : Int)).length cp3) (out) :: blk b1 [I64 (n.nodes), I64 (n.source), I64 (n.sink), v] 30 :: I)
 have hrl : (List.replicate n.nodes.toNat (default : Int)).length = n.nodes.toNat := List.length_replicate
 refine W.sr ?_
 refine G.r (Runs.lss rfl rfl) ?_
 refine G.nt ?_
 refine W.seq ?_
 refine W.ite rfl (fun c17 => ?_) (fun c17 => ?_)
 ·refine W.skip ?_
  refine V.then ?_
  refine W.seq ?_
  refine W.block ?_
  refine W.sr ?_
  refine G.r (Runs.move rfl) ?_
  refine G.r (Runs.assign rfl) ?_
  refine G.nt ?_
  refine W.region ?_
  refine G.r (Runs.move rfl) ?_
  refine G.r (Runs.move rfl) ?_
  refine G.r (Runs.idx (α := Int) (xs := out) Try.underlying22 ty3 rfl rfl Sl.o (by omega) (by omega)) ?_
  refine G.e (Eff.set (α := Int) (xs := out) (e := 3) (new := -1) ty3 rfl rfl rfl (by omega) (by omega) (by repeat (first | exact At.head _ _ _ | apply At.tail))) ?_
  rintro _ _ ⟨rfl, rfl⟩
  refine G.nil ?_
  refine V.block_normal ?_
  refine V.then ?_
  refine W.region ?_
  refine G.r (Runs.add rfl rfl (by unfold InR; omega)) ?_
  refine G.r (Runs.move rfl) ?_
  refine G.nil ?_
  exact V.next ((k + 1), (List.set out ((k : Nat) : Int).toNat (-1))) (show ((k + 1 : Nat) ≤ n.nodes.toNat) ∧ ((List.set out ((k : Nat) : Int).toNat (-1) : List Int).length = n.nodes.toNat) ∧ (∀ j, j < (k + 1 : Nat) → at_ (List.set out ((k : Nat) : Int).toNat (-1) : List Int) (j : Int) = -1) from ⟨(by omega), (by rw [List.length_set]; exact hol), (fun j hj => by rw [at_set out _ _ _ (by omega) (by omega) (by omega)]; split; rfl; exact ho j (by omega))⟩) (show n.nodes.toNat - (k + 1 : Nat) < n.nodes.toNat - k from (by omega)) (Sub.cons rfl (Sub.cons rfl (Sub.cons rfl (Sub.cons rfl (Sub.cons (lookI rfl (by omega)) Sub.nil))))) (show Fit κ _ (vc 3 (.slice ad2 (List.replicate n.nodes.toNat (default : Int)).length cp3) ((List.set out ((k : Nat) : Int).toNat (-1))) :: blk b1 [I64 (n.nodes), I64 (n.source), I64 (n.sink), v] 30 :: I) from Fit.sub)
 ·refine W.exit ?_
  refine V.then_exit ?_
  refine V.then_exit ?_
  refine V.block_hit ?_
  refine V.then ?_
  refine W.sr ?_
  refine G.r (Runs.move rfl) ?_
  refine G.r (Runs.fieldAddr fld30_1 rfl) ?_
  refine G.r (Runs.ld ty3) ?_
  refine G.r (Runs.fieldAddr fld30_3 rfl) ?_
  refine G.r (Runs.ld ty28) ?_
  refine G.r (Runs.lenT (α := Arc) (xs := n.arcs) Try.underlying28 rfl (Sl.f hl)) ?_
  refine G.r (Runs.idx (α := Int) (xs := out) Try.underlying22 ty3 rfl rfl Sl.o (by omega) (by omega)) ?_
  refine G.e (Eff.set (α := Int) (xs := out) (e := 3) (new := ((n.arcs.length : Nat) : Int)) ty3 rfl rfl rfl (by omega) (by omega) (by repeat (first | exact At.head _ _ _ | apply At.tail))) ?_
  rintro _ _ ⟨rfl, rfl⟩
  have hout : out = List.replicate n.nodes.toNat (-1) := by rw [← hol]; exact eq_rep fun j hj => ho j (by omega)
  refine G.nt ?_
  refine W.sr ?_
  refine G.r (Runs.fieldAddr fld30_1 rfl) ?_
  refine G.r (Runs.ld ty3) ?_
  refine G.e (Eff.bs (α := Int) (cs := [_]) (xs := [n.source]) Try.underlying22 ty3 rfl rfl (by decide) (by decide) rfl rfl rfl rfl) ?_
  rintro _ _ ⟨ad4, rfl, rfl⟩
  refine G.r (Runs.assign rfl) ?_
  refine G.nt ?_
  refine W.sub (L' := [(7, _), (1, _), (2, _), (5, _)]) (Sub.cons rfl (Sub.cons rfl (Sub.cons rfl (Sub.cons rfl Sub.nil)))) ?_
  refine W.seq ?_
  refine W.block ?_
  refine W.loop (σ := (List Int) × (Option Addr) × Nat × (List Int) × Int) (fun s => ([(1, u), (2, .pointer (some ⟨b1, 0, none⟩)), (5, .slice ad2 (List.replicate n.nodes.toNat (default : Int)).length cp3), (7, .slice s.2.1 s.2.2.2.1.length s.2.2.1)] : Env)) (fun s => vc 3 (.slice s.2.1 s.2.2.2.1.length s.2.2.1) (s.2.2.2.1) :: vc 3 (.slice ad2 (List.replicate n.nodes.toNat (default : Int)).length cp3) (s.1) :: blk b1 [I64 (n.nodes), I64 (n.source), I64 (n.sink), v] 30 :: I) (fun s => (WI n f s.1 s.2.2.2.1 s.2.2.2.2 n.arcs.length n.arcs.length) ∧ (un s.1 + s.2.2.2.1.length ≤ 5000)) (fun s => un s.1 + s.2.2.2.1.length) (List.set out (n.source).toNat (((n.arcs.length : Nat) : Int)), ad4, 1, [n.source], n.source) (show (WI n f (List.set out (n.source).toNat (((n.arcs.length : Nat) : Int)) : List Int) ([n.source] : List Int) (n.source : Int) n.arcs.length n.arcs.length) ∧ (un (List.set out (n.source).toNat (((n.arcs.length : Nat) : Int)) : List Int) + ([n.source] : List Int).length ≤ 5000) from ⟨(by subst hout; exact WI.start hok (by omega)), (by have := un_le (List.set out n.source.toNat ((n.arcs.length : Nat) : Int)); rw [List.length_set] at this; simp only [List.length_cons, List.length_nil]; have := hok.lim; omega)⟩) (Sub.cons rfl (Sub.cons rfl (Sub.cons rfl (Sub.cons (lookV rfl (by first | rfl | simp)) Sub.nil)))) (show Fit κ _ (vc 3 (.slice (ad4) ([n.source]).length (1)) (([n.source])) :: vc 3 (.slice ad2 (List.replicate n.nodes.toNat (default : Int)).length cp3) ((List.set out (n.source).toNat (((n.arcs.length : Nat) : Int)))) :: blk b1 [I64 (n.nodes), I64 (n.source), I64 (n.sink), v] 30 :: I) from Fit.sub) ?_
  rintro ⟨out, a, c, todo, x⟩ hp
  obtain ⟨hW, hbd⟩ : (WI n f out todo x n.arcs.length n.arcs.length) ∧ (un out + todo.length ≤ 5000) := hp
  show W Try.prog κ 112 _ _ ([(1, u), (2, .pointer (some ⟨b1, 0, none⟩)), (5, .slice ad2 (List.replicate n.nodes.toNat (default : Int)).length cp3), (7, .slice a todo.length c)] : Env) (vc 3 (.slice a todo.length c) (todo) :: vc 3 (.slice ad2 (List.replicate n.nodes.toNat (default : Int)).length cp3) (out) :: blk b1 [I64 (n.nodes), I64 (n.source), I64 (n.sink), v] 30 :: I)
  have hlen := hW.len
  refine W.seq ?_
  refine W.sr ?_
  refine G.r (Runs.move rfl) ?_
  refine G.r (Runs.lens Try.underlying22 rfl) ?_
  refine G.r (Runs.gtr rfl rfl) ?_
  refine G.nt ?_
  refine W.ite rfl (fun c35 => ?_) (fun c35 => ?_)
  ·refine W.skip ?_
   refine V.then ?_
   refine W.block ?_
   refine W.sr ?_
   refine G.r (Runs.move rfl) ?_
   refine G.r (Runs.idx (α := Int) (xs := todo) Try.underlying22 ty3 rfl rfl Sl.o (by omega) (by omega)) ?_
   refine G.r (Runs.get (xs := todo) ty3 rfl Sl.o (by omega) (by omega)) ?_
   refine G.r (Runs.assign rfl) ?_
   refine G.nt ?_
   refine W.sr ?_
   refine G.r (Runs.move rfl) ?_
   refine G.r (Runs.lo (α := Int) (xs := todo) (l := 1) Try.underlying22 ty3 rfl rfl (by omega) Sl.o (by omega)) ?_
   refine G.fit (J := vc 3 (.slice (adrop a c 1 (Enc.sz Int)) (List.drop 1 todo).length (c - 1)) (List.drop 1 todo) :: vc 3 (.slice ad2 (List.replicate n.nodes.toNat (default : Int)).length cp3) (out) :: blk b1 [I64 (n.nodes), I64 (n.source), I64 (n.sink), v] 30 :: I) (Fit.upd (by repeat (first | exact At.head _ _ _ | apply At.tail)) (reslice (l := 1) (by omega))) ?_
   refine G.r (Runs.assign rfl) ?_
   refine G.nt ?_
   refine W.sub (L' := [(7, _), (8, _), (1, _), (2, _), (5, _)]) (Sub.cons rfl (Sub.cons rfl (Sub.cons rfl (Sub.cons rfl (Sub.cons rfl Sub.nil))))) ?_
   refine W.sr ?_
   refine G.r (Runs.fieldAddr fld30_3 rfl) ?_
   refine G.r (Runs.ld ty28) ?_
   refine G.r (Runs.lenT (α := Arc) (xs := n.arcs) Try.underlying28 rfl (Sl.f hl)) ?_
   refine G.r (Runs.move rfl) ?_
   refine G.nt ?_
   refine W.block ?_
   refine W.loop (σ := Nat × (List Int) × (Option Addr) × Nat × (List Int)) (fun s => ([(1, u), (2, .pointer (some ⟨b1, 0, none⟩)), (5, .slice ad2 (List.replicate n.nodes.toNat (default : Int)).length cp3), (7, .slice s.2.2.1 s.2.2.2.2.length s.2.2.2.1), (8, I64 (at_ todo 0)), (42, v), (43, I64 (((n.arcs.length : Nat) : Int))), (44, I64 (((s.1 : Nat) : Int)))] : Env)) (fun s => vc 3 (.slice s.2.2.1 s.2.2.2.2.length s.2.2.2.1) (s.2.2.2.2) :: vc 3 (.slice ad2 (List.replicate n.nodes.toNat (default : Int)).length cp3) (s.2.1) :: blk b1 [I64 (n.nodes), I64 (n.source), I64 (n.sink), v] 30 :: I) (fun s => (s.1 ≤ n.arcs.length) ∧ (WI n f s.2.1 s.2.2.2.2 (at_ todo 0) s.1 s.1) ∧ (un s.2.1 + s.2.2.2.2.length + 1 = un out + todo.length)) (fun s => n.arcs.length - s.1) (0, out, (adrop a c 1 (Enc.sz Int)), (c - 1), List.drop 1 todo) (show ((0 : Nat) ≤ n.arcs.length) ∧ (WI n f (out : List Int) (List.drop 1 todo : List Int) (at_ todo 0) (0 : Nat) (0 : Nat)) ∧ (un (out : List Int) + (List.drop 1 todo : List Int).length + 1 = un out + todo.length) from ⟨(by omega), (hW.pop (Nat.le_refl _) (by omega)), (by rw [List.length_drop]; omega)⟩) (Sub.cons rfl (Sub.cons rfl (Sub.cons rfl (Sub.cons (lookV rfl (by first | rfl | simp)) (Sub.cons rfl (Sub.cons rfl (Sub.cons rfl (Sub.cons (lookI rfl (by omega)) Sub.nil)))))))) (show Fit κ _ (vc 3 (.slice ((adrop a c 1 (Enc.sz Int))) (List.drop 1 todo).length ((c - 1))) ((List.drop 1 todo)) :: vc 3 (.slice ad2 (List.replicate n.nodes.toNat (default : Int)).length cp3) ((out)) :: blk b1 [I64 (n.nodes), I64 (n.source), I64 (n.sink), v] 30 :: I) from Fit.sub) ?_
   rintro ⟨k, out1, a1, c1, todo1⟩ hp
   obtain ⟨hk, hW1, hmu1⟩ : (k ≤ n.arcs.length) ∧ (WI n f out1 todo1 (at_ todo 0) k k) ∧ (un out1 + todo1.length + 1 = un out + todo.length) := hp
   show W Try.prog κ 112 _ _ ([(1, u), (2, .pointer (some ⟨b1, 0, none⟩)), (5, .slice ad2 (List.replicate n.nodes.toNat (default : Int)).length cp3), (7, .slice a1 todo1.length c1), (8, I64 (at_ todo 0)), (42, v), (43, I64 (((n.arcs.length : Nat) : Int))), (44, I64 (((k : Nat) : Int)))] : Env) (vc 3 (.slice a1 todo1.length c1) (todo1) :: vc 3 (.slice ad2 (List.replicate n.nodes.toNat (default : Int)).length cp3) (out1) :: blk b1 [I64 (n.nodes), I64 (n.source), I64 (n.sink), v] 30 :: I)
   have hlen := hW1.len
   refine W.sr ?_
   refine G.r (Runs.lss rfl rfl) ?_
   refine G.nt ?_
   refine W.seq ?_
   refine W.ite rfl (fun c45 => ?_) (fun c45 => ?_)
   ·refine W.skip ?_
    refine V.then ?_
    refine W.seq ?_
    refine W.block ?_
    refine W.sr ?_
    refine G.r (Runs.move rfl) ?_
    refine G.r (Runs.idx (α := Arc) (xs := n.arcs) Try.underlying28 ty43 rfl rfl (Sl.f hl) (by omega) (by omega)) ?_
    have hb := hok.arc (at_ n.arcs ((k : Nat) : Int)) (at_mem (by omega) (by omega))
    refine G.r (Runs.gets (α := Arc) (xs := n.arcs) ty43 rfl (Sl.f hl) (by omega) (by omega)) ?_
    refine G.e (Eff.alloc ty43 rfl) ?_
    rintro _ _ ⟨b5, rfl, rfl⟩
    refine G.r (Runs.assign rfl) ?_
    refine G.e (Eff.st (cs := [_, _, _]) (vs := [_, _, _]) (cs' := [_, _, _]) ty43) ?_
    rintro _ _ ⟨rfl, rfl⟩
    refine G.nt ?_
    refine W.sub (L' := [(9, _), (10, _), (1, _), (2, _), (5, _), (7, _), (8, _), (42, _), (43, _), (44, _)]) (Sub.cons rfl (Sub.cons rfl (Sub.cons rfl (Sub.cons rfl (Sub.cons rfl (Sub.cons rfl (Sub.cons rfl (Sub.cons rfl (Sub.cons rfl (Sub.cons rfl Sub.nil)))))))))) ?_
    refine W.cut (σ := (List Int) × (Option Addr) × Nat × (List Int)) (fun s => ([(1, u), (2, .pointer (some ⟨b1, 0, none⟩)), (5, .slice ad2 (List.replicate n.nodes.toNat (default : Int)).length cp3), (7, .slice s.2.1 s.2.2.2.length s.2.2.1), (8, I64 (at_ todo 0)), (9, I64 (((k : Nat) : Int))), (10, .pointer (some ⟨b5, 0, none⟩)), (42, v), (43, I64 (((n.arcs.length : Nat) : Int))), (44, I64 (((k : Nat) : Int)))] : Env)) (fun s => blk b5 [I64 ((at_ n.arcs ((k : Nat) : Int)).frm), I64 ((at_ n.arcs ((k : Nat) : Int)).dst), I64 ((at_ n.arcs ((k : Nat) : Int)).cap)] 43 :: vc 3 (.slice s.2.1 s.2.2.2.length s.2.2.1) (s.2.2.2) :: vc 3 (.slice ad2 (List.replicate n.nodes.toNat (default : Int)).length cp3) (s.1) :: blk b1 [I64 (n.nodes), I64 (n.source), I64 (n.sink), v] 30 :: I) (fun s => (WI n f s.1 s.2.2.2 (at_ todo 0) (k + 1) k) ∧ (un s.1 + s.2.2.2.length + 1 = un out + todo.length)) ?_ ?_
    ·refine W.seq ?_
     refine W.drawn mixed ?_
     refine A.hold (blk b5 [I64 ((at_ n.arcs ((k : Nat) : Int)).frm), I64 ((at_ n.arcs ((k : Nat) : Int)).dst), I64 ((at_ n.arcs ((k : Nat) : Int)).cap)] 43 :: vc 3 (.slice a1 todo1.length c1) (todo1) :: vc 3 (.slice ad2 (List.replicate n.nodes.toNat (default : Int)).length cp3) (out1) :: blk b1 [I64 (n.nodes), I64 (n.source), I64 (n.sink), v] 30 :: I) 21 ?_
     refine D.r 0 rfl (Runs.fieldAddr fld43_0 rfl) ?_
     refine D.r 1 rfl (Runs.ld ty3) ?_
     refine D.r 2 rfl (Runs.move rfl) ?_
     refine D.r 3 rfl (Runs.eql rfl rfl) ?_
     refine D.r 4 rfl (Runs.move rfl) ?_
     refine D.split (d := 53) rfl (fun g53 => ?_) (fun g53 => ?_)
     ·refine D.ro 5 rfl (Runs.move rfl) ?_
      refine D.ro 6 rfl (Runs.fieldAddr fld43_1 rfl) ?_
      refine D.ro 7 rfl (Runs.ld ty3) ?_
      refine D.ro 8 rfl (Runs.idx (α := Int) (xs := out1) Try.underlying22 ty3 rfl rfl Sl.o (by omega) (by omega)) ?_
      refine D.ro 9 rfl (Runs.get (xs := out1) ty3 rfl Sl.o (by omega) (by omega)) ?_
      refine D.ro 10 rfl (Runs.eql rfl rfl) ?_
      refine D.r 11 rfl (Runs.pickt rfl rfl) ?_
      refine D.r 12 rfl (Runs.move rfl) ?_
      refine D.split (d := 61) rfl (fun g61 => ?_) (fun g61 => ?_)
      ·refine D.ro 13 rfl (Runs.move rfl) ?_
       refine D.ro 14 rfl (Runs.move rfl) ?_
       refine D.ro 15 rfl (Runs.idx (α := Int) (xs := f) Try.underlying22 ty3 rfl rfl (Sl.f hu) (by omega) (by omega)) ?_
       refine D.ro 16 rfl (Runs.get (xs := f) ty3 rfl (Sl.f hu) (by omega) (by omega)) ?_
       refine D.ro 17 rfl (Runs.fieldAddr fld43_2 rfl) ?_
       refine D.ro 18 rfl (Runs.ld ty3) ?_
       refine D.ro 19 rfl (Runs.lss rfl rfl) ?_
       refine D.r 20 rfl (Runs.pickt rfl rfl) ?_
       refine D.done (by kernel_rfl) ?_
       refine V.then ?_
       refine W.sub (L' := [(69, _), (9, _), (10, _), (1, _), (2, _), (5, _), (7, _), (8, _), (42, _), (43, _), (44, _)]) (Sub.cons rfl (Sub.cons rfl (Sub.cons rfl (Sub.cons rfl (Sub.cons rfl (Sub.cons rfl (Sub.cons rfl (Sub.cons rfl (Sub.cons rfl (Sub.cons rfl (Sub.cons rfl Sub.nil))))))))))) ?_
       refine W.ite rfl (fun c69 => ?_) (fun c69 => ?_)
       ·refine W.sr ?_
        refine G.r (Runs.move rfl) ?_
        refine G.r (Runs.fieldAddr fld43_1 rfl) ?_
        refine G.r (Runs.ld ty3) ?_
        refine G.r (Runs.move rfl) ?_
        refine G.r (Runs.idx (α := Int) (xs := out1) Try.underlying22 ty3 rfl rfl Sl.o (by omega) (by omega)) ?_
        refine G.e (Eff.set (α := Int) (xs := out1) (e := 3) (new := ((k : Nat) : Int)) ty3 rfl rfl rfl (by omega) (by omega) (by repeat (first | exact At.head _ _ _ | apply At.tail))) ?_
        rintro _ _ ⟨rfl, rfl⟩
        refine G.nt ?_
        refine W.sub (L' := [(9, _), (10, _), (1, _), (2, _), (5, _), (7, _), (8, _), (42, _), (43, _), (44, _)]) (Sub.cons rfl (Sub.cons rfl (Sub.cons rfl (Sub.cons rfl (Sub.cons rfl (Sub.cons rfl (Sub.cons rfl (Sub.cons rfl (Sub.cons rfl (Sub.cons rfl Sub.nil)))))))))) ?_
        refine W.region ?_
        refine G.r (Runs.move rfl) ?_
        refine G.r (Runs.fieldAddr fld43_1 rfl) ?_
        refine G.r (Runs.ld ty3) ?_
        refine G.e (Eff.bs (α := Int) (cs := [_]) (xs := [(at_ n.arcs ((k : Nat) : Int)).dst]) Try.underlying22 ty3 rfl rfl (by decide) (by decide) rfl rfl rfl rfl) ?_
        rintro _ _ ⟨ad6, rfl, rfl⟩
        refine G.e (Eff.app (α := Int) (e := 3) (xs := todo1) (ys := ([(at_ n.arcs ((k : Nat) : Int)).dst] : List Int)) Try.underlying22 ty3 rfl rfl rfl (by repeat (first | exact List.mem_cons_self | apply List.mem_cons_of_mem)) Sl.o (by simp only [List.length_cons, List.length_nil]; omega) (by decide) rfl (fun _ _ => (by repeat (first | exact At.head _ _ _ | apply At.tail)))) ?_
        rintro _ _ ⟨ad7, cp8, rfl, rfl⟩
        have hput1 := hW1.put (y := (at_ n.arcs ((k : Nat) : Int)).dst) (i := ((k : Nat) : Int)) (by omega) g61 (.inl ⟨by omega, by omega, rfl, c69, g53⟩)
        refine G.r (Runs.assign rfl) ?_
        refine G.nil ?_
        exact V.mid ((List.set out1 ((at_ n.arcs ((k : Nat) : Int)).dst).toNat (((k : Nat) : Int))), (ad7), (cp8), (todo1 ++ ([(at_ n.arcs ((k : Nat) : Int)).dst] : List Int))) (show (WI n f (List.set out1 ((at_ n.arcs ((k : Nat) : Int)).dst).toNat (((k : Nat) : Int)) : List Int) (todo1 ++ ([(at_ n.arcs ((k : Nat) : Int)).dst] : List Int) : List Int) (at_ todo 0) (k + 1) k) ∧ (un (List.set out1 ((at_ n.arcs ((k : Nat) : Int)).dst).toNat (((k : Nat) : Int)) : List Int) + (todo1 ++ ([(at_ n.arcs ((k : Nat) : Int)).dst] : List Int) : List Int).length + 1 = un out + todo.length) from ⟨(by first | exact hW1.fwd (fun a _ => absurd a g53) | exact hW1.fwd (fun _ _ => ⟨by omega, g61⟩) | exact hW1.fwd (fun _ b => absurd b c69) | exact (hput1.1).fwd (fun _ _ => (Rd.set (by omega) (by omega)).2 (.inl rfl))), (by first | exact hmu1 | (rw [List.length_append]; simp only [List.length_cons, List.length_nil]; have := hput1.2; omega))⟩) (Sub.cons rfl (Sub.cons rfl (Sub.cons rfl (Sub.cons (lookV rfl (by first | rfl | simp)) (Sub.cons rfl (Sub.cons rfl (Sub.cons rfl (Sub.cons rfl (Sub.cons rfl (Sub.cons rfl Sub.nil)))))))))) (show Fit κ _ (blk b5 [I64 ((at_ n.arcs ((k : Nat) : Int)).frm), I64 ((at_ n.arcs ((k : Nat) : Int)).dst), I64 ((at_ n.arcs ((k : Nat) : Int)).cap)] 43 :: vc 3 (.slice (ad7) (todo1 ++ ([(at_ n.arcs ((k : Nat) : Int)).dst] : List Int)).length (cp8)) ((todo1 ++ ([(at_ n.arcs ((k : Nat) : Int)).dst] : List Int))) :: vc 3 (.slice ad2 (List.replicate n.nodes.toNat (default : Int)).length cp3) ((List.set out1 ((at_ n.arcs ((k : Nat) : Int)).dst).toNat (((k : Nat) : Int)))) :: blk b1 [I64 (n.nodes), I64 (n.source), I64 (n.sink), v] 30 :: I) from Fit.sub)
       ·refine W.skip ?_
        exact V.mid ((out1), (a1), (c1), (todo1)) (show (WI n f (out1 : List Int) (todo1 : List Int) (at_ todo 0) (k + 1) k) ∧ (un (out1 : List Int) + (todo1 : List Int).length + 1 = un out + todo.length) from ⟨(by first | exact hW1.fwd (fun a _ => absurd a g53) | exact hW1.fwd (fun _ _ => ⟨by omega, g61⟩) | exact hW1.fwd (fun _ b => absurd b c69) | exact (hput1.1).fwd (fun _ _ => (Rd.set (by omega) (by omega)).2 (.inl rfl))), (by first | exact hmu1 | (rw [List.length_append]; simp only [List.length_cons, List.length_nil]; have := hput1.2; omega))⟩) (Sub.cons rfl (Sub.cons rfl (Sub.cons rfl (Sub.cons (lookV rfl (by first | rfl | simp)) (Sub.cons rfl (Sub.cons rfl (Sub.cons rfl (Sub.cons rfl (Sub.cons rfl (Sub.cons rfl Sub.nil)))))))))) (show Fit κ _ (blk b5 [I64 ((at_ n.arcs ((k : Nat) : Int)).frm), I64 ((at_ n.arcs ((k : Nat) : Int)).dst), I64 ((at_ n.arcs ((k : Nat) : Int)).cap)] 43 :: vc 3 (.slice (a1) (todo1).length (c1)) ((todo1)) :: vc 3 (.slice ad2 (List.replicate n.nodes.toNat (default : Int)).length cp3) ((out1)) :: blk b1 [I64 (n.nodes), I64 (n.source), I64 (n.sink), v] 30 :: I) from Fit.sub)
      ·refine D.po 13 rfl ?_
       refine D.po 14 rfl ?_
       refine D.po 15 rfl ?_
       refine D.po 16 rfl ?_
       refine D.po 17 rfl ?_
       refine D.po 18 rfl ?_
       refine D.po 19 rfl ?_
       refine D.r 20 rfl (Runs.pickf rfl rfl) ?_
       refine D.done (by kernel_rfl) ?_
       refine V.then ?_
       refine W.sub (L' := [(69, _), (9, _), (10, _), (1, _), (2, _), (5, _), (7, _), (8, _), (42, _), (43, _), (44, _)]) (Sub.cons rfl (Sub.cons rfl (Sub.cons rfl (Sub.cons rfl (Sub.cons rfl (Sub.cons rfl (Sub.cons rfl (Sub.cons rfl (Sub.cons rfl (Sub.cons rfl (Sub.cons rfl Sub.nil))))))))))) ?_
       refine W.no rfl ?_
       refine W.skip ?_
       exact V.mid ((out1), (a1), (c1), (todo1)) (show (WI n f (out1 : List Int) (todo1 : List Int) (at_ todo 0) (k + 1) k) ∧ (un (out1 : List Int) + (todo1 : List Int).length + 1 = un out + todo.length) from ⟨(by first | exact hW1.fwd (fun a _ => absurd a g53) | exact hW1.fwd (fun _ _ => ⟨by omega, g61⟩) | exact hW1.fwd (fun _ b => absurd b c69) | exact (hput1.1).fwd (fun _ _ => (Rd.set (by omega) (by omega)).2 (.inl rfl))), (by first | exact hmu1 | (rw [List.length_append]; simp only [List.length_cons, List.length_nil]; have := hput1.2; omega))⟩) (Sub.cons rfl (Sub.cons rfl (Sub.cons rfl (Sub.cons (lookV rfl (by first | rfl | simp)) (Sub.cons rfl (Sub.cons rfl (Sub.cons rfl (Sub.cons rfl (Sub.cons rfl (Sub.cons rfl Sub.nil)))))))))) (show Fit κ _ (blk b5 [I64 ((at_ n.arcs ((k : Nat) : Int)).frm), I64 ((at_ n.arcs ((k : Nat) : Int)).dst), I64 ((at_ n.arcs ((k : Nat) : Int)).cap)] 43 :: vc 3 (.slice (a1) (todo1).length (c1)) ((todo1)) :: vc 3 (.slice ad2 (List.replicate n.nodes.toNat (default : Int)).length cp3) ((out1)) :: blk b1 [I64 (n.nodes), I64 (n.source), I64 (n.sink), v] 30 :: I) from Fit.sub)
     ·refine D.po 5 rfl ?_
      refine D.po 6 rfl ?_
      refine D.po 7 rfl ?_
      refine D.po 8 rfl ?_
      refine D.po 9 rfl ?_
      refine D.po 10 rfl ?_
      refine D.r 11 rfl (Runs.pickf rfl rfl) ?_
      refine D.r 12 rfl (Runs.move rfl) ?_
      refine D.po 13 rfl ?_
      refine D.po 14 rfl ?_
      refine D.po 15 rfl ?_
      refine D.po 16 rfl ?_
      refine D.po 17 rfl ?_
      refine D.po 18 rfl ?_
      refine D.po 19 rfl ?_
      refine D.r 20 rfl (Runs.pickf rfl rfl) ?_
      refine D.done (by kernel_rfl) ?_
      refine V.then ?_
      refine W.sub (L' := [(69, _), (9, _), (10, _), (1, _), (2, _), (5, _), (7, _), (8, _), (42, _), (43, _), (44, _)]) (Sub.cons rfl (Sub.cons rfl (Sub.cons rfl (Sub.cons rfl (Sub.cons rfl (Sub.cons rfl (Sub.cons rfl (Sub.cons rfl (Sub.cons rfl (Sub.cons rfl (Sub.cons rfl Sub.nil))))))))))) ?_
      refine W.no rfl ?_
      refine W.skip ?_
      exact V.mid ((out1), (a1), (c1), (todo1)) (show (WI n f (out1 : List Int) (todo1 : List Int) (at_ todo 0) (k + 1) k) ∧ (un (out1 : List Int) + (todo1 : List Int).length + 1 = un out + todo.length) from ⟨(by first | exact hW1.fwd (fun a _ => absurd a g53) | exact hW1.fwd (fun _ _ => ⟨by omega, g61⟩) | exact hW1.fwd (fun _ b => absurd b c69) | exact (hput1.1).fwd (fun _ _ => (Rd.set (by omega) (by omega)).2 (.inl rfl))), (by first | exact hmu1 | (rw [List.length_append]; simp only [List.length_cons, List.length_nil]; have := hput1.2; omega))⟩) (Sub.cons rfl (Sub.cons rfl (Sub.cons rfl (Sub.cons (lookV rfl (by first | rfl | simp)) (Sub.cons rfl (Sub.cons rfl (Sub.cons rfl (Sub.cons rfl (Sub.cons rfl (Sub.cons rfl Sub.nil)))))))))) (show Fit κ _ (blk b5 [I64 ((at_ n.arcs ((k : Nat) : Int)).frm), I64 ((at_ n.arcs ((k : Nat) : Int)).dst), I64 ((at_ n.arcs ((k : Nat) : Int)).cap)] 43 :: vc 3 (.slice (a1) (todo1).length (c1)) ((todo1)) :: vc 3 (.slice ad2 (List.replicate n.nodes.toNat (default : Int)).length cp3) ((out1)) :: blk b1 [I64 (n.nodes), I64 (n.source), I64 (n.sink), v] 30 :: I) from Fit.sub)
    ·rintro ⟨out2, a2, c2, todo2⟩ hp
     obtain ⟨hW2, hmu2⟩ : (WI n f out2 todo2 (at_ todo 0) (k + 1) k) ∧ (un out2 + todo2.length + 1 = un out + todo.length) := hp
     show W Try.prog κ 112 _ _ ([(1, u), (2, .pointer (some ⟨b1, 0, none⟩)), (5, .slice ad2 (List.replicate n.nodes.toNat (default : Int)).length cp3), (7, .slice a2 todo2.length c2), (8, I64 (at_ todo 0)), (9, I64 (((k : Nat) : Int))), (10, .pointer (some ⟨b5, 0, none⟩)), (42, v), (43, I64 (((n.arcs.length : Nat) : Int))), (44, I64 (((k : Nat) : Int)))] : Env) (blk b5 [I64 ((at_ n.arcs ((k : Nat) : Int)).frm), I64 ((at_ n.arcs ((k : Nat) : Int)).dst), I64 ((at_ n.arcs ((k : Nat) : Int)).cap)] 43 :: vc 3 (.slice a2 todo2.length c2) (todo2) :: vc 3 (.slice ad2 (List.replicate n.nodes.toNat (default : Int)).length cp3) (out2) :: blk b1 [I64 (n.nodes), I64 (n.source), I64 (n.sink), v] 30 :: I)
     have hlen2 := hW2.len
     refine W.sr ?_
     refine G.r (Runs.fieldAddr fld43_1 rfl) ?_
     refine G.r (Runs.ld ty3) ?_
     refine G.r (Runs.move rfl) ?_
     refine G.r (Runs.eql rfl rfl) ?_
     refine G.r (Runs.move rfl) ?_
     refine G.split (d := 84) rfl (fun g84 => ?_) (fun g84 => ?_)
     ·refine G.ro (Runs.move rfl) ?_
      refine G.ro (Runs.fieldAddr fld43_0 rfl) ?_
      refine G.ro (Runs.ld ty3) ?_
      refine G.ro (Runs.idx (α := Int) (xs := out2) Try.underlying22 ty3 rfl rfl Sl.o (by omega) (by omega)) ?_
      refine G.ro (Runs.get (xs := out2) ty3 rfl Sl.o (by omega) (by omega)) ?_
      refine G.ro (Runs.eql rfl rfl) ?_
      refine G.r (Runs.pickt rfl rfl) ?_
      refine G.r (Runs.move rfl) ?_
      refine G.split (d := 92) rfl (fun g92 => ?_) (fun g92 => ?_)
      ·refine G.ro (Runs.move rfl) ?_
       refine G.ro (Runs.move rfl) ?_
       refine G.ro (Runs.idx (α := Int) (xs := f) Try.underlying22 ty3 rfl rfl (Sl.f hu) (by omega) (by omega)) ?_
       refine G.ro (Runs.get (xs := f) ty3 rfl (Sl.f hu) (by omega) (by omega)) ?_
       refine G.ro (Runs.gtr rfl rfl) ?_
       refine G.r (Runs.pickt rfl rfl) ?_
       refine G.nt ?_
       refine W.sub (L' := [(98, _), (1, _), (2, _), (5, _), (7, _), (8, _), (9, _), (10, _), (42, _), (43, _), (44, _)]) (Sub.cons rfl (Sub.cons rfl (Sub.cons rfl (Sub.cons rfl (Sub.cons rfl (Sub.cons rfl (Sub.cons rfl (Sub.cons rfl (Sub.cons rfl (Sub.cons rfl (Sub.cons rfl Sub.nil))))))))))) ?_
       refine W.ite rfl (fun c98 => ?_) (fun c98 => ?_)
       ·refine W.sr ?_
        refine G.r (Runs.move rfl) ?_
        refine G.r (Runs.fieldAddr fld43_0 rfl) ?_
        refine G.r (Runs.ld ty3) ?_
        refine G.r (Runs.move rfl) ?_
        refine G.r (Runs.sub rfl rfl (by unfold InR; omega)) ?_
        refine G.r (Runs.idx (α := Int) (xs := out2) Try.underlying22 ty3 rfl rfl Sl.o (by omega) (by omega)) ?_
        refine G.e (Eff.set (α := Int) (xs := out2) (e := 3) (new := (-2) - ((k : Nat) : Int)) ty3 rfl rfl rfl (by omega) (by omega) (by repeat (first | exact At.head _ _ _ | apply At.tail))) ?_
        rintro _ _ ⟨rfl, rfl⟩
        refine G.nt ?_
        refine W.sub (L' := [(1, _), (2, _), (5, _), (7, _), (8, _), (10, _), (42, _), (43, _), (44, _)]) (Sub.cons rfl (Sub.cons rfl (Sub.cons rfl (Sub.cons rfl (Sub.cons rfl (Sub.cons rfl (Sub.cons rfl (Sub.cons rfl (Sub.cons rfl Sub.nil))))))))) ?_
        refine W.region ?_
        refine G.r (Runs.move rfl) ?_
        refine G.r (Runs.fieldAddr fld43_0 rfl) ?_
        refine G.r (Runs.ld ty3) ?_
        refine G.e (Eff.bs (α := Int) (cs := [_]) (xs := [(at_ n.arcs ((k : Nat) : Int)).frm]) Try.underlying22 ty3 rfl rfl (by decide) (by decide) rfl rfl rfl rfl) ?_
        rintro _ _ ⟨ad9, rfl, rfl⟩
        refine G.e (Eff.app (α := Int) (e := 3) (xs := todo2) (ys := ([(at_ n.arcs ((k : Nat) : Int)).frm] : List Int)) Try.underlying22 ty3 rfl rfl rfl (by repeat (first | exact List.mem_cons_self | apply List.mem_cons_of_mem)) Sl.o (by simp only [List.length_cons, List.length_nil]; omega) (by decide) rfl (fun _ _ => (by repeat (first | exact At.head _ _ _ | apply At.tail)))) ?_
        rintro _ _ ⟨ad10, cp11, rfl, rfl⟩
        have hput2 := hW2.put (y := (at_ n.arcs ((k : Nat) : Int)).frm) (i := -2 - ((k : Nat) : Int)) (by omega) g92 (.inr (by rw [show -2 - (-2 - ((k : Nat) : Int)) = ((k : Nat) : Int) from by omega]; exact ⟨by omega, by omega, rfl, c98, g84⟩))
        refine G.r (Runs.assign rfl) ?_
        refine G.nil ?_
        refine V.block_normal ?_
        refine V.then ?_
        refine W.sub (L' := [(7, _), (1, _), (2, _), (5, _), (8, _), (42, _), (43, _), (44, _)]) (Sub.cons rfl (Sub.cons rfl (Sub.cons rfl (Sub.cons rfl (Sub.cons rfl (Sub.cons rfl (Sub.cons rfl (Sub.cons rfl Sub.nil)))))))) ?_
        refine W.region ?_
        refine G.r (Runs.add rfl rfl (by unfold InR; omega)) ?_
        refine G.r (Runs.move rfl) ?_
        refine G.nil ?_
        exact V.next ((k + 1), (List.set out2 ((at_ n.arcs ((k : Nat) : Int)).frm).toNat ((-2) - ((k : Nat) : Int))), (ad10), (cp11), (todo2 ++ ([(at_ n.arcs ((k : Nat) : Int)).frm] : List Int))) (show ((k + 1 : Nat) ≤ n.arcs.length) ∧ (WI n f (List.set out2 ((at_ n.arcs ((k : Nat) : Int)).frm).toNat ((-2) - ((k : Nat) : Int)) : List Int) (todo2 ++ ([(at_ n.arcs ((k : Nat) : Int)).frm] : List Int) : List Int) (at_ todo 0) (k + 1 : Nat) (k + 1 : Nat)) ∧ (un (List.set out2 ((at_ n.arcs ((k : Nat) : Int)).frm).toNat ((-2) - ((k : Nat) : Int)) : List Int) + (todo2 ++ ([(at_ n.arcs ((k : Nat) : Int)).frm] : List Int) : List Int).length + 1 = un out + todo.length) from ⟨(by omega), (by first | exact hW2.bwd (fun a _ => absurd a g84) | exact hW2.bwd (fun _ _ => ⟨by omega, g92⟩) | exact hW2.bwd (fun _ b => absurd b c98) | exact (hput2.1).bwd (fun _ _ => (Rd.set (by omega) (by omega)).2 (.inl rfl))), (by first | exact hmu2 | (rw [List.length_append]; simp only [List.length_cons, List.length_nil]; have := hput2.2; omega))⟩) (show n.arcs.length - (k + 1 : Nat) < n.arcs.length - k from (by omega)) (Sub.cons rfl (Sub.cons rfl (Sub.cons rfl (Sub.cons (lookV rfl (by first | rfl | simp)) (Sub.cons rfl (Sub.cons rfl (Sub.cons rfl (Sub.cons (lookI rfl (by omega)) Sub.nil)))))))) (show Fit κ _ (vc 3 (.slice (ad10) (todo2 ++ ([(at_ n.arcs ((k : Nat) : Int)).frm] : List Int)).length (cp11)) ((todo2 ++ ([(at_ n.arcs ((k : Nat) : Int)).frm] : List Int))) :: vc 3 (.slice ad2 (List.replicate n.nodes.toNat (default : Int)).length cp3) ((List.set out2 ((at_ n.arcs ((k : Nat) : Int)).frm).toNat ((-2) - ((k : Nat) : Int)))) :: blk b1 [I64 (n.nodes), I64 (n.source), I64 (n.sink), v] 30 :: I) from Fit.sub)
       ·refine W.skip ?_
        refine V.block_normal ?_
        refine V.then ?_
        refine W.region ?_
        refine G.r (Runs.add rfl rfl (by unfold InR; omega)) ?_
        refine G.r (Runs.move rfl) ?_
        refine G.nil ?_
        exact V.next ((k + 1), (out2), (a2), (c2), (todo2)) (show ((k + 1 : Nat) ≤ n.arcs.length) ∧ (WI n f (out2 : List Int) (todo2 : List Int) (at_ todo 0) (k + 1 : Nat) (k + 1 : Nat)) ∧ (un (out2 : List Int) + (todo2 : List Int).length + 1 = un out + todo.length) from ⟨(by omega), (by first | exact hW2.bwd (fun a _ => absurd a g84) | exact hW2.bwd (fun _ _ => ⟨by omega, g92⟩) | exact hW2.bwd (fun _ b => absurd b c98) | exact (hput2.1).bwd (fun _ _ => (Rd.set (by omega) (by omega)).2 (.inl rfl))), (by first | exact hmu2 | (rw [List.length_append]; simp only [List.length_cons, List.length_nil]; have := hput2.2; omega))⟩) (show n.arcs.length - (k + 1 : Nat) < n.arcs.length - k from (by omega)) (Sub.cons rfl (Sub.cons rfl (Sub.cons rfl (Sub.cons (lookV rfl (by first | rfl | simp)) (Sub.cons rfl (Sub.cons rfl (Sub.cons rfl (Sub.cons (lookI rfl (by omega)) Sub.nil)))))))) (show Fit κ _ (vc 3 (.slice (a2) (todo2).length (c2)) ((todo2)) :: vc 3 (.slice ad2 (List.replicate n.nodes.toNat (default : Int)).length cp3) ((out2)) :: blk b1 [I64 (n.nodes), I64 (n.source), I64 (n.sink), v] 30 :: I) from Fit.sub)
      ·refine G.po ?_
       refine G.po ?_
       refine G.po ?_
       refine G.po ?_
       refine G.po ?_
       refine G.r (Runs.pickf rfl rfl) ?_
       refine G.nt ?_
       refine W.sub (L' := [(98, _), (1, _), (2, _), (5, _), (7, _), (8, _), (9, _), (10, _), (42, _), (43, _), (44, _)]) (Sub.cons rfl (Sub.cons rfl (Sub.cons rfl (Sub.cons rfl (Sub.cons rfl (Sub.cons rfl (Sub.cons rfl (Sub.cons rfl (Sub.cons rfl (Sub.cons rfl (Sub.cons rfl Sub.nil))))))))))) ?_
       refine W.no rfl ?_
       refine W.skip ?_
       refine V.block_normal ?_
       refine V.then ?_
       refine W.region ?_
       refine G.r (Runs.add rfl rfl (by unfold InR; omega)) ?_
       refine G.r (Runs.move rfl) ?_
       refine G.nil ?_
       exact V.next ((k + 1), (out2), (a2), (c2), (todo2)) (show ((k + 1 : Nat) ≤ n.arcs.length) ∧ (WI n f (out2 : List Int) (todo2 : List Int) (at_ todo 0) (k + 1 : Nat) (k + 1 : Nat)) ∧ (un (out2 : List Int) + (todo2 : List Int).length + 1 = un out + todo.length) from ⟨(by omega), (by first | exact hW2.bwd (fun a _ => absurd a g84) | exact hW2.bwd (fun _ _ => ⟨by omega, g92⟩) | exact hW2.bwd (fun _ b => absurd b c98) | exact (hput2.1).bwd (fun _ _ => (Rd.set (by omega) (by omega)).2 (.inl rfl))), (by first | exact hmu2 | (rw [List.length_append]; simp only [List.length_cons, List.length_nil]; have := hput2.2; omega))⟩) (show n.arcs.length - (k + 1 : Nat) < n.arcs.length - k from (by omega)) (Sub.cons rfl (Sub.cons rfl (Sub.cons rfl (Sub.cons (lookV rfl (by first | rfl | simp)) (Sub.cons rfl (Sub.cons rfl (Sub.cons rfl (Sub.cons (lookI rfl (by omega)) Sub.nil)))))))) (show Fit κ _ (vc 3 (.slice (a2) (todo2).length (c2)) ((todo2)) :: vc 3 (.slice ad2 (List.replicate n.nodes.toNat (default : Int)).length cp3) ((out2)) :: blk b1 [I64 (n.nodes), I64 (n.source), I64 (n.sink), v] 30 :: I) from Fit.sub)
     ·refine G.po ?_
      refine G.po ?_
      refine G.po ?_
      refine G.po ?_
      refine G.po ?_
      refine G.po ?_
      refine G.r (Runs.pickf rfl rfl) ?_
      refine G.r (Runs.move rfl) ?_
      refine G.po ?_
      refine G.po ?_
      refine G.po ?_
      refine G.po ?_
      refine G.po ?_
      refine G.r (Runs.pickf rfl rfl) ?_
      refine G.nt ?_
      refine W.sub (L' := [(98, _), (1, _), (2, _), (5, _), (7, _), (8, _), (9, _), (10, _), (42, _), (43, _), (44, _)]) (Sub.cons rfl (Sub.cons rfl (Sub.cons rfl (Sub.cons rfl (Sub.cons rfl (Sub.cons rfl (Sub.cons rfl (Sub.cons rfl (Sub.cons rfl (Sub.cons rfl (Sub.cons rfl Sub.nil))))))))))) ?_
      refine W.no rfl ?_
      refine W.skip ?_
      refine V.block_normal ?_
      refine V.then ?_
      refine W.region ?_
      refine G.r (Runs.add rfl rfl (by unfold InR; omega)) ?_
      refine G.r (Runs.move rfl) ?_
      refine G.nil ?_
      exact V.next ((k + 1), (out2), (a2), (c2), (todo2)) (show ((k + 1 : Nat) ≤ n.arcs.length) ∧ (WI n f (out2 : List Int) (todo2 : List Int) (at_ todo 0) (k + 1 : Nat) (k + 1 : Nat)) ∧ (un (out2 : List Int) + (todo2 : List Int).length + 1 = un out + todo.length) from ⟨(by omega), (by first | exact hW2.bwd (fun a _ => absurd a g84) | exact hW2.bwd (fun _ _ => ⟨by omega, g92⟩) | exact hW2.bwd (fun _ b => absurd b c98) | exact (hput2.1).bwd (fun _ _ => (Rd.set (by omega) (by omega)).2 (.inl rfl))), (by first | exact hmu2 | (rw [List.length_append]; simp only [List.length_cons, List.length_nil]; have := hput2.2; omega))⟩) (show n.arcs.length - (k + 1 : Nat) < n.arcs.length - k from (by omega)) (Sub.cons rfl (Sub.cons rfl (Sub.cons rfl (Sub.cons (lookV rfl (by first | rfl | simp)) (Sub.cons rfl (Sub.cons rfl (Sub.cons rfl (Sub.cons (lookI rfl (by omega)) Sub.nil)))))))) (show Fit κ _ (vc 3 (.slice (a2) (todo2).length (c2)) ((todo2)) :: vc 3 (.slice ad2 (List.replicate n.nodes.toNat (default : Int)).length cp3) ((out2)) :: blk b1 [I64 (n.nodes), I64 (n.source), I64 (n.sink), v] 30 :: I) from Fit.sub)
   ·refine W.exit ?_
    refine V.then_exit ?_
    refine V.then_exit ?_
    refine V.block_hit ?_
    refine V.block_normal ?_
    exact V.next ((out1), (a1), (c1), (todo1), (at_ todo 0)) (show (WI n f (out1 : List Int) (todo1 : List Int) (at_ todo 0 : Int) n.arcs.length n.arcs.length) ∧ (un (out1 : List Int) + (todo1 : List Int).length ≤ 5000) from ⟨(by rw [show n.arcs.length = k from by omega]; exact hW1), (by omega)⟩) (show un (out1 : List Int) + (todo1 : List Int).length < un out + todo.length from (by omega)) (Sub.cons rfl (Sub.cons rfl (Sub.cons rfl (Sub.cons (lookV rfl (by first | rfl | simp)) Sub.nil)))) (show Fit κ _ (vc 3 (.slice (a1) (todo1).length (c1)) ((todo1)) :: vc 3 (.slice ad2 (List.replicate n.nodes.toNat (default : Int)).length cp3) ((out1)) :: blk b1 [I64 (n.nodes), I64 (n.source), I64 (n.sink), v] 30 :: I) from Fit.sub)
  ·refine W.exit ?_
   refine V.then_exit ?_
   refine V.then_exit ?_
   refine V.block_hit ?_
   refine V.then ?_
   refine W.sr ?_
   refine G.r (Runs.move rfl) ?_
   refine G.r (Runs.assign rfl) ?_
   refine G.nt ?_
   refine W.ret ?_
   have ht0 : todo = [] := List.eq_nil_of_length_eq_zero (by omega)
   subst ht0
   have hlo : (List.replicate n.nodes.toNat (default : Int)).length = out.length := by rw [List.length_replicate]; omega
   exact V.ret1 rfl rfl (vc 3 (.slice ad2 (List.replicate n.nodes.toNat (default : Int)).length cp3) out :: I) Fit.sub ⟨ad2, cp3, out, by rw [hlo], hW.spec (Nat.le_refl _), by rw [hlo]⟩

end Go.Sl
namespace Go.Sl
open Go.Proofs
set_option linter.unusedVariables false
set_option linter.unusedSimpArgs false
set_option maxRecDepth 4000
theorem RPush_base {κ : Ctx} {I : List Item} {n : Net} {f out : List Int} {v u : Value} {a : Option Addr} {c m : Nat} (hl : ∀ g : List Int, Sl κ (vc 3 (.slice a m c) g :: I) v n.arcs) (hu : ∀ g : List Int, Sl κ (vc 3 (.slice a m c) g :: I) u out) (hok : n.Ok) (hf : IsFlow n f) (hway : WaySpec n f out) (hsink : Rd out n.sink) :
    CallS Try.prog κ 94 [.agg #[I64 (n.nodes), I64 (n.source), I64 (n.sink), v], .slice a m c, u] (vc 3 (.slice a m c) (f) :: I) (fun r J => ∃ y : Int × List Int, (r = I64 y.1 ∧ IsFlow n y.2 ∧ netF n y.2 n.source = netF n f n.source + y.1 ∧ 1 ≤ y.1) ∧ J = [] ++ vc 3 (.slice a m c) y.2 :: I) := by
 obtain ⟨rk, B, hB, hpar⟩ := hway.par
 have hlim := hok.lim
 have hlen := hway.len
 have hfl := hf.len
 have hsnk := hok.snk
 refine CallS.enter (L := [(0, .agg #[I64 (n.nodes), I64 (n.source), I64 (n.sink), v]), (1, .slice a m c), (2, u)]) Try.func94 rfl rfl rfl rfl ?_
 refine W.sr ?_
 refine G.e (Eff.box (cs := [_, _, _, _]) rfl rfl rfl) ?_
 rintro _ _ ⟨b1, rfl, rfl⟩
 refine G.r (Runs.assign rfl) ?_
 refine G.nt ?_
 refine W.sr ?_
 refine G.r (Runs.assign rfl) ?_
 refine G.nt ?_
 refine W.seq ?_
 refine W.sr ?_
 refine G.r (Runs.fieldAddr fld30_2 rfl) ?_
 refine G.r (Runs.ld ty3) ?_
 refine G.r (Runs.assign rfl) ?_
 refine G.nt ?_
 refine W.block ?_
 refine W.loop (σ := Nat × Int) (fun s => ([(1, .slice a m c), (2, u), (3, .pointer (some ⟨b1, 0, none⟩)), (7, I64 (s.2)), (8, I64 (itN n out s.1))] : Env)) (fun s => blk b1 [I64 (n.nodes), I64 (n.source), I64 (n.sink), v] 30 :: vc 3 (.slice a m c) (f) :: I) (fun s => (PW n f out rk s.1 s.2)) (fun s => rk (itN n out s.1)) (0, 1099511627776) (show (PW n f out rk (0 : Nat) (1099511627776 : Int)) from (PW.start hsink)) (Sub.cons rfl (Sub.cons rfl (Sub.cons rfl (Sub.cons (lookI rfl (by first | rfl | exact it_pos (by assumption) | exact it_neg (by assumption) | omega)) (Sub.cons (lookI rfl (by first | rfl | exact it_pos (by assumption) | exact it_neg (by assumption) | omega)) Sub.nil))))) (show Fit κ _ (blk b1 [I64 (n.nodes), I64 (n.source), I64 (n.sink), v] 30 :: vc 3 (.slice a m c) (f) :: I) from Fit.sub) ?_
 rintro ⟨j, most⟩ hp
 have hpw : (PW n f out rk j most) := hp
 show W Try.prog κ 98 _ _ ([(1, .slice a m c), (2, u), (3, .pointer (some ⟨b1, 0, none⟩)), (7, I64 (most)), (8, I64 (itN n out j))] : Env) (blk b1 [I64 (n.nodes), I64 (n.source), I64 (n.sink), v] 30 :: vc 3 (.slice a m c) (f) :: I)
 have hrd := hpw.rd j (Nat.le_refl _)
 have hrd1 := hrd.1
 refine W.seq ?_
 refine W.sr ?_
 refine G.r (Runs.move rfl) ?_
 refine G.r (Runs.fieldAddr fld30_1 rfl) ?_
 refine G.r (Runs.ld ty3) ?_
 refine G.r (Runs.neq rfl rfl) ?_
 refine G.nt ?_
 refine W.ite rfl (fun c17 => ?_) (fun c17 => ?_)
 ·refine W.skip ?_
  refine V.then ?_
  refine W.block ?_
  refine W.sr ?_
  refine G.r (Runs.move rfl) ?_
  refine G.r (Runs.move rfl) ?_
  refine G.r (Runs.idx (α := Int) (xs := out) Try.underlying22 ty3 rfl rfl (Sl.fit (hu _) Fit.m) (by omega) (by omega)) ?_
  refine G.r (Runs.get (xs := out) ty3 rfl (Sl.fit (hu _) Fit.m) (by omega) (by omega)) ?_
  have hp := hpar _ hrd c17
  refine G.r (Runs.assign rfl) ?_
  refine G.nt ?_
  refine W.sub (L' := [(9, _), (1, _), (2, _), (3, _), (7, _)]) (Sub.cons rfl (Sub.cons rfl (Sub.cons rfl (Sub.cons rfl (Sub.cons rfl Sub.nil))))) ?_
  refine W.sr ?_
  refine G.r (Runs.move rfl) ?_
  refine G.r (Runs.geq rfl rfl) ?_
  refine G.nt ?_
  refine W.ite rfl (fun c23 => ?_) (fun c23 => ?_)
  ·refine W.drawn mixed ?_
   refine A.hold (blk b1 [I64 (n.nodes), I64 (n.source), I64 (n.sink), v] 30 :: vc 3 (.slice a m c) (f) :: I) 21 ?_
   refine D.r 0 rfl (Runs.move rfl) ?_
   have hq := hp.pos c23
   have hac := arc_ok hok (i := (at_ out (itN n out j))) (by omega) (by omega)
   have hcp := cap_ok hf.cap (i := (at_ out (itN n out j))) (by omega) (by omega)
   refine D.r 1 rfl (Runs.fieldAddr fld30_3 rfl) ?_
   refine D.r 2 rfl (Runs.ld ty28) ?_
   refine D.r 3 rfl (Runs.move rfl) ?_
   refine D.r 4 rfl (Runs.idx (α := Arc) (xs := n.arcs) Try.underlying28 ty43 rfl rfl (Sl.fit (hl _) Fit.m) (by omega) (by omega)) ?_
   refine D.r 5 rfl (Runs.fld (α := Arc) (xs := n.arcs) fld43_2 rfl (Sl.fit (hl _) Fit.m) (by omega)) ?_
   refine D.r 6 rfl (Runs.getf (α := Arc) (xs := n.arcs) (u := I64 ((at_ n.arcs (at_ out (itN n out j))).cap)) ty3 rfl (Sl.fit (hl _) Fit.m) (by omega) (by omega) rfl) ?_
   refine D.r 7 rfl (Runs.move rfl) ?_
   refine D.r 8 rfl (Runs.move rfl) ?_
   refine D.r 9 rfl (Runs.idx (α := Int) (xs := f) Try.underlying22 ty3 rfl rfl Sl.o (by omega) (by omega)) ?_
   refine D.r 10 rfl (Runs.get (xs := f) ty3 rfl Sl.o (by omega) (by omega)) ?_
   refine D.r 11 rfl (Runs.sub rfl rfl (by unfold InR; omega)) ?_
   refine D.r 12 rfl (Runs.min rfl rfl) ?_
   refine D.r 13 rfl (Runs.fieldAddr fld30_3 rfl) ?_
   refine D.r 14 rfl (Runs.ld ty28) ?_
   refine D.r 15 rfl (Runs.move rfl) ?_
   refine D.r 16 rfl (Runs.idx (α := Arc) (xs := n.arcs) Try.underlying28 ty43 rfl rfl (Sl.fit (hl _) Fit.m) (by omega) (by omega)) ?_
   refine D.r 17 rfl (Runs.fld (α := Arc) (xs := n.arcs) fld43_0 rfl (Sl.fit (hl _) Fit.m) (by omega)) ?_
   refine D.r 18 rfl (Runs.getf (α := Arc) (xs := n.arcs) (u := I64 ((at_ n.arcs (at_ out (itN n out j))).frm)) ty3 rfl (Sl.fit (hl _) Fit.m) (by omega) (by omega) rfl) ?_
   refine D.r 19 rfl (Runs.assign rfl) ?_
   refine D.r 20 rfl (Runs.assign rfl) ?_
   refine D.done (by kernel_rfl) ?_
   refine V.block_normal ?_
   exact V.next ((j + 1), (if (((at_ n.arcs (at_ out (itN n out j))).cap) - (at_ f (at_ out (itN n out j)))) < most then (((at_ n.arcs (at_ out (itN n out j))).cap) - (at_ f (at_ out (itN n out j)))) else most)) (show (PW n f out rk (j + 1 : Nat) (if (((at_ n.arcs (at_ out (itN n out j))).cap) - (at_ f (at_ out (itN n out j)))) < most then (((at_ n.arcs (at_ out (itN n out j))).cap) - (at_ f (at_ out (itN n out j)))) else most : Int)) from (by have h9 := hpw.step c17 hp; first | (rw [rsN_pos c23] at h9; exact h9) | (rw [rsN_neg c23] at h9; exact h9))) (show rk (itN n out (j + 1 : Nat)) < rk (itN n out j) from (par_rd hp).2.1) (Sub.cons rfl (Sub.cons rfl (Sub.cons rfl (Sub.cons (lookI rfl (by first | rfl | exact it_pos (by assumption) | exact it_neg (by assumption) | omega)) (Sub.cons (lookI rfl (by first | rfl | exact it_pos (by assumption) | exact it_neg (by assumption) | omega)) Sub.nil))))) (show Fit κ _ (blk b1 [I64 (n.nodes), I64 (n.source), I64 (n.sink), v] 30 :: vc 3 (.slice a m c) (f) :: I) from Fit.sub)
  ·refine W.drawn mixed ?_
   refine A.hold (blk b1 [I64 (n.nodes), I64 (n.source), I64 (n.sink), v] 30 :: vc 3 (.slice a m c) (f) :: I) 16 ?_
   refine D.r 0 rfl (Runs.move rfl) ?_
   have hq := hp.neg c23
   have hac := arc_ok hok (i := (-2 - at_ out (itN n out j))) (by omega) (by omega)
   have hcp := cap_ok hf.cap (i := (-2 - at_ out (itN n out j))) (by omega) (by omega)
   refine D.r 1 rfl (Runs.move rfl) ?_
   refine D.r 2 rfl (Runs.move rfl) ?_
   refine D.r 3 rfl (Runs.sub rfl rfl (by unfold InR; omega)) ?_
   refine D.r 4 rfl (Runs.idx (α := Int) (xs := f) Try.underlying22 ty3 rfl rfl Sl.o (by omega) (by omega)) ?_
   refine D.r 5 rfl (Runs.get (xs := f) ty3 rfl Sl.o (by omega) (by omega)) ?_
   refine D.r 6 rfl (Runs.min rfl rfl) ?_
   refine D.r 7 rfl (Runs.fieldAddr fld30_3 rfl) ?_
   refine D.r 8 rfl (Runs.ld ty28) ?_
   refine D.r 9 rfl (Runs.move rfl) ?_
   refine D.r 10 rfl (Runs.sub rfl rfl (by unfold InR; omega)) ?_
   refine D.r 11 rfl (Runs.idx (α := Arc) (xs := n.arcs) Try.underlying28 ty43 rfl rfl (Sl.fit (hl _) Fit.m) (by omega) (by omega)) ?_
   refine D.r 12 rfl (Runs.fld (α := Arc) (xs := n.arcs) fld43_1 rfl (Sl.fit (hl _) Fit.m) (by omega)) ?_
   refine D.r 13 rfl (Runs.getf (α := Arc) (xs := n.arcs) (u := I64 ((at_ n.arcs ((-2) - (at_ out (itN n out j)))).dst)) ty3 rfl (Sl.fit (hl _) Fit.m) (by omega) (by omega) rfl) ?_
   refine D.r 14 rfl (Runs.assign rfl) ?_
   refine D.r 15 rfl (Runs.assign rfl) ?_
   refine D.done (by kernel_rfl) ?_
   refine V.block_normal ?_
   exact V.next ((j + 1), (if (at_ f ((-2) - (at_ out (itN n out j)))) < most then (at_ f ((-2) - (at_ out (itN n out j)))) else most)) (show (PW n f out rk (j + 1 : Nat) (if (at_ f ((-2) - (at_ out (itN n out j)))) < most then (at_ f ((-2) - (at_ out (itN n out j)))) else most : Int)) from (by have h9 := hpw.step c17 hp; first | (rw [rsN_pos c23] at h9; exact h9) | (rw [rsN_neg c23] at h9; exact h9))) (show rk (itN n out (j + 1 : Nat)) < rk (itN n out j) from (par_rd hp).2.1) (Sub.cons rfl (Sub.cons rfl (Sub.cons rfl (Sub.cons (lookI rfl (by first | rfl | exact it_pos (by assumption) | exact it_neg (by assumption) | omega)) (Sub.cons (lookI rfl (by first | rfl | exact it_pos (by assumption) | exact it_neg (by assumption) | omega)) Sub.nil))))) (show Fit κ _ (blk b1 [I64 (n.nodes), I64 (n.source), I64 (n.sink), v] 30 :: vc 3 (.slice a m c) (f) :: I) from Fit.sub)
 ·refine W.exit ?_
  refine V.then_exit ?_
  refine V.then_exit ?_
  refine V.block_hit ?_
  refine V.then ?_
  refine W.seq ?_
  refine W.sr ?_
  refine G.r (Runs.fieldAddr fld30_2 rfl) ?_
  refine G.r (Runs.ld ty3) ?_
  refine G.r (Runs.assign rfl) ?_
  have hJ : itN n out j = n.source := Decidable.of_not_not c17
  refine G.nt ?_
  refine W.block ?_
  refine W.loop (σ := Nat × (List Int)) (fun s => ([(1, .slice a m c), (2, u), (3, .pointer (some ⟨b1, 0, none⟩)), (7, I64 (most)), (10, I64 (itN n out s.1))] : Env)) (fun s => blk b1 [I64 (n.nodes), I64 (n.source), I64 (n.sink), v] 30 :: vc 3 (.slice a m c) (s.2) :: I) (fun s => (s.1 ≤ j) ∧ (PI n f out most s.1 s.2)) (fun s => j - s.1) (0, f) (show ((0 : Nat) ≤ j) ∧ (PI n f out most (0 : Nat) (f : List Int)) from ⟨(by omega), (PI.start hf _)⟩) (Sub.cons rfl (Sub.cons rfl (Sub.cons rfl (Sub.cons rfl (Sub.cons (lookI rfl (by first | rfl | exact it_pos (by assumption) | exact it_neg (by assumption) | omega)) Sub.nil))))) (show Fit κ _ (blk b1 [I64 (n.nodes), I64 (n.source), I64 (n.sink), v] 30 :: vc 3 (.slice a m c) ((f)) :: I) from Fit.sub) ?_
  rintro ⟨i, f1⟩ hp
  obtain ⟨hi, hpi⟩ : (i ≤ j) ∧ (PI n f out most i f1) := hp
  show W Try.prog κ 98 _ _ ([(1, .slice a m c), (2, u), (3, .pointer (some ⟨b1, 0, none⟩)), (7, I64 (most)), (10, I64 (itN n out i))] : Env) (blk b1 [I64 (n.nodes), I64 (n.source), I64 (n.sink), v] 30 :: vc 3 (.slice a m c) (f1) :: I)
  have hrd := hpw.rd i hi
  have hrd1 := hrd.1
  have hfl1 := hpi.len
  have hpos := hpw.pos
  refine W.seq ?_
  refine W.sr ?_
  refine G.r (Runs.move rfl) ?_
  refine G.r (Runs.fieldAddr fld30_1 rfl) ?_
  refine G.r (Runs.ld ty3) ?_
  refine G.r (Runs.neq rfl rfl) ?_
  refine G.nt ?_
  refine W.ite rfl (fun c62 => ?_) (fun c62 => ?_)
  ·refine W.skip ?_
   refine V.then ?_
   refine W.block ?_
   refine W.sr ?_
   refine G.r (Runs.move rfl) ?_
   refine G.r (Runs.move rfl) ?_
   refine G.r (Runs.idx (α := Int) (xs := out) Try.underlying22 ty3 rfl rfl (Sl.fit (hu _) Fit.m) (by omega) (by omega)) ?_
   refine G.r (Runs.get (xs := out) ty3 rfl (Sl.fit (hu _) Fit.m) (by omega) (by omega)) ?_
   have hij := it_lt hi hJ c62
   have hp := hpw.par i hij
   have hr1 := hpw.res i hij
   refine G.r (Runs.assign rfl) ?_
   refine G.nt ?_
   refine W.sub (L' := [(11, _), (1, _), (2, _), (3, _), (7, _)]) (Sub.cons rfl (Sub.cons rfl (Sub.cons rfl (Sub.cons rfl (Sub.cons rfl Sub.nil))))) ?_
   refine W.sr ?_
   refine G.r (Runs.move rfl) ?_
   refine G.r (Runs.geq rfl rfl) ?_
   refine G.nt ?_
   refine W.ite rfl (fun c68 => ?_) (fun c68 => ?_)
   ·refine W.sr ?_
    refine G.r (Runs.move rfl) ?_
    have hq := hp.pos c68
    have hac := arc_ok hok (i := (at_ out (itN n out i))) (by omega) (by omega)
    have hcp := cap_ok hpi.cap (i := (at_ out (itN n out i))) (by omega) (by omega)
    rw [rsN_pos c68] at hr1
    have hcp0 := cap_ok hf.cap (i := (at_ out (itN n out i))) (by omega) (by omega)
    refine G.r (Runs.move rfl) ?_
    refine G.r (Runs.idx (α := Int) (xs := f1) Try.underlying22 ty3 rfl rfl Sl.o (by omega) (by omega)) ?_
    refine G.r (Runs.get (xs := f1) ty3 rfl Sl.o (by omega) (by omega)) ?_
    refine G.r (Runs.move rfl) ?_
    refine G.r (Runs.add rfl rfl (by unfold InR; omega)) ?_
    refine G.r (Runs.idx (α := Int) (xs := f1) Try.underlying22 ty3 rfl rfl Sl.o (by omega) (by omega)) ?_
    refine G.e (Eff.set (α := Int) (xs := f1) (e := 3) (new := (at_ f1 (at_ out (itN n out i))) + most) ty3 rfl rfl rfl (by omega) (by omega) (by repeat (first | exact At.head _ _ _ | apply At.tail))) ?_
    rintro _ _ ⟨rfl, rfl⟩
    refine G.nt ?_
    refine W.sub (L' := [(11, _), (1, _), (2, _), (3, _), (7, _)]) (Sub.cons rfl (Sub.cons rfl (Sub.cons rfl (Sub.cons rfl (Sub.cons rfl Sub.nil))))) ?_
    refine W.region ?_
    refine G.r (Runs.fieldAddr fld30_3 rfl) ?_
    refine G.r (Runs.ld ty28) ?_
    refine G.r (Runs.move rfl) ?_
    refine G.r (Runs.idx (α := Arc) (xs := n.arcs) Try.underlying28 ty43 rfl rfl (Sl.fit (hl _) Fit.m) (by omega) (by omega)) ?_
    refine G.r (Runs.fld (α := Arc) (xs := n.arcs) fld43_0 rfl (Sl.fit (hl _) Fit.m) (by omega)) ?_
    refine G.r (Runs.getf (α := Arc) (xs := n.arcs) (u := I64 ((at_ n.arcs (at_ out (itN n out i))).frm)) ty3 rfl (Sl.fit (hl _) Fit.m) (by omega) (by omega) rfl) ?_
    refine G.r (Runs.assign rfl) ?_
    refine G.nil ?_
    refine V.block_normal ?_
    exact V.next ((i + 1), (List.set f1 (at_ out (itN n out i)).toNat ((at_ f1 (at_ out (itN n out i))) + most))) (show ((i + 1 : Nat) ≤ j) ∧ (PI n f out most (i + 1 : Nat) (List.set f1 (at_ out (itN n out i)).toNat ((at_ f1 (at_ out (itN n out i))) + most) : List Int)) from ⟨(by omega), (by first | exact (hpi.step hpw hij).1 c68 | exact (hpi.step hpw hij).2 (by omega))⟩) (show j - (i + 1 : Nat) < j - i from (by omega)) (Sub.cons rfl (Sub.cons rfl (Sub.cons rfl (Sub.cons rfl (Sub.cons (lookI rfl (by first | rfl | exact it_pos (by assumption) | exact it_neg (by assumption) | omega)) Sub.nil))))) (show Fit κ _ (blk b1 [I64 (n.nodes), I64 (n.source), I64 (n.sink), v] 30 :: vc 3 (.slice a m c) ((List.set f1 (at_ out (itN n out i)).toNat ((at_ f1 (at_ out (itN n out i))) + most))) :: I) from Fit.sub)
   ·refine W.sr ?_
    refine G.r (Runs.move rfl) ?_
    have hq := hp.neg c68
    have hac := arc_ok hok (i := (-2 - at_ out (itN n out i))) (by omega) (by omega)
    have hcp := cap_ok hpi.cap (i := (-2 - at_ out (itN n out i))) (by omega) (by omega)
    rw [rsN_neg c68] at hr1
    have hcp0 := cap_ok hf.cap (i := (-2 - at_ out (itN n out i))) (by omega) (by omega)
    refine G.r (Runs.move rfl) ?_
    refine G.r (Runs.sub rfl rfl (by unfold InR; omega)) ?_
    refine G.r (Runs.idx (α := Int) (xs := f1) Try.underlying22 ty3 rfl rfl Sl.o (by omega) (by omega)) ?_
    refine G.r (Runs.get (xs := f1) ty3 rfl Sl.o (by omega) (by omega)) ?_
    refine G.r (Runs.move rfl) ?_
    refine G.r (Runs.sub rfl rfl (by unfold InR; omega)) ?_
    refine G.r (Runs.idx (α := Int) (xs := f1) Try.underlying22 ty3 rfl rfl Sl.o (by omega) (by omega)) ?_
    refine G.e (Eff.set (α := Int) (xs := f1) (e := 3) (new := (at_ f1 ((-2) - (at_ out (itN n out i)))) - most) ty3 rfl rfl rfl (by omega) (by omega) (by repeat (first | exact At.head _ _ _ | apply At.tail))) ?_
    rintro _ _ ⟨rfl, rfl⟩
    refine G.nt ?_
    refine W.sub (L' := [(11, _), (1, _), (2, _), (3, _), (7, _)]) (Sub.cons rfl (Sub.cons rfl (Sub.cons rfl (Sub.cons rfl (Sub.cons rfl Sub.nil))))) ?_
    refine W.region ?_
    refine G.r (Runs.fieldAddr fld30_3 rfl) ?_
    refine G.r (Runs.ld ty28) ?_
    refine G.r (Runs.move rfl) ?_
    refine G.r (Runs.sub rfl rfl (by unfold InR; omega)) ?_
    refine G.r (Runs.idx (α := Arc) (xs := n.arcs) Try.underlying28 ty43 rfl rfl (Sl.fit (hl _) Fit.m) (by omega) (by omega)) ?_
    refine G.r (Runs.fld (α := Arc) (xs := n.arcs) fld43_1 rfl (Sl.fit (hl _) Fit.m) (by omega)) ?_
    refine G.r (Runs.getf (α := Arc) (xs := n.arcs) (u := I64 ((at_ n.arcs ((-2) - (at_ out (itN n out i)))).dst)) ty3 rfl (Sl.fit (hl _) Fit.m) (by omega) (by omega) rfl) ?_
    refine G.r (Runs.assign rfl) ?_
    refine G.nil ?_
    refine V.block_normal ?_
    exact V.next ((i + 1), (List.set f1 ((-2) - (at_ out (itN n out i))).toNat ((at_ f1 ((-2) - (at_ out (itN n out i)))) - most))) (show ((i + 1 : Nat) ≤ j) ∧ (PI n f out most (i + 1 : Nat) (List.set f1 ((-2) - (at_ out (itN n out i))).toNat ((at_ f1 ((-2) - (at_ out (itN n out i)))) - most) : List Int)) from ⟨(by omega), (by first | exact (hpi.step hpw hij).1 c68 | exact (hpi.step hpw hij).2 (by omega))⟩) (show j - (i + 1 : Nat) < j - i from (by omega)) (Sub.cons rfl (Sub.cons rfl (Sub.cons rfl (Sub.cons rfl (Sub.cons (lookI rfl (by first | rfl | exact it_pos (by assumption) | exact it_neg (by assumption) | omega)) Sub.nil))))) (show Fit κ _ (blk b1 [I64 (n.nodes), I64 (n.source), I64 (n.sink), v] 30 :: vc 3 (.slice a m c) ((List.set f1 ((-2) - (at_ out (itN n out i))).toNat ((at_ f1 ((-2) - (at_ out (itN n out i)))) - most))) :: I) from Fit.sub)
  ·refine W.exit ?_
   refine V.then_exit ?_
   refine V.then_exit ?_
   refine V.block_hit ?_
   refine V.then ?_
   refine W.sr ?_
   refine G.r (Runs.move rfl) ?_
   refine G.r (Runs.assign rfl) ?_
   refine G.nt ?_
   refine W.ret ?_
   have hij := hpw.eq hi (Decidable.of_not_not c62)
   subst hij
   have hd := hpi.done hok hf (Decidable.of_not_not c17)
   exact V.ret1 rfl rfl (vc 3 (.slice a m c) f1 :: I) Fit.sub ⟨(most, f1), ⟨rfl, hd.1, hd.2, hpw.pos.1⟩, rfl⟩

theorem RPush_at {κ : Ctx} {I : List Item} {F : Item → List Item} {n : Net} {f out : List Int} {v u : Value} {a : Option Addr} {c m : Nat} (hat : AtF I (vc 3 (.slice a m c) f) F) (hl : ∀ g : List Int, Sl κ (F (vc 3 (.slice a m c) g)) v n.arcs) (hu : ∀ g : List Int, Sl κ (F (vc 3 (.slice a m c) g)) u out)
    (hok : n.Ok) (hf : IsFlow n f) (hway : WaySpec n f out) (hsink : Rd out n.sink) :
    CallS Try.prog κ 94 [.agg #[I64 n.nodes, I64 n.source, I64 n.sink, v], .slice a m c, u] I fun r J => ∃ d f', r = I64 d ∧ IsFlow n f' ∧ netF n f' n.source = netF n f n.source + d ∧ 1 ≤ d ∧ J = F (vc 3 (.slice a m c) f') :=
  (CallS.at (Post := fun r (y : Int × List Int) => r = I64 y.1 ∧ IsFlow n y.2 ∧ netF n y.2 n.source = netF n f n.source + y.1 ∧ 1 ≤ y.1) (Z := fun _ => []) (X := fun y : Int × List Int => vc 3 (.slice a m c) y.2) hat fun J _ hF => RPush_base (fun g => (hl g).fit (hF _)) (fun g => (hu g).fit (hF _)) hok hf hway hsink).mono fun _ _ ⟨y, ⟨h1, h2, h3, h4⟩, h5⟩ => ⟨y.1, y.2, h1, h2, h3, h4, h5⟩

end Go.Sl
namespace Go.Sl
open Go.Proofs
set_option linter.unusedVariables false
set_option linter.unusedSimpArgs false
set_option maxRecDepth 4000
theorem RMax_err {κ : Ctx} {I : List Item} {n : Net} {v : Value} (hl : Sl κ I v n.arcs) (he : checkN n ≠ 0) :
    CallS Try.prog κ 24 [.agg #[I64 (n.nodes), I64 (n.source), I64 (n.sink), v]] I (fun r J => r = .tuple #[.agg #[.slice none 0 0, I64 0, .slice none 0 0], I64 (checkN n)] ∧ I = J) := by
 refine CallS.enter (L := [(0, .agg #[I64 (n.nodes), I64 (n.source), I64 (n.sink), v])]) Try.func24 rfl rfl rfl rfl ?_
 refine W.sr ?_
 refine G.e (Eff.box (cs := [_, _, _, _]) rfl rfl rfl) ?_
 rintro _ _ ⟨b1, rfl, rfl⟩
 refine G.e (Eff.alloc ty24 rfl) ?_
 rintro _ _ ⟨b2, rfl, rfl⟩
 refine G.r (Runs.assign rfl) ?_
 refine G.nt ?_
 refine W.seq ?_
 refine W.sr ?_
 refine G.r (Runs.lds (vs := [_, _, _, _]) ty30) ?_
 refine G.e (Eff.call call35 rfl rfl (RCheck_ok (n := n) (Sl.f hl))) ?_
 rintro _ _ ⟨_, _, ⟨rfl, rfl⟩, rfl, rfl⟩
 refine G.r (Runs.assign rfl) ?_
 refine G.nt ?_
 refine W.sr ?_
 refine G.r (Runs.move rfl) ?_
 refine G.r (Runs.neq rfl rfl) ?_
 refine G.nt ?_
 refine W.ite rfl (fun c11 => ?_) (fun c11 => ?_)
 ·refine W.sr ?_
  refine G.r (Runs.build (cells := [_, _, _]) ty24 Try.underlying24 pl24 rfl rfl) ?_
  refine G.r (Runs.move rfl) ?_
  refine G.e (Eff.st (cs := [_, _, _]) (vs := [_, _, _]) (cs' := [_, _, _]) ty24) ?_
  rintro _ _ ⟨rfl, rfl⟩
  refine G.r (Runs.assign rfl) ?_
  refine G.nt ?_
  refine W.ret ?_
  refine V.then_ret ?_
  exact V.retc1 rfl ty24 rfl rfl (by repeat (first | exact List.mem_cons_self | apply List.mem_cons_of_mem)) rfl (I) Fit.m ⟨rfl, rfl⟩
 ·exact absurd he c11

theorem RMax_ok {κ : Ctx} {I : List Item} {n : Net} {v : Value} (hl : Sl κ I v n.arcs) (hok : n.Ok) :
    CallS Try.prog κ 24 [.agg #[I64 (n.nodes), I64 (n.source), I64 (n.sink), v]] I (fun r J => ∃ a c f a' c' side val, r = .tuple #[.agg #[.slice a f.length c, I64 val, .slice a' side.length c'], I64 0] ∧ MaxF n f side val ∧ J = vc 3 (.slice a' side.length c') side :: vc 3 (.slice a f.length c) f :: I) := by
 have hlim := hok.lim
 have hsnk := hok.snk
 have hsrc := hok.src
 refine CallS.enter (L := [(0, .agg #[I64 (n.nodes), I64 (n.source), I64 (n.sink), v])]) Try.func24 rfl rfl rfl rfl ?_
 refine W.sr ?_
 refine G.e (Eff.box (cs := [_, _, _, _]) rfl rfl rfl) ?_
 rintro _ _ ⟨b1, rfl, rfl⟩
 refine G.e (Eff.alloc ty24 rfl) ?_
 rintro _ _ ⟨b2, rfl, rfl⟩
 refine G.r (Runs.assign rfl) ?_
 refine G.nt ?_
 refine W.seq ?_
 refine W.sr ?_
 refine G.r (Runs.lds (vs := [_, _, _, _]) ty30) ?_
 refine G.e (Eff.call call35 rfl rfl (RCheck_ok (n := n) (Sl.f hl))) ?_
 rintro _ _ ⟨_, _, ⟨rfl, rfl⟩, rfl, rfl⟩
 refine G.r (Runs.assign rfl) ?_
 refine G.nt ?_
 refine W.sr ?_
 refine G.r (Runs.move rfl) ?_
 refine G.r (Runs.neq rfl rfl) ?_
 refine G.nt ?_
 refine W.ite rfl (fun c11 => ?_) (fun c11 => ?_)
 ·exact absurd (checkN_ok.2 hok) c11
 ·refine W.skip ?_
  refine V.then ?_
  refine W.sr ?_
  refine G.r (Runs.fieldAddr fld30_3 rfl) ?_
  refine G.r (Runs.ld ty28) ?_
  refine G.r (Runs.lenT (α := Arc) (xs := n.arcs) Try.underlying28 rfl (Sl.f hl)) ?_
  refine G.e (Eff.make (α := Int) (n := n.arcs.length) Try.underlying22 ty3 rfl rfl rfl (by omega) (by omega) (by decide) rfl) ?_
  rintro _ _ ⟨ad3, cp4, rfl, rfl⟩
  refine G.r (Runs.build (cells := [_, _, _]) ty24 Try.underlying24 pl24 rfl rfl) ?_
  refine G.e (Eff.alloc ty24 rfl) ?_
  rintro _ _ ⟨b5, rfl, rfl⟩
  refine G.e (Eff.st (cs := [_, _, _]) (vs := [_, _, _]) (cs' := [_, _, _]) ty24) ?_
  rintro _ _ ⟨rfl, rfl⟩
  refine G.nt ?_
  refine W.sub (L' := [(5, _), (2, _), (1, _)]) (Sub.cons rfl (Sub.cons rfl (Sub.cons rfl Sub.nil))) ?_
  refine W.block ?_
  refine W.loop (σ := (List Int) × Int) (fun s => ([(1, .pointer (some ⟨b1, 0, none⟩)), (2, .pointer (some ⟨b2, 0, none⟩)), (5, .pointer (some ⟨b5, 0, none⟩))] : Env)) (fun s => blk b5 [.slice ad3 (List.replicate n.arcs.length (default : Int)).length cp4, I64 (s.2), .slice none 0 0] 24 :: vc 3 (.slice ad3 (List.replicate n.arcs.length (default : Int)).length cp4) (s.1) :: blk b2 [.slice none 0 0, I64 (0), .slice none 0 0] 24 :: blk b1 [I64 (n.nodes), I64 (n.source), I64 (n.sink), v] 30 :: I) (fun s => (IsFlow n s.1) ∧ (s.2 = netF n s.1 n.source) ∧ (0 ≤ s.2)) (fun s => (18014398509481984 - s.2).toNat) (List.replicate n.arcs.length (default : Int), 0) (show (IsFlow n (List.replicate n.arcs.length (default : Int) : List Int)) ∧ ((0 : Int) = netF n (List.replicate n.arcs.length (default : Int) : List Int) n.source) ∧ (0 ≤ (0 : Int)) from ⟨(flow_zero n hok).1, (flow_zero n hok).2.symm, (by omega)⟩) (Sub.cons rfl (Sub.cons rfl (Sub.cons rfl Sub.nil))) (show Fit κ _ (blk b5 [.slice ad3 (List.replicate n.arcs.length (default : Int)).length cp4, I64 ((0)), .slice none 0 0] 24 :: vc 3 (.slice ad3 (List.replicate n.arcs.length (default : Int)).length cp4) ((List.replicate n.arcs.length (default : Int))) :: blk b2 [.slice none 0 0, I64 (0), .slice none 0 0] 24 :: blk b1 [I64 (n.nodes), I64 (n.source), I64 (n.sink), v] 30 :: I) from Fit.sub) ?_
  rintro ⟨f, val⟩ hp
  obtain ⟨hf, hval, hv0⟩ : (IsFlow n f) ∧ (val = netF n f n.source) ∧ (0 ≤ val) := hp
  show W Try.prog κ 56 _ _ ([(1, .pointer (some ⟨b1, 0, none⟩)), (2, .pointer (some ⟨b2, 0, none⟩)), (5, .pointer (some ⟨b5, 0, none⟩))] : Env) (blk b5 [.slice ad3 (List.replicate n.arcs.length (default : Int)).length cp4, I64 (val), .slice none 0 0] 24 :: vc 3 (.slice ad3 (List.replicate n.arcs.length (default : Int)).length cp4) (f) :: blk b2 [.slice none 0 0, I64 (0), .slice none 0 0] 24 :: blk b1 [I64 (n.nodes), I64 (n.source), I64 (n.sink), v] 30 :: I)
  have hfl := hf.len
  have hvb := value_le hok hf (fun z => z == n.source) (by simp) (by simpa using fun e => hok.ne e.symm)
  have hcb := (cut_nonneg_le hok (fun z => z == n.source)).2
  refine W.block ?_
  refine W.sr ?_
  refine G.r (Runs.lds (vs := [_, _, _, _]) ty30) ?_
  refine G.r (Runs.fieldAddr fld24_0 rfl) ?_
  refine G.r (Runs.ld ty22) ?_
  refine G.e (Eff.call call93 rfl rfl (Way_ok (n := n) (Sl.f hl) Sl.o hok hf.len)) ?_
  rintro _ _ ⟨_, _, ⟨ad6, cp7, w8, rfl, hw8, rfl⟩, rfl, rfl⟩
  have hwl := hw8.len
  refine G.r (Runs.assign rfl) ?_
  refine G.nt ?_
  refine W.seq ?_
  refine W.sr ?_
  refine G.r (Runs.move rfl) ?_
  refine G.r (Runs.fieldAddr fld30_2 rfl) ?_
  refine G.r (Runs.ld ty3) ?_
  refine G.r (Runs.idx (α := Int) (xs := w8) Try.underlying22 ty3 rfl rfl Sl.o (by omega) (by omega)) ?_
  refine G.r (Runs.get (xs := w8) ty3 rfl Sl.o (by omega) (by omega)) ?_
  refine G.r (Runs.eql rfl rfl) ?_
  refine G.nt ?_
  refine W.sub (L' := [(28, _), (6, _), (1, _), (2, _), (5, _)]) (Sub.cons rfl (Sub.cons rfl (Sub.cons rfl (Sub.cons rfl (Sub.cons rfl Sub.nil))))) ?_
  refine W.ite rfl (fun c28 => ?_) (fun c28 => ?_)
  ·refine W.seq ?_
   refine W.sr ?_
   refine G.r (Runs.fieldAddr fld30_0 rfl) ?_
   refine G.r (Runs.ld ty3) ?_
   refine G.r (Runs.move rfl) ?_
   refine G.nt ?_
   refine W.block ?_
   refine W.loop (σ := Nat × (Option Addr) × Nat × (List Int)) (fun s => ([(2, .pointer (some ⟨b2, 0, none⟩)), (5, .pointer (some ⟨b5, 0, none⟩)), (6, .slice ad6 w8.length cp7), (30, I64 (n.nodes)), (31, I64 (((s.1 : Nat) : Int)))] : Env)) (fun s => vc 3 (.slice s.2.1 s.2.2.2.length s.2.2.1) (s.2.2.2) :: vc 3 (.slice ad6 w8.length cp7) (w8) :: blk b5 [.slice ad3 (List.replicate n.arcs.length (default : Int)).length cp4, I64 (val), .slice s.2.1 s.2.2.2.length s.2.2.1] 24 :: vc 3 (.slice ad3 (List.replicate n.arcs.length (default : Int)).length cp4) (f) :: blk b2 [.slice none 0 0, I64 (0), .slice none 0 0] 24 :: blk b1 [I64 (n.nodes), I64 (n.source), I64 (n.sink), v] 30 :: I) (fun s => (s.1 ≤ n.nodes.toNat) ∧ (s.2.2.2 = sideL s.1 (fun z => decide (Rd w8 z)))) (fun s => n.nodes.toNat - s.1) (0, none, 0, []) (show ((0 : Nat) ≤ n.nodes.toNat) ∧ (([] : List Int) = sideL (0 : Nat) (fun z => decide (Rd w8 z))) from ⟨(by omega), rfl⟩) (Sub.cons rfl (Sub.cons rfl (Sub.cons rfl (Sub.cons rfl (Sub.cons (lookI rfl (by omega)) Sub.nil))))) (show Fit κ _ (vc 3 (.slice (none) ([]).length (0)) (([])) :: vc 3 (.slice ad6 w8.length cp7) (w8) :: blk b5 [.slice ad3 (List.replicate n.arcs.length (default : Int)).length cp4, I64 (val), .slice (none) ([]).length (0)] 24 :: vc 3 (.slice ad3 (List.replicate n.arcs.length (default : Int)).length cp4) (f) :: blk b2 [.slice none 0 0, I64 (0), .slice none 0 0] 24 :: blk b1 [I64 (n.nodes), I64 (n.source), I64 (n.sink), v] 30 :: I) from (Fit.nilvc _ _)) ?_
   rintro ⟨k, a, c, side⟩ hp
   obtain ⟨hk, hs⟩ : (k ≤ n.nodes.toNat) ∧ (side = sideL k (fun z => decide (Rd w8 z))) := hp
   show W Try.prog κ 56 _ _ ([(2, .pointer (some ⟨b2, 0, none⟩)), (5, .pointer (some ⟨b5, 0, none⟩)), (6, .slice ad6 w8.length cp7), (30, I64 (n.nodes)), (31, I64 (((k : Nat) : Int)))] : Env) (vc 3 (.slice a side.length c) (side) :: vc 3 (.slice ad6 w8.length cp7) (w8) :: blk b5 [.slice ad3 (List.replicate n.arcs.length (default : Int)).length cp4, I64 (val), .slice a side.length c] 24 :: vc 3 (.slice ad3 (List.replicate n.arcs.length (default : Int)).length cp4) (f) :: blk b2 [.slice none 0 0, I64 (0), .slice none 0 0] 24 :: blk b1 [I64 (n.nodes), I64 (n.source), I64 (n.sink), v] 30 :: I)
   have hsl : side.length ≤ k := by rw [hs]; exact sideL_len _ _
   refine W.sr ?_
   refine G.r (Runs.lss rfl rfl) ?_
   refine G.nt ?_
   refine W.seq ?_
   refine W.ite rfl (fun c32 => ?_) (fun c32 => ?_)
   ·refine W.skip ?_
    refine V.then ?_
    refine W.seq ?_
    refine W.block ?_
    refine W.sr ?_
    refine G.r (Runs.move rfl) ?_
    refine G.r (Runs.assign rfl) ?_
    refine G.nt ?_
    refine W.sr ?_
    refine G.r (Runs.move rfl) ?_
    refine G.r (Runs.move rfl) ?_
    refine G.r (Runs.idx (α := Int) (xs := w8) Try.underlying22 ty3 rfl rfl Sl.o (by omega) (by omega)) ?_
    refine G.r (Runs.get (xs := w8) ty3 rfl Sl.o (by omega) (by omega)) ?_
    refine G.r (Runs.neq rfl rfl) ?_
    refine G.nt ?_
    refine W.ite rfl (fun c38 => ?_) (fun c38 => ?_)
    ·refine W.region ?_
     refine G.r (Runs.fieldAddr fld24_2 rfl) ?_
     refine G.r (Runs.ld ty22) ?_
     refine G.r (Runs.move rfl) ?_
     refine G.e (Eff.bs (α := Int) (cs := [_]) (xs := [((k : Nat) : Int)]) Try.underlying22 ty3 rfl rfl (by decide) (by decide) rfl rfl rfl rfl) ?_
     rintro _ _ ⟨ad9, rfl, rfl⟩
     refine G.e (Eff.app (α := Int) (e := 3) (xs := side) (ys := ([((k : Nat) : Int)] : List Int)) Try.underlying22 ty3 rfl rfl rfl (by repeat (first | exact List.mem_cons_self | apply List.mem_cons_of_mem)) Sl.o (by simp only [List.length_cons, List.length_nil]; omega) (by decide) rfl (fun _ _ => (by repeat (first | exact At.head _ _ _ | apply At.tail)))) ?_
     rintro _ _ ⟨ad10, cp11, rfl, rfl⟩
     refine G.r (Runs.fieldAddr fld24_2 rfl) ?_
     refine G.e (Eff.st (cs := [_, _, _]) (vs := [_]) (cs' := [_, _, _]) ty22) ?_
     rintro _ _ ⟨rfl, rfl⟩
     refine G.nil ?_
     refine V.block_normal ?_
     refine V.then ?_
     refine W.sub (L' := [(2, _), (5, _), (6, _), (30, _), (31, _)]) (Sub.cons rfl (Sub.cons rfl (Sub.cons rfl (Sub.cons rfl (Sub.cons rfl Sub.nil))))) ?_
     refine W.region ?_
     refine G.r (Runs.add rfl rfl (by unfold InR; omega)) ?_
     refine G.r (Runs.move rfl) ?_
     refine G.nil ?_
     exact V.next ((k + 1), (ad10), (cp11), (side ++ ([((k : Nat) : Int)] : List Int))) (show ((k + 1 : Nat) ≤ n.nodes.toNat) ∧ ((side ++ ([((k : Nat) : Int)] : List Int) : List Int) = sideL (k + 1 : Nat) (fun z => decide (Rd w8 z))) from ⟨(by omega), (by first | (rw [hs, sideL_yes]; exact decide_eq_true ⟨by omega, c38⟩) | (rw [hs, sideL_no]; exact decide_eq_false fun h => c38 h.2))⟩) (show n.nodes.toNat - (k + 1 : Nat) < n.nodes.toNat - k from (by omega)) (Sub.cons rfl (Sub.cons rfl (Sub.cons rfl (Sub.cons rfl (Sub.cons (lookI rfl (by omega)) Sub.nil))))) (show Fit κ _ (vc 3 (.slice (ad10) (side ++ ([((k : Nat) : Int)] : List Int)).length (cp11)) ((side ++ ([((k : Nat) : Int)] : List Int))) :: vc 3 (.slice ad6 w8.length cp7) (w8) :: blk b5 [.slice ad3 (List.replicate n.arcs.length (default : Int)).length cp4, I64 (val), .slice (ad10) (side ++ ([((k : Nat) : Int)] : List Int)).length (cp11)] 24 :: vc 3 (.slice ad3 (List.replicate n.arcs.length (default : Int)).length cp4) (f) :: blk b2 [.slice none 0 0, I64 (0), .slice none 0 0] 24 :: blk b1 [I64 (n.nodes), I64 (n.source), I64 (n.sink), v] 30 :: I) from Fit.sub)
    ·refine W.skip ?_
     refine V.block_normal ?_
     refine V.then ?_
     refine W.region ?_
     refine G.r (Runs.add rfl rfl (by unfold InR; omega)) ?_
     refine G.r (Runs.move rfl) ?_
     refine G.nil ?_
     exact V.next ((k + 1), (a), (c), (side)) (show ((k + 1 : Nat) ≤ n.nodes.toNat) ∧ ((side : List Int) = sideL (k + 1 : Nat) (fun z => decide (Rd w8 z))) from ⟨(by omega), (by first | (rw [hs, sideL_yes]; exact decide_eq_true ⟨by omega, c38⟩) | (rw [hs, sideL_no]; exact decide_eq_false fun h => c38 h.2))⟩) (show n.nodes.toNat - (k + 1 : Nat) < n.nodes.toNat - k from (by omega)) (Sub.cons rfl (Sub.cons rfl (Sub.cons rfl (Sub.cons rfl (Sub.cons (lookI rfl (by omega)) Sub.nil))))) (show Fit κ _ (vc 3 (.slice (a) (side).length (c)) ((side)) :: vc 3 (.slice ad6 w8.length cp7) (w8) :: blk b5 [.slice ad3 (List.replicate n.arcs.length (default : Int)).length cp4, I64 (val), .slice (a) (side).length (c)] 24 :: vc 3 (.slice ad3 (List.replicate n.arcs.length (default : Int)).length cp4) (f) :: blk b2 [.slice none 0 0, I64 (0), .slice none 0 0] 24 :: blk b1 [I64 (n.nodes), I64 (n.source), I64 (n.sink), v] 30 :: I) from Fit.sub)
   ·refine W.exit ?_
    refine V.then_exit ?_
    refine V.then_exit ?_
    refine V.block_hit ?_
    refine V.then ?_
    refine W.sr ?_
    refine G.r (Runs.lds (vs := [_, _, _]) ty24) ?_
    refine G.e (Eff.st (cs := [_, _, _]) (vs := [_, _, _]) (cs' := [_, _, _]) ty24) ?_
    rintro _ _ ⟨rfl, rfl⟩
    refine G.r (Runs.assign rfl) ?_
    refine G.nt ?_
    refine W.ret ?_
    refine V.then_ret ?_
    refine V.block_ret ?_
    refine V.then_ret ?_
    refine V.block_ret ?_
    have hkn : k = n.nodes.toNat := by omega
    subst hkn
    have hfl2 : (List.replicate n.arcs.length (default : Int)).length = f.length := by rw [List.length_replicate, hfl]
    exact V.retc1 rfl ty24 rfl rfl (by repeat (first | exact List.mem_cons_self | apply List.mem_cons_of_mem)) rfl (vc 3 (.slice a side.length c) side :: vc 3 (.slice ad3 (List.replicate n.arcs.length (default : Int)).length cp4) f :: I) Fit.sub ⟨ad3, cp4, f, a, c, side, val, by rw [hfl2], ⟨hf, hval, _, hw8.least hok c28, hs⟩, by rw [hfl2]⟩
  ·refine W.skip ?_
   refine V.then ?_
   refine W.drawn mixed ?_
   refine A.hold (blk b5 [.slice ad3 (List.replicate n.arcs.length (default : Int)).length cp4, I64 (val), .slice none 0 0] 24 :: blk b2 [.slice none 0 0, I64 (0), .slice none 0 0] 24 :: blk b1 [I64 (n.nodes), I64 (n.source), I64 (n.sink), v] 30 :: I) 9 ?_
   refine D.read 0 rfl (by kernel_rfl) (by kernel_rfl) (by kernel_rfl) rfl (by kernel_rfl) (fun _ _ _ _ h => h) (Wanted.plain rfl) rfl rfl Fit.sub (Runs.fieldAddr fld24_1 rfl) ?_
   refine D.read 1 rfl (by kernel_rfl) (by kernel_rfl) (by kernel_rfl) rfl (by kernel_rfl) (fun _ _ _ _ h => h) (Wanted.plain rfl) rfl rfl Fit.sub (Runs.ld ty3) ?_
   refine D.read 2 rfl (by kernel_rfl) (by kernel_rfl) (by kernel_rfl) rfl (by kernel_rfl) (fun _ _ _ _ h => h) (Wanted.plain rfl) rfl rfl Fit.sub (Runs.lds (vs := [_, _, _, _]) ty30) ?_
   refine D.read 3 rfl (by kernel_rfl) (by kernel_rfl) (by kernel_rfl) rfl (by kernel_rfl) (fun _ _ _ _ h => h) (Wanted.plain rfl) rfl rfl Fit.sub (Runs.fieldAddr fld24_0 rfl) ?_
   refine D.read 4 rfl (by kernel_rfl) (by kernel_rfl) (by kernel_rfl) rfl (by kernel_rfl) (fun _ _ _ _ h => h) (Wanted.plain rfl) rfl rfl Fit.sub (Runs.ld ty22) ?_
   refine D.read 5 rfl (by kernel_rfl) (by kernel_rfl) (by kernel_rfl) rfl (by kernel_rfl) (fun _ _ _ _ h => h) (Wanted.plain rfl) rfl rfl Fit.sub (Runs.move rfl) ?_
   refine D.step (rs := [6]) (by kernel_rfl) rfl rfl (all1 ?_)
   refine Step.eff rfl (Wanted.plain rfl) (Eff.call call94 rfl rfl (RPush_at (n := n) (by repeat (first | exact AtF.head _ _ | apply AtF.tail)) (fun _ => Sl.fit hl Fit.m) (fun _ => Sl.vec (by repeat (first | exact List.mem_cons_self | apply List.mem_cons_of_mem))) hok hf hw8 ⟨by omega, c28⟩)) ?_
   rintro _ _ ⟨_, _, ⟨d12, f13, rfl, hf13, hvf13, hdd12, rfl⟩, rfl, rfl⟩
   refine ⟨Fit.sub, ?_⟩
   show D Try.prog κ _ _ _ _ _ _ _ ([(53, I64 (d12)), (52, .slice ad6 w8.length cp7), (51, .slice ad3 (List.replicate n.arcs.length (default : Int)).length cp4), (50, .pointer (some ⟨b5, 0, none⟩)), (49, .agg #[I64 (n.nodes), I64 (n.source), I64 (n.sink), v]), (48, I64 (val)), (47, .pointer (some ⟨b5, 1, none⟩)), (28, .bool (decide ((at_ w8 n.sink) = (-1)))), (6, .slice ad6 w8.length cp7), (1, .pointer (some ⟨b1, 0, none⟩)), (2, .pointer (some ⟨b2, 0, none⟩)), (5, .pointer (some ⟨b5, 0, none⟩))] : Env) (vc 3 (.slice ad6 w8.length cp7) (w8) :: blk b5 [.slice ad3 (List.replicate n.arcs.length (default : Int)).length cp4, I64 (val), .slice none 0 0] 24 :: vc 3 (.slice ad3 (List.replicate n.arcs.length (default : Int)).length cp4) (f13) :: blk b2 [.slice none 0 0, I64 (0), .slice none 0 0] 24 :: blk b1 [I64 (n.nodes), I64 (n.source), I64 (n.sink), v] 30 :: I)
   have h9 := value_le hok hf13 (fun z => z == n.source) (by simp) (by simpa using fun e => hok.ne e.symm)
   refine D.read 7 rfl (by kernel_rfl) (by kernel_rfl) (by kernel_rfl) rfl (by kernel_rfl) (fun _ _ _ _ h => h) (Wanted.plain rfl) rfl rfl Fit.sub (Runs.add rfl rfl (by unfold InR; omega)) ?_
   refine D.read 8 rfl (by kernel_rfl) (by kernel_rfl) (by kernel_rfl) rfl (by kernel_rfl) (fun _ _ _ _ h => h) (Wanted.plain rfl) rfl rfl Fit.sub (Runs.fieldAddr fld24_1 rfl) ?_
   refine D.stop (by kernel_rfl) ?_
   refine A.eff (i := 9) (by kernel_rfl) rfl (Wanted.plain rfl) (Eff.st (cs := [_, _, _]) (vs := [_]) (cs' := [_, _, _]) ty3) ?_
   rintro _ _ ⟨rfl, rfl⟩
   refine A.done (by kernel_rfl) ?_
   refine V.block_normal ?_
   exact V.next ((f13), (val + d12)) (show (IsFlow n (f13 : List Int)) ∧ ((val + d12 : Int) = netF n (f13 : List Int) n.source) ∧ (0 ≤ (val + d12 : Int)) from ⟨hf13, (by rw [hval]; exact hvf13.symm), (by omega)⟩) (show (18014398509481984 - (val + d12 : Int)).toNat < (18014398509481984 - val).toNat from (by omega)) (Sub.cons rfl (Sub.cons rfl (Sub.cons rfl Sub.nil))) (show Fit κ _ (blk b5 [.slice ad3 (List.replicate n.arcs.length (default : Int)).length cp4, I64 ((val + d12)), .slice none 0 0] 24 :: vc 3 (.slice ad3 (List.replicate n.arcs.length (default : Int)).length cp4) ((f13)) :: blk b2 [.slice none 0 0, I64 (0), .slice none 0 0] 24 :: blk b1 [I64 (n.nodes), I64 (n.source), I64 (n.sink), v] 30 :: I) from Fit.sub)

end Go.Sl
namespace Go.Sl
open Go.Proofs
set_option linter.unusedVariables false
set_option linter.unusedSimpArgs false
set_option maxRecDepth 4000
theorem Solved_ok {κ : Ctx} {I : List Item} {n : Net} {v : Value} (hl : Sl κ I v n.arcs) (hok : n.Ok) :
    CallS Try.prog κ 102 [.agg #[I64 (n.nodes), I64 (n.source), I64 (n.sink), v]] I (fun r J => ∃ (b : Nat) (hw ow lw nw : Value) (f : List Int) (hs : List Half) (rs : List Row) (L nx : List Int) (val : Int), r = .tuple #[.pointer (some ⟨b, 0, none⟩), I64 val] ∧ (Full n f val ∧ HOk n f hs ∧ ROk n (rowsL rs)) ∧ J = blk b [hw, ow, lw, nw, I64 (n.sink)] 142 :: vc 139 (hw) (hs) :: vc 3 (lw) (L) :: vc 3 (nw) (nx) :: (vc 22 ow rs :: (rowsI rs ++ I))) := by
 refine CallS.enter (L := [(0, .agg #[I64 (n.nodes), I64 (n.source), I64 (n.sink), v])]) Try.func102 rfl rfl rfl rfl ?_
 refine W.sr ?_
 refine G.e (Eff.box (cs := [_, _, _, _]) rfl rfl rfl) ?_
 rintro _ _ ⟨b1, rfl, rfl⟩
 refine G.r (Runs.assign rfl) ?_
 refine G.r (Runs.assign rfl) ?_
 refine G.nt ?_
 refine W.sr ?_
 refine G.r (Runs.lds (vs := [_, _, _, _]) ty30) ?_
 refine G.e (Eff.call call165 rfl rfl (Open_ok (n := n) (Sl.f hl) hok)) ?_
 rintro _ _ ⟨_, _, ⟨b, hw, ow, lw, nw, hs, rs, L, nx, rfl, ⟨hh, hr, hL, hN⟩, rfl⟩, rfl, rfl⟩
 refine G.fit (J := blk b [hw, ow, lw, nw, I64 (n.sink)] 142 :: vc 139 (hw) (hs) :: vc 3 (lw) (L) :: vc 3 (nw) (nx) :: vc 22 (ow) (rs) :: blk b1 [I64 (n.nodes), I64 (n.source), I64 (n.sink), v] 30 :: (rowsI rs ++ I)) Fit.s ?_
 refine G.r (Runs.assign rfl) ?_
 refine G.nt ?_
 refine W.sr ?_
 refine G.r (Runs.move rfl) ?_
 refine G.r (Runs.move rfl) ?_
 refine G.r (Runs.fieldAddr fld30_1 rfl) ?_
 refine G.r (Runs.ld ty3) ?_
 refine G.e (Eff.call call166 rfl rfl (Greatest_ok (n := n) hok hh hr Sl.o (fun i h0 h => Sl.fit (rowsI_sl i h0 h) Fit.m) hL hN (flow_zero n hok).1 (flow_zero n hok).2)) ?_
 rintro _ _ ⟨_, _, ⟨val, f, hs2, L2, nx2, rfl, ⟨hfull, hh2⟩, rfl⟩, rfl, rfl⟩
 show G Try.prog κ _ _ _ _ ([(11, I64 (val)), (10, I64 (n.source)), (9, .pointer (some ⟨b1, 1, none⟩)), (8, .pointer (some ⟨b, 0, none⟩)), (7, .pointer (some ⟨b, 0, none⟩)), (4, .pointer (some ⟨b, 0, none⟩)), (6, .pointer (some ⟨b, 0, none⟩)), (5, .agg #[I64 (n.nodes), I64 (n.source), I64 (n.sink), v]), (3, I64 (0)), (2, .pointer none), (1, .pointer (some ⟨b1, 0, none⟩)), (0, .agg #[I64 (n.nodes), I64 (n.source), I64 (n.sink), v])] : Env) (blk b [hw, ow, lw, nw, I64 (n.sink)] 142 :: vc 139 (hw) (hs2) :: vc 3 (lw) (L2) :: vc 3 (nw) (nx2) :: vc 22 (ow) (rs) :: blk b1 [I64 (n.nodes), I64 (n.source), I64 (n.sink), v] 30 :: (rowsI rs ++ I))
 refine G.r (Runs.assign rfl) ?_
 refine G.r (Runs.assign rfl) ?_
 refine G.nt ?_
 refine W.sub (L' := [(3, _), (2, _)]) (Sub.cons rfl (Sub.cons rfl Sub.nil)) ?_
 refine W.ret ?_
 exact V.ret2 rfl rfl rfl (blk b [hw, ow, lw, nw, I64 (n.sink)] 142 :: vc 139 (hw) (hs2) :: vc 3 (lw) (L2) :: vc 3 (nw) (nx2) :: vc 22 (ow) (rs) :: (rowsI rs ++ I)) Fit.s ⟨b, hw, ow, lw, nw, f, hs2, rs, L2, nx2, val, rfl, ⟨hfull, hh2, hr⟩, rfl⟩

theorem FMax_err {κ : Ctx} {I : List Item} {n : Net} {v : Value} (hl : Sl κ I v n.arcs) (he : checkN n ≠ 0) :
    CallS Try.prog κ 30 [.agg #[I64 (n.nodes), I64 (n.source), I64 (n.sink), v]] I (fun r J => r = .tuple #[.agg #[.slice none 0 0, I64 0, .slice none 0 0], I64 (checkN n)] ∧ I = J) := by
 refine CallS.enter (L := [(0, .agg #[I64 (n.nodes), I64 (n.source), I64 (n.sink), v])]) Try.func30 rfl rfl rfl rfl ?_
 refine W.sr ?_
 refine G.e (Eff.box (cs := [_, _, _, _]) rfl rfl rfl) ?_
 rintro _ _ ⟨b1, rfl, rfl⟩
 refine G.e (Eff.alloc ty24 rfl) ?_
 rintro _ _ ⟨b2, rfl, rfl⟩
 refine G.r (Runs.assign rfl) ?_
 refine G.nt ?_
 refine W.seq ?_
 refine W.sr ?_
 refine G.r (Runs.lds (vs := [_, _, _, _]) ty30) ?_
 refine G.e (Eff.call call34 rfl rfl (FCheck_ok (n := n) (Sl.f hl))) ?_
 rintro _ _ ⟨_, _, ⟨rfl, rfl⟩, rfl, rfl⟩
 refine G.r (Runs.assign rfl) ?_
 refine G.nt ?_
 refine W.sr ?_
 refine G.r (Runs.move rfl) ?_
 refine G.r (Runs.neq rfl rfl) ?_
 refine G.nt ?_
 refine W.ite rfl (fun c15 => ?_) (fun c15 => ?_)
 ·refine W.sr ?_
  refine G.r (Runs.build (cells := [_, _, _]) ty24 Try.underlying24 pl24 rfl rfl) ?_
  refine G.r (Runs.move rfl) ?_
  refine G.e (Eff.st (cs := [_, _, _]) (vs := [_, _, _]) (cs' := [_, _, _]) ty24) ?_
  rintro _ _ ⟨rfl, rfl⟩
  refine G.r (Runs.assign rfl) ?_
  refine G.nt ?_
  refine W.ret ?_
  refine V.then_ret ?_
  exact V.retc1 rfl ty24 rfl rfl (by repeat (first | exact List.mem_cons_self | apply List.mem_cons_of_mem)) rfl (I) Fit.m ⟨rfl, rfl⟩
 ·exact absurd he c15

theorem FMax_ok {κ : Ctx} {I : List Item} {n : Net} {v : Value} (hl : Sl κ I v n.arcs) (hok : n.Ok) :
    CallS Try.prog κ 30 [.agg #[I64 (n.nodes), I64 (n.source), I64 (n.sink), v]] I (fun r J => ∃ a c f a' c' side val, r = .tuple #[.agg #[.slice a f.length c, I64 val, .slice a' side.length c'], I64 0] ∧ MaxF n f side val ∧ J = vc 3 (.slice a' side.length c') side :: vc 3 (.slice a f.length c) f :: I) := by
 have hlim := hok.lim
 have hsnk := hok.snk
 have hsrc := hok.src
 refine CallS.enter (L := [(0, .agg #[I64 (n.nodes), I64 (n.source), I64 (n.sink), v])]) Try.func30 rfl rfl rfl rfl ?_
 refine W.sr ?_
 refine G.e (Eff.box (cs := [_, _, _, _]) rfl rfl rfl) ?_
 rintro _ _ ⟨b1, rfl, rfl⟩
 refine G.e (Eff.alloc ty24 rfl) ?_
 rintro _ _ ⟨b2, rfl, rfl⟩
 refine G.r (Runs.assign rfl) ?_
 refine G.nt ?_
 refine W.seq ?_
 refine W.sr ?_
 refine G.r (Runs.lds (vs := [_, _, _, _]) ty30) ?_
 refine G.e (Eff.call call34 rfl rfl (FCheck_ok (n := n) (Sl.f hl))) ?_
 rintro _ _ ⟨_, _, ⟨rfl, rfl⟩, rfl, rfl⟩
 refine G.r (Runs.assign rfl) ?_
 refine G.nt ?_
 refine W.sr ?_
 refine G.r (Runs.move rfl) ?_
 refine G.r (Runs.neq rfl rfl) ?_
 refine G.nt ?_
 refine W.ite rfl (fun c15 => ?_) (fun c15 => ?_)
 ·exact absurd (checkN_ok.2 hok) c15
 ·refine W.skip ?_
  refine V.then ?_
  refine W.sr ?_
  refine G.r (Runs.lds (vs := [_, _, _, _]) ty30) ?_
  refine G.e (Eff.call call102 rfl rfl (Solved_ok (n := n) (Sl.f hl) hok)) ?_
  rintro _ _ ⟨_, _, ⟨b, hw, ow, lw, nw, f, hs, rs, L, nx, val, rfl, ⟨hfull, hh, hr⟩, rfl⟩, rfl, rfl⟩
  refine G.fit (J := blk b [hw, ow, lw, nw, I64 (n.sink)] 142 :: vc 139 (hw) (hs) :: vc 3 (lw) (L) :: vc 3 (nw) (nx) :: vc 22 (ow) (rs) :: blk b2 [.slice none 0 0, I64 (0), .slice none 0 0] 24 :: blk b1 [I64 (n.nodes), I64 (n.source), I64 (n.sink), v] 30 :: (rowsI rs ++ I)) Fit.s ?_
  have hff := hfull.flow.len
  have hhl := hh.len
  refine G.r (Runs.move rfl) ?_
  refine G.r (Runs.extract rfl rfl) ?_
  refine G.r (Runs.extract rfl rfl) ?_
  refine G.r (Runs.assign rfl) ?_
  refine G.r (Runs.assign rfl) ?_
  refine G.nt ?_
  refine W.sub (L' := [(6, _), (5, _), (2, _), (1, _)]) (Sub.cons rfl (Sub.cons rfl (Sub.cons rfl (Sub.cons rfl Sub.nil)))) ?_
  refine W.sr ?_
  refine G.r (Runs.move rfl) ?_
  refine G.r (Runs.build (cells := [_, _, _]) ty24 Try.underlying24 pl24 rfl rfl) ?_
  refine G.e (Eff.alloc ty24 rfl) ?_
  rintro _ _ ⟨b3, rfl, rfl⟩
  refine G.e (Eff.st (cs := [_, _, _]) (vs := [_, _, _]) (cs' := [_, _, _]) ty24) ?_
  rintro _ _ ⟨rfl, rfl⟩
  refine G.nt ?_
  refine W.seq ?_
  refine W.sr ?_
  refine G.r (Runs.fieldAddr fld30_3 rfl) ?_
  refine G.r (Runs.ld ty28) ?_
  refine G.r (Runs.lenT (α := Arc) (xs := n.arcs) Try.underlying28 rfl (Sl.f hl)) ?_
  refine G.r (Runs.move rfl) ?_
  refine G.nt ?_
  refine W.block ?_
  refine W.loop (σ := Nat × (Option Addr) × Nat × (List Int)) (fun s => ([(1, .pointer (some ⟨b1, 0, none⟩)), (2, .pointer (some ⟨b2, 0, none⟩)), (5, .pointer (some ⟨b, 0, none⟩)), (7, .pointer (some ⟨b3, 0, none⟩)), (26, v), (27, I64 (((n.arcs.length : Nat) : Int))), (28, I64 (((s.1 : Nat) : Int)))] : Env)) (fun s => vc 3 (.slice s.2.1 s.2.2.2.length s.2.2.1) (s.2.2.2) :: blk b3 [.slice s.2.1 s.2.2.2.length s.2.2.1, I64 (val), .slice none 0 0] 24 :: blk b [hw, ow, lw, nw, I64 (n.sink)] 142 :: vc 139 (hw) (hs) :: vc 3 (lw) (L) :: vc 3 (nw) (nx) :: vc 22 (ow) (rs) :: blk b2 [.slice none 0 0, I64 (0), .slice none 0 0] 24 :: blk b1 [I64 (n.nodes), I64 (n.source), I64 (n.sink), v] 30 :: (rowsI rs ++ I)) (fun s => (s.1 ≤ n.arcs.length) ∧ (s.2.2.2 = f.take s.1)) (fun s => n.arcs.length - s.1) (0, none, 0, []) (show ((0 : Nat) ≤ n.arcs.length) ∧ (([] : List Int) = f.take (0 : Nat)) from ⟨(by omega), rfl⟩) (Sub.cons rfl (Sub.cons rfl (Sub.cons rfl (Sub.cons rfl (Sub.cons rfl (Sub.cons rfl (Sub.cons (lookI rfl (by omega)) Sub.nil))))))) (show Fit κ _ (vc 3 (.slice (none) ([]).length (0)) (([])) :: blk b3 [.slice (none) ([]).length (0), I64 (val), .slice none 0 0] 24 :: blk b [hw, ow, lw, nw, I64 (n.sink)] 142 :: vc 139 (hw) (hs) :: vc 3 (lw) (L) :: vc 3 (nw) (nx) :: vc 22 (ow) (rs) :: blk b2 [.slice none 0 0, I64 (0), .slice none 0 0] 24 :: blk b1 [I64 (n.nodes), I64 (n.source), I64 (n.sink), v] 30 :: (rowsI rs ++ I)) from (Fit.nilvc _ _)) ?_
  rintro ⟨k, a, c, fl⟩ hp
  obtain ⟨hk, hfl⟩ : (k ≤ n.arcs.length) ∧ (fl = f.take k) := hp
  show W Try.prog κ 70 _ _ ([(1, .pointer (some ⟨b1, 0, none⟩)), (2, .pointer (some ⟨b2, 0, none⟩)), (5, .pointer (some ⟨b, 0, none⟩)), (7, .pointer (some ⟨b3, 0, none⟩)), (26, v), (27, I64 (((n.arcs.length : Nat) : Int))), (28, I64 (((k : Nat) : Int)))] : Env) (vc 3 (.slice a fl.length c) (fl) :: blk b3 [.slice a fl.length c, I64 (val), .slice none 0 0] 24 :: blk b [hw, ow, lw, nw, I64 (n.sink)] 142 :: vc 139 (hw) (hs) :: vc 3 (lw) (L) :: vc 3 (nw) (nx) :: vc 22 (ow) (rs) :: blk b2 [.slice none 0 0, I64 (0), .slice none 0 0] 24 :: blk b1 [I64 (n.nodes), I64 (n.source), I64 (n.sink), v] 30 :: (rowsI rs ++ I))
  have hfll : fl.length = k := by rw [hfl, List.length_take]; omega
  refine W.sr ?_
  refine G.r (Runs.lss rfl rfl) ?_
  refine G.nt ?_
  refine W.seq ?_
  refine W.ite rfl (fun c29 => ?_) (fun c29 => ?_)
  ·refine W.skip ?_
   refine V.then ?_
   refine W.seq ?_
   refine W.block ?_
   refine W.sr ?_
   refine G.r (Runs.move rfl) ?_
   refine G.r (Runs.idx (α := Arc) (xs := n.arcs) Try.underlying28 ty43 rfl rfl (Sl.f hl) (by omega) (by omega)) ?_
   have hgt := hh.get (2 * ((k : Nat) : Int)) ⟨by omega, by omega⟩
   have hcap := hfull.flow.cap k (by omega)
   have hac := arc_at hok (k := k) (by omega)
   have hlv : leftH n f (2 * ((k : Nat) : Int)) = (at_ n.arcs ((k : Nat) : Int)).cap - at_ f ((k : Nat) : Int) := by unfold leftH; rw [if_pos (by omega), show (2 * ((k : Nat) : Int)) / 2 = ((k : Nat) : Int) from by omega]
   have hleft : (at_ n.arcs ((k : Nat) : Int)).cap - (at_ hs (2 * ((k : Nat) : Int))).left = at_ f ((k : Nat) : Int) := by omega
   refine G.r (Runs.gets (α := Arc) (xs := n.arcs) ty43 rfl (Sl.f hl) (by omega) (by omega)) ?_
   refine G.e (Eff.alloc ty43 rfl) ?_
   rintro _ _ ⟨b4, rfl, rfl⟩
   refine G.r (Runs.assign rfl) ?_
   refine G.e (Eff.st (cs := [_, _, _]) (vs := [_, _, _]) (cs' := [_, _, _]) ty43) ?_
   rintro _ _ ⟨rfl, rfl⟩
   refine G.nt ?_
   refine W.drawn mixed ?_
   refine A.hold (blk b4 [I64 ((at_ n.arcs ((k : Nat) : Int)).frm), I64 ((at_ n.arcs ((k : Nat) : Int)).dst), I64 ((at_ n.arcs ((k : Nat) : Int)).cap)] 43 :: blk b3 [.slice a fl.length c, I64 (val), .slice none 0 0] 24 :: blk b [hw, ow, lw, nw, I64 (n.sink)] 142 :: vc 139 (hw) (hs) :: vc 3 (lw) (L) :: vc 3 (nw) (nx) :: vc 22 (ow) (rs) :: blk b2 [.slice none 0 0, I64 (0), .slice none 0 0] 24 :: blk b1 [I64 (n.nodes), I64 (n.source), I64 (n.sink), v] 30 :: (rowsI rs ++ I)) 17 ?_
   refine D.read 0 rfl (by kernel_rfl) (by kernel_rfl) (by kernel_rfl) rfl (by kernel_rfl) (fun _ _ _ _ h => h) (Wanted.plain rfl) rfl rfl Fit.sub (Runs.fieldAddr fld24_0 rfl) ?_
   refine D.read 1 rfl (by kernel_rfl) (by kernel_rfl) (by kernel_rfl) rfl (by kernel_rfl) (fun _ _ _ _ h => h) (Wanted.plain rfl) rfl rfl Fit.sub (Runs.ld ty22) ?_
   refine D.read 2 rfl (by kernel_rfl) (by kernel_rfl) (by kernel_rfl) rfl (by kernel_rfl) (fun _ _ _ _ h => h) (Wanted.plain rfl) rfl rfl Fit.sub (Runs.fieldAddr fld43_2 rfl) ?_
   refine D.read 3 rfl (by kernel_rfl) (by kernel_rfl) (by kernel_rfl) rfl (by kernel_rfl) (fun _ _ _ _ h => h) (Wanted.plain rfl) rfl rfl Fit.sub (Runs.ld ty3) ?_
   refine D.read 4 rfl (by kernel_rfl) (by kernel_rfl) (by kernel_rfl) rfl (by kernel_rfl) (fun _ _ _ _ h => h) (Wanted.plain rfl) rfl rfl Fit.sub (Runs.move rfl) ?_
   refine D.read 5 rfl (by kernel_rfl) (by kernel_rfl) (by kernel_rfl) rfl (by kernel_rfl) (fun _ _ _ _ h => h) (Wanted.plain rfl) rfl rfl Fit.sub (Runs.nilCheck rfl) ?_
   refine D.read 6 rfl (by kernel_rfl) (by kernel_rfl) (by kernel_rfl) rfl (by kernel_rfl) (fun _ _ _ _ h => h) (Wanted.plain rfl) rfl rfl Fit.sub (Runs.fieldAddr fld142_0 rfl) ?_
   refine D.read 7 rfl (by kernel_rfl) (by kernel_rfl) (by kernel_rfl) rfl (by kernel_rfl) (fun _ _ _ _ h => h) (Wanted.plain rfl) rfl rfl Fit.sub (Runs.ld ty140) ?_
   refine D.read 8 rfl (by kernel_rfl) (by kernel_rfl) (by kernel_rfl) rfl (by kernel_rfl) (fun _ _ _ _ h => h) (Wanted.plain rfl) rfl rfl Fit.sub (Runs.move rfl) ?_
   refine D.read 9 rfl (by kernel_rfl) (by kernel_rfl) (by kernel_rfl) rfl (by kernel_rfl) (fun _ _ _ _ h => h) (Wanted.plain rfl) rfl rfl Fit.sub (Runs.mul rfl rfl (by unfold InR; omega)) ?_
   refine D.read 10 rfl (by kernel_rfl) (by kernel_rfl) (by kernel_rfl) rfl (by kernel_rfl) (fun _ _ _ _ h => h) (Wanted.plain rfl) rfl rfl Fit.sub (Runs.idx (α := Half) (xs := hs) Try.underlying140 ty139 rfl rfl Sl.o (by omega) (by omega)) ?_
   refine D.read 11 rfl (by kernel_rfl) (by kernel_rfl) (by kernel_rfl) rfl (by kernel_rfl) (fun _ _ _ _ h => h) (Wanted.plain rfl) rfl rfl Fit.sub (Runs.fld (α := Half) (xs := hs) fld139_1 rfl Sl.o (by omega)) ?_
   refine D.read 12 rfl (by kernel_rfl) (by kernel_rfl) (by kernel_rfl) rfl (by kernel_rfl) (fun _ _ _ _ h => h) (Wanted.plain rfl) rfl rfl Fit.sub (Runs.getf (α := Half) (xs := hs) (u := I64 ((at_ hs (2 * ((k : Nat) : Int))).left)) ty3 rfl Sl.o (by omega) (by omega) rfl) ?_
   refine D.read 13 rfl (by kernel_rfl) (by kernel_rfl) (by kernel_rfl) rfl (by kernel_rfl) (fun _ _ _ _ h => h) (Wanted.plain rfl) rfl rfl Fit.sub (Runs.sub rfl rfl (by unfold InR; omega)) ?_
   refine D.step (rs := [14]) (by kernel_rfl) rfl rfl (all1 ?_)
   refine Step.eff rfl (Wanted.plain rfl) (Eff.bs (α := Int) (cs := [_]) (xs := [((at_ n.arcs ((k : Nat) : Int)).cap) - ((at_ hs (2 * ((k : Nat) : Int))).left)]) Try.underlying22 ty3 rfl rfl (by decide) (by decide) rfl rfl rfl rfl) ?_
   rintro _ _ ⟨ad5, rfl, rfl⟩
   refine ⟨Fit.sub, ?_⟩
   refine D.step (rs := [15]) (by kernel_rfl) rfl rfl (all1 ?_)
   refine Step.eff rfl (Wanted.plain rfl) (Eff.app (α := Int) (e := 3) (xs := fl) (ys := ([((at_ n.arcs ((k : Nat) : Int)).cap) - ((at_ hs (2 * ((k : Nat) : Int))).left)] : List Int)) Try.underlying22 ty3 rfl rfl rfl (by repeat (first | exact List.mem_cons_self | apply List.mem_cons_of_mem)) Sl.o (by simp only [List.length_cons, List.length_nil]; omega) (by decide) rfl (fun _ _ => (by repeat (first | exact At.head _ _ _ | apply At.tail)))) ?_
   rintro _ _ ⟨ad6, cp7, rfl, rfl⟩
   refine ⟨Fit.sub, ?_⟩
   refine D.read 16 rfl (by kernel_rfl) (by kernel_rfl) (by kernel_rfl) rfl (by kernel_rfl) (fun _ _ _ _ h => h) (Wanted.plain rfl) rfl rfl Fit.sub (Runs.fieldAddr fld24_0 rfl) ?_
   refine D.stop (by kernel_rfl) ?_
   refine A.eff (i := 17) (by kernel_rfl) rfl (Wanted.plain rfl) (Eff.st (cs := [_, _, _]) (vs := [_]) (cs' := [_, _, _]) ty22) ?_
   rintro _ _ ⟨rfl, rfl⟩
   refine A.done (by kernel_rfl) ?_
   refine V.block_normal ?_
   refine V.then ?_
   refine W.sub (L' := [(1, _), (2, _), (5, _), (7, _), (26, _), (27, _), (28, _)]) (Sub.cons rfl (Sub.cons rfl (Sub.cons rfl (Sub.cons rfl (Sub.cons rfl (Sub.cons rfl (Sub.cons rfl Sub.nil))))))) ?_
   refine W.region ?_
   refine G.r (Runs.add rfl rfl (by unfold InR; omega)) ?_
   refine G.r (Runs.move rfl) ?_
   refine G.nil ?_
   exact V.next ((k + 1), (ad6), (cp7), (fl ++ ([((at_ n.arcs ((k : Nat) : Int)).cap) - ((at_ hs (2 * ((k : Nat) : Int))).left)] : List Int))) (show ((k + 1 : Nat) ≤ n.arcs.length) ∧ ((fl ++ ([((at_ n.arcs ((k : Nat) : Int)).cap) - ((at_ hs (2 * ((k : Nat) : Int))).left)] : List Int) : List Int) = f.take (k + 1 : Nat)) from ⟨(by omega), (by rw [hfl, take_at f k (by omega)]; congr 1; rw [hleft])⟩) (show n.arcs.length - (k + 1 : Nat) < n.arcs.length - k from (by omega)) (Sub.cons rfl (Sub.cons rfl (Sub.cons rfl (Sub.cons rfl (Sub.cons rfl (Sub.cons rfl (Sub.cons (lookI rfl (by omega)) Sub.nil))))))) (show Fit κ _ (vc 3 (.slice (ad6) (fl ++ ([((at_ n.arcs ((k : Nat) : Int)).cap) - ((at_ hs (2 * ((k : Nat) : Int))).left)] : List Int)).length (cp7)) ((fl ++ ([((at_ n.arcs ((k : Nat) : Int)).cap) - ((at_ hs (2 * ((k : Nat) : Int))).left)] : List Int))) :: blk b3 [.slice (ad6) (fl ++ ([((at_ n.arcs ((k : Nat) : Int)).cap) - ((at_ hs (2 * ((k : Nat) : Int))).left)] : List Int)).length (cp7), I64 (val), .slice none 0 0] 24 :: blk b [hw, ow, lw, nw, I64 (n.sink)] 142 :: vc 139 (hw) (hs) :: vc 3 (lw) (L) :: vc 3 (nw) (nx) :: vc 22 (ow) (rs) :: blk b2 [.slice none 0 0, I64 (0), .slice none 0 0] 24 :: blk b1 [I64 (n.nodes), I64 (n.source), I64 (n.sink), v] 30 :: (rowsI rs ++ I)) from Fit.sub)
  ·refine W.exit ?_
   refine V.then_exit ?_
   refine V.then_exit ?_
   refine V.block_hit ?_
   refine V.then ?_
   refine W.seq ?_
   refine W.sr ?_
   refine G.r (Runs.move rfl) ?_
   have hkm : k = n.arcs.length := by omega
   have hfe : fl = f := by rw [hfl, hkm, ← hff, List.take_length]
   refine G.r (Runs.fieldAddr fld30_1 rfl) ?_
   refine G.r (Runs.ld ty3) ?_
   refine G.e (Eff.call call103 rfl rfl (CallS.fit (J := blk b [hw, ow, lw, nw, I64 (n.sink)] 142 :: vc 3 (.slice a fl.length c) (fl) :: blk b3 [.slice a fl.length c, I64 (val), .slice none 0 0] 24 :: vc 139 (hw) (hs) :: vc 3 (lw) (L) :: vc 3 (nw) (nx) :: vc 22 (ow) (rs) :: blk b2 [.slice none 0 0, I64 (0), .slice none 0 0] 24 :: blk b1 [I64 (n.nodes), I64 (n.source), I64 (n.sink), v] 30 :: (rowsI rs ++ I)) Fit.s (Reached_ok (n := n) (rs := rs) (hs := hs) hok hh Sl.o hr Sl.o (fun i h0 h => Sl.fit (rowsI_sl i h0 h) Fit.m) (by omega)))) ?_
   rintro _ _ ⟨_, _, ⟨ad8, cp9, seen10, rfl, hseen10, rfl⟩, rfl, rfl⟩
   show G Try.prog κ _ _ _ _ ([(54, .slice ad8 seen10.length cp9), (53, I64 (n.source)), (52, .pointer (some ⟨b1, 1, none⟩)), (51, .pointer (some ⟨b, 0, none⟩)), (29, .bool (decide (((k : Nat) : Int) < ((n.arcs.length : Nat) : Int)))), (1, .pointer (some ⟨b1, 0, none⟩)), (2, .pointer (some ⟨b2, 0, none⟩)), (5, .pointer (some ⟨b, 0, none⟩)), (7, .pointer (some ⟨b3, 0, none⟩)), (26, v), (27, I64 (((n.arcs.length : Nat) : Int))), (28, I64 (((k : Nat) : Int)))] : Env) (vc 4 (.slice ad8 seen10.length cp9) (seen10) :: blk b [hw, ow, lw, nw, I64 (n.sink)] 142 :: vc 3 (.slice a fl.length c) (fl) :: blk b3 [.slice a fl.length c, I64 (val), .slice none 0 0] 24 :: vc 139 (hw) (hs) :: vc 3 (lw) (L) :: vc 3 (nw) (nx) :: vc 22 (ow) (rs) :: blk b2 [.slice none 0 0, I64 (0), .slice none 0 0] 24 :: blk b1 [I64 (n.nodes), I64 (n.source), I64 (n.sink), v] 30 :: (rowsI rs ++ I))
   have hlenseen10 := hseen10.len
   refine G.r (Runs.lens Try.underlying143 rfl) ?_
   refine G.r (Runs.move rfl) ?_
   refine G.nt ?_
   refine W.sub (L' := [(56, _), (55, _), (54, _), (2, _), (7, _)]) (Sub.cons rfl (Sub.cons rfl (Sub.cons rfl (Sub.cons rfl (Sub.cons rfl Sub.nil))))) ?_
   refine W.block ?_
   refine W.loop (σ := Nat × (Option Addr) × Nat × (List Int)) (fun s => ([(2, .pointer (some ⟨b2, 0, none⟩)), (7, .pointer (some ⟨b3, 0, none⟩)), (54, .slice ad8 seen10.length cp9), (55, I64 (((seen10.length : Nat) : Int))), (56, I64 (((s.1 : Nat) : Int)))] : Env)) (fun s => vc 3 (.slice s.2.1 s.2.2.2.length s.2.2.1) (s.2.2.2) :: vc 4 (.slice ad8 seen10.length cp9) (seen10) :: blk b [hw, ow, lw, nw, I64 (n.sink)] 142 :: vc 3 (.slice a fl.length c) (fl) :: blk b3 [.slice a fl.length c, I64 (val), .slice s.2.1 s.2.2.2.length s.2.2.1] 24 :: vc 139 (hw) (hs) :: vc 3 (lw) (L) :: vc 3 (nw) (nx) :: vc 22 (ow) (rs) :: blk b2 [.slice none 0 0, I64 (0), .slice none 0 0] 24 :: blk b1 [I64 (n.nodes), I64 (n.source), I64 (n.sink), v] 30 :: (rowsI rs ++ I)) (fun s => (s.1 ≤ seen10.length) ∧ (s.2.2.2 = sideL s.1 (fun z => decide (0 ≤ z ∧ z < n.nodes) && at_ seen10 z))) (fun s => seen10.length - s.1) (0, none, 0, []) (show ((0 : Nat) ≤ seen10.length) ∧ (([] : List Int) = sideL (0 : Nat) (fun z => decide (0 ≤ z ∧ z < n.nodes) && at_ seen10 z)) from ⟨(by omega), rfl⟩) (Sub.cons rfl (Sub.cons rfl (Sub.cons rfl (Sub.cons rfl (Sub.cons (lookI rfl (by omega)) Sub.nil))))) (show Fit κ _ (vc 3 (.slice (none) ([]).length (0)) (([])) :: vc 4 (.slice ad8 seen10.length cp9) (seen10) :: blk b [hw, ow, lw, nw, I64 (n.sink)] 142 :: vc 3 (.slice a fl.length c) (fl) :: blk b3 [.slice a fl.length c, I64 (val), .slice (none) ([]).length (0)] 24 :: vc 139 (hw) (hs) :: vc 3 (lw) (L) :: vc 3 (nw) (nx) :: vc 22 (ow) (rs) :: blk b2 [.slice none 0 0, I64 (0), .slice none 0 0] 24 :: blk b1 [I64 (n.nodes), I64 (n.source), I64 (n.sink), v] 30 :: (rowsI rs ++ I)) from (Fit.nilvc _ _)) ?_
   rintro ⟨k, a2, c2, side⟩ hp
   obtain ⟨hk2, hsd⟩ : (k ≤ seen10.length) ∧ (side = sideL k (fun z => decide (0 ≤ z ∧ z < n.nodes) && at_ seen10 z)) := hp
   show W Try.prog κ 70 _ _ ([(2, .pointer (some ⟨b2, 0, none⟩)), (7, .pointer (some ⟨b3, 0, none⟩)), (54, .slice ad8 seen10.length cp9), (55, I64 (((seen10.length : Nat) : Int))), (56, I64 (((k : Nat) : Int)))] : Env) (vc 3 (.slice a2 side.length c2) (side) :: vc 4 (.slice ad8 seen10.length cp9) (seen10) :: blk b [hw, ow, lw, nw, I64 (n.sink)] 142 :: vc 3 (.slice a fl.length c) (fl) :: blk b3 [.slice a fl.length c, I64 (val), .slice a2 side.length c2] 24 :: vc 139 (hw) (hs) :: vc 3 (lw) (L) :: vc 3 (nw) (nx) :: vc 22 (ow) (rs) :: blk b2 [.slice none 0 0, I64 (0), .slice none 0 0] 24 :: blk b1 [I64 (n.nodes), I64 (n.source), I64 (n.sink), v] 30 :: (rowsI rs ++ I))
   have hsl : side.length ≤ k := by rw [hsd]; exact sideL_len _ _
   have hkr : 0 ≤ ((k : Nat) : Int) ∧ ((k : Nat) : Int) ≤ n.nodes := by omega
   refine W.sr ?_
   refine G.r (Runs.lss rfl rfl) ?_
   refine G.nt ?_
   refine W.seq ?_
   refine W.ite rfl (fun c57 => ?_) (fun c57 => ?_)
   ·refine W.skip ?_
    refine V.then ?_
    refine W.seq ?_
    refine W.block ?_
    refine W.sr ?_
    refine G.r (Runs.move rfl) ?_
    refine G.r (Runs.idx (α := Bool) (xs := seen10) Try.underlying143 ty4 rfl rfl Sl.o (by omega) (by omega)) ?_
    refine G.r (Runs.getB (xs := seen10) ty4 rfl Sl.o (by omega) (by omega)) ?_
    refine G.r (Runs.assign rfl) ?_
    refine G.r (Runs.assign rfl) ?_
    refine G.nt ?_
    refine W.sr ?_
    refine G.r (Runs.move rfl) ?_
    refine G.nt ?_
    refine W.cond rfl (fun c61 => ?_) (fun c61 => ?_)
    ·refine W.region ?_
     refine G.r (Runs.fieldAddr fld24_2 rfl) ?_
     refine G.r (Runs.ld ty22) ?_
     refine G.r (Runs.move rfl) ?_
     refine G.e (Eff.bs (α := Int) (cs := [_]) (xs := [((k : Nat) : Int)]) Try.underlying22 ty3 rfl rfl (by decide) (by decide) rfl rfl rfl rfl) ?_
     rintro _ _ ⟨ad11, rfl, rfl⟩
     refine G.e (Eff.app (α := Int) (e := 3) (xs := side) (ys := ([((k : Nat) : Int)] : List Int)) Try.underlying22 ty3 rfl rfl rfl (by repeat (first | exact List.mem_cons_self | apply List.mem_cons_of_mem)) Sl.o (by simp only [List.length_cons, List.length_nil]; omega) (by decide) rfl (fun _ _ => (by repeat (first | exact At.head _ _ _ | apply At.tail)))) ?_
     rintro _ _ ⟨ad12, cp13, rfl, rfl⟩
     refine G.r (Runs.fieldAddr fld24_2 rfl) ?_
     refine G.e (Eff.st (cs := [_, _, _]) (vs := [_]) (cs' := [_, _, _]) ty22) ?_
     rintro _ _ ⟨rfl, rfl⟩
     refine G.nil ?_
     refine V.block_normal ?_
     refine V.then ?_
     refine W.sub (L' := [(2, _), (7, _), (54, _), (55, _), (56, _)]) (Sub.cons rfl (Sub.cons rfl (Sub.cons rfl (Sub.cons rfl (Sub.cons rfl Sub.nil))))) ?_
     refine W.region ?_
     refine G.r (Runs.add rfl rfl (by unfold InR; omega)) ?_
     refine G.r (Runs.move rfl) ?_
     refine G.nil ?_
     exact V.next ((k + 1), (ad12), (cp13), (side ++ ([((k : Nat) : Int)] : List Int))) (show ((k + 1 : Nat) ≤ seen10.length) ∧ ((side ++ ([((k : Nat) : Int)] : List Int) : List Int) = sideL (k + 1 : Nat) (fun z => decide (0 ≤ z ∧ z < n.nodes) && at_ seen10 z)) from ⟨(by omega), (by first | (rw [hsd, sideL_yes]; rw [Bool.and_eq_true]; exact ⟨decide_eq_true (by omega), c61⟩) | (rw [hsd, sideL_no]; rw [Bool.and_eq_false_iff]; exact .inr c61))⟩) (show seen10.length - (k + 1 : Nat) < seen10.length - k from (by omega)) (Sub.cons rfl (Sub.cons rfl (Sub.cons rfl (Sub.cons rfl (Sub.cons (lookI rfl (by omega)) Sub.nil))))) (show Fit κ _ (vc 3 (.slice (ad12) (side ++ ([((k : Nat) : Int)] : List Int)).length (cp13)) ((side ++ ([((k : Nat) : Int)] : List Int))) :: vc 4 (.slice ad8 seen10.length cp9) (seen10) :: blk b [hw, ow, lw, nw, I64 (n.sink)] 142 :: vc 3 (.slice a fl.length c) (fl) :: blk b3 [.slice a fl.length c, I64 (val), .slice (ad12) (side ++ ([((k : Nat) : Int)] : List Int)).length (cp13)] 24 :: vc 139 (hw) (hs) :: vc 3 (lw) (L) :: vc 3 (nw) (nx) :: vc 22 (ow) (rs) :: blk b2 [.slice none 0 0, I64 (0), .slice none 0 0] 24 :: blk b1 [I64 (n.nodes), I64 (n.source), I64 (n.sink), v] 30 :: (rowsI rs ++ I)) from Fit.sub)
    ·refine W.skip ?_
     refine V.block_normal ?_
     refine V.then ?_
     refine W.region ?_
     refine G.r (Runs.add rfl rfl (by unfold InR; omega)) ?_
     refine G.r (Runs.move rfl) ?_
     refine G.nil ?_
     exact V.next ((k + 1), (a2), (c2), (side)) (show ((k + 1 : Nat) ≤ seen10.length) ∧ ((side : List Int) = sideL (k + 1 : Nat) (fun z => decide (0 ≤ z ∧ z < n.nodes) && at_ seen10 z)) from ⟨(by omega), (by first | (rw [hsd, sideL_yes]; rw [Bool.and_eq_true]; exact ⟨decide_eq_true (by omega), c61⟩) | (rw [hsd, sideL_no]; rw [Bool.and_eq_false_iff]; exact .inr c61))⟩) (show seen10.length - (k + 1 : Nat) < seen10.length - k from (by omega)) (Sub.cons rfl (Sub.cons rfl (Sub.cons rfl (Sub.cons rfl (Sub.cons (lookI rfl (by omega)) Sub.nil))))) (show Fit κ _ (vc 3 (.slice (a2) (side).length (c2)) ((side)) :: vc 4 (.slice ad8 seen10.length cp9) (seen10) :: blk b [hw, ow, lw, nw, I64 (n.sink)] 142 :: vc 3 (.slice a fl.length c) (fl) :: blk b3 [.slice a fl.length c, I64 (val), .slice (a2) (side).length (c2)] 24 :: vc 139 (hw) (hs) :: vc 3 (lw) (L) :: vc 3 (nw) (nx) :: vc 22 (ow) (rs) :: blk b2 [.slice none 0 0, I64 (0), .slice none 0 0] 24 :: blk b1 [I64 (n.nodes), I64 (n.source), I64 (n.sink), v] 30 :: (rowsI rs ++ I)) from Fit.sub)
   ·refine W.exit ?_
    refine V.then_exit ?_
    refine V.then_exit ?_
    refine V.block_hit ?_
    refine V.then ?_
    refine W.sr ?_
    refine G.r (Runs.lds (vs := [_, _, _]) ty24) ?_
    refine G.e (Eff.st (cs := [_, _, _]) (vs := [_, _, _]) (cs' := [_, _, _]) ty24) ?_
    rintro _ _ ⟨rfl, rfl⟩
    refine G.r (Runs.assign rfl) ?_
    refine G.nt ?_
    refine W.ret ?_
    have hkn : k = n.nodes.toNat := by omega
    rw [hkn] at hsd
    subst hfe
    exact V.retc1 rfl ty24 rfl rfl (by repeat (first | exact List.mem_cons_self | apply List.mem_cons_of_mem)) rfl (vc 3 (.slice a2 side.length c2) side :: vc 3 (.slice a fl.length c) fl :: I) Fit.s ⟨a, c, fl, a2, c2, side, val, rfl, ⟨hfull.flow, hfull.val, _, hseen10.least hok hfull, hsd⟩, rfl⟩

theorem FGreat_err {κ : Ctx} {I : List Item} {n : Net} {v : Value} (hl : Sl κ I v n.arcs) (he : checkN n ≠ 0) :
    CallS Try.prog κ 33 [.agg #[I64 (n.nodes), I64 (n.source), I64 (n.sink), v]] I (fun r J => r = .tuple #[.slice none 0 0, I64 (checkN n)] ∧ I = J) := by
 refine CallS.enter (L := [(0, .agg #[I64 (n.nodes), I64 (n.source), I64 (n.sink), v])]) Try.func33 rfl rfl rfl rfl ?_
 refine W.sr ?_
 refine G.e (Eff.box (cs := [_, _, _, _]) rfl rfl rfl) ?_
 rintro _ _ ⟨b1, rfl, rfl⟩
 refine G.r (Runs.assign rfl) ?_
 refine G.r (Runs.assign rfl) ?_
 refine G.nt ?_
 refine W.seq ?_
 refine W.sr ?_
 refine G.r (Runs.lds (vs := [_, _, _, _]) ty30) ?_
 refine G.e (Eff.call call34 rfl rfl (FCheck_ok (n := n) (Sl.f hl))) ?_
 rintro _ _ ⟨_, _, ⟨rfl, rfl⟩, rfl, rfl⟩
 refine G.r (Runs.assign rfl) ?_
 refine G.nt ?_
 refine W.sr ?_
 refine G.r (Runs.move rfl) ?_
 refine G.r (Runs.neq rfl rfl) ?_
 refine G.nt ?_
 refine W.ite rfl (fun c13 => ?_) (fun c13 => ?_)
 ·refine W.sr ?_
  refine G.r (Runs.move rfl) ?_
  refine G.r (Runs.assign rfl) ?_
  refine G.r (Runs.assign rfl) ?_
  refine G.nt ?_
  refine W.ret ?_
  refine V.then_ret ?_
  exact V.ret2 rfl rfl rfl (I) Fit.m ⟨rfl, rfl⟩
 ·exact absurd he c13

theorem FGreat_ok {κ : Ctx} {I : List Item} {n : Net} {v : Value} (hl : Sl κ I v n.arcs) (hok : n.Ok) :
    CallS Try.prog κ 33 [.agg #[I64 (n.nodes), I64 (n.source), I64 (n.sink), v]] I (fun r J => ∃ a c side, r = .tuple #[.slice a side.length c, I64 0] ∧ GreatL n side ∧ J = vc 3 (.slice a side.length c) side :: I) := by
 have hlim := hok.lim
 have hsnk := hok.snk
 have hsrc := hok.src
 refine CallS.enter (L := [(0, .agg #[I64 (n.nodes), I64 (n.source), I64 (n.sink), v])]) Try.func33 rfl rfl rfl rfl ?_
 refine W.sr ?_
 refine G.e (Eff.box (cs := [_, _, _, _]) rfl rfl rfl) ?_
 rintro _ _ ⟨b1, rfl, rfl⟩
 refine G.r (Runs.assign rfl) ?_
 refine G.r (Runs.assign rfl) ?_
 refine G.nt ?_
 refine W.seq ?_
 refine W.sr ?_
 refine G.r (Runs.lds (vs := [_, _, _, _]) ty30) ?_
 refine G.e (Eff.call call34 rfl rfl (FCheck_ok (n := n) (Sl.f hl))) ?_
 rintro _ _ ⟨_, _, ⟨rfl, rfl⟩, rfl, rfl⟩
 refine G.r (Runs.assign rfl) ?_
 refine G.nt ?_
 refine W.sr ?_
 refine G.r (Runs.move rfl) ?_
 refine G.r (Runs.neq rfl rfl) ?_
 refine G.nt ?_
 refine W.ite rfl (fun c13 => ?_) (fun c13 => ?_)
 ·exact absurd (checkN_ok.2 hok) c13
 ·refine W.skip ?_
  refine V.then ?_
  refine W.sr ?_
  refine G.r (Runs.lds (vs := [_, _, _, _]) ty30) ?_
  refine G.e (Eff.call call102 rfl rfl (Solved_ok (n := n) (Sl.f hl) hok)) ?_
  rintro _ _ ⟨_, _, ⟨b, hw, ow, lw, nw, f, hs, rs, L, nx, val, rfl, ⟨hfull, hh, hr⟩, rfl⟩, rfl, rfl⟩
  refine G.fit (J := blk b [hw, ow, lw, nw, I64 (n.sink)] 142 :: vc 139 (hw) (hs) :: vc 3 (lw) (L) :: vc 3 (nw) (nx) :: vc 22 (ow) (rs) :: blk b1 [I64 (n.nodes), I64 (n.source), I64 (n.sink), v] 30 :: (rowsI rs ++ I)) Fit.s ?_
  refine G.r (Runs.move rfl) ?_
  refine G.r (Runs.extract rfl rfl) ?_
  refine G.r (Runs.extract rfl rfl) ?_
  refine G.r (Runs.assign rfl) ?_
  refine G.r (Runs.assign rfl) ?_
  refine G.nt ?_
  refine W.sub (L' := [(5, _), (1, _)]) (Sub.cons rfl (Sub.cons rfl Sub.nil)) ?_
  refine W.sr ?_
  refine G.r (Runs.assign rfl) ?_
  refine G.nt ?_
  refine W.seq ?_
  refine W.sr ?_
  refine G.r (Runs.move rfl) ?_
  refine G.r (Runs.fieldAddr fld30_2 rfl) ?_
  refine G.r (Runs.ld ty3) ?_
  refine G.e (Eff.call call103 rfl rfl (CallS.fit (J := blk b [hw, ow, lw, nw, I64 (n.sink)] 142 :: vc 139 (hw) (hs) :: vc 3 (lw) (L) :: vc 3 (nw) (nx) :: vc 22 (ow) (rs) :: blk b1 [I64 (n.nodes), I64 (n.source), I64 (n.sink), v] 30 :: (rowsI rs ++ I)) Fit.s (Reached_ok (n := n) (rs := rs) (hs := hs) hok hh Sl.o hr Sl.o (fun i h0 h => Sl.fit (rowsI_sl i h0 h) Fit.m) (by omega)))) ?_
  rintro _ _ ⟨_, _, ⟨ad2, cp3, seen4, rfl, hseen4, rfl⟩, rfl, rfl⟩
  show G Try.prog κ _ _ _ _ ([(23, .slice ad2 seen4.length cp3), (22, I64 (n.sink)), (21, .pointer (some ⟨b1, 2, none⟩)), (20, .pointer (some ⟨b, 0, none⟩)), (7, .slice none 0 0), (5, .pointer (some ⟨b, 0, none⟩)), (1, .pointer (some ⟨b1, 0, none⟩))] : Env) (vc 4 (.slice ad2 seen4.length cp3) (seen4) :: blk b [hw, ow, lw, nw, I64 (n.sink)] 142 :: vc 139 (hw) (hs) :: vc 3 (lw) (L) :: vc 3 (nw) (nx) :: vc 22 (ow) (rs) :: blk b1 [I64 (n.nodes), I64 (n.source), I64 (n.sink), v] 30 :: (rowsI rs ++ I))
  have hlenseen4 := hseen4.len
  refine G.r (Runs.lens Try.underlying143 rfl) ?_
  refine G.r (Runs.move rfl) ?_
  refine G.nt ?_
  refine W.block ?_
  refine W.loop (σ := Nat × (Option Addr) × Nat × (List Int)) (fun s => ([(7, .slice s.2.1 s.2.2.2.length s.2.2.1), (23, .slice ad2 seen4.length cp3), (24, I64 (((seen4.length : Nat) : Int))), (25, I64 (((s.1 : Nat) : Int)))] : Env)) (fun s => vc 3 (.slice s.2.1 s.2.2.2.length s.2.2.1) (s.2.2.2) :: vc 4 (.slice ad2 seen4.length cp3) (seen4) :: blk b [hw, ow, lw, nw, I64 (n.sink)] 142 :: vc 139 (hw) (hs) :: vc 3 (lw) (L) :: vc 3 (nw) (nx) :: vc 22 (ow) (rs) :: blk b1 [I64 (n.nodes), I64 (n.source), I64 (n.sink), v] 30 :: (rowsI rs ++ I)) (fun s => (s.1 ≤ seen4.length) ∧ (s.2.2.2 = sideL s.1 (fun z => !at_ seen4 z))) (fun s => seen4.length - s.1) (0, none, 0, []) (show ((0 : Nat) ≤ seen4.length) ∧ (([] : List Int) = sideL (0 : Nat) (fun z => !at_ seen4 z)) from ⟨(by omega), rfl⟩) (Sub.cons (lookV rfl (by first | rfl | simp)) (Sub.cons rfl (Sub.cons rfl (Sub.cons (lookI rfl (by omega)) Sub.nil)))) (show Fit κ _ (vc 3 (.slice (none) ([]).length (0)) (([])) :: vc 4 (.slice ad2 seen4.length cp3) (seen4) :: blk b [hw, ow, lw, nw, I64 (n.sink)] 142 :: vc 139 (hw) (hs) :: vc 3 (lw) (L) :: vc 3 (nw) (nx) :: vc 22 (ow) (rs) :: blk b1 [I64 (n.nodes), I64 (n.source), I64 (n.sink), v] 30 :: (rowsI rs ++ I)) from (Fit.nilvc _ _)) ?_
  rintro ⟨k, a2, c2, side⟩ hp
  obtain ⟨hk2, hsd⟩ : (k ≤ seen4.length) ∧ (side = sideL k (fun z => !at_ seen4 z)) := hp
  show W Try.prog κ 38 _ _ ([(7, .slice a2 side.length c2), (23, .slice ad2 seen4.length cp3), (24, I64 (((seen4.length : Nat) : Int))), (25, I64 (((k : Nat) : Int)))] : Env) (vc 3 (.slice a2 side.length c2) (side) :: vc 4 (.slice ad2 seen4.length cp3) (seen4) :: blk b [hw, ow, lw, nw, I64 (n.sink)] 142 :: vc 139 (hw) (hs) :: vc 3 (lw) (L) :: vc 3 (nw) (nx) :: vc 22 (ow) (rs) :: blk b1 [I64 (n.nodes), I64 (n.source), I64 (n.sink), v] 30 :: (rowsI rs ++ I))
  have hsl : side.length ≤ k := by rw [hsd]; exact sideL_len _ _
  refine W.sr ?_
  refine G.r (Runs.lss rfl rfl) ?_
  refine G.nt ?_
  refine W.seq ?_
  refine W.ite rfl (fun c26 => ?_) (fun c26 => ?_)
  ·refine W.skip ?_
   refine V.then ?_
   refine W.seq ?_
   refine W.block ?_
   refine W.sr ?_
   refine G.r (Runs.move rfl) ?_
   refine G.r (Runs.idx (α := Bool) (xs := seen4) Try.underlying143 ty4 rfl rfl Sl.o (by omega) (by omega)) ?_
   refine G.r (Runs.getB (xs := seen4) ty4 rfl Sl.o (by omega) (by omega)) ?_
   refine G.r (Runs.assign rfl) ?_
   refine G.r (Runs.assign rfl) ?_
   refine G.nt ?_
   refine W.sr ?_
   refine G.r (Runs.move rfl) ?_
   refine G.r (Runs.not rfl) ?_
   refine G.nt ?_
   refine W.cond rfl (fun c31 => ?_) (fun c31 => ?_)
   ·refine W.region ?_
    refine G.r (Runs.move rfl) ?_
    refine G.r (Runs.move rfl) ?_
    refine G.e (Eff.bs (α := Int) (cs := [_]) (xs := [((k : Nat) : Int)]) Try.underlying22 ty3 rfl rfl (by decide) (by decide) rfl rfl rfl rfl) ?_
    rintro _ _ ⟨ad5, rfl, rfl⟩
    refine G.e (Eff.app (α := Int) (e := 3) (xs := side) (ys := ([((k : Nat) : Int)] : List Int)) Try.underlying22 ty3 rfl rfl rfl (by repeat (first | exact List.mem_cons_self | apply List.mem_cons_of_mem)) Sl.o (by simp only [List.length_cons, List.length_nil]; omega) (by decide) rfl (fun _ _ => (by repeat (first | exact At.head _ _ _ | apply At.tail)))) ?_
    rintro _ _ ⟨ad6, cp7, rfl, rfl⟩
    refine G.r (Runs.assign rfl) ?_
    refine G.nil ?_
    refine V.block_normal ?_
    refine V.then ?_
    refine W.sub (L' := [(7, _), (23, _), (24, _), (25, _)]) (Sub.cons rfl (Sub.cons rfl (Sub.cons rfl (Sub.cons rfl Sub.nil)))) ?_
    refine W.region ?_
    refine G.r (Runs.add rfl rfl (by unfold InR; omega)) ?_
    refine G.r (Runs.move rfl) ?_
    refine G.nil ?_
    exact V.next ((k + 1), (ad6), (cp7), (side ++ ([((k : Nat) : Int)] : List Int))) (show ((k + 1 : Nat) ≤ seen4.length) ∧ ((side ++ ([((k : Nat) : Int)] : List Int) : List Int) = sideL (k + 1 : Nat) (fun z => !at_ seen4 z)) from ⟨(by omega), (by first | (rw [hsd, sideL_yes]; exact c31) | (rw [hsd, sideL_no]; exact c31))⟩) (show seen4.length - (k + 1 : Nat) < seen4.length - k from (by omega)) (Sub.cons (lookV rfl (by first | rfl | simp)) (Sub.cons rfl (Sub.cons rfl (Sub.cons (lookI rfl (by omega)) Sub.nil)))) (show Fit κ _ (vc 3 (.slice (ad6) (side ++ ([((k : Nat) : Int)] : List Int)).length (cp7)) ((side ++ ([((k : Nat) : Int)] : List Int))) :: vc 4 (.slice ad2 seen4.length cp3) (seen4) :: blk b [hw, ow, lw, nw, I64 (n.sink)] 142 :: vc 139 (hw) (hs) :: vc 3 (lw) (L) :: vc 3 (nw) (nx) :: vc 22 (ow) (rs) :: blk b1 [I64 (n.nodes), I64 (n.source), I64 (n.sink), v] 30 :: (rowsI rs ++ I)) from Fit.sub)
   ·refine W.skip ?_
    refine V.block_normal ?_
    refine V.then ?_
    refine W.region ?_
    refine G.r (Runs.add rfl rfl (by unfold InR; omega)) ?_
    refine G.r (Runs.move rfl) ?_
    refine G.nil ?_
    exact V.next ((k + 1), (a2), (c2), (side)) (show ((k + 1 : Nat) ≤ seen4.length) ∧ ((side : List Int) = sideL (k + 1 : Nat) (fun z => !at_ seen4 z)) from ⟨(by omega), (by first | (rw [hsd, sideL_yes]; exact c31) | (rw [hsd, sideL_no]; exact c31))⟩) (show seen4.length - (k + 1 : Nat) < seen4.length - k from (by omega)) (Sub.cons (lookV rfl (by first | rfl | simp)) (Sub.cons rfl (Sub.cons rfl (Sub.cons (lookI rfl (by omega)) Sub.nil)))) (show Fit κ _ (vc 3 (.slice (a2) (side).length (c2)) ((side)) :: vc 4 (.slice ad2 seen4.length cp3) (seen4) :: blk b [hw, ow, lw, nw, I64 (n.sink)] 142 :: vc 139 (hw) (hs) :: vc 3 (lw) (L) :: vc 3 (nw) (nx) :: vc 22 (ow) (rs) :: blk b1 [I64 (n.nodes), I64 (n.source), I64 (n.sink), v] 30 :: (rowsI rs ++ I)) from Fit.sub)
  ·refine W.exit ?_
   refine V.then_exit ?_
   refine V.then_exit ?_
   refine V.block_hit ?_
   refine V.then ?_
   refine W.sr ?_
   refine G.r (Runs.move rfl) ?_
   refine G.r (Runs.assign rfl) ?_
   refine G.r (Runs.assign rfl) ?_
   refine G.nt ?_
   refine W.ret ?_
   have hkn : k = n.nodes.toNat := by omega
   rw [hkn] at hsd
   exact V.ret2 rfl rfl rfl (vc 3 (.slice a2 side.length c2) side :: I) Fit.s ⟨a2, c2, side, rfl, ⟨f, _, hfull.flow, hseen4.great hok hfull, hsd⟩, rfl⟩

end Go.Sl
