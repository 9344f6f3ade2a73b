/- A part of the proofs of statements of this seat: contracts of functions, and the plain laws that they lean on. No conditions. -/
import Derived.Test.YtbimaodbcjjbfaaDoorNetX
import Derived.Test.YtbimaodbcjjbfaaDoorNetW
import Derived.Test.YtbimaodbcjjbfaaDoorNet
namespace Go.Sl
open Go.Proofs
set_option linter.unusedVariables false
set_option linter.unusedSimpArgs false
set_option maxRecDepth 4000
section
variable {n : Net} {f todo : List Int} {rs : List Row} {x v : Int} {q : Nat} {ag : Bool} {seen : List Bool}
theorem goH_t {i : Int} (h : ag = true) : leftH n f (mateH i) = goH n f ag i := by unfold goH; rw [if_pos h]
theorem goH_f {i : Int} (h : ag = false) : leftH n f i = goH n f ag i := by unfold goH; rw [if_neg (by rw [h]; decide)]
theorem RI.inc1 (h : RI n f ag v (rowsL rs) seen todo x q) (hd : 0 < goH n f ag (at_ (at_ rs x).xs (q : Int)) → at_ seen (toH n (at_ (at_ rs x).xs (q : Int))) = true) : RI n f ag v (rowsL rs) seen todo x (q + 1) := h.inc (by rw [rowsL_at]; exact hd)
theorem RI.put1 (hok : n.Ok) (h : RI n f ag v (rowsL rs) seen todo x q) (hx : 0 ≤ x) (hv : 0 ≤ v) (hi : InH n (at_ (at_ rs x).xs (q : Int)) ∧ fromH n (at_ (at_ rs x).xs (q : Int)) = x) (hl : 0 < goH n f ag (at_ (at_ rs x).xs (q : Int))) (hn : (!at_ seen (toH n (at_ (at_ rs x).xs (q : Int)))) = true) :
    RI n f ag v (rowsL rs) (seen.set (toH n (at_ (at_ rs x).xs (q : Int))).toNat true) (todo ++ [toH n (at_ (at_ rs x).xs (q : Int))]) x (q + 1) ∧ unB (seen.set (toH n (at_ (at_ rs x).xs (q : Int))).toNat true) + 1 = unB seen := by
  have h1 := h.put hok hx hv hi.1 hi.2 hl (by simpa using hn)
  refine ⟨h1.1.inc1 fun _ => ?_, h1.2⟩
  have hfo := from_ok hok hi.1
  rw [at_set _ _ _ _ hfo.2.1.1 hfo.2.1.1 (by have := h.len; omega), if_pos rfl]
theorem RI.over1 (h : RI n f ag v (rowsL rs) seen todo x q) (hq : (at_ rs x).xs.length ≤ q) : RI n f ag v (rowsL rs) seen todo (-1) 0 := h.over (by rw [rowsL_at]; exact hq)
end

theorem Reached_ok {κ : Ctx} {I : List Item} {n : Net} {f : List Int} {hs : List Half} {rs : List Row} {b : Nat} {hw ow lw nw : Value} {v : Int} {ag : Bool} (hok : n.Ok) (hh : HOk n f hs) (hhs : Sl κ I hw hs) (hr : ROk n (rowsL rs)) (ho : Sl κ I ow rs) (hrow : ∀ i : Int, 0 ≤ i → i < rs.length → Sl κ I (.slice (at_ rs i).a (at_ rs i).xs.length (at_ rs i).c) (at_ rs i).xs) (hv : 0 ≤ v ∧ v < n.nodes) :
    CallS Tryd.prog κ 153 [.pointer (some ⟨b, 0, none⟩), I64 (v), .bool (ag)] (blk b [hw, ow, lw, nw, I64 (n.sink)] 194 :: I) (fun r J => ∃ (a : Option Addr) (c : Nat) (seen : List Bool), r = .slice a seen.length c ∧ Seen n f ag v seen ∧ J = vc 4 (.slice a seen.length c) seen :: blk b [hw, ow, lw, nw, I64 (n.sink)] 194 :: I) := by
 have hlim := hok.lim
 have hsrc := hok.src
 have hsnk := hok.snk
 have hhl := hh.len
 have hrl := hr.rl
 refine CallS.enter (L := [(0, .pointer (some ⟨b, 0, none⟩)), (1, I64 (v)), (2, .bool (ag))]) Tryd.func153 rfl rfl rfl rfl ?_
 refine W.sr ?_
 refine G.r (Runs.assign rfl) ?_
 refine G.nt ?_
 refine W.sr ?_
 refine G.r (Runs.move rfl) ?_
 refine G.r (Runs.nilCheck rfl) ?_
 refine G.r (Runs.fieldAddr fld194_1 rfl) ?_
 refine G.r (Runs.ld ty50) ?_
 refine G.r (Runs.lenT (α := Row) (xs := rs) Tryd.underlying50 rfl (Sl.f ho)) ?_
 refine G.e (Eff.make (α := Bool) (n := rs.length) Tryd.underlying195 ty4 rfl rfl rfl (by omega) (by omega) (by decide) rfl) ?_
 rintro _ _ ⟨ad1, cp2, rfl, rfl⟩
 have hrp : (List.replicate rs.length (default : Bool)).length = rs.length := List.length_replicate
 refine G.r (Runs.assign rfl) ?_
 refine G.nt ?_
 refine W.sr ?_
 refine G.r (Runs.move rfl) ?_
 refine G.r (Runs.move rfl) ?_
 refine G.r (Runs.idx (α := Bool) (xs := List.replicate rs.length (default : Bool)) Tryd.underlying195 ty4 rfl rfl Sl.o (by omega) (by omega)) ?_
 refine G.e (Eff.set (α := Bool) (xs := List.replicate rs.length (default : Bool)) (e := 4) (new := true) ty4 rfl rfl rfl (by omega) (by omega) (by repeat (first | exact At.head _ _ _ | apply At.tail))) ?_
 rintro _ _ ⟨rfl, rfl⟩
 have h0 : ∀ z : Int, 0 ≤ z → z < n.nodes → at_ (List.replicate rs.length (default : Bool)) z = false := fun z a b => at_rep _ _ _ a (by omega)
 have hst := RI.start (f := f) (ag := ag) (rs := rowsL rs) hv (s0 := List.replicate rs.length (default : Bool)) (by rw [List.length_replicate]; exact hrl) h0
 have hst2 : unB (List.set (List.replicate rs.length (default : Bool)) v.toNat true) + [v].length ≤ n.nodes.toNat + 1 := by have h9 := List.count_le_length (a := false) (l := List.set (List.replicate rs.length (default : Bool)) v.toNat true); rw [List.length_set, List.length_replicate] at h9; unfold unB; simp only [List.length_cons, List.length_nil]; omega
 refine G.nt ?_
 refine W.sub (L' := [(7, _), (0, _), (1, _), (2, _)]) (Sub.cons rfl (Sub.cons rfl (Sub.cons rfl (Sub.cons rfl Sub.nil)))) ?_
 refine W.seq ?_
 refine W.sr ?_
 refine G.r (Runs.move rfl) ?_
 refine G.e (Eff.bs (α := Int) (cs := [_]) (xs := [v]) Tryd.underlying22 ty3 rfl rfl (by decide) (by decide) rfl rfl rfl rfl) ?_
 rintro _ _ ⟨ad3, rfl, rfl⟩
 refine G.r (Runs.assign rfl) ?_
 refine G.nt ?_
 refine W.block ?_
 refine W.loop (σ := (Option Addr) × Nat × (List Int) × (List Bool)) (fun s => ([(0, .pointer (some ⟨b, 0, none⟩)), (2, .bool (ag)), (7, .slice ad1 (List.replicate rs.length (default : Bool)).length cp2), (8, .slice s.1 s.2.2.1.length s.2.1)] : Env)) (fun s => vc 3 (.slice s.1 s.2.2.1.length s.2.1) (s.2.2.1) :: vc 4 (.slice ad1 (List.replicate rs.length (default : Bool)).length cp2) (s.2.2.2) :: blk b [hw, ow, lw, nw, I64 (n.sink)] 194 :: I) (fun s => (RI n f ag v (rowsL rs) s.2.2.2 s.2.2.1 (-1) 0) ∧ (unB s.2.2.2 + s.2.2.1.length ≤ n.nodes.toNat + 1)) (fun s => unB s.2.2.2 + s.2.2.1.length) (ad3, 1, [v], List.set (List.replicate rs.length (default : Bool)) (v).toNat (true)) (show (RI n f ag v (rowsL rs) (List.set (List.replicate rs.length (default : Bool)) (v).toNat (true) : List Bool) ([v] : List Int) (-1) 0) ∧ (unB (List.set (List.replicate rs.length (default : Bool)) (v).toNat (true) : List Bool) + ([v] : List Int).length ≤ n.nodes.toNat + 1) from ⟨hst, hst2⟩) (Sub.cons rfl (Sub.cons rfl (Sub.cons rfl (Sub.cons (lookV rfl (by first | rfl | simp)) Sub.nil)))) (show Fit κ _ (vc 3 (.slice (ad3) ([v]).length (1)) (([v])) :: vc 4 (.slice ad1 (List.replicate rs.length (default : Bool)).length cp2) ((List.set (List.replicate rs.length (default : Bool)) (v).toNat (true))) :: blk b [hw, ow, lw, nw, I64 (n.sink)] 194 :: I) from Fit.sub) ?_
 rintro ⟨a, c, todo, seen⟩ hp
 obtain ⟨hI, hub⟩ : (RI n f ag v (rowsL rs) seen todo (-1) 0) ∧ (unB seen + todo.length ≤ n.nodes.toNat + 1) := hp
 show W Tryd.prog κ 88 _ _ ([(0, .pointer (some ⟨b, 0, none⟩)), (2, .bool (ag)), (7, .slice ad1 (List.replicate rs.length (default : Bool)).length cp2), (8, .slice a todo.length c)] : Env) (vc 3 (.slice a todo.length c) (todo) :: vc 4 (.slice ad1 (List.replicate rs.length (default : Bool)).length cp2) (seen) :: blk b [hw, ow, lw, nw, I64 (n.sink)] 194 :: I)
 have hl2 := hI.len
 refine W.seq ?_
 refine W.sr ?_
 refine G.r (Runs.move rfl) ?_
 refine G.r (Runs.lens Tryd.underlying22 rfl) ?_
 refine G.r (Runs.gtr rfl rfl) ?_
 refine G.nt ?_
 refine W.ite rfl (fun c26 => ?_) (fun c26 => ?_)
 ·refine W.skip ?_
  refine V.then ?_
  refine W.seq ?_
  refine W.block ?_
  refine W.seq ?_
  refine W.drawn mixed ?_
  refine A.hold (vc 3 (.slice a todo.length c) (todo) :: vc 4 (.slice ad1 (List.replicate rs.length (default : Bool)).length cp2) (seen) :: blk b [hw, ow, lw, nw, I64 (n.sink)] 194 :: I) 11 ?_
  refine D.r 0 rfl (Runs.move rfl) ?_
  have hx0 := hI.wait _ (at_mem (xs := todo) (i := 0) (by omega) (by omega))
  refine D.r 1 rfl (Runs.nilCheck rfl) ?_
  refine D.r 2 rfl (Runs.fieldAddr fld194_1 rfl) ?_
  refine D.r 3 rfl (Runs.ld ty50) ?_
  refine D.r 4 rfl (Runs.move rfl) ?_
  refine D.r 5 rfl (Runs.idx (α := Int) (xs := todo) Tryd.underlying22 ty3 rfl rfl Sl.o (by omega) (by omega)) ?_
  refine D.r 6 rfl (Runs.get (xs := todo) ty3 rfl Sl.o (by omega) (by omega)) ?_
  refine D.r 7 rfl (Runs.idx (α := Row) (xs := rs) Tryd.underlying50 ty22 rfl rfl (Sl.f ho) (by omega) (by omega)) ?_
  refine D.r 8 rfl (Runs.getf0 (α := Row) (xs := rs) (u := .slice (at_ rs (at_ todo 0)).a (at_ rs (at_ todo 0)).xs.length (at_ rs (at_ todo 0)).c) ty22 rfl (Sl.f ho) (by omega) (by omega) rfl) ?_
  refine D.r 9 rfl (Runs.lens Tryd.underlying22 rfl) ?_
  refine D.r 10 rfl (Runs.move rfl) ?_
  refine D.done (by kernel_rfl) ?_
  refine V.then ?_
  refine W.sub (L' := [(39, _), (38, _), (37, _), (0, _), (2, _), (7, _), (8, _)]) (Sub.cons rfl (Sub.cons rfl (Sub.cons rfl (Sub.cons rfl (Sub.cons rfl (Sub.cons rfl (Sub.cons rfl Sub.nil))))))) ?_
  refine W.block ?_
  refine W.loop (σ := Nat × (Option Addr) × Nat × (List Int) × (List Bool)) (fun s => ([(0, .pointer (some ⟨b, 0, none⟩)), (2, .bool (ag)), (7, .slice ad1 (List.replicate rs.length (default : Bool)).length cp2), (8, .slice s.2.1 s.2.2.2.1.length s.2.2.1), (37, .slice (at_ rs (at_ todo 0)).a (at_ rs (at_ todo 0)).xs.length (at_ rs (at_ todo 0)).c), (38, I64 ((((at_ rs (at_ todo 0)).xs.length : Nat) : Int))), (39, I64 (((s.1 : Nat) : Int)))] : Env)) (fun s => vc 3 (.slice s.2.1 s.2.2.2.1.length s.2.2.1) (s.2.2.2.1) :: vc 4 (.slice ad1 (List.replicate rs.length (default : Bool)).length cp2) (s.2.2.2.2) :: blk b [hw, ow, lw, nw, I64 (n.sink)] 194 :: I) (fun s => (s.1 ≤ (at_ rs (at_ todo 0)).xs.length) ∧ (0 < s.2.2.2.1.length) ∧ (at_ s.2.2.2.1 0 = (at_ todo 0)) ∧ (RI n f ag v (rowsL rs) s.2.2.2.2 (s.2.2.2.1.drop 1) (at_ todo 0) s.1) ∧ (unB s.2.2.2.2 + s.2.2.2.1.length = unB seen + todo.length)) (fun s => (at_ rs (at_ todo 0)).xs.length - s.1) (0, a, c, todo, seen) (show ((0 : Nat) ≤ (at_ rs (at_ todo 0)).xs.length) ∧ (0 < (todo : List Int).length) ∧ (at_ (todo : List Int) 0 = (at_ todo 0)) ∧ (RI n f ag v (rowsL rs) (seen : List Bool) ((todo : List Int).drop 1) (at_ todo 0) (0 : Nat)) ∧ (unB (seen : List Bool) + (todo : List Int).length = unB seen + todo.length) from ⟨(by omega), (by omega), rfl, (hI.next (by omega)), rfl⟩) (Sub.cons rfl (Sub.cons rfl (Sub.cons rfl (Sub.cons (lookV rfl (by first | rfl | simp)) (Sub.cons rfl (Sub.cons rfl (Sub.cons lookO Sub.nil))))))) (show Fit κ _ (vc 3 (.slice (a) (todo).length (c)) ((todo)) :: vc 4 (.slice ad1 (List.replicate rs.length (default : Bool)).length cp2) ((seen)) :: blk b [hw, ow, lw, nw, I64 (n.sink)] 194 :: I) from Fit.sub) ?_
  rintro ⟨q, a1, c1, w, seen1⟩ hp
  obtain ⟨hq, hwl, hw0, hI1, hmu⟩ : (q ≤ (at_ rs (at_ todo 0)).xs.length) ∧ (0 < w.length) ∧ (at_ w 0 = (at_ todo 0)) ∧ (RI n f ag v (rowsL rs) seen1 (w.drop 1) (at_ todo 0) q) ∧ (unB seen1 + w.length = unB seen + todo.length) := hp
  show W Tryd.prog κ 88 _ _ ([(0, .pointer (some ⟨b, 0, none⟩)), (2, .bool (ag)), (7, .slice ad1 (List.replicate rs.length (default : Bool)).length cp2), (8, .slice a1 w.length c1), (37, .slice (at_ rs (at_ todo 0)).a (at_ rs (at_ todo 0)).xs.length (at_ rs (at_ todo 0)).c), (38, I64 ((((at_ rs (at_ todo 0)).xs.length : Nat) : Int))), (39, I64 (((q : Nat) : Int)))] : Env) (vc 3 (.slice a1 w.length c1) (w) :: vc 4 (.slice ad1 (List.replicate rs.length (default : Bool)).length cp2) (seen1) :: blk b [hw, ow, lw, nw, I64 (n.sink)] 194 :: I)
  refine W.pull (fun w hs => (Sl.fit (hrow (at_ todo 0) (by omega) (by omega)) Fit.m).le w hs) fun hrm => ?_
  have hl3 := hI1.len
  refine W.sr ?_
  refine G.r (Runs.lss rfl rfl) ?_
  refine G.nt ?_
  refine W.seq ?_
  refine W.ite rfl (fun c40 => ?_) (fun c40 => ?_)
  ·refine W.skip ?_
   refine V.then ?_
   refine W.seq ?_
   refine W.block ?_
   refine W.sr ?_
   refine G.r (Runs.idx (α := Int) (xs := (at_ rs (at_ todo 0)).xs) Tryd.underlying22 ty3 rfl rfl (Sl.fit (hrow (at_ todo 0) (by omega) (by omega)) Fit.m) (by omega) (by omega)) ?_
   refine G.r (Runs.get (xs := (at_ rs (at_ todo 0)).xs) ty3 rfl (Sl.fit (hrow (at_ todo 0) (by omega) (by omega)) Fit.m) (by omega) (by omega)) ?_
   have hm := hr.row hx0.1.1 hx0.1.2 (j := ((q : Nat) : Int)) (by omega) (by omega)
   have hg := hh.get _ hm.1
   have hfo := from_ok hok hm.1
   have hi2 : 0 ≤ (at_ (at_ rs (at_ todo 0)).xs ((q : Nat) : Int)) ∧ (at_ (at_ rs (at_ todo 0)).xs ((q : Nat) : Int)) < 2 * n.arcs.length := hm.1
   have hmi : 0 ≤ mateH (at_ (at_ rs (at_ todo 0)).xs ((q : Nat) : Int)) ∧ mateH (at_ (at_ rs (at_ todo 0)).xs ((q : Nat) : Int)) < 2 * n.arcs.length := hm.1.mate
   have hg2 := hh.get _ hm.1.mate
   refine G.r (Runs.assign rfl) ?_
   refine G.nt ?_
   refine W.seq ?_
   refine W.drawn mixed ?_
   refine A.hold (vc 3 (.slice a1 w.length c1) (w) :: vc 4 (.slice ad1 (List.replicate rs.length (default : Bool)).length cp2) (seen1) :: blk b [hw, ow, lw, nw, I64 (n.sink)] 194 :: I) 19 ?_
   refine D.r 0 rfl (Runs.move rfl) ?_
   refine D.r 1 rfl (Runs.nilCheck rfl) ?_
   refine D.r 2 rfl (Runs.fieldAddr fld194_0 rfl) ?_
   refine D.r 3 rfl (Runs.ld ty192) ?_
   refine D.r 4 rfl (Runs.move rfl) ?_
   refine D.r 5 rfl (Runs.idx (α := Half) (xs := hs) Tryd.underlying192 ty191 rfl rfl (Sl.f hhs) (by omega) (by omega)) ?_
   refine D.r 6 rfl (Runs.fld (α := Half) (xs := hs) fld191_0 rfl (Sl.f hhs) (by omega)) ?_
   refine D.r 7 rfl (Runs.fld (α := Half) (xs := hs) fld161_1 rfl (Sl.f hhs) (by omega)) ?_
   refine D.r 8 rfl (Runs.getf (α := Half) (xs := hs) (u := I64 ((at_ hs (at_ ((at_ rs (at_ todo 0)).xs) ((q : Nat) : Int))).dst)) ty3 rfl (Sl.f hhs) (by omega) (by omega) rfl) ?_
   refine D.r 9 rfl (Runs.move rfl) ?_
   refine D.r 10 rfl (Runs.nilCheck rfl) ?_
   refine D.r 11 rfl (Runs.fieldAddr fld194_0 rfl) ?_
   refine D.r 12 rfl (Runs.ld ty192) ?_
   refine D.r 13 rfl (Runs.move rfl) ?_
   refine D.r 14 rfl (Runs.idx (α := Half) (xs := hs) Tryd.underlying192 ty191 rfl rfl (Sl.f hhs) (by omega) (by omega)) ?_
   refine D.r 15 rfl (Runs.fld (α := Half) (xs := hs) fld191_1 rfl (Sl.f hhs) (by omega)) ?_
   refine D.r 16 rfl (Runs.getf (α := Half) (xs := hs) (u := I64 ((at_ hs (at_ ((at_ rs (at_ todo 0)).xs) ((q : Nat) : Int))).left)) ty3 rfl (Sl.f hhs) (by omega) (by omega) rfl) ?_
   refine D.r 17 rfl (Runs.assign rfl) ?_
   refine D.r 18 rfl (Runs.assign rfl) ?_
   refine D.done (by kernel_rfl) ?_
   refine V.then ?_
   refine W.sub (L' := [(12, _), (11, _), (10, _), (0, _), (2, _), (7, _), (8, _), (37, _), (38, _), (39, _)]) (Sub.cons rfl (Sub.cons rfl (Sub.cons rfl (Sub.cons rfl (Sub.cons rfl (Sub.cons rfl (Sub.cons rfl (Sub.cons rfl (Sub.cons rfl (Sub.cons rfl Sub.nil)))))))))) ?_
   refine W.cut (σ := Int) (fun s => ([(0, .pointer (some ⟨b, 0, none⟩)), (2, .bool (ag)), (7, .slice ad1 (List.replicate rs.length (default : Bool)).length cp2), (8, .slice a1 w.length c1), (11, I64 ((at_ hs (at_ ((at_ rs (at_ todo 0)).xs) ((q : Nat) : Int))).dst)), (12, I64 (s)), (37, .slice (at_ rs (at_ todo 0)).a (at_ rs (at_ todo 0)).xs.length (at_ rs (at_ todo 0)).c), (38, I64 ((((at_ rs (at_ todo 0)).xs.length : Nat) : Int))), (39, I64 (((q : Nat) : Int)))] : Env)) (fun s => vc 3 (.slice a1 w.length c1) (w) :: vc 4 (.slice ad1 (List.replicate rs.length (default : Bool)).length cp2) (seen1) :: blk b [hw, ow, lw, nw, I64 (n.sink)] 194 :: I) (fun s => (s = goH n f ag (at_ (at_ rs (at_ todo 0)).xs ((q : Nat) : Int)))) ?_ ?_
   ·refine W.sr ?_
    refine G.r (Runs.move rfl) ?_
    refine G.nt ?_
    refine W.cond rfl (fun c60 => ?_) (fun c60 => ?_)
    ·refine W.region ?_
     refine G.r (Runs.move rfl) ?_
     refine G.r (Runs.nilCheck rfl) ?_
     refine G.r (Runs.fieldAddr fld194_0 rfl) ?_
     refine G.r (Runs.ld ty192) ?_
     refine G.r (Runs.move rfl) ?_
     refine G.r ((xor_mate (i := at_ ((at_ rs (at_ todo 0)).xs) ((q : Nat) : Int)) (by omega) (by omega)) ▸ Runs.xorw rfl rfl) ?_
     refine G.r (Runs.idx (α := Half) (xs := hs) Tryd.underlying192 ty191 rfl rfl (Sl.f hhs) (by omega) (by omega)) ?_
     refine G.r (Runs.fld (α := Half) (xs := hs) fld191_1 rfl (Sl.f hhs) (by omega)) ?_
     refine G.r (Runs.getf (α := Half) (xs := hs) (u := I64 ((at_ hs (mateH (at_ ((at_ rs (at_ todo 0)).xs) ((q : Nat) : Int)))).left)) ty3 rfl (Sl.f hhs) (by omega) (by omega) rfl) ?_
     refine G.r (Runs.assign rfl) ?_
     refine G.nil ?_
     exact V.mid (((at_ hs (mateH (at_ ((at_ rs (at_ todo 0)).xs) ((q : Nat) : Int)))).left)) (show (((at_ hs (mateH (at_ ((at_ rs (at_ todo 0)).xs) ((q : Nat) : Int)))).left : Int) = goH n f ag (at_ (at_ rs (at_ todo 0)).xs ((q : Nat) : Int))) from (by first | exact hg.2.2.trans (goH_f c60) | exact hg2.2.2.trans (goH_t c60))) (Sub.cons rfl (Sub.cons rfl (Sub.cons rfl (Sub.cons rfl (Sub.cons rfl (Sub.cons lookO (Sub.cons rfl (Sub.cons rfl (Sub.cons rfl Sub.nil))))))))) (show Fit κ _ (vc 3 (.slice a1 w.length c1) (w) :: vc 4 (.slice ad1 (List.replicate rs.length (default : Bool)).length cp2) (seen1) :: blk b [hw, ow, lw, nw, I64 (n.sink)] 194 :: I) from Fit.sub)
    ·refine W.skip ?_
     exact V.mid (((at_ hs (at_ ((at_ rs (at_ todo 0)).xs) ((q : Nat) : Int))).left)) (show (((at_ hs (at_ ((at_ rs (at_ todo 0)).xs) ((q : Nat) : Int))).left : Int) = goH n f ag (at_ (at_ rs (at_ todo 0)).xs ((q : Nat) : Int))) from (by first | exact hg.2.2.trans (goH_f c60) | exact hg2.2.2.trans (goH_t c60))) (Sub.cons rfl (Sub.cons rfl (Sub.cons rfl (Sub.cons rfl (Sub.cons rfl (Sub.cons lookO (Sub.cons rfl (Sub.cons rfl (Sub.cons rfl Sub.nil))))))))) (show Fit κ _ (vc 3 (.slice a1 w.length c1) (w) :: vc 4 (.slice ad1 (List.replicate rs.length (default : Bool)).length cp2) (seen1) :: blk b [hw, ow, lw, nw, I64 (n.sink)] 194 :: I) from Fit.sub)
   ·rintro lft hp
    have hlft : (lft = goH n f ag (at_ (at_ rs (at_ todo 0)).xs ((q : Nat) : Int))) := hp
    show W Tryd.prog κ 88 _ _ ([(0, .pointer (some ⟨b, 0, none⟩)), (2, .bool (ag)), (7, .slice ad1 (List.replicate rs.length (default : Bool)).length cp2), (8, .slice a1 w.length c1), (11, I64 ((at_ hs (at_ ((at_ rs (at_ todo 0)).xs) ((q : Nat) : Int))).dst)), (12, I64 (lft)), (37, .slice (at_ rs (at_ todo 0)).a (at_ rs (at_ todo 0)).xs.length (at_ rs (at_ todo 0)).c), (38, I64 ((((at_ rs (at_ todo 0)).xs.length : Nat) : Int))), (39, I64 (((q : Nat) : Int)))] : Env) (vc 3 (.slice a1 w.length c1) (w) :: vc 4 (.slice ad1 (List.replicate rs.length (default : Bool)).length cp2) (seen1) :: blk b [hw, ow, lw, nw, I64 (n.sink)] 194 :: I)
    refine W.sr ?_
    refine G.r (Runs.move rfl) ?_
    refine G.r (Runs.gtr rfl rfl) ?_
    refine G.r (Runs.move rfl) ?_
    refine G.split (d := 72) rfl (fun g72 => ?_) (fun g72 => ?_)
    ·refine G.ro (Runs.move rfl) ?_
     refine G.ro (Runs.move rfl) ?_
     refine G.ro (Runs.idx (α := Bool) (xs := seen1) Tryd.underlying195 ty4 rfl rfl Sl.o (by omega) (by omega)) ?_
     refine G.ro (Runs.getB (xs := seen1) ty4 rfl Sl.o (by omega) (by omega)) ?_
     refine G.ro (Runs.not rfl) ?_
     refine G.r (Runs.pickt rfl rfl) ?_
     refine G.nt ?_
     refine W.sub (L' := [(78, _), (0, _), (2, _), (7, _), (8, _), (11, _), (37, _), (38, _), (39, _)]) (Sub.cons rfl (Sub.cons rfl (Sub.cons rfl (Sub.cons rfl (Sub.cons rfl (Sub.cons rfl (Sub.cons rfl (Sub.cons rfl (Sub.cons rfl Sub.nil))))))))) ?_
     refine W.cond rfl (fun c78 => ?_) (fun c78 => ?_)
     ·refine W.sr ?_
      refine G.r (Runs.move rfl) ?_
      refine G.r (Runs.move rfl) ?_
      refine G.r (Runs.idx (α := Bool) (xs := seen1) Tryd.underlying195 ty4 rfl rfl Sl.o (by omega) (by omega)) ?_
      refine G.e (Eff.set (α := Bool) (xs := seen1) (e := 4) (new := true) ty4 rfl rfl rfl (by omega) (by omega) (by repeat (first | exact At.head _ _ _ | apply At.tail))) ?_
      rintro _ _ ⟨rfl, rfl⟩
      refine G.nt ?_
      refine W.region ?_
      refine G.r (Runs.move rfl) ?_
      refine G.r (Runs.move rfl) ?_
      refine G.e (Eff.bs (α := Int) (cs := [_]) (xs := [(at_ hs (at_ ((at_ rs (at_ todo 0)).xs) ((q : Nat) : Int))).dst]) Tryd.underlying22 ty3 rfl rfl (by decide) (by decide) rfl rfl rfl rfl) ?_
      rintro _ _ ⟨ad4, rfl, rfl⟩
      refine G.e (Eff.app (α := Int) (e := 3) (xs := w) (ys := ([(at_ hs (at_ ((at_ rs (at_ todo 0)).xs) ((q : Nat) : Int))).dst] : List Int)) Tryd.underlying22 ty3 rfl rfl rfl (by repeat (first | exact List.mem_cons_self | apply List.mem_cons_of_mem)) Sl.o (by simp only [List.length_cons, List.length_nil]; omega) (by decide) rfl (fun _ _ => (by repeat (first | exact At.head _ _ _ | apply At.tail)))) ?_
      rintro _ _ ⟨ad5, cp6, rfl, rfl⟩
      refine G.r (Runs.assign rfl) ?_
      refine G.nil ?_
      refine V.block_normal ?_
      refine V.then ?_
      refine W.sub (L' := [(8, _), (0, _), (2, _), (7, _), (37, _), (38, _), (39, _)]) (Sub.cons rfl (Sub.cons rfl (Sub.cons rfl (Sub.cons rfl (Sub.cons rfl (Sub.cons rfl (Sub.cons rfl Sub.nil))))))) ?_
      refine W.region ?_
      refine G.r (Runs.add rfl rfl (by unfold InR; omega)) ?_
      refine G.r (Runs.move rfl) ?_
      refine G.nil ?_
      exact V.next ((q + 1), (ad5), (cp6), (w ++ ([(at_ hs (at_ ((at_ rs (at_ todo 0)).xs) ((q : Nat) : Int))).dst] : List Int)), (List.set seen1 ((at_ hs (at_ ((at_ rs (at_ todo 0)).xs) ((q : Nat) : Int))).dst).toNat (true))) (show ((q + 1 : Nat) ≤ (at_ rs (at_ todo 0)).xs.length) ∧ (0 < (w ++ ([(at_ hs (at_ ((at_ rs (at_ todo 0)).xs) ((q : Nat) : Int))).dst] : List Int) : List Int).length) ∧ (at_ (w ++ ([(at_ hs (at_ ((at_ rs (at_ todo 0)).xs) ((q : Nat) : Int))).dst] : List Int) : List Int) 0 = (at_ todo 0)) ∧ (RI n f ag v (rowsL rs) (List.set seen1 ((at_ hs (at_ ((at_ rs (at_ todo 0)).xs) ((q : Nat) : Int))).dst).toNat (true) : List Bool) ((w ++ ([(at_ hs (at_ ((at_ rs (at_ todo 0)).xs) ((q : Nat) : Int))).dst] : List Int) : List Int).drop 1) (at_ todo 0) (q + 1 : Nat)) ∧ (unB (List.set seen1 ((at_ hs (at_ ((at_ rs (at_ todo 0)).xs) ((q : Nat) : Int))).dst).toNat (true) : List Bool) + (w ++ ([(at_ hs (at_ ((at_ rs (at_ todo 0)).xs) ((q : Nat) : Int))).dst] : List Int) : List Int).length = unB seen + todo.length) from ⟨(by omega), (by first | exact hwl | (rw [List.length_append]; omega)), (by first | exact hw0 | (rw [at_zero_append hwl]; exact hw0)), (by first | exact hI1.inc1 (fun h => by omega) | exact hI1.inc1 (fun _ => by rw [← hg.2.1]; simpa using c78) | (rw [hg.2.1, drop_one_append hwl]; exact (hI1.put1 hok hx0.1.1 hv.1 hm (by omega) (by rw [← hg.2.1]; exact c78)).1)), (by first | exact hmu | (rw [hg.2.1, List.length_append]; have := (hI1.put1 hok hx0.1.1 hv.1 hm (by omega) (by rw [← hg.2.1]; exact c78)).2; simp only [List.length_cons, List.length_nil]; omega))⟩) (show (at_ rs (at_ todo 0)).xs.length - (q + 1 : Nat) < (at_ rs (at_ todo 0)).xs.length - q from (by omega)) (Sub.cons rfl (Sub.cons rfl (Sub.cons rfl (Sub.cons (lookV rfl (by first | rfl | simp)) (Sub.cons rfl (Sub.cons rfl (Sub.cons lookO Sub.nil))))))) (show Fit κ _ (vc 3 (.slice (ad5) (w ++ ([(at_ hs (at_ ((at_ rs (at_ todo 0)).xs) ((q : Nat) : Int))).dst] : List Int)).length (cp6)) ((w ++ ([(at_ hs (at_ ((at_ rs (at_ todo 0)).xs) ((q : Nat) : Int))).dst] : List Int))) :: vc 4 (.slice ad1 (List.replicate rs.length (default : Bool)).length cp2) ((List.set seen1 ((at_ hs (at_ ((at_ rs (at_ todo 0)).xs) ((q : Nat) : Int))).dst).toNat (true))) :: blk b [hw, ow, lw, nw, I64 (n.sink)] 194 :: I) from Fit.sub)
     ·refine W.skip ?_
      refine V.block_normal ?_
      refine V.then ?_
      refine W.region ?_
      refine G.r (Runs.add rfl rfl (by unfold InR; omega)) ?_
      refine G.r (Runs.move rfl) ?_
      refine G.nil ?_
      exact V.next ((q + 1), (a1), (c1), (w), (seen1)) (show ((q + 1 : Nat) ≤ (at_ rs (at_ todo 0)).xs.length) ∧ (0 < (w : List Int).length) ∧ (at_ (w : List Int) 0 = (at_ todo 0)) ∧ (RI n f ag v (rowsL rs) (seen1 : List Bool) ((w : List Int).drop 1) (at_ todo 0) (q + 1 : Nat)) ∧ (unB (seen1 : List Bool) + (w : List Int).length = unB seen + todo.length) from ⟨(by omega), (by first | exact hwl | (rw [List.length_append]; omega)), (by first | exact hw0 | (rw [at_zero_append hwl]; exact hw0)), (by first | exact hI1.inc1 (fun h => by omega) | exact hI1.inc1 (fun _ => by rw [← hg.2.1]; simpa using c78) | (rw [hg.2.1, drop_one_append hwl]; exact (hI1.put1 hok hx0.1.1 hv.1 hm (by omega) (by rw [← hg.2.1]; exact c78)).1)), (by first | exact hmu | (rw [hg.2.1, List.length_append]; have := (hI1.put1 hok hx0.1.1 hv.1 hm (by omega) (by rw [← hg.2.1]; exact c78)).2; simp only [List.length_cons, List.length_nil]; omega))⟩) (show (at_ rs (at_ todo 0)).xs.length - (q + 1 : Nat) < (at_ rs (at_ todo 0)).xs.length - q from (by omega)) (Sub.cons rfl (Sub.cons rfl (Sub.cons rfl (Sub.cons (lookV rfl (by first | rfl | simp)) (Sub.cons rfl (Sub.cons rfl (Sub.cons lookO Sub.nil))))))) (show Fit κ _ (vc 3 (.slice (a1) (w).length (c1)) ((w)) :: vc 4 (.slice ad1 (List.replicate rs.length (default : Bool)).length cp2) ((seen1)) :: blk b [hw, ow, lw, nw, I64 (n.sink)] 194 :: I) from Fit.sub)
    ·refine G.po ?_
     refine G.po ?_
     refine G.po ?_
     refine G.po ?_
     refine G.po ?_
     refine G.r (Runs.pickf rfl rfl) ?_
     refine G.nt ?_
     refine W.sub (L' := [(78, _), (0, _), (2, _), (7, _), (8, _), (11, _), (37, _), (38, _), (39, _)]) (Sub.cons rfl (Sub.cons rfl (Sub.cons rfl (Sub.cons rfl (Sub.cons rfl (Sub.cons rfl (Sub.cons rfl (Sub.cons rfl (Sub.cons rfl Sub.nil))))))))) ?_
     refine W.no rfl ?_
     refine W.skip ?_
     refine V.block_normal ?_
     refine V.then ?_
     refine W.region ?_
     refine G.r (Runs.add rfl rfl (by unfold InR; omega)) ?_
     refine G.r (Runs.move rfl) ?_
     refine G.nil ?_
     exact V.next ((q + 1), (a1), (c1), (w), (seen1)) (show ((q + 1 : Nat) ≤ (at_ rs (at_ todo 0)).xs.length) ∧ (0 < (w : List Int).length) ∧ (at_ (w : List Int) 0 = (at_ todo 0)) ∧ (RI n f ag v (rowsL rs) (seen1 : List Bool) ((w : List Int).drop 1) (at_ todo 0) (q + 1 : Nat)) ∧ (unB (seen1 : List Bool) + (w : List Int).length = unB seen + todo.length) from ⟨(by omega), (by first | exact hwl | (rw [List.length_append]; omega)), (by first | exact hw0 | (rw [at_zero_append hwl]; exact hw0)), (by first | exact hI1.inc1 (fun h => by omega) | exact hI1.inc1 (fun _ => by rw [← hg.2.1]; simpa using c78) | (rw [hg.2.1, drop_one_append hwl]; exact (hI1.put1 hok hx0.1.1 hv.1 hm (by omega) (by rw [← hg.2.1]; exact c78)).1)), (by first | exact hmu | (rw [hg.2.1, List.length_append]; have := (hI1.put1 hok hx0.1.1 hv.1 hm (by omega) (by rw [← hg.2.1]; exact c78)).2; simp only [List.length_cons, List.length_nil]; omega))⟩) (show (at_ rs (at_ todo 0)).xs.length - (q + 1 : Nat) < (at_ rs (at_ todo 0)).xs.length - q from (by omega)) (Sub.cons rfl (Sub.cons rfl (Sub.cons rfl (Sub.cons (lookV rfl (by first | rfl | simp)) (Sub.cons rfl (Sub.cons rfl (Sub.cons lookO Sub.nil))))))) (show Fit κ _ (vc 3 (.slice (a1) (w).length (c1)) ((w)) :: vc 4 (.slice ad1 (List.replicate rs.length (default : Bool)).length cp2) ((seen1)) :: blk b [hw, ow, lw, nw, I64 (n.sink)] 194 :: I) from Fit.sub)
  ·refine W.exit ?_
   refine V.then_exit ?_
   refine V.then_exit ?_
   refine V.block_hit ?_
   refine V.block_normal ?_
   refine V.then ?_
   refine W.region ?_
   refine G.r (Runs.move rfl) ?_
   refine G.r (Runs.lo (α := Int) (xs := w) (l := 1) Tryd.underlying22 ty3 rfl rfl (by omega) Sl.o (by omega)) ?_
   refine G.fit (J := vc 3 (.slice (adrop a1 c1 1 (Enc.sz Int)) (List.drop 1 w).length (c1 - 1)) (List.drop 1 w) :: vc 4 (.slice ad1 (List.replicate rs.length (default : Bool)).length cp2) (seen1) :: blk b [hw, ow, lw, nw, I64 (n.sink)] 194 :: I) (Fit.upd (by repeat (first | exact At.head _ _ _ | apply At.tail)) (reslice (l := 1) (by omega))) ?_
   refine G.r (Runs.assign rfl) ?_
   refine G.nil ?_
   exact V.next (((adrop a1 c1 1 (Enc.sz Int))), ((c1 - 1)), (List.drop 1 w), (seen1)) (show (RI n f ag v (rowsL rs) (seen1 : List Bool) (List.drop 1 w : List Int) (-1) 0) ∧ (unB (seen1 : List Bool) + (List.drop 1 w : List Int).length ≤ n.nodes.toNat + 1) from ⟨(hI1.over1 (by omega)), (by rw [List.length_drop]; omega)⟩) (show unB (seen1 : List Bool) + (List.drop 1 w : List Int).length < unB seen + todo.length from (by rw [List.length_drop]; omega)) (Sub.cons rfl (Sub.cons rfl (Sub.cons rfl (Sub.cons (lookV rfl (by first | rfl | simp)) Sub.nil)))) (show Fit κ _ (vc 3 (.slice ((adrop a1 c1 1 (Enc.sz Int))) (List.drop 1 w).length ((c1 - 1))) ((List.drop 1 w)) :: vc 4 (.slice ad1 (List.replicate rs.length (default : Bool)).length cp2) ((seen1)) :: blk b [hw, ow, lw, nw, I64 (n.sink)] 194 :: I) from Fit.sub)
 ·refine W.exit ?_
  refine V.then_exit ?_
  refine V.then_exit ?_
  refine V.block_hit ?_
  refine V.then ?_
  refine W.sr ?_
  refine G.r (Runs.move rfl) ?_
  refine G.r (Runs.assign rfl) ?_
  refine G.nt ?_
  refine W.ret ?_
  have hdn := hI.done hok hr (by omega)
  have hsl : (List.replicate rs.length (default : Bool)).length = seen.length := by rw [List.length_replicate]; omega
  exact V.ret1 rfl rfl (vc 4 (.slice ad1 (List.replicate rs.length (default : Bool)).length cp2) (seen) :: blk b [hw, ow, lw, nw, I64 (n.sink)] 194 :: I) Fit.sub ⟨ad1, cp2, seen, by rw [hsl], hdn, by rw [hsl]⟩

end Go.Sl
namespace Go.Sl
open Go.Proofs
set_option linter.unusedVariables false
set_option linter.unusedSimpArgs false
set_option maxRecDepth 4000
/-- The rows, each owned. -/
def rowsI (rs : List Row) : List Item := rs.map fun r => vc 3 (.slice r.a r.xs.length r.c) r.xs
theorem Fit.nilrows {κ : Ctx} {I : List Item} : ∀ N : Nat, Fit κ I (rowsI (List.replicate N (default : Row)) ++ I)
  | 0 => Fit.refl _
  | N + 1 => Fit.trans (Fit.nilrows N) (Fit.nilvc _ _)
theorem At.rows {I : List Item} {ad : Option Addr} {c : Nat} {xs : List Int} : ∀ {rs : List Row} {i : Int}, 0 ≤ i → i < rs.length →
    At (rowsI rs ++ I) (vc 3 (.slice (at_ rs i).a (at_ rs i).xs.length (at_ rs i).c) (at_ rs i).xs) (vc 3 (.slice ad xs.length c) xs) (rowsI (List.set rs i.toNat ⟨ad, c, xs⟩) ++ I) := fun {rs} {i} h0 h => by
  obtain ⟨k, rfl⟩ : ∃ k : Nat, i = (k : Int) := ⟨i.toNat, by omega⟩
  rw [Int.toNat_natCast]
  clear h0
  induction rs generalizing k with
  | nil => simp at h; omega
  | cons r rs ih =>
    cases k with
    | zero => exact At.head _ _ _
    | succ k => exact At.tail _ (ih k (by simp at h; omega))
theorem rowsI_mem {I : List Item} {rs : List Row} {i : Int} (h0 : 0 ≤ i) (h : i < rs.length) : vc 3 (.slice (at_ rs i).a (at_ rs i).xs.length (at_ rs i).c) (at_ rs i).xs ∈ rowsI rs ++ I := (At.rows (ad := none) (c := 0) (xs := []) h0 h).mem
theorem rowsI_sl {κ : Ctx} {I : List Item} {rs : List Row} (i : Int) (h0 : 0 ≤ i) (h : i < rs.length) : Sl κ (rowsI rs ++ I) (.slice (at_ rs i).a (at_ rs i).xs.length (at_ rs i).c) (at_ rs i).xs := Sl.vec (rowsI_mem h0 h)

/-- The first k arcs have been opened. -/
structure OI (n : Net) (rs : List Row) (hs : List Half) (k : Nat) : Prop where
  len : (rs.length : Int) = n.nodes
  hlen : hs.length = 2 * k
  get : ∀ i : Int, 0 ≤ i → i < 2 * k → (at_ hs i).frm = fromH n i ∧ (at_ hs i).dst = toH n i ∧ (at_ hs i).left = if i % 2 = 0 then (at_ n.arcs (i / 2)).cap else 0
  all : ∀ v, 0 ≤ v → v < n.nodes → ∀ i ∈ (at_ rs v).xs, (0 ≤ i ∧ i < 2 * k) ∧ fromH n i = v
  has : ∀ i : Int, 0 ≤ i → i < 2 * k → i ∈ (at_ rs (fromH n i)).xs
  bnd : ∀ v, 0 ≤ v → v < n.nodes → (at_ rs v).xs.length ≤ 2 * k
theorem OI.start {n : Net} (hok : n.Ok) : OI n (List.replicate n.nodes.toNat (default : Row)) [] 0 := by
  have := hok.two
  have h : ∀ v, 0 ≤ v → v < n.nodes → at_ (List.replicate n.nodes.toNat (default : Row)) v = default := fun v a b => at_rep _ _ _ a (by omega)
  exact ⟨by rw [List.length_replicate]; omega, rfl, fun i a b => by omega, fun v a b i hi => (by rw [h v a b] at hi; cases hi), fun i a b => (by omega), fun v a b => (by rw [h v a b]; exact Nat.zero_le _)⟩
theorem OI.step {n : Net} (hok : n.Ok) {rs : List Row} {hs : List Half} {k : Nat} (h : OI n rs hs k) (hk : k < n.arcs.length) (a1 a2 : Option Addr) (c1 c2 : Nat) {x y u w : Int} (hx : x = 2 * k) (hy : y = 2 * k + 1) (hu : u = (at_ n.arcs (k : Int)).frm) (hw : w = (at_ n.arcs (k : Int)).dst) :
    OI n (List.set (List.set rs u.toNat ⟨a1, c1, (at_ rs u).xs ++ [x]⟩) w.toNat ⟨a2, c2, (at_ (List.set rs u.toNat ⟨a1, c1, (at_ rs u).xs ++ [x]⟩) w).xs ++ [y]⟩)
      (hs ++ [⟨u, w, (at_ n.arcs (k : Int)).cap, (at_ n.arcs (k : Int)).cap⟩, ⟨w, u, 0, 0⟩]) (k + 1) := by
  have ha := arc_at hok hk
  subst hx hy hu hw
  have hlen := h.len
  have hl2 := h.hlen
  generalize hA : at_ n.arcs (k : Int) = A at *
  have f0 : fromH n (2 * (k : Int)) = A.frm := by unfold fromH; rw [if_pos (by omega), show (2 * (k : Int)) / 2 = k from by omega, hA]
  have f1 : fromH n (2 * (k : Int) + 1) = A.dst := by unfold fromH; rw [if_neg (by omega), show (2 * (k : Int) + 1) / 2 = k from by omega, hA]
  have t0 : toH n (2 * (k : Int)) = A.dst := by unfold toH; rw [if_pos (by omega), show (2 * (k : Int)) / 2 = k from by omega, hA]
  have t1 : toH n (2 * (k : Int) + 1) = A.frm := by unfold toH; rw [if_neg (by omega), show (2 * (k : Int) + 1) / 2 = k from by omega, hA]
  have e1 : at_ (List.set rs A.frm.toNat ⟨a1, c1, (at_ rs A.frm).xs ++ [2 * (k : Int)]⟩) A.dst = at_ rs A.dst := by rw [at_set rs _ _ _ ha.1.1 ha.2.1.1 (by omega), if_neg ha.2.2.1]
  have hat : ∀ v, 0 ≤ v → v < n.nodes → (at_ (List.set (List.set rs A.frm.toNat ⟨a1, c1, (at_ rs A.frm).xs ++ [2 * (k : Int)]⟩) A.dst.toNat ⟨a2, c2, (at_ (List.set rs A.frm.toNat ⟨a1, c1, (at_ rs A.frm).xs ++ [2 * (k : Int)]⟩) A.dst).xs ++ [2 * (k : Int) + 1]⟩) v).xs =
      (at_ rs v).xs ++ (if A.dst = v then [2 * (k : Int) + 1] else if A.frm = v then [2 * (k : Int)] else []) := fun v h0 h1 => by
    rw [at_set _ _ _ _ ha.2.1.1 h0 (by rw [List.length_set]; omega), e1, at_set rs _ _ _ ha.1.1 h0 (by omega)]
    by_cases d1 : A.dst = v
    · rw [if_pos d1, if_pos d1, d1]
    · rw [if_neg d1, if_neg d1]
      by_cases d2 : A.frm = v
      · rw [if_pos d2, if_pos d2, d2]
      · rw [if_neg d2, if_neg d2, List.append_nil]
  refine ⟨by simp; exact hlen, by simp; omega, fun i h0 h1 => ?_, fun v h0 h1 i hi => ?_, fun i h0 h1 => ?_, fun v h0 h1 => ?_⟩
  · by_cases hi : i < 2 * k
    · have := h.get i h0 hi
      have e : at_ (hs ++ [⟨A.frm, A.dst, A.cap, A.cap⟩, ⟨A.dst, A.frm, 0, 0⟩]) i = at_ hs i := by
        have := at_append_left hs [⟨A.frm, A.dst, A.cap, A.cap⟩, ⟨A.dst, A.frm, 0, 0⟩] i.toNat (by omega)
        rwa [show ((i.toNat : Nat) : Int) = i from by omega] at this
      rw [e]; exact this
    · have hcase : i = 2 * (k : Int) ∨ i = 2 * (k : Int) + 1 := by omega
      rcases hcase with rfl | rfl
      · have e : at_ (hs ++ [⟨A.frm, A.dst, A.cap, A.cap⟩, ⟨A.dst, A.frm, 0, 0⟩]) (2 * (k : Int)) = ⟨A.frm, A.dst, A.cap, A.cap⟩ := by
          unfold at_
          rw [show (2 * (k : Int)).toNat = hs.length + 0 from by omega, List.getD_eq_getElem?_getD, List.getElem?_append_right (by omega), Nat.add_sub_cancel_left]; rfl
        rw [e, f0, t0, if_pos (by omega), show (2 * (k : Int)) / 2 = k from by omega, hA]; exact ⟨rfl, rfl, rfl⟩
      · have e : at_ (hs ++ [⟨A.frm, A.dst, A.cap, A.cap⟩, ⟨A.dst, A.frm, 0, 0⟩]) (2 * (k : Int) + 1) = ⟨A.dst, A.frm, 0, 0⟩ := by
          unfold at_
          rw [show (2 * (k : Int) + 1).toNat = hs.length + 1 from by omega, List.getD_eq_getElem?_getD, List.getElem?_append_right (by omega), Nat.add_sub_cancel_left]; rfl
        rw [e, f1, t1, if_neg (by omega)]; exact ⟨rfl, rfl, rfl⟩
  · rw [hat v h0 h1] at hi
    rcases List.mem_append.1 hi with hi | hi
    · have := h.all v h0 h1 i hi
      exact ⟨by omega, this.2⟩
    · by_cases d1 : A.dst = v
      · rw [if_pos d1] at hi
        rw [List.mem_singleton.1 hi]; exact ⟨by omega, f1.trans d1⟩
      · rw [if_neg d1] at hi
        by_cases d2 : A.frm = v
        · rw [if_pos d2] at hi
          rw [List.mem_singleton.1 hi]; exact ⟨by omega, f0.trans d2⟩
        · rw [if_neg d2] at hi; cases hi
  · by_cases hi : i < 2 * k
    · have := h.has i h0 hi
      have hfr := arc_at hok (k := (i / 2).toNat) (by omega)
      rw [show (((i / 2).toNat : Nat) : Int) = i / 2 from by omega] at hfr
      rw [hat _ (by unfold fromH; split <;> omega) (by unfold fromH; split <;> omega)]
      exact List.mem_append_left _ this
    · have hcase : i = 2 * (k : Int) ∨ i = 2 * (k : Int) + 1 := by omega
      rcases hcase with rfl | rfl
      · rw [f0, hat _ ha.1.1 ha.1.2, if_neg (fun e => ha.2.2.1 e.symm), if_pos rfl]; exact List.mem_append_right _ (List.mem_singleton.2 rfl)
      · rw [f1, hat _ ha.2.1.1 ha.2.1.2, if_pos rfl]; exact List.mem_append_right _ (List.mem_singleton.2 rfl)
  · rw [hat v h0 h1, List.length_append]
    have := h.bnd v h0 h1
    split
    · simp only [List.length_cons, List.length_nil]; omega
    · split <;> simp only [List.length_cons, List.length_nil] <;> omega
theorem OI.done {n : Net} (hok : n.Ok) {rs : List Row} {hs : List Half} {k : Nat} (h : OI n rs hs k) (hk : k = n.arcs.length) : HOk n (List.replicate n.arcs.length (0 : Int)) hs ∧ ROk n (rowsL rs) := by
  subst hk
  have hz := flow_zero n hok
  have h0 : ∀ j : Int, 0 ≤ j → j < n.arcs.length → at_ (List.replicate n.arcs.length (0 : Int)) j = 0 := fun j a b => at_rep _ _ _ a b
  refine ⟨⟨by have := h.hlen; omega, by simp, hz.1.cap, fun i hi => ?_⟩, ⟨by unfold rowsL; rw [List.length_map]; exact h.len, fun v a b i hi => by rw [rowsL_at] at hi; exact h.all v a b i hi, fun i hi => by rw [rowsL_at]; exact h.has i hi.1 hi.2⟩⟩
  have h1 := hi.half
  have := h.get i hi.1 hi.2
  refine ⟨this.1, this.2.1, this.2.2.trans ?_⟩
  unfold leftH
  rw [h0 _ h1.1 h1.2]
  split <;> omega

set_option maxHeartbeats 4000000 in
theorem Open_ok {κ : Ctx} {I : List Item} {n : Net} {v : Value} (hl : Sl κ I v n.arcs) (hok : n.Ok) :
    CallS Tryd.prog κ 186 [.agg #[I64 (n.nodes), I64 (n.source), I64 (n.sink), v]] I (fun r J => ∃ (b : Nat) (hw ow lw nw : Value) (hs : List Half) (rs : List Row) (L nx : List Int), r = .pointer (some ⟨b, 0, none⟩) ∧ (HOk n (List.replicate n.arcs.length (0 : Int)) hs ∧ ROk n (rowsL rs) ∧ (L.length : Int) = n.nodes ∧ (nx.length : Int) = n.nodes) ∧ J = blk b [hw, ow, lw, nw, I64 (n.sink)] 194 :: vc 191 (hw) (hs) :: vc 3 (lw) (L) :: vc 3 (nw) (nx) :: (vc 22 ow rs :: (rowsI rs ++ I))) := by
 refine CallS.fit (J := (rowsI (List.replicate n.nodes.toNat (default : Row)) ++ I)) (Fit.nilrows _) ?_
 have hl2 := hl
 have hlim := hok.lim
 have htwo := hok.two
 have hsrc := hok.src
 have hsnk := hok.snk
 refine CallS.enter (L := [(0, .agg #[I64 (n.nodes), I64 (n.source), I64 (n.sink), v])]) Tryd.func186 rfl rfl rfl rfl ?_
 refine W.sr ?_
 refine G.e (Eff.box (cs := [_, _, _, _]) rfl rfl rfl) ?_
 rintro _ _ ⟨b1, rfl, rfl⟩
 refine G.r (Runs.assign rfl) ?_
 refine G.nt ?_
 refine W.cut (σ := Nat × (Option Addr) × Nat × (Option Addr) × Nat × (Option Addr) × Nat) (fun s => ([(1, .pointer (some ⟨b1, 0, none⟩)), (3, .pointer (some ⟨s.1, 0, none⟩))] : Env)) (fun s => blk s.1 [.slice none 0 0, .slice s.2.1 (List.replicate n.nodes.toNat (default : Row)).length s.2.2.1, .slice s.2.2.2.1 (List.replicate n.nodes.toNat (default : Int)).length s.2.2.2.2.1, .slice s.2.2.2.2.2.1 (List.replicate n.nodes.toNat (default : Int)).length s.2.2.2.2.2.2, I64 (n.sink)] 194 :: vc 22 (.slice s.2.1 (List.replicate n.nodes.toNat (default : Row)).length s.2.2.1) (List.replicate n.nodes.toNat (default : Row)) :: vc 3 (.slice s.2.2.2.1 (List.replicate n.nodes.toNat (default : Int)).length s.2.2.2.2.1) (List.replicate n.nodes.toNat (default : Int)) :: vc 3 (.slice s.2.2.2.2.2.1 (List.replicate n.nodes.toNat (default : Int)).length s.2.2.2.2.2.2) (List.replicate n.nodes.toNat (default : Int)) :: blk b1 [I64 (n.nodes), I64 (n.source), I64 (n.sink), v] 124 :: (rowsI (List.replicate n.nodes.toNat (default : Row)) ++ I)) (fun s => True) ?_ ?_
 ·refine W.drawn mixed ?_
  refine A.hold (blk b1 [I64 (n.nodes), I64 (n.source), I64 (n.sink), v] 124 :: (rowsI (List.replicate n.nodes.toNat (default : Row)) ++ I)) 14 ?_
  refine D.r 0 rfl (Runs.fieldAddr fld124_0 rfl) ?_
  refine D.r 1 rfl (Runs.ld ty3) ?_
  refine D.r 3 rfl (Runs.fieldAddr fld124_0 rfl) ?_
  refine D.r 4 rfl (Runs.ld ty3) ?_
  refine D.r 6 rfl (Runs.fieldAddr fld124_0 rfl) ?_
  refine D.r 7 rfl (Runs.ld ty3) ?_
  refine D.r 9 rfl (Runs.fieldAddr fld124_2 rfl) ?_
  refine D.r 10 rfl (Runs.ld ty3) ?_
  refine D.step (rs := [2, 5, 8]) (by kernel_rfl) rfl rfl (all2 ?_ (all2 ?_ (all1 ?_)))
  ·refine Step.eff rfl (Wanted.plain rfl) (Eff.make (α := Row) (n := n.nodes.toNat) Tryd.underlying50 ty22 rfl rfl rfl (by omega) (by omega) (by decide) rfl) ?_
   rintro _ _ ⟨ad2, cp3, rfl, rfl⟩
   refine ⟨Fit.m, ?_⟩
   refine D.step (rs := [5, 8]) (by kernel_rfl) rfl rfl (all2 ?_ (all1 ?_))
   ·refine Step.eff rfl (Wanted.plain rfl) (Eff.make (α := Int) (n := n.nodes.toNat) Tryd.underlying22 ty3 rfl rfl rfl (by omega) (by omega) (by decide) rfl) ?_
    rintro _ _ ⟨ad4, cp5, rfl, rfl⟩
    refine ⟨Fit.m, ?_⟩
    refine D.step (rs := [8]) (by kernel_rfl) rfl rfl (all1 ?_)
    refine Step.eff rfl (Wanted.plain rfl) (Eff.make (α := Int) (n := n.nodes.toNat) Tryd.underlying22 ty3 rfl rfl rfl (by omega) (by omega) (by decide) rfl) ?_
    rintro _ _ ⟨ad6, cp7, rfl, rfl⟩
    refine ⟨Fit.m, ?_⟩
    refine D.r 11 rfl (Runs.build (cells := [_, _, _, _, _]) ty194 Tryd.underlying194 pl194 rfl rfl) ?_
    refine D.step (rs := [12]) (by kernel_rfl) rfl rfl (all1 ?_)
    refine Step.eff rfl (Wanted.plain rfl) (Eff.box (cs := [_, _, _, _, _]) rfl rfl rfl) ?_
    rintro _ _ ⟨b8, rfl, rfl⟩
    refine ⟨Fit.m, ?_⟩
    refine D.r 13 rfl (Runs.assign rfl) ?_
    refine D.done (by kernel_rfl) ?_
    exact V.mid ((b8), (ad2), (cp3), (ad4), (cp5), (ad6), (cp7)) (show True from trivial) (Sub.cons rfl (Sub.cons (lookV rfl (by first | rfl | simp)) Sub.nil)) (show Fit κ _ (blk (b8) [.slice none 0 0, .slice (ad2) (List.replicate n.nodes.toNat (default : Row)).length (cp3), .slice (ad4) (List.replicate n.nodes.toNat (default : Int)).length (cp5), .slice (ad6) (List.replicate n.nodes.toNat (default : Int)).length (cp7), I64 (n.sink)] 194 :: vc 22 (.slice (ad2) (List.replicate n.nodes.toNat (default : Row)).length (cp3)) (List.replicate n.nodes.toNat (default : Row)) :: vc 3 (.slice (ad4) (List.replicate n.nodes.toNat (default : Int)).length (cp5)) (List.replicate n.nodes.toNat (default : Int)) :: vc 3 (.slice (ad6) (List.replicate n.nodes.toNat (default : Int)).length (cp7)) (List.replicate n.nodes.toNat (default : Int)) :: blk b1 [I64 (n.nodes), I64 (n.source), I64 (n.sink), v] 124 :: (rowsI (List.replicate n.nodes.toNat (default : Row)) ++ I)) from Fit.s)
   ·refine Step.eff rfl (Wanted.plain rfl) (Eff.make (α := Int) (n := n.nodes.toNat) Tryd.underlying22 ty3 rfl rfl rfl (by omega) (by omega) (by decide) rfl) ?_
    rintro _ _ ⟨ad9, cp10, rfl, rfl⟩
    refine ⟨Fit.m, ?_⟩
    refine D.step (rs := [5]) (by kernel_rfl) rfl rfl (all1 ?_)
    refine Step.eff rfl (Wanted.plain rfl) (Eff.make (α := Int) (n := n.nodes.toNat) Tryd.underlying22 ty3 rfl rfl rfl (by omega) (by omega) (by decide) rfl) ?_
    rintro _ _ ⟨ad11, cp12, rfl, rfl⟩
    refine ⟨Fit.m, ?_⟩
    refine D.r 11 rfl (Runs.build (cells := [_, _, _, _, _]) ty194 Tryd.underlying194 pl194 rfl rfl) ?_
    refine D.step (rs := [12]) (by kernel_rfl) rfl rfl (all1 ?_)
    refine Step.eff rfl (Wanted.plain rfl) (Eff.box (cs := [_, _, _, _, _]) rfl rfl rfl) ?_
    rintro _ _ ⟨b13, rfl, rfl⟩
    refine ⟨Fit.m, ?_⟩
    refine D.r 13 rfl (Runs.assign rfl) ?_
    refine D.done (by kernel_rfl) ?_
    exact V.mid ((b13), (ad2), (cp3), (ad11), (cp12), (ad9), (cp10)) (show True from trivial) (Sub.cons rfl (Sub.cons (lookV rfl (by first | rfl | simp)) Sub.nil)) (show Fit κ _ (blk (b13) [.slice none 0 0, .slice (ad2) (List.replicate n.nodes.toNat (default : Row)).length (cp3), .slice (ad11) (List.replicate n.nodes.toNat (default : Int)).length (cp12), .slice (ad9) (List.replicate n.nodes.toNat (default : Int)).length (cp10), I64 (n.sink)] 194 :: vc 22 (.slice (ad2) (List.replicate n.nodes.toNat (default : Row)).length (cp3)) (List.replicate n.nodes.toNat (default : Row)) :: vc 3 (.slice (ad11) (List.replicate n.nodes.toNat (default : Int)).length (cp12)) (List.replicate n.nodes.toNat (default : Int)) :: vc 3 (.slice (ad9) (List.replicate n.nodes.toNat (default : Int)).length (cp10)) (List.replicate n.nodes.toNat (default : Int)) :: blk b1 [I64 (n.nodes), I64 (n.source), I64 (n.sink), v] 124 :: (rowsI (List.replicate n.nodes.toNat (default : Row)) ++ I)) from Fit.s)
  ·refine Step.eff rfl (Wanted.plain rfl) (Eff.make (α := Int) (n := n.nodes.toNat) Tryd.underlying22 ty3 rfl rfl rfl (by omega) (by omega) (by decide) rfl) ?_
   rintro _ _ ⟨ad14, cp15, rfl, rfl⟩
   refine ⟨Fit.m, ?_⟩
   refine D.step (rs := [2, 8]) (by kernel_rfl) rfl rfl (all2 ?_ (all1 ?_))
   ·refine Step.eff rfl (Wanted.plain rfl) (Eff.make (α := Row) (n := n.nodes.toNat) Tryd.underlying50 ty22 rfl rfl rfl (by omega) (by omega) (by decide) rfl) ?_
    rintro _ _ ⟨ad16, cp17, rfl, rfl⟩
    refine ⟨Fit.m, ?_⟩
    refine D.step (rs := [8]) (by kernel_rfl) rfl rfl (all1 ?_)
    refine Step.eff rfl (Wanted.plain rfl) (Eff.make (α := Int) (n := n.nodes.toNat) Tryd.underlying22 ty3 rfl rfl rfl (by omega) (by omega) (by decide) rfl) ?_
    rintro _ _ ⟨ad18, cp19, rfl, rfl⟩
    refine ⟨Fit.m, ?_⟩
    refine D.r 11 rfl (Runs.build (cells := [_, _, _, _, _]) ty194 Tryd.underlying194 pl194 rfl rfl) ?_
    refine D.step (rs := [12]) (by kernel_rfl) rfl rfl (all1 ?_)
    refine Step.eff rfl (Wanted.plain rfl) (Eff.box (cs := [_, _, _, _, _]) rfl rfl rfl) ?_
    rintro _ _ ⟨b20, rfl, rfl⟩
    refine ⟨Fit.m, ?_⟩
    refine D.r 13 rfl (Runs.assign rfl) ?_
    refine D.done (by kernel_rfl) ?_
    exact V.mid ((b20), (ad16), (cp17), (ad14), (cp15), (ad18), (cp19)) (show True from trivial) (Sub.cons rfl (Sub.cons (lookV rfl (by first | rfl | simp)) Sub.nil)) (show Fit κ _ (blk (b20) [.slice none 0 0, .slice (ad16) (List.replicate n.nodes.toNat (default : Row)).length (cp17), .slice (ad14) (List.replicate n.nodes.toNat (default : Int)).length (cp15), .slice (ad18) (List.replicate n.nodes.toNat (default : Int)).length (cp19), I64 (n.sink)] 194 :: vc 22 (.slice (ad16) (List.replicate n.nodes.toNat (default : Row)).length (cp17)) (List.replicate n.nodes.toNat (default : Row)) :: vc 3 (.slice (ad14) (List.replicate n.nodes.toNat (default : Int)).length (cp15)) (List.replicate n.nodes.toNat (default : Int)) :: vc 3 (.slice (ad18) (List.replicate n.nodes.toNat (default : Int)).length (cp19)) (List.replicate n.nodes.toNat (default : Int)) :: blk b1 [I64 (n.nodes), I64 (n.source), I64 (n.sink), v] 124 :: (rowsI (List.replicate n.nodes.toNat (default : Row)) ++ I)) from Fit.s)
   ·refine Step.eff rfl (Wanted.plain rfl) (Eff.make (α := Int) (n := n.nodes.toNat) Tryd.underlying22 ty3 rfl rfl rfl (by omega) (by omega) (by decide) rfl) ?_
    rintro _ _ ⟨ad21, cp22, rfl, rfl⟩
    refine ⟨Fit.m, ?_⟩
    refine D.step (rs := [2]) (by kernel_rfl) rfl rfl (all1 ?_)
    refine Step.eff rfl (Wanted.plain rfl) (Eff.make (α := Row) (n := n.nodes.toNat) Tryd.underlying50 ty22 rfl rfl rfl (by omega) (by omega) (by decide) rfl) ?_
    rintro _ _ ⟨ad23, cp24, rfl, rfl⟩
    refine ⟨Fit.m, ?_⟩
    refine D.r 11 rfl (Runs.build (cells := [_, _, _, _, _]) ty194 Tryd.underlying194 pl194 rfl rfl) ?_
    refine D.step (rs := [12]) (by kernel_rfl) rfl rfl (all1 ?_)
    refine Step.eff rfl (Wanted.plain rfl) (Eff.box (cs := [_, _, _, _, _]) rfl rfl rfl) ?_
    rintro _ _ ⟨b25, rfl, rfl⟩
    refine ⟨Fit.m, ?_⟩
    refine D.r 13 rfl (Runs.assign rfl) ?_
    refine D.done (by kernel_rfl) ?_
    exact V.mid ((b25), (ad23), (cp24), (ad14), (cp15), (ad21), (cp22)) (show True from trivial) (Sub.cons rfl (Sub.cons (lookV rfl (by first | rfl | simp)) Sub.nil)) (show Fit κ _ (blk (b25) [.slice none 0 0, .slice (ad23) (List.replicate n.nodes.toNat (default : Row)).length (cp24), .slice (ad14) (List.replicate n.nodes.toNat (default : Int)).length (cp15), .slice (ad21) (List.replicate n.nodes.toNat (default : Int)).length (cp22), I64 (n.sink)] 194 :: vc 22 (.slice (ad23) (List.replicate n.nodes.toNat (default : Row)).length (cp24)) (List.replicate n.nodes.toNat (default : Row)) :: vc 3 (.slice (ad14) (List.replicate n.nodes.toNat (default : Int)).length (cp15)) (List.replicate n.nodes.toNat (default : Int)) :: vc 3 (.slice (ad21) (List.replicate n.nodes.toNat (default : Int)).length (cp22)) (List.replicate n.nodes.toNat (default : Int)) :: blk b1 [I64 (n.nodes), I64 (n.source), I64 (n.sink), v] 124 :: (rowsI (List.replicate n.nodes.toNat (default : Row)) ++ I)) from Fit.s)
  ·refine Step.eff rfl (Wanted.plain rfl) (Eff.make (α := Int) (n := n.nodes.toNat) Tryd.underlying22 ty3 rfl rfl rfl (by omega) (by omega) (by decide) rfl) ?_
   rintro _ _ ⟨ad26, cp27, rfl, rfl⟩
   refine ⟨Fit.m, ?_⟩
   refine D.step (rs := [2, 5]) (by kernel_rfl) rfl rfl (all2 ?_ (all1 ?_))
   ·refine Step.eff rfl (Wanted.plain rfl) (Eff.make (α := Row) (n := n.nodes.toNat) Tryd.underlying50 ty22 rfl rfl rfl (by omega) (by omega) (by decide) rfl) ?_
    rintro _ _ ⟨ad28, cp29, rfl, rfl⟩
    refine ⟨Fit.m, ?_⟩
    refine D.step (rs := [5]) (by kernel_rfl) rfl rfl (all1 ?_)
    refine Step.eff rfl (Wanted.plain rfl) (Eff.make (α := Int) (n := n.nodes.toNat) Tryd.underlying22 ty3 rfl rfl rfl (by omega) (by omega) (by decide) rfl) ?_
    rintro _ _ ⟨ad30, cp31, rfl, rfl⟩
    refine ⟨Fit.m, ?_⟩
    refine D.r 11 rfl (Runs.build (cells := [_, _, _, _, _]) ty194 Tryd.underlying194 pl194 rfl rfl) ?_
    refine D.step (rs := [12]) (by kernel_rfl) rfl rfl (all1 ?_)
    refine Step.eff rfl (Wanted.plain rfl) (Eff.box (cs := [_, _, _, _, _]) rfl rfl rfl) ?_
    rintro _ _ ⟨b32, rfl, rfl⟩
    refine ⟨Fit.m, ?_⟩
    refine D.r 13 rfl (Runs.assign rfl) ?_
    refine D.done (by kernel_rfl) ?_
    exact V.mid ((b32), (ad28), (cp29), (ad30), (cp31), (ad26), (cp27)) (show True from trivial) (Sub.cons rfl (Sub.cons (lookV rfl (by first | rfl | simp)) Sub.nil)) (show Fit κ _ (blk (b32) [.slice none 0 0, .slice (ad28) (List.replicate n.nodes.toNat (default : Row)).length (cp29), .slice (ad30) (List.replicate n.nodes.toNat (default : Int)).length (cp31), .slice (ad26) (List.replicate n.nodes.toNat (default : Int)).length (cp27), I64 (n.sink)] 194 :: vc 22 (.slice (ad28) (List.replicate n.nodes.toNat (default : Row)).length (cp29)) (List.replicate n.nodes.toNat (default : Row)) :: vc 3 (.slice (ad30) (List.replicate n.nodes.toNat (default : Int)).length (cp31)) (List.replicate n.nodes.toNat (default : Int)) :: vc 3 (.slice (ad26) (List.replicate n.nodes.toNat (default : Int)).length (cp27)) (List.replicate n.nodes.toNat (default : Int)) :: blk b1 [I64 (n.nodes), I64 (n.source), I64 (n.sink), v] 124 :: (rowsI (List.replicate n.nodes.toNat (default : Row)) ++ I)) from Fit.s)
   ·refine Step.eff rfl (Wanted.plain rfl) (Eff.make (α := Int) (n := n.nodes.toNat) Tryd.underlying22 ty3 rfl rfl rfl (by omega) (by omega) (by decide) rfl) ?_
    rintro _ _ ⟨ad33, cp34, rfl, rfl⟩
    refine ⟨Fit.m, ?_⟩
    refine D.step (rs := [2]) (by kernel_rfl) rfl rfl (all1 ?_)
    refine Step.eff rfl (Wanted.plain rfl) (Eff.make (α := Row) (n := n.nodes.toNat) Tryd.underlying50 ty22 rfl rfl rfl (by omega) (by omega) (by decide) rfl) ?_
    rintro _ _ ⟨ad35, cp36, rfl, rfl⟩
    refine ⟨Fit.m, ?_⟩
    refine D.r 11 rfl (Runs.build (cells := [_, _, _, _, _]) ty194 Tryd.underlying194 pl194 rfl rfl) ?_
    refine D.step (rs := [12]) (by kernel_rfl) rfl rfl (all1 ?_)
    refine Step.eff rfl (Wanted.plain rfl) (Eff.box (cs := [_, _, _, _, _]) rfl rfl rfl) ?_
    rintro _ _ ⟨b37, rfl, rfl⟩
    refine ⟨Fit.m, ?_⟩
    refine D.r 13 rfl (Runs.assign rfl) ?_
    refine D.done (by kernel_rfl) ?_
    exact V.mid ((b37), (ad35), (cp36), (ad33), (cp34), (ad26), (cp27)) (show True from trivial) (Sub.cons rfl (Sub.cons (lookV rfl (by first | rfl | simp)) Sub.nil)) (show Fit κ _ (blk (b37) [.slice none 0 0, .slice (ad35) (List.replicate n.nodes.toNat (default : Row)).length (cp36), .slice (ad33) (List.replicate n.nodes.toNat (default : Int)).length (cp34), .slice (ad26) (List.replicate n.nodes.toNat (default : Int)).length (cp27), I64 (n.sink)] 194 :: vc 22 (.slice (ad35) (List.replicate n.nodes.toNat (default : Row)).length (cp36)) (List.replicate n.nodes.toNat (default : Row)) :: vc 3 (.slice (ad33) (List.replicate n.nodes.toNat (default : Int)).length (cp34)) (List.replicate n.nodes.toNat (default : Int)) :: vc 3 (.slice (ad26) (List.replicate n.nodes.toNat (default : Int)).length (cp27)) (List.replicate n.nodes.toNat (default : Int)) :: blk b1 [I64 (n.nodes), I64 (n.source), I64 (n.sink), v] 124 :: (rowsI (List.replicate n.nodes.toNat (default : Row)) ++ I)) from Fit.s)
 ·rintro ⟨b, ao, co, al, cl, an, cn⟩ hp
  show W Tryd.prog κ 92 _ _ ([(1, .pointer (some ⟨b1, 0, none⟩)), (3, .pointer (some ⟨b, 0, none⟩))] : Env) (blk b [.slice none 0 0, .slice ao (List.replicate n.nodes.toNat (default : Row)).length co, .slice al (List.replicate n.nodes.toNat (default : Int)).length cl, .slice an (List.replicate n.nodes.toNat (default : Int)).length cn, I64 (n.sink)] 194 :: vc 22 (.slice ao (List.replicate n.nodes.toNat (default : Row)).length co) (List.replicate n.nodes.toNat (default : Row)) :: vc 3 (.slice al (List.replicate n.nodes.toNat (default : Int)).length cl) (List.replicate n.nodes.toNat (default : Int)) :: vc 3 (.slice an (List.replicate n.nodes.toNat (default : Int)).length cn) (List.replicate n.nodes.toNat (default : Int)) :: blk b1 [I64 (n.nodes), I64 (n.source), I64 (n.sink), v] 124 :: (rowsI (List.replicate n.nodes.toNat (default : Row)) ++ I))
  refine W.seq ?_
  refine W.sr ?_
  refine G.r (Runs.fieldAddr fld124_3 rfl) ?_
  refine G.r (Runs.ld ty122) ?_
  refine G.r (Runs.lenT (α := Arc) (xs := n.arcs) Tryd.underlying122 rfl (Sl.f hl)) ?_
  refine G.r (Runs.move rfl) ?_
  refine G.nt ?_
  refine W.block ?_
  refine W.loop (σ := Nat × (Option Addr) × Nat × (List Half) × (List Row)) (fun s => ([(3, .pointer (some ⟨b, 0, none⟩)), (20, v), (21, I64 (((n.arcs.length : Nat) : Int))), (22, I64 (((s.1 : Nat) : Int)))] : Env)) (fun s => vc 191 (.slice s.2.1 s.2.2.2.1.length s.2.2.1) (s.2.2.2.1) :: blk b [.slice s.2.1 s.2.2.2.1.length s.2.2.1, .slice ao (List.replicate n.nodes.toNat (default : Row)).length co, .slice al (List.replicate n.nodes.toNat (default : Int)).length cl, .slice an (List.replicate n.nodes.toNat (default : Int)).length cn, I64 (n.sink)] 194 :: vc 22 (.slice ao (List.replicate n.nodes.toNat (default : Row)).length co) (s.2.2.2.2) :: vc 3 (.slice al (List.replicate n.nodes.toNat (default : Int)).length cl) (List.replicate n.nodes.toNat (default : Int)) :: vc 3 (.slice an (List.replicate n.nodes.toNat (default : Int)).length cn) (List.replicate n.nodes.toNat (default : Int)) :: blk b1 [I64 (n.nodes), I64 (n.source), I64 (n.sink), v] 124 :: (rowsI s.2.2.2.2 ++ I)) (fun s => (s.1 ≤ n.arcs.length) ∧ (OI n s.2.2.2.2 s.2.2.2.1 s.1)) (fun s => n.arcs.length - s.1) (0, none, 0, [], (List.replicate n.nodes.toNat (default : Row))) (show ((0 : Nat) ≤ n.arcs.length) ∧ (OI n ((List.replicate n.nodes.toNat (default : Row)) : List Row) ([] : List Half) (0 : Nat)) from ⟨(by omega), (OI.start hok)⟩) (Sub.cons rfl (Sub.cons rfl (Sub.cons rfl (Sub.cons lookO Sub.nil)))) (show Fit κ _ (vc 191 (.slice (none) ([]).length (0)) (([])) :: blk b [.slice (none) ([]).length (0), .slice ao (List.replicate n.nodes.toNat (default : Row)).length co, .slice al (List.replicate n.nodes.toNat (default : Int)).length cl, .slice an (List.replicate n.nodes.toNat (default : Int)).length cn, I64 (n.sink)] 194 :: vc 22 (.slice ao (List.replicate n.nodes.toNat (default : Row)).length co) (((List.replicate n.nodes.toNat (default : Row)))) :: vc 3 (.slice al (List.replicate n.nodes.toNat (default : Int)).length cl) (List.replicate n.nodes.toNat (default : Int)) :: vc 3 (.slice an (List.replicate n.nodes.toNat (default : Int)).length cn) (List.replicate n.nodes.toNat (default : Int)) :: blk b1 [I64 (n.nodes), I64 (n.source), I64 (n.sink), v] 124 :: (rowsI ((List.replicate n.nodes.toNat (default : Row))) ++ I)) from (Fit.nilvc _ _)) ?_
  rintro ⟨k, ah, ch, hs, rs⟩ hp
  obtain ⟨hk, hO⟩ : (k ≤ n.arcs.length) ∧ (OI n rs hs k) := hp
  show W Tryd.prog κ 92 _ _ ([(3, .pointer (some ⟨b, 0, none⟩)), (20, v), (21, I64 (((n.arcs.length : Nat) : Int))), (22, I64 (((k : Nat) : Int)))] : Env) (vc 191 (.slice ah hs.length ch) (hs) :: blk b [.slice ah hs.length ch, .slice ao (List.replicate n.nodes.toNat (default : Row)).length co, .slice al (List.replicate n.nodes.toNat (default : Int)).length cl, .slice an (List.replicate n.nodes.toNat (default : Int)).length cn, I64 (n.sink)] 194 :: vc 22 (.slice ao (List.replicate n.nodes.toNat (default : Row)).length co) (rs) :: vc 3 (.slice al (List.replicate n.nodes.toNat (default : Int)).length cl) (List.replicate n.nodes.toNat (default : Int)) :: vc 3 (.slice an (List.replicate n.nodes.toNat (default : Int)).length cn) (List.replicate n.nodes.toNat (default : Int)) :: blk b1 [I64 (n.nodes), I64 (n.source), I64 (n.sink), v] 124 :: (rowsI rs ++ I))
  have hlen := hO.len
  have hhl := hO.hlen
  refine W.sr ?_
  refine G.r (Runs.lss rfl rfl) ?_
  refine G.nt ?_
  refine W.seq ?_
  refine W.ite rfl (fun c23 => ?_) (fun c23 => ?_)
  ·refine W.skip ?_
   refine V.then ?_
   refine W.seq ?_
   refine W.block ?_
   refine W.sr ?_
   refine G.r (Runs.idx (α := Arc) (xs := n.arcs) Tryd.underlying122 ty161 rfl rfl (Sl.f hl) (by omega) (by omega)) ?_
   refine G.r (Runs.gets (α := Arc) (xs := n.arcs) ty161 rfl (Sl.f hl) (by omega) (by omega)) ?_
   have hb := hok.arc (at_ n.arcs ((k : Nat) : Int)) (at_mem (by omega) (by omega))
   have hb1 := hO.bnd _ hb.1.1 hb.1.2
   have hb2 := hO.bnd _ hb.2.1.1 hb.2.1.2
   refine G.e (Eff.alloc ty161 rfl) ?_
   rintro _ _ ⟨b38, rfl, rfl⟩
   refine G.e (Eff.st (cs := [_, _, _]) (vs := [_, _, _]) (cs' := [_, _, _]) ty161) ?_
   rintro _ _ ⟨rfl, rfl⟩
   refine G.nt ?_
   refine W.seq ?_
   refine W.drawn mixed ?_
   refine A.hold (blk b38 [I64 ((at_ n.arcs ((k : Nat) : Int)).frm), I64 ((at_ n.arcs ((k : Nat) : Int)).dst), I64 ((at_ n.arcs ((k : Nat) : Int)).cap)] 161 :: vc 191 (.slice ah hs.length ch) (hs) :: blk b [.slice ah hs.length ch, .slice ao (List.replicate n.nodes.toNat (default : Row)).length co, .slice al (List.replicate n.nodes.toNat (default : Int)).length cl, .slice an (List.replicate n.nodes.toNat (default : Int)).length cn, I64 (n.sink)] 194 :: vc 22 (.slice ao (List.replicate n.nodes.toNat (default : Row)).length co) (rs) :: vc 3 (.slice al (List.replicate n.nodes.toNat (default : Int)).length cl) (List.replicate n.nodes.toNat (default : Int)) :: vc 3 (.slice an (List.replicate n.nodes.toNat (default : Int)).length cn) (List.replicate n.nodes.toNat (default : Int)) :: blk b1 [I64 (n.nodes), I64 (n.source), I64 (n.sink), v] 124 :: I) 22 ?_
   refine D.r 0 rfl (Runs.move rfl) ?_ (hJ := Fit.sub)
   refine D.r 1 rfl (Runs.nilCheck rfl) ?_ (hJ := Fit.sub)
   refine D.r 2 rfl (Runs.fieldAddr fld194_1 rfl) ?_ (hJ := Fit.sub)
   refine D.r 3 rfl (Runs.ld ty50) ?_ (hJ := Fit.sub)
   refine D.r 4 rfl (Runs.fieldAddr fld161_0 rfl) ?_ (hJ := Fit.sub)
   refine D.r 5 rfl (Runs.ld ty3) ?_ (hJ := Fit.sub)
   refine D.r 6 rfl (Runs.move rfl) ?_ (hJ := Fit.sub)
   refine D.r 7 rfl (Runs.nilCheck rfl) ?_ (hJ := Fit.sub)
   refine D.r 8 rfl (Runs.fieldAddr fld194_1 rfl) ?_ (hJ := Fit.sub)
   refine D.r 9 rfl (Runs.ld ty50) ?_ (hJ := Fit.sub)
   refine D.r 10 rfl (Runs.fieldAddr fld161_0 rfl) ?_ (hJ := Fit.sub)
   refine D.r 11 rfl (Runs.ld ty3) ?_ (hJ := Fit.sub)
   refine D.r 12 rfl (Runs.idx (α := Row) (xs := rs) Tryd.underlying50 ty22 rfl rfl Sl.o (by omega) (by omega)) ?_ (hJ := Fit.sub)
   refine D.r 13 rfl (Runs.getf0 (α := Row) (xs := rs) (u := .slice (at_ rs ((at_ n.arcs ((k : Nat) : Int)).frm)).a (at_ rs ((at_ n.arcs ((k : Nat) : Int)).frm)).xs.length (at_ rs ((at_ n.arcs ((k : Nat) : Int)).frm)).c) ty22 rfl Sl.o (by omega) (by omega) rfl) ?_ (hJ := Fit.sub)
   refine D.r 14 rfl (Runs.move rfl) ?_ (hJ := Fit.sub)
   refine D.r 15 rfl (Runs.nilCheck rfl) ?_ (hJ := Fit.sub)
   refine D.r 16 rfl (Runs.fieldAddr fld194_0 rfl) ?_ (hJ := Fit.sub)
   refine D.r 17 rfl (Runs.ld ty192) ?_ (hJ := Fit.sub)
   refine D.r 18 rfl (Runs.lens Tryd.underlying192 rfl) ?_ (hJ := Fit.sub)
   refine D.step (rs := [19]) (by kernel_rfl) rfl rfl (all1 ?_)
   refine Step.eff rfl (Wanted.plain rfl) (Eff.bs (α := Int) (cs := [_]) (xs := [((hs.length : Nat) : Int)]) Tryd.underlying22 ty3 rfl rfl (by decide) (by decide) rfl rfl rfl rfl) ?_
   rintro _ _ ⟨ad39, rfl, rfl⟩
   refine ⟨Fit.sub, ?_⟩
   refine D.step (rs := [20]) (by kernel_rfl) rfl rfl (all1 ?_)
   refine Step.eff rfl (Wanted.plain rfl) (Eff.app (α := Int) (e := 3) (xs := (at_ rs ((at_ n.arcs ((k : Nat) : Int)).frm)).xs) (ys := ([((hs.length : Nat) : Int)] : List Int)) Tryd.underlying22 ty3 rfl rfl rfl (by repeat (first | exact rowsI_mem (rs := rs) (i := ((at_ n.arcs ((k : Nat) : Int)).frm)) (by omega) (by omega) | apply List.mem_cons_of_mem)) Sl.o (by simp only [List.length_cons, List.length_nil]; omega) (by decide) rfl (fun _ _ => (by repeat (first | exact At.rows (rs := rs) (i := ((at_ n.arcs ((k : Nat) : Int)).frm)) (by omega) (by omega) | apply At.tail)))) ?_
   rintro _ _ ⟨ad40, cp41, rfl, rfl⟩
   refine ⟨Fit.sub, ?_⟩
   show D Tryd.prog κ _ _ _ _ _ _ _ ([(46, .slice ad40 ((at_ rs ((at_ n.arcs ((k : Nat) : Int)).frm)).xs ++ ([((hs.length : Nat) : Int)] : List Int)).length cp41), (45, .slice ad39 1 1), (44, I64 (((hs.length : Nat) : Int))), (43, .slice ah hs.length ch), (42, .pointer (some ⟨b, 0, none⟩)), (41, .pointer (some ⟨b, 0, none⟩)), (40, .pointer (some ⟨b, 0, none⟩)), (39, .slice (at_ rs ((at_ n.arcs ((k : Nat) : Int)).frm)).a (at_ rs ((at_ n.arcs ((k : Nat) : Int)).frm)).xs.length (at_ rs ((at_ n.arcs ((k : Nat) : Int)).frm)).c), (38, elemPtr (.slice ao (List.replicate n.nodes.toNat (default : Row)).length co) (((at_ n.arcs ((k : Nat) : Int)).frm).toNat * Enc.sz Row)), (37, I64 ((at_ n.arcs ((k : Nat) : Int)).frm)), (36, .pointer (some ⟨b38, 0, none⟩)), (35, .slice ao (List.replicate n.nodes.toNat (default : Row)).length co), (34, .pointer (some ⟨b, 1, none⟩)), (33, .pointer (some ⟨b, 0, none⟩)), (32, .pointer (some ⟨b, 0, none⟩)), (31, I64 ((at_ n.arcs ((k : Nat) : Int)).frm)), (30, .pointer (some ⟨b38, 0, none⟩)), (29, .slice ao (List.replicate n.nodes.toNat (default : Row)).length co), (28, .pointer (some ⟨b, 1, none⟩)), (27, .pointer (some ⟨b, 0, none⟩)), (26, .pointer (some ⟨b, 0, none⟩)), (5, .pointer (some ⟨b38, 0, none⟩)), (25, .agg #[I64 ((at_ n.arcs ((k : Nat) : Int)).frm), I64 ((at_ n.arcs ((k : Nat) : Int)).dst), I64 ((at_ n.arcs ((k : Nat) : Int)).cap)]), (24, elemPtr (v) ((((k : Nat) : Int)).toNat * Enc.sz Arc)), (23, .bool (decide (((k : Nat) : Int) < ((n.arcs.length : Nat) : Int)))), (3, .pointer (some ⟨b, 0, none⟩)), (20, v), (21, I64 (((n.arcs.length : Nat) : Int))), (22, I64 (((k : Nat) : Int)))] : Env) (vc 3 (.slice ad39 1 1) (([((hs.length : Nat) : Int)] : List Int)) :: blk b38 [I64 ((at_ n.arcs ((k : Nat) : Int)).frm), I64 ((at_ n.arcs ((k : Nat) : Int)).dst), I64 ((at_ n.arcs ((k : Nat) : Int)).cap)] 161 :: vc 191 (.slice ah hs.length ch) (hs) :: blk b [.slice ah hs.length ch, .slice ao (List.replicate n.nodes.toNat (default : Row)).length co, .slice al (List.replicate n.nodes.toNat (default : Int)).length cl, .slice an (List.replicate n.nodes.toNat (default : Int)).length cn, I64 (n.sink)] 194 :: vc 22 (.slice ao (List.replicate n.nodes.toNat (default : Row)).length co) (rs) :: vc 3 (.slice al (List.replicate n.nodes.toNat (default : Int)).length cl) (List.replicate n.nodes.toNat (default : Int)) :: vc 3 (.slice an (List.replicate n.nodes.toNat (default : Int)).length cn) (List.replicate n.nodes.toNat (default : Int)) :: blk b1 [I64 (n.nodes), I64 (n.source), I64 (n.sink), v] 124 :: (rowsI (List.set rs ((at_ n.arcs ((k : Nat) : Int)).frm).toNat (⟨ad40, cp41, ((at_ rs ((at_ n.arcs ((k : Nat) : Int)).frm)).xs ++ ([((hs.length : Nat) : Int)] : List Int))⟩ : Row)) ++ I))
   refine D.r 21 rfl (Runs.idx (α := Row) (xs := rs) Tryd.underlying50 ty22 rfl rfl Sl.o (by omega) (by omega)) ?_ (hJ := Fit.sub)
   refine D.stop (by kernel_rfl) ?_
   refine A.eff (i := 22) (by kernel_rfl) rfl (Wanted.plain rfl) (Eff.set (α := Row) (xs := rs) (e := 22) (new := (⟨ad40, cp41, ((at_ rs ((at_ n.arcs ((k : Nat) : Int)).frm)).xs ++ ([((hs.length : Nat) : Int)] : List Int))⟩ : Row)) ty22 rfl rfl rfl (by omega) (by omega) (by repeat (first | exact At.head _ _ _ | apply At.tail))) ?_
   rintro _ _ ⟨rfl, rfl⟩
   have hsl : (List.set rs ((at_ n.arcs ((k : Nat) : Int)).frm).toNat (⟨ad40, cp41, ((at_ rs ((at_ n.arcs ((k : Nat) : Int)).frm)).xs ++ ([((hs.length : Nat) : Int)] : List Int))⟩ : Row)).length = rs.length := List.length_set
   have hsd : at_ (List.set rs ((at_ n.arcs ((k : Nat) : Int)).frm).toNat (⟨ad40, cp41, ((at_ rs ((at_ n.arcs ((k : Nat) : Int)).frm)).xs ++ ([((hs.length : Nat) : Int)] : List Int))⟩ : Row)) (at_ n.arcs ((k : Nat) : Int)).dst = at_ rs (at_ n.arcs ((k : Nat) : Int)).dst := by rw [at_set rs _ _ _ hb.1.1 hb.2.1.1 (by omega), if_neg hb.2.2.1]
   have hsx : (at_ (List.set rs ((at_ n.arcs ((k : Nat) : Int)).frm).toNat (⟨ad40, cp41, ((at_ rs ((at_ n.arcs ((k : Nat) : Int)).frm)).xs ++ ([((hs.length : Nat) : Int)] : List Int))⟩ : Row)) (at_ n.arcs ((k : Nat) : Int)).dst).xs.length ≤ 2 * k := by rw [hsd]; exact hb2
   refine A.done (by kernel_rfl) ?_
   refine V.then ?_
   refine W.sub (L' := [(5, _), (3, _), (20, _), (21, _), (22, _)]) (Sub.cons rfl (Sub.cons rfl (Sub.cons rfl (Sub.cons rfl (Sub.cons rfl Sub.nil))))) ?_
   refine W.seq ?_
   refine W.drawn mixed ?_
   refine A.hold (vc 3 (.slice ad39 1 1) (([((hs.length : Nat) : Int)] : List Int)) :: blk b38 [I64 ((at_ n.arcs ((k : Nat) : Int)).frm), I64 ((at_ n.arcs ((k : Nat) : Int)).dst), I64 ((at_ n.arcs ((k : Nat) : Int)).cap)] 161 :: vc 191 (.slice ah hs.length ch) (hs) :: blk b [.slice ah hs.length ch, .slice ao (List.replicate n.nodes.toNat (default : Row)).length co, .slice al (List.replicate n.nodes.toNat (default : Int)).length cl, .slice an (List.replicate n.nodes.toNat (default : Int)).length cn, I64 (n.sink)] 194 :: vc 22 (.slice ao (List.replicate n.nodes.toNat (default : Row)).length co) (List.set rs ((at_ n.arcs ((k : Nat) : Int)).frm).toNat (⟨ad40, cp41, ((at_ rs ((at_ n.arcs ((k : Nat) : Int)).frm)).xs ++ ([((hs.length : Nat) : Int)] : List Int))⟩ : Row)) :: vc 3 (.slice al (List.replicate n.nodes.toNat (default : Int)).length cl) (List.replicate n.nodes.toNat (default : Int)) :: vc 3 (.slice an (List.replicate n.nodes.toNat (default : Int)).length cn) (List.replicate n.nodes.toNat (default : Int)) :: blk b1 [I64 (n.nodes), I64 (n.source), I64 (n.sink), v] 124 :: I) 23 ?_
   refine D.r 0 rfl (Runs.move rfl) ?_ (hJ := Fit.sub)
   refine D.r 1 rfl (Runs.nilCheck rfl) ?_ (hJ := Fit.sub)
   refine D.r 2 rfl (Runs.fieldAddr fld194_1 rfl) ?_ (hJ := Fit.sub)
   refine D.r 3 rfl (Runs.ld ty50) ?_ (hJ := Fit.sub)
   refine D.r 4 rfl (Runs.fieldAddr fld161_1 rfl) ?_ (hJ := Fit.sub)
   refine D.r 5 rfl (Runs.ld ty3) ?_ (hJ := Fit.sub)
   refine D.r 6 rfl (Runs.move rfl) ?_ (hJ := Fit.sub)
   refine D.r 7 rfl (Runs.nilCheck rfl) ?_ (hJ := Fit.sub)
   refine D.r 8 rfl (Runs.fieldAddr fld194_1 rfl) ?_ (hJ := Fit.sub)
   refine D.r 9 rfl (Runs.ld ty50) ?_ (hJ := Fit.sub)
   refine D.r 10 rfl (Runs.fieldAddr fld161_1 rfl) ?_ (hJ := Fit.sub)
   refine D.r 11 rfl (Runs.ld ty3) ?_ (hJ := Fit.sub)
   refine D.r 12 rfl (Runs.idx (α := Row) (xs := List.set rs ((at_ n.arcs ((k : Nat) : Int)).frm).toNat (⟨ad40, cp41, ((at_ rs ((at_ n.arcs ((k : Nat) : Int)).frm)).xs ++ ([((hs.length : Nat) : Int)] : List Int))⟩ : Row)) Tryd.underlying50 ty22 rfl rfl Sl.o (by omega) (by omega)) ?_ (hJ := Fit.sub)
   refine D.r 13 rfl (Runs.getf0 (α := Row) (xs := List.set rs ((at_ n.arcs ((k : Nat) : Int)).frm).toNat (⟨ad40, cp41, ((at_ rs ((at_ n.arcs ((k : Nat) : Int)).frm)).xs ++ ([((hs.length : Nat) : Int)] : List Int))⟩ : Row)) (u := .slice (at_ (List.set rs ((at_ n.arcs ((k : Nat) : Int)).frm).toNat (⟨ad40, cp41, ((at_ rs ((at_ n.arcs ((k : Nat) : Int)).frm)).xs ++ ([((hs.length : Nat) : Int)] : List Int))⟩ : Row)) ((at_ n.arcs ((k : Nat) : Int)).dst)).a (at_ (List.set rs ((at_ n.arcs ((k : Nat) : Int)).frm).toNat (⟨ad40, cp41, ((at_ rs ((at_ n.arcs ((k : Nat) : Int)).frm)).xs ++ ([((hs.length : Nat) : Int)] : List Int))⟩ : Row)) ((at_ n.arcs ((k : Nat) : Int)).dst)).xs.length (at_ (List.set rs ((at_ n.arcs ((k : Nat) : Int)).frm).toNat (⟨ad40, cp41, ((at_ rs ((at_ n.arcs ((k : Nat) : Int)).frm)).xs ++ ([((hs.length : Nat) : Int)] : List Int))⟩ : Row)) ((at_ n.arcs ((k : Nat) : Int)).dst)).c) ty22 rfl Sl.o (by omega) (by omega) rfl) ?_ (hJ := Fit.sub)
   refine D.r 14 rfl (Runs.move rfl) ?_ (hJ := Fit.sub)
   refine D.r 15 rfl (Runs.nilCheck rfl) ?_ (hJ := Fit.sub)
   refine D.r 16 rfl (Runs.fieldAddr fld194_0 rfl) ?_ (hJ := Fit.sub)
   refine D.r 17 rfl (Runs.ld ty192) ?_ (hJ := Fit.sub)
   refine D.r 18 rfl (Runs.lens Tryd.underlying192 rfl) ?_ (hJ := Fit.sub)
   refine D.r 19 rfl (Runs.add rfl rfl (by unfold InR; omega)) ?_ (hJ := Fit.sub)
   refine D.step (rs := [20]) (by kernel_rfl) rfl rfl (all1 ?_)
   refine Step.eff rfl (Wanted.plain rfl) (Eff.bs (α := Int) (cs := [_]) (xs := [((hs.length : Nat) : Int) + 1]) Tryd.underlying22 ty3 rfl rfl (by decide) (by decide) rfl rfl rfl rfl) ?_
   rintro _ _ ⟨ad42, rfl, rfl⟩
   refine ⟨Fit.sub, ?_⟩
   refine D.step (rs := [21]) (by kernel_rfl) rfl rfl (all1 ?_)
   refine Step.eff rfl (Wanted.plain rfl) (Eff.app (α := Int) (e := 3) (xs := (at_ (List.set rs ((at_ n.arcs ((k : Nat) : Int)).frm).toNat (⟨ad40, cp41, ((at_ rs ((at_ n.arcs ((k : Nat) : Int)).frm)).xs ++ ([((hs.length : Nat) : Int)] : List Int))⟩ : Row)) ((at_ n.arcs ((k : Nat) : Int)).dst)).xs) (ys := ([((hs.length : Nat) : Int) + 1] : List Int)) Tryd.underlying22 ty3 rfl rfl rfl (by repeat (first | exact rowsI_mem (rs := (List.set rs ((at_ n.arcs ((k : Nat) : Int)).frm).toNat (⟨ad40, cp41, ((at_ rs ((at_ n.arcs ((k : Nat) : Int)).frm)).xs ++ ([((hs.length : Nat) : Int)] : List Int))⟩ : Row))) (i := ((at_ n.arcs ((k : Nat) : Int)).dst)) (by omega) (by omega) | apply List.mem_cons_of_mem)) Sl.o (by simp only [List.length_cons, List.length_nil]; omega) (by decide) rfl (fun _ _ => (by repeat (first | exact At.rows (rs := (List.set rs ((at_ n.arcs ((k : Nat) : Int)).frm).toNat (⟨ad40, cp41, ((at_ rs ((at_ n.arcs ((k : Nat) : Int)).frm)).xs ++ ([((hs.length : Nat) : Int)] : List Int))⟩ : Row))) (i := ((at_ n.arcs ((k : Nat) : Int)).dst)) (by omega) (by omega) | apply At.tail)))) ?_
   rintro _ _ ⟨ad43, cp44, rfl, rfl⟩
   refine ⟨Fit.sub, ?_⟩
   show D Tryd.prog κ _ _ _ _ _ _ _ ([(69, .slice ad43 ((at_ (List.set rs ((at_ n.arcs ((k : Nat) : Int)).frm).toNat (⟨ad40, cp41, ((at_ rs ((at_ n.arcs ((k : Nat) : Int)).frm)).xs ++ ([((hs.length : Nat) : Int)] : List Int))⟩ : Row)) ((at_ n.arcs ((k : Nat) : Int)).dst)).xs ++ ([((hs.length : Nat) : Int) + 1] : List Int)).length cp44), (68, .slice ad42 1 1), (67, I64 (((hs.length : Nat) : Int) + 1)), (66, I64 (((hs.length : Nat) : Int))), (65, .slice ah hs.length ch), (64, .pointer (some ⟨b, 0, none⟩)), (63, .pointer (some ⟨b, 0, none⟩)), (62, .pointer (some ⟨b, 0, none⟩)), (61, .slice (at_ (List.set rs ((at_ n.arcs ((k : Nat) : Int)).frm).toNat (⟨ad40, cp41, ((at_ rs ((at_ n.arcs ((k : Nat) : Int)).frm)).xs ++ ([((hs.length : Nat) : Int)] : List Int))⟩ : Row)) ((at_ n.arcs ((k : Nat) : Int)).dst)).a (at_ (List.set rs ((at_ n.arcs ((k : Nat) : Int)).frm).toNat (⟨ad40, cp41, ((at_ rs ((at_ n.arcs ((k : Nat) : Int)).frm)).xs ++ ([((hs.length : Nat) : Int)] : List Int))⟩ : Row)) ((at_ n.arcs ((k : Nat) : Int)).dst)).xs.length (at_ (List.set rs ((at_ n.arcs ((k : Nat) : Int)).frm).toNat (⟨ad40, cp41, ((at_ rs ((at_ n.arcs ((k : Nat) : Int)).frm)).xs ++ ([((hs.length : Nat) : Int)] : List Int))⟩ : Row)) ((at_ n.arcs ((k : Nat) : Int)).dst)).c), (60, elemPtr (.slice ao (List.replicate n.nodes.toNat (default : Row)).length co) (((at_ n.arcs ((k : Nat) : Int)).dst).toNat * Enc.sz Row)), (59, I64 ((at_ n.arcs ((k : Nat) : Int)).dst)), (58, .pointer (some ⟨b38, 1, none⟩)), (57, .slice ao (List.replicate n.nodes.toNat (default : Row)).length co), (56, .pointer (some ⟨b, 1, none⟩)), (55, .pointer (some ⟨b, 0, none⟩)), (54, .pointer (some ⟨b, 0, none⟩)), (53, I64 ((at_ n.arcs ((k : Nat) : Int)).dst)), (52, .pointer (some ⟨b38, 1, none⟩)), (51, .slice ao (List.replicate n.nodes.toNat (default : Row)).length co), (50, .pointer (some ⟨b, 1, none⟩)), (49, .pointer (some ⟨b, 0, none⟩)), (48, .pointer (some ⟨b, 0, none⟩)), (5, .pointer (some ⟨b38, 0, none⟩)), (3, .pointer (some ⟨b, 0, none⟩)), (20, v), (21, I64 (((n.arcs.length : Nat) : Int))), (22, I64 (((k : Nat) : Int)))] : Env) (vc 3 (.slice ad42 1 1) (([((hs.length : Nat) : Int) + 1] : List Int)) :: vc 3 (.slice ad39 1 1) (([((hs.length : Nat) : Int)] : List Int)) :: blk b38 [I64 ((at_ n.arcs ((k : Nat) : Int)).frm), I64 ((at_ n.arcs ((k : Nat) : Int)).dst), I64 ((at_ n.arcs ((k : Nat) : Int)).cap)] 161 :: vc 191 (.slice ah hs.length ch) (hs) :: blk b [.slice ah hs.length ch, .slice ao (List.replicate n.nodes.toNat (default : Row)).length co, .slice al (List.replicate n.nodes.toNat (default : Int)).length cl, .slice an (List.replicate n.nodes.toNat (default : Int)).length cn, I64 (n.sink)] 194 :: vc 22 (.slice ao (List.replicate n.nodes.toNat (default : Row)).length co) (List.set rs ((at_ n.arcs ((k : Nat) : Int)).frm).toNat (⟨ad40, cp41, ((at_ rs ((at_ n.arcs ((k : Nat) : Int)).frm)).xs ++ ([((hs.length : Nat) : Int)] : List Int))⟩ : Row)) :: vc 3 (.slice al (List.replicate n.nodes.toNat (default : Int)).length cl) (List.replicate n.nodes.toNat (default : Int)) :: vc 3 (.slice an (List.replicate n.nodes.toNat (default : Int)).length cn) (List.replicate n.nodes.toNat (default : Int)) :: blk b1 [I64 (n.nodes), I64 (n.source), I64 (n.sink), v] 124 :: (rowsI (List.set (List.set rs ((at_ n.arcs ((k : Nat) : Int)).frm).toNat (⟨ad40, cp41, ((at_ rs ((at_ n.arcs ((k : Nat) : Int)).frm)).xs ++ ([((hs.length : Nat) : Int)] : List Int))⟩ : Row)) ((at_ n.arcs ((k : Nat) : Int)).dst).toNat (⟨ad43, cp44, ((at_ (List.set rs ((at_ n.arcs ((k : Nat) : Int)).frm).toNat (⟨ad40, cp41, ((at_ rs ((at_ n.arcs ((k : Nat) : Int)).frm)).xs ++ ([((hs.length : Nat) : Int)] : List Int))⟩ : Row)) ((at_ n.arcs ((k : Nat) : Int)).dst)).xs ++ ([((hs.length : Nat) : Int) + 1] : List Int))⟩ : Row)) ++ I))
   refine D.r 22 rfl (Runs.idx (α := Row) (xs := List.set rs ((at_ n.arcs ((k : Nat) : Int)).frm).toNat (⟨ad40, cp41, ((at_ rs ((at_ n.arcs ((k : Nat) : Int)).frm)).xs ++ ([((hs.length : Nat) : Int)] : List Int))⟩ : Row)) Tryd.underlying50 ty22 rfl rfl Sl.o (by omega) (by omega)) ?_ (hJ := Fit.sub)
   refine D.stop (by kernel_rfl) ?_
   refine A.eff (i := 23) (by kernel_rfl) rfl (Wanted.plain rfl) (Eff.set (α := Row) (xs := List.set rs ((at_ n.arcs ((k : Nat) : Int)).frm).toNat (⟨ad40, cp41, ((at_ rs ((at_ n.arcs ((k : Nat) : Int)).frm)).xs ++ ([((hs.length : Nat) : Int)] : List Int))⟩ : Row)) (e := 22) (new := (⟨ad43, cp44, ((at_ (List.set rs ((at_ n.arcs ((k : Nat) : Int)).frm).toNat (⟨ad40, cp41, ((at_ rs ((at_ n.arcs ((k : Nat) : Int)).frm)).xs ++ ([((hs.length : Nat) : Int)] : List Int))⟩ : Row)) ((at_ n.arcs ((k : Nat) : Int)).dst)).xs ++ ([((hs.length : Nat) : Int) + 1] : List Int))⟩ : Row)) ty22 rfl rfl rfl (by omega) (by omega) (by repeat (first | exact At.head _ _ _ | apply At.tail))) ?_
   rintro _ _ ⟨rfl, rfl⟩
   refine A.done (by kernel_rfl) ?_
   refine V.then ?_
   refine W.sub (L' := [(5, _), (3, _), (20, _), (21, _), (22, _)]) (Sub.cons rfl (Sub.cons rfl (Sub.cons rfl (Sub.cons rfl (Sub.cons rfl Sub.nil))))) ?_
   refine W.drawn mixed ?_
   refine A.hold (vc 3 (.slice ad42 1 1) (([((hs.length : Nat) : Int) + 1] : List Int)) :: vc 3 (.slice ad39 1 1) (([((hs.length : Nat) : Int)] : List Int)) :: blk b38 [I64 ((at_ n.arcs ((k : Nat) : Int)).frm), I64 ((at_ n.arcs ((k : Nat) : Int)).dst), I64 ((at_ n.arcs ((k : Nat) : Int)).cap)] 161 :: blk b [.slice ah hs.length ch, .slice ao (List.replicate n.nodes.toNat (default : Row)).length co, .slice al (List.replicate n.nodes.toNat (default : Int)).length cl, .slice an (List.replicate n.nodes.toNat (default : Int)).length cn, I64 (n.sink)] 194 :: vc 22 (.slice ao (List.replicate n.nodes.toNat (default : Row)).length co) (List.set (List.set rs ((at_ n.arcs ((k : Nat) : Int)).frm).toNat (⟨ad40, cp41, ((at_ rs ((at_ n.arcs ((k : Nat) : Int)).frm)).xs ++ ([((hs.length : Nat) : Int)] : List Int))⟩ : Row)) ((at_ n.arcs ((k : Nat) : Int)).dst).toNat (⟨ad43, cp44, ((at_ (List.set rs ((at_ n.arcs ((k : Nat) : Int)).frm).toNat (⟨ad40, cp41, ((at_ rs ((at_ n.arcs ((k : Nat) : Int)).frm)).xs ++ ([((hs.length : Nat) : Int)] : List Int))⟩ : Row)) ((at_ n.arcs ((k : Nat) : Int)).dst)).xs ++ ([((hs.length : Nat) : Int) + 1] : List Int))⟩ : Row)) :: vc 3 (.slice al (List.replicate n.nodes.toNat (default : Int)).length cl) (List.replicate n.nodes.toNat (default : Int)) :: vc 3 (.slice an (List.replicate n.nodes.toNat (default : Int)).length cn) (List.replicate n.nodes.toNat (default : Int)) :: blk b1 [I64 (n.nodes), I64 (n.source), I64 (n.sink), v] 124 :: (rowsI (List.set (List.set rs ((at_ n.arcs ((k : Nat) : Int)).frm).toNat (⟨ad40, cp41, ((at_ rs ((at_ n.arcs ((k : Nat) : Int)).frm)).xs ++ ([((hs.length : Nat) : Int)] : List Int))⟩ : Row)) ((at_ n.arcs ((k : Nat) : Int)).dst).toNat (⟨ad43, cp44, ((at_ (List.set rs ((at_ n.arcs ((k : Nat) : Int)).frm).toNat (⟨ad40, cp41, ((at_ rs ((at_ n.arcs ((k : Nat) : Int)).frm)).xs ++ ([((hs.length : Nat) : Int)] : List Int))⟩ : Row)) ((at_ n.arcs ((k : Nat) : Int)).dst)).xs ++ ([((hs.length : Nat) : Int) + 1] : List Int))⟩ : Row)) ++ I)) 19 ?_
   refine D.r 0 rfl (Runs.move rfl) ?_ (hJ := Fit.sub)
   refine D.r 1 rfl (Runs.move rfl) ?_ (hJ := Fit.sub)
   refine D.r 2 rfl (Runs.nilCheck rfl) ?_ (hJ := Fit.sub)
   refine D.r 3 rfl (Runs.fieldAddr fld194_0 rfl) ?_ (hJ := Fit.sub)
   refine D.r 4 rfl (Runs.ld ty192) ?_ (hJ := Fit.sub)
   refine D.r 5 rfl (Runs.lds (vs := [_, _, _]) ty161) ?_ (hJ := Fit.sub)
   refine D.r 6 rfl (Runs.fieldAddr fld161_2 rfl) ?_ (hJ := Fit.sub)
   refine D.r 7 rfl (Runs.ld ty3) ?_ (hJ := Fit.sub)
   refine D.r 8 rfl (Runs.build (cells := [_, _, _, _]) ty191 Tryd.underlying191 pl191 rfl rfl) ?_ (hJ := Fit.sub)
   refine D.r 9 rfl (Runs.fieldAddr fld161_1 rfl) ?_ (hJ := Fit.sub)
   refine D.r 10 rfl (Runs.ld ty3) ?_ (hJ := Fit.sub)
   refine D.r 11 rfl (Runs.fieldAddr fld161_0 rfl) ?_ (hJ := Fit.sub)
   refine D.r 12 rfl (Runs.ld ty3) ?_ (hJ := Fit.sub)
   refine D.r 13 rfl (Runs.build (cells := [_, _, _]) ty161 Tryd.underlying161 pl161 rfl rfl) ?_ (hJ := Fit.sub)
   refine D.r 14 rfl (Runs.build (cells := [_, _, _, _]) ty191 Tryd.underlying191 pl191 rfl rfl) ?_ (hJ := Fit.sub)
   refine D.step (rs := [15]) (by kernel_rfl) rfl rfl (all1 ?_)
   refine Step.eff rfl (Wanted.plain rfl) (Eff.bs (α := Half) (cs := [I64 ((at_ n.arcs ((k : Nat) : Int)).frm), I64 ((at_ n.arcs ((k : Nat) : Int)).dst), I64 ((at_ n.arcs ((k : Nat) : Int)).cap), I64 ((at_ n.arcs ((k : Nat) : Int)).cap), I64 ((at_ n.arcs ((k : Nat) : Int)).dst), I64 ((at_ n.arcs ((k : Nat) : Int)).frm), I64 (0), I64 (0)]) (xs := [⟨(at_ n.arcs ((k : Nat) : Int)).frm, (at_ n.arcs ((k : Nat) : Int)).dst, (at_ n.arcs ((k : Nat) : Int)).cap, (at_ n.arcs ((k : Nat) : Int)).cap⟩, ⟨(at_ n.arcs ((k : Nat) : Int)).dst, (at_ n.arcs ((k : Nat) : Int)).frm, 0, 0⟩]) Tryd.underlying192 ty191 rfl rfl (by decide) (by decide) rfl (by kernel_rfl) rfl rfl) ?_
   rintro _ _ ⟨ad45, rfl, rfl⟩
   refine ⟨Fit.sub, ?_⟩
   refine D.step (rs := [16]) (by kernel_rfl) rfl rfl (all1 ?_)
   refine Step.eff rfl (Wanted.plain rfl) (Eff.app (α := Half) (e := 191) (xs := hs) (ys := ([⟨(at_ n.arcs ((k : Nat) : Int)).frm, (at_ n.arcs ((k : Nat) : Int)).dst, (at_ n.arcs ((k : Nat) : Int)).cap, (at_ n.arcs ((k : Nat) : Int)).cap⟩, ⟨(at_ n.arcs ((k : Nat) : Int)).dst, (at_ n.arcs ((k : Nat) : Int)).frm, 0, 0⟩] : List Half)) Tryd.underlying192 ty191 rfl rfl rfl (by repeat (first | exact List.mem_cons_self | apply List.mem_cons_of_mem)) Sl.o (by simp only [List.length_cons, List.length_nil]; omega) (by decide) rfl (fun _ _ => (by repeat (first | exact At.head _ _ _ | apply At.tail)))) ?_
   rintro _ _ ⟨ad46, cp47, rfl, rfl⟩
   refine ⟨Fit.sub, ?_⟩
   refine D.step (rs := [17]) (by kernel_rfl) rfl rfl (all1 ?_)
   refine Step.read rfl (Wanted.plain rfl) rfl rfl (Runs.nilCheck rfl) Fit.sub ?_
   refine D.r 18 rfl (Runs.fieldAddr fld194_0 rfl) ?_ (hJ := Fit.sub)
   refine D.stop (by kernel_rfl) ?_
   refine A.eff (i := 19) (by kernel_rfl) rfl (Wanted.plain rfl) (Eff.st (cs := [_, _, _, _, _]) (vs := [_]) (cs' := [_, _, _, _, _]) ty192) ?_
   rintro _ _ ⟨rfl, rfl⟩
   refine A.done (by kernel_rfl) ?_
   refine V.block_normal ?_
   refine V.then ?_
   refine W.sub (L' := [(3, _), (20, _), (21, _), (22, _)]) (Sub.cons rfl (Sub.cons rfl (Sub.cons rfl (Sub.cons rfl Sub.nil)))) ?_
   refine W.region ?_
   refine G.r (Runs.add rfl rfl (by unfold InR; omega)) ?_
   refine G.r (Runs.move rfl) ?_
   refine G.nil ?_
   exact V.next ((k + 1), (ad46), (cp47), (hs ++ ([⟨(at_ n.arcs ((k : Nat) : Int)).frm, (at_ n.arcs ((k : Nat) : Int)).dst, (at_ n.arcs ((k : Nat) : Int)).cap, (at_ n.arcs ((k : Nat) : Int)).cap⟩, ⟨(at_ n.arcs ((k : Nat) : Int)).dst, (at_ n.arcs ((k : Nat) : Int)).frm, 0, 0⟩] : List Half)), (List.set (List.set rs ((at_ n.arcs ((k : Nat) : Int)).frm).toNat (⟨ad40, cp41, ((at_ rs ((at_ n.arcs ((k : Nat) : Int)).frm)).xs ++ ([((hs.length : Nat) : Int)] : List Int))⟩ : Row)) ((at_ n.arcs ((k : Nat) : Int)).dst).toNat (⟨ad43, cp44, ((at_ (List.set rs ((at_ n.arcs ((k : Nat) : Int)).frm).toNat (⟨ad40, cp41, ((at_ rs ((at_ n.arcs ((k : Nat) : Int)).frm)).xs ++ ([((hs.length : Nat) : Int)] : List Int))⟩ : Row)) ((at_ n.arcs ((k : Nat) : Int)).dst)).xs ++ ([((hs.length : Nat) : Int) + 1] : List Int))⟩ : Row))) (show ((k + 1 : Nat) ≤ n.arcs.length) ∧ (OI n (List.set (List.set rs ((at_ n.arcs ((k : Nat) : Int)).frm).toNat (⟨ad40, cp41, ((at_ rs ((at_ n.arcs ((k : Nat) : Int)).frm)).xs ++ ([((hs.length : Nat) : Int)] : List Int))⟩ : Row)) ((at_ n.arcs ((k : Nat) : Int)).dst).toNat (⟨ad43, cp44, ((at_ (List.set rs ((at_ n.arcs ((k : Nat) : Int)).frm).toNat (⟨ad40, cp41, ((at_ rs ((at_ n.arcs ((k : Nat) : Int)).frm)).xs ++ ([((hs.length : Nat) : Int)] : List Int))⟩ : Row)) ((at_ n.arcs ((k : Nat) : Int)).dst)).xs ++ ([((hs.length : Nat) : Int) + 1] : List Int))⟩ : Row) : List Row) (hs ++ ([⟨(at_ n.arcs ((k : Nat) : Int)).frm, (at_ n.arcs ((k : Nat) : Int)).dst, (at_ n.arcs ((k : Nat) : Int)).cap, (at_ n.arcs ((k : Nat) : Int)).cap⟩, ⟨(at_ n.arcs ((k : Nat) : Int)).dst, (at_ n.arcs ((k : Nat) : Int)).frm, 0, 0⟩] : List Half) : List Half) (k + 1 : Nat)) from ⟨(by omega), (hO.step hok (by omega) _ _ _ _ (by omega) (by omega) rfl rfl)⟩) (show n.arcs.length - (k + 1 : Nat) < n.arcs.length - k from (by omega)) (Sub.cons rfl (Sub.cons rfl (Sub.cons rfl (Sub.cons lookO Sub.nil)))) (show Fit κ _ (vc 191 (.slice (ad46) (hs ++ ([⟨(at_ n.arcs ((k : Nat) : Int)).frm, (at_ n.arcs ((k : Nat) : Int)).dst, (at_ n.arcs ((k : Nat) : Int)).cap, (at_ n.arcs ((k : Nat) : Int)).cap⟩, ⟨(at_ n.arcs ((k : Nat) : Int)).dst, (at_ n.arcs ((k : Nat) : Int)).frm, 0, 0⟩] : List Half)).length (cp47)) ((hs ++ ([⟨(at_ n.arcs ((k : Nat) : Int)).frm, (at_ n.arcs ((k : Nat) : Int)).dst, (at_ n.arcs ((k : Nat) : Int)).cap, (at_ n.arcs ((k : Nat) : Int)).cap⟩, ⟨(at_ n.arcs ((k : Nat) : Int)).dst, (at_ n.arcs ((k : Nat) : Int)).frm, 0, 0⟩] : List Half))) :: blk b [.slice (ad46) (hs ++ ([⟨(at_ n.arcs ((k : Nat) : Int)).frm, (at_ n.arcs ((k : Nat) : Int)).dst, (at_ n.arcs ((k : Nat) : Int)).cap, (at_ n.arcs ((k : Nat) : Int)).cap⟩, ⟨(at_ n.arcs ((k : Nat) : Int)).dst, (at_ n.arcs ((k : Nat) : Int)).frm, 0, 0⟩] : List Half)).length (cp47), .slice ao (List.replicate n.nodes.toNat (default : Row)).length co, .slice al (List.replicate n.nodes.toNat (default : Int)).length cl, .slice an (List.replicate n.nodes.toNat (default : Int)).length cn, I64 (n.sink)] 194 :: vc 22 (.slice ao (List.replicate n.nodes.toNat (default : Row)).length co) ((List.set (List.set rs ((at_ n.arcs ((k : Nat) : Int)).frm).toNat (⟨ad40, cp41, ((at_ rs ((at_ n.arcs ((k : Nat) : Int)).frm)).xs ++ ([((hs.length : Nat) : Int)] : List Int))⟩ : Row)) ((at_ n.arcs ((k : Nat) : Int)).dst).toNat (⟨ad43, cp44, ((at_ (List.set rs ((at_ n.arcs ((k : Nat) : Int)).frm).toNat (⟨ad40, cp41, ((at_ rs ((at_ n.arcs ((k : Nat) : Int)).frm)).xs ++ ([((hs.length : Nat) : Int)] : List Int))⟩ : Row)) ((at_ n.arcs ((k : Nat) : Int)).dst)).xs ++ ([((hs.length : Nat) : Int) + 1] : List Int))⟩ : Row))) :: vc 3 (.slice al (List.replicate n.nodes.toNat (default : Int)).length cl) (List.replicate n.nodes.toNat (default : Int)) :: vc 3 (.slice an (List.replicate n.nodes.toNat (default : Int)).length cn) (List.replicate n.nodes.toNat (default : Int)) :: blk b1 [I64 (n.nodes), I64 (n.source), I64 (n.sink), v] 124 :: (rowsI (List.set (List.set rs ((at_ n.arcs ((k : Nat) : Int)).frm).toNat (⟨ad40, cp41, ((at_ rs ((at_ n.arcs ((k : Nat) : Int)).frm)).xs ++ ([((hs.length : Nat) : Int)] : List Int))⟩ : Row)) ((at_ n.arcs ((k : Nat) : Int)).dst).toNat (⟨ad43, cp44, ((at_ (List.set rs ((at_ n.arcs ((k : Nat) : Int)).frm).toNat (⟨ad40, cp41, ((at_ rs ((at_ n.arcs ((k : Nat) : Int)).frm)).xs ++ ([((hs.length : Nat) : Int)] : List Int))⟩ : Row)) ((at_ n.arcs ((k : Nat) : Int)).dst)).xs ++ ([((hs.length : Nat) : Int) + 1] : List Int))⟩ : Row)) ++ I)) from Fit.sub)
  ·refine W.exit ?_
   refine V.then_exit ?_
   refine V.then_exit ?_
   refine V.block_hit ?_
   refine V.then ?_
   refine W.sr ?_
   refine G.r (Runs.move rfl) ?_
   refine G.r (Runs.assign rfl) ?_
   refine G.nt ?_
   refine W.ret ?_
   have hdn := hO.done hok (by omega)
   exact V.ret1 rfl rfl (blk b [.slice ah hs.length ch, .slice ao (List.replicate n.nodes.toNat (default : Row)).length co, .slice al (List.replicate n.nodes.toNat (default : Int)).length cl, .slice an (List.replicate n.nodes.toNat (default : Int)).length cn, I64 (n.sink)] 194 :: vc 191 (.slice ah hs.length ch) (hs) :: vc 3 (.slice al (List.replicate n.nodes.toNat (default : Int)).length cl) (List.replicate n.nodes.toNat (default : Int)) :: vc 3 (.slice an (List.replicate n.nodes.toNat (default : Int)).length cn) (List.replicate n.nodes.toNat (default : Int)) :: vc 22 (.slice ao (List.replicate n.nodes.toNat (default : Row)).length co) (rs) :: (rowsI rs ++ I)) Fit.s ⟨_, _, _, _, _, hs, rs, (List.replicate n.nodes.toNat (default : Int)), (List.replicate n.nodes.toNat (default : Int)), rfl, ⟨hdn.1, hdn.2, by rw [List.length_replicate]; omega, by rw [List.length_replicate]; omega⟩, rfl⟩

end Go.Sl
namespace Go.Sl
open Go.Proofs
set_option linter.unusedVariables false
set_option linter.unusedSimpArgs false
set_option maxRecDepth 4000
theorem Solved_ok {κ : Ctx} {I : List Item} {n : Net} {v : Value} (hl : Sl κ I v n.arcs) (hok : n.Ok) :
    CallS Tryd.prog κ 152 [.agg #[I64 (n.nodes), I64 (n.source), I64 (n.sink), v]] I (fun r J => ∃ (b : Nat) (hw ow lw nw : Value) (f : List Int) (hs : List Half) (rs : List Row) (L nx : List Int) (val : Int), r = .tuple #[.pointer (some ⟨b, 0, none⟩), I64 val] ∧ (Full n f val ∧ HOk n f hs ∧ ROk n (rowsL rs)) ∧ J = blk b [hw, ow, lw, nw, I64 (n.sink)] 194 :: vc 191 (hw) (hs) :: vc 3 (lw) (L) :: vc 3 (nw) (nx) :: (vc 22 ow rs :: (rowsI rs ++ I))) := by
 refine CallS.enter (L := [(0, .agg #[I64 (n.nodes), I64 (n.source), I64 (n.sink), v])]) Tryd.func152 rfl rfl rfl rfl ?_
 refine W.sr ?_
 refine G.e (Eff.box (cs := [_, _, _, _]) rfl rfl rfl) ?_
 rintro _ _ ⟨b1, rfl, rfl⟩
 refine G.r (Runs.assign rfl) ?_
 refine G.r (Runs.assign rfl) ?_
 refine G.nt ?_
 refine W.sr ?_
 refine G.r (Runs.lds (vs := [_, _, _, _]) ty124) ?_
 refine G.e (Eff.call call186 rfl rfl (Open_ok (n := n) (Sl.f hl) hok)) ?_
 rintro _ _ ⟨_, _, ⟨b, hw, ow, lw, nw, hs, rs, L, nx, rfl, ⟨hh, hr, hL, hN⟩, rfl⟩, rfl, rfl⟩
 refine G.fit (J := blk b [hw, ow, lw, nw, I64 (n.sink)] 194 :: vc 191 (hw) (hs) :: vc 3 (lw) (L) :: vc 3 (nw) (nx) :: vc 22 (ow) (rs) :: blk b1 [I64 (n.nodes), I64 (n.source), I64 (n.sink), v] 124 :: (rowsI rs ++ I)) Fit.s ?_
 refine G.r (Runs.assign rfl) ?_
 refine G.nt ?_
 refine W.sr ?_
 refine G.r (Runs.move rfl) ?_
 refine G.r (Runs.move rfl) ?_
 refine G.r (Runs.fieldAddr fld124_1 rfl) ?_
 refine G.r (Runs.ld ty3) ?_
 refine G.e (Eff.call call187 rfl rfl (Greatest_ok (n := n) hok hh hr Sl.o (fun i h0 h => Sl.fit (rowsI_sl i h0 h) Fit.m) hL hN (flow_zero n hok).1 (flow_zero n hok).2)) ?_
 rintro _ _ ⟨_, _, ⟨val, f, hs2, L2, nx2, rfl, ⟨hfull, hh2⟩, rfl⟩, rfl, rfl⟩
 show G Tryd.prog κ _ _ _ _ ([(11, I64 (val)), (10, I64 (n.source)), (9, .pointer (some ⟨b1, 1, none⟩)), (8, .pointer (some ⟨b, 0, none⟩)), (7, .pointer (some ⟨b, 0, none⟩)), (4, .pointer (some ⟨b, 0, none⟩)), (6, .pointer (some ⟨b, 0, none⟩)), (5, .agg #[I64 (n.nodes), I64 (n.source), I64 (n.sink), v]), (3, I64 (0)), (2, .pointer none), (1, .pointer (some ⟨b1, 0, none⟩)), (0, .agg #[I64 (n.nodes), I64 (n.source), I64 (n.sink), v])] : Env) (blk b [hw, ow, lw, nw, I64 (n.sink)] 194 :: vc 191 (hw) (hs2) :: vc 3 (lw) (L2) :: vc 3 (nw) (nx2) :: vc 22 (ow) (rs) :: blk b1 [I64 (n.nodes), I64 (n.source), I64 (n.sink), v] 124 :: (rowsI rs ++ I))
 refine G.r (Runs.assign rfl) ?_
 refine G.r (Runs.assign rfl) ?_
 refine G.nt ?_
 refine W.sub (L' := [(3, _), (2, _)]) (Sub.cons rfl (Sub.cons rfl Sub.nil)) ?_
 refine W.ret ?_
 exact V.ret2 rfl rfl rfl (blk b [hw, ow, lw, nw, I64 (n.sink)] 194 :: vc 191 (hw) (hs2) :: vc 3 (lw) (L2) :: vc 3 (nw) (nx2) :: vc 22 (ow) (rs) :: (rowsI rs ++ I)) Fit.s ⟨b, hw, ow, lw, nw, f, hs2, rs, L2, nx2, val, rfl, ⟨hfull, hh2, hr⟩, rfl⟩

theorem FMax_ok {κ : Ctx} {I : List Item} {n : Net} {v : Value} (hl : Sl κ I v n.arcs) (hok : n.Ok) :
    CallS Tryd.prog κ 126 [.agg #[I64 (n.nodes), I64 (n.source), I64 (n.sink), v]] I (fun r J => ∃ a c f a' c' side val, r = .tuple #[.agg #[.slice a f.length c, I64 val, .slice a' side.length c'], I64 0] ∧ MaxF n f side val ∧ J = vc 3 (.slice a' side.length c') side :: vc 3 (.slice a f.length c) f :: I) := by
 have hlim := hok.lim
 have hsnk := hok.snk
 have hsrc := hok.src
 refine CallS.enter (L := [(0, .agg #[I64 (n.nodes), I64 (n.source), I64 (n.sink), v])]) Tryd.func126 rfl rfl rfl rfl ?_
 refine W.sr ?_
 refine G.e (Eff.box (cs := [_, _, _, _]) rfl rfl rfl) ?_
 rintro _ _ ⟨b1, rfl, rfl⟩
 refine G.e (Eff.alloc ty119 rfl) ?_
 rintro _ _ ⟨b2, rfl, rfl⟩
 refine G.r (Runs.assign rfl) ?_
 refine G.nt ?_
 refine W.seq ?_
 refine W.sr ?_
 refine G.r (Runs.lds (vs := [_, _, _, _]) ty124) ?_
 refine G.e (Eff.call call151 rfl rfl (FCheck_ok (n := n) (Sl.f hl))) ?_
 rintro _ _ ⟨_, _, ⟨rfl, rfl⟩, rfl, rfl⟩
 refine G.r (Runs.assign rfl) ?_
 refine G.nt ?_
 refine W.sr ?_
 refine G.r (Runs.move rfl) ?_
 refine G.r (Runs.neq rfl rfl) ?_
 refine G.nt ?_
 refine W.ite rfl (fun c15 => ?_) (fun c15 => ?_)
 ·exact absurd (checkN_ok.2 hok) c15
 ·refine W.skip ?_
  refine V.then ?_
  refine W.sr ?_
  refine G.r (Runs.lds (vs := [_, _, _, _]) ty124) ?_
  refine G.e (Eff.call call152 rfl rfl (Solved_ok (n := n) (Sl.f hl) hok)) ?_
  rintro _ _ ⟨_, _, ⟨b, hw, ow, lw, nw, f, hs, rs, L, nx, val, rfl, ⟨hfull, hh, hr⟩, rfl⟩, rfl, rfl⟩
  refine G.fit (J := blk b [hw, ow, lw, nw, I64 (n.sink)] 194 :: vc 191 (hw) (hs) :: vc 3 (lw) (L) :: vc 3 (nw) (nx) :: vc 22 (ow) (rs) :: blk b2 [.slice none 0 0, I64 (0), .slice none 0 0] 119 :: blk b1 [I64 (n.nodes), I64 (n.source), I64 (n.sink), v] 124 :: (rowsI rs ++ I)) Fit.s ?_
  have hff := hfull.flow.len
  have hhl := hh.len
  refine G.r (Runs.move rfl) ?_
  refine G.r (Runs.extract rfl rfl) ?_
  refine G.r (Runs.extract rfl rfl) ?_
  refine G.r (Runs.assign rfl) ?_
  refine G.r (Runs.assign rfl) ?_
  refine G.nt ?_
  refine W.sub (L' := [(6, _), (5, _), (2, _), (1, _)]) (Sub.cons rfl (Sub.cons rfl (Sub.cons rfl (Sub.cons rfl Sub.nil)))) ?_
  refine W.sr ?_
  refine G.r (Runs.move rfl) ?_
  refine G.r (Runs.build (cells := [_, _, _]) ty119 Tryd.underlying119 pl119 rfl rfl) ?_
  refine G.e (Eff.alloc ty119 rfl) ?_
  rintro _ _ ⟨b3, rfl, rfl⟩
  refine G.e (Eff.st (cs := [_, _, _]) (vs := [_, _, _]) (cs' := [_, _, _]) ty119) ?_
  rintro _ _ ⟨rfl, rfl⟩
  refine G.nt ?_
  refine W.seq ?_
  refine W.sr ?_
  refine G.r (Runs.fieldAddr fld124_3 rfl) ?_
  refine G.r (Runs.ld ty122) ?_
  refine G.r (Runs.lenT (α := Arc) (xs := n.arcs) Tryd.underlying122 rfl (Sl.f hl)) ?_
  refine G.r (Runs.move rfl) ?_
  refine G.nt ?_
  refine W.block ?_
  refine W.loop (σ := Nat × (Option Addr) × Nat × (List Int)) (fun s => ([(1, .pointer (some ⟨b1, 0, none⟩)), (2, .pointer (some ⟨b2, 0, none⟩)), (5, .pointer (some ⟨b, 0, none⟩)), (7, .pointer (some ⟨b3, 0, none⟩)), (26, v), (27, I64 (((n.arcs.length : Nat) : Int))), (28, I64 (((s.1 : Nat) : Int)))] : Env)) (fun s => vc 3 (.slice s.2.1 s.2.2.2.length s.2.2.1) (s.2.2.2) :: blk b3 [.slice s.2.1 s.2.2.2.length s.2.2.1, I64 (val), .slice none 0 0] 119 :: blk b [hw, ow, lw, nw, I64 (n.sink)] 194 :: vc 191 (hw) (hs) :: vc 3 (lw) (L) :: vc 3 (nw) (nx) :: vc 22 (ow) (rs) :: blk b2 [.slice none 0 0, I64 (0), .slice none 0 0] 119 :: blk b1 [I64 (n.nodes), I64 (n.source), I64 (n.sink), v] 124 :: (rowsI rs ++ I)) (fun s => (s.1 ≤ n.arcs.length) ∧ (s.2.2.2 = f.take s.1)) (fun s => n.arcs.length - s.1) (0, none, 0, []) (show ((0 : Nat) ≤ n.arcs.length) ∧ (([] : List Int) = f.take (0 : Nat)) from ⟨(by omega), rfl⟩) (Sub.cons rfl (Sub.cons rfl (Sub.cons rfl (Sub.cons rfl (Sub.cons rfl (Sub.cons rfl (Sub.cons lookO Sub.nil))))))) (show Fit κ _ (vc 3 (.slice (none) ([]).length (0)) (([])) :: blk b3 [.slice (none) ([]).length (0), I64 (val), .slice none 0 0] 119 :: blk b [hw, ow, lw, nw, I64 (n.sink)] 194 :: vc 191 (hw) (hs) :: vc 3 (lw) (L) :: vc 3 (nw) (nx) :: vc 22 (ow) (rs) :: blk b2 [.slice none 0 0, I64 (0), .slice none 0 0] 119 :: blk b1 [I64 (n.nodes), I64 (n.source), I64 (n.sink), v] 124 :: (rowsI rs ++ I)) from (Fit.nilvc _ _)) ?_
  rintro ⟨k, a, c, fl⟩ hp
  obtain ⟨hk, hfl⟩ : (k ≤ n.arcs.length) ∧ (fl = f.take k) := hp
  show W Tryd.prog κ 70 _ _ ([(1, .pointer (some ⟨b1, 0, none⟩)), (2, .pointer (some ⟨b2, 0, none⟩)), (5, .pointer (some ⟨b, 0, none⟩)), (7, .pointer (some ⟨b3, 0, none⟩)), (26, v), (27, I64 (((n.arcs.length : Nat) : Int))), (28, I64 (((k : Nat) : Int)))] : Env) (vc 3 (.slice a fl.length c) (fl) :: blk b3 [.slice a fl.length c, I64 (val), .slice none 0 0] 119 :: blk b [hw, ow, lw, nw, I64 (n.sink)] 194 :: vc 191 (hw) (hs) :: vc 3 (lw) (L) :: vc 3 (nw) (nx) :: vc 22 (ow) (rs) :: blk b2 [.slice none 0 0, I64 (0), .slice none 0 0] 119 :: blk b1 [I64 (n.nodes), I64 (n.source), I64 (n.sink), v] 124 :: (rowsI rs ++ I))
  have hfll : fl.length = k := by rw [hfl, List.length_take]; omega
  refine W.sr ?_
  refine G.r (Runs.lss rfl rfl) ?_
  refine G.nt ?_
  refine W.seq ?_
  refine W.ite rfl (fun c29 => ?_) (fun c29 => ?_)
  ·refine W.skip ?_
   refine V.then ?_
   refine W.seq ?_
   refine W.block ?_
   refine W.sr ?_
   refine G.r (Runs.move rfl) ?_
   refine G.r (Runs.idx (α := Arc) (xs := n.arcs) Tryd.underlying122 ty161 rfl rfl (Sl.f hl) (by omega) (by omega)) ?_
   have hgt := hh.get (2 * ((k : Nat) : Int)) ⟨by omega, by omega⟩
   have hcap := hfull.flow.cap k (by omega)
   have hac := arc_at hok (k := k) (by omega)
   have hlv : leftH n f (2 * ((k : Nat) : Int)) = (at_ n.arcs ((k : Nat) : Int)).cap - at_ f ((k : Nat) : Int) := by unfold leftH; rw [if_pos (by omega), show (2 * ((k : Nat) : Int)) / 2 = ((k : Nat) : Int) from by omega]
   have hleft : (at_ n.arcs ((k : Nat) : Int)).cap - (at_ hs (2 * ((k : Nat) : Int))).left = at_ f ((k : Nat) : Int) := by omega
   refine G.r (Runs.gets (α := Arc) (xs := n.arcs) ty161 rfl (Sl.f hl) (by omega) (by omega)) ?_
   refine G.e (Eff.alloc ty161 rfl) ?_
   rintro _ _ ⟨b4, rfl, rfl⟩
   refine G.r (Runs.assign rfl) ?_
   refine G.e (Eff.st (cs := [_, _, _]) (vs := [_, _, _]) (cs' := [_, _, _]) ty161) ?_
   rintro _ _ ⟨rfl, rfl⟩
   refine G.nt ?_
   refine W.drawn mixed ?_
   refine A.hold (blk b4 [I64 ((at_ n.arcs ((k : Nat) : Int)).frm), I64 ((at_ n.arcs ((k : Nat) : Int)).dst), I64 ((at_ n.arcs ((k : Nat) : Int)).cap)] 161 :: blk b3 [.slice a fl.length c, I64 (val), .slice none 0 0] 119 :: blk b [hw, ow, lw, nw, I64 (n.sink)] 194 :: vc 191 (hw) (hs) :: vc 3 (lw) (L) :: vc 3 (nw) (nx) :: vc 22 (ow) (rs) :: blk b2 [.slice none 0 0, I64 (0), .slice none 0 0] 119 :: blk b1 [I64 (n.nodes), I64 (n.source), I64 (n.sink), v] 124 :: (rowsI rs ++ I)) 17 ?_
   refine D.r 0 rfl (Runs.fieldAddr fld119_0 rfl) ?_ (hJ := Fit.sub)
   refine D.r 1 rfl (Runs.ld ty22) ?_ (hJ := Fit.sub)
   refine D.r 2 rfl (Runs.fieldAddr fld161_2 rfl) ?_ (hJ := Fit.sub)
   refine D.r 3 rfl (Runs.ld ty3) ?_ (hJ := Fit.sub)
   refine D.r 4 rfl (Runs.move rfl) ?_ (hJ := Fit.sub)
   refine D.r 5 rfl (Runs.nilCheck rfl) ?_ (hJ := Fit.sub)
   refine D.r 6 rfl (Runs.fieldAddr fld194_0 rfl) ?_ (hJ := Fit.sub)
   refine D.r 7 rfl (Runs.ld ty192) ?_ (hJ := Fit.sub)
   refine D.r 8 rfl (Runs.move rfl) ?_ (hJ := Fit.sub)
   refine D.r 9 rfl (Runs.mul rfl rfl (by unfold InR; omega)) ?_ (hJ := Fit.sub)
   refine D.r 10 rfl (Runs.idx (α := Half) (xs := hs) Tryd.underlying192 ty191 rfl rfl Sl.o (by omega) (by omega)) ?_ (hJ := Fit.sub)
   refine D.r 11 rfl (Runs.fld (α := Half) (xs := hs) fld191_1 rfl Sl.o (by omega)) ?_ (hJ := Fit.sub)
   refine D.r 12 rfl (Runs.getf (α := Half) (xs := hs) (u := I64 ((at_ hs (2 * ((k : Nat) : Int))).left)) ty3 rfl Sl.o (by omega) (by omega) rfl) ?_ (hJ := Fit.sub)
   refine D.r 13 rfl (Runs.sub rfl rfl (by unfold InR; omega)) ?_ (hJ := Fit.sub)
   refine D.step (rs := [14]) (by kernel_rfl) rfl rfl (all1 ?_)
   refine Step.eff rfl (Wanted.plain rfl) (Eff.bs (α := Int) (cs := [_]) (xs := [((at_ n.arcs ((k : Nat) : Int)).cap) - ((at_ hs (2 * ((k : Nat) : Int))).left)]) Tryd.underlying22 ty3 rfl rfl (by decide) (by decide) rfl rfl rfl rfl) ?_
   rintro _ _ ⟨ad5, rfl, rfl⟩
   refine ⟨Fit.sub, ?_⟩
   refine D.step (rs := [15]) (by kernel_rfl) rfl rfl (all1 ?_)
   refine Step.eff rfl (Wanted.plain rfl) (Eff.app (α := Int) (e := 3) (xs := fl) (ys := ([((at_ n.arcs ((k : Nat) : Int)).cap) - ((at_ hs (2 * ((k : Nat) : Int))).left)] : List Int)) Tryd.underlying22 ty3 rfl rfl rfl (by repeat (first | exact List.mem_cons_self | apply List.mem_cons_of_mem)) Sl.o (by simp only [List.length_cons, List.length_nil]; omega) (by decide) rfl (fun _ _ => (by repeat (first | exact At.head _ _ _ | apply At.tail)))) ?_
   rintro _ _ ⟨ad6, cp7, rfl, rfl⟩
   refine ⟨Fit.sub, ?_⟩
   refine D.r 16 rfl (Runs.fieldAddr fld119_0 rfl) ?_ (hJ := Fit.sub)
   refine D.stop (by kernel_rfl) ?_
   refine A.eff (i := 17) (by kernel_rfl) rfl (Wanted.plain rfl) (Eff.st (cs := [_, _, _]) (vs := [_]) (cs' := [_, _, _]) ty22) ?_
   rintro _ _ ⟨rfl, rfl⟩
   refine A.done (by kernel_rfl) ?_
   refine V.block_normal ?_
   refine V.then ?_
   refine W.sub (L' := [(1, _), (2, _), (5, _), (7, _), (26, _), (27, _), (28, _)]) (Sub.cons rfl (Sub.cons rfl (Sub.cons rfl (Sub.cons rfl (Sub.cons rfl (Sub.cons rfl (Sub.cons rfl Sub.nil))))))) ?_
   refine W.region ?_
   refine G.r (Runs.add rfl rfl (by unfold InR; omega)) ?_
   refine G.r (Runs.move rfl) ?_
   refine G.nil ?_
   exact V.next ((k + 1), (ad6), (cp7), (fl ++ ([((at_ n.arcs ((k : Nat) : Int)).cap) - ((at_ hs (2 * ((k : Nat) : Int))).left)] : List Int))) (show ((k + 1 : Nat) ≤ n.arcs.length) ∧ ((fl ++ ([((at_ n.arcs ((k : Nat) : Int)).cap) - ((at_ hs (2 * ((k : Nat) : Int))).left)] : List Int) : List Int) = f.take (k + 1 : Nat)) from ⟨(by omega), (by rw [hfl, take_at f k (by omega)]; congr 1; rw [hleft])⟩) (show n.arcs.length - (k + 1 : Nat) < n.arcs.length - k from (by omega)) (Sub.cons rfl (Sub.cons rfl (Sub.cons rfl (Sub.cons rfl (Sub.cons rfl (Sub.cons rfl (Sub.cons lookO Sub.nil))))))) (show Fit κ _ (vc 3 (.slice (ad6) (fl ++ ([((at_ n.arcs ((k : Nat) : Int)).cap) - ((at_ hs (2 * ((k : Nat) : Int))).left)] : List Int)).length (cp7)) ((fl ++ ([((at_ n.arcs ((k : Nat) : Int)).cap) - ((at_ hs (2 * ((k : Nat) : Int))).left)] : List Int))) :: blk b3 [.slice (ad6) (fl ++ ([((at_ n.arcs ((k : Nat) : Int)).cap) - ((at_ hs (2 * ((k : Nat) : Int))).left)] : List Int)).length (cp7), I64 (val), .slice none 0 0] 119 :: blk b [hw, ow, lw, nw, I64 (n.sink)] 194 :: vc 191 (hw) (hs) :: vc 3 (lw) (L) :: vc 3 (nw) (nx) :: vc 22 (ow) (rs) :: blk b2 [.slice none 0 0, I64 (0), .slice none 0 0] 119 :: blk b1 [I64 (n.nodes), I64 (n.source), I64 (n.sink), v] 124 :: (rowsI rs ++ I)) from Fit.sub)
  ·refine W.exit ?_
   refine V.then_exit ?_
   refine V.then_exit ?_
   refine V.block_hit ?_
   refine V.then ?_
   refine W.seq ?_
   refine W.sr ?_
   refine G.r (Runs.move rfl) ?_
   have hkm : k = n.arcs.length := by omega
   have hfe : fl = f := by rw [hfl, hkm, ← hff, List.take_length]
   refine G.r (Runs.fieldAddr fld124_1 rfl) ?_
   refine G.r (Runs.ld ty3) ?_
   refine G.e (Eff.call call153 rfl rfl (CallS.fit (J := blk b [hw, ow, lw, nw, I64 (n.sink)] 194 :: vc 3 (.slice a fl.length c) (fl) :: blk b3 [.slice a fl.length c, I64 (val), .slice none 0 0] 119 :: vc 191 (hw) (hs) :: vc 3 (lw) (L) :: vc 3 (nw) (nx) :: vc 22 (ow) (rs) :: blk b2 [.slice none 0 0, I64 (0), .slice none 0 0] 119 :: blk b1 [I64 (n.nodes), I64 (n.source), I64 (n.sink), v] 124 :: (rowsI rs ++ I)) Fit.s (Reached_ok (n := n) (rs := rs) (hs := hs) hok hh Sl.o hr Sl.o (fun i h0 h => Sl.fit (rowsI_sl i h0 h) Fit.m) (by omega)))) ?_
   rintro _ _ ⟨_, _, ⟨ad8, cp9, seen10, rfl, hseen10, rfl⟩, rfl, rfl⟩
   show G Tryd.prog κ _ _ _ _ ([(54, .slice ad8 seen10.length cp9), (53, I64 (n.source)), (52, .pointer (some ⟨b1, 1, none⟩)), (51, .pointer (some ⟨b, 0, none⟩)), (29, .bool (decide (((k : Nat) : Int) < ((n.arcs.length : Nat) : Int)))), (1, .pointer (some ⟨b1, 0, none⟩)), (2, .pointer (some ⟨b2, 0, none⟩)), (5, .pointer (some ⟨b, 0, none⟩)), (7, .pointer (some ⟨b3, 0, none⟩)), (26, v), (27, I64 (((n.arcs.length : Nat) : Int))), (28, I64 (((k : Nat) : Int)))] : Env) (vc 4 (.slice ad8 seen10.length cp9) (seen10) :: blk b [hw, ow, lw, nw, I64 (n.sink)] 194 :: vc 3 (.slice a fl.length c) (fl) :: blk b3 [.slice a fl.length c, I64 (val), .slice none 0 0] 119 :: vc 191 (hw) (hs) :: vc 3 (lw) (L) :: vc 3 (nw) (nx) :: vc 22 (ow) (rs) :: blk b2 [.slice none 0 0, I64 (0), .slice none 0 0] 119 :: blk b1 [I64 (n.nodes), I64 (n.source), I64 (n.sink), v] 124 :: (rowsI rs ++ I))
   have hlenseen10 := hseen10.len
   refine G.r (Runs.lens Tryd.underlying195 rfl) ?_
   refine G.r (Runs.move rfl) ?_
   refine G.nt ?_
   refine W.sub (L' := [(56, _), (55, _), (54, _), (2, _), (7, _)]) (Sub.cons rfl (Sub.cons rfl (Sub.cons rfl (Sub.cons rfl (Sub.cons rfl Sub.nil))))) ?_
   refine W.block ?_
   refine W.loop (σ := Nat × (Option Addr) × Nat × (List Int)) (fun s => ([(2, .pointer (some ⟨b2, 0, none⟩)), (7, .pointer (some ⟨b3, 0, none⟩)), (54, .slice ad8 seen10.length cp9), (55, I64 (((seen10.length : Nat) : Int))), (56, I64 (((s.1 : Nat) : Int)))] : Env)) (fun s => vc 3 (.slice s.2.1 s.2.2.2.length s.2.2.1) (s.2.2.2) :: vc 4 (.slice ad8 seen10.length cp9) (seen10) :: blk b [hw, ow, lw, nw, I64 (n.sink)] 194 :: vc 3 (.slice a fl.length c) (fl) :: blk b3 [.slice a fl.length c, I64 (val), .slice s.2.1 s.2.2.2.length s.2.2.1] 119 :: vc 191 (hw) (hs) :: vc 3 (lw) (L) :: vc 3 (nw) (nx) :: vc 22 (ow) (rs) :: blk b2 [.slice none 0 0, I64 (0), .slice none 0 0] 119 :: blk b1 [I64 (n.nodes), I64 (n.source), I64 (n.sink), v] 124 :: (rowsI rs ++ I)) (fun s => (s.1 ≤ seen10.length) ∧ (s.2.2.2 = sideL s.1 (fun z => decide (0 ≤ z ∧ z < n.nodes) && at_ seen10 z))) (fun s => seen10.length - s.1) (0, none, 0, []) (show ((0 : Nat) ≤ seen10.length) ∧ (([] : List Int) = sideL (0 : Nat) (fun z => decide (0 ≤ z ∧ z < n.nodes) && at_ seen10 z)) from ⟨(by omega), rfl⟩) (Sub.cons rfl (Sub.cons rfl (Sub.cons rfl (Sub.cons rfl (Sub.cons lookO Sub.nil))))) (show Fit κ _ (vc 3 (.slice (none) ([]).length (0)) (([])) :: vc 4 (.slice ad8 seen10.length cp9) (seen10) :: blk b [hw, ow, lw, nw, I64 (n.sink)] 194 :: vc 3 (.slice a fl.length c) (fl) :: blk b3 [.slice a fl.length c, I64 (val), .slice (none) ([]).length (0)] 119 :: vc 191 (hw) (hs) :: vc 3 (lw) (L) :: vc 3 (nw) (nx) :: vc 22 (ow) (rs) :: blk b2 [.slice none 0 0, I64 (0), .slice none 0 0] 119 :: blk b1 [I64 (n.nodes), I64 (n.source), I64 (n.sink), v] 124 :: (rowsI rs ++ I)) from (Fit.nilvc _ _)) ?_
   rintro ⟨k, a2, c2, side⟩ hp
   obtain ⟨hk2, hsd⟩ : (k ≤ seen10.length) ∧ (side = sideL k (fun z => decide (0 ≤ z ∧ z < n.nodes) && at_ seen10 z)) := hp
   show W Tryd.prog κ 70 _ _ ([(2, .pointer (some ⟨b2, 0, none⟩)), (7, .pointer (some ⟨b3, 0, none⟩)), (54, .slice ad8 seen10.length cp9), (55, I64 (((seen10.length : Nat) : Int))), (56, I64 (((k : Nat) : Int)))] : Env) (vc 3 (.slice a2 side.length c2) (side) :: vc 4 (.slice ad8 seen10.length cp9) (seen10) :: blk b [hw, ow, lw, nw, I64 (n.sink)] 194 :: vc 3 (.slice a fl.length c) (fl) :: blk b3 [.slice a fl.length c, I64 (val), .slice a2 side.length c2] 119 :: vc 191 (hw) (hs) :: vc 3 (lw) (L) :: vc 3 (nw) (nx) :: vc 22 (ow) (rs) :: blk b2 [.slice none 0 0, I64 (0), .slice none 0 0] 119 :: blk b1 [I64 (n.nodes), I64 (n.source), I64 (n.sink), v] 124 :: (rowsI rs ++ I))
   have hsl : side.length ≤ k := by rw [hsd]; exact sideL_len _ _
   have hkr : 0 ≤ ((k : Nat) : Int) ∧ ((k : Nat) : Int) ≤ n.nodes := by omega
   refine W.sr ?_
   refine G.r (Runs.lss rfl rfl) ?_
   refine G.nt ?_
   refine W.seq ?_
   refine W.ite rfl (fun c57 => ?_) (fun c57 => ?_)
   ·refine W.skip ?_
    refine V.then ?_
    refine W.seq ?_
    refine W.block ?_
    refine W.sr ?_
    refine G.r (Runs.move rfl) ?_
    refine G.r (Runs.idx (α := Bool) (xs := seen10) Tryd.underlying195 ty4 rfl rfl Sl.o (by omega) (by omega)) ?_
    refine G.r (Runs.getB (xs := seen10) ty4 rfl Sl.o (by omega) (by omega)) ?_
    refine G.r (Runs.assign rfl) ?_
    refine G.r (Runs.assign rfl) ?_
    refine G.nt ?_
    refine W.sr ?_
    refine G.r (Runs.move rfl) ?_
    refine G.nt ?_
    refine W.cond rfl (fun c61 => ?_) (fun c61 => ?_)
    ·refine W.region ?_
     refine G.r (Runs.fieldAddr fld119_2 rfl) ?_
     refine G.r (Runs.ld ty22) ?_
     refine G.r (Runs.move rfl) ?_
     refine G.e (Eff.bs (α := Int) (cs := [_]) (xs := [((k : Nat) : Int)]) Tryd.underlying22 ty3 rfl rfl (by decide) (by decide) rfl rfl rfl rfl) ?_
     rintro _ _ ⟨ad11, rfl, rfl⟩
     refine G.e (Eff.app (α := Int) (e := 3) (xs := side) (ys := ([((k : Nat) : Int)] : List Int)) Tryd.underlying22 ty3 rfl rfl rfl (by repeat (first | exact List.mem_cons_self | apply List.mem_cons_of_mem)) Sl.o (by simp only [List.length_cons, List.length_nil]; omega) (by decide) rfl (fun _ _ => (by repeat (first | exact At.head _ _ _ | apply At.tail)))) ?_
     rintro _ _ ⟨ad12, cp13, rfl, rfl⟩
     refine G.r (Runs.fieldAddr fld119_2 rfl) ?_
     refine G.e (Eff.st (cs := [_, _, _]) (vs := [_]) (cs' := [_, _, _]) ty22) ?_
     rintro _ _ ⟨rfl, rfl⟩
     refine G.nil ?_
     refine V.block_normal ?_
     refine V.then ?_
     refine W.sub (L' := [(2, _), (7, _), (54, _), (55, _), (56, _)]) (Sub.cons rfl (Sub.cons rfl (Sub.cons rfl (Sub.cons rfl (Sub.cons rfl Sub.nil))))) ?_
     refine W.region ?_
     refine G.r (Runs.add rfl rfl (by unfold InR; omega)) ?_
     refine G.r (Runs.move rfl) ?_
     refine G.nil ?_
     exact V.next ((k + 1), (ad12), (cp13), (side ++ ([((k : Nat) : Int)] : List Int))) (show ((k + 1 : Nat) ≤ seen10.length) ∧ ((side ++ ([((k : Nat) : Int)] : List Int) : List Int) = sideL (k + 1 : Nat) (fun z => decide (0 ≤ z ∧ z < n.nodes) && at_ seen10 z)) from ⟨(by omega), (by first | (rw [hsd, sideL_yes]; rw [Bool.and_eq_true]; exact ⟨decide_eq_true (by omega), c61⟩) | (rw [hsd, sideL_no]; rw [Bool.and_eq_false_iff]; exact .inr c61))⟩) (show seen10.length - (k + 1 : Nat) < seen10.length - k from (by omega)) (Sub.cons rfl (Sub.cons rfl (Sub.cons rfl (Sub.cons rfl (Sub.cons lookO Sub.nil))))) (show Fit κ _ (vc 3 (.slice (ad12) (side ++ ([((k : Nat) : Int)] : List Int)).length (cp13)) ((side ++ ([((k : Nat) : Int)] : List Int))) :: vc 4 (.slice ad8 seen10.length cp9) (seen10) :: blk b [hw, ow, lw, nw, I64 (n.sink)] 194 :: vc 3 (.slice a fl.length c) (fl) :: blk b3 [.slice a fl.length c, I64 (val), .slice (ad12) (side ++ ([((k : Nat) : Int)] : List Int)).length (cp13)] 119 :: vc 191 (hw) (hs) :: vc 3 (lw) (L) :: vc 3 (nw) (nx) :: vc 22 (ow) (rs) :: blk b2 [.slice none 0 0, I64 (0), .slice none 0 0] 119 :: blk b1 [I64 (n.nodes), I64 (n.source), I64 (n.sink), v] 124 :: (rowsI rs ++ I)) from Fit.sub)
    ·refine W.skip ?_
     refine V.block_normal ?_
     refine V.then ?_
     refine W.region ?_
     refine G.r (Runs.add rfl rfl (by unfold InR; omega)) ?_
     refine G.r (Runs.move rfl) ?_
     refine G.nil ?_
     exact V.next ((k + 1), (a2), (c2), (side)) (show ((k + 1 : Nat) ≤ seen10.length) ∧ ((side : List Int) = sideL (k + 1 : Nat) (fun z => decide (0 ≤ z ∧ z < n.nodes) && at_ seen10 z)) from ⟨(by omega), (by first | (rw [hsd, sideL_yes]; rw [Bool.and_eq_true]; exact ⟨decide_eq_true (by omega), c61⟩) | (rw [hsd, sideL_no]; rw [Bool.and_eq_false_iff]; exact .inr c61))⟩) (show seen10.length - (k + 1 : Nat) < seen10.length - k from (by omega)) (Sub.cons rfl (Sub.cons rfl (Sub.cons rfl (Sub.cons rfl (Sub.cons lookO Sub.nil))))) (show Fit κ _ (vc 3 (.slice (a2) (side).length (c2)) ((side)) :: vc 4 (.slice ad8 seen10.length cp9) (seen10) :: blk b [hw, ow, lw, nw, I64 (n.sink)] 194 :: vc 3 (.slice a fl.length c) (fl) :: blk b3 [.slice a fl.length c, I64 (val), .slice (a2) (side).length (c2)] 119 :: vc 191 (hw) (hs) :: vc 3 (lw) (L) :: vc 3 (nw) (nx) :: vc 22 (ow) (rs) :: blk b2 [.slice none 0 0, I64 (0), .slice none 0 0] 119 :: blk b1 [I64 (n.nodes), I64 (n.source), I64 (n.sink), v] 124 :: (rowsI rs ++ I)) from Fit.sub)
   ·refine W.exit ?_
    refine V.then_exit ?_
    refine V.then_exit ?_
    refine V.block_hit ?_
    refine V.then ?_
    refine W.sr ?_
    refine G.r (Runs.lds (vs := [_, _, _]) ty119) ?_
    refine G.e (Eff.st (cs := [_, _, _]) (vs := [_, _, _]) (cs' := [_, _, _]) ty119) ?_
    rintro _ _ ⟨rfl, rfl⟩
    refine G.r (Runs.assign rfl) ?_
    refine G.nt ?_
    refine W.ret ?_
    have hkn : k = n.nodes.toNat := by omega
    rw [hkn] at hsd
    subst hfe
    exact V.retc1 rfl ty119 rfl rfl (by repeat (first | exact List.mem_cons_self | apply List.mem_cons_of_mem)) rfl (vc 3 (.slice a2 side.length c2) side :: vc 3 (.slice a fl.length c) fl :: I) Fit.s ⟨a, c, fl, a2, c2, side, val, rfl, ⟨hfull.flow, hfull.val, _, hseen10.least hok hfull, hsd⟩, rfl⟩

end Go.Sl
namespace Go.Sl
open Go.Proofs
set_option linter.unusedVariables false
set_option linter.unusedSimpArgs false
set_option maxRecDepth 4000
theorem MaxF.bd {n : Net} (hok : n.Ok) {f side : List Int} {val : Int} (h : MaxF n f side val) : 0 ≤ val ∧ val ≤ 18014398509481984 := by
  obtain ⟨R, hR, _⟩ := h.side
  have hz := flow_zero n hok
  have h1 := hR.max hok h.flow hz.1
  have h2 := value_le hok h.flow R hR.src hR.snk
  have h3 := (cut_nonneg_le hok R).2
  have := h.val
  omega
end Go.Sl
