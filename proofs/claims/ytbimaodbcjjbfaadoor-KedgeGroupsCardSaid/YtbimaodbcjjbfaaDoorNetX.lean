/- A part of the proofs of statements of this seat: contracts of functions, and the plain laws that they lean on. No conditions. -/
import Derived.Test.YtbimaodbcjjbfaaDoorTy
import Derived.Test.YtbimaodbcjjbfaaDoorNetW
namespace Go.Sl
open Go.Proofs
set_option linter.unusedVariables false
set_option linter.unusedSimpArgs false
set_option maxRecDepth 4000
instance : Enc Half := ⟨fun h => [I64 h.frm, I64 h.dst, I64 h.cap, I64 h.left], 4, by omega, fun _ => rfl, fun h u hu => by
  simp only [List.mem_cons, List.not_mem_nil, or_false] at hu
  rcases hu with rfl | rfl | rfl | rfl <;> rfl⟩
/-- A slice of numbers as an element, with what it holds. -/
structure Row where
  a : Option Addr
  c : Nat
  xs : List Int
deriving Inhabited
instance : Enc Row := ⟨fun r => [.slice r.a r.xs.length r.c], 1, by omega, fun _ => rfl, fun r u hu => by
  simp only [List.mem_cons, List.not_mem_nil, or_false] at hu
  subst hu; rfl⟩
def rowsL (rs : List Row) : List (List Int) := rs.map Row.xs
theorem rowsL_at (rs : List Row) (v : Int) : at_ (rowsL rs) v = (at_ rs v).xs := by
  unfold rowsL at_
  simp only [List.getD_eq_getElem?_getD, List.getElem?_map]
  cases rs[v.toNat]? <;> rfl
section
variable {n : Net} {f L todo : List Int} {rs : List Row} {x i v : Int} {q : Nat} {hs : List Half}
theorem ROk.rl (h : ROk n (rowsL rs)) : (rs.length : Int) = n.nodes := by have := h.len; unfold rowsL at this; rwa [List.length_map] at this
theorem ROk.row (h : ROk n (rowsL rs)) (h0 : 0 ≤ v) (h1 : v < n.nodes) {j : Int} (hj0 : 0 ≤ j) (hj : j < (at_ rs v).xs.length) : InH n (at_ (at_ rs v).xs j) ∧ fromH n (at_ (at_ rs v).xs j) = v := by
  have := h.all v h0 h1 (at_ (at_ rs v).xs j)
  rw [rowsL_at] at this
  exact this (at_mem hj0 hj)
theorem lay_step {L1 nx1 : List Int} {k : Nat} (h : ∀ j : Nat, j < k → at_ L1 (j : Int) = -1 ∧ at_ nx1 (j : Int) = 0) (hk : k < L1.length) (hk2 : k < nx1.length) :
    ∀ j : Nat, j < k + 1 → at_ (List.set L1 (((k : Nat) : Int)).toNat (-1)) (j : Int) = -1 ∧ at_ (List.set nx1 (((k : Nat) : Int)).toNat 0) (j : Int) = 0 := fun j hj => by
  rw [Int.toNat_natCast, at_setn L1 k j _ hk, at_setn nx1 k j _ hk2]
  by_cases e : k = j
  · rw [if_pos e, if_pos e]; exact ⟨rfl, rfl⟩
  · rw [if_neg e, if_neg e]; exact h j (by omega)
theorem LI.inc1 (h : LI n f (rowsL rs) L todo x q) (hd : 0 < leftH n f (at_ (at_ rs x).xs (q : Int)) → 0 ≤ at_ L (toH n (at_ (at_ rs x).xs (q : Int)))) : LI n f (rowsL rs) L todo x (q + 1) := h.inc (by rw [rowsL_at]; exact hd)
theorem LI.put1 (hok : n.Ok) (h : LI n f (rowsL rs) L todo x q) (hx : 0 ≤ x) (hi : InH n (at_ (at_ rs x).xs (q : Int)) ∧ fromH n (at_ (at_ rs x).xs (q : Int)) = x) (hl : 0 < leftH n f (at_ (at_ rs x).xs (q : Int))) (hn : at_ L (toH n (at_ (at_ rs x).xs (q : Int))) < 0) :
    LI n f (rowsL rs) (L.set (toH n (at_ (at_ rs x).xs (q : Int))).toNat (at_ L x + 1)) (todo ++ [toH n (at_ (at_ rs x).xs (q : Int))]) x (q + 1) ∧ un (L.set (toH n (at_ (at_ rs x).xs (q : Int))).toNat (at_ L x + 1)) + 1 = un L := by
  have h1 := h.put hok hx hi.1 hi.2 hl hn
  refine ⟨h1.1.inc1 fun _ => ?_, h1.2⟩
  have hfo := from_ok hok hi.1
  rw [at_set _ _ _ _ hfo.2.1.1 hfo.2.1.1 (by have := h.len; omega), if_pos rfl]
  have := (h.cur hx).2
  omega
theorem LI.over1 (h : LI n f (rowsL rs) L todo x q) (hq : (at_ rs x).xs.length ≤ q) : LI n f (rowsL rs) L todo (-1) 0 := h.over (by rw [rowsL_at]; exact hq)
end

theorem Layers_ok {κ : Ctx} {I : List Item} {n : Net} {f : List Int} {hs : List Half} {rs : List Row} {b : Nat} {hw ow lw nw : Value} {L nx : List Int} (hok : n.Ok) (hh : HOk n f hs) (hr : ROk n (rowsL rs)) (ho : Sl κ I ow rs) (hrow : ∀ i : Int, 0 ≤ i → i < rs.length → Sl κ I (.slice (at_ rs i).a (at_ rs i).xs.length (at_ rs i).c) (at_ rs i).xs) (hL : (L.length : Int) = n.nodes) (hN : (nx.length : Int) = n.nodes) :
    CallS Tryd.prog κ 212 [.pointer (some ⟨b, 0, none⟩), I64 (n.source)] (blk b [hw, ow, lw, nw, I64 (n.sink)] 194 :: vc 191 (hw) (hs) :: vc 3 (lw) (L) :: vc 3 (nw) (nx) :: I) (fun r J => ∃ L' nx' : List Int, r = .bool (decide (0 ≤ at_ L' n.sink)) ∧ (LvOk n f L' ∧ (nx'.length : Int) = n.nodes ∧ ∀ z : Int, 0 ≤ z → z < n.nodes → at_ nx' z = 0) ∧ J = blk b [hw, ow, lw, nw, I64 (n.sink)] 194 :: vc 191 (hw) (hs) :: vc 3 (lw) (L') :: vc 3 (nw) (nx') :: I) := by
 have hlim := hok.lim
 have hsrc := hok.src
 have hsnk := hok.snk
 have hhl := hh.len
 have hrl := hr.rl
 refine CallS.enter (L := [(0, .pointer (some ⟨b, 0, none⟩)), (1, I64 (n.source))]) Tryd.func212 rfl rfl rfl rfl ?_
 refine W.sr ?_
 refine G.r (Runs.assign rfl) ?_
 refine G.nt ?_
 refine W.seq ?_
 refine W.sr ?_
 refine G.r (Runs.move rfl) ?_
 refine G.r (Runs.nilCheck rfl) ?_
 refine G.r (Runs.fieldAddr fld194_2 rfl) ?_
 refine G.r (Runs.ld ty22) ?_
 refine G.r (Runs.lenT (α := Int) (xs := L) Tryd.underlying22 rfl Sl.o) ?_
 refine G.r (Runs.move rfl) ?_
 refine G.nt ?_
 refine W.block ?_
 refine W.loop (σ := Nat × (List Int) × (List Int)) (fun s => ([(0, .pointer (some ⟨b, 0, none⟩)), (1, I64 (n.source)), (14, I64 (((L.length : Nat) : Int))), (15, I64 (((s.1 : Nat) : Int)))] : Env)) (fun s => blk b [hw, ow, lw, nw, I64 (n.sink)] 194 :: vc 191 (hw) (hs) :: vc 3 (lw) (s.2.1) :: vc 3 (nw) (s.2.2) :: I) (fun s => (s.1 ≤ L.length) ∧ (s.2.1.length = L.length) ∧ (s.2.2.length = nx.length) ∧ (∀ j : Nat, j < s.1 → at_ s.2.1 (j : Int) = -1 ∧ at_ s.2.2 (j : Int) = 0)) (fun s => L.length - s.1) (0, L, nx) (show ((0 : Nat) ≤ L.length) ∧ ((L : List Int).length = L.length) ∧ ((nx : List Int).length = nx.length) ∧ (∀ j : Nat, j < (0 : Nat) → at_ (L : List Int) (j : Int) = -1 ∧ at_ (nx : List Int) (j : Int) = 0) from ⟨(by omega), rfl, rfl, all_zero⟩) (Sub.cons rfl (Sub.cons rfl (Sub.cons rfl (Sub.cons lookO Sub.nil)))) (show Fit κ _ (blk b [hw, ow, lw, nw, I64 (n.sink)] 194 :: vc 191 (hw) (hs) :: vc 3 (lw) ((L)) :: vc 3 (nw) ((nx)) :: I) from Fit.sub) ?_
 rintro ⟨k, L1, nx1⟩ hp
 obtain ⟨hk, hl1, hn1, hz⟩ : (k ≤ L.length) ∧ (L1.length = L.length) ∧ (nx1.length = nx.length) ∧ (∀ j : Nat, j < k → at_ L1 (j : Int) = -1 ∧ at_ nx1 (j : Int) = 0) := hp
 show W Tryd.prog κ 116 _ _ ([(0, .pointer (some ⟨b, 0, none⟩)), (1, I64 (n.source)), (14, I64 (((L.length : Nat) : Int))), (15, I64 (((k : Nat) : Int)))] : Env) (blk b [hw, ow, lw, nw, I64 (n.sink)] 194 :: vc 191 (hw) (hs) :: vc 3 (lw) (L1) :: vc 3 (nw) (nx1) :: I)
 refine W.sr ?_
 refine G.r (Runs.lss rfl rfl) ?_
 refine G.nt ?_
 refine W.seq ?_
 refine W.ite rfl (fun c16 => ?_) (fun c16 => ?_)
 ·refine W.skip ?_
  refine V.then ?_
  refine W.seq ?_
  refine W.block ?_
  refine W.sr ?_
  refine G.r (Runs.move rfl) ?_
  refine G.r (Runs.assign rfl) ?_
  refine G.nt ?_
  refine W.drawn mixed ?_
  refine A.hold (blk b [hw, ow, lw, nw, I64 (n.sink)] 194 :: vc 191 (hw) (hs) :: I) 14 ?_
  refine D.r 0 rfl (Runs.move rfl) ?_ (hJ := Fit.sub)
  refine D.r 1 rfl (Runs.nilCheck rfl) ?_ (hJ := Fit.sub)
  refine D.r 2 rfl (Runs.fieldAddr fld194_2 rfl) ?_ (hJ := Fit.sub)
  refine D.r 3 rfl (Runs.ld ty22) ?_ (hJ := Fit.sub)
  refine D.r 4 rfl (Runs.move rfl) ?_ (hJ := Fit.sub)
  refine D.r 5 rfl (Runs.move rfl) ?_ (hJ := Fit.sub)
  refine D.r 6 rfl (Runs.nilCheck rfl) ?_ (hJ := Fit.sub)
  refine D.r 7 rfl (Runs.fieldAddr fld194_3 rfl) ?_ (hJ := Fit.sub)
  refine D.r 8 rfl (Runs.ld ty22) ?_ (hJ := Fit.sub)
  refine D.r 9 rfl (Runs.move rfl) ?_ (hJ := Fit.sub)
  refine D.step (rs := [10]) (by kernel_rfl) rfl rfl (all1 ?_)
  refine Step.read rfl (Wanted.plain rfl) rfl rfl (Runs.idx (α := Int) (xs := L1) Tryd.underlying22 ty3 rfl rfl Sl.o (by omega) (by omega)) Fit.sub ?_
  refine D.step (rs := [11]) (by kernel_rfl) rfl rfl (all1 ?_)
  refine Step.eff rfl (Wanted.plain rfl) (Eff.set (α := Int) (xs := L1) (e := 3) (new := -1) ty3 rfl rfl rfl (by omega) (by omega) (by repeat (first | exact At.head _ _ _ | apply At.tail))) ?_
  rintro _ _ ⟨rfl, rfl⟩
  refine ⟨Fit.sub, ?_⟩
  refine D.step (rs := [12]) (by kernel_rfl) rfl rfl (all1 ?_)
  refine Step.read rfl (Wanted.plain rfl) rfl rfl (Runs.idx (α := Int) (xs := nx1) Tryd.underlying22 ty3 rfl rfl Sl.o (by omega) (by omega)) Fit.sub ?_
  refine D.step (rs := [13]) (by kernel_rfl) rfl rfl (all1 ?_)
  refine Step.eff rfl (Wanted.plain rfl) (Eff.set (α := Int) (xs := nx1) (e := 3) (new := 0) ty3 rfl rfl rfl (by omega) (by omega) (by repeat (first | exact At.head _ _ _ | apply At.tail))) ?_
  rintro _ _ ⟨rfl, rfl⟩
  refine ⟨Fit.sub, ?_⟩
  refine D.done (by kernel_rfl) ?_
  refine V.block_normal ?_
  refine V.then ?_
  refine W.sub (L' := [(0, _), (1, _), (14, _), (15, _)]) (Sub.cons rfl (Sub.cons rfl (Sub.cons rfl (Sub.cons rfl Sub.nil)))) ?_
  refine W.region ?_
  refine G.r (Runs.add rfl rfl (by unfold InR; omega)) ?_
  refine G.r (Runs.move rfl) ?_
  refine G.nil ?_
  exact V.next ((k + 1), (List.set L1 (((k : Nat) : Int)).toNat (-1)), (List.set nx1 (((k : Nat) : Int)).toNat (0))) (show ((k + 1 : Nat) ≤ L.length) ∧ ((List.set L1 (((k : Nat) : Int)).toNat (-1) : List Int).length = L.length) ∧ ((List.set nx1 (((k : Nat) : Int)).toNat (0) : List Int).length = nx.length) ∧ (∀ j : Nat, j < (k + 1 : Nat) → at_ (List.set L1 (((k : Nat) : Int)).toNat (-1) : List Int) (j : Int) = -1 ∧ at_ (List.set nx1 (((k : Nat) : Int)).toNat (0) : List Int) (j : Int) = 0) from ⟨(by omega), (by rw [List.length_set]; exact hl1), (by rw [List.length_set]; exact hn1), (lay_step hz (by omega) (by omega))⟩) (show L.length - (k + 1 : Nat) < L.length - k from (by omega)) (Sub.cons rfl (Sub.cons rfl (Sub.cons rfl (Sub.cons lookO Sub.nil)))) (show Fit κ _ (blk b [hw, ow, lw, nw, I64 (n.sink)] 194 :: vc 191 (hw) (hs) :: vc 3 (lw) ((List.set L1 (((k : Nat) : Int)).toNat (-1))) :: vc 3 (nw) ((List.set nx1 (((k : Nat) : Int)).toNat (0))) :: I) from Fit.sub)
 ·refine W.exit ?_
  refine V.then_exit ?_
  refine V.then_exit ?_
  refine V.block_hit ?_
  refine V.then ?_
  refine W.sr ?_
  refine G.r (Runs.move rfl) ?_
  have hkn : k = L.length := by omega
  subst hkn
  have hst := LI.start (f := f) (rs := rowsL rs) hok (L0 := L1) (by omega) (fun j hj => (hz j (by omega)).1)
  have hsL : (List.set L1 n.source.toNat 0).length = L1.length := by rw [List.length_set]
  refine G.r (Runs.nilCheck rfl) ?_
  refine G.r (Runs.fieldAddr fld194_2 rfl) ?_
  refine G.r (Runs.ld ty22) ?_
  refine G.r (Runs.move rfl) ?_
  refine G.r (Runs.idx (α := Int) (xs := L1) Tryd.underlying22 ty3 rfl rfl Sl.o (by omega) (by omega)) ?_
  refine G.e (Eff.set (α := Int) (xs := L1) (e := 3) (new := 0) ty3 rfl rfl rfl (by omega) (by omega) (by repeat (first | exact At.head _ _ _ | apply At.tail))) ?_
  rintro _ _ ⟨rfl, rfl⟩
  refine G.nt ?_
  refine W.seq ?_
  refine W.sr ?_
  refine G.r (Runs.move rfl) ?_
  refine G.e (Eff.bs (α := Int) (cs := [_]) (xs := [n.source]) Tryd.underlying22 ty3 rfl rfl (by decide) (by decide) rfl rfl rfl rfl) ?_
  rintro _ _ ⟨ad1, rfl, rfl⟩
  refine G.r (Runs.assign rfl) ?_
  refine G.nt ?_
  refine W.sub (L' := [(6, _), (0, _)]) (Sub.cons rfl (Sub.cons rfl Sub.nil)) ?_
  refine W.block ?_
  refine W.loop (σ := (Option Addr) × Nat × (List Int) × (List Int)) (fun s => ([(0, .pointer (some ⟨b, 0, none⟩)), (6, .slice s.1 s.2.2.1.length s.2.1)] : Env)) (fun s => vc 3 (.slice s.1 s.2.2.1.length s.2.1) (s.2.2.1) :: blk b [hw, ow, lw, nw, I64 (n.sink)] 194 :: vc 191 (hw) (hs) :: vc 3 (lw) (s.2.2.2) :: vc 3 (nw) (nx1) :: I) (fun s => (LI n f (rowsL rs) s.2.2.2 s.2.2.1 (-1) 0) ∧ (un s.2.2.2 + s.2.2.1.length ≤ n.nodes.toNat)) (fun s => un s.2.2.2 + s.2.2.1.length) (ad1, 1, [n.source], List.set L1 (n.source).toNat (0)) (show (LI n f (rowsL rs) (List.set L1 (n.source).toNat (0) : List Int) ([n.source] : List Int) (-1) 0) ∧ (un (List.set L1 (n.source).toNat (0) : List Int) + ([n.source] : List Int).length ≤ n.nodes.toNat) from ⟨hst.1, (by have := hst.2; simp only [List.length_cons, List.length_nil]; omega)⟩) (Sub.cons rfl (Sub.cons (lookV rfl (by first | rfl | simp)) Sub.nil)) (show Fit κ _ (vc 3 (.slice (ad1) ([n.source]).length (1)) (([n.source])) :: blk b [hw, ow, lw, nw, I64 (n.sink)] 194 :: vc 191 (hw) (hs) :: vc 3 (lw) ((List.set L1 (n.source).toNat (0))) :: vc 3 (nw) (nx1) :: I) from Fit.sub) ?_
  rintro ⟨a, c, todo, L2⟩ hp
  obtain ⟨hI, hub⟩ : (LI n f (rowsL rs) L2 todo (-1) 0) ∧ (un L2 + todo.length ≤ n.nodes.toNat) := hp
  show W Tryd.prog κ 116 _ _ ([(0, .pointer (some ⟨b, 0, none⟩)), (6, .slice a todo.length c)] : Env) (vc 3 (.slice a todo.length c) (todo) :: blk b [hw, ow, lw, nw, I64 (n.sink)] 194 :: vc 191 (hw) (hs) :: vc 3 (lw) (L2) :: vc 3 (nw) (nx1) :: I)
  have hl2 := hI.len
  refine W.seq ?_
  refine W.sr ?_
  refine G.r (Runs.move rfl) ?_
  refine G.r (Runs.lens Tryd.underlying22 rfl) ?_
  refine G.r (Runs.gtr rfl rfl) ?_
  refine G.nt ?_
  refine W.ite rfl (fun c41 => ?_) (fun c41 => ?_)
  ·refine W.skip ?_
   refine V.then ?_
   refine W.seq ?_
   refine W.block ?_
   refine W.seq ?_
   refine W.drawn mixed ?_
   refine A.hold (vc 3 (.slice a todo.length c) (todo) :: blk b [hw, ow, lw, nw, I64 (n.sink)] 194 :: vc 191 (hw) (hs) :: vc 3 (lw) (L2) :: vc 3 (nw) (nx1) :: I) 11 ?_
   refine D.r 0 rfl (Runs.move rfl) ?_
   have hx0 := hI.wait _ (at_mem (xs := todo) (i := 0) (by omega) (by omega))
   refine D.r 1 rfl (Runs.nilCheck rfl) ?_
   refine D.r 2 rfl (Runs.fieldAddr fld194_1 rfl) ?_
   refine D.r 3 rfl (Runs.ld ty50) ?_
   refine D.r 4 rfl (Runs.move rfl) ?_
   refine D.r 5 rfl (Runs.idx (α := Int) (xs := todo) Tryd.underlying22 ty3 rfl rfl Sl.o (by omega) (by omega)) ?_
   refine D.r 6 rfl (Runs.get (xs := todo) ty3 rfl Sl.o (by omega) (by omega)) ?_
   refine D.r 7 rfl (Runs.idx (α := Row) (xs := rs) Tryd.underlying50 ty22 rfl rfl (Sl.f ho) (by omega) (by omega)) ?_
   refine D.r 8 rfl (Runs.getf0 (α := Row) (xs := rs) (u := .slice (at_ rs (at_ todo 0)).a (at_ rs (at_ todo 0)).xs.length (at_ rs (at_ todo 0)).c) ty22 rfl (Sl.f ho) (by omega) (by omega) rfl) ?_
   refine D.r 9 rfl (Runs.lens Tryd.underlying22 rfl) ?_
   refine D.r 10 rfl (Runs.move rfl) ?_
   refine D.done (by kernel_rfl) ?_
   refine V.then ?_
   refine W.sub (L' := [(54, _), (53, _), (52, _), (0, _), (6, _)]) (Sub.cons rfl (Sub.cons rfl (Sub.cons rfl (Sub.cons rfl (Sub.cons rfl Sub.nil))))) ?_
   refine W.block ?_
   refine W.loop (σ := Nat × (Option Addr) × Nat × (List Int) × (List Int)) (fun s => ([(0, .pointer (some ⟨b, 0, none⟩)), (6, .slice s.2.1 s.2.2.2.1.length s.2.2.1), (52, .slice (at_ rs (at_ todo 0)).a (at_ rs (at_ todo 0)).xs.length (at_ rs (at_ todo 0)).c), (53, I64 ((((at_ rs (at_ todo 0)).xs.length : Nat) : Int))), (54, I64 (((s.1 : Nat) : Int)))] : Env)) (fun s => vc 3 (.slice s.2.1 s.2.2.2.1.length s.2.2.1) (s.2.2.2.1) :: blk b [hw, ow, lw, nw, I64 (n.sink)] 194 :: vc 191 (hw) (hs) :: vc 3 (lw) (s.2.2.2.2) :: vc 3 (nw) (nx1) :: I) (fun s => (s.1 ≤ (at_ rs (at_ todo 0)).xs.length) ∧ (0 < s.2.2.2.1.length) ∧ (at_ s.2.2.2.1 0 = (at_ todo 0)) ∧ (LI n f (rowsL rs) s.2.2.2.2 (s.2.2.2.1.drop 1) (at_ todo 0) s.1) ∧ (un s.2.2.2.2 + s.2.2.2.1.length = un L2 + todo.length)) (fun s => (at_ rs (at_ todo 0)).xs.length - s.1) (0, a, c, todo, L2) (show ((0 : Nat) ≤ (at_ rs (at_ todo 0)).xs.length) ∧ (0 < (todo : List Int).length) ∧ (at_ (todo : List Int) 0 = (at_ todo 0)) ∧ (LI n f (rowsL rs) (L2 : List Int) ((todo : List Int).drop 1) (at_ todo 0) (0 : Nat)) ∧ (un (L2 : List Int) + (todo : List Int).length = un L2 + todo.length) from ⟨(by omega), (by omega), rfl, (hI.next (by omega)), rfl⟩) (Sub.cons rfl (Sub.cons (lookV rfl (by first | rfl | simp)) (Sub.cons rfl (Sub.cons rfl (Sub.cons lookO Sub.nil))))) (show Fit κ _ (vc 3 (.slice (a) (todo).length (c)) ((todo)) :: blk b [hw, ow, lw, nw, I64 (n.sink)] 194 :: vc 191 (hw) (hs) :: vc 3 (lw) ((L2)) :: vc 3 (nw) (nx1) :: I) from Fit.sub) ?_
   rintro ⟨q, a1, c1, w, L3⟩ hp
   obtain ⟨hq, hwl, hw0, hI1, hmu⟩ : (q ≤ (at_ rs (at_ todo 0)).xs.length) ∧ (0 < w.length) ∧ (at_ w 0 = (at_ todo 0)) ∧ (LI n f (rowsL rs) L3 (w.drop 1) (at_ todo 0) q) ∧ (un L3 + w.length = un L2 + todo.length) := hp
   show W Tryd.prog κ 116 _ _ ([(0, .pointer (some ⟨b, 0, none⟩)), (6, .slice a1 w.length c1), (52, .slice (at_ rs (at_ todo 0)).a (at_ rs (at_ todo 0)).xs.length (at_ rs (at_ todo 0)).c), (53, I64 ((((at_ rs (at_ todo 0)).xs.length : Nat) : Int))), (54, I64 (((q : Nat) : Int)))] : Env) (vc 3 (.slice a1 w.length c1) (w) :: blk b [hw, ow, lw, nw, I64 (n.sink)] 194 :: vc 191 (hw) (hs) :: vc 3 (lw) (L3) :: vc 3 (nw) (nx1) :: I)
   refine W.pull (fun w hs => (Sl.fit (hrow (at_ todo 0) (by omega) (by omega)) Fit.m).le w hs) fun hrm => ?_
   have hl3 := hI1.len
   have hcur := hI1.cur hx0.1.1
   have hlw : at_ L3 (at_ w 0) + un L3 < n.nodes := by rw [hw0]; exact (hI1.low _ hx0.1.1 hx0.1.2).2
   have hlw0 : 0 ≤ at_ L3 (at_ w 0) := by rw [hw0]; exact hcur.2
   refine W.sr ?_
   refine G.r (Runs.lss rfl rfl) ?_
   refine G.nt ?_
   refine W.seq ?_
   refine W.ite rfl (fun c55 => ?_) (fun c55 => ?_)
   ·refine W.skip ?_
    refine V.then ?_
    refine W.seq ?_
    refine W.block ?_
    refine W.sr ?_
    refine G.r (Runs.idx (α := Int) (xs := (at_ rs (at_ todo 0)).xs) Tryd.underlying22 ty3 rfl rfl (Sl.fit (hrow (at_ todo 0) (by omega) (by omega)) Fit.m) (by omega) (by omega)) ?_
    refine G.r (Runs.get (xs := (at_ rs (at_ todo 0)).xs) ty3 rfl (Sl.fit (hrow (at_ todo 0) (by omega) (by omega)) Fit.m) (by omega) (by omega)) ?_
    have hm := hr.row hx0.1.1 hx0.1.2 (j := ((q : Nat) : Int)) (by omega) (by omega)
    have hg := hh.get _ hm.1
    have hfo := from_ok hok hm.1
    have hi2 : 0 ≤ (at_ (at_ rs (at_ todo 0)).xs ((q : Nat) : Int)) ∧ (at_ (at_ rs (at_ todo 0)).xs ((q : Nat) : Int)) < 2 * n.arcs.length := hm.1
    have hd : at_ L3 (at_ hs (at_ (at_ rs (at_ todo 0)).xs ((q : Nat) : Int))).dst = at_ L3 (toH n (at_ (at_ rs (at_ todo 0)).xs ((q : Nat) : Int))) := by rw [hg.2.1]
    refine G.r (Runs.assign rfl) ?_
    refine G.nt ?_
    refine W.sr ?_
    refine G.r (Runs.move rfl) ?_
    refine G.r (Runs.nilCheck rfl) ?_
    refine G.r (Runs.fieldAddr fld194_0 rfl) ?_
    refine G.r (Runs.ld ty192) ?_
    refine G.r (Runs.move rfl) ?_
    refine G.r (Runs.idx (α := Half) (xs := hs) Tryd.underlying192 ty191 rfl rfl Sl.o (by omega) (by omega)) ?_
    refine G.r (Runs.gets (α := Half) (xs := hs) ty191 rfl Sl.o (by omega) (by omega)) ?_
    refine G.e (Eff.alloc ty191 rfl) ?_
    rintro _ _ ⟨b2, rfl, rfl⟩
    refine G.e (Eff.st (cs := [_, _, _, _]) (vs := [_, _, _, _]) (cs' := [_, _, _, _]) ty191) ?_
    rintro _ _ ⟨rfl, rfl⟩
    refine G.nt ?_
    refine W.sub (L' := [(9, _), (0, _), (6, _), (52, _), (53, _), (54, _)]) (Sub.cons rfl (Sub.cons rfl (Sub.cons rfl (Sub.cons rfl (Sub.cons rfl (Sub.cons rfl Sub.nil)))))) ?_
    refine W.seq ?_
    refine W.drawn mixed ?_
    refine A.hold (blk b2 [I64 ((at_ hs (at_ ((at_ rs (at_ todo 0)).xs) ((q : Nat) : Int))).frm), I64 ((at_ hs (at_ ((at_ rs (at_ todo 0)).xs) ((q : Nat) : Int))).dst), I64 ((at_ hs (at_ ((at_ rs (at_ todo 0)).xs) ((q : Nat) : Int))).cap), I64 ((at_ hs (at_ ((at_ rs (at_ todo 0)).xs) ((q : Nat) : Int))).left)] 191 :: vc 3 (.slice a1 w.length c1) (w) :: blk b [hw, ow, lw, nw, I64 (n.sink)] 194 :: vc 191 (hw) (hs) :: vc 3 (lw) (L3) :: vc 3 (nw) (nx1) :: I) 15 ?_
    refine D.r 0 rfl (Runs.fieldAddr fld191_1 rfl) ?_
    refine D.r 1 rfl (Runs.ld ty3) ?_
    refine D.r 2 rfl (Runs.gtr rfl rfl) ?_
    refine D.r 3 rfl (Runs.move rfl) ?_
    refine D.split (d := 68) rfl (fun g68 => ?_) (fun g68 => ?_)
    ·refine D.ro 4 rfl (Runs.move rfl) ?_
     refine D.ro 5 rfl (Runs.nilCheck rfl) ?_
     refine D.ro 6 rfl (Runs.fieldAddr fld194_2 rfl) ?_
     refine D.ro 7 rfl (Runs.ld ty22) ?_
     refine D.ro 8 rfl (Runs.fieldAddr fld191_0 rfl) ?_
     refine D.ro 9 rfl (Runs.fieldAddr fld161_1 rfl) ?_
     refine D.ro 10 rfl (Runs.ld ty3) ?_
     refine D.ro 11 rfl (Runs.idx (α := Int) (xs := L3) Tryd.underlying22 ty3 rfl rfl Sl.o (by omega) (by omega)) ?_
     refine D.ro 12 rfl (Runs.get (xs := L3) ty3 rfl Sl.o (by omega) (by omega)) ?_
     refine D.ro 13 rfl (Runs.lss rfl rfl) ?_
     refine D.r 14 rfl (Runs.pickt rfl rfl) ?_
     refine D.done (by kernel_rfl) ?_
     refine V.then ?_
     refine W.sub (L' := [(79, _), (9, _), (0, _), (6, _), (52, _), (53, _), (54, _)]) (Sub.cons rfl (Sub.cons rfl (Sub.cons rfl (Sub.cons rfl (Sub.cons rfl (Sub.cons rfl (Sub.cons rfl Sub.nil))))))) ?_
     refine W.ite rfl (fun c79 => ?_) (fun c79 => ?_)
     ·refine W.seq ?_
      refine W.drawn mixed ?_
      refine A.hold (blk b2 [I64 ((at_ hs (at_ ((at_ rs (at_ todo 0)).xs) ((q : Nat) : Int))).frm), I64 ((at_ hs (at_ ((at_ rs (at_ todo 0)).xs) ((q : Nat) : Int))).dst), I64 ((at_ hs (at_ ((at_ rs (at_ todo 0)).xs) ((q : Nat) : Int))).cap), I64 ((at_ hs (at_ ((at_ rs (at_ todo 0)).xs) ((q : Nat) : Int))).left)] 191 :: vc 3 (.slice a1 w.length c1) (w) :: blk b [hw, ow, lw, nw, I64 (n.sink)] 194 :: vc 191 (hw) (hs) :: vc 3 (lw) (L3) :: vc 3 (nw) (nx1) :: I) 18 ?_
      refine D.r 0 rfl (Runs.move rfl) ?_
      refine D.r 1 rfl (Runs.nilCheck rfl) ?_
      refine D.r 2 rfl (Runs.fieldAddr fld194_2 rfl) ?_
      refine D.r 3 rfl (Runs.ld ty22) ?_
      refine D.r 4 rfl (Runs.fieldAddr fld191_0 rfl) ?_
      refine D.r 5 rfl (Runs.fieldAddr fld161_1 rfl) ?_
      refine D.r 6 rfl (Runs.ld ty3) ?_
      refine D.r 7 rfl (Runs.move rfl) ?_
      refine D.r 8 rfl (Runs.nilCheck rfl) ?_
      refine D.r 9 rfl (Runs.fieldAddr fld194_2 rfl) ?_
      refine D.r 10 rfl (Runs.ld ty22) ?_
      refine D.r 11 rfl (Runs.move rfl) ?_
      refine D.r 12 rfl (Runs.idx (α := Int) (xs := w) Tryd.underlying22 ty3 rfl rfl Sl.o (by omega) (by omega)) ?_
      refine D.r 13 rfl (Runs.get (xs := w) ty3 rfl Sl.o (by omega) (by omega)) ?_
      refine D.r 14 rfl (Runs.idx (α := Int) (xs := L3) Tryd.underlying22 ty3 rfl rfl Sl.o (by omega) (by omega)) ?_
      refine D.r 15 rfl (Runs.get (xs := L3) ty3 rfl Sl.o (by omega) (by omega)) ?_
      refine D.r 16 rfl (Runs.add rfl rfl (by unfold InR; omega)) ?_
      refine D.r 17 rfl (Runs.idx (α := Int) (xs := L3) Tryd.underlying22 ty3 rfl rfl Sl.o (by omega) (by omega)) ?_
      refine D.stop (by kernel_rfl) ?_
      refine A.eff (i := 18) (by kernel_rfl) rfl (Wanted.plain rfl) (Eff.set (α := Int) (xs := L3) (e := 3) (new := (at_ L3 (at_ w 0)) + 1) ty3 rfl rfl rfl (by omega) (by omega) (by repeat (first | exact At.head _ _ _ | apply At.tail))) ?_
      rintro _ _ ⟨rfl, rfl⟩
      refine A.done (by kernel_rfl) ?_
      refine V.then ?_
      refine W.sub (L' := [(9, _), (0, _), (6, _), (52, _), (53, _), (54, _)]) (Sub.cons rfl (Sub.cons rfl (Sub.cons rfl (Sub.cons rfl (Sub.cons rfl (Sub.cons rfl Sub.nil)))))) ?_
      refine W.region ?_
      refine G.r (Runs.move rfl) ?_
      refine G.r (Runs.fieldAddr fld191_0 rfl) ?_
      refine G.r (Runs.fieldAddr fld161_1 rfl) ?_
      refine G.r (Runs.ld ty3) ?_
      refine G.e (Eff.bs (α := Int) (cs := [_]) (xs := [(at_ hs (at_ ((at_ rs (at_ todo 0)).xs) ((q : Nat) : Int))).dst]) Tryd.underlying22 ty3 rfl rfl (by decide) (by decide) rfl rfl rfl rfl) ?_
      rintro _ _ ⟨ad3, rfl, rfl⟩
      refine G.e (Eff.app (α := Int) (e := 3) (xs := w) (ys := ([(at_ hs (at_ ((at_ rs (at_ todo 0)).xs) ((q : Nat) : Int))).dst] : List Int)) Tryd.underlying22 ty3 rfl rfl rfl (by repeat (first | exact List.mem_cons_self | apply List.mem_cons_of_mem)) Sl.o (by simp only [List.length_cons, List.length_nil]; omega) (by decide) rfl (fun _ _ => (by repeat (first | exact At.head _ _ _ | apply At.tail)))) ?_
      rintro _ _ ⟨ad4, cp5, rfl, rfl⟩
      refine G.r (Runs.assign rfl) ?_
      refine G.nil ?_
      refine V.block_normal ?_
      refine V.then ?_
      refine W.region ?_
      refine G.r (Runs.add rfl rfl (by unfold InR; omega)) ?_
      refine G.r (Runs.move rfl) ?_
      refine G.nil ?_
      exact V.next ((q + 1), (ad4), (cp5), (w ++ ([(at_ hs (at_ ((at_ rs (at_ todo 0)).xs) ((q : Nat) : Int))).dst] : List Int)), (List.set L3 ((at_ hs (at_ ((at_ rs (at_ todo 0)).xs) ((q : Nat) : Int))).dst).toNat ((at_ L3 (at_ w 0)) + 1))) (show ((q + 1 : Nat) ≤ (at_ rs (at_ todo 0)).xs.length) ∧ (0 < (w ++ ([(at_ hs (at_ ((at_ rs (at_ todo 0)).xs) ((q : Nat) : Int))).dst] : List Int) : List Int).length) ∧ (at_ (w ++ ([(at_ hs (at_ ((at_ rs (at_ todo 0)).xs) ((q : Nat) : Int))).dst] : List Int) : List Int) 0 = (at_ todo 0)) ∧ (LI n f (rowsL rs) (List.set L3 ((at_ hs (at_ ((at_ rs (at_ todo 0)).xs) ((q : Nat) : Int))).dst).toNat ((at_ L3 (at_ w 0)) + 1) : List Int) ((w ++ ([(at_ hs (at_ ((at_ rs (at_ todo 0)).xs) ((q : Nat) : Int))).dst] : List Int) : List Int).drop 1) (at_ todo 0) (q + 1 : Nat)) ∧ (un (List.set L3 ((at_ hs (at_ ((at_ rs (at_ todo 0)).xs) ((q : Nat) : Int))).dst).toNat ((at_ L3 (at_ w 0)) + 1) : List Int) + (w ++ ([(at_ hs (at_ ((at_ rs (at_ todo 0)).xs) ((q : Nat) : Int))).dst] : List Int) : List Int).length = un L2 + todo.length) from ⟨(by omega), (by first | exact hwl | (rw [List.length_append]; omega)), (by first | exact hw0 | (rw [at_zero_append hwl]; exact hw0)), (by first | exact hI1.inc1 (fun h => by omega) | (rw [hw0, hg.2.1, drop_one_append hwl]; exact (hI1.put1 hok hx0.1.1 hm (by omega) (by omega)).1)), (by first | exact hmu | (rw [hw0, hg.2.1, List.length_append]; have := (hI1.put1 hok hx0.1.1 hm (by omega) (by omega)).2; simp only [List.length_cons, List.length_nil]; omega))⟩) (show (at_ rs (at_ todo 0)).xs.length - (q + 1 : Nat) < (at_ rs (at_ todo 0)).xs.length - q from (by omega)) (Sub.cons rfl (Sub.cons (lookV rfl (by first | rfl | simp)) (Sub.cons rfl (Sub.cons rfl (Sub.cons lookO Sub.nil))))) (show Fit κ _ (vc 3 (.slice (ad4) (w ++ ([(at_ hs (at_ ((at_ rs (at_ todo 0)).xs) ((q : Nat) : Int))).dst] : List Int)).length (cp5)) ((w ++ ([(at_ hs (at_ ((at_ rs (at_ todo 0)).xs) ((q : Nat) : Int))).dst] : List Int))) :: blk b [hw, ow, lw, nw, I64 (n.sink)] 194 :: vc 191 (hw) (hs) :: vc 3 (lw) ((List.set L3 ((at_ hs (at_ ((at_ rs (at_ todo 0)).xs) ((q : Nat) : Int))).dst).toNat ((at_ L3 (at_ w 0)) + 1))) :: vc 3 (nw) (nx1) :: I) from Fit.sub)
     ·refine W.skip ?_
      refine V.block_normal ?_
      refine V.then ?_
      refine W.region ?_
      refine G.r (Runs.add rfl rfl (by unfold InR; omega)) ?_
      refine G.r (Runs.move rfl) ?_
      refine G.nil ?_
      exact V.next ((q + 1), (a1), (c1), (w), (L3)) (show ((q + 1 : Nat) ≤ (at_ rs (at_ todo 0)).xs.length) ∧ (0 < (w : List Int).length) ∧ (at_ (w : List Int) 0 = (at_ todo 0)) ∧ (LI n f (rowsL rs) (L3 : List Int) ((w : List Int).drop 1) (at_ todo 0) (q + 1 : Nat)) ∧ (un (L3 : List Int) + (w : List Int).length = un L2 + todo.length) from ⟨(by omega), (by first | exact hwl | (rw [List.length_append]; omega)), (by first | exact hw0 | (rw [at_zero_append hwl]; exact hw0)), (by first | exact hI1.inc1 (fun h => by omega) | (rw [hw0, hg.2.1, drop_one_append hwl]; exact (hI1.put1 hok hx0.1.1 hm (by omega) (by omega)).1)), (by first | exact hmu | (rw [hw0, hg.2.1, List.length_append]; have := (hI1.put1 hok hx0.1.1 hm (by omega) (by omega)).2; simp only [List.length_cons, List.length_nil]; omega))⟩) (show (at_ rs (at_ todo 0)).xs.length - (q + 1 : Nat) < (at_ rs (at_ todo 0)).xs.length - q from (by omega)) (Sub.cons rfl (Sub.cons (lookV rfl (by first | rfl | simp)) (Sub.cons rfl (Sub.cons rfl (Sub.cons lookO Sub.nil))))) (show Fit κ _ (vc 3 (.slice (a1) (w).length (c1)) ((w)) :: blk b [hw, ow, lw, nw, I64 (n.sink)] 194 :: vc 191 (hw) (hs) :: vc 3 (lw) ((L3)) :: vc 3 (nw) (nx1) :: I) from Fit.sub)
    ·refine D.po 4 rfl ?_
     refine D.po 5 rfl ?_
     refine D.po 6 rfl ?_
     refine D.po 7 rfl ?_
     refine D.po 8 rfl ?_
     refine D.po 9 rfl ?_
     refine D.po 10 rfl ?_
     refine D.po 11 rfl ?_
     refine D.po 12 rfl ?_
     refine D.po 13 rfl ?_
     refine D.r 14 rfl (Runs.pickf rfl rfl) ?_
     refine D.done (by kernel_rfl) ?_
     refine V.then ?_
     refine W.sub (L' := [(79, _), (9, _), (0, _), (6, _), (52, _), (53, _), (54, _)]) (Sub.cons rfl (Sub.cons rfl (Sub.cons rfl (Sub.cons rfl (Sub.cons rfl (Sub.cons rfl (Sub.cons rfl Sub.nil))))))) ?_
     refine W.no rfl ?_
     refine W.skip ?_
     refine V.block_normal ?_
     refine V.then ?_
     refine W.region ?_
     refine G.r (Runs.add rfl rfl (by unfold InR; omega)) ?_
     refine G.r (Runs.move rfl) ?_
     refine G.nil ?_
     exact V.next ((q + 1), (a1), (c1), (w), (L3)) (show ((q + 1 : Nat) ≤ (at_ rs (at_ todo 0)).xs.length) ∧ (0 < (w : List Int).length) ∧ (at_ (w : List Int) 0 = (at_ todo 0)) ∧ (LI n f (rowsL rs) (L3 : List Int) ((w : List Int).drop 1) (at_ todo 0) (q + 1 : Nat)) ∧ (un (L3 : List Int) + (w : List Int).length = un L2 + todo.length) from ⟨(by omega), (by first | exact hwl | (rw [List.length_append]; omega)), (by first | exact hw0 | (rw [at_zero_append hwl]; exact hw0)), (by first | exact hI1.inc1 (fun h => by omega) | (rw [hw0, hg.2.1, drop_one_append hwl]; exact (hI1.put1 hok hx0.1.1 hm (by omega) (by omega)).1)), (by first | exact hmu | (rw [hw0, hg.2.1, List.length_append]; have := (hI1.put1 hok hx0.1.1 hm (by omega) (by omega)).2; simp only [List.length_cons, List.length_nil]; omega))⟩) (show (at_ rs (at_ todo 0)).xs.length - (q + 1 : Nat) < (at_ rs (at_ todo 0)).xs.length - q from (by omega)) (Sub.cons rfl (Sub.cons (lookV rfl (by first | rfl | simp)) (Sub.cons rfl (Sub.cons rfl (Sub.cons lookO Sub.nil))))) (show Fit κ _ (vc 3 (.slice (a1) (w).length (c1)) ((w)) :: blk b [hw, ow, lw, nw, I64 (n.sink)] 194 :: vc 191 (hw) (hs) :: vc 3 (lw) ((L3)) :: vc 3 (nw) (nx1) :: I) from Fit.sub)
   ·refine W.exit ?_
    refine V.then_exit ?_
    refine V.then_exit ?_
    refine V.block_hit ?_
    refine V.block_normal ?_
    refine V.then ?_
    refine W.region ?_
    refine G.r (Runs.move rfl) ?_
    refine G.r (Runs.lo (α := Int) (xs := w) (l := 1) Tryd.underlying22 ty3 rfl rfl (by omega) Sl.o (by omega)) ?_
    refine G.fit (J := vc 3 (.slice (adrop a1 c1 1 (Enc.sz Int)) (List.drop 1 w).length (c1 - 1)) (List.drop 1 w) :: blk b [hw, ow, lw, nw, I64 (n.sink)] 194 :: vc 191 (hw) (hs) :: vc 3 (lw) (L3) :: vc 3 (nw) (nx1) :: I) (Fit.upd (by repeat (first | exact At.head _ _ _ | apply At.tail)) (reslice (l := 1) (by omega))) ?_
    refine G.r (Runs.assign rfl) ?_
    refine G.nil ?_
    exact V.next (((adrop a1 c1 1 (Enc.sz Int))), ((c1 - 1)), (List.drop 1 w), (L3)) (show (LI n f (rowsL rs) (L3 : List Int) (List.drop 1 w : List Int) (-1) 0) ∧ (un (L3 : List Int) + (List.drop 1 w : List Int).length ≤ n.nodes.toNat) from ⟨(hI1.over1 (by omega)), (by rw [List.length_drop]; omega)⟩) (show un (L3 : List Int) + (List.drop 1 w : List Int).length < un L2 + todo.length from (by rw [List.length_drop]; omega)) (Sub.cons rfl (Sub.cons (lookV rfl (by first | rfl | simp)) Sub.nil)) (show Fit κ _ (vc 3 (.slice ((adrop a1 c1 1 (Enc.sz Int))) (List.drop 1 w).length ((c1 - 1))) ((List.drop 1 w)) :: blk b [hw, ow, lw, nw, I64 (n.sink)] 194 :: vc 191 (hw) (hs) :: vc 3 (lw) ((L3)) :: vc 3 (nw) (nx1) :: I) from Fit.sub)
  ·refine W.exit ?_
   refine V.then_exit ?_
   refine V.then_exit ?_
   refine V.block_hit ?_
   refine V.then ?_
   refine W.seq ?_
   refine W.drawn mixed ?_
   refine A.hold (vc 3 (.slice a todo.length c) (todo) :: blk b [hw, ow, lw, nw, I64 (n.sink)] 194 :: vc 191 (hw) (hs) :: vc 3 (lw) (L2) :: vc 3 (nw) (nx1) :: I) 12 ?_
   refine D.r 0 rfl (Runs.move rfl) ?_
   refine D.r 1 rfl (Runs.nilCheck rfl) ?_
   refine D.r 2 rfl (Runs.fieldAddr fld194_2 rfl) ?_
   refine D.r 3 rfl (Runs.ld ty22) ?_
   refine D.r 4 rfl (Runs.move rfl) ?_
   refine D.r 5 rfl (Runs.nilCheck rfl) ?_
   refine D.r 6 rfl (Runs.fieldAddr fld194_4 rfl) ?_
   refine D.r 7 rfl (Runs.ld ty3) ?_
   refine D.r 8 rfl (Runs.idx (α := Int) (xs := L2) Tryd.underlying22 ty3 rfl rfl Sl.o (by omega) (by omega)) ?_
   refine D.r 9 rfl (Runs.get (xs := L2) ty3 rfl Sl.o (by omega) (by omega)) ?_
   refine D.r 10 rfl (Runs.geq rfl rfl) ?_
   refine D.r 11 rfl (Runs.assign rfl) ?_
   refine D.done (by kernel_rfl) ?_
   refine V.then ?_
   refine W.sub (L' := [(4, _)]) (Sub.cons rfl Sub.nil) ?_
   refine W.ret ?_
   exact V.ret1 rfl rfl (blk b [hw, ow, lw, nw, I64 (n.sink)] 194 :: vc 191 (hw) (hs) :: vc 3 (lw) (L2) :: vc 3 (nw) (nx1) :: I) Fit.sub ⟨L2, nx1, rfl, ⟨hI.done hok hr (by omega), by omega, fun z h0 h1 => at_all (p := fun z => at_ nx1 z = 0) (fun j hj => (hz j hj).2) h0 (by omega)⟩, rfl⟩

end Go.Sl
namespace Go.Sl
open Go.Proofs
set_option linter.unusedVariables false
set_option linter.unusedSimpArgs false
set_option maxRecDepth 4000
theorem PushR.sink {n : Net} {rs : List (List Int)} {L f nx : List Int} {v : Int} (e : v = n.sink) (hl : f.length = n.arcs.length) (hc : CapF n f) (hd : Dead n rs L f nx) (hx : ∀ z : Int, 0 ≤ z → z < n.nodes → 0 ≤ at_ nx z) (d : Int) : PushR n rs L v d f nx f nx :=
  ⟨hl, hc, fun z => by rw [e]; omega, Less.refl _ _ _, fun _ _ _ => rfl, hd, rfl, hx, fun _ _ _ _ _ => rfl, fun _ => rfl⟩
def PushC (κ : Ctx) (I : List Item) (n : Net) (rs : List Row) (b : Nat) (hw ow lw nw : Value) (L : List Int) (lv : Int) : Prop :=
  ∀ (v most : Int) (f nx : List Int) (hs : List Half), at_ L v = lv → 0 ≤ v → v < n.nodes → 0 ≤ at_ L v → 1 ≤ most → most ≤ 4611686018427387904 → HOk n f hs → Dead n (rowsL rs) L f nx → (∀ z : Int, 0 ≤ z → z < n.nodes → 0 ≤ at_ nx z) → ((nx.length : Nat) : Int) = n.nodes → CallS Tryd.prog κ 213 [.pointer (some ⟨b, 0, none⟩), I64 v, I64 most] (blk b [hw, ow, lw, nw, I64 (n.sink)] 194 :: vc 191 (hw) (hs) :: vc 3 (lw) (L) :: vc 3 (nw) (nx) :: I) (fun r J => ∃ (d : Int) (f' : List Int) (hs' : List Half) (nx' : List Int), r = I64 d ∧ ((0 ≤ d ∧ d ≤ most) ∧ PushR n (rowsL rs) L v d f nx f' nx' ∧ HOk n f' hs' ∧ (d < most → ¬ Adm n f' L v)) ∧ J = blk b [hw, ow, lw, nw, I64 (n.sink)] 194 :: vc 191 (hw) (hs') :: vc 3 (lw) (L) :: vc 3 (nw) (nx') :: I)

theorem Push_step {κ : Ctx} {I : List Item} {n : Net} {f : List Int} {hs : List Half} {rs : List Row} {b : Nat} {hw ow lw nw : Value} {L nx : List Int} {v most lv : Int} (hok : n.Ok) (hr : ROk n (rowsL rs)) (ho : Sl κ I ow rs) (hrow : ∀ i : Int, 0 ≤ i → i < rs.length → Sl κ I (.slice (at_ rs i).a (at_ rs i).xs.length (at_ rs i).c) (at_ rs i).xs) (hL : (L.length : Int) = n.nodes) (hlow : ∀ z : Int, 0 ≤ z → z < n.nodes → -1 ≤ at_ L z ∧ at_ L z < n.nodes) (ih : PushC κ I n rs b hw ow lw nw L (lv + 1)) (hlv : at_ L v = lv) (hv0 : 0 ≤ v) (hv1 : v < n.nodes) (hLv : 0 ≤ at_ L v) (hm0 : 1 ≤ most) (hm1 : most ≤ 4611686018427387904) (hh : HOk n f hs) (hD : Dead n (rowsL rs) L f nx) (hx : ∀ z : Int, 0 ≤ z → z < n.nodes → 0 ≤ at_ nx z) (hN : ((nx.length : Nat) : Int) = n.nodes) :
    CallS Tryd.prog κ 213 [.pointer (some ⟨b, 0, none⟩), I64 (v), I64 (most)] (blk b [hw, ow, lw, nw, I64 (n.sink)] 194 :: vc 191 (hw) (hs) :: vc 3 (lw) (L) :: vc 3 (nw) (nx) :: I) (fun r J => ∃ (d : Int) (f' : List Int) (hs' : List Half) (nx' : List Int), r = I64 d ∧ ((0 ≤ d ∧ d ≤ most) ∧ PushR n (rowsL rs) L v d f nx f' nx' ∧ HOk n f' hs' ∧ (d < most → ¬ Adm n f' L v)) ∧ J = blk b [hw, ow, lw, nw, I64 (n.sink)] 194 :: vc 191 (hw) (hs') :: vc 3 (lw) (L) :: vc 3 (nw) (nx') :: I) := by
 have hlim := hok.lim
 have hsrc := hok.src
 have hsnk := hok.snk
 have hrl := hr.rl
 have hLw := (hlow v hv0 hv1).2
 refine CallS.pull (fun w hs => (Sl.fit (hrow v (by omega) (by omega)) (by repeat (first | exact Fit.refl _ | apply Fit.tail | exact Fit.appR _ _ | apply Fit.appL))).le w hs) fun hrm => ?_
 refine CallS.enter (L := [(0, .pointer (some ⟨b, 0, none⟩)), (1, I64 (v)), (2, I64 (most))]) Tryd.func213 rfl rfl rfl rfl ?_
 refine W.sr ?_
 refine G.r (Runs.assign rfl) ?_
 refine G.nt ?_
 refine W.seq ?_
 refine W.sr ?_
 refine G.r (Runs.move rfl) ?_
 refine G.r (Runs.move rfl) ?_
 refine G.r (Runs.nilCheck rfl) ?_
 refine G.r (Runs.fieldAddr fld194_4 rfl) ?_
 refine G.r (Runs.ld ty3) ?_
 refine G.r (Runs.eql rfl rfl) ?_
 refine G.nt ?_
 refine W.ite rfl (fun c16 => ?_) (fun c16 => ?_)
 ·refine W.sr ?_
  refine G.r (Runs.move rfl) ?_
  refine G.r (Runs.assign rfl) ?_
  refine G.nt ?_
  refine W.ret ?_
  refine V.then_ret ?_
  exact V.ret1 rfl rfl (blk b [hw, ow, lw, nw, I64 (n.sink)] 194 :: vc 191 (hw) (hs) :: vc 3 (lw) (L) :: vc 3 (nw) (nx) :: I) Fit.sub ⟨most, f, hs, nx, rfl, ⟨⟨by omega, by omega⟩, PushR.sink c16 hh.flen hh.cap hD hx most, hh, fun h => by omega⟩, rfl⟩
 ·refine W.skip ?_
  refine V.then ?_
  refine W.sr ?_
  refine G.r (Runs.assign rfl) ?_
  refine G.nt ?_
  refine W.seq ?_
  refine W.block ?_
  refine W.loop (σ := Int × (List Int) × (List Half) × (List Int)) (fun s => ([(0, .pointer (some ⟨b, 0, none⟩)), (1, I64 (v)), (2, I64 (most)), (7, I64 (s.1))] : Env)) (fun s => blk b [hw, ow, lw, nw, I64 (n.sink)] 194 :: vc 191 (hw) (s.2.2.1) :: vc 3 (lw) (L) :: vc 3 (nw) (s.2.2.2) :: I) (fun s => (0 ≤ s.1) ∧ (s.1 ≤ most) ∧ (PushR n (rowsL rs) L v s.1 f nx s.2.1 s.2.2.2) ∧ (HOk n s.2.1 s.2.2.1)) (fun s => ((at_ rs v).xs.length - at_ s.2.2.2 v).toNat) (0, f, hs, nx) (show (0 ≤ (0 : Int)) ∧ ((0 : Int) ≤ most) ∧ (PushR n (rowsL rs) L v (0 : Int) f nx (f : List Int) (nx : List Int)) ∧ (HOk n (f : List Int) (hs : List Half)) from ⟨(by omega), (by omega), (PushR.start hh.flen hh.cap hD hx v), hh⟩) (Sub.cons rfl (Sub.cons rfl (Sub.cons rfl (Sub.cons lookO Sub.nil)))) (show Fit κ _ (blk b [hw, ow, lw, nw, I64 (n.sink)] 194 :: vc 191 (hw) ((hs)) :: vc 3 (lw) (L) :: vc 3 (nw) ((nx)) :: I) from Fit.sub) ?_
  rintro ⟨sent, f1, hs1, nx1⟩ hp
  obtain ⟨hs0, hs9, hP, hH1⟩ : (0 ≤ sent) ∧ (sent ≤ most) ∧ (PushR n (rowsL rs) L v sent f nx f1 nx1) ∧ (HOk n f1 hs1) := hp
  show W Tryd.prog κ 138 _ _ ([(0, .pointer (some ⟨b, 0, none⟩)), (1, I64 (v)), (2, I64 (most)), (7, I64 (sent))] : Env) (blk b [hw, ow, lw, nw, I64 (n.sink)] 194 :: vc 191 (hw) (hs1) :: vc 3 (lw) (L) :: vc 3 (nw) (nx1) :: I)
  have hnl := hP.nlen
  have hnx0 := hP.nge v hv0 hv1
  have hhl := hH1.len
  refine W.seq ?_
  refine W.seq ?_
  refine W.drawn mixed ?_
  refine A.hold (blk b [hw, ow, lw, nw, I64 (n.sink)] 194 :: vc 191 (hw) (hs1) :: vc 3 (lw) (L) :: vc 3 (nw) (nx1) :: I) 21 ?_
  refine D.r 0 rfl (Runs.move rfl) ?_
  refine D.r 1 rfl (Runs.nilCheck rfl) ?_
  refine D.r 2 rfl (Runs.fieldAddr fld194_3 rfl) ?_
  refine D.r 3 rfl (Runs.ld ty22) ?_
  refine D.r 4 rfl (Runs.move rfl) ?_
  refine D.r 5 rfl (Runs.idx (α := Int) (xs := nx1) Tryd.underlying22 ty3 rfl rfl Sl.o (by omega) (by omega)) ?_
  refine D.r 6 rfl (Runs.get (xs := nx1) ty3 rfl Sl.o (by omega) (by omega)) ?_
  refine D.r 7 rfl (Runs.move rfl) ?_
  refine D.r 8 rfl (Runs.nilCheck rfl) ?_
  refine D.r 9 rfl (Runs.fieldAddr fld194_1 rfl) ?_
  refine D.r 10 rfl (Runs.ld ty50) ?_
  refine D.r 11 rfl (Runs.move rfl) ?_
  refine D.r 12 rfl (Runs.idx (α := Row) (xs := rs) Tryd.underlying50 ty22 rfl rfl (Sl.f ho) (by omega) (by omega)) ?_
  refine D.r 13 rfl (Runs.getf0 (α := Row) (xs := rs) (u := .slice (at_ rs v).a (at_ rs v).xs.length (at_ rs v).c) ty22 rfl (Sl.f ho) (by omega) (by omega) rfl) ?_
  refine D.r 14 rfl (Runs.lens Tryd.underlying22 rfl) ?_
  refine D.r 15 rfl (Runs.lss rfl rfl) ?_
  refine D.r 16 rfl (Runs.move rfl) ?_
  refine D.split (d := 34) rfl (fun g34 => ?_) (fun g34 => ?_)
  ·refine D.ro 17 rfl (Runs.move rfl) ?_
   refine D.ro 18 rfl (Runs.move rfl) ?_
   refine D.ro 19 rfl (Runs.lss rfl rfl) ?_
   refine D.r 20 rfl (Runs.pickt rfl rfl) ?_
   refine D.done (by kernel_rfl) ?_
   refine V.then ?_
   refine W.sub (L' := [(38, _), (0, _), (1, _), (2, _), (7, _)]) (Sub.cons rfl (Sub.cons rfl (Sub.cons rfl (Sub.cons rfl (Sub.cons rfl Sub.nil))))) ?_
   refine W.ite rfl (fun c38 => ?_) (fun c38 => ?_)
   ·refine W.skip ?_
    refine V.then ?_
    refine W.cut (σ := Int × (List Int) × (List Half) × (List Int)) (fun s => ([(0, .pointer (some ⟨b, 0, none⟩)), (1, I64 (v)), (2, I64 (most)), (7, I64 (s.1))] : Env)) (fun s => blk b [hw, ow, lw, nw, I64 (n.sink)] 194 :: vc 191 (hw) (s.2.2.1) :: vc 3 (lw) (L) :: vc 3 (nw) (s.2.2.2) :: I) (fun s => (0 ≤ s.1 ∧ s.1 ≤ most) ∧ (PushR n (rowsL rs) L v s.1 f nx s.2.1 s.2.2.2) ∧ (HOk n s.2.1 s.2.2.1) ∧ (at_ s.2.2.2 v = at_ nx1 v) ∧ (¬ (0 < leftH n s.2.1 (at_ (at_ rs v).xs (at_ s.2.2.2 v)) ∧ at_ L (toH n (at_ (at_ rs v).xs (at_ s.2.2.2 v))) = at_ L v + 1 ∧ Adm n s.2.1 L (toH n (at_ (at_ rs v).xs (at_ s.2.2.2 v)))))) ?_ ?_
    ·refine W.block ?_
     refine W.seq ?_
     refine W.drawn mixed ?_
     refine A.hold (blk b [hw, ow, lw, nw, I64 (n.sink)] 194 :: vc 191 (hw) (hs1) :: vc 3 (lw) (L) :: vc 3 (nw) (nx1) :: I) 17 ?_
     refine D.r 0 rfl (Runs.move rfl) ?_
     refine D.r 1 rfl (Runs.nilCheck rfl) ?_
     refine D.r 2 rfl (Runs.fieldAddr fld194_1 rfl) ?_
     refine D.r 3 rfl (Runs.ld ty50) ?_
     refine D.r 4 rfl (Runs.move rfl) ?_
     refine D.r 5 rfl (Runs.idx (α := Row) (xs := rs) Tryd.underlying50 ty22 rfl rfl (Sl.f ho) (by omega) (by omega)) ?_
     refine D.r 6 rfl (Runs.getf0 (α := Row) (xs := rs) (u := .slice (at_ rs v).a (at_ rs v).xs.length (at_ rs v).c) ty22 rfl (Sl.f ho) (by omega) (by omega) rfl) ?_
     refine D.r 7 rfl (Runs.move rfl) ?_
     refine D.r 8 rfl (Runs.nilCheck rfl) ?_
     refine D.r 9 rfl (Runs.fieldAddr fld194_3 rfl) ?_
     refine D.r 10 rfl (Runs.ld ty22) ?_
     refine D.r 11 rfl (Runs.move rfl) ?_
     refine D.r 12 rfl (Runs.idx (α := Int) (xs := nx1) Tryd.underlying22 ty3 rfl rfl Sl.o (by omega) (by omega)) ?_
     have hm := hr.row hv0 hv1 (j := at_ nx1 v) (by omega) (by omega)
     have hg := hH1.get _ hm.1
     have hfo := from_ok hok hm.1
     have hi2 : 0 ≤ (at_ (at_ rs v).xs (at_ nx1 v)) ∧ (at_ (at_ rs v).xs (at_ nx1 v)) < 2 * n.arcs.length := hm.1
     have hlk := left_ok hH1.cap hm.1
     have hak := (arc_ok hok hm.1.half.1 hm.1.half.2).2.2.2
     have hd : at_ L (at_ hs1 (at_ (at_ rs v).xs (at_ nx1 v))).dst = at_ L (toH n (at_ (at_ rs v).xs (at_ nx1 v))) := by rw [hg.2.1]
     refine D.r 13 rfl (Runs.get (xs := nx1) ty3 rfl Sl.o (by omega) (by omega)) ?_
     refine D.r 14 rfl (Runs.idx (α := Int) (xs := (at_ rs v).xs) Tryd.underlying22 ty3 rfl rfl (Sl.fit (hrow v (by omega) (by omega)) Fit.m) (by omega) (by omega)) ?_
     refine D.r 15 rfl (Runs.get (xs := (at_ rs v).xs) ty3 rfl (Sl.fit (hrow v (by omega) (by omega)) Fit.m) (by omega) (by omega)) ?_
     refine D.r 16 rfl (Runs.assign rfl) ?_
     refine D.done (by kernel_rfl) ?_
     refine V.then ?_
     refine W.sub (L' := [(8, _), (0, _), (1, _), (2, _), (7, _)]) (Sub.cons rfl (Sub.cons rfl (Sub.cons rfl (Sub.cons rfl (Sub.cons rfl Sub.nil))))) ?_
     refine W.sr ?_
     refine G.r (Runs.move rfl) ?_
     refine G.r (Runs.nilCheck rfl) ?_
     refine G.r (Runs.fieldAddr fld194_0 rfl) ?_
     refine G.r (Runs.ld ty192) ?_
     refine G.r (Runs.move rfl) ?_
     refine G.r (Runs.idx (α := Half) (xs := hs1) Tryd.underlying192 ty191 rfl rfl Sl.o (by omega) (by omega)) ?_
     refine G.r (Runs.gets (α := Half) (xs := hs1) ty191 rfl Sl.o (by omega) (by omega)) ?_
     refine G.e (Eff.alloc ty191 rfl) ?_
     rintro _ _ ⟨b1, rfl, rfl⟩
     refine G.e (Eff.st (cs := [_, _, _, _]) (vs := [_, _, _, _]) (cs' := [_, _, _, _]) ty191) ?_
     rintro _ _ ⟨rfl, rfl⟩
     refine G.nt ?_
     refine W.seq ?_
     refine W.seq ?_
     refine W.drawn mixed ?_
     refine A.hold (blk b1 [I64 ((at_ hs1 (at_ ((at_ rs v).xs) (at_ nx1 v))).frm), I64 ((at_ hs1 (at_ ((at_ rs v).xs) (at_ nx1 v))).dst), I64 ((at_ hs1 (at_ ((at_ rs v).xs) (at_ nx1 v))).cap), I64 ((at_ hs1 (at_ ((at_ rs v).xs) (at_ nx1 v))).left)] 191 :: blk b [hw, ow, lw, nw, I64 (n.sink)] 194 :: vc 191 (hw) (hs1) :: vc 3 (lw) (L) :: vc 3 (nw) (nx1) :: I) 23 ?_
     refine D.r 0 rfl (Runs.fieldAddr fld191_1 rfl) ?_
     refine D.r 1 rfl (Runs.ld ty3) ?_
     refine D.r 2 rfl (Runs.eql rfl rfl) ?_
     refine D.r 3 rfl (Runs.move rfl) ?_
     refine D.split (d := 74) rfl (fun g74 => ?_) (fun g74 => ?_)
     ·refine D.po 4 rfl ?_
      refine D.po 5 rfl ?_
      refine D.po 6 rfl ?_
      refine D.po 7 rfl ?_
      refine D.po 8 rfl ?_
      refine D.po 9 rfl ?_
      refine D.po 10 rfl ?_
      refine D.po 11 rfl ?_
      refine D.po 12 rfl ?_
      refine D.po 13 rfl ?_
      refine D.po 14 rfl ?_
      refine D.po 15 rfl ?_
      refine D.po 16 rfl ?_
      refine D.po 17 rfl ?_
      refine D.po 18 rfl ?_
      refine D.po 19 rfl ?_
      refine D.po 20 rfl ?_
      refine D.po 21 rfl ?_
      refine D.r 22 rfl (Runs.pickt rfl rfl) ?_
      refine D.done (by kernel_rfl) ?_
      refine V.then ?_
      refine W.sub (L' := [(93, _), (9, _), (8, _), (0, _), (1, _), (2, _), (7, _)]) (Sub.cons rfl (Sub.cons rfl (Sub.cons rfl (Sub.cons rfl (Sub.cons rfl (Sub.cons rfl (Sub.cons rfl Sub.nil))))))) ?_
      refine W.yes rfl ?_
      refine W.exit ?_
      refine V.then_exit ?_
      refine V.block_hit ?_
      exact V.mid ((sent), (f1), (hs1), (nx1)) (show (0 ≤ (sent : Int) ∧ (sent : Int) ≤ most) ∧ (PushR n (rowsL rs) L v (sent : Int) f nx (f1 : List Int) (nx1 : List Int)) ∧ (HOk n (f1 : List Int) (hs1 : List Half)) ∧ (at_ (nx1 : List Int) v = at_ nx1 v) ∧ (¬ (0 < leftH n (f1 : List Int) (at_ (at_ rs v).xs (at_ (nx1 : List Int) v)) ∧ at_ L (toH n (at_ (at_ rs v).xs (at_ (nx1 : List Int) v))) = at_ L v + 1 ∧ Adm n (f1 : List Int) L (toH n (at_ (at_ rs v).xs (at_ (nx1 : List Int) v))))) from ⟨(by omega), (by first | exact hP | exact hput.1), (by first | exact hH1 | exact hHp), (by first | rfl | exact hput.2.1), (by first | (rintro ⟨a, b, c⟩; omega) | (rw [hput.2.1]; have hused2 := hused c135; rw [hm.2] at hused2; exact hused2))⟩) (Sub.cons rfl (Sub.cons rfl (Sub.cons rfl (Sub.cons lookO Sub.nil)))) (show Fit κ _ (blk b [hw, ow, lw, nw, I64 (n.sink)] 194 :: vc 191 (hw) ((hs1)) :: vc 3 (lw) (L) :: vc 3 (nw) ((nx1)) :: I) from Fit.sub)
     ·refine D.ro 4 rfl (Runs.move rfl) ?_
      refine D.ro 5 rfl (Runs.nilCheck rfl) ?_
      refine D.ro 6 rfl (Runs.fieldAddr fld194_2 rfl) ?_
      refine D.ro 7 rfl (Runs.ld ty22) ?_
      refine D.ro 8 rfl (Runs.fieldAddr fld191_0 rfl) ?_
      refine D.ro 9 rfl (Runs.fieldAddr fld161_1 rfl) ?_
      refine D.ro 10 rfl (Runs.ld ty3) ?_
      refine D.ro 11 rfl (Runs.idx (α := Int) (xs := L) Tryd.underlying22 ty3 rfl rfl Sl.o (by omega) (by omega)) ?_
      refine D.ro 12 rfl (Runs.get (xs := L) ty3 rfl Sl.o (by omega) (by omega)) ?_
      refine D.ro 13 rfl (Runs.move rfl) ?_
      refine D.ro 14 rfl (Runs.nilCheck rfl) ?_
      refine D.ro 15 rfl (Runs.fieldAddr fld194_2 rfl) ?_
      refine D.ro 16 rfl (Runs.ld ty22) ?_
      refine D.ro 17 rfl (Runs.move rfl) ?_
      refine D.ro 18 rfl (Runs.idx (α := Int) (xs := L) Tryd.underlying22 ty3 rfl rfl Sl.o (by omega) (by omega)) ?_
      refine D.ro 19 rfl (Runs.get (xs := L) ty3 rfl Sl.o (by omega) (by omega)) ?_
      refine D.ro 20 rfl (Runs.add rfl rfl (by unfold InR; omega)) ?_
      refine D.ro 21 rfl (Runs.neq rfl rfl) ?_
      refine D.r 22 rfl (Runs.pickf rfl rfl) ?_
      refine D.done (by kernel_rfl) ?_
      refine V.then ?_
      refine W.sub (L' := [(93, _), (9, _), (8, _), (0, _), (1, _), (2, _), (7, _)]) (Sub.cons rfl (Sub.cons rfl (Sub.cons rfl (Sub.cons rfl (Sub.cons rfl (Sub.cons rfl (Sub.cons rfl Sub.nil))))))) ?_
      refine W.ite rfl (fun c93 => ?_) (fun c93 => ?_)
      ·refine W.exit ?_
       refine V.then_exit ?_
       refine V.block_hit ?_
       exact V.mid ((sent), (f1), (hs1), (nx1)) (show (0 ≤ (sent : Int) ∧ (sent : Int) ≤ most) ∧ (PushR n (rowsL rs) L v (sent : Int) f nx (f1 : List Int) (nx1 : List Int)) ∧ (HOk n (f1 : List Int) (hs1 : List Half)) ∧ (at_ (nx1 : List Int) v = at_ nx1 v) ∧ (¬ (0 < leftH n (f1 : List Int) (at_ (at_ rs v).xs (at_ (nx1 : List Int) v)) ∧ at_ L (toH n (at_ (at_ rs v).xs (at_ (nx1 : List Int) v))) = at_ L v + 1 ∧ Adm n (f1 : List Int) L (toH n (at_ (at_ rs v).xs (at_ (nx1 : List Int) v))))) from ⟨(by omega), (by first | exact hP | exact hput.1), (by first | exact hH1 | exact hHp), (by first | rfl | exact hput.2.1), (by first | (rintro ⟨a, b, c⟩; omega) | (rw [hput.2.1]; have hused2 := hused c135; rw [hm.2] at hused2; exact hused2))⟩) (Sub.cons rfl (Sub.cons rfl (Sub.cons rfl (Sub.cons lookO Sub.nil)))) (show Fit κ _ (blk b [hw, ow, lw, nw, I64 (n.sink)] 194 :: vc 191 (hw) ((hs1)) :: vc 3 (lw) (L) :: vc 3 (nw) ((nx1)) :: I) from Fit.sub)
      ·refine W.skip ?_
       refine V.then ?_
       refine W.sr ?_
       refine G.r (Runs.move rfl) ?_
       refine G.r (Runs.fieldAddr fld191_0 rfl) ?_
       refine G.r (Runs.fieldAddr fld161_1 rfl) ?_
       refine G.r (Runs.ld ty3) ?_
       refine G.r (Runs.move rfl) ?_
       refine G.r (Runs.move rfl) ?_
       refine G.r (Runs.sub rfl rfl (by unfold InR; omega)) ?_
       refine G.r (Runs.fieldAddr fld191_1 rfl) ?_
       refine G.r (Runs.ld ty3) ?_
       refine G.r (Runs.min rfl rfl) ?_
       refine G.e (Eff.call call213 rfl rfl (CallS.fit (J := blk b [hw, ow, lw, nw, I64 (n.sink)] 194 :: vc 191 (hw) (hs1) :: vc 3 (lw) (L) :: vc 3 (nw) (nx1) :: I) Fit.sub (ih (at_ hs1 (at_ (at_ rs v).xs (at_ nx1 v))).dst (if ((at_ hs1 (at_ ((at_ rs v).xs) (at_ nx1 v))).left) < (most - sent) then ((at_ hs1 (at_ ((at_ rs v).xs) (at_ nx1 v))).left) else (most - sent)) f1 nx1 hs1 (by omega) (by omega) (by omega) (by omega) (by split <;> omega) (by split <;> omega) hH1 hP.dead hP.nge (by omega)))) ?_
       rintro _ _ ⟨_, _, ⟨d2, f3, hs4, nx5, rfl, ⟨hbd2, hPd2, hHd2, hAd2⟩, rfl⟩, rfl, rfl⟩
       show G Tryd.prog κ _ _ _ _ ([(104, I64 (d2)), (103, I64 (if ((at_ hs1 (at_ ((at_ rs v).xs) (at_ nx1 v))).left) < (most - sent) then ((at_ hs1 (at_ ((at_ rs v).xs) (at_ nx1 v))).left) else (most - sent))), (102, I64 ((at_ hs1 (at_ ((at_ rs v).xs) (at_ nx1 v))).left)), (101, .pointer (some ⟨b1, 3, none⟩)), (100, I64 (most - sent)), (99, I64 (sent)), (98, I64 (most)), (97, I64 ((at_ hs1 (at_ ((at_ rs v).xs) (at_ nx1 v))).dst)), (96, .pointer (some ⟨b1, 1, none⟩)), (95, .pointer (some ⟨b1, 0, none⟩)), (94, .pointer (some ⟨b, 0, none⟩)), (93, .bool (decide ((at_ L ((at_ hs1 (at_ ((at_ rs v).xs) (at_ nx1 v))).dst)) ≠ ((at_ L v) + 1)))), (9, .pointer (some ⟨b1, 0, none⟩)), (8, I64 (at_ ((at_ rs v).xs) (at_ nx1 v))), (0, .pointer (some ⟨b, 0, none⟩)), (1, I64 (v)), (2, I64 (most)), (7, I64 (sent))] : Env) (blk b [hw, ow, lw, nw, I64 (n.sink)] 194 :: vc 191 (hw) (hs4) :: vc 3 (lw) (L) :: vc 3 (nw) (nx5) :: I)
       rw [hg.2.1] at hPd2 hAd2
       have hL1 : at_ L (toH n (at_ (at_ rs v).xs (at_ nx1 v))) = at_ L v + 1 := by omega
       have hle : d2 ≤ (if (at_ hs1 (at_ (at_ rs v).xs (at_ nx1 v))).left < most - sent then (at_ hs1 (at_ (at_ rs v).xs (at_ nx1 v))).left else most - sent) := hbd2.2
       have hle2 : d2 ≤ (at_ hs1 (at_ (at_ rs v).xs (at_ nx1 v))).left ∧ d2 ≤ most - sent := by revert hle; split <;> omega
       have hput := hP.put hok hr hm.1 hm.2 hL1 hs0 hbd2.1 (by omega) hPd2
       have hg2 := hHd2.get _ hm.1
       have hg3 := hHd2.get _ hm.1.mate
       have hls := left_sum n f3 (at_ (at_ rs v).xs (at_ nx1 v))
       have hhl2 := hHd2.len
       have hlk2 := left_ok hHd2.cap hm.1
       have hlk3 := left_ok hHd2.cap hm.1.mate
       have hmi : 0 ≤ mateH (at_ (at_ rs v).xs (at_ nx1 v)) ∧ mateH (at_ (at_ rs v).xs (at_ nx1 v)) < 2 * n.arcs.length := hm.1.mate
       have hmh := mate_half (at_ (at_ rs v).xs (at_ nx1 v))
       rw [hmh] at hlk3
       have hused := fun (hne : ¬ sent + d2 = most) => PushR.used (e := d2) (m := (if (at_ hs1 (at_ (at_ rs v).xs (at_ nx1 v))).left < most - sent then (at_ hs1 (at_ (at_ rs v).xs (at_ nx1 v))).left else most - sent)) hm.1 (Decidable.byCases (fun h : d2 < (if (at_ hs1 (at_ (at_ rs v).xs (at_ nx1 v))).left < most - sent then (at_ hs1 (at_ (at_ rs v).xs (at_ nx1 v))).left else most - sent) => .inl h) (fun h => .inr (by have hls2 := hput.2.2; revert h; split <;> omega))) (fun h => hAd2 h) hPd2.len hbd2.1 (by rw [hm.2]; exact hL1)
       refine G.r (Runs.assign rfl) ?_
       refine G.nt ?_
       refine W.sub (L' := [(10, _), (8, _), (0, _), (1, _), (2, _), (7, _)]) (Sub.cons rfl (Sub.cons rfl (Sub.cons rfl (Sub.cons rfl (Sub.cons rfl (Sub.cons rfl Sub.nil)))))) ?_
       refine W.sr ?_
       refine G.r (Runs.move rfl) ?_
       refine G.r (Runs.nilCheck rfl) ?_
       refine G.r (Runs.fieldAddr fld194_0 rfl) ?_
       refine G.r (Runs.ld ty192) ?_
       refine G.r (Runs.move rfl) ?_
       refine G.r (Runs.idx (α := Half) (xs := hs4) Tryd.underlying192 ty191 rfl rfl Sl.o (by omega) (by omega)) ?_
       refine G.r (Runs.fld (α := Half) (xs := hs4) fld191_1 rfl Sl.o (by omega)) ?_
       refine G.r (Runs.getf (α := Half) (xs := hs4) (u := I64 ((at_ hs4 (at_ ((at_ rs v).xs) (at_ nx1 v))).left)) ty3 rfl Sl.o (by omega) (by omega) rfl) ?_
       refine G.r (Runs.move rfl) ?_
       refine G.r (Runs.sub rfl rfl (by unfold InR; omega)) ?_
       refine G.r (Runs.idx (α := Half) (xs := hs4) Tryd.underlying192 ty191 rfl rfl Sl.o (by omega) (by omega)) ?_
       refine G.r (Runs.fld (α := Half) (xs := hs4) fld191_1 rfl Sl.o (by omega)) ?_
       refine G.e (Eff.setf (α := Half) (xs := hs4) (e := 191) (new := { at_ hs4 (at_ ((at_ rs v).xs) (at_ nx1 v)) with left := ((at_ hs4 (at_ ((at_ rs v).xs) (at_ nx1 v))).left) - d2 }) (j := 3) ty3 rfl rfl rfl rfl (by decide) rfl (by omega) (by omega) (by repeat (first | exact At.head _ _ _ | apply At.tail))) ?_
       rintro _ _ ⟨rfl, rfl⟩
       have hmt : at_ (List.set hs4 (at_ ((at_ rs v).xs) (at_ nx1 v)).toNat ({ at_ hs4 (at_ ((at_ rs v).xs) (at_ nx1 v)) with left := ((at_ hs4 (at_ ((at_ rs v).xs) (at_ nx1 v))).left) - d2 })) (mateH (at_ (at_ rs v).xs (at_ nx1 v))) = at_ hs4 (mateH (at_ (at_ rs v).xs (at_ nx1 v))) := by rw [at_set hs4 _ _ _ (by omega) (by omega) (by omega), if_neg (fun e => mate_ne _ e.symm)]
       have hmt1 : (at_ (List.set hs4 (at_ ((at_ rs v).xs) (at_ nx1 v)).toNat ({ at_ hs4 (at_ ((at_ rs v).xs) (at_ nx1 v)) with left := ((at_ hs4 (at_ ((at_ rs v).xs) (at_ nx1 v))).left) - d2 })) (mateH (at_ (at_ rs v).xs (at_ nx1 v)))).left = leftH n f3 (mateH (at_ (at_ rs v).xs (at_ nx1 v))) := by rw [hmt]; exact hg3.2.2
       have hsl : (List.set hs4 (at_ ((at_ rs v).xs) (at_ nx1 v)).toNat ({ at_ hs4 (at_ ((at_ rs v).xs) (at_ nx1 v)) with left := ((at_ hs4 (at_ ((at_ rs v).xs) (at_ nx1 v))).left) - d2 })).length = hs4.length := List.length_set
       refine G.nt ?_
       refine W.sub (L' := [(10, _), (8, _), (0, _), (1, _), (2, _), (7, _)]) (Sub.cons rfl (Sub.cons rfl (Sub.cons rfl (Sub.cons rfl (Sub.cons rfl (Sub.cons rfl Sub.nil)))))) ?_
       refine W.sr ?_
       refine G.r (Runs.move rfl) ?_
       refine G.r (Runs.nilCheck rfl) ?_
       refine G.r (Runs.fieldAddr fld194_0 rfl) ?_
       refine G.r (Runs.ld ty192) ?_
       refine G.r (Runs.move rfl) ?_
       refine G.r ((xor_mate (i := at_ ((at_ rs v).xs) (at_ nx1 v)) (by omega) (by omega)) ▸ Runs.xorw rfl rfl) ?_
       refine G.r (Runs.idx (α := Half) (xs := List.set hs4 (at_ ((at_ rs v).xs) (at_ nx1 v)).toNat ({ at_ hs4 (at_ ((at_ rs v).xs) (at_ nx1 v)) with left := ((at_ hs4 (at_ ((at_ rs v).xs) (at_ nx1 v))).left) - d2 })) Tryd.underlying192 ty191 rfl rfl Sl.o (by omega) (by omega)) ?_
       refine G.r (Runs.fld (α := Half) (xs := List.set hs4 (at_ ((at_ rs v).xs) (at_ nx1 v)).toNat ({ at_ hs4 (at_ ((at_ rs v).xs) (at_ nx1 v)) with left := ((at_ hs4 (at_ ((at_ rs v).xs) (at_ nx1 v))).left) - d2 })) fld191_1 rfl Sl.o (by omega)) ?_
       refine G.r (Runs.getf (α := Half) (xs := List.set hs4 (at_ ((at_ rs v).xs) (at_ nx1 v)).toNat ({ at_ hs4 (at_ ((at_ rs v).xs) (at_ nx1 v)) with left := ((at_ hs4 (at_ ((at_ rs v).xs) (at_ nx1 v))).left) - d2 })) (u := I64 ((at_ (List.set hs4 (at_ ((at_ rs v).xs) (at_ nx1 v)).toNat ({ at_ hs4 (at_ ((at_ rs v).xs) (at_ nx1 v)) with left := ((at_ hs4 (at_ ((at_ rs v).xs) (at_ nx1 v))).left) - d2 })) (mateH (at_ ((at_ rs v).xs) (at_ nx1 v)))).left)) ty3 rfl Sl.o (by omega) (by omega) rfl) ?_
       refine G.r (Runs.move rfl) ?_
       refine G.r (Runs.add rfl rfl (by unfold InR; omega)) ?_
       refine G.r (Runs.idx (α := Half) (xs := List.set hs4 (at_ ((at_ rs v).xs) (at_ nx1 v)).toNat ({ at_ hs4 (at_ ((at_ rs v).xs) (at_ nx1 v)) with left := ((at_ hs4 (at_ ((at_ rs v).xs) (at_ nx1 v))).left) - d2 })) Tryd.underlying192 ty191 rfl rfl Sl.o (by omega) (by omega)) ?_
       refine G.r (Runs.fld (α := Half) (xs := List.set hs4 (at_ ((at_ rs v).xs) (at_ nx1 v)).toNat ({ at_ hs4 (at_ ((at_ rs v).xs) (at_ nx1 v)) with left := ((at_ hs4 (at_ ((at_ rs v).xs) (at_ nx1 v))).left) - d2 })) fld191_1 rfl Sl.o (by omega)) ?_
       refine G.e (Eff.setf (α := Half) (xs := List.set hs4 (at_ ((at_ rs v).xs) (at_ nx1 v)).toNat ({ at_ hs4 (at_ ((at_ rs v).xs) (at_ nx1 v)) with left := ((at_ hs4 (at_ ((at_ rs v).xs) (at_ nx1 v))).left) - d2 })) (e := 191) (new := { at_ (List.set hs4 (at_ ((at_ rs v).xs) (at_ nx1 v)).toNat ({ at_ hs4 (at_ ((at_ rs v).xs) (at_ nx1 v)) with left := ((at_ hs4 (at_ ((at_ rs v).xs) (at_ nx1 v))).left) - d2 })) (mateH (at_ ((at_ rs v).xs) (at_ nx1 v))) with left := ((at_ (List.set hs4 (at_ ((at_ rs v).xs) (at_ nx1 v)).toNat ({ at_ hs4 (at_ ((at_ rs v).xs) (at_ nx1 v)) with left := ((at_ hs4 (at_ ((at_ rs v).xs) (at_ nx1 v))).left) - d2 })) (mateH (at_ ((at_ rs v).xs) (at_ nx1 v)))).left) + d2 }) (j := 3) ty3 rfl rfl rfl rfl (by decide) rfl (by omega) (by omega) (by repeat (first | exact At.head _ _ _ | apply At.tail))) ?_
       rintro _ _ ⟨rfl, rfl⟩
       have hHp : HOk n (pushF f3 (at_ (at_ rs v).xs (at_ nx1 v)) d2) (List.set (List.set hs4 (at_ ((at_ rs v).xs) (at_ nx1 v)).toNat ({ at_ hs4 (at_ ((at_ rs v).xs) (at_ nx1 v)) with left := ((at_ hs4 (at_ ((at_ rs v).xs) (at_ nx1 v))).left) - d2 })) (mateH (at_ ((at_ rs v).xs) (at_ nx1 v))).toNat ({ at_ (List.set hs4 (at_ ((at_ rs v).xs) (at_ nx1 v)).toNat ({ at_ hs4 (at_ ((at_ rs v).xs) (at_ nx1 v)) with left := ((at_ hs4 (at_ ((at_ rs v).xs) (at_ nx1 v))).left) - d2 })) (mateH (at_ ((at_ rs v).xs) (at_ nx1 v))) with left := ((at_ (List.set hs4 (at_ ((at_ rs v).xs) (at_ nx1 v)).toNat ({ at_ hs4 (at_ ((at_ rs v).xs) (at_ nx1 v)) with left := ((at_ hs4 (at_ ((at_ rs v).xs) (at_ nx1 v))).left) - d2 })) (mateH (at_ ((at_ rs v).xs) (at_ nx1 v)))).left) + d2 })) := hHd2.push hm.1 hbd2.1 (by omega)
       refine G.nt ?_
       refine W.sub (L' := [(10, _), (0, _), (1, _), (2, _), (7, _)]) (Sub.cons rfl (Sub.cons rfl (Sub.cons rfl (Sub.cons rfl (Sub.cons rfl Sub.nil))))) ?_
       refine W.sr ?_
       refine G.r (Runs.move rfl) ?_
       refine G.r (Runs.move rfl) ?_
       refine G.r (Runs.add rfl rfl (by unfold InR; omega)) ?_
       refine G.r (Runs.assign rfl) ?_
       refine G.nt ?_
       refine W.sr ?_
       refine G.r (Runs.move rfl) ?_
       refine G.r (Runs.move rfl) ?_
       refine G.r (Runs.eql rfl rfl) ?_
       refine G.nt ?_
       refine W.ite rfl (fun c135 => ?_) (fun c135 => ?_)
       ·refine W.sr ?_
        refine G.r (Runs.move rfl) ?_
        refine G.r (Runs.assign rfl) ?_
        refine G.nt ?_
        refine W.sub (L' := [(6, _)]) (Sub.cons rfl Sub.nil) ?_
        refine W.ret ?_
        refine V.block_ret ?_
        refine V.then_ret ?_
        refine V.then_ret ?_
        refine V.block_ret ?_
        refine V.then_ret ?_
        exact V.ret1 rfl rfl (blk b [hw, ow, lw, nw, I64 (n.sink)] 194 :: vc 191 (hw) (List.set (List.set hs4 (at_ ((at_ rs v).xs) (at_ nx1 v)).toNat ({ at_ hs4 (at_ ((at_ rs v).xs) (at_ nx1 v)) with left := ((at_ hs4 (at_ ((at_ rs v).xs) (at_ nx1 v))).left) - d2 })) (mateH (at_ ((at_ rs v).xs) (at_ nx1 v))).toNat ({ at_ (List.set hs4 (at_ ((at_ rs v).xs) (at_ nx1 v)).toNat ({ at_ hs4 (at_ ((at_ rs v).xs) (at_ nx1 v)) with left := ((at_ hs4 (at_ ((at_ rs v).xs) (at_ nx1 v))).left) - d2 })) (mateH (at_ ((at_ rs v).xs) (at_ nx1 v))) with left := ((at_ (List.set hs4 (at_ ((at_ rs v).xs) (at_ nx1 v)).toNat ({ at_ hs4 (at_ ((at_ rs v).xs) (at_ nx1 v)) with left := ((at_ hs4 (at_ ((at_ rs v).xs) (at_ nx1 v))).left) - d2 })) (mateH (at_ ((at_ rs v).xs) (at_ nx1 v)))).left) + d2 })) :: vc 3 (lw) (L) :: vc 3 (nw) (nx5) :: I) Fit.sub ⟨_, _, _, _, rfl, ⟨⟨by omega, by omega⟩, hput.1, hHp, fun h => by omega⟩, rfl⟩
       ·refine W.skip ?_
        refine V.block_normal ?_
        exact V.mid ((sent + d2), (pushF f3 (at_ (at_ rs v).xs (at_ nx1 v)) d2), (List.set (List.set hs4 (at_ ((at_ rs v).xs) (at_ nx1 v)).toNat ({ at_ hs4 (at_ ((at_ rs v).xs) (at_ nx1 v)) with left := ((at_ hs4 (at_ ((at_ rs v).xs) (at_ nx1 v))).left) - d2 })) (mateH (at_ ((at_ rs v).xs) (at_ nx1 v))).toNat ({ at_ (List.set hs4 (at_ ((at_ rs v).xs) (at_ nx1 v)).toNat ({ at_ hs4 (at_ ((at_ rs v).xs) (at_ nx1 v)) with left := ((at_ hs4 (at_ ((at_ rs v).xs) (at_ nx1 v))).left) - d2 })) (mateH (at_ ((at_ rs v).xs) (at_ nx1 v))) with left := ((at_ (List.set hs4 (at_ ((at_ rs v).xs) (at_ nx1 v)).toNat ({ at_ hs4 (at_ ((at_ rs v).xs) (at_ nx1 v)) with left := ((at_ hs4 (at_ ((at_ rs v).xs) (at_ nx1 v))).left) - d2 })) (mateH (at_ ((at_ rs v).xs) (at_ nx1 v)))).left) + d2 })), (nx5)) (show (0 ≤ (sent + d2 : Int) ∧ (sent + d2 : Int) ≤ most) ∧ (PushR n (rowsL rs) L v (sent + d2 : Int) f nx (pushF f3 (at_ (at_ rs v).xs (at_ nx1 v)) d2 : List Int) (nx5 : List Int)) ∧ (HOk n (pushF f3 (at_ (at_ rs v).xs (at_ nx1 v)) d2 : List Int) (List.set (List.set hs4 (at_ ((at_ rs v).xs) (at_ nx1 v)).toNat ({ at_ hs4 (at_ ((at_ rs v).xs) (at_ nx1 v)) with left := ((at_ hs4 (at_ ((at_ rs v).xs) (at_ nx1 v))).left) - d2 })) (mateH (at_ ((at_ rs v).xs) (at_ nx1 v))).toNat ({ at_ (List.set hs4 (at_ ((at_ rs v).xs) (at_ nx1 v)).toNat ({ at_ hs4 (at_ ((at_ rs v).xs) (at_ nx1 v)) with left := ((at_ hs4 (at_ ((at_ rs v).xs) (at_ nx1 v))).left) - d2 })) (mateH (at_ ((at_ rs v).xs) (at_ nx1 v))) with left := ((at_ (List.set hs4 (at_ ((at_ rs v).xs) (at_ nx1 v)).toNat ({ at_ hs4 (at_ ((at_ rs v).xs) (at_ nx1 v)) with left := ((at_ hs4 (at_ ((at_ rs v).xs) (at_ nx1 v))).left) - d2 })) (mateH (at_ ((at_ rs v).xs) (at_ nx1 v)))).left) + d2 }) : List Half)) ∧ (at_ (nx5 : List Int) v = at_ nx1 v) ∧ (¬ (0 < leftH n (pushF f3 (at_ (at_ rs v).xs (at_ nx1 v)) d2 : List Int) (at_ (at_ rs v).xs (at_ (nx5 : List Int) v)) ∧ at_ L (toH n (at_ (at_ rs v).xs (at_ (nx5 : List Int) v))) = at_ L v + 1 ∧ Adm n (pushF f3 (at_ (at_ rs v).xs (at_ nx1 v)) d2 : List Int) L (toH n (at_ (at_ rs v).xs (at_ (nx5 : List Int) v))))) from ⟨(by omega), (by first | exact hP | exact hput.1), (by first | exact hH1 | exact hHp), (by first | rfl | exact hput.2.1), (by first | (rintro ⟨a, b, c⟩; omega) | (rw [hput.2.1]; have hused2 := hused c135; rw [hm.2] at hused2; exact hused2))⟩) (Sub.cons rfl (Sub.cons rfl (Sub.cons rfl (Sub.cons lookO Sub.nil)))) (show Fit κ _ (blk b [hw, ow, lw, nw, I64 (n.sink)] 194 :: vc 191 (hw) ((List.set (List.set hs4 (at_ ((at_ rs v).xs) (at_ nx1 v)).toNat ({ at_ hs4 (at_ ((at_ rs v).xs) (at_ nx1 v)) with left := ((at_ hs4 (at_ ((at_ rs v).xs) (at_ nx1 v))).left) - d2 })) (mateH (at_ ((at_ rs v).xs) (at_ nx1 v))).toNat ({ at_ (List.set hs4 (at_ ((at_ rs v).xs) (at_ nx1 v)).toNat ({ at_ hs4 (at_ ((at_ rs v).xs) (at_ nx1 v)) with left := ((at_ hs4 (at_ ((at_ rs v).xs) (at_ nx1 v))).left) - d2 })) (mateH (at_ ((at_ rs v).xs) (at_ nx1 v))) with left := ((at_ (List.set hs4 (at_ ((at_ rs v).xs) (at_ nx1 v)).toNat ({ at_ hs4 (at_ ((at_ rs v).xs) (at_ nx1 v)) with left := ((at_ hs4 (at_ ((at_ rs v).xs) (at_ nx1 v))).left) - d2 })) (mateH (at_ ((at_ rs v).xs) (at_ nx1 v)))).left) + d2 }))) :: vc 3 (lw) (L) :: vc 3 (nw) ((nx5)) :: I) from Fit.sub)
    ·rintro ⟨sent2, f2, hs2, nx2⟩ hp
     obtain ⟨hs20, hP2, hH2, hnx2, hD2⟩ : (0 ≤ sent2 ∧ sent2 ≤ most) ∧ (PushR n (rowsL rs) L v sent2 f nx f2 nx2) ∧ (HOk n f2 hs2) ∧ (at_ nx2 v = at_ nx1 v) ∧ (¬ (0 < leftH n f2 (at_ (at_ rs v).xs (at_ nx2 v)) ∧ at_ L (toH n (at_ (at_ rs v).xs (at_ nx2 v))) = at_ L v + 1 ∧ Adm n f2 L (toH n (at_ (at_ rs v).xs (at_ nx2 v))))) := hp
     show W Tryd.prog κ 138 _ _ ([(0, .pointer (some ⟨b, 0, none⟩)), (1, I64 (v)), (2, I64 (most)), (7, I64 (sent2))] : Env) (blk b [hw, ow, lw, nw, I64 (n.sink)] 194 :: vc 191 (hw) (hs2) :: vc 3 (lw) (L) :: vc 3 (nw) (nx2) :: I)
     refine W.region ?_
     refine G.r (Runs.move rfl) ?_
     have hnl2 := hP2.nlen
     have hnx20 := hP2.nge v hv0 hv1
     refine G.r (Runs.nilCheck rfl) ?_
     refine G.r (Runs.fieldAddr fld194_3 rfl) ?_
     refine G.r (Runs.ld ty22) ?_
     refine G.r (Runs.move rfl) ?_
     refine G.r (Runs.idx (α := Int) (xs := nx2) Tryd.underlying22 ty3 rfl rfl Sl.o (by omega) (by omega)) ?_
     refine G.r (Runs.get (xs := nx2) ty3 rfl Sl.o (by omega) (by omega)) ?_
     refine G.r (Runs.add rfl rfl (by unfold InR; omega)) ?_
     refine G.r (Runs.idx (α := Int) (xs := nx2) Tryd.underlying22 ty3 rfl rfl Sl.o (by omega) (by omega)) ?_
     refine G.e (Eff.set (α := Int) (xs := nx2) (e := 3) (new := (at_ nx2 v) + 1) ty3 rfl rfl rfl (by omega) (by omega) (by repeat (first | exact At.head _ _ _ | apply At.tail))) ?_
     rintro _ _ ⟨rfl, rfl⟩
     refine G.nil ?_
     exact V.next ((sent2), (f2), (hs2), (List.set nx2 (v).toNat ((at_ nx2 v) + 1))) (show (0 ≤ (sent2 : Int)) ∧ ((sent2 : Int) ≤ most) ∧ (PushR n (rowsL rs) L v (sent2 : Int) f nx (f2 : List Int) (List.set nx2 (v).toNat ((at_ nx2 v) + 1) : List Int)) ∧ (HOk n (f2 : List Int) (hs2 : List Half)) from ⟨(by omega), (by omega), (hP2.adv (by omega) (by rw [rowsL_at]; exact hD2) hv1), hH2⟩) (show ((at_ rs v).xs.length - at_ (List.set nx2 (v).toNat ((at_ nx2 v) + 1) : List Int) v).toNat < ((at_ rs v).xs.length - at_ nx1 v).toNat from (by rw [at_set nx2 v v _ hv0 hv0 (by omega), if_pos rfl]; omega)) (Sub.cons rfl (Sub.cons rfl (Sub.cons rfl (Sub.cons lookO Sub.nil)))) (show Fit κ _ (blk b [hw, ow, lw, nw, I64 (n.sink)] 194 :: vc 191 (hw) ((hs2)) :: vc 3 (lw) (L) :: vc 3 (nw) ((List.set nx2 (v).toNat ((at_ nx2 v) + 1))) :: I) from Fit.sub)
   ·refine W.exit ?_
    refine V.then_exit ?_
    refine V.then_exit ?_
    refine V.block_hit ?_
    refine V.then ?_
    refine W.sr ?_
    refine G.r (Runs.move rfl) ?_
    refine G.r (Runs.assign rfl) ?_
    refine G.nt ?_
    refine W.ret ?_
    exact V.ret1 rfl rfl (blk b [hw, ow, lw, nw, I64 (n.sink)] 194 :: vc 191 (hw) (hs1) :: vc 3 (lw) (L) :: vc 3 (nw) (nx1) :: I) Fit.sub ⟨_, _, _, _, rfl, ⟨⟨hs0, hs9⟩, hP, hH1, fun h => by first | omega | exact Dead.not hr hP.dead ⟨hv0, hv1⟩ c16 (by rw [rowsL_at]; omega)⟩, rfl⟩
  ·refine D.po 17 rfl ?_
   refine D.po 18 rfl ?_
   refine D.po 19 rfl ?_
   refine D.r 20 rfl (Runs.pickf rfl rfl) ?_
   refine D.done (by kernel_rfl) ?_
   refine V.then ?_
   refine W.sub (L' := [(38, _), (0, _), (1, _), (2, _), (7, _)]) (Sub.cons rfl (Sub.cons rfl (Sub.cons rfl (Sub.cons rfl (Sub.cons rfl Sub.nil))))) ?_
   refine W.no rfl ?_
   refine W.exit ?_
   refine V.then_exit ?_
   refine V.then_exit ?_
   refine V.block_hit ?_
   refine V.then ?_
   refine W.sr ?_
   refine G.r (Runs.move rfl) ?_
   refine G.r (Runs.assign rfl) ?_
   refine G.nt ?_
   refine W.ret ?_
   exact V.ret1 rfl rfl (blk b [hw, ow, lw, nw, I64 (n.sink)] 194 :: vc 191 (hw) (hs1) :: vc 3 (lw) (L) :: vc 3 (nw) (nx1) :: I) Fit.sub ⟨_, _, _, _, rfl, ⟨⟨hs0, hs9⟩, hP, hH1, fun h => by first | omega | exact Dead.not hr hP.dead ⟨hv0, hv1⟩ c16 (by rw [rowsL_at]; omega)⟩, rfl⟩

end Go.Sl
namespace Go.Sl
open Go.Proofs
set_option linter.unusedVariables false
set_option linter.unusedSimpArgs false
set_option maxRecDepth 4000
theorem Push_ok {κ : Ctx} {I : List Item} {n : Net} {rs : List Row} {b : Nat} {hw ow lw nw : Value} {L : List Int} (hok : n.Ok) (hr : ROk n (rowsL rs)) (ho : Sl κ I ow rs) (hrow : ∀ i : Int, 0 ≤ i → i < rs.length → Sl κ I (.slice (at_ rs i).a (at_ rs i).xs.length (at_ rs i).c) (at_ rs i).xs) (hL : (L.length : Int) = n.nodes) (hlow : ∀ z : Int, 0 ≤ z → z < n.nodes → -1 ≤ at_ L z ∧ at_ L z < n.nodes) : ∀ (d : Nat) (lv : Int), n.nodes - lv ≤ d → PushC κ I n rs b hw ow lw nw L lv := by
  intro d
  induction d with
  | zero =>
    intro lv hd v most f nx hs hlv h0 h1
    have := (hlow v h0 h1).2
    omega
  | succ d ih =>
    intro lv hd v most f nx hs hlv h0 h1 h2 h3 h4 h5 h6 h7 h8
    exact Push_step hok hr ho hrow hL hlow (ih (lv + 1) (by omega)) hlv h0 h1 h2 h3 h4 h5 h6 h7 h8

theorem Greatest_ok {κ : Ctx} {I : List Item} {n : Net} {f : List Int} {hs : List Half} {rs : List Row} {b : Nat} {hw ow lw nw : Value} {L nx : List Int} (hok : n.Ok) (hh : HOk n f hs) (hr : ROk n (rowsL rs)) (ho : Sl κ I ow rs) (hrow : ∀ i : Int, 0 ≤ i → i < rs.length → Sl κ I (.slice (at_ rs i).a (at_ rs i).xs.length (at_ rs i).c) (at_ rs i).xs) (hL : (L.length : Int) = n.nodes) (hN : (nx.length : Int) = n.nodes) (hf : IsFlow n f) (hv0 : netF n f n.source = 0) :
    CallS Tryd.prog κ 187 [.pointer (some ⟨b, 0, none⟩), I64 (n.source)] (blk b [hw, ow, lw, nw, I64 (n.sink)] 194 :: vc 191 (hw) (hs) :: vc 3 (lw) (L) :: vc 3 (nw) (nx) :: I) (fun r J => ∃ (val : Int) (f' : List Int) (hs' : List Half) (L' nx' : List Int), r = I64 val ∧ (Full n f' val ∧ HOk n f' hs') ∧ J = blk b [hw, ow, lw, nw, I64 (n.sink)] 194 :: vc 191 (hw) (hs') :: vc 3 (lw) (L') :: vc 3 (nw) (nx') :: I) := by
 have hlim := hok.lim
 have hsrc := hok.src
 have hsnk := hok.snk
 refine CallS.enter (L := [(0, .pointer (some ⟨b, 0, none⟩)), (1, I64 (n.source))]) Tryd.func187 rfl rfl rfl rfl ?_
 refine W.sr ?_
 refine G.r (Runs.assign rfl) ?_
 refine G.nt ?_
 refine W.sr ?_
 refine G.r (Runs.assign rfl) ?_
 refine G.nt ?_
 refine W.seq ?_
 refine W.block ?_
 refine W.loop (σ := Int × (List Int) × (List Half) × (List Int) × (List Int)) (fun s => ([(0, .pointer (some ⟨b, 0, none⟩)), (1, I64 (n.source)), (5, I64 (s.1))] : Env)) (fun s => blk b [hw, ow, lw, nw, I64 (n.sink)] 194 :: vc 191 (hw) (s.2.2.1) :: vc 3 (lw) (s.2.2.2.1) :: vc 3 (nw) (s.2.2.2.2) :: I) (fun s => (IsFlow n s.2.1) ∧ (s.1 = netF n s.2.1 n.source) ∧ (0 ≤ s.1) ∧ (HOk n s.2.1 s.2.2.1) ∧ ((s.2.2.2.1.length : Int) = n.nodes) ∧ ((s.2.2.2.2.length : Int) = n.nodes)) (fun s => (18014398509481984 - s.1).toNat) (0, f, hs, L, nx) (show (IsFlow n (f : List Int)) ∧ ((0 : Int) = netF n (f : List Int) n.source) ∧ (0 ≤ (0 : Int)) ∧ (HOk n (f : List Int) (hs : List Half)) ∧ (((L : List Int).length : Int) = n.nodes) ∧ (((nx : List Int).length : Int) = n.nodes) from ⟨hf, hv0.symm, (by omega), hh, hL, hN⟩) (Sub.cons rfl (Sub.cons rfl (Sub.cons lookO Sub.nil))) (show Fit κ _ (blk b [hw, ow, lw, nw, I64 (n.sink)] 194 :: vc 191 (hw) ((hs)) :: vc 3 (lw) ((L)) :: vc 3 (nw) ((nx)) :: I) from Fit.sub) ?_
 rintro ⟨val, f, hs, L, nx⟩ hp
 obtain ⟨hf, hval, hv0, hh, hL, hN⟩ : (IsFlow n f) ∧ (val = netF n f n.source) ∧ (0 ≤ val) ∧ (HOk n f hs) ∧ ((L.length : Int) = n.nodes) ∧ ((nx.length : Int) = n.nodes) := hp
 show W Tryd.prog κ 15 _ _ ([(0, .pointer (some ⟨b, 0, none⟩)), (1, I64 (n.source)), (5, I64 (val))] : Env) (blk b [hw, ow, lw, nw, I64 (n.sink)] 194 :: vc 191 (hw) (hs) :: vc 3 (lw) (L) :: vc 3 (nw) (nx) :: I)
 refine W.seq ?_
 refine W.sr ?_
 refine G.r (Runs.move rfl) ?_
 refine G.r (Runs.move rfl) ?_
 refine G.e (Eff.call call212 rfl rfl (Layers_ok (n := n) (f := f) hok hh hr ho hrow (by omega) (by omega))) ?_
 rintro _ _ ⟨_, _, ⟨L1, nx2, rfl, ⟨hVL1, hnL1, hzL1⟩, rfl⟩, rfl, rfl⟩
 show G Tryd.prog κ _ _ _ _ ([(8, .bool (decide (0 ≤ at_ L1 n.sink))), (7, I64 (n.source)), (6, .pointer (some ⟨b, 0, none⟩)), (0, .pointer (some ⟨b, 0, none⟩)), (1, I64 (n.source)), (5, I64 (val))] : Env) (blk b [hw, ow, lw, nw, I64 (n.sink)] 194 :: vc 191 (hw) (hs) :: vc 3 (lw) (L1) :: vc 3 (nw) (nx2) :: I)
 have hlL1 := hVL1.len
 refine G.nt ?_
 refine W.ite rfl (fun c8 => ?_) (fun c8 => ?_)
 ·refine W.skip ?_
  refine V.then ?_
  refine W.block ?_
  refine W.region ?_
  refine G.r (Runs.move rfl) ?_
  refine G.r (Runs.move rfl) ?_
  refine G.r (Runs.move rfl) ?_
  refine G.e (Eff.call call213 rfl rfl (CallS.fit (J := blk b [hw, ow, lw, nw, I64 (n.sink)] 194 :: vc 191 (hw) (hs) :: vc 3 (lw) (L1) :: vc 3 (nw) (nx2) :: I) Fit.sub (Push_ok hok hr ho hrow hlL1 hVL1.low n.nodes.toNat 0 (by omega) n.source 4611686018427387904 f nx2 hs hVL1.src hsrc.1 hsrc.2 (by rw [hVL1.src]; exact Int.le_refl _) (by omega) (by omega) hh (fun u h0 h1 j hj => by rw [hzL1 u h0 h1] at hj; omega) (fun z h0 h1 => by rw [hzL1 z h0 h1]; exact Int.le_refl _) hnL1))) ?_
  rintro _ _ ⟨_, _, ⟨d3, f4, hs5, nx6, rfl, ⟨hbd3, hPd3, hHd3, hAd3⟩, rfl⟩, rfl, rfl⟩
  show G Tryd.prog κ _ _ _ _ ([(12, I64 (d3)), (11, I64 (n.source)), (10, .pointer (some ⟨b, 0, none⟩)), (9, I64 (val)), (8, .bool (decide (0 ≤ at_ L1 n.sink))), (7, I64 (n.source)), (6, .pointer (some ⟨b, 0, none⟩)), (0, .pointer (some ⟨b, 0, none⟩)), (1, I64 (n.source)), (5, I64 (val))] : Env) (blk b [hw, ow, lw, nw, I64 (n.sink)] 194 :: vc 191 (hw) (hs5) :: vc 3 (lw) (L1) :: vc 3 (nw) (nx6) :: I)
  have hfl := hPd3.flow hok hf
  have hvb := value_le hok hfl.1 (fun z => z == n.source) (by simp) (by simpa using fun e => hok.ne e.symm)
  have hcb := (cut_nonneg_le hok (fun z => z == n.source)).2
  have hpos : 1 ≤ d3 := Int.not_lt.1 fun h => hAd3 (by omega) (by rw [hPd3.zero (by omega)]; exact hVL1.go hok c8)
  have hnn := hPd3.nlen
  refine G.r (Runs.add rfl rfl (by unfold InR; omega)) ?_
  refine G.r (Runs.assign rfl) ?_
  refine G.nil ?_
  refine V.block_normal ?_
  exact V.next ((val + d3), (f4), (hs5), (L1), (nx6)) (show (IsFlow n (f4 : List Int)) ∧ ((val + d3 : Int) = netF n (f4 : List Int) n.source) ∧ (0 ≤ (val + d3 : Int)) ∧ (HOk n (f4 : List Int) (hs5 : List Half)) ∧ (((L1 : List Int).length : Int) = n.nodes) ∧ (((nx6 : List Int).length : Int) = n.nodes) from ⟨hfl.1, (by omega), (by omega), hHd3, (by omega), (by omega)⟩) (show (18014398509481984 - (val + d3 : Int)).toNat < (18014398509481984 - val).toNat from (by omega)) (Sub.cons rfl (Sub.cons rfl (Sub.cons lookO Sub.nil))) (show Fit κ _ (blk b [hw, ow, lw, nw, I64 (n.sink)] 194 :: vc 191 (hw) ((hs5)) :: vc 3 (lw) ((L1)) :: vc 3 (nw) ((nx6)) :: I) from Fit.sub)
 ·refine W.exit ?_
  refine V.then_exit ?_
  refine V.then_exit ?_
  refine V.block_hit ?_
  refine V.then ?_
  refine W.sr ?_
  refine G.r (Runs.move rfl) ?_
  refine G.r (Runs.assign rfl) ?_
  refine G.nt ?_
  refine W.ret ?_
  exact V.ret1 rfl rfl (blk b [hw, ow, lw, nw, I64 (n.sink)] 194 :: vc 191 (hw) (hs) :: vc 3 (lw) (L1) :: vc 3 (nw) (nx2) :: I) Fit.sub ⟨val, f, hs, L1, nx2, rfl, ⟨⟨hf, hval, hVL1.end hok c8⟩, hh⟩, rfl⟩

end Go.Sl
namespace Go.Sl
open Go.Proofs
set_option linter.unusedVariables false
set_option linter.unusedSimpArgs false
set_option maxRecDepth 4000

end Go.Sl
