/- A part of the proofs of statements of this seat: contracts of functions, and the plain laws that they lean on. No conditions. -/
import Derived.Test.YtbimaodbcjjbfaaGreatDoorDir9
import Derived.Test.YtbimaodbcjjbfaaGreatDoorReach9
namespace Go.Sl
open Go.Proofs
set_option linter.unusedVariables false
set_option linter.unusedSimpArgs false
set_option maxRecDepth 4000
def bumpL (cs ws : List Int) : List Int := ws.foldl (fun cs w => cs.set w.toNat (at_ cs w + 1)) cs
def cntK (rows : List (BitVec 64)) (xs : List Int) : List Int := xs.foldl (fun cs v => bumpL cs (listB (at_ rows v))) (List.replicate 64 (0 : Int))
def orK (rows : List (BitVec 64)) (xs : List Int) : BitVec 64 := xs.foldl (fun m v => m ||| at_ rows v) 0#64
def prefM (l : List Int) (k : Nat) : List (BitVec 64) := (List.range k).map fun i => maskB (l.take (i + 1))
def cfR (rows : List (BitVec 64)) (f : BitVec 64) (x y : Int) : Int := at_ (cntK rows (listB f)) y - at_ (cntK rows (listB f)) x
def sortR (rows : List (BitVec 64)) (f : BitVec 64) : List Int := isortI (cfR rows f) (listB (orK rows (listB f)))
/-- For each number of nodes, the first set of so many to which most arcs lead. -/
def recvB (rows : List (BitVec 64)) (f : BitVec 64) : List (BitVec 64) := prefM (sortR rows f) (sortR rows f).length
theorem bump_take {cs ws : List Int} {j : Nat} (h : j < ws.length) : bumpL cs (ws.take (j + 1)) = (bumpL cs (ws.take j)).set (at_ ws (j : Int)).toNat (at_ (bumpL cs (ws.take j)) (at_ ws (j : Int)) + 1) := by
  unfold bumpL; rw [take_at ws j h, List.foldl_append]; rfl
theorem cntK_take {rows : List (BitVec 64)} {xs : List Int} {k : Nat} (h : k < xs.length) : cntK rows (xs.take (k + 1)) = bumpL (cntK rows (xs.take k)) (listB (at_ rows (at_ xs (k : Int)))) := by
  unfold cntK; rw [take_at xs k h, List.foldl_append]; rfl
theorem orK_take {rows : List (BitVec 64)} {xs : List Int} {k : Nat} (h : k < xs.length) : orK rows (xs.take (k + 1)) = orK rows (xs.take k) ||| at_ rows (at_ xs (k : Int)) := by
  unfold orK; rw [take_at xs k h, List.foldl_append]; rfl
theorem prefM_succ (l : List Int) (k : Nat) : prefM l (k + 1) = prefM l k ++ [maskB (l.take (k + 1))] := by unfold prefM; rw [List.range_succ, List.map_append]; rfl
theorem prefM_len (l : List Int) (k : Nat) : (prefM l k).length = k := by unfold prefM; simp
theorem recvB_len (rows : List (BitVec 64)) (f : BitVec 64) : (recvB rows f).length = (sortR rows f).length := prefM_len _ _
theorem sortR_len (rows : List (BitVec 64)) (f : BitVec 64) : (sortR rows f).length = (listB (orK rows (listB f))).length := (isort_perm _ _).length_eq
/-- Small rows, whose bits are nodes. -/
structure RowsD (rows : List (BitVec 64)) : Prop where
  len : rows.length ≤ 6
  bit : ∀ (v : Int) (i : Nat), (at_ rows v).getLsbD i = true → i < rows.length
theorem orK_bit {rows : List (BitVec 64)} (xs : List Int) (i : Nat) : (orK rows xs).getLsbD i = true ↔ ∃ v ∈ xs, (at_ rows v).getLsbD i = true := by
  have key : ∀ (xs : List Int) (m : BitVec 64), (xs.foldl (fun m v => m ||| at_ rows v) m).getLsbD i = true ↔ m.getLsbD i = true ∨ ∃ v ∈ xs, (at_ rows v).getLsbD i = true := fun xs => by
    induction xs with
    | nil => intro m; simp
    | cons x xs ih =>
      intro m
      rw [List.foldl_cons, ih, BitVec.getLsbD_or, Bool.or_eq_true]
      constructor
      · rintro ((h | h) | ⟨v, hv, h⟩)
        · exact .inl h
        · exact .inr ⟨x, List.mem_cons_self, h⟩
        · exact .inr ⟨v, List.mem_cons_of_mem _ hv, h⟩
      · rintro (h | ⟨v, hv, h⟩)
        · exact .inl (.inl h)
        · rcases List.mem_cons.1 hv with rfl | hv
          · exact .inl (.inr h)
          · exact .inr ⟨v, hv, h⟩
  have := key xs 0#64
  unfold orK
  rw [this]; simp
theorem len_bits {m : BitVec 64} {n : Nat} (h : ∀ i : Nat, m.getLsbD i = true → i < n) : (listB m).length ≤ n := by
  have h1 := List.Nodup.length_le_of_subset (l₁ := listB m) (l₂ := (List.range n).map fun i : Nat => (i : Int)) ((listB_asc m).imp fun h => by omega) fun x hx => by
    obtain ⟨h0, h2⟩ := mem_listB.1 hx
    exact List.mem_map.2 ⟨x.toNat, List.mem_range.2 (h _ h2), by omega⟩
  simpa using h1
theorem RowsD.or {rows : List (BitVec 64)} (h : RowsD rows) (xs : List Int) : (listB (orK rows xs)).length ≤ 6 := by
  have := len_bits (m := orK rows xs) (n := rows.length) fun i hi => by
    obtain ⟨v, _, hv⟩ := (orK_bit xs i).1 hi
    exact h.bit v i hv
  have := h.len; omega
theorem at_repZ (n : Nat) (i : Int) : at_ (List.replicate n (0 : Int)) i = 0 := by
  unfold at_
  rw [List.getD_eq_getElem?_getD, List.getElem?_replicate]
  split <;> rfl
theorem bump_bd {cs : List Int} {w B : Int} (h : ∀ x : Int, 0 ≤ x → 0 ≤ at_ cs x ∧ at_ cs x ≤ B) (h0 : 0 ≤ w) (h1 : w < cs.length) : ∀ x : Int, 0 ≤ x → 0 ≤ at_ (cs.set w.toNat (at_ cs w + 1)) x ∧ at_ (cs.set w.toNat (at_ cs w + 1)) x ≤ B + 1 := fun x hx => by
  rw [at_set cs w x _ h0 hx h1]
  have a := h x hx
  have b := h w h0
  split <;> omega

theorem Recv1_ok {κ : Ctx} {I : List Item} {b : Nat} {cs : List Int} (hB : BlkRd κ I b (cells cs) 138) (hcl : cs.length = 64) (hbd : ∀ w : Int, 0 ≤ w → 0 ≤ at_ cs w ∧ at_ cs w ≤ 100000) (x y : Int) (hx : 0 ≤ x ∧ x < 64) (hy : 0 ≤ y ∧ y < 64) :
    CallS Tryz.prog κ 123 [I64 (x), I64 (y), .pointer (some ⟨b, 0, none⟩)] I (fun r J => r = I64 (at_ cs y - at_ cs x) ∧ I = J) := by
 have hb1 := hbd x hx.1
 have hb2 := hbd y hy.1
 refine CallS.enter (L := [(0, I64 (x)), (1, I64 (y)), (2, .pointer (some ⟨b, 0, none⟩))]) Tryz.func123 rfl rfl rfl rfl ?_
 refine W.sr ?_
 refine G.r (Runs.assign rfl) ?_
 refine G.nt ?_
 refine W.seq ?_
 refine W.drawn mixed ?_
 refine A.hold (I) 8 ?_
 refine D.r 0 rfl (Runs.move rfl) ?_ (hJ := Fit.sub)
 refine D.r 1 rfl (Runs.idxArr Tryz.underlying138 ty3 rfl rfl (by omega) (by omega)) ?_ (hJ := Fit.sub)
 refine D.r 2 rfl (Runs.getA (xs := cs) ty3 rfl (BlkRd.fit hB Fit.m) (by omega) (by omega)) ?_ (hJ := Fit.sub)
 refine D.r 3 rfl (Runs.move rfl) ?_ (hJ := Fit.sub)
 refine D.r 4 rfl (Runs.idxArr Tryz.underlying138 ty3 rfl rfl (by omega) (by omega)) ?_ (hJ := Fit.sub)
 refine D.r 5 rfl (Runs.getA (xs := cs) ty3 rfl (BlkRd.fit hB Fit.m) (by omega) (by omega)) ?_ (hJ := Fit.sub)
 refine D.r 6 rfl (Runs.sub rfl rfl (by unfold InR; omega)) ?_ (hJ := Fit.sub)
 refine D.r 7 rfl (Runs.assign rfl) ?_ (hJ := Fit.sub)
 refine D.done (by kernel_rfl) ?_
 refine V.then ?_
 refine W.ret ?_
 exact V.ret1 rfl rfl (I) Fit.m ⟨rfl, rfl⟩

set_option maxHeartbeats 1000000 in
theorem Receivers_ok {κ : Ctx} {I : List Item} {va : Value} {rows : List (BitVec 64)} (hl : Sl κ I va rows) (f : BitVec 64) (hR : RowsD rows) (hf : ∀ i : Nat, f.getLsbD i = true → i < rows.length) (hT : TabRd κ I 0 tzCells) :
    CallS Tryz.prog κ 77 [va, U64 (f)] I (fun r J => ∃ a c, r = .slice a (recvB rows f).length c ∧ J = vc 86 (.slice a (recvB rows f).length c) (recvB rows f) :: I) := by
 have hrl6 := hR.len
 have hlf := listB_len f
 refine CallS.enter (L := [(0, va), (1, U64 (f))]) Tryz.func77 rfl rfl rfl rfl ?_
 refine W.sr ?_
 refine G.r (Runs.assign rfl) ?_
 refine G.nt ?_
 refine W.sr ?_
 refine G.e (Eff.alloc ty138 rfl) ?_
 rintro _ _ ⟨b1, rfl, rfl⟩
 show G Tryz.prog κ _ _ _ _ ([(5, .pointer (some ⟨b1, 0, none⟩)), (4, .slice none 0 0), (0, va), (1, U64 (f))] : Env) (blk b1 (cells (List.replicate 64 (0 : Int) : List Int)) 138 :: I)
 refine G.nt ?_
 refine W.sr ?_
 refine G.r (Runs.assign rfl) ?_
 refine G.nt ?_
 refine W.seq ?_
 refine W.sr ?_
 refine G.r (Runs.move rfl) ?_
 refine G.e (Eff.call call54 rfl rfl (MList_ok f (TabRd.fit hT Fit.m))) ?_
 rintro _ _ ⟨_, _, ⟨ad2, cp3, rfl, rfl⟩, rfl, rfl⟩
 refine G.r (Runs.lens Tryz.underlying22 rfl) ?_
 refine G.r (Runs.move rfl) ?_
 refine G.nt ?_
 refine W.block ?_
 refine W.loop (σ := Nat × (BitVec 64) × (List Int)) (fun s => ([(0, va), (5, .pointer (some ⟨b1, 0, none⟩)), (6, U64 (s.2.1)), (17, .slice ad2 (listB f).length cp3), (18, I64 ((((listB f).length : Nat) : Int))), (19, I64 (((s.1 : Nat) : Int)))] : Env)) (fun s => vc 3 (.slice ad2 (listB f).length cp3) (listB f) :: blk b1 (cells (s.2.2 : List Int)) 138 :: I) (fun s => (s.1 ≤ (listB f).length) ∧ (s.2.1 = orK rows ((listB f).take s.1)) ∧ (s.2.2 = cntK rows ((listB f).take s.1)) ∧ (s.2.2.length = 64) ∧ (∀ w : Int, 0 ≤ w → 0 ≤ at_ s.2.2 w ∧ at_ s.2.2 w ≤ 64 * s.1)) (fun s => (listB f).length - s.1) (0, 0#64, List.replicate 64 (0 : Int)) (show ((0 : Nat) ≤ (listB f).length) ∧ ((0#64 : BitVec 64) = orK rows ((listB f).take (0 : Nat))) ∧ ((List.replicate 64 (0 : Int) : List Int) = cntK rows ((listB f).take (0 : Nat))) ∧ ((List.replicate 64 (0 : Int) : List Int).length = 64) ∧ (∀ w : Int, 0 ≤ w → 0 ≤ at_ (List.replicate 64 (0 : Int) : List Int) w ∧ at_ (List.replicate 64 (0 : Int) : List Int) w ≤ 64 * (0 : Nat)) from ⟨(by omega), rfl, rfl, (by simp), (fun w _ => by rw [at_repZ]; omega)⟩) (Sub.cons rfl (Sub.cons rfl (Sub.cons (lookV rfl (by first | rfl | simp)) (Sub.cons rfl (Sub.cons rfl (Sub.cons lookO Sub.nil)))))) (show Fit κ _ (vc 3 (.slice ad2 (listB f).length cp3) (listB f) :: blk b1 (cells ((List.replicate 64 (0 : Int)) : List Int)) 138 :: I) from Fit.sub) ?_
 rintro ⟨k, am, cs⟩ hp
 obtain ⟨hk, ham, hcs, hcl, hbd⟩ : (k ≤ (listB f).length) ∧ (am = orK rows ((listB f).take k)) ∧ (cs = cntK rows ((listB f).take k)) ∧ (cs.length = 64) ∧ (∀ w : Int, 0 ≤ w → 0 ≤ at_ cs w ∧ at_ cs w ≤ 64 * k) := hp
 show W Tryz.prog κ 67 _ _ ([(0, va), (5, .pointer (some ⟨b1, 0, none⟩)), (6, U64 (am)), (17, .slice ad2 (listB f).length cp3), (18, I64 ((((listB f).length : Nat) : Int))), (19, I64 (((k : Nat) : Int)))] : Env) (vc 3 (.slice ad2 (listB f).length cp3) (listB f) :: blk b1 (cells (cs : List Int)) 138 :: I)
 have hmk : k < (listB f).length → 0 ≤ at_ (listB f) ((k : Nat) : Int) ∧ at_ (listB f) ((k : Nat) : Int) < rows.length := fun h => by have h1 := at_mem (xs := (listB f)) (i := ((k : Nat) : Int)) (by omega) (by omega); obtain ⟨h2, h3⟩ := mem_listB.1 h1; have := hf _ h3; omega
 refine W.sr ?_
 refine G.r (Runs.lss rfl rfl) ?_
 refine G.nt ?_
 refine W.seq ?_
 refine W.ite rfl (fun c20 => ?_) (fun c20 => ?_)
 ·refine W.skip ?_
  refine V.then ?_
  refine W.seq ?_
  refine W.block ?_
  refine W.sr ?_
  refine G.r (Runs.idx (α := Int) (xs := listB f) Tryz.underlying22 ty3 rfl rfl Sl.o (by omega) (by omega)) ?_
  refine G.r (Runs.get (xs := listB f) ty3 rfl Sl.o (by omega) (by omega)) ?_
  refine G.r (Runs.assign rfl) ?_
  refine G.nt ?_
  refine W.sr ?_
  refine G.r (Runs.move rfl) ?_
  refine G.r (Runs.move rfl) ?_
  refine G.r (Runs.move rfl) ?_
  refine G.r (Runs.idx (α := (BitVec 64)) (xs := rows) Tryz.underlying104 ty86 rfl rfl (Sl.f hl) (by omega) (by omega)) ?_
  refine G.r (Runs.getf0 (α := (BitVec 64)) (xs := rows) (u := U64 ((at_ rows (at_ (listB f) ((k : Nat) : Int))))) ty86 rfl (Sl.f hl) (by omega) (by omega) rfl) ?_
  refine G.r (Runs.orB (a := am) (b := (at_ rows (at_ (listB f) ((k : Nat) : Int)))) rfl rfl) ?_
  refine G.r (Runs.assign rfl) ?_
  refine G.nt ?_
  refine W.sub (L' := [(6, _), (8, _), (0, _), (5, _), (17, _), (18, _), (19, _)]) (Sub.cons rfl (Sub.cons rfl (Sub.cons rfl (Sub.cons rfl (Sub.cons rfl (Sub.cons rfl (Sub.cons rfl Sub.nil))))))) ?_
  refine W.sr ?_
  refine G.r (Runs.move rfl) ?_
  refine G.r (Runs.move rfl) ?_
  refine G.r (Runs.idx (α := (BitVec 64)) (xs := rows) Tryz.underlying104 ty86 rfl rfl (Sl.f hl) (by omega) (by omega)) ?_
  refine G.r (Runs.getf0 (α := (BitVec 64)) (xs := rows) (u := U64 ((at_ rows (at_ (listB f) ((k : Nat) : Int))))) ty86 rfl (Sl.f hl) (by omega) (by omega) rfl) ?_
  refine G.e (Eff.call call54 rfl rfl (MList_ok (at_ rows (at_ (listB f) ((k : Nat) : Int))) (TabRd.fit hT Fit.m))) ?_
  rintro _ _ ⟨_, _, ⟨ad4, cp5, rfl, rfl⟩, rfl, rfl⟩
  refine G.r (Runs.lens Tryz.underlying22 rfl) ?_
  refine G.r (Runs.move rfl) ?_
  refine G.nt ?_
  refine W.sub (L' := [(35, _), (34, _), (33, _), (6, _), (0, _), (5, _), (17, _), (18, _), (19, _)]) (Sub.cons rfl (Sub.cons rfl (Sub.cons rfl (Sub.cons rfl (Sub.cons rfl (Sub.cons rfl (Sub.cons rfl (Sub.cons rfl (Sub.cons rfl Sub.nil))))))))) ?_
  refine W.block ?_
  refine W.loop (σ := Nat × (List Int)) (fun s => ([(0, va), (5, .pointer (some ⟨b1, 0, none⟩)), (6, U64 (am ||| (at_ rows (at_ (listB f) ((k : Nat) : Int))))), (17, .slice ad2 (listB f).length cp3), (18, I64 ((((listB f).length : Nat) : Int))), (19, I64 (((k : Nat) : Int))), (33, .slice ad4 (listB (at_ rows (at_ (listB f) ((k : Nat) : Int)))).length cp5), (34, I64 ((((listB (at_ rows (at_ (listB f) ((k : Nat) : Int)))).length : Nat) : Int))), (35, I64 (((s.1 : Nat) : Int)))] : Env)) (fun s => vc 3 (.slice ad4 (listB (at_ rows (at_ (listB f) ((k : Nat) : Int)))).length cp5) (listB (at_ rows (at_ (listB f) ((k : Nat) : Int)))) :: vc 3 (.slice ad2 (listB f).length cp3) (listB f) :: blk b1 (cells (s.2 : List Int)) 138 :: I) (fun s => (s.1 ≤ (listB (at_ rows (at_ (listB f) ((k : Nat) : Int)))).length) ∧ (s.2 = bumpL cs ((listB (at_ rows (at_ (listB f) ((k : Nat) : Int)))).take s.1)) ∧ (s.2.length = 64) ∧ (∀ w : Int, 0 ≤ w → 0 ≤ at_ s.2 w ∧ at_ s.2 w ≤ 64 * k + s.1)) (fun s => (listB (at_ rows (at_ (listB f) ((k : Nat) : Int)))).length - s.1) (0, cs) (show ((0 : Nat) ≤ (listB (at_ rows (at_ (listB f) ((k : Nat) : Int)))).length) ∧ ((cs : List Int) = bumpL cs ((listB (at_ rows (at_ (listB f) ((k : Nat) : Int)))).take (0 : Nat))) ∧ ((cs : List Int).length = 64) ∧ (∀ w : Int, 0 ≤ w → 0 ≤ at_ (cs : List Int) w ∧ at_ (cs : List Int) w ≤ 64 * k + (0 : Nat)) from ⟨(by omega), rfl, hcl, (fun w hw => by have := hbd w hw; omega)⟩) (Sub.cons rfl (Sub.cons rfl (Sub.cons rfl (Sub.cons rfl (Sub.cons rfl (Sub.cons rfl (Sub.cons rfl (Sub.cons rfl (Sub.cons lookO Sub.nil))))))))) (show Fit κ _ (vc 3 (.slice ad4 (listB (at_ rows (at_ (listB f) ((k : Nat) : Int)))).length cp5) (listB (at_ rows (at_ (listB f) ((k : Nat) : Int)))) :: vc 3 (.slice ad2 (listB f).length cp3) (listB f) :: blk b1 (cells ((cs) : List Int)) 138 :: I) from Fit.sub) ?_
  rintro ⟨j, cs1⟩ hp
  obtain ⟨hj, hc1, hcl1, hbd1⟩ : (j ≤ (listB (at_ rows (at_ (listB f) ((k : Nat) : Int)))).length) ∧ (cs1 = bumpL cs ((listB (at_ rows (at_ (listB f) ((k : Nat) : Int)))).take j)) ∧ (cs1.length = 64) ∧ (∀ w : Int, 0 ≤ w → 0 ≤ at_ cs1 w ∧ at_ cs1 w ≤ 64 * k + j) := hp
  show W Tryz.prog κ 67 _ _ ([(0, va), (5, .pointer (some ⟨b1, 0, none⟩)), (6, U64 (am ||| (at_ rows (at_ (listB f) ((k : Nat) : Int))))), (17, .slice ad2 (listB f).length cp3), (18, I64 ((((listB f).length : Nat) : Int))), (19, I64 (((k : Nat) : Int))), (33, .slice ad4 (listB (at_ rows (at_ (listB f) ((k : Nat) : Int)))).length cp5), (34, I64 ((((listB (at_ rows (at_ (listB f) ((k : Nat) : Int)))).length : Nat) : Int))), (35, I64 (((j : Nat) : Int)))] : Env) (vc 3 (.slice ad4 (listB (at_ rows (at_ (listB f) ((k : Nat) : Int)))).length cp5) (listB (at_ rows (at_ (listB f) ((k : Nat) : Int)))) :: vc 3 (.slice ad2 (listB f).length cp3) (listB f) :: blk b1 (cells (cs1 : List Int)) 138 :: I)
  have hwk : j < (listB (at_ rows (at_ (listB f) ((k : Nat) : Int)))).length → 0 ≤ at_ (listB (at_ rows (at_ (listB f) ((k : Nat) : Int)))) ((j : Nat) : Int) ∧ at_ (listB (at_ rows (at_ (listB f) ((k : Nat) : Int)))) ((j : Nat) : Int) < 64 := fun h => by have h1 := at_mem (xs := (listB (at_ rows (at_ (listB f) ((k : Nat) : Int))))) (i := ((j : Nat) : Int)) (by omega) (by omega); obtain ⟨h2, h3⟩ := mem_listB.1 h1; have := BitVec.lt_of_getLsbD h3; omega
  have hrl := listB_len (at_ rows (at_ (listB f) ((k : Nat) : Int)))
  have hb9 := fun h : j < (listB (at_ rows (at_ (listB f) ((k : Nat) : Int)))).length => hbd1 _ (hwk h).1
  refine W.sr ?_
  refine G.r (Runs.lss rfl rfl) ?_
  refine G.nt ?_
  refine W.seq ?_
  refine W.ite rfl (fun c36 => ?_) (fun c36 => ?_)
  ·refine W.skip ?_
   refine V.then ?_
   refine W.seq ?_
   refine W.block ?_
   refine W.sr ?_
   refine G.r (Runs.idx (α := Int) (xs := listB (at_ rows (at_ (listB f) ((k : Nat) : Int)))) Tryz.underlying22 ty3 rfl rfl Sl.o (by omega) (by omega)) ?_
   refine G.r (Runs.get (xs := listB (at_ rows (at_ (listB f) ((k : Nat) : Int)))) ty3 rfl Sl.o (by omega) (by omega)) ?_
   refine G.r (Runs.assign rfl) ?_
   refine G.nt ?_
   refine W.region ?_
   refine G.r (Runs.move rfl) ?_
   refine G.r (Runs.idxArr Tryz.underlying138 ty3 rfl rfl (by omega) (by omega)) ?_
   refine G.r (Runs.getA (xs := cs1) ty3 rfl (BlkRd.of (by repeat (first | exact List.mem_cons_self | apply List.mem_cons_of_mem))) (by omega) (by omega)) ?_
   refine G.r (Runs.add rfl rfl (by unfold InR; omega)) ?_
   refine G.r (Runs.idxArr Tryz.underlying138 ty3 rfl rfl (by omega) (by omega)) ?_
   refine G.e (Eff.setA (xs := cs1) (i := at_ (listB (at_ rows (at_ (listB f) ((k : Nat) : Int)))) ((j : Nat) : Int)) (n := (at_ cs1 (at_ (listB (at_ rows (at_ (listB f) ((k : Nat) : Int)))) ((j : Nat) : Int))) + 1) ty3 rfl rfl rfl (by omega) (by omega) (by repeat (first | exact At.head _ _ _ | apply At.tail))) ?_
   rintro _ _ ⟨rfl, rfl⟩
   refine G.nil ?_
   refine V.block_normal ?_
   refine V.then ?_
   refine W.sub (L' := [(0, _), (5, _), (6, _), (17, _), (18, _), (19, _), (33, _), (34, _), (35, _)]) (Sub.cons rfl (Sub.cons rfl (Sub.cons rfl (Sub.cons rfl (Sub.cons rfl (Sub.cons rfl (Sub.cons rfl (Sub.cons rfl (Sub.cons rfl Sub.nil))))))))) ?_
   refine W.region ?_
   refine G.r (Runs.add rfl rfl (by unfold InR; omega)) ?_
   refine G.r (Runs.move rfl) ?_
   refine G.nil ?_
   exact V.next ((j + 1), (List.set cs1 (at_ (listB (at_ rows (at_ (listB f) ((k : Nat) : Int)))) ((j : Nat) : Int)).toNat ((at_ cs1 (at_ (listB (at_ rows (at_ (listB f) ((k : Nat) : Int)))) ((j : Nat) : Int))) + 1))) (show ((j + 1 : Nat) ≤ (listB (at_ rows (at_ (listB f) ((k : Nat) : Int)))).length) ∧ ((List.set cs1 (at_ (listB (at_ rows (at_ (listB f) ((k : Nat) : Int)))) ((j : Nat) : Int)).toNat ((at_ cs1 (at_ (listB (at_ rows (at_ (listB f) ((k : Nat) : Int)))) ((j : Nat) : Int))) + 1) : List Int) = bumpL cs ((listB (at_ rows (at_ (listB f) ((k : Nat) : Int)))).take (j + 1 : Nat))) ∧ ((List.set cs1 (at_ (listB (at_ rows (at_ (listB f) ((k : Nat) : Int)))) ((j : Nat) : Int)).toNat ((at_ cs1 (at_ (listB (at_ rows (at_ (listB f) ((k : Nat) : Int)))) ((j : Nat) : Int))) + 1) : List Int).length = 64) ∧ (∀ w : Int, 0 ≤ w → 0 ≤ at_ (List.set cs1 (at_ (listB (at_ rows (at_ (listB f) ((k : Nat) : Int)))) ((j : Nat) : Int)).toNat ((at_ cs1 (at_ (listB (at_ rows (at_ (listB f) ((k : Nat) : Int)))) ((j : Nat) : Int))) + 1) : List Int) w ∧ at_ (List.set cs1 (at_ (listB (at_ rows (at_ (listB f) ((k : Nat) : Int)))) ((j : Nat) : Int)).toNat ((at_ cs1 (at_ (listB (at_ rows (at_ (listB f) ((k : Nat) : Int)))) ((j : Nat) : Int))) + 1) : List Int) w ≤ 64 * k + (j + 1 : Nat)) from ⟨(by omega), (by rw [bump_take (by omega), ← hc1]), (by rw [List.length_set]; exact hcl1), (fun w hw => by have := bump_bd hbd1 (hwk (by omega)).1 (by have := (hwk (by omega)).2; omega) w hw; push_cast; omega)⟩) (show (listB (at_ rows (at_ (listB f) ((k : Nat) : Int)))).length - (j + 1 : Nat) < (listB (at_ rows (at_ (listB f) ((k : Nat) : Int)))).length - j from (by omega)) (Sub.cons rfl (Sub.cons rfl (Sub.cons rfl (Sub.cons rfl (Sub.cons rfl (Sub.cons rfl (Sub.cons rfl (Sub.cons rfl (Sub.cons lookO Sub.nil))))))))) (show Fit κ _ (vc 3 (.slice ad4 (listB (at_ rows (at_ (listB f) ((k : Nat) : Int)))).length cp5) (listB (at_ rows (at_ (listB f) ((k : Nat) : Int)))) :: vc 3 (.slice ad2 (listB f).length cp3) (listB f) :: blk b1 (cells ((List.set cs1 (at_ (listB (at_ rows (at_ (listB f) ((k : Nat) : Int)))) ((j : Nat) : Int)).toNat ((at_ cs1 (at_ (listB (at_ rows (at_ (listB f) ((k : Nat) : Int)))) ((j : Nat) : Int))) + 1)) : List Int)) 138 :: I) from Fit.sub)
  ·refine W.exit ?_
   refine V.then_exit ?_
   refine V.then_exit ?_
   refine V.block_hit ?_
   refine V.block_normal ?_
   refine V.then ?_
   refine W.region ?_
   refine G.r (Runs.add rfl rfl (by unfold InR; omega)) ?_
   refine G.r (Runs.move rfl) ?_
   refine G.nil ?_
   exact V.next ((k + 1), (am ||| (at_ rows (at_ (listB f) ((k : Nat) : Int)))), (cs1)) (show ((k + 1 : Nat) ≤ (listB f).length) ∧ ((am ||| (at_ rows (at_ (listB f) ((k : Nat) : Int))) : BitVec 64) = orK rows ((listB f).take (k + 1 : Nat))) ∧ ((cs1 : List Int) = cntK rows ((listB f).take (k + 1 : Nat))) ∧ ((cs1 : List Int).length = 64) ∧ (∀ w : Int, 0 ≤ w → 0 ≤ at_ (cs1 : List Int) w ∧ at_ (cs1 : List Int) w ≤ 64 * (k + 1 : Nat)) from ⟨(by omega), (by rw [orK_take (by omega), ← ham]), (by rw [cntK_take (by omega), ← hcs, hc1, List.take_of_length_le (by omega)]), hcl1, (fun w hw => by have := hbd1 w hw; have := listB_len (at_ rows (at_ (listB f) ((k : Nat) : Int))); push_cast; omega)⟩) (show (listB f).length - (k + 1 : Nat) < (listB f).length - k from (by omega)) (Sub.cons rfl (Sub.cons rfl (Sub.cons (lookV rfl (by first | rfl | simp)) (Sub.cons rfl (Sub.cons rfl (Sub.cons lookO Sub.nil)))))) (show Fit κ _ (vc 3 (.slice ad2 (listB f).length cp3) (listB f) :: blk b1 (cells ((cs1) : List Int)) 138 :: I) from Fit.sub)
 ·refine W.exit ?_
  refine V.then_exit ?_
  refine V.then_exit ?_
  refine V.block_hit ?_
  refine V.then ?_
  refine W.sr ?_
  refine G.r (Runs.move rfl) ?_
  have hamE : am = orK rows (listB f) := by rw [ham, List.take_of_length_le (by omega)]
  have hor := hR.or (listB f)
  rw [← hamE] at hor
  have hsl : (isortI (cfR rows f) (listB am)).length = (listB am).length := (isort_perm _ _).length_eq
  refine G.e (Eff.call call54 rfl rfl (MList_ok am (TabRd.fit hT Fit.m))) ?_
  rintro _ _ ⟨_, _, ⟨ad6, cp7, rfl, rfl⟩, rfl, rfl⟩
  refine G.r (Runs.assign rfl) ?_
  refine G.nt ?_
  refine W.sr ?_
  refine G.r (Runs.move rfl) ?_
  refine G.r (Runs.makeFunc rfl rfl) ?_
  have hcbx : CmpsI Tryz.prog κ (vc 3 (.slice ad2 (listB f).length cp3) (listB f) :: blk b1 (cells (cs : List Int)) 138 :: I) 123 [.pointer (some ⟨b1, 0, none⟩)] (fun x => 0 ≤ x ∧ x < 64) (cfR rows f) := by rw [show cfR rows f = fun x y => at_ cs y - at_ cs x from by unfold cfR; rw [hcs, List.take_of_length_le (by omega)]]; exact ⟨call123, fun x y K hx hy hK => Recv1_ok (BlkRd.fit (BlkRd.of (by repeat (first | exact List.mem_cons_self | apply List.mem_cons_of_mem))) hK) hcl (fun w hw => by have := hbd w hw; omega) x y hx hy⟩
  have hpx : ∀ x ∈ listB am, 0 ≤ x ∧ x < 64 := fun x hx => by obtain ⟨h2, h3⟩ := mem_listB.1 hx; have := BitVec.lt_of_getLsbD h3; omega
  have hsx : (listB am).length ≤ 19 := by omega
  refine G.e (Eff.call call122 rfl rfl (CallS.fit (J := vc 3 (.slice ad6 (listB am).length cp7) (listB am) :: vc 3 (.slice ad2 (listB f).length cp3) (listB f) :: blk b1 (cells (cs : List Int)) 138 :: I) Fit.s (SortStable_ok hcbx hpx hsx))) ?_
  rintro _ _ ⟨_, _, ⟨rfl, rfl⟩, rfl, rfl⟩
  refine G.nt ?_
  refine W.sr ?_
  refine G.r (Runs.assign rfl) ?_
  refine G.nt ?_
  refine W.sub (L' := [(12, _), (11, _)]) (Sub.cons rfl (Sub.cons rfl Sub.nil)) ?_
  refine W.sr ?_
  refine G.r (Runs.assign rfl) ?_
  refine G.nt ?_
  refine W.seq ?_
  refine W.sr ?_
  refine G.r (Runs.move rfl) ?_
  refine G.r (Runs.lens Tryz.underlying22 rfl) ?_
  refine G.r (Runs.move rfl) ?_
  refine G.nt ?_
  refine W.block ?_
  refine W.loop (σ := Nat × (BitVec 64) × (Option Addr) × Nat × (List (BitVec 64))) (fun s => ([(12, .slice s.2.2.1 s.2.2.2.2.length s.2.2.2.1), (13, U64 (s.2.1)), (51, .slice ad6 (listB am).length cp7), (52, I64 ((((listB am).length : Nat) : Int))), (53, I64 (((s.1 : Nat) : Int)))] : Env)) (fun s => vc 86 (.slice s.2.2.1 s.2.2.2.2.length s.2.2.2.1) (s.2.2.2.2) :: vc 3 (.slice ad6 (listB am).length cp7) ((isortI (cfR rows f) (listB am))) :: vc 3 (.slice ad2 (listB f).length cp3) (listB f) :: blk b1 (cells (cs : List Int)) 138 :: I) (fun s => (s.1 ≤ (isortI (cfR rows f) (listB am)).length) ∧ (s.2.1 = maskB ((isortI (cfR rows f) (listB am)).take s.1)) ∧ (s.2.2.2.2 = prefM (isortI (cfR rows f) (listB am)) s.1)) (fun s => (isortI (cfR rows f) (listB am)).length - s.1) (0, 0#64, none, 0, []) (show ((0 : Nat) ≤ (isortI (cfR rows f) (listB am)).length) ∧ ((0#64 : BitVec 64) = maskB ((isortI (cfR rows f) (listB am)).take (0 : Nat))) ∧ (([] : List (BitVec 64)) = prefM (isortI (cfR rows f) (listB am)) (0 : Nat)) from ⟨(by omega), rfl, rfl⟩) (Sub.cons (lookV rfl (by first | rfl | simp)) (Sub.cons (lookV rfl (by first | rfl | simp)) (Sub.cons rfl (Sub.cons rfl (Sub.cons lookO Sub.nil))))) (show Fit κ _ (vc 86 (.slice (none) ([]).length (0)) (([])) :: vc 3 (.slice ad6 (listB am).length cp7) ((isortI (cfR rows f) (listB am))) :: vc 3 (.slice ad2 (listB f).length cp3) (listB f) :: blk b1 (cells (cs : List Int)) 138 :: I) from (Fit.nilvc _ _)) ?_
  rintro ⟨k, mm, a, c, ms⟩ hp
  obtain ⟨hk, hmm, hms⟩ : (k ≤ (isortI (cfR rows f) (listB am)).length) ∧ (mm = maskB ((isortI (cfR rows f) (listB am)).take k)) ∧ (ms = prefM (isortI (cfR rows f) (listB am)) k) := hp
  show W Tryz.prog κ 67 _ _ ([(12, .slice a ms.length c), (13, U64 (mm)), (51, .slice ad6 (listB am).length cp7), (52, I64 ((((listB am).length : Nat) : Int))), (53, I64 (((k : Nat) : Int)))] : Env) (vc 86 (.slice a ms.length c) (ms) :: vc 3 (.slice ad6 (listB am).length cp7) ((isortI (cfR rows f) (listB am))) :: vc 3 (.slice ad2 (listB f).length cp3) (listB f) :: blk b1 (cells (cs : List Int)) 138 :: I)
  have hml : ms.length = k := by rw [hms, prefM_len]
  refine W.sr ?_
  refine G.r (Runs.lss rfl rfl) ?_
  refine G.nt ?_
  refine W.seq ?_
  refine W.ite rfl (fun c54 => ?_) (fun c54 => ?_)
  ·refine W.skip ?_
   refine V.then ?_
   refine W.seq ?_
   refine W.block ?_
   refine W.sr ?_
   refine G.r (Runs.idx (α := Int) (xs := (isortI (cfR rows f) (listB am))) Tryz.underlying22 ty3 rfl rfl Sl.o (by omega) (by omega)) ?_
   refine G.r (Runs.get (xs := (isortI (cfR rows f) (listB am))) ty3 rfl Sl.o (by omega) (by omega)) ?_
   refine G.r (Runs.assign rfl) ?_
   refine G.nt ?_
   refine W.sr ?_
   refine G.r (Runs.move rfl) ?_
   refine G.r (Runs.move rfl) ?_
   refine G.e (Eff.call call75 rfl rfl (Bit_ok (at_ (isortI (cfR rows f) (listB am)) ((k : Nat) : Int)))) ?_
   rintro _ _ ⟨_, _, ⟨rfl, rfl⟩, rfl, rfl⟩
   refine G.r (Runs.orB (a := mm) (b := bitB (at_ (isortI (cfR rows f) (listB am)) ((k : Nat) : Int))) rfl rfl) ?_
   refine G.r (Runs.assign rfl) ?_
   refine G.nt ?_
   refine W.sub (L' := [(13, _), (12, _), (51, _), (52, _), (53, _)]) (Sub.cons rfl (Sub.cons rfl (Sub.cons rfl (Sub.cons rfl (Sub.cons rfl Sub.nil))))) ?_
   refine W.region ?_
   refine G.r (Runs.move rfl) ?_
   refine G.r (Runs.move rfl) ?_
   refine G.e (Eff.bs (α := (BitVec 64)) (cs := [_]) (xs := [mm ||| (bitB (at_ (isortI (cfR rows f) (listB am)) ((k : Nat) : Int)))]) Tryz.underlying104 ty86 rfl rfl (by decide) (by decide) rfl rfl rfl rfl) ?_
   rintro _ _ ⟨ad8, rfl, rfl⟩
   refine G.e (Eff.app (α := (BitVec 64)) (e := 86) (xs := ms) (ys := ([mm ||| (bitB (at_ (isortI (cfR rows f) (listB am)) ((k : Nat) : Int)))] : List (BitVec 64))) Tryz.underlying104 ty86 rfl rfl rfl (by repeat (first | exact List.mem_cons_self | apply List.mem_cons_of_mem)) Sl.o (by simp only [List.length_cons, List.length_nil]; omega) (by decide) rfl (fun _ _ => (by repeat (first | exact At.head _ _ _ | apply At.tail)))) ?_
   rintro _ _ ⟨ad9, cp10, rfl, rfl⟩
   refine G.r (Runs.assign rfl) ?_
   refine G.nil ?_
   refine V.block_normal ?_
   refine V.then ?_
   refine W.region ?_
   refine G.r (Runs.add rfl rfl (by unfold InR; omega)) ?_
   refine G.r (Runs.move rfl) ?_
   refine G.nil ?_
   exact V.next ((k + 1), (mm ||| (bitB (at_ (isortI (cfR rows f) (listB am)) ((k : Nat) : Int)))), (ad9), (cp10), (ms ++ ([mm ||| (bitB (at_ (isortI (cfR rows f) (listB am)) ((k : Nat) : Int)))] : List (BitVec 64)))) (show ((k + 1 : Nat) ≤ (isortI (cfR rows f) (listB am)).length) ∧ ((mm ||| (bitB (at_ (isortI (cfR rows f) (listB am)) ((k : Nat) : Int))) : BitVec 64) = maskB ((isortI (cfR rows f) (listB am)).take (k + 1 : Nat))) ∧ ((ms ++ ([mm ||| (bitB (at_ (isortI (cfR rows f) (listB am)) ((k : Nat) : Int)))] : List (BitVec 64)) : List (BitVec 64)) = prefM (isortI (cfR rows f) (listB am)) (k + 1 : Nat)) from ⟨(by omega), (by rw [maskB_take (by omega), ← hmm]), (by rw [prefM_succ, maskB_take (by omega), ← hmm, ← hms])⟩) (show (isortI (cfR rows f) (listB am)).length - (k + 1 : Nat) < (isortI (cfR rows f) (listB am)).length - k from (by omega)) (Sub.cons (lookV rfl (by first | rfl | simp)) (Sub.cons (lookV rfl (by first | rfl | simp)) (Sub.cons rfl (Sub.cons rfl (Sub.cons lookO Sub.nil))))) (show Fit κ _ (vc 86 (.slice (ad9) (ms ++ ([mm ||| (bitB (at_ (isortI (cfR rows f) (listB am)) ((k : Nat) : Int)))] : List (BitVec 64))).length (cp10)) ((ms ++ ([mm ||| (bitB (at_ (isortI (cfR rows f) (listB am)) ((k : Nat) : Int)))] : List (BitVec 64)))) :: vc 3 (.slice ad6 (listB am).length cp7) ((isortI (cfR rows f) (listB am))) :: vc 3 (.slice ad2 (listB f).length cp3) (listB f) :: blk b1 (cells (cs : List Int)) 138 :: I) from (by first | exact Fit.s | exact Fit.sub))
  ·refine W.exit ?_
   refine V.then_exit ?_
   refine V.then_exit ?_
   refine V.block_hit ?_
   refine V.then ?_
   refine W.sr ?_
   refine G.r (Runs.move rfl) ?_
   refine G.r (Runs.assign rfl) ?_
   refine G.nt ?_
   refine W.ret ?_
   have hE : ms = recvB rows f := by rw [hms]; unfold recvB sortR; rw [← hamE, show k = (isortI (cfR rows f) (listB am)).length from by omega]
   exact V.ret1 rfl rfl (vc 86 (.slice a (recvB rows f).length c) (recvB rows f) :: I) (by rw [← hE]; exact Fit.sub) ⟨a, c, by rw [← hE], rfl⟩

end Go.Sl
namespace Go.Sl
open Go.Proofs
set_option linter.unusedVariables false
set_option linter.unusedSimpArgs false
set_option maxRecDepth 4000
section
variable {P : Program} {κ : Ctx} {N : Nat} {Q : Exit → Act → World → Prop} {L : Env} {I : List Item}
/-- A scope to whose label nothing jumps. -/
theorem W.scope0 {c rest : Code} {l : Nat} (hf : findLabel c l = some rest) (h : W P κ N c (Exit.jump l (fun _ _ => ∃ s : Unit, False) Q) L I) : W P κ N (.scope c) Q L I := fun a w ha hs =>
  wp_scope_ghost l (fun (_ : Unit) _ _ => False) (fun _ => 0) hf (h a w ha hs) fun _ _ _ hR => hR.elim
theorem W.label {l : Nat} (h : V κ N Q .normal L I) : W P κ N (.label l) Q L I := fun a w ha hs => wp_label (h a w ha hs)
end
def subF : List Int → Nat → List Int
  | [], _ => []
  | x :: xs, m => (if m % 2 = 1 then [x] else []) ++ subF xs (m / 2)
theorem subF_take : ∀ {l : List Int} {k m : Nat}, k < l.length → subF (l.take (k + 1)) m = subF (l.take k) m ++ (if m / 2 ^ k % 2 = 1 then [at_ l (k : Int)] else [])
  | x :: xs, 0, m, _ => by
    simp only [List.take_succ_cons, List.take_zero, subF, List.append_nil, List.nil_append, Nat.pow_zero, Nat.div_one]; rfl
  | x :: xs, k + 1, m, h => by
    have h' : k < xs.length := by simpa using h
    rw [List.take_succ_cons, List.take_succ_cons]
    show _ ++ subF (xs.take (k + 1)) (m / 2) = (_ ++ subF (xs.take k) (m / 2)) ++ _
    rw [subF_take h', List.append_assoc, Nat.div_div_eq_div_mul, show 2 * 2 ^ k = 2 ^ (k + 1) from by rw [Nat.pow_succ, Nat.mul_comm]]
    have e : at_ (x :: xs) ((k + 1 : Nat) : Int) = at_ xs (k : Int) := by rw [at_nat, at_nat]; rfl
    rw [e]
theorem subF_sub : ∀ {l : List Int} {m : Nat} {x : Int}, x ∈ subF l m → x ∈ l
  | [], m, x, h => h
  | y :: l, m, x, h => by
    rcases List.mem_append.1 h with h | h
    · split at h
      · rw [List.mem_singleton] at h; rw [h]; exact List.mem_cons_self
      · cases h
    · exact List.mem_cons_of_mem _ (subF_sub h)
theorem subF_ne : ∀ {l : List Int} {m : Nat}, 1 ≤ m → m < 2 ^ l.length → subF l m ≠ []
  | [], m, h1, h2 => by simp at h2; omega
  | x :: l, m, h1, h2 => by
    intro e
    obtain ⟨e1, e2⟩ := List.append_eq_nil_iff.1 e
    by_cases hm : m % 2 = 1
    · rw [if_pos hm] at e1; cases e1
    · rw [List.length_cons, Nat.pow_succ] at h2
      exact subF_ne (l := l) (m := m / 2) (by omega) (by omega) e2
theorem maskB_snoc (l : List Int) (x : Int) : maskB (l ++ [x]) = maskB l ||| bitB x := by unfold maskB; rw [List.foldl_append]; rfl
theorem bitD_maskB {l : List Int} {i : Nat} (hi : i < 64) : (maskB l).getLsbD i = true ↔ (i : Int) ∈ l := by
  unfold maskB; rw [getLsb_maskB hi]; simp
theorem mask_nz {l : List Int} (h : l ≠ []) (hb : ∀ x ∈ l, 0 ≤ x ∧ x < 64) : maskB l ≠ 0#64 := by
  cases l with
  | nil => exact absurd rfl h
  | cons x l =>
    intro e
    have h1 := hb x List.mem_cons_self
    have h2 := (bitD_maskB (l := x :: l) (i := x.toNat) (by omega)).2 (by rw [show ((x.toNat : Nat) : Int) = x by omega]; exact List.mem_cons_self)
    rw [e] at h2; simp at h2
def stepB (rows : List (BitVec 64)) (f : BitVec 64) (b : Bst) (t : BitVec 64) : Bst := if befB (pairB rows f t) b = true then pairB rows f t else b
def bestR (rows : List (BitVec 64)) (f : BitVec 64) (b : Bst) : Bst := (recvB rows f).foldl (stepB rows f) b
def bestK (rows : List (BitVec 64)) (l : List Int) (n : Nat) : Bst := (List.range n).foldl (fun b i => bestR rows (maskB (subF l (i + 1))) b) noneB
def sendM (rows : List (BitVec 64)) : Nat → BitVec 64
  | 0 => 0#64
  | k + 1 => if at_ rows (k : Int) ≠ 0#64 then sendM rows k ||| bitB (k : Int) else sendM rows k
theorem sendM_succ (rows : List (BitVec 64)) (k : Nat) : sendM rows (k + 1) = if at_ rows (k : Int) ≠ 0#64 then sendM rows k ||| bitB (k : Int) else sendM rows k := rfl
def sendL (rows : List (BitVec 64)) : List Int := listB (sendM rows rows.length)
/-- The pair with the greatest square, the first one of several. -/
def bestF (rows : List (BitVec 64)) : Bst := bestK rows (sendL rows) (2 ^ (sendL rows).length - 1)
def bestG (nd : Int) (ars : List Pt) : Bst := if checkD nd ars ≠ 0 then ⟨[], [], 0, ⟨0, 0⟩⟩ else bestF (outB nd ars)
theorem bestK_succ {rows : List (BitVec 64)} {l : List Int} {m : Nat} (h : 1 ≤ m) : bestK rows l m = bestR rows (maskB (subF l m)) (bestK rows l (m - 1)) := by
  obtain ⟨n, rfl⟩ : ∃ n, m = n + 1 := ⟨m - 1, by omega⟩
  unfold bestK
  rw [List.range_succ, List.foldl_append]; rfl
theorem fold_take {α β : Type} [Inhabited α] {l : List α} {g : β → α → β} {b : β} {q : Nat} (h : q < l.length) : (l.take (q + 1)).foldl g b = g ((l.take q).foldl g b) (at_ l (q : Int)) := by
  rw [take_at l q h, List.foldl_append]; rfl
theorem bitD_one {k i : Nat} (hk : k < 64) : (bitB (k : Int)).getLsbD i = true ↔ i = k := by
  unfold bitB
  rw [if_neg (by omega), Int.toNat_natCast]
  exact getLsb_oneB hk
theorem sendM_bit {rows : List (BitVec 64)} : ∀ {k : Nat}, k ≤ 64 → ∀ i : Nat, (sendM rows k).getLsbD i = true ↔ (i < k ∧ at_ rows (i : Int) ≠ 0#64)
  | 0, _, i => by
    show (0#64).getLsbD i = true ↔ _
    simp
  | k + 1, hk, i => by
    have ih := sendM_bit (rows := rows) (k := k) (by omega) i
    rw [sendM_succ]
    by_cases h : at_ rows (k : Int) ≠ 0#64
    · rw [if_pos h, BitVec.getLsbD_or, Bool.or_eq_true, ih, bitD_one (by omega)]
      constructor
      · rintro (h1 | rfl)
        · exact ⟨by omega, h1.2⟩
        · exact ⟨by omega, h⟩
      · rintro ⟨h1, h2⟩
        by_cases e : i = k
        · exact .inr e
        · exact .inl ⟨by omega, h2⟩
    · rw [if_neg h, ih]
      constructor
      · rintro ⟨h1, h2⟩; exact ⟨by omega, h2⟩
      · rintro ⟨h1, h2⟩
        refine ⟨?_, h2⟩
        have : i ≠ k := fun e => by subst e; exact h h2
        omega
theorem mem_sendL {rows : List (BitVec 64)} (h : rows.length ≤ 64) {x : Int} : x ∈ sendL rows ↔ (0 ≤ x ∧ x < rows.length) ∧ at_ rows x ≠ 0#64 := by
  unfold sendL
  rw [mem_listB, sendM_bit h]
  constructor
  · rintro ⟨h0, h1, h2⟩
    rw [show ((x.toNat : Nat) : Int) = x by omega] at h2
    exact ⟨⟨h0, by omega⟩, h2⟩
  · rintro ⟨⟨h0, h1⟩, h2⟩
    rw [show ((x.toNat : Nat) : Int) = x by omega]
    exact ⟨h0, by omega, h2⟩
theorem shr_zero {m n : Nat} : (m : Int) / 2 ^ ((n : Int)).toNat ≠ 0 ↔ 2 ^ n ≤ m := by
  have e : (m : Int) / 2 ^ ((n : Int)).toNat = ((m / 2 ^ n : Nat) : Int) := by rw [Int.toNat_natCast, Int.natCast_ediv, Int.natCast_pow]; rfl
  have hp : 0 < 2 ^ n := Nat.pow_pos (by decide)
  rw [e]
  constructor
  · intro h
    refine Nat.not_lt.1 fun hl => h ?_
    rw [Nat.div_eq_of_lt hl]; rfl
  · intro h e2
    have := Nat.div_pos h hp
    omega
theorem shr_odd {m i : Nat} : (m : Int) / 2 ^ ((i : Int)).toNat % 2 ≠ 0 ↔ m / 2 ^ i % 2 = 1 := by
  have e : (m : Int) / 2 ^ ((i : Int)).toNat = ((m / 2 ^ i : Nat) : Int) := by rw [Int.toNat_natCast, Int.natCast_ediv, Int.natCast_pow]; rfl
  rw [e]; omega
theorem shr_bd (m i : Nat) : 0 ≤ (m : Int) / 2 ^ ((i : Int)).toNat ∧ (m : Int) / 2 ^ ((i : Int)).toNat ≤ m := by
  have e : (m : Int) / 2 ^ ((i : Int)).toNat = ((m / 2 ^ i : Nat) : Int) := by rw [Int.toNat_natCast, Int.natCast_ediv, Int.natCast_pow]; rfl
  rw [e]
  exact ⟨Int.natCast_nonneg _, Int.ofNat_le.2 (Nat.div_le_self m (2 ^ i))⟩
theorem outB_bit {nd : Int} {ars : List Pt} (h : DgOk nd ars) (u : Int) (v : Nat) (hu : 0 ≤ u) : (at_ (outB nd ars) u).getLsbD v = true ↔ (⟨u, (v : Int)⟩ : Pt) ∈ ars := by
  have hr := h.rng
  have key : ∀ k : Nat, k ≤ ars.length → ((at_ (outB nd (ars.take k)) u).getLsbD v = true ↔ (⟨u, (v : Int)⟩ : Pt) ∈ ars.take k) := fun k => by
    induction k with
    | zero =>
      intro _
      rw [List.take_zero, show outB nd [] = rows0 nd from rfl, show rows0 nd = List.replicate (min (max nd 0) 64).toNat (0#64) from rfl, at_rep64]
      simp
    | succ k ih =>
      intro hk
      have hlen := outB_len nd (ars.take k)
      have he := h.arc _ (at_mem (xs := ars) (i := (k : Int)) (by omega) (by omega))
      have he' := he
      unfold endsP at he'
      rw [outB_take (by omega), take_at ars k (by omega), List.mem_append, List.mem_singleton, ← ih (by omega)]
      unfold addO
      rw [if_pos (by rw [hlen]; unfold endsP; omega), at_set _ _ _ _ he'.1 hu (by omega)]
      by_cases e : (at_ ars (k : Int)).u = u
      · rw [if_pos e, BitVec.getLsbD_or, Bool.or_eq_true, e]
        have hb : (bitB (at_ ars (k : Int)).v).getLsbD v = true ↔ (v : Int) = (at_ ars (k : Int)).v := by
          have := bitD_one (k := (at_ ars (k : Int)).v.toNat) (i := v) (by omega)
          rw [show (((at_ ars (k : Int)).v.toNat : Nat) : Int) = (at_ ars (k : Int)).v by omega] at this
          rw [this]; omega
        rw [hb]
        constructor
        · rintro (h1 | h1)
          · exact .inl h1
          · refine .inr (by rw [h1, ← e])
        · rintro (h1 | h1)
          · exact .inl h1
          · exact .inr (by rw [← h1])
      · rw [if_neg e]
        constructor
        · exact .inl
        · rintro (h1 | h1)
          · exact h1
          · exact absurd (by rw [← h1]) e
  have := key ars.length (Nat.le_refl _)
  rwa [List.take_length] at this
theorem rowsD_of {nd : Int} {ars : List Pt} (h : DgOk nd ars) (h6 : nd ≤ 6) : RowsD (outB nd ars) := by
  have hr := h.rng
  have hl := outB_len nd ars
  refine ⟨by omega, fun v i hi => ?_⟩
  by_cases hv : 0 ≤ v
  · have := h.arc _ ((outB_bit h v i hv).1 hi)
    unfold endsP at this; simp only at this; omega
  · have e : at_ (outB nd ars) v = at_ (outB nd ars) 0 := by unfold at_; rw [show v.toNat = (0 : Int).toNat by simp; omega]
    rw [e] at hi
    have := h.arc _ ((outB_bit h 0 i (by decide)).1 hi)
    unfold endsP at this; simp only at this; omega
theorem sortR_mem {rows : List (BitVec 64)} {f : BitVec 64} {x : Int} : x ∈ sortR rows f ↔ x ∈ listB (orK rows (listB f)) := (isort_perm _ _).mem_iff
theorem recv_at {rows : List (BitVec 64)} {f : BitVec 64} {q : Nat} (h : q < (recvB rows f).length) : at_ (recvB rows f) (q : Int) = maskB ((sortR rows f).take (q + 1)) := by
  rw [recvB_len] at h
  unfold recvB prefM
  rw [at_nat, List.getD_eq_getElem?_getD, List.getElem?_map, List.getElem?_range h]; rfl
theorem recv_nz {rows : List (BitVec 64)} {f : BitVec 64} {q : Nat} (h : q < (recvB rows f).length) : at_ (recvB rows f) (q : Int) ≠ 0#64 := by
  rw [recv_at h]
  rw [recvB_len] at h
  refine mask_nz (fun e => ?_) fun x hx => ?_
  · have := congrArg List.length e
    rw [List.length_take, List.length_nil] at this; omega
  · obtain ⟨h0, h1⟩ := mem_listB.1 (sortR_mem.1 (List.mem_of_mem_take hx))
    have := BitVec.lt_of_getLsbD h1; omega
theorem sub_nz {rows : List (BitVec 64)} (hR : rows.length ≤ 64) {m : Nat} (h1 : 1 ≤ m) (h2 : m < 2 ^ (sendL rows).length) : maskB (subF (sendL rows) m) ≠ 0#64 := by
  refine mask_nz (subF_ne h1 h2) fun x hx => ?_
  have := (mem_sendL hR).1 (subF_sub hx)
  omega
theorem sub_bit {rows : List (BitVec 64)} (hR : rows.length ≤ 64) {m i : Nat} (h : (maskB (subF (sendL rows) m)).getLsbD i = true) : i < rows.length := by
  have h64 := BitVec.lt_of_getLsbD h
  have := (mem_sendL hR).1 (subF_sub ((bitD_maskB h64).1 h))
  omega

set_option maxHeartbeats 2000000 in
theorem BestD_ok {κ : Ctx} {I : List Item} {nd : Int} {va : Value} {ars : List Pt} (hl : Sl κ I va ars) (h6 : checkD nd ars = 0 → nd ≤ 6) (hT : TabRd κ I 0 tzCells) :
    CallS Tryz.prog κ 30 [.agg #[I64 (nd), va]] I (fun r J => ∃ a c a2 c2, r = .tuple #[.agg #[.slice a (bestG nd ars).F.length c, .slice a2 (bestG nd ars).T.length c2, I64 (bestG nd ars).n, I64 (bestG nd ars).sq.num, I64 (bestG nd ars).sq.den], I64 (checkD nd ars)] ∧ J = vc 3 (.slice a (bestG nd ars).F.length c) (bestG nd ars).F :: vc 3 (.slice a2 (bestG nd ars).T.length c2) (bestG nd ars).T :: I) := by
 refine CallS.enter (L := [(0, .agg #[I64 (nd), va])]) Tryz.func30 rfl rfl rfl rfl ?_
 refine W.sr ?_
 refine G.e (Eff.box (cs := [_, _]) rfl rfl rfl) ?_
 rintro _ _ ⟨b1, rfl, rfl⟩
 refine G.e (Eff.alloc ty58 rfl) ?_
 rintro _ _ ⟨b2, rfl, rfl⟩
 refine G.r (Runs.assign rfl) ?_
 refine G.nt ?_
 refine W.scope0 (l := 0) rfl ?_
 refine W.seq ?_
 refine W.sr ?_
 refine G.r (Runs.lds (vs := [_, _]) ty54) ?_
 refine G.e (Eff.call call43 rfl rfl (CheckD_ok (nd := nd) (Sl.f hl))) ?_
 rintro _ _ ⟨_, _, ⟨rfl, rfl⟩, rfl, rfl⟩
 refine G.r (Runs.assign rfl) ?_
 refine G.nt ?_
 refine W.sr ?_
 refine G.r (Runs.move rfl) ?_
 refine G.r (Runs.neq rfl rfl) ?_
 refine G.nt ?_
 refine W.ite rfl (fun c22 => ?_) (fun c22 => ?_)
 ·refine W.sr ?_
  refine G.r (Runs.build (cells := [_, _, _, _, _]) ty58 Tryz.underlying58 pl58 rfl rfl) ?_
  refine G.r (Runs.move rfl) ?_
  refine G.e (Eff.st (cs := [_, _, _, _, _]) (vs := [_, _, _, _, _]) (cs' := [_, _, _, _, _]) ty58) ?_
  rintro _ _ ⟨rfl, rfl⟩
  refine G.r (Runs.assign rfl) ?_
  refine G.nt ?_
  refine W.ret ?_
  refine V.then_ret ?_
  refine V.jump_ret ?_
  have hX : bestG nd ars = ⟨[], [], 0, ⟨0, 0⟩⟩ := if_pos c22
  exact V.retc1 rfl ty58 rfl rfl (by repeat (first | exact List.mem_cons_self | apply List.mem_cons_of_mem)) rfl (vc 3 (.slice none (bestG nd ars).F.length 0) (bestG nd ars).F :: vc 3 (.slice none (bestG nd ars).T.length 0) (bestG nd ars).T :: I) (by rw [hX]; exact Fit.trans (show Fit κ _ I from Fit.m) (Fit.trans (Fit.nilvc (α := Int) _ _) (Fit.nilvc (α := Int) _ _))) ⟨none, 0, none, 0, by rw [hX]; rfl, rfl⟩
 ·refine W.skip ?_
  refine V.then ?_
  refine W.sr ?_
  refine G.r (Runs.lds (vs := [_, _]) ty54) ?_
  have hd1 : checkD nd ars = 0 := Classical.not_not.1 c22
  have hd := checkD_ok.1 hd1
  have hRD := rowsD_of hd (h6 hd1)
  have hr6 := hRD.len
  have hll : (sendL (outB nd ars)).length ≤ 6 := by have := len_bits (m := sendM (outB nd ars) (outB nd ars).length) (n := (outB nd ars).length) (fun i hi => ((sendM_bit (by omega) i).1 hi).1); unfold sendL; omega
  refine G.e (Eff.call call74 rfl rfl (Outs_ok (nd := nd) (Sl.f hl))) ?_
  rintro _ _ ⟨_, _, ⟨ad3, cp4, rfl, rfl⟩, rfl, rfl⟩
  have holad3 := outB_len nd ars
  refine G.r (Runs.assign rfl) ?_
  refine G.nt ?_
  refine W.sr ?_
  refine G.r (Runs.assign rfl) ?_
  refine G.r (Runs.assign rfl) ?_
  refine G.nt ?_
  refine W.sub (L' := [(7, _), (6, _), (5, _), (2, _)]) (Sub.cons rfl (Sub.cons rfl (Sub.cons rfl (Sub.cons rfl Sub.nil)))) ?_
  refine W.seq ?_
  refine W.sr ?_
  refine G.r (Runs.move rfl) ?_
  refine G.r (Runs.lens Tryz.underlying104 rfl) ?_
  refine G.r (Runs.move rfl) ?_
  refine G.nt ?_
  refine W.block ?_
  refine W.loop (σ := Nat × (BitVec 64) × (BitVec 64)) (fun s => ([(2, .pointer (some ⟨b2, 0, none⟩)), (5, .slice ad3 (outB nd ars).length cp4), (6, U64 (s.2.1)), (7, U64 (s.2.2)), (27, .slice ad3 (outB nd ars).length cp4), (28, I64 ((((outB nd ars).length : Nat) : Int))), (29, I64 (((s.1 : Nat) : Int)))] : Env)) (fun s => vc 86 (.slice ad3 (outB nd ars).length cp4) (outB nd ars) :: blk b2 [.slice none 0 0, .slice none 0 0, I64 (0), I64 (0), I64 (0)] 58 :: blk b1 [I64 (nd), va] 54 :: I) (fun s => (s.1 ≤ (outB nd ars).length) ∧ (s.2.1 = sendM (outB nd ars) s.1) ∧ (∀ i : Nat, s.2.2.getLsbD i = true → i < (outB nd ars).length)) (fun s => (outB nd ars).length - s.1) (0, 0#64, 0#64) (show ((0 : Nat) ≤ (outB nd ars).length) ∧ ((0#64 : BitVec 64) = sendM (outB nd ars) (0 : Nat)) ∧ (∀ i : Nat, (0#64 : BitVec 64).getLsbD i = true → i < (outB nd ars).length) from ⟨(by omega), rfl, (fun i hi => by simp at hi)⟩) (Sub.cons rfl (Sub.cons rfl (Sub.cons (lookV rfl (by first | rfl | simp)) (Sub.cons (lookV rfl (by first | rfl | simp)) (Sub.cons rfl (Sub.cons rfl (Sub.cons lookO Sub.nil))))))) (show Fit κ _ (vc 86 (.slice ad3 (outB nd ars).length cp4) (outB nd ars) :: blk b2 [.slice none 0 0, .slice none 0 0, I64 (0), I64 (0), I64 (0)] 58 :: blk b1 [I64 (nd), va] 54 :: I) from Fit.sub) ?_
  rintro ⟨k, smq, amq⟩ hp
  obtain ⟨hk, hs, ham⟩ : (k ≤ (outB nd ars).length) ∧ (smq = sendM (outB nd ars) k) ∧ (∀ i : Nat, amq.getLsbD i = true → i < (outB nd ars).length) := hp
  show W Tryz.prog κ 96 _ _ ([(2, .pointer (some ⟨b2, 0, none⟩)), (5, .slice ad3 (outB nd ars).length cp4), (6, U64 (smq)), (7, U64 (amq)), (27, .slice ad3 (outB nd ars).length cp4), (28, I64 ((((outB nd ars).length : Nat) : Int))), (29, I64 (((k : Nat) : Int)))] : Env) (vc 86 (.slice ad3 (outB nd ars).length cp4) (outB nd ars) :: blk b2 [.slice none 0 0, .slice none 0 0, I64 (0), I64 (0), I64 (0)] 58 :: blk b1 [I64 (nd), va] 54 :: I)
  refine W.sr ?_
  refine G.r (Runs.lss rfl rfl) ?_
  refine G.nt ?_
  refine W.seq ?_
  refine W.ite rfl (fun c30 => ?_) (fun c30 => ?_)
  ·refine W.skip ?_
   refine V.then ?_
   refine W.seq ?_
   refine W.block ?_
   refine W.sr ?_
   refine G.r (Runs.move rfl) ?_
   refine G.r (Runs.idx (α := (BitVec 64)) (xs := outB nd ars) Tryz.underlying104 ty86 rfl rfl Sl.o (by omega) (by omega)) ?_
   refine G.r (Runs.getf0 (α := (BitVec 64)) (xs := outB nd ars) (u := U64 ((at_ (outB nd ars) ((k : Nat) : Int)))) ty86 rfl Sl.o (by omega) (by omega) rfl) ?_
   refine G.r (Runs.assign rfl) ?_
   refine G.r (Runs.assign rfl) ?_
   refine G.nt ?_
   refine W.sr ?_
   refine G.r (Runs.move rfl) ?_
   refine G.r (Runs.neB (a := (at_ (outB nd ars) ((k : Nat) : Int))) (b := 0#64) rfl rfl) ?_
   refine G.nt ?_
   refine W.sub (L' := [(35, _), (9, _), (8, _), (2, _), (5, _), (6, _), (7, _), (27, _), (28, _), (29, _)]) (Sub.cons rfl (Sub.cons rfl (Sub.cons rfl (Sub.cons rfl (Sub.cons rfl (Sub.cons rfl (Sub.cons rfl (Sub.cons rfl (Sub.cons rfl (Sub.cons rfl Sub.nil)))))))))) ?_
   refine W.ite rfl (fun c35 => ?_) (fun c35 => ?_)
   ·refine W.sr ?_
    refine G.r (Runs.move rfl) ?_
    refine G.r (Runs.move rfl) ?_
    refine G.e (Eff.call call75 rfl rfl (Bit_ok ((k : Nat) : Int))) ?_
    rintro _ _ ⟨_, _, ⟨rfl, rfl⟩, rfl, rfl⟩
    refine G.r (Runs.orB (a := smq) (b := bitB ((k : Nat) : Int)) rfl rfl) ?_
    refine G.r (Runs.assign rfl) ?_
    refine G.nt ?_
    refine W.sub (L' := [(6, _), (9, _), (8, _), (2, _), (5, _), (7, _), (27, _), (28, _), (29, _)]) (Sub.cons rfl (Sub.cons rfl (Sub.cons rfl (Sub.cons rfl (Sub.cons rfl (Sub.cons rfl (Sub.cons rfl (Sub.cons rfl (Sub.cons rfl Sub.nil))))))))) ?_
    refine W.region ?_
    refine G.r (Runs.move rfl) ?_
    refine G.r (Runs.move rfl) ?_
    refine G.e (Eff.call call75 rfl rfl (Bit_ok ((k : Nat) : Int))) ?_
    rintro _ _ ⟨_, _, ⟨rfl, rfl⟩, rfl, rfl⟩
    refine G.r (Runs.move rfl) ?_
    refine G.r (Runs.orB (a := bitB ((k : Nat) : Int)) (b := (at_ (outB nd ars) ((k : Nat) : Int))) rfl rfl) ?_
    refine G.r (Runs.orB (a := amq) (b := (bitB ((k : Nat) : Int)) ||| (at_ (outB nd ars) ((k : Nat) : Int))) rfl rfl) ?_
    refine G.r (Runs.assign rfl) ?_
    refine G.nil ?_
    refine V.block_normal ?_
    refine V.then ?_
    refine W.sub (L' := [(7, _), (6, _), (2, _), (5, _), (27, _), (28, _), (29, _)]) (Sub.cons rfl (Sub.cons rfl (Sub.cons rfl (Sub.cons rfl (Sub.cons rfl (Sub.cons rfl (Sub.cons rfl Sub.nil))))))) ?_
    refine W.region ?_
    refine G.r (Runs.add rfl rfl (by unfold InR; omega)) ?_
    refine G.r (Runs.move rfl) ?_
    refine G.nil ?_
    exact V.next ((k + 1), (smq ||| (bitB ((k : Nat) : Int))), (amq ||| ((bitB ((k : Nat) : Int)) ||| (at_ (outB nd ars) ((k : Nat) : Int))))) (show ((k + 1 : Nat) ≤ (outB nd ars).length) ∧ ((smq ||| (bitB ((k : Nat) : Int)) : BitVec 64) = sendM (outB nd ars) (k + 1 : Nat)) ∧ (∀ i : Nat, (amq ||| ((bitB ((k : Nat) : Int)) ||| (at_ (outB nd ars) ((k : Nat) : Int))) : BitVec 64).getLsbD i = true → i < (outB nd ars).length) from ⟨(by omega), (by rw [sendM_succ]; first | rw [if_pos c35, ← hs] | rw [if_neg c35, ← hs]), (fun i hi => by first | exact ham i hi | (rw [BitVec.getLsbD_or, Bool.or_eq_true, BitVec.getLsbD_or, Bool.or_eq_true, bitD_one (by omega)] at hi; rcases hi with h | h | h; (· exact ham i h); (· omega); (· exact hRD.bit _ i h)))⟩) (show (outB nd ars).length - (k + 1 : Nat) < (outB nd ars).length - k from (by omega)) (Sub.cons rfl (Sub.cons rfl (Sub.cons (lookV rfl (by first | rfl | simp)) (Sub.cons (lookV rfl (by first | rfl | simp)) (Sub.cons rfl (Sub.cons rfl (Sub.cons lookO Sub.nil))))))) (show Fit κ _ (vc 86 (.slice ad3 (outB nd ars).length cp4) (outB nd ars) :: blk b2 [.slice none 0 0, .slice none 0 0, I64 (0), I64 (0), I64 (0)] 58 :: blk b1 [I64 (nd), va] 54 :: I) from Fit.sub)
   ·refine W.skip ?_
    refine V.block_normal ?_
    refine V.then ?_
    refine W.region ?_
    refine G.r (Runs.add rfl rfl (by unfold InR; omega)) ?_
    refine G.r (Runs.move rfl) ?_
    refine G.nil ?_
    exact V.next ((k + 1), (smq), (amq)) (show ((k + 1 : Nat) ≤ (outB nd ars).length) ∧ ((smq : BitVec 64) = sendM (outB nd ars) (k + 1 : Nat)) ∧ (∀ i : Nat, (amq : BitVec 64).getLsbD i = true → i < (outB nd ars).length) from ⟨(by omega), (by rw [sendM_succ]; first | rw [if_pos c35, ← hs] | rw [if_neg c35, ← hs]), (fun i hi => by first | exact ham i hi | (rw [BitVec.getLsbD_or, Bool.or_eq_true, BitVec.getLsbD_or, Bool.or_eq_true, bitD_one (by omega)] at hi; rcases hi with h | h | h; (· exact ham i h); (· omega); (· exact hRD.bit _ i h)))⟩) (show (outB nd ars).length - (k + 1 : Nat) < (outB nd ars).length - k from (by omega)) (Sub.cons rfl (Sub.cons rfl (Sub.cons (lookV rfl (by first | rfl | simp)) (Sub.cons (lookV rfl (by first | rfl | simp)) (Sub.cons rfl (Sub.cons rfl (Sub.cons lookO Sub.nil))))))) (show Fit κ _ (vc 86 (.slice ad3 (outB nd ars).length cp4) (outB nd ars) :: blk b2 [.slice none 0 0, .slice none 0 0, I64 (0), I64 (0), I64 (0)] 58 :: blk b1 [I64 (nd), va] 54 :: I) from Fit.sub)
  ·refine W.exit ?_
   refine V.then_exit ?_
   refine V.then_exit ?_
   refine V.block_hit ?_
   refine V.then ?_
   refine W.seq ?_
   refine W.sr ?_
   refine G.r (Runs.move rfl) ?_
   refine G.e (Eff.call call57 rfl rfl (MCount_ok amq)) ?_
   rintro _ _ ⟨_, _, ⟨rfl, rfl⟩, rfl, rfl⟩
   refine G.r (Runs.gtr rfl rfl) ?_
   refine G.nt ?_
   refine W.ite rfl (fun c49 => ?_) (fun c49 => ?_)
   ·exact absurd (by rw [ones_pop]; have := len_bits (m := amq) ham; omega) (show ¬ onesB amq ≤ 12 by omega)
   ·refine W.skip ?_
    refine V.then ?_
    refine W.sr ?_
    refine G.e (Eff.call call76 rfl rfl None0_ok) ?_
    rintro _ _ ⟨_, _, ⟨rfl, rfl⟩, rfl, rfl⟩
    refine G.e (Eff.alloc ty58 rfl) ?_
    rintro _ _ ⟨b5, rfl, rfl⟩
    refine G.e (Eff.st (cs := [_, _, _, _, _]) (vs := [_, _, _, _, _]) (cs' := [_, _, _, _, _]) ty58) ?_
    rintro _ _ ⟨rfl, rfl⟩
    refine G.nt ?_
    refine W.sr ?_
    refine G.r (Runs.move rfl) ?_
    have hsE : smq = sendM (outB nd ars) (outB nd ars).length := by rw [hs, show k = (outB nd ars).length from by omega]
    subst hsE
    refine G.e (Eff.call call54 rfl rfl (MList_ok (sendM (outB nd ars) (outB nd ars).length) (TabRd.fit hT Fit.m))) ?_
    rintro _ _ ⟨_, _, ⟨ad6, cp7, rfl, rfl⟩, rfl, rfl⟩
    show G Tryz.prog κ _ _ _ _ ([(53, .slice ad6 (sendL (outB nd ars)).length cp7), (52, U64 (sendM (outB nd ars) (outB nd ars).length)), (10, .pointer (some ⟨b5, 0, none⟩)), (51, .agg #[.slice none 0 0, .slice none 0 0, I64 (0), I64 (0), I64 (1)]), (49, .bool (decide (12 < (onesB amq)))), (48, I64 (onesB amq)), (47, U64 (amq)), (30, .bool (decide (((k : Nat) : Int) < (((outB nd ars).length : Nat) : Int)))), (2, .pointer (some ⟨b2, 0, none⟩)), (5, .slice ad3 (outB nd ars).length cp4), (6, U64 (sendM (outB nd ars) (outB nd ars).length)), (7, U64 (amq)), (27, .slice ad3 (outB nd ars).length cp4), (28, I64 ((((outB nd ars).length : Nat) : Int))), (29, I64 (((k : Nat) : Int)))] : Env) (vc 3 (.slice ad6 (sendL (outB nd ars)).length cp7) (sendL (outB nd ars)) :: blk b5 [.slice none 0 0, .slice none 0 0, I64 (0), I64 (0), I64 (1)] 58 :: vc 86 (.slice ad3 (outB nd ars).length cp4) (outB nd ars) :: blk b2 [.slice none 0 0, .slice none 0 0, I64 (0), I64 (0), I64 (0)] 58 :: blk b1 [I64 (nd), va] 54 :: I)
    refine G.r (Runs.assign rfl) ?_
    refine G.nt ?_
    refine W.sub (L' := [(11, _), (10, _), (2, _), (5, _)]) (Sub.cons rfl (Sub.cons rfl (Sub.cons rfl (Sub.cons rfl Sub.nil)))) ?_
    refine W.seq ?_
    refine W.label ?_
    refine V.then ?_
    refine W.seq ?_
    refine W.sr ?_
    refine G.r (Runs.assign rfl) ?_
    refine G.nt ?_
    refine W.block ?_
    refine W.loop (σ := Nat × (Option Addr) × Nat × (Option Addr) × Nat × Bst) (fun s => ([(2, .pointer (some ⟨b2, 0, none⟩)), (5, .slice ad3 (outB nd ars).length cp4), (10, .pointer (some ⟨b5, 0, none⟩)), (11, .slice ad6 (sendL (outB nd ars)).length cp7), (12, .int .u64 (((s.1 : Nat) : Int)))] : Env)) (fun s => vc 3 (.slice s.2.1 s.2.2.2.2.2.F.length s.2.2.1) (s.2.2.2.2.2.F) :: vc 3 (.slice s.2.2.2.1 s.2.2.2.2.2.T.length s.2.2.2.2.1) (s.2.2.2.2.2.T) :: vc 3 (.slice ad6 (sendL (outB nd ars)).length cp7) (sendL (outB nd ars)) :: blk b5 [.slice s.2.1 s.2.2.2.2.2.F.length s.2.2.1, .slice s.2.2.2.1 s.2.2.2.2.2.T.length s.2.2.2.2.1, I64 (s.2.2.2.2.2.n), I64 (s.2.2.2.2.2.sq.num), I64 (s.2.2.2.2.2.sq.den)] 58 :: vc 86 (.slice ad3 (outB nd ars).length cp4) (outB nd ars) :: blk b2 [.slice none 0 0, .slice none 0 0, I64 (0), I64 (0), I64 (0)] 58 :: blk b1 [I64 (nd), va] 54 :: I) (fun s => (1 ≤ s.1 ∧ s.1 ≤ 2 ^ (sendL (outB nd ars)).length) ∧ (s.2.2.2.2.2 = bestK (outB nd ars) (sendL (outB nd ars)) (s.1 - 1)) ∧ (FrV s.2.2.2.2.2.sq)) (fun s => 2 ^ (sendL (outB nd ars)).length + 1 - s.1) (1, none, 0, none, 0, noneB) (show (1 ≤ (1 : Nat) ∧ (1 : Nat) ≤ 2 ^ (sendL (outB nd ars)).length) ∧ ((noneB : Bst) = bestK (outB nd ars) (sendL (outB nd ars)) ((1 : Nat) - 1)) ∧ (FrV (noneB : Bst).sq) from ⟨⟨Nat.le_refl _, Nat.one_le_two_pow⟩, rfl, noneB_val⟩) (Sub.cons rfl (Sub.cons rfl (Sub.cons rfl (Sub.cons rfl (Sub.cons (lookV rfl (by first | rfl | simp)) Sub.nil))))) (show Fit κ _ (vc 3 (.slice (none) (noneB).F.length (0)) ((noneB).F) :: vc 3 (.slice (none) (noneB).T.length (0)) ((noneB).T) :: vc 3 (.slice ad6 (sendL (outB nd ars)).length cp7) (sendL (outB nd ars)) :: blk b5 [.slice (none) (noneB).F.length (0), .slice (none) (noneB).T.length (0), I64 ((noneB).n), I64 ((noneB).sq.num), I64 ((noneB).sq.den)] 58 :: vc 86 (.slice ad3 (outB nd ars).length cp4) (outB nd ars) :: blk b2 [.slice none 0 0, .slice none 0 0, I64 (0), I64 (0), I64 (0)] 58 :: blk b1 [I64 (nd), va] 54 :: I) from (Fit.trans (Fit.nilvc (α := Int) _ _) (Fit.nilvc (α := Int) _ _))) ?_
    rintro ⟨m, fa, fc, ta, tc, bb⟩ hp
    obtain ⟨hm, hb, hv⟩ : (1 ≤ m ∧ m ≤ 2 ^ (sendL (outB nd ars)).length) ∧ (bb = bestK (outB nd ars) (sendL (outB nd ars)) (m - 1)) ∧ (FrV bb.sq) := hp
    show W Tryz.prog κ 96 _ _ ([(2, .pointer (some ⟨b2, 0, none⟩)), (5, .slice ad3 (outB nd ars).length cp4), (10, .pointer (some ⟨b5, 0, none⟩)), (11, .slice ad6 (sendL (outB nd ars)).length cp7), (12, .int .u64 (((m : Nat) : Int)))] : Env) (vc 3 (.slice fa bb.F.length fc) (bb.F) :: vc 3 (.slice ta bb.T.length tc) (bb.T) :: vc 3 (.slice ad6 (sendL (outB nd ars)).length cp7) (sendL (outB nd ars)) :: blk b5 [.slice fa bb.F.length fc, .slice ta bb.T.length tc, I64 (bb.n), I64 (bb.sq.num), I64 (bb.sq.den)] 58 :: vc 86 (.slice ad3 (outB nd ars).length cp4) (outB nd ars) :: blk b2 [.slice none 0 0, .slice none 0 0, I64 (0), I64 (0), I64 (0)] 58 :: blk b1 [I64 (nd), va] 54 :: I)
    have hpw := @shr_zero m (sendL (outB nd ars)).length
    have hp64 : 2 ^ (sendL (outB nd ars)).length ≤ 2 ^ 6 := Nat.pow_le_pow_right (by decide) hll
    refine W.seq ?_
    refine W.block ?_
    refine W.seq ?_
    refine W.sr ?_
    refine G.r (Runs.move rfl) ?_
    refine G.r (Runs.move rfl) ?_
    refine G.r (Runs.lens Tryz.underlying22 rfl) ?_
    refine G.r (Runs.shrU (m := ((m : Nat) : Int)) (n := (((sendL (outB nd ars)).length : Nat) : Int)) rfl rfl (by omega) (by omega)) ?_
    refine G.r (Runs.neq rfl rfl) ?_
    refine G.nt ?_
    refine W.ite rfl (fun c60 => ?_) (fun c60 => ?_)
    ·refine W.exit ?_
     refine V.then_exit ?_
     refine V.block_miss rfl ?_
     refine V.then_exit ?_
     refine V.then_exit ?_
     refine V.block_hit ?_
     refine V.then ?_
     refine W.sr ?_
     refine G.r (Runs.lds (vs := [_, _, _, _, _]) ty58) ?_
     refine G.e (Eff.st (cs := [_, _, _, _, _]) (vs := [_, _, _, _, _]) (cs' := [_, _, _, _, _]) ty58) ?_
     rintro _ _ ⟨rfl, rfl⟩
     refine G.r (Runs.assign rfl) ?_
     refine G.nt ?_
     refine W.ret ?_
     refine V.jump_ret ?_
     have hmE : m = 2 ^ (sendL (outB nd ars)).length := by have := hpw.1 c60; omega
     have hX : bestG nd ars = bb := by unfold bestG bestF; rw [if_neg (by rw [hd1]; decide), hb, hmE]
     exact V.retc1 rfl ty58 rfl rfl (by repeat (first | exact List.mem_cons_self | apply List.mem_cons_of_mem)) rfl (vc 3 (.slice fa (bestG nd ars).F.length fc) (bestG nd ars).F :: vc 3 (.slice ta (bestG nd ars).T.length tc) (bestG nd ars).T :: I) (by rw [hX]; exact Fit.s) ⟨fa, fc, ta, tc, by rw [hX, hd1], rfl⟩
    ·refine W.skip ?_
     refine V.then ?_
     refine W.sr ?_
     refine G.r (Runs.assign rfl) ?_
     refine G.nt ?_
     refine W.seq ?_
     refine W.sr ?_
     refine G.r (Runs.move rfl) ?_
     refine G.r (Runs.lens Tryz.underlying22 rfl) ?_
     refine G.r (Runs.move rfl) ?_
     refine G.nt ?_
     refine W.sub (L' := [(63, _), (62, _), (61, _), (13, _), (2, _), (5, _), (10, _), (11, _), (12, _)]) (Sub.cons rfl (Sub.cons rfl (Sub.cons rfl (Sub.cons rfl (Sub.cons rfl (Sub.cons rfl (Sub.cons rfl (Sub.cons rfl (Sub.cons rfl Sub.nil))))))))) ?_
     refine W.block ?_
     refine W.loop (σ := Nat × (BitVec 64)) (fun s => ([(2, .pointer (some ⟨b2, 0, none⟩)), (5, .slice ad3 (outB nd ars).length cp4), (10, .pointer (some ⟨b5, 0, none⟩)), (11, .slice ad6 (sendL (outB nd ars)).length cp7), (12, .int .u64 (((m : Nat) : Int))), (13, U64 (s.2)), (61, .slice ad6 (sendL (outB nd ars)).length cp7), (62, I64 ((((sendL (outB nd ars)).length : Nat) : Int))), (63, I64 (((s.1 : Nat) : Int)))] : Env)) (fun s => vc 3 (.slice fa bb.F.length fc) (bb.F) :: vc 3 (.slice ta bb.T.length tc) (bb.T) :: vc 3 (.slice ad6 (sendL (outB nd ars)).length cp7) (sendL (outB nd ars)) :: blk b5 [.slice fa bb.F.length fc, .slice ta bb.T.length tc, I64 (bb.n), I64 (bb.sq.num), I64 (bb.sq.den)] 58 :: vc 86 (.slice ad3 (outB nd ars).length cp4) (outB nd ars) :: blk b2 [.slice none 0 0, .slice none 0 0, I64 (0), I64 (0), I64 (0)] 58 :: blk b1 [I64 (nd), va] 54 :: I) (fun s => (s.1 ≤ (sendL (outB nd ars)).length) ∧ (s.2 = maskB (subF ((sendL (outB nd ars)).take s.1) m))) (fun s => (sendL (outB nd ars)).length - s.1) (0, 0#64) (show ((0 : Nat) ≤ (sendL (outB nd ars)).length) ∧ ((0#64 : BitVec 64) = maskB (subF ((sendL (outB nd ars)).take (0 : Nat)) m)) from ⟨(by omega), rfl⟩) (Sub.cons rfl (Sub.cons rfl (Sub.cons rfl (Sub.cons rfl (Sub.cons rfl (Sub.cons (lookV rfl (by first | rfl | simp)) (Sub.cons rfl (Sub.cons rfl (Sub.cons lookO Sub.nil))))))))) (show Fit κ _ (vc 3 (.slice fa bb.F.length fc) (bb.F) :: vc 3 (.slice ta bb.T.length tc) (bb.T) :: vc 3 (.slice ad6 (sendL (outB nd ars)).length cp7) (sendL (outB nd ars)) :: blk b5 [.slice fa bb.F.length fc, .slice ta bb.T.length tc, I64 (bb.n), I64 (bb.sq.num), I64 (bb.sq.den)] 58 :: vc 86 (.slice ad3 (outB nd ars).length cp4) (outB nd ars) :: blk b2 [.slice none 0 0, .slice none 0 0, I64 (0), I64 (0), I64 (0)] 58 :: blk b1 [I64 (nd), va] 54 :: I) from Fit.sub) ?_
     rintro ⟨i, fm⟩ hp
     obtain ⟨hi, hfm⟩ : (i ≤ (sendL (outB nd ars)).length) ∧ (fm = maskB (subF ((sendL (outB nd ars)).take i) m)) := hp
     show W Tryz.prog κ 96 _ _ ([(2, .pointer (some ⟨b2, 0, none⟩)), (5, .slice ad3 (outB nd ars).length cp4), (10, .pointer (some ⟨b5, 0, none⟩)), (11, .slice ad6 (sendL (outB nd ars)).length cp7), (12, .int .u64 (((m : Nat) : Int))), (13, U64 (fm)), (61, .slice ad6 (sendL (outB nd ars)).length cp7), (62, I64 ((((sendL (outB nd ars)).length : Nat) : Int))), (63, I64 (((i : Nat) : Int)))] : Env) (vc 3 (.slice fa bb.F.length fc) (bb.F) :: vc 3 (.slice ta bb.T.length tc) (bb.T) :: vc 3 (.slice ad6 (sendL (outB nd ars)).length cp7) (sendL (outB nd ars)) :: blk b5 [.slice fa bb.F.length fc, .slice ta bb.T.length tc, I64 (bb.n), I64 (bb.sq.num), I64 (bb.sq.den)] 58 :: vc 86 (.slice ad3 (outB nd ars).length cp4) (outB nd ars) :: blk b2 [.slice none 0 0, .slice none 0 0, I64 (0), I64 (0), I64 (0)] 58 :: blk b1 [I64 (nd), va] 54 :: I)
     have hdv := shr_bd m i
     refine W.sr ?_
     refine G.r (Runs.lss rfl rfl) ?_
     refine G.nt ?_
     refine W.seq ?_
     refine W.ite rfl (fun c64 => ?_) (fun c64 => ?_)
     ·refine W.skip ?_
      refine V.then ?_
      refine W.seq ?_
      refine W.block ?_
      refine W.sr ?_
      refine G.r (Runs.move rfl) ?_
      refine G.r (Runs.idx (α := Int) (xs := sendL (outB nd ars)) Tryz.underlying22 ty3 rfl rfl Sl.o (by omega) (by omega)) ?_
      refine G.r (Runs.get (xs := sendL (outB nd ars)) ty3 rfl Sl.o (by omega) (by omega)) ?_
      refine G.r (Runs.assign rfl) ?_
      refine G.r (Runs.assign rfl) ?_
      refine G.nt ?_
      refine W.sub (L' := [(15, _), (14, _), (2, _), (5, _), (10, _), (11, _), (12, _), (13, _), (61, _), (62, _), (63, _)]) (Sub.cons rfl (Sub.cons rfl (Sub.cons rfl (Sub.cons rfl (Sub.cons rfl (Sub.cons rfl (Sub.cons rfl (Sub.cons rfl (Sub.cons rfl (Sub.cons rfl (Sub.cons rfl Sub.nil))))))))))) ?_
      refine W.sr ?_
      refine G.r (Runs.move rfl) ?_
      refine G.r (Runs.move rfl) ?_
      refine G.r (Runs.shrU (m := ((m : Nat) : Int)) (n := ((i : Nat) : Int)) rfl rfl (by omega) (by omega)) ?_
      refine G.r (Runs.and1U (m := ((m : Nat) : Int) / 2 ^ (((i : Nat) : Int)).toNat) rfl rfl (by omega) (by omega)) ?_
      refine G.r (Runs.neq rfl rfl) ?_
      refine G.nt ?_
      refine W.sub (L' := [(72, _), (15, _), (2, _), (5, _), (10, _), (11, _), (12, _), (13, _), (61, _), (62, _), (63, _)]) (Sub.cons rfl (Sub.cons rfl (Sub.cons rfl (Sub.cons rfl (Sub.cons rfl (Sub.cons rfl (Sub.cons rfl (Sub.cons rfl (Sub.cons rfl (Sub.cons rfl (Sub.cons rfl Sub.nil))))))))))) ?_
      refine W.ite rfl (fun c72 => ?_) (fun c72 => ?_)
      ·refine W.region ?_
       refine G.r (Runs.move rfl) ?_
       refine G.r (Runs.move rfl) ?_
       refine G.e (Eff.call call75 rfl rfl (Bit_ok (at_ (sendL (outB nd ars)) ((i : Nat) : Int)))) ?_
       rintro _ _ ⟨_, _, ⟨rfl, rfl⟩, rfl, rfl⟩
       refine G.r (Runs.orB (a := fm) (b := bitB (at_ (sendL (outB nd ars)) ((i : Nat) : Int))) rfl rfl) ?_
       refine G.r (Runs.assign rfl) ?_
       refine G.nil ?_
       refine V.block_normal ?_
       refine V.then ?_
       refine W.sub (L' := [(13, _), (2, _), (5, _), (10, _), (11, _), (12, _), (61, _), (62, _), (63, _)]) (Sub.cons rfl (Sub.cons rfl (Sub.cons rfl (Sub.cons rfl (Sub.cons rfl (Sub.cons rfl (Sub.cons rfl (Sub.cons rfl (Sub.cons rfl Sub.nil))))))))) ?_
       refine W.region ?_
       refine G.r (Runs.add rfl rfl (by unfold InR; omega)) ?_
       refine G.r (Runs.move rfl) ?_
       refine G.nil ?_
       exact V.next ((i + 1), (fm ||| (bitB (at_ (sendL (outB nd ars)) ((i : Nat) : Int))))) (show ((i + 1 : Nat) ≤ (sendL (outB nd ars)).length) ∧ ((fm ||| (bitB (at_ (sendL (outB nd ars)) ((i : Nat) : Int))) : BitVec 64) = maskB (subF ((sendL (outB nd ars)).take (i + 1 : Nat)) m)) from ⟨(by omega), (by rw [subF_take (by omega)]; first | rw [if_pos (shr_odd.1 c72), maskB_snoc, ← hfm] | (rw [if_neg (fun h => c72 (shr_odd.2 h)), List.append_nil]; exact hfm))⟩) (show (sendL (outB nd ars)).length - (i + 1 : Nat) < (sendL (outB nd ars)).length - i from (by omega)) (Sub.cons rfl (Sub.cons rfl (Sub.cons rfl (Sub.cons rfl (Sub.cons rfl (Sub.cons (lookV rfl (by first | rfl | simp)) (Sub.cons rfl (Sub.cons rfl (Sub.cons lookO Sub.nil))))))))) (show Fit κ _ (vc 3 (.slice fa bb.F.length fc) (bb.F) :: vc 3 (.slice ta bb.T.length tc) (bb.T) :: vc 3 (.slice ad6 (sendL (outB nd ars)).length cp7) (sendL (outB nd ars)) :: blk b5 [.slice fa bb.F.length fc, .slice ta bb.T.length tc, I64 (bb.n), I64 (bb.sq.num), I64 (bb.sq.den)] 58 :: vc 86 (.slice ad3 (outB nd ars).length cp4) (outB nd ars) :: blk b2 [.slice none 0 0, .slice none 0 0, I64 (0), I64 (0), I64 (0)] 58 :: blk b1 [I64 (nd), va] 54 :: I) from Fit.sub)
      ·refine W.skip ?_
       refine V.block_normal ?_
       refine V.then ?_
       refine W.region ?_
       refine G.r (Runs.add rfl rfl (by unfold InR; omega)) ?_
       refine G.r (Runs.move rfl) ?_
       refine G.nil ?_
       exact V.next ((i + 1), (fm)) (show ((i + 1 : Nat) ≤ (sendL (outB nd ars)).length) ∧ ((fm : BitVec 64) = maskB (subF ((sendL (outB nd ars)).take (i + 1 : Nat)) m)) from ⟨(by omega), (by rw [subF_take (by omega)]; first | rw [if_pos (shr_odd.1 c72), maskB_snoc, ← hfm] | (rw [if_neg (fun h => c72 (shr_odd.2 h)), List.append_nil]; exact hfm))⟩) (show (sendL (outB nd ars)).length - (i + 1 : Nat) < (sendL (outB nd ars)).length - i from (by omega)) (Sub.cons rfl (Sub.cons rfl (Sub.cons rfl (Sub.cons rfl (Sub.cons rfl (Sub.cons (lookV rfl (by first | rfl | simp)) (Sub.cons rfl (Sub.cons rfl (Sub.cons lookO Sub.nil))))))))) (show Fit κ _ (vc 3 (.slice fa bb.F.length fc) (bb.F) :: vc 3 (.slice ta bb.T.length tc) (bb.T) :: vc 3 (.slice ad6 (sendL (outB nd ars)).length cp7) (sendL (outB nd ars)) :: blk b5 [.slice fa bb.F.length fc, .slice ta bb.T.length tc, I64 (bb.n), I64 (bb.sq.num), I64 (bb.sq.den)] 58 :: vc 86 (.slice ad3 (outB nd ars).length cp4) (outB nd ars) :: blk b2 [.slice none 0 0, .slice none 0 0, I64 (0), I64 (0), I64 (0)] 58 :: blk b1 [I64 (nd), va] 54 :: I) from Fit.sub)
     ·refine W.exit ?_
      refine V.then_exit ?_
      refine V.then_exit ?_
      refine V.block_hit ?_
      refine V.then ?_
      refine W.sr ?_
      refine G.r (Runs.move rfl) ?_
      refine G.r (Runs.move rfl) ?_
      have hfE : fm = maskB (subF (sendL (outB nd ars)) m) := by rw [hfm, List.take_of_length_le (by omega)]
      have hfz : fm ≠ 0#64 := by rw [hfE]; exact sub_nz (by omega) hm.1 (Nat.lt_of_not_le fun h => c60 (hpw.2 h))
      have hfb : ∀ i : Nat, fm.getLsbD i = true → i < (outB nd ars).length := fun i hi => by rw [hfE] at hi; exact sub_bit (by omega) hi
      refine G.e (Eff.call call77 rfl rfl (Receivers_ok Sl.o fm hRD hfb (TabRd.fit hT Fit.m))) ?_
      rintro _ _ ⟨_, _, ⟨ad8, cp9, rfl, rfl⟩, rfl, rfl⟩
      refine G.r (Runs.lens Tryz.underlying104 rfl) ?_
      refine G.r (Runs.move rfl) ?_
      refine G.nt ?_
      refine W.sub (L' := [(82, _), (81, _), (80, _), (2, _), (5, _), (10, _), (11, _), (12, _), (13, _)]) (Sub.cons rfl (Sub.cons rfl (Sub.cons rfl (Sub.cons rfl (Sub.cons rfl (Sub.cons rfl (Sub.cons rfl (Sub.cons rfl (Sub.cons rfl Sub.nil))))))))) ?_
      refine W.block ?_
      refine W.loop (σ := Nat × (Option Addr) × Nat × (Option Addr) × Nat × Bst) (fun s => ([(2, .pointer (some ⟨b2, 0, none⟩)), (5, .slice ad3 (outB nd ars).length cp4), (10, .pointer (some ⟨b5, 0, none⟩)), (11, .slice ad6 (sendL (outB nd ars)).length cp7), (12, .int .u64 (((m : Nat) : Int))), (13, U64 (fm)), (80, .slice ad8 (recvB (outB nd ars) fm).length cp9), (81, I64 ((((recvB (outB nd ars) fm).length : Nat) : Int))), (82, I64 (((s.1 : Nat) : Int)))] : Env)) (fun s => vc 3 (.slice s.2.1 s.2.2.2.2.2.F.length s.2.2.1) (s.2.2.2.2.2.F) :: vc 3 (.slice s.2.2.2.1 s.2.2.2.2.2.T.length s.2.2.2.2.1) (s.2.2.2.2.2.T) :: vc 86 (.slice ad8 (recvB (outB nd ars) fm).length cp9) (recvB (outB nd ars) fm) :: vc 3 (.slice ad6 (sendL (outB nd ars)).length cp7) (sendL (outB nd ars)) :: blk b5 [.slice s.2.1 s.2.2.2.2.2.F.length s.2.2.1, .slice s.2.2.2.1 s.2.2.2.2.2.T.length s.2.2.2.2.1, I64 (s.2.2.2.2.2.n), I64 (s.2.2.2.2.2.sq.num), I64 (s.2.2.2.2.2.sq.den)] 58 :: vc 86 (.slice ad3 (outB nd ars).length cp4) (outB nd ars) :: blk b2 [.slice none 0 0, .slice none 0 0, I64 (0), I64 (0), I64 (0)] 58 :: blk b1 [I64 (nd), va] 54 :: I) (fun s => (s.1 ≤ (recvB (outB nd ars) fm).length) ∧ (s.2.2.2.2.2 = ((recvB (outB nd ars) fm).take s.1).foldl (stepB (outB nd ars) fm) bb) ∧ (FrV s.2.2.2.2.2.sq)) (fun s => (recvB (outB nd ars) fm).length - s.1) (0, fa, fc, ta, tc, bb) (show ((0 : Nat) ≤ (recvB (outB nd ars) fm).length) ∧ ((bb : Bst) = ((recvB (outB nd ars) fm).take (0 : Nat)).foldl (stepB (outB nd ars) fm) bb) ∧ (FrV (bb : Bst).sq) from ⟨(by omega), rfl, hv⟩) (Sub.cons rfl (Sub.cons rfl (Sub.cons rfl (Sub.cons rfl (Sub.cons rfl (Sub.cons rfl (Sub.cons rfl (Sub.cons rfl (Sub.cons lookO Sub.nil))))))))) (show Fit κ _ (vc 3 (.slice (fa) (bb).F.length (fc)) ((bb).F) :: vc 3 (.slice (ta) (bb).T.length (tc)) ((bb).T) :: vc 86 (.slice ad8 (recvB (outB nd ars) fm).length cp9) (recvB (outB nd ars) fm) :: vc 3 (.slice ad6 (sendL (outB nd ars)).length cp7) (sendL (outB nd ars)) :: blk b5 [.slice (fa) (bb).F.length (fc), .slice (ta) (bb).T.length (tc), I64 ((bb).n), I64 ((bb).sq.num), I64 ((bb).sq.den)] 58 :: vc 86 (.slice ad3 (outB nd ars).length cp4) (outB nd ars) :: blk b2 [.slice none 0 0, .slice none 0 0, I64 (0), I64 (0), I64 (0)] 58 :: blk b1 [I64 (nd), va] 54 :: I) from (by first | exact Fit.s | exact Fit.sub)) ?_
      rintro ⟨q, fa2, fc2, ta2, tc2, bzz⟩ hp
      obtain ⟨hq, hbzz, hv2⟩ : (q ≤ (recvB (outB nd ars) fm).length) ∧ (bzz = ((recvB (outB nd ars) fm).take q).foldl (stepB (outB nd ars) fm) bb) ∧ (FrV bzz.sq) := hp
      show W Tryz.prog κ 96 _ _ ([(2, .pointer (some ⟨b2, 0, none⟩)), (5, .slice ad3 (outB nd ars).length cp4), (10, .pointer (some ⟨b5, 0, none⟩)), (11, .slice ad6 (sendL (outB nd ars)).length cp7), (12, .int .u64 (((m : Nat) : Int))), (13, U64 (fm)), (80, .slice ad8 (recvB (outB nd ars) fm).length cp9), (81, I64 ((((recvB (outB nd ars) fm).length : Nat) : Int))), (82, I64 (((q : Nat) : Int)))] : Env) (vc 3 (.slice fa2 bzz.F.length fc2) (bzz.F) :: vc 3 (.slice ta2 bzz.T.length tc2) (bzz.T) :: vc 86 (.slice ad8 (recvB (outB nd ars) fm).length cp9) (recvB (outB nd ars) fm) :: vc 3 (.slice ad6 (sendL (outB nd ars)).length cp7) (sendL (outB nd ars)) :: blk b5 [.slice fa2 bzz.F.length fc2, .slice ta2 bzz.T.length tc2, I64 (bzz.n), I64 (bzz.sq.num), I64 (bzz.sq.den)] 58 :: vc 86 (.slice ad3 (outB nd ars).length cp4) (outB nd ars) :: blk b2 [.slice none 0 0, .slice none 0 0, I64 (0), I64 (0), I64 (0)] 58 :: blk b1 [I64 (nd), va] 54 :: I)
      have hqz : q < (recvB (outB nd ars) fm).length → at_ (recvB (outB nd ars) fm) ((q : Nat) : Int) ≠ 0#64 := fun h => recv_nz h
      have hrcl : (recvB (outB nd ars) fm).length ≤ 6 := by rw [recvB_len, sortR_len]; exact hRD.or _
      refine W.sr ?_
      refine G.r (Runs.lss rfl rfl) ?_
      refine G.nt ?_
      refine W.seq ?_
      refine W.ite rfl (fun c83 => ?_) (fun c83 => ?_)
      ·refine W.skip ?_
       refine V.then ?_
       refine W.seq ?_
       refine W.block ?_
       refine W.sr ?_
       refine G.r (Runs.idx (α := (BitVec 64)) (xs := recvB (outB nd ars) fm) Tryz.underlying104 ty86 rfl rfl Sl.o (by omega) (by omega)) ?_
       refine G.r (Runs.getf0 (α := (BitVec 64)) (xs := recvB (outB nd ars) fm) (u := U64 ((at_ (recvB (outB nd ars) fm) ((q : Nat) : Int)))) ty86 rfl Sl.o (by omega) (by omega) rfl) ?_
       refine G.r (Runs.assign rfl) ?_
       refine G.nt ?_
       refine W.sr ?_
       refine G.r (Runs.move rfl) ?_
       refine G.r (Runs.move rfl) ?_
       refine G.r (Runs.move rfl) ?_
       refine G.e (Eff.call call78 rfl rfl (Pair0_ok Sl.o fm (at_ (recvB (outB nd ars) fm) ((q : Nat) : Int)) (by omega) hfz (hqz (by omega)) (TabRd.fit hT Fit.m))) ?_
       rintro _ _ ⟨_, _, ⟨ad10, cp11, ad12, cp13, rfl, rfl⟩, rfl, rfl⟩
       refine G.e (Eff.alloc ty58 rfl) ?_
       rintro _ _ ⟨b14, rfl, rfl⟩
       refine G.e (Eff.st (cs := [_, _, _, _, _]) (vs := [_, _, _, _, _]) (cs' := [_, _, _, _, _]) ty58) ?_
       rintro _ _ ⟨rfl, rfl⟩
       refine G.nt ?_
       refine W.sub (L' := [(18, _), (2, _), (5, _), (10, _), (11, _), (12, _), (13, _), (80, _), (81, _), (82, _)]) (Sub.cons rfl (Sub.cons rfl (Sub.cons rfl (Sub.cons rfl (Sub.cons rfl (Sub.cons rfl (Sub.cons rfl (Sub.cons rfl (Sub.cons rfl (Sub.cons rfl Sub.nil)))))))))) ?_
       refine W.sr ?_
       refine G.r (Runs.lds (vs := [_, _, _, _, _]) ty58) ?_
       refine G.r (Runs.lds (vs := [_, _, _, _, _]) ty58) ?_
       refine G.e (Eff.call call79 rfl rfl (Before0_ok (x := (pairB (outB nd ars) fm (at_ (recvB (outB nd ars) fm) ((q : Nat) : Int)))) (y := bzz) Sl.o Sl.o Sl.o Sl.o (sqB_val hfz (hqz (by omega))) hv2)) ?_
       rintro _ _ ⟨_, _, ⟨rfl, rfl⟩, rfl, rfl⟩
       refine G.nt ?_
       refine W.cond rfl (fun c92 => ?_) (fun c92 => ?_)
       ·refine W.region ?_
        refine G.r (Runs.lds (vs := [_, _, _, _, _]) ty58) ?_
        refine G.e (Eff.st (cs := [_, _, _, _, _]) (vs := [_, _, _, _, _]) (cs' := [_, _, _, _, _]) ty58) ?_
        rintro _ _ ⟨rfl, rfl⟩
        refine G.nil ?_
        refine V.block_normal ?_
        refine V.then ?_
        refine W.sub (L' := [(2, _), (5, _), (10, _), (11, _), (12, _), (13, _), (80, _), (81, _), (82, _)]) (Sub.cons rfl (Sub.cons rfl (Sub.cons rfl (Sub.cons rfl (Sub.cons rfl (Sub.cons rfl (Sub.cons rfl (Sub.cons rfl (Sub.cons rfl Sub.nil))))))))) ?_
        refine W.region ?_
        refine G.r (Runs.add rfl rfl (by unfold InR; omega)) ?_
        refine G.r (Runs.move rfl) ?_
        refine G.nil ?_
        exact V.next ((q + 1), (ad10), (cp11), (ad12), (cp13), (pairB (outB nd ars) fm (at_ (recvB (outB nd ars) fm) ((q : Nat) : Int)))) (show ((q + 1 : Nat) ≤ (recvB (outB nd ars) fm).length) ∧ ((pairB (outB nd ars) fm (at_ (recvB (outB nd ars) fm) ((q : Nat) : Int)) : Bst) = ((recvB (outB nd ars) fm).take (q + 1 : Nat)).foldl (stepB (outB nd ars) fm) bb) ∧ (FrV (pairB (outB nd ars) fm (at_ (recvB (outB nd ars) fm) ((q : Nat) : Int)) : Bst).sq) from ⟨(by omega), (by rw [fold_take (by omega), ← hbzz]; unfold stepB; rw [if_pos c92]), (sqB_val hfz (hqz (by omega)))⟩) (show (recvB (outB nd ars) fm).length - (q + 1 : Nat) < (recvB (outB nd ars) fm).length - q from (by omega)) (Sub.cons rfl (Sub.cons rfl (Sub.cons rfl (Sub.cons rfl (Sub.cons rfl (Sub.cons rfl (Sub.cons rfl (Sub.cons rfl (Sub.cons lookO Sub.nil))))))))) (show Fit κ _ (vc 3 (.slice (ad10) (pairB (outB nd ars) fm (at_ (recvB (outB nd ars) fm) ((q : Nat) : Int))).F.length (cp11)) ((pairB (outB nd ars) fm (at_ (recvB (outB nd ars) fm) ((q : Nat) : Int))).F) :: vc 3 (.slice (ad12) (pairB (outB nd ars) fm (at_ (recvB (outB nd ars) fm) ((q : Nat) : Int))).T.length (cp13)) ((pairB (outB nd ars) fm (at_ (recvB (outB nd ars) fm) ((q : Nat) : Int))).T) :: vc 86 (.slice ad8 (recvB (outB nd ars) fm).length cp9) (recvB (outB nd ars) fm) :: vc 3 (.slice ad6 (sendL (outB nd ars)).length cp7) (sendL (outB nd ars)) :: blk b5 [.slice (ad10) (pairB (outB nd ars) fm (at_ (recvB (outB nd ars) fm) ((q : Nat) : Int))).F.length (cp11), .slice (ad12) (pairB (outB nd ars) fm (at_ (recvB (outB nd ars) fm) ((q : Nat) : Int))).T.length (cp13), I64 ((pairB (outB nd ars) fm (at_ (recvB (outB nd ars) fm) ((q : Nat) : Int))).n), I64 ((pairB (outB nd ars) fm (at_ (recvB (outB nd ars) fm) ((q : Nat) : Int))).sq.num), I64 ((pairB (outB nd ars) fm (at_ (recvB (outB nd ars) fm) ((q : Nat) : Int))).sq.den)] 58 :: vc 86 (.slice ad3 (outB nd ars).length cp4) (outB nd ars) :: blk b2 [.slice none 0 0, .slice none 0 0, I64 (0), I64 (0), I64 (0)] 58 :: blk b1 [I64 (nd), va] 54 :: I) from (by first | exact Fit.s | exact Fit.sub))
       ·refine W.skip ?_
        refine V.block_normal ?_
        refine V.then ?_
        refine W.region ?_
        refine G.r (Runs.add rfl rfl (by unfold InR; omega)) ?_
        refine G.r (Runs.move rfl) ?_
        refine G.nil ?_
        exact V.next ((q + 1), (fa2), (fc2), (ta2), (tc2), (bzz)) (show ((q + 1 : Nat) ≤ (recvB (outB nd ars) fm).length) ∧ ((bzz : Bst) = ((recvB (outB nd ars) fm).take (q + 1 : Nat)).foldl (stepB (outB nd ars) fm) bb) ∧ (FrV (bzz : Bst).sq) from ⟨(by omega), (by rw [fold_take (by omega), ← hbzz]; unfold stepB; rw [if_neg (by rw [c92]; decide)]), hv2⟩) (show (recvB (outB nd ars) fm).length - (q + 1 : Nat) < (recvB (outB nd ars) fm).length - q from (by omega)) (Sub.cons rfl (Sub.cons rfl (Sub.cons rfl (Sub.cons rfl (Sub.cons rfl (Sub.cons rfl (Sub.cons rfl (Sub.cons rfl (Sub.cons lookO Sub.nil))))))))) (show Fit κ _ (vc 3 (.slice (fa2) (bzz).F.length (fc2)) ((bzz).F) :: vc 3 (.slice (ta2) (bzz).T.length (tc2)) ((bzz).T) :: vc 86 (.slice ad8 (recvB (outB nd ars) fm).length cp9) (recvB (outB nd ars) fm) :: vc 3 (.slice ad6 (sendL (outB nd ars)).length cp7) (sendL (outB nd ars)) :: blk b5 [.slice (fa2) (bzz).F.length (fc2), .slice (ta2) (bzz).T.length (tc2), I64 ((bzz).n), I64 ((bzz).sq.num), I64 ((bzz).sq.den)] 58 :: vc 86 (.slice ad3 (outB nd ars).length cp4) (outB nd ars) :: blk b2 [.slice none 0 0, .slice none 0 0, I64 (0), I64 (0), I64 (0)] 58 :: blk b1 [I64 (nd), va] 54 :: I) from (by first | exact Fit.s | exact Fit.sub))
      ·refine W.exit ?_
       refine V.then_exit ?_
       refine V.then_exit ?_
       refine V.block_hit ?_
       refine V.block_normal ?_
       refine V.then ?_
       refine W.region ?_
       refine G.r (Runs.move rfl) ?_
       refine G.r (Runs.addU (r := ((m : Nat) : Int) + 1) rfl rfl rfl (by omega) (by omega)) ?_
       refine G.r (Runs.assign rfl) ?_
       refine G.nil ?_
       exact V.next ((m + 1), (fa2), (fc2), (ta2), (tc2), (bzz)) (show (1 ≤ (m + 1 : Nat) ∧ (m + 1 : Nat) ≤ 2 ^ (sendL (outB nd ars)).length) ∧ ((bzz : Bst) = bestK (outB nd ars) (sendL (outB nd ars)) ((m + 1 : Nat) - 1)) ∧ (FrV (bzz : Bst).sq) from ⟨(by omega), (by rw [Nat.add_sub_cancel, bestK_succ hm.1, ← hb, ← hfE]; rw [hbzz, List.take_of_length_le (by omega)]; rfl), hv2⟩) (show 2 ^ (sendL (outB nd ars)).length + 1 - (m + 1 : Nat) < 2 ^ (sendL (outB nd ars)).length + 1 - m from (by omega)) (Sub.cons rfl (Sub.cons rfl (Sub.cons rfl (Sub.cons rfl (Sub.cons (lookV rfl (by first | rfl | simp)) Sub.nil))))) (show Fit κ _ (vc 3 (.slice (fa2) (bzz).F.length (fc2)) ((bzz).F) :: vc 3 (.slice (ta2) (bzz).T.length (tc2)) ((bzz).T) :: vc 3 (.slice ad6 (sendL (outB nd ars)).length cp7) (sendL (outB nd ars)) :: blk b5 [.slice (fa2) (bzz).F.length (fc2), .slice (ta2) (bzz).T.length (tc2), I64 ((bzz).n), I64 ((bzz).sq.num), I64 ((bzz).sq.den)] 58 :: vc 86 (.slice ad3 (outB nd ars).length cp4) (outB nd ars) :: blk b2 [.slice none 0 0, .slice none 0 0, I64 (0), I64 (0), I64 (0)] 58 :: blk b1 [I64 (nd), va] 54 :: I) from (by first | exact Fit.s | exact Fit.sub))

end Go.Sl
namespace Go.Sl
open Go.Proofs
set_option linter.unusedVariables false
set_option linter.unusedSimpArgs false
set_option maxRecDepth 4000
theorem cmpD_tr : ∀ {x y z : List Int}, cmpL x y ≤ 0 → cmpL y z ≤ 0 → cmpL x z ≤ 0 ∧ ((cmpL x y < 0 ∨ cmpL y z < 0) → cmpL x z < 0)
  | [], [], [], _, _ => by simp [cmpL]
  | [], [], _ :: _, _, _ => by simp [cmpL]
  | [], _ :: _, [], _, h => by simp [cmpL] at h
  | [], _ :: _, _ :: _, _, _ => by simp [cmpL]
  | _ :: _, [], _, h, _ => by simp [cmpL] at h
  | _ :: _, _ :: _, [], _, h => by simp [cmpL] at h
  | a :: x, b :: y, c :: z, h1, h2 => by
    unfold cmpL at h1 h2 ⊢
    by_cases h3 : b < a
    · rw [if_pos h3] at h1; omega
    · by_cases h4 : c < b
      · rw [if_pos h4] at h2; omega
      · rw [if_neg h3] at h1 ⊢
        rw [if_neg h4] at h2 ⊢
        by_cases h5 : a < b <;> by_cases h6 : b < c
        · rw [if_neg (show ¬ c < a by omega), if_pos (show a < c by omega)]; omega
        · rw [if_neg (show ¬ c < a by omega), if_pos (show a < c by omega)]; omega
        · rw [if_neg (show ¬ c < a by omega), if_pos (show a < c by omega)]; omega
        · rw [if_neg h5] at h1 ⊢
          rw [if_neg h6] at h2 ⊢
          rw [if_neg (show ¬ c < a by omega), if_neg (show ¬ a < c by omega)]
          exact cmpD_tr h1 h2
/-! Fractions in their order. -/
def leF (x y : Fr) : Prop := x.num * y.den ≤ y.num * x.den
def ltF (x y : Fr) : Prop := x.num * y.den < y.num * x.den
theorem mul_can {a b c : Int} (hc : 0 < c) (h : a * c ≤ b * c) : a ≤ b := Int.le_of_mul_le_mul_right h hc
theorem mul_canl {a b c : Int} (hc : 0 < c) (h : a * c < b * c) : a < b := Int.lt_of_mul_lt_mul_right h (by omega)
theorem leF_trans {x y z : Fr} (hx : FrV x) (hy : FrV y) (hz : FrV z) (h1 : leF x y) (h2 : leF y z) : leF x z := by
  unfold leF at *
  have a := hx.d0; have b := hy.d0; have c := hz.d0
  refine mul_can (c := y.den) (by omega) ?_
  have e1 := Int.mul_le_mul_of_nonneg_right h1 (show 0 ≤ z.den by omega)
  have e2 := Int.mul_le_mul_of_nonneg_right h2 (show 0 ≤ x.den by omega)
  have e3 : x.num * z.den * y.den = x.num * y.den * z.den := by rw [Int.mul_assoc, Int.mul_comm z.den, ← Int.mul_assoc]
  have e4 : y.num * x.den * z.den = y.num * z.den * x.den := by rw [Int.mul_assoc, Int.mul_comm x.den, ← Int.mul_assoc]
  have e5 : z.num * x.den * y.den = z.num * y.den * x.den := by rw [Int.mul_assoc, Int.mul_comm x.den, ← Int.mul_assoc]
  rw [e3, e5]; rw [e4] at e1; omega
theorem ltF_le {x y z : Fr} (hx : FrV x) (hy : FrV y) (hz : FrV z) (h1 : ltF x y) (h2 : leF y z) : ltF x z := by
  unfold leF ltF at *
  have a := hx.d0; have b := hy.d0; have c := hz.d0
  refine mul_canl (c := y.den) (by omega) ?_
  have e1 := Int.mul_lt_mul_of_pos_right h1 (show 0 < z.den by omega)
  have e2 := Int.mul_le_mul_of_nonneg_right h2 (show 0 ≤ x.den by omega)
  have e3 : x.num * z.den * y.den = x.num * y.den * z.den := by rw [Int.mul_assoc, Int.mul_comm z.den, ← Int.mul_assoc]
  have e4 : y.num * x.den * z.den = y.num * z.den * x.den := by rw [Int.mul_assoc, Int.mul_comm x.den, ← Int.mul_assoc]
  have e5 : z.num * x.den * y.den = z.num * y.den * x.den := by rw [Int.mul_assoc, Int.mul_comm x.den, ← Int.mul_assoc]
  rw [e3, e5]; rw [e4] at e1; omega
theorem le_ltF {x y z : Fr} (hx : FrV x) (hy : FrV y) (hz : FrV z) (h1 : leF x y) (h2 : ltF y z) : ltF x z := by
  unfold leF ltF at *
  have a := hx.d0; have b := hy.d0; have c := hz.d0
  refine mul_canl (c := y.den) (by omega) ?_
  have e1 := Int.mul_le_mul_of_nonneg_right h1 (show 0 ≤ z.den by omega)
  have e2 := Int.mul_lt_mul_of_pos_right h2 (show 0 < x.den by omega)
  have e3 : x.num * z.den * y.den = x.num * y.den * z.den := by rw [Int.mul_assoc, Int.mul_comm z.den, ← Int.mul_assoc]
  have e4 : y.num * x.den * z.den = y.num * z.den * x.den := by rw [Int.mul_assoc, Int.mul_comm x.den, ← Int.mul_assoc]
  have e5 : z.num * x.den * y.den = z.num * y.den * x.den := by rw [Int.mul_assoc, Int.mul_comm x.den, ← Int.mul_assoc]
  rw [e3, e5]; rw [e4] at e1; omega
theorem gcdI_dvd {a b : Int} (h0 : 0 ≤ a) (h1 : 0 < b) : a = gcdI a b * (a / gcdI a b) ∧ b = gcdI a b * (b / gcdI a b) := by
  unfold gcdI
  have d1 : ((a.toNat.gcd b.toNat : Nat) : Int) ∣ a := by
    have := Int.natCast_dvd_natCast.2 (Nat.gcd_dvd_left a.toNat b.toNat)
    rwa [show ((a.toNat : Nat) : Int) = a by omega] at this
  have d2 : ((a.toNat.gcd b.toNat : Nat) : Int) ∣ b := by
    have := Int.natCast_dvd_natCast.2 (Nat.gcd_dvd_right a.toNat b.toNat)
    rwa [show ((b.toNat : Nat) : Int) = b by omega] at this
  exact ⟨(Int.mul_ediv_cancel' d1).symm, (Int.mul_ediv_cancel' d2).symm⟩
theorem cross_mk {g h p q r s : Int} : (g * p) * (h * s) = (p * s) * (g * h) ∧ (h * r) * (g * q) = (r * q) * (g * h) := by
  refine ⟨?_, ?_⟩
  · rw [Int.mul_comm g p, Int.mul_assoc, ← Int.mul_assoc g h s, Int.mul_comm (g * h) s, ← Int.mul_assoc]
  · rw [Int.mul_comm h r, Int.mul_assoc, ← Int.mul_assoc h g q, Int.mul_comm (h * g) q, ← Int.mul_assoc, Int.mul_comm h g]
theorem leF_mk {a b c d : Int} (ha : 0 ≤ a) (hb : 0 < b) (hc : 0 ≤ c) (hd : 0 < d) : leF (mkF a b) (mkF c d) ↔ a * d ≤ c * b := by
  obtain ⟨e1, e2⟩ := gcdI_dvd ha hb
  obtain ⟨e3, e4⟩ := gcdI_dvd hc hd
  have g1 := gcdI_pos (a := a) hb
  have g2 := gcdI_pos (a := c) hd
  have g3 := Int.mul_pos g1 g2
  unfold leF mkF
  dsimp only
  have k1 := (cross_mk (g := gcdI a b) (h := gcdI c d) (p := a / gcdI a b) (q := b / gcdI a b) (r := c / gcdI c d) (s := d / gcdI c d))
  rw [← e1, ← e2, ← e3, ← e4] at k1
  rw [k1.1, k1.2]
  exact ⟨fun h => Int.mul_le_mul_of_nonneg_right h (by omega), fun h => mul_can g3 h⟩
theorem nat_cop {p q r s : Nat} (h1 : p.gcd q = 1) (h2 : r.gcd s = 1) (he : p * s = r * q) (hq : 0 < q) (hs : 0 < s) : p = r ∧ q = s := by
  have d1 : q ∣ s := by
    have : q ∣ p * s := he ▸ Nat.dvd_mul_left q r
    exact Nat.Coprime.dvd_of_dvd_mul_left (Nat.Coprime.symm h1) this
  have d2 : s ∣ q := by
    have : s ∣ r * q := he ▸ Nat.dvd_mul_left s p
    exact Nat.Coprime.dvd_of_dvd_mul_left (Nat.Coprime.symm h2) this
  have e : q = s := Nat.dvd_antisymm d1 d2
  subst e
  exact ⟨Nat.eq_of_mul_eq_mul_right hq he, rfl⟩
theorem leF_anti {x y : Fr} (hx : FrV x) (hy : FrV y) (h1 : leF x y) (h2 : leF y x) : x = y := by
  have a := hx.n0; have b := hx.d0; have c := hy.n0; have d := hy.d0
  have h3 := hx.cop; have h4 := hy.cop
  unfold leF at h1 h2
  have he : x.num * y.den = y.num * x.den := by omega
  unfold gcdI at h3 h4
  have hn : x.num.toNat * y.den.toNat = y.num.toNat * x.den.toNat := by
    have : ((x.num.toNat * y.den.toNat : Nat) : Int) = ((y.num.toNat * x.den.toNat : Nat) : Int) := by
      rw [Int.natCast_mul, Int.natCast_mul, Int.toNat_of_nonneg a, Int.toNat_of_nonneg c, Int.toNat_of_nonneg (by omega), Int.toNat_of_nonneg (by omega)]; exact he
    exact Int.ofNat_inj.1 this
  obtain ⟨k1, k2⟩ := nat_cop (by omega) (by omega) hn (by omega) (by omega)
  cases x; cases y
  simp only at *
  rw [Fr.mk.injEq]; omega
theorem cmpF_pos {x y : Fr} : 0 < cmpF x y ↔ ltF y x := by unfold cmpF ltF; repeat (first | omega | split)
theorem cmpF_zero {x y : Fr} : cmpF x y = 0 ↔ leF x y ∧ leF y x := by unfold cmpF leF; repeat (first | omega | split)
theorem not_ltF {x y : Fr} : ¬ ltF x y ↔ leF y x := by unfold ltF leF; omega
/-! Better pairs. -/
theorem bef_iff {a b : Bst} : befB a b = true ↔ ltF b.sq a.sq ∨ ((leF a.sq b.sq ∧ leF b.sq a.sq) ∧ (cmpL a.F b.F < 0 ∨ (cmpL a.F b.F = 0 ∧ cmpL a.T b.T < 0))) := by
  unfold befB
  by_cases h : cmpF a.sq b.sq = 0
  · rw [if_neg (by simp [h])]
    have h1 := cmpF_zero.1 h
    have h2 : ¬ ltF b.sq a.sq := not_ltF.2 h1.1
    by_cases h3 : cmpL a.F b.F = 0
    · rw [if_neg (by simp [h3]), decide_eq_true_eq]
      exact ⟨fun h4 => .inr ⟨h1, .inr ⟨h3, h4⟩⟩, fun h4 => h4.elim (fun h5 => absurd h5 h2) fun h5 => h5.2.elim (fun h6 => by omega) fun h6 => h6.2⟩
    · rw [if_pos h3, decide_eq_true_eq]
      exact ⟨fun h4 => .inr ⟨h1, .inl h4⟩, fun h4 => h4.elim (fun h5 => absurd h5 h2) fun h5 => h5.2.elim id fun h6 => absurd h6.1 h3⟩
  · rw [if_pos h, decide_eq_true_eq, cmpF_pos]
    exact ⟨.inl, fun h4 => h4.elim id fun h5 => absurd (cmpF_zero.2 h5.1) h⟩
theorem bef_trans {a b c : Bst} (ha : FrV a.sq) (hb : FrV b.sq) (hc : FrV c.sq) (h1 : befB a b = true) (h2 : befB b c = true) : befB a c = true := by
  rw [bef_iff] at *
  rcases h1 with h1 | ⟨h1, h3⟩ <;> rcases h2 with h2 | ⟨h2, h4⟩
  · exact .inl (ltF_le hc hb ha h2 (not_ltF.1 fun hh => by unfold ltF at h1 hh; omega))
  · exact .inl (le_ltF hc hb ha h2.2 h1)
  · exact .inl (ltF_le hc hb ha h2 h1.2)
  · refine .inr ⟨⟨leF_trans ha hb hc h1.1 h2.1, leF_trans hc hb ha h2.2 h1.2⟩, ?_⟩
    have k1 : cmpL a.F b.F ≤ 0 := by omega
    have k2 : cmpL b.F c.F ≤ 0 := by omega
    have k3 := cmpD_tr k1 k2
    by_cases hz : cmpL a.F b.F < 0 ∨ cmpL b.F c.F < 0
    · exact .inl (k3.2 hz)
    · have e1 : cmpL a.F b.F = 0 := by omega
      have e2 : cmpL b.F c.F = 0 := by omega
      refine .inr ⟨(cmpL_eq _ _).2 (((cmpL_eq _ _).1 e1).trans ((cmpL_eq _ _).1 e2)), ?_⟩
      have k4 : cmpL a.T b.T < 0 := by omega
      have k5 : cmpL b.T c.T < 0 := by omega
      exact (cmpD_tr (by omega) (by omega)).2 (.inl k4)
theorem bef_self (a : Bst) : befB a a = false := by
  rw [← Bool.not_eq_true, bef_iff]
  rintro (h | ⟨_, h⟩)
  · unfold ltF at h; omega
  · rw [cmpL_self, cmpL_self] at h; omega
theorem bef_le {a b : Bst} (h : befB a b = false) : leF a.sq b.sq := not_ltF.1 fun hh => by
  rw [← Bool.not_eq_true, bef_iff] at h
  exact h (.inl hh)
/-- What has been looked at, and the best of it. -/
structure BestI (rows : List (BitVec 64)) (S : BitVec 64 → BitVec 64 → Prop) (b : Bst) : Prop where
  val : FrV b.sq
  real : b = noneB ∨ ∃ f t, S f t ∧ b = pairB rows f t
  good : ∀ f t, S f t → befB (pairB rows f t) b = false
theorem BestI.step {rows : List (BitVec 64)} {S : BitVec 64 → BitVec 64 → Prop} {b : Bst} (h : BestI rows S b) {f t : BitVec 64} (hf : f ≠ 0#64) (ht : t ≠ 0#64) (hS : ∀ f t, S f t → f ≠ 0#64 ∧ t ≠ 0#64) : BestI rows (fun f' t' => S f' t' ∨ (f' = f ∧ t' = t)) (stepB rows f b t) := by
  unfold stepB
  have hv : FrV (pairB rows f t).sq := sqB_val hf ht
  by_cases hb : befB (pairB rows f t) b = true
  · rw [if_pos hb]
    refine ⟨hv, .inr ⟨f, t, .inr ⟨rfl, rfl⟩, rfl⟩, fun f' t' h' => ?_⟩
    rcases h' with h' | ⟨rfl, rfl⟩
    · rw [← Bool.not_eq_true]
      intro h2
      have := bef_trans (sqB_val (hS _ _ h').1 (hS _ _ h').2) hv h.val h2 hb
      rw [h.good _ _ h'] at this; cases this
    · exact bef_self _
  · rw [if_neg hb]
    refine ⟨h.val, h.real.imp id fun ⟨f', t', h1, h2⟩ => ⟨f', t', .inl h1, h2⟩, fun f' t' h' => ?_⟩
    rcases h' with h' | ⟨rfl, rfl⟩
    · exact h.good _ _ h'
    · rw [← Bool.not_eq_true]; exact hb
theorem BestI.congr {rows : List (BitVec 64)} {S S' : BitVec 64 → BitVec 64 → Prop} {b : Bst} (h : BestI rows S b) (he : ∀ f t, S f t ↔ S' f t) : BestI rows S' b :=
  ⟨h.val, h.real.imp id fun ⟨f, t, h1, h2⟩ => ⟨f, t, (he f t).1 h1, h2⟩, fun f t h1 => h.good f t ((he f t).2 h1)⟩
theorem BestI.many {rows : List (BitVec 64)} {f : BitVec 64} (hf : f ≠ 0#64) : ∀ (ts : List (BitVec 64)) {S : BitVec 64 → BitVec 64 → Prop} {b : Bst}, BestI rows S b → (∀ f t, S f t → f ≠ 0#64 ∧ t ≠ 0#64) → (∀ t ∈ ts, t ≠ 0#64) → BestI rows (fun f' t' => S f' t' ∨ (f' = f ∧ t' ∈ ts)) (ts.foldl (stepB rows f) b)
  | [], S, b, h, _, _ => h.congr fun f t => by simp
  | t :: ts, S, b, h, hS, ht => by
    rw [List.foldl_cons]
    refine (BestI.many hf ts (h.step hf (ht t List.mem_cons_self) hS) (fun f' t' h' => ?_) fun t' h' => ht t' (List.mem_cons_of_mem _ h')).congr fun f' t' => ?_
    · rcases h' with h' | ⟨rfl, rfl⟩
      · exact hS _ _ h'
      · exact ⟨hf, ht _ List.mem_cons_self⟩
    · rw [List.mem_cons]
      constructor
      · rintro ((h1 | h1) | h1)
        · exact .inl h1
        · exact .inr ⟨h1.1, .inl h1.2⟩
        · exact .inr ⟨h1.1, .inr h1.2⟩
      · rintro (h1 | ⟨h1, h2 | h2⟩)
        · exact .inl (.inl h1)
        · exact .inl (.inr ⟨h1, h2⟩)
        · exact .inr ⟨h1, h2⟩
/-- The pairs that are looked at. -/
def Cand (rows : List (BitVec 64)) (n : Nat) (f t : BitVec 64) : Prop := ∃ m, 1 ≤ m ∧ m ≤ n ∧ f = maskB (subF (sendL rows) m) ∧ t ∈ recvB rows f
theorem recv_ne {rows : List (BitVec 64)} {f t : BitVec 64} (h : t ∈ recvB rows f) : t ≠ 0#64 := by
  obtain ⟨q, hq, he⟩ := mem_at h
  rw [← he]; exact recv_nz hq
theorem Cand.ne {rows : List (BitVec 64)} (hR : rows.length ≤ 64) {n : Nat} (hn : n < 2 ^ (sendL rows).length) {f t : BitVec 64} (h : Cand rows n f t) : f ≠ 0#64 ∧ t ≠ 0#64 := by
  obtain ⟨m, h1, h2, rfl, h4⟩ := h
  exact ⟨sub_nz hR h1 (by omega), recv_ne h4⟩
theorem bestK_inv {rows : List (BitVec 64)} (hR : rows.length ≤ 64) : ∀ n, n < 2 ^ (sendL rows).length → BestI rows (Cand rows n) (bestK rows (sendL rows) n)
  | 0, _ => ⟨noneB_val, .inl rfl, fun f t ⟨m, h1, h2, _⟩ => by omega⟩
  | n + 1, hn => by
    rw [bestK_succ (by omega), Nat.add_sub_cancel]
    have ih := bestK_inv hR n (by omega)
    have hf := sub_nz hR (m := n + 1) (by omega) hn
    refine (BestI.many hf (recvB rows (maskB (subF (sendL rows) (n + 1)))) ih (fun f t h => h.ne hR (by omega)) fun t ht => recv_ne ht).congr fun f t => ?_
    constructor
    · rintro (⟨m, h1, h2, h3⟩ | ⟨rfl, h2⟩)
      · exact ⟨m, h1, by omega, h3⟩
      · exact ⟨n + 1, by omega, Nat.le_refl _, rfl, h2⟩
    · rintro ⟨m, h1, h2, h3, h4⟩
      by_cases hm : m = n + 1
      · subst hm; exact .inr ⟨h3, h3 ▸ h4⟩
      · exact .inl ⟨m, h1, by omega, h3, h4⟩
theorem bestF_inv {rows : List (BitVec 64)} (hR : rows.length ≤ 64) : BestI rows (Cand rows (2 ^ (sendL rows).length - 1)) (bestF rows) := by
  have : 0 < 2 ^ (sendL rows).length := Nat.pow_pos (by decide)
  exact bestK_inv hR _ (by omega)
/-! Sums. -/
def arcN (rows : List (BitVec 64)) (v w : Int) : Int := if (at_ rows v).getLsbD w.toNat = true then 1 else 0
def cntN (rows : List (BitVec 64)) (A : List Int) (w : Int) : Int := (A.map fun v => arcN rows v w).sum
theorem sum_add {α : Type} (l : List α) (g h : α → Int) : (l.map fun x => g x + h x).sum = (l.map g).sum + (l.map h).sum := by
  induction l with
  | nil => rfl
  | cons x l ih => simp only [List.map_cons, List.sum_cons, ih]; omega
theorem sum_zero {α : Type} (l : List α) (g : α → Int) (h : ∀ x ∈ l, g x = 0) : (l.map g).sum = 0 := by
  induction l with
  | nil => rfl
  | cons x l ih => rw [List.map_cons, List.sum_cons, h x List.mem_cons_self, ih fun y hy => h y (List.mem_cons_of_mem _ hy)]; rfl
theorem sum_swap {α β : Type} (g : α → β → Int) (B : List β) : ∀ A : List α, (A.map fun v => (B.map fun w => g v w).sum).sum = (B.map fun w => (A.map fun v => g v w).sum).sum
  | [] => by
    rw [List.map_nil, List.sum_nil, sum_zero]
    intro x _; rfl
  | a :: A => by
    simp only [List.map_cons, List.sum_cons]
    rw [sum_swap g B A, sum_add]
theorem sum_perm {l m : List Int} (h : l.Perm m) : l.sum = m.sum := by
  induction h with
  | nil => rfl
  | cons x _ ih => simp [ih]
  | swap x y l => simp; omega
  | trans _ _ ih1 ih2 => exact ih1.trans ih2
theorem sum_filter {α : Type} (l : List α) (p : α → Bool) (g : α → Int) (h : ∀ x ∈ l, p x = false → g x = 0) : ((l.filter p).map g).sum = (l.map g).sum := by
  induction l with
  | nil => rfl
  | cons x l ih =>
    have ih' := ih fun y hy => h y (List.mem_cons_of_mem _ hy)
    rw [List.filter_cons]
    cases hp : p x
    · rw [if_neg (by decide), List.map_cons, List.sum_cons, h x List.mem_cons_self hp, ih', Int.zero_add]
    · rw [if_pos rfl, List.map_cons, List.map_cons, List.sum_cons, List.sum_cons, ih']
theorem sum_congr {α : Type} {l : List α} {g h : α → Int} (e : ∀ x ∈ l, g x = h x) : (l.map g).sum = (l.map h).sum := by
  congr 1
  exact List.map_congr_left e
theorem sum_count {α : Type} (l : List α) (p : α → Bool) : (l.map fun x => if p x = true then (1 : Int) else 0).sum = ((l.filter p).length : Int) := by
  induction l with
  | nil => rfl
  | cons x l ih =>
    rw [List.map_cons, List.sum_cons, ih, List.filter_cons]
    cases hp : p x <;> simp
    omega
theorem list_and (r t : BitVec 64) : listB (r &&& t) = (listB t).filter fun w => r.getLsbD w.toNat := by
  refine intLin.uniq (listB_asc _) ((listB_asc t).sublist List.filter_sublist) fun x => ?_
  rw [List.mem_filter, mem_listB, mem_listB, BitVec.getLsbD_and, Bool.and_eq_true]
  exact ⟨fun h => ⟨⟨h.1, h.2.2⟩, h.2.1⟩, fun h => ⟨h.1.1, h.2, h.1.2⟩⟩
theorem betT_eq (rows : List (BitVec 64)) (t : BitVec 64) (A : List Int) : betT rows t A = ((listB t).map fun w => cntN rows A w).sum := by
  unfold betT cntN
  rw [← sum_swap]
  congr 1
  refine List.map_congr_left fun v _ => ?_
  rw [ones_pop, list_and, ← sum_count]
  rfl
theorem and_all {rows : List (BitVec 64)} (hR : rows.length ≤ 64) {f : BitVec 64} (hf : ∀ i : Nat, f.getLsbD i = true → i < rows.length) : f &&& allB rows.length = f := by
  refine BitVec.eq_of_getLsbD_eq fun i hi => ?_
  rw [BitVec.getLsbD_and, getLsb_allB (by omega) (by omega) hi]
  cases h : f.getLsbD i
  · rfl
  · have := hf i h
    rw [decide_eq_true (show (i : Int) < rows.length by omega)]; rfl
theorem betB_eq {rows : List (BitVec 64)} (hR : rows.length ≤ 64) {f t : BitVec 64} (hf : ∀ i : Nat, f.getLsbD i = true → i < rows.length) : betB rows f t = ((listB t).map fun w => cntN rows (listB f) w).sum := by
  unfold betB
  rw [and_all hR hf, betT_eq]
/-! Counts, sorted. -/
theorem bump_at : ∀ (ws cs : List Int), cs.length = 64 → ws.Nodup → (∀ w ∈ ws, 0 ≤ w ∧ w < 64) → ∀ x : Int, 0 ≤ x → at_ (bumpL cs ws) x = at_ cs x + if x ∈ ws then 1 else 0
  | [], cs, _, _, _, x, _ => by simp [bumpL]
  | w :: ws, cs, hl, hn, hw, x, hx => by
    have h1 := hw w List.mem_cons_self
    obtain ⟨h2, h3⟩ := List.nodup_cons.1 hn
    have e : bumpL cs (w :: ws) = bumpL (cs.set w.toNat (at_ cs w + 1)) ws := rfl
    rw [e, bump_at ws _ (by rw [List.length_set]; exact hl) h3 (fun y hy => hw y (List.mem_cons_of_mem _ hy)) x hx, at_set cs w x _ h1.1 hx (by omega)]
    by_cases e1 : w = x
    · subst e1
      rw [if_pos rfl, if_neg h2, if_pos List.mem_cons_self]; omega
    · rw [if_neg e1]
      by_cases e2 : x ∈ ws
      · rw [if_pos e2, if_pos (List.mem_cons_of_mem _ e2)]
      · rw [if_neg e2, if_neg (by rw [List.mem_cons]; rintro (h | h); (· exact e1 h.symm); (· exact e2 h))]
theorem bump_len : ∀ (ws cs : List Int), (bumpL cs ws).length = cs.length
  | [], cs => rfl
  | w :: ws, cs => by
    have e : bumpL cs (w :: ws) = bumpL (cs.set w.toNat (at_ cs w + 1)) ws := rfl
    rw [e, bump_len ws, List.length_set]
theorem listB_nd (m : BitVec 64) : (listB m).Nodup := (listB_asc m).imp fun h => by omega
theorem listB_rng {m : BitVec 64} {x : Int} (h : x ∈ listB m) : 0 ≤ x ∧ x < 64 := by
  obtain ⟨h0, h1⟩ := mem_listB.1 h
  have := BitVec.lt_of_getLsbD h1; omega
theorem cntK_at {rows : List (BitVec 64)} (xs : List Int) {w : Int} (hw : 0 ≤ w) : at_ (cntK rows xs) w = cntN rows xs w := by
  have key : ∀ (xs cs : List Int), cs.length = 64 → at_ (xs.foldl (fun cs v => bumpL cs (listB (at_ rows v))) cs) w = at_ cs w + cntN rows xs w := fun xs => by
    induction xs with
    | nil => intro cs _; simp [cntN]
    | cons v xs ih =>
      intro cs hl
      rw [List.foldl_cons, ih _ (by rw [bump_len]; exact hl), bump_at _ _ hl (listB_nd _) (fun w h => listB_rng h) w hw]
      have e : cntN rows (v :: xs) w = arcN rows v w + cntN rows xs w := rfl
      rw [e]
      unfold arcN
      have : w ∈ listB (at_ rows v) ↔ (at_ rows v).getLsbD w.toNat = true := by rw [mem_listB]; exact ⟨fun h => h.2, fun h => ⟨hw, h⟩⟩
      by_cases hb : (at_ rows v).getLsbD w.toNat = true
      · rw [if_pos (this.2 hb), if_pos hb]; omega
      · rw [if_neg (fun h => hb (this.1 h)), if_neg hb]; omega
  have := key xs (List.replicate 64 (0 : Int)) (by simp)
  unfold cntK
  rw [this, at_repZ]; omega
/-- More first; of those with as many, the lesser first. -/
def ordR (k : Int → Int) (a b : Int) : Prop := k b < k a ∨ (k a = k b ∧ a < b)
theorem place_le (cf : Int → Int → Int) (l : List Int) (x : Int) : ∀ j, placeI cf l x j ≤ j
  | 0 => Nat.le_refl _
  | j + 1 => by
    unfold placeI
    split
    · exact Nat.le_succ_of_le (place_le cf l x j)
    · exact Nat.le_refl _
theorem place_hi (cf : Int → Int → Int) (l : List Int) (x : Int) : ∀ j m, placeI cf l x j ≤ m → m < j → cf x (at_ l (m : Int)) < 0
  | 0, m, _, h => by omega
  | j + 1, m, h1, h2 => by
    unfold placeI at h1
    split at h1
    · rename_i hc
      by_cases e : m = j
      · subst e; exact hc
      · exact place_hi cf l x j m h1 (by omega)
    · omega
theorem place_lo (cf : Int → Int → Int) (l : List Int) (x : Int) : ∀ j, placeI cf l x j = 0 ∨ (0 < placeI cf l x j ∧ ¬ cf x (at_ l ((placeI cf l x j : Int) - 1)) < 0)
  | 0 => .inl rfl
  | j + 1 => by
    unfold placeI
    split
    · exact place_lo cf l x j
    · rename_i hc
      refine .inr ⟨by omega, ?_⟩
      rw [show ((j + 1 : Nat) : Int) - 1 = (j : Int) by omega]; exact hc
theorem pair_at {R : Int → Int → Prop} {l : List Int} (h : l.Pairwise R) {i j : Nat} (hij : i < j) (hj : j < l.length) : R (at_ l (i : Int)) (at_ l (j : Int)) := by
  rw [at_nat, at_nat, List.getD_eq_getElem?_getD, List.getD_eq_getElem?_getD, List.getElem?_eq_getElem (by omega), List.getElem?_eq_getElem hj]
  exact List.pairwise_iff_getElem.1 h i j (by omega) hj hij
theorem insI_ord {k : Int → Int} {l : List Int} {x : Int} (h : l.Pairwise (ordR k)) (hx : ∀ y ∈ l, y < x) : (insI (fun x y => k y - k x) l x).Pairwise (ordR k) := by
  unfold insI insAt
  generalize hp : placeI (fun x y => k y - k x) l x l.length = p
  have h1 := place_le (fun x y => k y - k x) l x l.length
  have h2 := place_hi (fun x y => k y - k x) l x l.length
  have h3 := place_lo (fun x y => k y - k x) l x l.length
  rw [hp] at h1 h2 h3
  have ht : ∀ y ∈ l.take p, ordR k y x := fun y hy => by
    obtain ⟨j, hj, he⟩ := mem_at hy
    rw [List.length_take] at hj
    have hyx := hx y (List.mem_of_mem_take hy)
    have e : at_ (l.take p) (j : Int) = at_ l (j : Int) := by rw [at_nat, at_nat, List.getD_eq_getElem?_getD, List.getD_eq_getElem?_getD, List.getElem?_take, if_pos (by omega)]
    rw [e] at he
    rcases h3 with h3 | ⟨h3, h4⟩
    · omega
    · have hk : k (at_ l (j : Int)) ≥ k (at_ l ((p : Int) - 1)) := by
        by_cases hj2 : j = p - 1
        · rw [show (p : Int) - 1 = (j : Int) by omega]; exact Int.le_refl _
        · have := pair_at h (i := j) (j := p - 1) (by omega) (by omega)
          rw [show ((p - 1 : Nat) : Int) = (p : Int) - 1 by omega] at this
          unfold ordR at this; omega
      rw [he] at hk
      unfold ordR; omega
  have hd : ∀ y ∈ l.drop p, ordR k x y := fun y hy => by
    obtain ⟨j, hj, he⟩ := mem_at hy
    rw [List.length_drop] at hj
    have e : at_ (l.drop p) (j : Int) = at_ l ((p + j : Nat) : Int) := by rw [at_nat, at_nat, List.getD_eq_getElem?_getD, List.getD_eq_getElem?_getD, List.getElem?_drop]
    rw [e] at he
    have := h2 (p + j) (by omega) (by omega)
    rw [he] at this
    unfold ordR; omega
  have htd : ∀ a ∈ l.take p, ∀ b ∈ l.drop p, ordR k a b := by
    have := h
    rw [← List.take_append_drop p l, List.pairwise_append] at this
    exact this.2.2
  rw [List.pairwise_append, List.pairwise_cons]
  refine ⟨h.sublist (List.take_sublist _ _), ⟨hd, h.sublist (List.drop_sublist _ _)⟩, fun a ha b hb => ?_⟩
  rcases List.mem_cons.1 hb with rfl | hb
  · exact ht a ha
  · exact htd a ha b hb
theorem isort_ord {k : Int → Int} {xs : List Int} (h : xs.Pairwise fun a b => a < b) : (isortI (fun x y => k y - k x) xs).Pairwise (ordR k) := by
  have key : ∀ (xs acc : List Int), acc.Pairwise (ordR k) → (xs.Pairwise fun a b => a < b) → (∀ y ∈ acc, ∀ x ∈ xs, y < x) → (xs.foldl (insI (fun x y => k y - k x)) acc).Pairwise (ordR k) := fun xs => by
    induction xs with
    | nil => intro acc h1 _ _; exact h1
    | cons x xs ih =>
      intro acc h1 h2 h3
      obtain ⟨h4, h5⟩ := List.pairwise_cons.1 h2
      rw [List.foldl_cons]
      refine ih _ (insI_ord h1 fun y hy => h3 y hy x List.mem_cons_self) h5 fun y hy z hz => ?_
      have := (insAt_perm acc _ x).mem_iff.1 hy
      rcases List.mem_cons.1 this with rfl | h6
      · exact h4 z hz
      · exact h3 y h6 z (List.mem_cons_of_mem _ hz)
  exact key xs [] .nil h fun y hy => by cases hy
/-! No pair is better. -/
theorem sub_all : ∀ (l : List Int) (p : Int → Bool), ∃ m, m < 2 ^ l.length ∧ subF l m = l.filter p
  | [], p => ⟨0, by simp, rfl⟩
  | x :: l, p => by
    obtain ⟨m, hm, he⟩ := sub_all l p
    have hp : (2 : Nat) ^ (x :: l).length = 2 * 2 ^ l.length := by rw [List.length_cons, Nat.pow_succ, Nat.mul_comm]
    cases hx : p x
    · refine ⟨2 * m, by rw [hp]; omega, ?_⟩
      show (if 2 * m % 2 = 1 then [x] else []) ++ subF l (2 * m / 2) = _
      rw [if_neg (by omega), show 2 * m / 2 = m by omega, he, List.filter_cons, hx]; rfl
    · refine ⟨2 * m + 1, by rw [hp]; omega, ?_⟩
      show (if (2 * m + 1) % 2 = 1 then [x] else []) ++ subF l ((2 * m + 1) / 2) = _
      rw [if_pos (by omega), show (2 * m + 1) / 2 = m by omega, he, List.filter_cons, hx]; rfl
theorem cnt_nonneg (rows : List (BitVec 64)) (A : List Int) (w : Int) : 0 ≤ cntN rows A w := by
  unfold cntN
  induction A with
  | nil => exact Int.le_refl _
  | cons v A ih =>
    rw [List.map_cons, List.sum_cons]
    have : 0 ≤ arcN rows v w := by unfold arcN; split <;> omega
    omega
theorem sortR_ord (rows : List (BitVec 64)) (f : BitVec 64) : (sortR rows f).Pairwise (ordR fun w => at_ (cntK rows (listB f)) w) := isort_ord (k := fun w => at_ (cntK rows (listB f)) w) (listB_asc _)
end Go.Sl
