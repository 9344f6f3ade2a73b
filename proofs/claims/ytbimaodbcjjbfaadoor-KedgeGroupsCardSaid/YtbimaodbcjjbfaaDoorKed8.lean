/- A part of the proofs of statements of this seat: contracts of functions, and the plain laws that they lean on. No conditions. -/
import Derived.Test.YtbimaodbcjjbfaaDoorKed9
import Derived.Test.YtbimaodbcjjbfaaDoorReach9
import Derived.Test.YtbimaodbcjjbfaaDoorSortRows
import Derived.Test.YtbimaodbcjjbfaaDoorRets2
import Derived.Test.YtbimaodbcjjbfaaDoorConn8
namespace Go.Sl
open Go.Proofs
set_option linter.unusedVariables false
set_option linter.unusedSimpArgs false
set_option maxRecDepth 4000
theorem cmpI_ne {a b : Int} (h : ¬ cmpI a b ≠ 0) : ¬ b < a ∧ ¬ a < b := by unfold cmpI at h; split at h <;> (try split at h) <;> omega
theorem cmpL_dropc (xs ys : List Int) (k : Nat) (hx : k < xs.length) (hy : k < ys.length) (h : cmpI (at_ xs (k : Int)) (at_ ys (k : Int)) ≠ 0) : cmpL (xs.drop k) (ys.drop k) = cmpI (at_ xs (k : Int)) (at_ ys (k : Int)) := by
  unfold cmpI at h ⊢
  by_cases h1 : at_ xs (k : Int) < at_ ys (k : Int)
  · rw [if_pos h1]; exact cmpL_dropn xs ys k hx hy (by omega) h1
  · rw [if_neg h1] at h ⊢
    by_cases h2 : at_ ys (k : Int) < at_ xs (k : Int)
    · rw [if_pos h2]; exact cmpL_drop1 xs ys k hx (.inr ⟨hy, h2⟩)
    · rw [if_neg h2] at h; omega
/-- A cut as it lies in a list. -/
structure CtV where
  a : Option Addr
  n : Nat
  c : Nat
  val : Int
instance : Inhabited CtV := ⟨⟨none, 0, 0, 0⟩⟩
instance : Enc CtV := ⟨fun r => [.slice r.a r.n r.c, I64 r.val], 2, by omega, fun _ => rfl, fun r u hu => by
  simp only [List.mem_cons, List.not_mem_nil, or_false] at hu
  rcases hu with rfl | rfl <;> rfl⟩
theorem list_mask {nd : Int} {sd : List Int} (hv : ValidP sd nd) (h : nd ≤ 64) : listB (maskB sd) = sd := by
  refine LinO.uniq (lt := fun a b : Int => a < b) intLin (listB_asc _) (ValidP_iff.1 hv).2 fun x => ?_
  rw [mem_listB]
  have hb := (ValidP_iff.1 hv).1
  constructor
  · rintro ⟨h0, h1⟩
    have hlt : x.toNat < 64 := BitVec.lt_of_getLsbD h1
    have := (bit_maskB hlt).1 h1
    rwa [Int.toNat_of_nonneg h0] at this
  · intro hx
    have := hb x hx
    refine ⟨this.1, (bit_maskB (by omega)).2 ?_⟩
    rw [Int.toNat_of_nonneg this.1]; exact hx
theorem mem_andnot {a b : BitVec 64} {x : Int} : x ∈ listB (a &&& ~~~b) ↔ x ∈ listB a ∧ x ∉ listB b := by rw [← minus_list, mem_minusL]
theorem div_cut {nd vl : Int} {m : BitVec 64} {es : List Pt} {sd : List Int} (hv : nd ≤ 64) (h : LeastOf (inW m es) nd (at_ (listB m) 0) ((listB m).drop 1) sd vl) (h2 : 2 ≤ (listB m).length) :
    listB (maskB sd) = sd ∧ (listB (maskB sd)).length + (listB (m &&& ~~~maskB sd)).length = (listB m).length ∧ 1 ≤ (listB (maskB sd)).length ∧ 1 ≤ (listB (m &&& ~~~maskB sd)).length ∧ (∀ x ∈ listB (maskB sd), x ∈ listB m) ∧ (∀ x ∈ listB (m &&& ~~~maskB sd), x ∈ listB m) := by
  obtain ⟨y, hy, hm, _⟩ := h
  have e := list_mask hm.valid hv
  have hx0 : at_ (listB m) 0 ∈ listB m := head_mem (by omega)
  have hw := hm.within (es := es) hx0
  have hsub : ∀ x ∈ listB (maskB sd), x ∈ listB m := fun x hx => hw x (by rwa [e] at hx)
  have hp := listB_split (a := m) (m := maskB sd) fun i hi => by
    have : (i : Int) ∈ listB (maskB sd) := mem_listB.2 ⟨by omega, by simpa using hi⟩
    simpa using (mem_listB.1 (hsub _ this)).2
  have hl := hp.length_eq
  rw [List.length_append] at hl
  have h1 : at_ (listB m) 0 ∈ listB (maskB sd) := by rw [e]; exact hm.src
  have h3 : y ∈ listB (m &&& ~~~maskB sd) := mem_andnot.2 ⟨List.mem_of_mem_drop hy, by rw [e]; exact hm.snk⟩
  exact ⟨e, hl.symm, List.length_pos_of_mem h1, List.length_pos_of_mem h3, hsub, fun x hx => (mem_andnot.1 hx).1⟩
theorem div_join {nd vl k : Int} {m : BitVec 64} {es : List Pt} {sd : List Int} {Q Q' : List (List Int)} (hv : nd ≤ 64) (h : LeastOf (inW m es) nd (at_ (listB m) 0) ((listB m).drop 1) sd vl) (h2 : 2 ≤ (listB m).length) (hk : vl < k)
    (ha : DivP nd k es (listB (maskB sd)) Q) (hb : DivP nd k es (listB (m &&& ~~~maskB sd)) Q') : DivP nd k es (listB m) (Q ++ Q') := by
  obtain ⟨e, _, _, _, hs, _⟩ := div_cut hv h h2
  obtain ⟨y, hy, hm, _⟩ := h
  refine DivP.join hs (fun z => mem_andnot) ?_ hk ha hb
  rw [e]; exact hm.eq
theorem div_whole {nd vl k : Int} {m : BitVec 64} {es : List Pt} {sd : List Int} (hW : ∀ x ∈ listB m, x < nd) (h : LeastOf (inW m es) nd (at_ (listB m) 0) ((listB m).drop 1) sd vl) (h2 : 2 ≤ (listB m).length) (hk : k ≤ vl) : DivP nd k es (listB m) [listB m] := by
  refine DivP.whole (x0 := at_ (listB m) 0) (ys := (listB m).drop 1) (ValidP_iff.2 ⟨fun x hx => ⟨(mem_listB.1 hx).1, hW x hx⟩, listB_asc m⟩) h2 (fun x hx => ?_) h hk
  cases hc : listB m with
  | nil => rw [hc] at hx; cases hx
  | cons a l => rw [hc] at hx; exact List.mem_cons.1 hx

theorem RowCmp_ok {κ : Ctx} {I : List Item} {u v : Value} {xs ys : List Int} (hu : Sl κ I u xs) (hv : Sl κ I v ys) :
    CallS Tryd.prog κ 106 [u, v] I (fun r J => r = I64 (cmpL xs ys) ∧ I = J) := by
 refine CallS.pull hu.le fun hmax => ?_
 refine CallS.pull hv.le fun hmay => ?_
 refine CallS.enter (L := [(0, u), (1, v)]) Tryd.func106 rfl rfl rfl rfl ?_
 refine W.sr ?_
 refine G.r (Runs.assign rfl) ?_
 refine G.nt ?_
 refine W.seq ?_
 refine W.sr ?_
 refine G.r (Runs.move rfl) ?_
 refine G.r (Runs.lenT (α := Int) (xs := xs) Tryd.underlying22 rfl (Sl.f hu)) ?_
 refine G.r (Runs.move rfl) ?_
 refine G.nt ?_
 refine W.block ?_
 refine W.loop (σ := Nat) (fun s => ([(0, u), (1, v), (9, u), (10, I64 (((xs.length : Nat) : Int))), (11, I64 (((s : Nat) : Int)))] : Env)) (fun s => I) (fun s => (s ≤ xs.length) ∧ (cmpL xs ys = cmpL (xs.drop s) (ys.drop s))) (fun s => xs.length - s) (0) (show ((0 : Nat) ≤ xs.length) ∧ (cmpL xs ys = cmpL (xs.drop (0 : Nat)) (ys.drop (0 : Nat))) from ⟨(by omega), rfl⟩) (Sub.cons rfl (Sub.cons rfl (Sub.cons rfl (Sub.cons rfl (Sub.cons lookO Sub.nil))))) (show Fit κ _ (I) from Fit.sub) ?_
 rintro k hp
 obtain ⟨hk, hc⟩ : (k ≤ xs.length) ∧ (cmpL xs ys = cmpL (xs.drop k) (ys.drop k)) := hp
 show W Tryd.prog κ 36 _ _ ([(0, u), (1, v), (9, u), (10, I64 (((xs.length : Nat) : Int))), (11, I64 (((k : Nat) : Int)))] : Env) (I)
 refine W.sr ?_
 refine G.r (Runs.lss rfl rfl) ?_
 refine G.nt ?_
 refine W.seq ?_
 refine W.ite rfl (fun c12 => ?_) (fun c12 => ?_)
 ·refine W.skip ?_
  refine V.then ?_
  refine W.seq ?_
  refine W.block ?_
  refine W.sr ?_
  refine G.r (Runs.move rfl) ?_
  refine G.r (Runs.idx (α := Int) (xs := xs) Tryd.underlying22 ty3 rfl rfl (Sl.f hu) (by omega) (by omega)) ?_
  refine G.r (Runs.get (xs := xs) ty3 rfl (Sl.f hu) (by omega) (by omega)) ?_
  refine G.r (Runs.assign rfl) ?_
  refine G.r (Runs.assign rfl) ?_
  refine G.nt ?_
  refine W.seq ?_
  refine W.sr ?_
  refine G.r (Runs.move rfl) ?_
  refine G.r (Runs.move rfl) ?_
  refine G.r (Runs.lenT (α := Int) (xs := ys) Tryd.underlying22 rfl (Sl.f hv)) ?_
  refine G.r (Runs.geq rfl rfl) ?_
  refine G.nt ?_
  refine W.sub (L' := [(19, _), (6, _), (5, _), (0, _), (1, _), (9, _), (10, _), (11, _)]) (Sub.cons rfl (Sub.cons rfl (Sub.cons rfl (Sub.cons rfl (Sub.cons rfl (Sub.cons rfl (Sub.cons rfl (Sub.cons rfl Sub.nil)))))))) ?_
  refine W.ite rfl (fun c19 => ?_) (fun c19 => ?_)
  ·refine W.sr ?_
   refine G.r (Runs.assign rfl) ?_
   refine G.nt ?_
   refine W.ret ?_
   refine V.then_ret ?_
   refine V.block_ret ?_
   refine V.then_ret ?_
   refine V.then_ret ?_
   refine V.block_ret ?_
   refine V.then_ret ?_
   exact V.ret1 rfl rfl (I) Fit.m ⟨by rw [hc, cmpL_drop1 xs ys k (by omega) (.inl (by omega))], rfl⟩
  ·refine W.skip ?_
   refine V.then ?_
   refine W.sr ?_
   refine G.r (Runs.move rfl) ?_
   refine G.r (Runs.move rfl) ?_
   refine G.r (Runs.idx (α := Int) (xs := ys) Tryd.underlying22 ty3 rfl rfl (Sl.f hv) (by omega) (by omega)) ?_
   refine G.r (Runs.get (xs := ys) ty3 rfl (Sl.f hv) (by omega) (by omega)) ?_
   refine G.r (Runs.assign rfl) ?_
   refine G.nt ?_
   refine W.sr ?_
   refine G.r (Runs.move rfl) ?_
   refine G.r (Runs.move rfl) ?_
   refine G.e (Eff.call call139 rfl rfl (Compare_ok (at_ xs ((k : Nat) : Int)) (at_ ys ((k : Nat) : Int)))) ?_
   rintro _ _ ⟨_, _, ⟨rfl, rfl⟩, rfl, rfl⟩
   refine G.r (Runs.assign rfl) ?_
   refine G.nt ?_
   refine W.sub (L' := [(8, _), (0, _), (1, _), (9, _), (10, _), (11, _)]) (Sub.cons rfl (Sub.cons rfl (Sub.cons rfl (Sub.cons rfl (Sub.cons rfl (Sub.cons rfl Sub.nil)))))) ?_
   refine W.sr ?_
   refine G.r (Runs.move rfl) ?_
   refine G.r (Runs.neq rfl rfl) ?_
   refine G.nt ?_
   refine W.ite rfl (fun c28 => ?_) (fun c28 => ?_)
   ·refine W.sr ?_
    refine G.r (Runs.move rfl) ?_
    refine G.r (Runs.assign rfl) ?_
    refine G.nt ?_
    refine W.ret ?_
    refine V.block_ret ?_
    refine V.then_ret ?_
    refine V.then_ret ?_
    refine V.block_ret ?_
    refine V.then_ret ?_
    exact V.ret1 rfl rfl (I) Fit.m ⟨by rw [hc, cmpL_dropc xs ys k (by omega) (by omega) c28], rfl⟩
   ·refine W.skip ?_
    refine V.block_normal ?_
    refine V.then ?_
    refine W.region ?_
    refine G.r (Runs.add rfl rfl (by unfold InR; omega)) ?_
    refine G.r (Runs.move rfl) ?_
    refine G.nil ?_
    exact V.next ((k + 1)) (show ((k + 1 : Nat) ≤ xs.length) ∧ (cmpL xs ys = cmpL (xs.drop (k + 1 : Nat)) (ys.drop (k + 1 : Nat))) from ⟨(by omega), (hc.trans (cmpL_drop xs ys k (by omega) (by omega) (cmpI_ne c28).1 (cmpI_ne c28).2))⟩) (show xs.length - (k + 1 : Nat) < xs.length - k from (by omega)) (Sub.cons rfl (Sub.cons rfl (Sub.cons rfl (Sub.cons rfl (Sub.cons lookO Sub.nil))))) (show Fit κ _ (I) from Fit.sub)
 ·refine W.exit ?_
  refine V.then_exit ?_
  refine V.then_exit ?_
  refine V.block_hit ?_
  refine V.then ?_
  refine W.seq ?_
  refine W.sr ?_
  refine G.r (Runs.move rfl) ?_
  refine G.r (Runs.lenT (α := Int) (xs := xs) Tryd.underlying22 rfl (Sl.f hu)) ?_
  refine G.r (Runs.move rfl) ?_
  refine G.r (Runs.lenT (α := Int) (xs := ys) Tryd.underlying22 rfl (Sl.f hv)) ?_
  refine G.r (Runs.lss rfl rfl) ?_
  refine G.nt ?_
  refine W.ite rfl (fun c35 => ?_) (fun c35 => ?_)
  ·refine W.sr ?_
   refine G.r (Runs.assign rfl) ?_
   refine G.nt ?_
   refine W.ret ?_
   refine V.then_ret ?_
   exact V.ret1 rfl rfl (I) Fit.m ⟨by rw [hc, cmpL_end xs ys k (by omega), if_pos (by omega)], rfl⟩
  ·refine W.skip ?_
   refine V.then ?_
   refine W.sr ?_
   refine G.r (Runs.assign rfl) ?_
   refine G.nt ?_
   refine W.ret ?_
   exact V.ret1 rfl rfl (I) Fit.m ⟨by rw [hc, cmpL_end xs ys k (by omega), if_neg (by omega)], rfl⟩

theorem NCmp_ok {κ : Ctx} {I : List Item} {u v : Value} {xs ys : List Int} (hu : Sl κ I u xs) (hv : Sl κ I v ys) :
    CallS Tryd.prog κ 132 [u, v] I (fun r J => r = I64 (cmpL xs ys) ∧ I = J) := by
 refine CallS.enter (L := [(0, u), (1, v)]) Tryd.func132 rfl rfl rfl rfl ?_
 refine W.sr ?_
 refine G.r (Runs.assign rfl) ?_
 refine G.nt ?_
 refine W.sr ?_
 refine G.r (Runs.move rfl) ?_
 refine G.r (Runs.move rfl) ?_
 refine G.e (Eff.call call106 rfl rfl (RowCmp_ok (Sl.f hu) (Sl.f hv))) ?_
 rintro _ _ ⟨_, _, ⟨rfl, rfl⟩, rfl, rfl⟩
 refine G.r (Runs.assign rfl) ?_
 refine G.nt ?_
 refine W.ret ?_
 exact V.ret1 rfl rfl (I) Fit.m ⟨rfl, rfl⟩

end Go.Sl
namespace Go.Sl
open Go.Proofs
set_option linter.unusedVariables false
set_option linter.unusedSimpArgs false
set_option maxRecDepth 4000
/-- What a call of the closure does with sets of at most n nodes. -/
def DivC (κ : Ctx) (br bk bp bc bd : Nat) (ra : Option Addr) (rc : Nat) (nd k : Int) (es : List Pt) (n : Nat) : Prop :=
  ∀ (I : List Item) (m : BitVec 64) (pa : Option Addr) (pc : Nat) (rs : List (RowG Int)) (ca : Option Addr) (cc : Nat) (cs : List CtV), (listB m).length ≤ n → (∀ x ∈ listB m, x < nd) → rs.length + (listB m).length ≤ 200 → cs.length + (listB m).length ≤ 200 → TabRd κ I 0 tzCells →
    CallS Tryd.prog κ 130 [U64 (m), .pointer (some ⟨br, 0, none⟩), .pointer (some ⟨bk, 0, none⟩), .pointer (some ⟨bp, 0, none⟩), .pointer (some ⟨bc, 0, none⟩), .pointer (some ⟨bd, 0, none⟩)] (blk br [.slice ra (rowsB nd es).length rc] 106 :: vc 99 (.slice ra (rowsB nd es).length rc) ((rowsB nd es)) :: blk bk [I64 (k)] 3 :: blk bp [.slice pa rs.length pc] 50 :: vc 22 (.slice pa rs.length pc) (rs) :: blk bc [.slice ca cs.length cc] 129 :: vc 69 (.slice ca cs.length cc) (cs) :: blk bd [.func (.func 130) #[] #[.pointer (some ⟨br, 0, none⟩), .pointer (some ⟨bk, 0, none⟩), .pointer (some ⟨bp, 0, none⟩), .pointer (some ⟨bc, 0, none⟩), .pointer (some ⟨bd, 0, none⟩)]] 165 :: (ownR 3 rs ++ I)) (fun r J => ∃ (pa' : Option Addr) (pc' : Nat) (rs' : List (RowG Int)) (ca' : Option Addr) (cc' : Nat) (cs' : List CtV) (Q : List (RowG Int)), r = .tuple #[] ∧ (rs' = rs ++ Q ∧ DivP nd k es (listB m) (Q.map RowG.xs) ∧ Q.length ≤ (listB m).length ∧ cs'.length ≤ cs.length + ((listB m).length - 1)) ∧ J = blk br [.slice ra (rowsB nd es).length rc] 106 :: vc 99 (.slice ra (rowsB nd es).length rc) ((rowsB nd es)) :: blk bk [I64 (k)] 3 :: blk bp [.slice pa' rs'.length pc'] 50 :: vc 22 (.slice pa' rs'.length pc') (rs') :: blk bc [.slice ca' cs'.length cc'] 129 :: vc 69 (.slice ca' cs'.length cc') (cs') :: blk bd [.func (.func 130) #[] #[.pointer (some ⟨br, 0, none⟩), .pointer (some ⟨bk, 0, none⟩), .pointer (some ⟨bp, 0, none⟩), .pointer (some ⟨bc, 0, none⟩), .pointer (some ⟨bd, 0, none⟩)]] 165 :: (ownR 3 rs' ++ I))

set_option maxHeartbeats 2000000 in
theorem Div_step {κ : Ctx} {I : List Item} {br bk bp bc bd : Nat} {ra : Option Addr} {rc : Nat} {nd k : Int} {es : List Pt} (hG : GrOk nd es) {m : BitVec 64} {pa : Option Addr} {pc : Nat} {rs : List (RowG Int)} {ca : Option Addr} {cc : Nat} {cs : List CtV} (ih : 2 ≤ (listB m).length → DivC κ br bk bp bc bd ra rc nd k es ((listB m).length - 1)) (hW : ∀ x ∈ listB m, x < nd) (hrs : rs.length + (listB m).length ≤ 200) (hcs : cs.length + (listB m).length ≤ 200) (hT : TabRd κ I 0 tzCells) :
    CallS Tryd.prog κ 130 [U64 (m), .pointer (some ⟨br, 0, none⟩), .pointer (some ⟨bk, 0, none⟩), .pointer (some ⟨bp, 0, none⟩), .pointer (some ⟨bc, 0, none⟩), .pointer (some ⟨bd, 0, none⟩)] (blk br [.slice ra (rowsB nd es).length rc] 106 :: vc 99 (.slice ra (rowsB nd es).length rc) ((rowsB nd es)) :: blk bk [I64 (k)] 3 :: blk bp [.slice pa rs.length pc] 50 :: vc 22 (.slice pa rs.length pc) (rs) :: blk bc [.slice ca cs.length cc] 129 :: vc 69 (.slice ca cs.length cc) (cs) :: blk bd [.func (.func 130) #[] #[.pointer (some ⟨br, 0, none⟩), .pointer (some ⟨bk, 0, none⟩), .pointer (some ⟨bp, 0, none⟩), .pointer (some ⟨bc, 0, none⟩), .pointer (some ⟨bd, 0, none⟩)]] 165 :: (ownR 3 rs ++ I)) (fun r J => ∃ (pa' : Option Addr) (pc' : Nat) (rs' : List (RowG Int)) (ca' : Option Addr) (cc' : Nat) (cs' : List CtV) (Q : List (RowG Int)), r = .tuple #[] ∧ (rs' = rs ++ Q ∧ DivP nd k es (listB m) (Q.map RowG.xs) ∧ Q.length ≤ (listB m).length ∧ cs'.length ≤ cs.length + ((listB m).length - 1)) ∧ J = blk br [.slice ra (rowsB nd es).length rc] 106 :: vc 99 (.slice ra (rowsB nd es).length rc) ((rowsB nd es)) :: blk bk [I64 (k)] 3 :: blk bp [.slice pa' rs'.length pc'] 50 :: vc 22 (.slice pa' rs'.length pc') (rs') :: blk bc [.slice ca' cs'.length cc'] 129 :: vc 69 (.slice ca' cs'.length cc') (cs') :: blk bd [.func (.func 130) #[] #[.pointer (some ⟨br, 0, none⟩), .pointer (some ⟨bk, 0, none⟩), .pointer (some ⟨bp, 0, none⟩), .pointer (some ⟨bc, 0, none⟩), .pointer (some ⟨bd, 0, none⟩)]] 165 :: (ownR 3 rs' ++ I)) := by
 have hop := ones_pop m
 have hn64 := hG.rng.2
 refine CallS.enter (L := [(0, U64 (m)), (1, .pointer (some ⟨br, 0, none⟩)), (2, .pointer (some ⟨bk, 0, none⟩)), (3, .pointer (some ⟨bp, 0, none⟩)), (4, .pointer (some ⟨bc, 0, none⟩)), (5, .pointer (some ⟨bd, 0, none⟩))]) Tryd.func130 rfl rfl rfl rfl ?_
 refine W.seq ?_
 refine W.sr ?_
 refine G.r (Runs.move rfl) ?_
 refine G.e (Eff.call call110 rfl rfl (MCount_ok m)) ?_
 rintro _ _ ⟨_, _, ⟨rfl, rfl⟩, rfl, rfl⟩
 refine G.r (Runs.lss rfl rfl) ?_
 refine G.nt ?_
 refine W.ite rfl (fun c11 => ?_) (fun c11 => ?_)
 ·refine W.ret ?_
  refine V.then_ret ?_
  exact V.ret0 rfl (blk br [.slice ra (rowsB nd es).length rc] 106 :: vc 99 (.slice ra (rowsB nd es).length rc) ((rowsB nd es)) :: blk bk [I64 (k)] 3 :: blk bp [.slice pa rs.length pc] 50 :: vc 22 (.slice pa rs.length pc) (rs) :: blk bc [.slice ca cs.length cc] 129 :: vc 69 (.slice ca cs.length cc) (cs) :: blk bd [.func (.func 130) #[] #[.pointer (some ⟨br, 0, none⟩), .pointer (some ⟨bk, 0, none⟩), .pointer (some ⟨bp, 0, none⟩), .pointer (some ⟨bc, 0, none⟩), .pointer (some ⟨bd, 0, none⟩)]] 165 :: (ownR 3 rs ++ I)) (by first | exact Fit.s | exact Fit.sub) ⟨pa, pc, rs, ca, cc, cs, [], rfl, ⟨by simp, DivP.small (by omega), by simp, by omega⟩, rfl⟩
 ·refine W.skip ?_
  refine V.then ?_
  refine W.sr ?_
  refine G.r (Runs.ld ty106) ?_
  refine G.r (Runs.move rfl) ?_
  refine G.e (Eff.call call95 rfl rfl (KLeast0_ok (wm := m) Sl.o hG hW (by omega) (TabRd.fit hT Fit.m))) ?_
  rintro _ _ ⟨_, _, ⟨ad1, cp2, sd3, vl4, rfl, hsd3, rfl⟩, rfl, rfl⟩
  refine G.e (Eff.alloc ty69 rfl) ?_
  rintro _ _ ⟨b5, rfl, rfl⟩
  refine G.e (Eff.st (cs := [_, _]) (vs := [_, _]) (cs' := [_, _]) ty69) ?_
  rintro _ _ ⟨rfl, rfl⟩
  refine G.nt ?_
  refine W.seq ?_
  refine W.sr ?_
  refine G.r (Runs.fieldAddr fld69_1 rfl) ?_
  refine G.r (Runs.ld ty3) ?_
  refine G.r (Runs.ld ty3) ?_
  refine G.r (Runs.geq rfl rfl) ?_
  refine G.nt ?_
  refine W.sub (L' := [(18, _), (7, _), (0, _), (3, _), (4, _), (5, _)]) (Sub.cons rfl (Sub.cons rfl (Sub.cons rfl (Sub.cons rfl (Sub.cons rfl (Sub.cons rfl Sub.nil)))))) ?_
  refine W.ite rfl (fun c18 => ?_) (fun c18 => ?_)
  ·refine W.seq ?_
   refine W.drawn mixed ?_
   refine A.hold (blk b5 [.slice ad1 sd3.length cp2, I64 (vl4)] 69 :: vc 3 (.slice ad1 sd3.length cp2) (sd3) :: blk br [.slice ra (rowsB nd es).length rc] 106 :: vc 99 (.slice ra (rowsB nd es).length rc) ((rowsB nd es)) :: blk bk [I64 (k)] 3 :: blk bc [.slice ca cs.length cc] 129 :: vc 69 (.slice ca cs.length cc) (cs) :: blk bd [.func (.func 130) #[] #[.pointer (some ⟨br, 0, none⟩), .pointer (some ⟨bk, 0, none⟩), .pointer (some ⟨bp, 0, none⟩), .pointer (some ⟨bc, 0, none⟩), .pointer (some ⟨bd, 0, none⟩)]] 165 :: (ownR 3 rs ++ I)) 4 ?_
   refine D.step (rs := [0, 1]) (by kernel_rfl) rfl rfl (all2 ?_ (all1 ?_))
   ·refine Step.read rfl (Wanted.plain rfl) rfl rfl (Runs.ld ty50) Fit.sub ?_
    refine D.step (rs := [1]) (by kernel_rfl) rfl rfl (all1 ?_)
    refine Step.read rfl (Wanted.plain rfl) rfl rfl (Runs.move rfl) Fit.sub ?_
    refine D.step (rs := [2]) (by kernel_rfl) rfl rfl (all1 ?_)
    refine Step.eff rfl (Wanted.plain rfl) (Eff.call call69 rfl rfl (MList_ok m (TabRd.fit hT Fit.m))) ?_
    rintro _ _ ⟨_, _, ⟨ad6, cp7, rfl, rfl⟩, rfl, rfl⟩
    refine ⟨Fit.sub, ?_⟩
    refine D.step (rs := [3]) (by kernel_rfl) rfl rfl (all1 ?_)
    refine Step.eff rfl (Wanted.plain rfl) (Eff.bs (α := (RowG Int)) (cs := [_]) (xs := [⟨ad6, cp7, listB m⟩]) Tryd.underlying50 ty22 rfl rfl (by decide) (by decide) rfl rfl rfl rfl) ?_
    rintro _ _ ⟨ad8, rfl, rfl⟩
    refine ⟨Fit.sub, ?_⟩
    refine D.stop (by kernel_rfl) ?_
    refine A.eff (i := 4) (by kernel_rfl) rfl (Wanted.plain rfl) (Eff.app (α := (RowG Int)) (e := 22) (xs := rs) (ys := ([⟨ad6, cp7, listB m⟩] : List (RowG Int))) Tryd.underlying50 ty22 rfl rfl rfl (by repeat (first | exact List.mem_cons_self | apply List.mem_cons_of_mem)) Sl.o (by simp only [List.length_cons, List.length_nil, List.length_append]; omega) (by decide) rfl (fun _ _ => (by repeat (first | exact At.head _ _ _ | apply At.tail)))) ?_
    rintro _ _ ⟨ad9, cp10, rfl, rfl⟩
    refine A.eff (i := 5) (by kernel_rfl) rfl (Wanted.plain rfl) (Eff.st (cs := [_]) (vs := [_]) (cs' := [_]) ty50) ?_
    rintro _ _ ⟨rfl, rfl⟩
    refine A.done (by kernel_rfl) ?_
    refine V.then ?_
    refine W.ret ?_
    refine V.then_ret ?_
    have hdw := div_whole hW hsd3 (by omega) (k := k) (by omega)
    exact V.ret0 rfl (blk br [.slice ra (rowsB nd es).length rc] 106 :: vc 99 (.slice ra (rowsB nd es).length rc) ((rowsB nd es)) :: blk bk [I64 (k)] 3 :: blk bp [.slice ad9 (rs ++ [(⟨ad6, cp7, listB m⟩ : RowG Int)]).length cp10] 50 :: vc 22 (.slice ad9 (rs ++ [(⟨ad6, cp7, listB m⟩ : RowG Int)]).length cp10) (rs ++ [(⟨ad6, cp7, listB m⟩ : RowG Int)]) :: blk bc [.slice ca cs.length cc] 129 :: vc 69 (.slice ca cs.length cc) (cs) :: blk bd [.func (.func 130) #[] #[.pointer (some ⟨br, 0, none⟩), .pointer (some ⟨bk, 0, none⟩), .pointer (some ⟨bp, 0, none⟩), .pointer (some ⟨bc, 0, none⟩), .pointer (some ⟨bd, 0, none⟩)]] 165 :: (ownR 3 (rs ++ [(⟨ad6, cp7, listB m⟩ : RowG Int)]) ++ I)) (Fit.trans (show Fit κ _ ([blk br [.slice ra (rowsB nd es).length rc] 106, vc 99 (.slice ra (rowsB nd es).length rc) ((rowsB nd es)), blk bk [I64 (k)] 3, blk bp [.slice ad9 (rs ++ [(⟨ad6, cp7, listB m⟩ : RowG Int)]).length cp10] 50, vc 22 (.slice ad9 (rs ++ [(⟨ad6, cp7, listB m⟩ : RowG Int)]).length cp10) (rs ++ [(⟨ad6, cp7, listB m⟩ : RowG Int)]), blk bc [.slice ca cs.length cc] 129, vc 69 (.slice ca cs.length cc) (cs), blk bd [.func (.func 130) #[] #[.pointer (some ⟨br, 0, none⟩), .pointer (some ⟨bk, 0, none⟩), .pointer (some ⟨bp, 0, none⟩), .pointer (some ⟨bc, 0, none⟩), .pointer (some ⟨bd, 0, none⟩)]] 165] ++ vc 3 (.slice ad6 (listB m).length cp7) (listB m) :: (ownR 3 rs ++ I)) from (by first | exact Fit.s | exact Fit.sub)) (Fit.ownR_snoc (r := (⟨ad6, cp7, listB m⟩ : RowG Int)))) ⟨ad9, cp10, rs ++ [(⟨ad6, cp7, listB m⟩ : RowG Int)], ca, cc, cs, [(⟨ad6, cp7, listB m⟩ : RowG Int)], rfl, ⟨rfl, hdw, by simp only [List.length_cons, List.length_nil]; omega, by omega⟩, rfl⟩
   ·refine Step.read rfl (Wanted.plain rfl) rfl rfl (Runs.move rfl) Fit.sub ?_
    refine D.step (rs := [0, 2]) (by kernel_rfl) rfl rfl (all2 ?_ (all1 ?_))
    ·refine Step.read rfl (Wanted.plain rfl) rfl rfl (Runs.ld ty50) Fit.sub ?_
     refine D.step (rs := [2]) (by kernel_rfl) rfl rfl (all1 ?_)
     refine Step.eff rfl (Wanted.plain rfl) (Eff.call call69 rfl rfl (MList_ok m (TabRd.fit hT Fit.m))) ?_
     rintro _ _ ⟨_, _, ⟨ad11, cp12, rfl, rfl⟩, rfl, rfl⟩
     refine ⟨Fit.sub, ?_⟩
     refine D.step (rs := [3]) (by kernel_rfl) rfl rfl (all1 ?_)
     refine Step.eff rfl (Wanted.plain rfl) (Eff.bs (α := (RowG Int)) (cs := [_]) (xs := [⟨ad11, cp12, listB m⟩]) Tryd.underlying50 ty22 rfl rfl (by decide) (by decide) rfl rfl rfl rfl) ?_
     rintro _ _ ⟨ad13, rfl, rfl⟩
     refine ⟨Fit.sub, ?_⟩
     refine D.stop (by kernel_rfl) ?_
     refine A.eff (i := 4) (by kernel_rfl) rfl (Wanted.plain rfl) (Eff.app (α := (RowG Int)) (e := 22) (xs := rs) (ys := ([⟨ad11, cp12, listB m⟩] : List (RowG Int))) Tryd.underlying50 ty22 rfl rfl rfl (by repeat (first | exact List.mem_cons_self | apply List.mem_cons_of_mem)) Sl.o (by simp only [List.length_cons, List.length_nil, List.length_append]; omega) (by decide) rfl (fun _ _ => (by repeat (first | exact At.head _ _ _ | apply At.tail)))) ?_
     rintro _ _ ⟨ad14, cp15, rfl, rfl⟩
     refine A.eff (i := 5) (by kernel_rfl) rfl (Wanted.plain rfl) (Eff.st (cs := [_]) (vs := [_]) (cs' := [_]) ty50) ?_
     rintro _ _ ⟨rfl, rfl⟩
     refine A.done (by kernel_rfl) ?_
     refine V.then ?_
     refine W.ret ?_
     refine V.then_ret ?_
     have hdw := div_whole hW hsd3 (by omega) (k := k) (by omega)
     exact V.ret0 rfl (blk br [.slice ra (rowsB nd es).length rc] 106 :: vc 99 (.slice ra (rowsB nd es).length rc) ((rowsB nd es)) :: blk bk [I64 (k)] 3 :: blk bp [.slice ad14 (rs ++ [(⟨ad11, cp12, listB m⟩ : RowG Int)]).length cp15] 50 :: vc 22 (.slice ad14 (rs ++ [(⟨ad11, cp12, listB m⟩ : RowG Int)]).length cp15) (rs ++ [(⟨ad11, cp12, listB m⟩ : RowG Int)]) :: blk bc [.slice ca cs.length cc] 129 :: vc 69 (.slice ca cs.length cc) (cs) :: blk bd [.func (.func 130) #[] #[.pointer (some ⟨br, 0, none⟩), .pointer (some ⟨bk, 0, none⟩), .pointer (some ⟨bp, 0, none⟩), .pointer (some ⟨bc, 0, none⟩), .pointer (some ⟨bd, 0, none⟩)]] 165 :: (ownR 3 (rs ++ [(⟨ad11, cp12, listB m⟩ : RowG Int)]) ++ I)) (Fit.trans (show Fit κ _ ([blk br [.slice ra (rowsB nd es).length rc] 106, vc 99 (.slice ra (rowsB nd es).length rc) ((rowsB nd es)), blk bk [I64 (k)] 3, blk bp [.slice ad14 (rs ++ [(⟨ad11, cp12, listB m⟩ : RowG Int)]).length cp15] 50, vc 22 (.slice ad14 (rs ++ [(⟨ad11, cp12, listB m⟩ : RowG Int)]).length cp15) (rs ++ [(⟨ad11, cp12, listB m⟩ : RowG Int)]), blk bc [.slice ca cs.length cc] 129, vc 69 (.slice ca cs.length cc) (cs), blk bd [.func (.func 130) #[] #[.pointer (some ⟨br, 0, none⟩), .pointer (some ⟨bk, 0, none⟩), .pointer (some ⟨bp, 0, none⟩), .pointer (some ⟨bc, 0, none⟩), .pointer (some ⟨bd, 0, none⟩)]] 165] ++ vc 3 (.slice ad11 (listB m).length cp12) (listB m) :: (ownR 3 rs ++ I)) from (by first | exact Fit.s | exact Fit.sub)) (Fit.ownR_snoc (r := (⟨ad11, cp12, listB m⟩ : RowG Int)))) ⟨ad14, cp15, rs ++ [(⟨ad11, cp12, listB m⟩ : RowG Int)], ca, cc, cs, [(⟨ad11, cp12, listB m⟩ : RowG Int)], rfl, ⟨rfl, hdw, by simp only [List.length_cons, List.length_nil]; omega, by omega⟩, rfl⟩
    ·refine Step.eff rfl (Wanted.plain rfl) (Eff.call call69 rfl rfl (MList_ok m (TabRd.fit hT Fit.m))) ?_
     rintro _ _ ⟨_, _, ⟨ad16, cp17, rfl, rfl⟩, rfl, rfl⟩
     refine ⟨Fit.sub, ?_⟩
     refine D.step (rs := [0, 3]) (by kernel_rfl) rfl rfl (all2 ?_ (all1 ?_))
     ·refine Step.read rfl (Wanted.plain rfl) rfl rfl (Runs.ld ty50) Fit.sub ?_
      refine D.step (rs := [3]) (by kernel_rfl) rfl rfl (all1 ?_)
      refine Step.eff rfl (Wanted.plain rfl) (Eff.bs (α := (RowG Int)) (cs := [_]) (xs := [⟨ad16, cp17, listB m⟩]) Tryd.underlying50 ty22 rfl rfl (by decide) (by decide) rfl rfl rfl rfl) ?_
      rintro _ _ ⟨ad18, rfl, rfl⟩
      refine ⟨Fit.sub, ?_⟩
      refine D.stop (by kernel_rfl) ?_
      refine A.eff (i := 4) (by kernel_rfl) rfl (Wanted.plain rfl) (Eff.app (α := (RowG Int)) (e := 22) (xs := rs) (ys := ([⟨ad16, cp17, listB m⟩] : List (RowG Int))) Tryd.underlying50 ty22 rfl rfl rfl (by repeat (first | exact List.mem_cons_self | apply List.mem_cons_of_mem)) Sl.o (by simp only [List.length_cons, List.length_nil, List.length_append]; omega) (by decide) rfl (fun _ _ => (by repeat (first | exact At.head _ _ _ | apply At.tail)))) ?_
      rintro _ _ ⟨ad19, cp20, rfl, rfl⟩
      refine A.eff (i := 5) (by kernel_rfl) rfl (Wanted.plain rfl) (Eff.st (cs := [_]) (vs := [_]) (cs' := [_]) ty50) ?_
      rintro _ _ ⟨rfl, rfl⟩
      refine A.done (by kernel_rfl) ?_
      refine V.then ?_
      refine W.ret ?_
      refine V.then_ret ?_
      have hdw := div_whole hW hsd3 (by omega) (k := k) (by omega)
      exact V.ret0 rfl (blk br [.slice ra (rowsB nd es).length rc] 106 :: vc 99 (.slice ra (rowsB nd es).length rc) ((rowsB nd es)) :: blk bk [I64 (k)] 3 :: blk bp [.slice ad19 (rs ++ [(⟨ad16, cp17, listB m⟩ : RowG Int)]).length cp20] 50 :: vc 22 (.slice ad19 (rs ++ [(⟨ad16, cp17, listB m⟩ : RowG Int)]).length cp20) (rs ++ [(⟨ad16, cp17, listB m⟩ : RowG Int)]) :: blk bc [.slice ca cs.length cc] 129 :: vc 69 (.slice ca cs.length cc) (cs) :: blk bd [.func (.func 130) #[] #[.pointer (some ⟨br, 0, none⟩), .pointer (some ⟨bk, 0, none⟩), .pointer (some ⟨bp, 0, none⟩), .pointer (some ⟨bc, 0, none⟩), .pointer (some ⟨bd, 0, none⟩)]] 165 :: (ownR 3 (rs ++ [(⟨ad16, cp17, listB m⟩ : RowG Int)]) ++ I)) (Fit.trans (show Fit κ _ ([blk br [.slice ra (rowsB nd es).length rc] 106, vc 99 (.slice ra (rowsB nd es).length rc) ((rowsB nd es)), blk bk [I64 (k)] 3, blk bp [.slice ad19 (rs ++ [(⟨ad16, cp17, listB m⟩ : RowG Int)]).length cp20] 50, vc 22 (.slice ad19 (rs ++ [(⟨ad16, cp17, listB m⟩ : RowG Int)]).length cp20) (rs ++ [(⟨ad16, cp17, listB m⟩ : RowG Int)]), blk bc [.slice ca cs.length cc] 129, vc 69 (.slice ca cs.length cc) (cs), blk bd [.func (.func 130) #[] #[.pointer (some ⟨br, 0, none⟩), .pointer (some ⟨bk, 0, none⟩), .pointer (some ⟨bp, 0, none⟩), .pointer (some ⟨bc, 0, none⟩), .pointer (some ⟨bd, 0, none⟩)]] 165] ++ vc 3 (.slice ad16 (listB m).length cp17) (listB m) :: (ownR 3 rs ++ I)) from (by first | exact Fit.s | exact Fit.sub)) (Fit.ownR_snoc (r := (⟨ad16, cp17, listB m⟩ : RowG Int)))) ⟨ad19, cp20, rs ++ [(⟨ad16, cp17, listB m⟩ : RowG Int)], ca, cc, cs, [(⟨ad16, cp17, listB m⟩ : RowG Int)], rfl, ⟨rfl, hdw, by simp only [List.length_cons, List.length_nil]; omega, by omega⟩, rfl⟩
     ·refine Step.eff rfl (Wanted.plain rfl) (Eff.bs (α := (RowG Int)) (cs := [_]) (xs := [⟨ad16, cp17, listB m⟩]) Tryd.underlying50 ty22 rfl rfl (by decide) (by decide) rfl rfl rfl rfl) ?_
      rintro _ _ ⟨ad21, rfl, rfl⟩
      refine ⟨Fit.sub, ?_⟩
      refine D.step (rs := [0]) (by kernel_rfl) rfl rfl (all1 ?_)
      refine Step.read rfl (Wanted.plain rfl) rfl rfl (Runs.ld ty50) Fit.sub ?_
      refine D.stop (by kernel_rfl) ?_
      refine A.eff (i := 4) (by kernel_rfl) rfl (Wanted.plain rfl) (Eff.app (α := (RowG Int)) (e := 22) (xs := rs) (ys := ([⟨ad16, cp17, listB m⟩] : List (RowG Int))) Tryd.underlying50 ty22 rfl rfl rfl (by repeat (first | exact List.mem_cons_self | apply List.mem_cons_of_mem)) Sl.o (by simp only [List.length_cons, List.length_nil, List.length_append]; omega) (by decide) rfl (fun _ _ => (by repeat (first | exact At.head _ _ _ | apply At.tail)))) ?_
      rintro _ _ ⟨ad22, cp23, rfl, rfl⟩
      refine A.eff (i := 5) (by kernel_rfl) rfl (Wanted.plain rfl) (Eff.st (cs := [_]) (vs := [_]) (cs' := [_]) ty50) ?_
      rintro _ _ ⟨rfl, rfl⟩
      refine A.done (by kernel_rfl) ?_
      refine V.then ?_
      refine W.ret ?_
      refine V.then_ret ?_
      have hdw := div_whole hW hsd3 (by omega) (k := k) (by omega)
      exact V.ret0 rfl (blk br [.slice ra (rowsB nd es).length rc] 106 :: vc 99 (.slice ra (rowsB nd es).length rc) ((rowsB nd es)) :: blk bk [I64 (k)] 3 :: blk bp [.slice ad22 (rs ++ [(⟨ad16, cp17, listB m⟩ : RowG Int)]).length cp23] 50 :: vc 22 (.slice ad22 (rs ++ [(⟨ad16, cp17, listB m⟩ : RowG Int)]).length cp23) (rs ++ [(⟨ad16, cp17, listB m⟩ : RowG Int)]) :: blk bc [.slice ca cs.length cc] 129 :: vc 69 (.slice ca cs.length cc) (cs) :: blk bd [.func (.func 130) #[] #[.pointer (some ⟨br, 0, none⟩), .pointer (some ⟨bk, 0, none⟩), .pointer (some ⟨bp, 0, none⟩), .pointer (some ⟨bc, 0, none⟩), .pointer (some ⟨bd, 0, none⟩)]] 165 :: (ownR 3 (rs ++ [(⟨ad16, cp17, listB m⟩ : RowG Int)]) ++ I)) (Fit.trans (show Fit κ _ ([blk br [.slice ra (rowsB nd es).length rc] 106, vc 99 (.slice ra (rowsB nd es).length rc) ((rowsB nd es)), blk bk [I64 (k)] 3, blk bp [.slice ad22 (rs ++ [(⟨ad16, cp17, listB m⟩ : RowG Int)]).length cp23] 50, vc 22 (.slice ad22 (rs ++ [(⟨ad16, cp17, listB m⟩ : RowG Int)]).length cp23) (rs ++ [(⟨ad16, cp17, listB m⟩ : RowG Int)]), blk bc [.slice ca cs.length cc] 129, vc 69 (.slice ca cs.length cc) (cs), blk bd [.func (.func 130) #[] #[.pointer (some ⟨br, 0, none⟩), .pointer (some ⟨bk, 0, none⟩), .pointer (some ⟨bp, 0, none⟩), .pointer (some ⟨bc, 0, none⟩), .pointer (some ⟨bd, 0, none⟩)]] 165] ++ vc 3 (.slice ad16 (listB m).length cp17) (listB m) :: (ownR 3 rs ++ I)) from (by first | exact Fit.s | exact Fit.sub)) (Fit.ownR_snoc (r := (⟨ad16, cp17, listB m⟩ : RowG Int)))) ⟨ad22, cp23, rs ++ [(⟨ad16, cp17, listB m⟩ : RowG Int)], ca, cc, cs, [(⟨ad16, cp17, listB m⟩ : RowG Int)], rfl, ⟨rfl, hdw, by simp only [List.length_cons, List.length_nil]; omega, by omega⟩, rfl⟩
  ·refine W.skip ?_
   refine V.then ?_
   refine W.sr ?_
   refine G.r (Runs.ld ty129) ?_
   refine G.r (Runs.lds (vs := [_, _]) ty69) ?_
   refine G.e (Eff.bs (α := CtV) (cs := [_, _]) (xs := [⟨ad1, sd3.length, cp2, vl4⟩]) Tryd.underlying129 ty69 rfl rfl (by decide) (by decide) rfl rfl rfl rfl) ?_
   rintro _ _ ⟨ad24, rfl, rfl⟩
   refine G.e (Eff.app (α := CtV) (e := 69) (xs := cs) (ys := ([⟨ad1, sd3.length, cp2, vl4⟩] : List CtV)) Tryd.underlying129 ty69 rfl rfl rfl (by repeat (first | exact List.mem_cons_self | apply List.mem_cons_of_mem)) Sl.o (by simp only [List.length_cons, List.length_nil, List.length_append]; omega) (by decide) rfl (fun _ _ => (by repeat (first | exact At.head _ _ _ | apply At.tail)))) ?_
   rintro _ _ ⟨ad25, cp26, rfl, rfl⟩
   refine G.e (Eff.st (cs := [_]) (vs := [_]) (cs' := [_]) ty129) ?_
   rintro _ _ ⟨rfl, rfl⟩
   refine G.nt ?_
   refine W.sr ?_
   refine G.r (Runs.fieldAddr fld69_0 rfl) ?_
   refine G.r (Runs.ld ty22) ?_
   refine G.e (Eff.call call76 rfl rfl (MaskOf_ok Sl.o)) ?_
   rintro _ _ ⟨_, _, ⟨rfl, rfl⟩, rfl, rfl⟩
   refine G.r (Runs.assign rfl) ?_
   have hds := div_cut hn64 hsd3 (by omega)
   refine G.nt ?_
   refine W.sub (L' := [(8, _), (0, _), (5, _)]) (Sub.cons rfl (Sub.cons rfl (Sub.cons rfl Sub.nil))) ?_
   refine W.sr ?_
   refine G.r (Runs.ld ty165) ?_
   refine G.r (Runs.move rfl) ?_
   refine G.e (Eff.callv (first := []) (caps := [.pointer (some ⟨br, 0, none⟩), .pointer (some ⟨bk, 0, none⟩), .pointer (some ⟨bp, 0, none⟩), .pointer (some ⟨bc, 0, none⟩), .pointer (some ⟨bd, 0, none⟩)]) call130 rfl rfl rfl (CallS.fit (show Fit κ _ (blk br [.slice ra (rowsB nd es).length rc] 106 :: vc 99 (.slice ra (rowsB nd es).length rc) ((rowsB nd es)) :: blk bk [I64 (k)] 3 :: blk bp [.slice pa rs.length pc] 50 :: vc 22 (.slice pa rs.length pc) (rs) :: blk bc [.slice ad25 (cs ++ ([⟨ad1, sd3.length, cp2, vl4⟩] : List CtV)).length cp26] 129 :: vc 69 (.slice ad25 (cs ++ ([⟨ad1, sd3.length, cp2, vl4⟩] : List CtV)).length cp26) (cs ++ ([⟨ad1, sd3.length, cp2, vl4⟩] : List CtV)) :: blk bd [.func (.func 130) #[] #[.pointer (some ⟨br, 0, none⟩), .pointer (some ⟨bk, 0, none⟩), .pointer (some ⟨bp, 0, none⟩), .pointer (some ⟨bc, 0, none⟩), .pointer (some ⟨bd, 0, none⟩)]] 165 :: (ownR 3 rs ++ (vc 69 (.slice ad24 1 1) (([⟨ad1, sd3.length, cp2, vl4⟩] : List CtV)) :: blk b5 [.slice ad1 sd3.length cp2, I64 (vl4)] 69 :: vc 3 (.slice ad1 sd3.length cp2) (sd3) :: I))) from (Fit.trans (show Fit κ _ (blk br [.slice ra (rowsB nd es).length rc] 106 :: vc 99 (.slice ra (rowsB nd es).length rc) ((rowsB nd es)) :: blk bk [I64 (k)] 3 :: blk bp [.slice pa rs.length pc] 50 :: vc 22 (.slice pa rs.length pc) (rs) :: blk bc [.slice ad25 (cs ++ ([⟨ad1, sd3.length, cp2, vl4⟩] : List CtV)).length cp26] 129 :: vc 69 (.slice ad25 (cs ++ ([⟨ad1, sd3.length, cp2, vl4⟩] : List CtV)).length cp26) (cs ++ ([⟨ad1, sd3.length, cp2, vl4⟩] : List CtV)) :: blk bd [.func (.func 130) #[] #[.pointer (some ⟨br, 0, none⟩), .pointer (some ⟨bk, 0, none⟩), .pointer (some ⟨bp, 0, none⟩), .pointer (some ⟨bc, 0, none⟩), .pointer (some ⟨bd, 0, none⟩)]] 165 :: vc 69 (.slice ad24 1 1) (([⟨ad1, sd3.length, cp2, vl4⟩] : List CtV)) :: blk b5 [.slice ad1 sd3.length cp2, I64 (vl4)] 69 :: vc 3 (.slice ad1 sd3.length cp2) (sd3) :: (ownR 3 rs ++ I)) from Fit.s) (by have hfi := Fit.into (κ := κ) (A := [blk br [.slice ra (rowsB nd es).length rc] 106, vc 99 (.slice ra (rowsB nd es).length rc) ((rowsB nd es)), blk bk [I64 (k)] 3, blk bp [.slice pa rs.length pc] 50, vc 22 (.slice pa rs.length pc) (rs), blk bc [.slice ad25 (cs ++ ([⟨ad1, sd3.length, cp2, vl4⟩] : List CtV)).length cp26] 129, vc 69 (.slice ad25 (cs ++ ([⟨ad1, sd3.length, cp2, vl4⟩] : List CtV)).length cp26) (cs ++ ([⟨ad1, sd3.length, cp2, vl4⟩] : List CtV)), blk bd [.func (.func 130) #[] #[.pointer (some ⟨br, 0, none⟩), .pointer (some ⟨bk, 0, none⟩), .pointer (some ⟨bp, 0, none⟩), .pointer (some ⟨bc, 0, none⟩), .pointer (some ⟨bd, 0, none⟩)]] 165]) (R := [vc 69 (.slice ad24 1 1) (([⟨ad1, sd3.length, cp2, vl4⟩] : List CtV)), blk b5 [.slice ad1 sd3.length cp2, I64 (vl4)] 69, vc 3 (.slice ad1 sd3.length cp2) (sd3)]) (B := ownR 3 rs) (I := I); simp only [List.cons_append, List.nil_append] at hfi; exact hfi))) (ih (by omega) (vc 69 (.slice ad24 1 1) (([⟨ad1, sd3.length, cp2, vl4⟩] : List CtV)) :: blk b5 [.slice ad1 sd3.length cp2, I64 (vl4)] 69 :: vc 3 (.slice ad1 sd3.length cp2) (sd3) :: I) (maskB sd3) pa pc rs ad25 cp26 (cs ++ ([⟨ad1, sd3.length, cp2, vl4⟩] : List CtV)) (by omega) (fun x hx => hW x (by first | exact hds.2.2.2.2.1 x hx | exact hds.2.2.2.2.2 x hx)) (by omega) (by first | omega | (simp only [List.length_cons, List.length_nil, List.length_append]; omega)) (TabRd.fit hT Fit.m)))) ?_
   rintro _ _ ⟨_, _, ⟨pa27, pc28, rn29, ca30, cc31, cn32, Q33, rfl, ⟨h1Q33, h2Q33, h3Q33, h4Q33⟩, rfl⟩, rfl, rfl⟩
   refine G.fit (J := blk br [.slice ra (rowsB nd es).length rc] 106 :: vc 99 (.slice ra (rowsB nd es).length rc) ((rowsB nd es)) :: blk bk [I64 (k)] 3 :: blk bp [.slice pa27 rn29.length pc28] 50 :: vc 22 (.slice pa27 rn29.length pc28) (rn29) :: blk bc [.slice ca30 cn32.length cc31] 129 :: vc 69 (.slice ca30 cn32.length cc31) (cn32) :: blk bd [.func (.func 130) #[] #[.pointer (some ⟨br, 0, none⟩), .pointer (some ⟨bk, 0, none⟩), .pointer (some ⟨bp, 0, none⟩), .pointer (some ⟨bc, 0, none⟩), .pointer (some ⟨bd, 0, none⟩)]] 165 :: vc 69 (.slice ad24 1 1) (([⟨ad1, sd3.length, cp2, vl4⟩] : List CtV)) :: blk b5 [.slice ad1 sd3.length cp2, I64 (vl4)] 69 :: vc 3 (.slice ad1 sd3.length cp2) (sd3) :: (ownR 3 rn29 ++ I)) (by have hfo := Fit.outof (κ := κ) (A := [blk br [.slice ra (rowsB nd es).length rc] 106, vc 99 (.slice ra (rowsB nd es).length rc) ((rowsB nd es)), blk bk [I64 (k)] 3, blk bp [.slice pa27 rn29.length pc28] 50, vc 22 (.slice pa27 rn29.length pc28) (rn29), blk bc [.slice ca30 cn32.length cc31] 129, vc 69 (.slice ca30 cn32.length cc31) (cn32), blk bd [.func (.func 130) #[] #[.pointer (some ⟨br, 0, none⟩), .pointer (some ⟨bk, 0, none⟩), .pointer (some ⟨bp, 0, none⟩), .pointer (some ⟨bc, 0, none⟩), .pointer (some ⟨bd, 0, none⟩)]] 165]) (R := [vc 69 (.slice ad24 1 1) (([⟨ad1, sd3.length, cp2, vl4⟩] : List CtV)), blk b5 [.slice ad1 sd3.length cp2, I64 (vl4)] 69, vc 3 (.slice ad1 sd3.length cp2) (sd3)]) (B := ownR 3 rn29) (I := I); simp only [List.cons_append, List.nil_append] at hfo; exact hfo) ?_
   have h5Q33 : rn29.length = rs.length + Q33.length := by rw [h1Q33, List.length_append]
   try simp only [List.length_append, List.length_cons, List.length_nil] at h5Q33
   try simp only [List.length_append, List.length_cons, List.length_nil] at h4Q33
   refine G.nt ?_
   refine W.region ?_
   refine G.r (Runs.ld ty165) ?_
   refine G.r (Runs.move rfl) ?_
   refine G.r (Runs.move rfl) ?_
   refine G.r (Runs.andNotB (a := m) (b := maskB sd3) rfl rfl) ?_
   refine G.e (Eff.callv (first := []) (caps := [.pointer (some ⟨br, 0, none⟩), .pointer (some ⟨bk, 0, none⟩), .pointer (some ⟨bp, 0, none⟩), .pointer (some ⟨bc, 0, none⟩), .pointer (some ⟨bd, 0, none⟩)]) call130 rfl rfl rfl (CallS.fit (show Fit κ _ (blk br [.slice ra (rowsB nd es).length rc] 106 :: vc 99 (.slice ra (rowsB nd es).length rc) ((rowsB nd es)) :: blk bk [I64 (k)] 3 :: blk bp [.slice pa27 rn29.length pc28] 50 :: vc 22 (.slice pa27 rn29.length pc28) (rn29) :: blk bc [.slice ca30 cn32.length cc31] 129 :: vc 69 (.slice ca30 cn32.length cc31) (cn32) :: blk bd [.func (.func 130) #[] #[.pointer (some ⟨br, 0, none⟩), .pointer (some ⟨bk, 0, none⟩), .pointer (some ⟨bp, 0, none⟩), .pointer (some ⟨bc, 0, none⟩), .pointer (some ⟨bd, 0, none⟩)]] 165 :: (ownR 3 rn29 ++ (vc 69 (.slice ad24 1 1) (([⟨ad1, sd3.length, cp2, vl4⟩] : List CtV)) :: blk b5 [.slice ad1 sd3.length cp2, I64 (vl4)] 69 :: vc 3 (.slice ad1 sd3.length cp2) (sd3) :: I))) from (Fit.trans (show Fit κ _ (blk br [.slice ra (rowsB nd es).length rc] 106 :: vc 99 (.slice ra (rowsB nd es).length rc) ((rowsB nd es)) :: blk bk [I64 (k)] 3 :: blk bp [.slice pa27 rn29.length pc28] 50 :: vc 22 (.slice pa27 rn29.length pc28) (rn29) :: blk bc [.slice ca30 cn32.length cc31] 129 :: vc 69 (.slice ca30 cn32.length cc31) (cn32) :: blk bd [.func (.func 130) #[] #[.pointer (some ⟨br, 0, none⟩), .pointer (some ⟨bk, 0, none⟩), .pointer (some ⟨bp, 0, none⟩), .pointer (some ⟨bc, 0, none⟩), .pointer (some ⟨bd, 0, none⟩)]] 165 :: vc 69 (.slice ad24 1 1) (([⟨ad1, sd3.length, cp2, vl4⟩] : List CtV)) :: blk b5 [.slice ad1 sd3.length cp2, I64 (vl4)] 69 :: vc 3 (.slice ad1 sd3.length cp2) (sd3) :: (ownR 3 rn29 ++ I)) from Fit.s) (by have hfi := Fit.into (κ := κ) (A := [blk br [.slice ra (rowsB nd es).length rc] 106, vc 99 (.slice ra (rowsB nd es).length rc) ((rowsB nd es)), blk bk [I64 (k)] 3, blk bp [.slice pa27 rn29.length pc28] 50, vc 22 (.slice pa27 rn29.length pc28) (rn29), blk bc [.slice ca30 cn32.length cc31] 129, vc 69 (.slice ca30 cn32.length cc31) (cn32), blk bd [.func (.func 130) #[] #[.pointer (some ⟨br, 0, none⟩), .pointer (some ⟨bk, 0, none⟩), .pointer (some ⟨bp, 0, none⟩), .pointer (some ⟨bc, 0, none⟩), .pointer (some ⟨bd, 0, none⟩)]] 165]) (R := [vc 69 (.slice ad24 1 1) (([⟨ad1, sd3.length, cp2, vl4⟩] : List CtV)), blk b5 [.slice ad1 sd3.length cp2, I64 (vl4)] 69, vc 3 (.slice ad1 sd3.length cp2) (sd3)]) (B := ownR 3 rn29) (I := I); simp only [List.cons_append, List.nil_append] at hfi; exact hfi))) (ih (by omega) (vc 69 (.slice ad24 1 1) (([⟨ad1, sd3.length, cp2, vl4⟩] : List CtV)) :: blk b5 [.slice ad1 sd3.length cp2, I64 (vl4)] 69 :: vc 3 (.slice ad1 sd3.length cp2) (sd3) :: I) (m &&& ~~~(maskB sd3)) pa27 pc28 rn29 ca30 cc31 cn32 (by omega) (fun x hx => hW x (by first | exact hds.2.2.2.2.1 x hx | exact hds.2.2.2.2.2 x hx)) (by omega) (by first | omega | (simp only [List.length_cons, List.length_nil, List.length_append]; omega)) (TabRd.fit hT Fit.m)))) ?_
   rintro _ _ ⟨_, _, ⟨pa34, pc35, rn36, ca37, cc38, cn39, Q40, rfl, ⟨h1Q40, h2Q40, h3Q40, h4Q40⟩, rfl⟩, rfl, rfl⟩
   refine G.fit (J := blk br [.slice ra (rowsB nd es).length rc] 106 :: vc 99 (.slice ra (rowsB nd es).length rc) ((rowsB nd es)) :: blk bk [I64 (k)] 3 :: blk bp [.slice pa34 rn36.length pc35] 50 :: vc 22 (.slice pa34 rn36.length pc35) (rn36) :: blk bc [.slice ca37 cn39.length cc38] 129 :: vc 69 (.slice ca37 cn39.length cc38) (cn39) :: blk bd [.func (.func 130) #[] #[.pointer (some ⟨br, 0, none⟩), .pointer (some ⟨bk, 0, none⟩), .pointer (some ⟨bp, 0, none⟩), .pointer (some ⟨bc, 0, none⟩), .pointer (some ⟨bd, 0, none⟩)]] 165 :: vc 69 (.slice ad24 1 1) (([⟨ad1, sd3.length, cp2, vl4⟩] : List CtV)) :: blk b5 [.slice ad1 sd3.length cp2, I64 (vl4)] 69 :: vc 3 (.slice ad1 sd3.length cp2) (sd3) :: (ownR 3 rn36 ++ I)) (by have hfo := Fit.outof (κ := κ) (A := [blk br [.slice ra (rowsB nd es).length rc] 106, vc 99 (.slice ra (rowsB nd es).length rc) ((rowsB nd es)), blk bk [I64 (k)] 3, blk bp [.slice pa34 rn36.length pc35] 50, vc 22 (.slice pa34 rn36.length pc35) (rn36), blk bc [.slice ca37 cn39.length cc38] 129, vc 69 (.slice ca37 cn39.length cc38) (cn39), blk bd [.func (.func 130) #[] #[.pointer (some ⟨br, 0, none⟩), .pointer (some ⟨bk, 0, none⟩), .pointer (some ⟨bp, 0, none⟩), .pointer (some ⟨bc, 0, none⟩), .pointer (some ⟨bd, 0, none⟩)]] 165]) (R := [vc 69 (.slice ad24 1 1) (([⟨ad1, sd3.length, cp2, vl4⟩] : List CtV)), blk b5 [.slice ad1 sd3.length cp2, I64 (vl4)] 69, vc 3 (.slice ad1 sd3.length cp2) (sd3)]) (B := ownR 3 rn36) (I := I); simp only [List.cons_append, List.nil_append] at hfo; exact hfo) ?_
   have h5Q40 : rn36.length = rn29.length + Q40.length := by rw [h1Q40, List.length_append]
   try simp only [List.length_append, List.length_cons, List.length_nil] at h5Q40
   try simp only [List.length_append, List.length_cons, List.length_nil] at h4Q40
   refine G.nil ?_
   have hdj := div_join hn64 hsd3 (by omega) (k := k) (by omega) h2Q33 h2Q40
   rw [← List.map_append] at hdj
   exact V.end0 rfl (blk br [.slice ra (rowsB nd es).length rc] 106 :: vc 99 (.slice ra (rowsB nd es).length rc) ((rowsB nd es)) :: blk bk [I64 (k)] 3 :: blk bp [.slice pa34 rn36.length pc35] 50 :: vc 22 (.slice pa34 rn36.length pc35) (rn36) :: blk bc [.slice ca37 cn39.length cc38] 129 :: vc 69 (.slice ca37 cn39.length cc38) (cn39) :: blk bd [.func (.func 130) #[] #[.pointer (some ⟨br, 0, none⟩), .pointer (some ⟨bk, 0, none⟩), .pointer (some ⟨bp, 0, none⟩), .pointer (some ⟨bc, 0, none⟩), .pointer (some ⟨bd, 0, none⟩)]] 165 :: (ownR 3 rn36 ++ I)) (by first | exact Fit.s | exact Fit.sub) ⟨pa34, pc35, rn36, ca37, cc38, cn39, Q33 ++ Q40, rfl, ⟨by rw [h1Q40, h1Q33, List.append_assoc], hdj, by rw [List.length_append]; omega, by omega⟩, rfl⟩

theorem div_all {κ : Ctx} {br bk bp bc bd : Nat} {ra : Option Addr} {rc : Nat} {nd k : Int} {es : List Pt} (hG : GrOk nd es) : ∀ n, DivC κ br bk bp bc bd ra rc nd k es n := fun n => by
  induction n with
  | zero => exact fun I m pa pc rs ca cc cs hn hW hr hc hT => Div_step hG (fun h => absurd h (by omega)) hW hr hc hT
  | succ n ihn => exact fun I m pa pc rs ca cc cs hn hW hr hc hT => Div_step hG (fun h => fun I' m' pa' pc' rs' ca' cc' cs' hn' => ihn I' m' pa' pc' rs' ca' cc' cs' (by omega)) hW hr hc hT
theorem SortP_ok {κ : Ctx} {I : List Item} {ad : Option Addr} {c : Nat} {rs : List (RowG Int)} (hh : HeldAll κ I rs) (hsz : rs.length < 1000000000) :
    CallS Tryd.prog κ 131 [.slice ad rs.length c, .func (.func 132) #[] #[]] (vc 22 (.slice ad rs.length c) rs :: I) fun r J => ∃ ys : List (RowG Int), (r = .tuple #[] ∧ ys.Perm rs ∧ ys.Pairwise fun a b => ¬ cmpL b.xs a.xs < 0) ∧ J = [] ++ vc 22 (.slice ad ys.length c) ys :: I :=
  (sort_rows (ρ := Tryd.sort131_ren) Tryd.sort131 Tryd.isAgg22 Tryd.sizeOf22 cmpL swo_cmpL 132 (enters_of Tryd.func132 (by kernel_rfl) rfl) hh (fun κ' J x hx y hy h1 h2 => NCmp_ok h1 h2) (by omega)).mono fun r J ⟨ys, ⟨h1, h2, h3⟩, h4⟩ =>
    ⟨ys, ⟨h1, h2, h3.imp fun {a b} h => of_decide_eq_false h⟩, h4⟩

end Go.Sl
namespace Go.Sl
open Go.Proofs
set_option linter.unusedVariables false
set_option linter.unusedSimpArgs false
set_option maxRecDepth 4000
theorem div_sorted {nd k : Int} {es : List Pt} {W : List Int} {rs Q ys : List (RowG Int)} (h : DivP nd k es W (Q.map RowG.xs)) (e : rs = Q) (hp : ys.Perm rs) (hs : ys.Pairwise fun a b => ¬ cmpL b.xs a.xs < 0) : DivP nd k es W (ys.map RowG.xs) ∧ ((ys.map RowG.xs).Pairwise fun a b => at_ a 0 < at_ b 0) := by
  subst e
  have h1 := h.perm (hp.map RowG.xs)
  exact ⟨h1, sorted_heads (fun p hp => by have := (h1.valid p hp).2.1; omega) h1.disj (List.pairwise_map.2 hs)⟩

set_option maxHeartbeats 2000000 in
theorem Divided_ok {κ : Ctx} {I : List Item} {nd k : Int} {va : Value} {es : List Pt} (hl : Sl κ I va es) (hG : GrOk nd es) (hT : TabRd κ I 0 tzCells) :
    CallS Tryd.prog κ 98 [.agg #[I64 (nd), va], I64 (k)] I (fun r J => ∃ a c ys cv, r = .tuple #[.slice a ys.length c, cv] ∧ (DivP nd k es (listB (allB nd)) (ys.map RowG.xs) ∧ ((ys.map RowG.xs).Pairwise fun a b => at_ a 0 < at_ b 0) ∧ ys.length ≤ 64) ∧ J = vc 22 (.slice a ys.length c) ys :: (ownR 3 ys ++ I)) := by
 refine CallS.enter (L := [(0, .agg #[I64 (nd), va]), (1, I64 (k))]) Tryd.func98 rfl rfl rfl rfl ?_
 refine W.sr ?_
 refine G.e (Eff.box (cs := [_, _]) rfl rfl rfl) ?_
 rintro _ _ ⟨b1, rfl, rfl⟩
 refine G.e (Eff.box (cs := [_]) rfl rfl rfl) ?_
 rintro _ _ ⟨b2, rfl, rfl⟩
 refine G.e (Eff.alloc ty50 rfl) ?_
 rintro _ _ ⟨b3, rfl, rfl⟩
 refine G.e (Eff.alloc ty129 rfl) ?_
 rintro _ _ ⟨b4, rfl, rfl⟩
 refine G.nt ?_
 refine W.sr ?_
 refine G.r (Runs.lds (vs := [_, _]) ty25) ?_
 refine G.e (Eff.call call75 rfl rfl (MRows_ok (nd := nd) (Sl.f hl))) ?_
 rintro _ _ ⟨_, _, ⟨ad5, cp6, rfl, rfl⟩, rfl, rfl⟩
 have hrwad5 := rowsB_len nd es
 refine G.e (Eff.alloc ty106 rfl) ?_
 rintro _ _ ⟨b7, rfl, rfl⟩
 refine G.e (Eff.st (cs := [_]) (vs := [_]) (cs' := [_]) ty106) ?_
 rintro _ _ ⟨rfl, rfl⟩
 refine G.nt ?_
 refine W.sr ?_
 refine G.e (Eff.alloc ty165 rfl) ?_
 rintro _ _ ⟨b8, rfl, rfl⟩
 refine G.nt ?_
 refine W.sr ?_
 refine G.r (Runs.makeFunc rfl rfl) ?_
 refine G.e (Eff.st (cs := [_]) (vs := [_]) (cs' := [_]) ty165) ?_
 rintro _ _ ⟨rfl, rfl⟩
 refine G.nt ?_
 refine W.seq ?_
 refine W.drawn mixed ?_
 refine A.hold (blk b8 [.func (.func 130) #[] #[.pointer (some ⟨b7, 0, none⟩), .pointer (some ⟨b2, 0, none⟩), .pointer (some ⟨b3, 0, none⟩), .pointer (some ⟨b4, 0, none⟩), .pointer (some ⟨b8, 0, none⟩)]] 165 :: blk b1 [I64 (nd), va] 25 :: I) 5 ?_
 refine D.r 0 rfl (Runs.ld ty165) ?_ (hJ := Fit.sub)
 refine D.r 1 rfl (Runs.fieldAddr fld25_0 rfl) ?_ (hJ := Fit.sub)
 refine D.r 2 rfl (Runs.ld ty3) ?_ (hJ := Fit.sub)
 refine D.step (rs := [3]) (by kernel_rfl) rfl rfl (all1 ?_)
 refine Step.eff rfl (Wanted.plain rfl) (Eff.call call77 rfl rfl (MaskAll_ok nd)) ?_
 rintro _ _ ⟨_, _, ⟨rfl, rfl⟩, rfl, rfl⟩
 refine ⟨Fit.sub, ?_⟩
 refine D.step (rs := [4]) (by kernel_rfl) rfl rfl (all1 ?_)
 refine Step.eff rfl (Wanted.plain rfl) (Eff.callv (first := []) (caps := [.pointer (some ⟨b7, 0, none⟩), .pointer (some ⟨b2, 0, none⟩), .pointer (some ⟨b3, 0, none⟩), .pointer (some ⟨b4, 0, none⟩), .pointer (some ⟨b8, 0, none⟩)]) call130 rfl rfl rfl (CallS.fit (Fit.trans (Fit.nilvc (α := RowG Int) 22 _) (Fit.trans (Fit.nilvc (α := CtV) 69 _) (show Fit κ _ (blk b7 [.slice ad5 (rowsB nd es).length cp6] 106 :: vc 99 (.slice ad5 (rowsB nd es).length cp6) (rowsB nd es) :: blk b2 [I64 (k)] 3 :: blk b3 [.slice none 0 0] 50 :: vc 22 (.slice none ([] : List (RowG Int)).length 0) (([] : List (RowG Int))) :: blk b4 [.slice none 0 0] 129 :: vc 69 (.slice none ([] : List CtV).length 0) (([] : List CtV)) :: blk b8 [.func (.func 130) #[] #[.pointer (some ⟨b7, 0, none⟩), .pointer (some ⟨b2, 0, none⟩), .pointer (some ⟨b3, 0, none⟩), .pointer (some ⟨b4, 0, none⟩), .pointer (some ⟨b8, 0, none⟩)]] 165 :: (ownR 3 ([] : List (RowG Int)) ++ (blk b1 [I64 (nd), va] 25 :: I))) from (show Fit κ _ (blk b7 [.slice ad5 (rowsB nd es).length cp6] 106 :: vc 99 (.slice ad5 (rowsB nd es).length cp6) (rowsB nd es) :: blk b2 [I64 (k)] 3 :: blk b3 [.slice none 0 0] 50 :: vc 22 (.slice none ([] : List (RowG Int)).length 0) (([] : List (RowG Int))) :: blk b4 [.slice none 0 0] 129 :: vc 69 (.slice none ([] : List CtV).length 0) (([] : List CtV)) :: blk b8 [.func (.func 130) #[] #[.pointer (some ⟨b7, 0, none⟩), .pointer (some ⟨b2, 0, none⟩), .pointer (some ⟨b3, 0, none⟩), .pointer (some ⟨b4, 0, none⟩), .pointer (some ⟨b8, 0, none⟩)]] 165 :: blk b1 [I64 (nd), va] 25 :: I) from Fit.s)))) (div_all (k := k) hG (listB ((allB nd))).length (blk b1 [I64 (nd), va] 25 :: I) (allB nd) none 0 [] none 0 [] (Nat.le_refl _) (all_lt hG.rng) (by have := listB_len ((allB nd)); simp only [List.length_nil]; omega) (by have := listB_len ((allB nd)); simp only [List.length_nil]; omega) (TabRd.fit hT Fit.m)))) ?_
 rintro _ _ ⟨_, _, ⟨pa9, pc10, rn11, ca12, cc13, cn14, Q15, rfl, ⟨h1Q15, h2Q15, h3Q15, h4Q15⟩, rfl⟩, rfl, rfl⟩
 refine ⟨Fit.sub, ?_⟩
 refine D.fit (J := blk b7 [.slice ad5 (rowsB nd es).length cp6] 106 :: vc 99 (.slice ad5 (rowsB nd es).length cp6) (rowsB nd es) :: blk b2 [I64 (k)] 3 :: blk b3 [.slice pa9 rn11.length pc10] 50 :: vc 22 (.slice pa9 rn11.length pc10) (rn11) :: blk b4 [.slice ca12 cn14.length cc13] 129 :: vc 69 (.slice ca12 cn14.length cc13) (cn14) :: blk b8 [.func (.func 130) #[] #[.pointer (some ⟨b7, 0, none⟩), .pointer (some ⟨b2, 0, none⟩), .pointer (some ⟨b3, 0, none⟩), .pointer (some ⟨b4, 0, none⟩), .pointer (some ⟨b8, 0, none⟩)]] 165 :: blk b1 [I64 (nd), va] 25 :: (ownR 3 rn11 ++ I)) (by have hfo := Fit.outof (κ := κ) (A := [blk b7 [.slice ad5 (rowsB nd es).length cp6] 106, vc 99 (.slice ad5 (rowsB nd es).length cp6) (rowsB nd es), blk b2 [I64 (k)] 3, blk b3 [.slice pa9 rn11.length pc10] 50, vc 22 (.slice pa9 rn11.length pc10) (rn11), blk b4 [.slice ca12 cn14.length cc13] 129, vc 69 (.slice ca12 cn14.length cc13) (cn14), blk b8 [.func (.func 130) #[] #[.pointer (some ⟨b7, 0, none⟩), .pointer (some ⟨b2, 0, none⟩), .pointer (some ⟨b3, 0, none⟩), .pointer (some ⟨b4, 0, none⟩), .pointer (some ⟨b8, 0, none⟩)]] 165]) (R := [blk b1 [I64 (nd), va] 25]) (B := ownR 3 rn11) (I := I); simp only [List.cons_append, List.nil_append] at hfo; exact hfo) ?_
 have h5Q15 : rn11 = Q15 := h1Q15
 have h6Q15 := listB_len ((allB nd))
 have h7Q15 : rn11.length ≤ 64 := by rw [h5Q15]; omega
 refine D.done (by kernel_rfl) ?_
 refine V.then ?_
 refine W.sub (L' := [(5, _), (4, _)]) (Sub.cons rfl (Sub.cons rfl Sub.nil)) ?_
 refine W.sr ?_
 refine G.r (Runs.ld ty50) ?_
 refine G.e (Eff.call call131 rfl rfl (CallS.fit (show Fit κ _ (vc 22 (.slice pa9 rn11.length pc10) (rn11) :: blk b7 [.slice ad5 (rowsB nd es).length cp6] 106 :: vc 99 (.slice ad5 (rowsB nd es).length cp6) (rowsB nd es) :: blk b2 [I64 (k)] 3 :: blk b3 [.slice pa9 rn11.length pc10] 50 :: blk b4 [.slice ca12 cn14.length cc13] 129 :: vc 69 (.slice ca12 cn14.length cc13) (cn14) :: blk b8 [.func (.func 130) #[] #[.pointer (some ⟨b7, 0, none⟩), .pointer (some ⟨b2, 0, none⟩), .pointer (some ⟨b3, 0, none⟩), .pointer (some ⟨b4, 0, none⟩), .pointer (some ⟨b8, 0, none⟩)]] 165 :: blk b1 [I64 (nd), va] 25 :: (ownR 3 rn11 ++ I)) from Fit.s) (SortP_ok (rs := rn11) (fun r hr => Sl.fit (ownR_held (I := I) r hr) Fit.sub) (by omega)))) ?_
 rintro _ _ ⟨_, _, ⟨ys16, ⟨rfl, hpys16, hsys16⟩, rfl⟩, rfl, rfl⟩
 show G Tryd.prog κ _ _ _ _ ([(17, .tuple #[]), (16, .slice pa9 rn11.length pc10), (5, .pointer (some ⟨b4, 0, none⟩)), (4, .pointer (some ⟨b3, 0, none⟩))] : Env) (vc 22 (.slice pa9 ys16.length pc10) (ys16) :: blk b7 [.slice ad5 (rowsB nd es).length cp6] 106 :: vc 99 (.slice ad5 (rowsB nd es).length cp6) (rowsB nd es) :: blk b2 [I64 (k)] 3 :: blk b3 [.slice pa9 rn11.length pc10] 50 :: blk b4 [.slice ca12 cn14.length cc13] 129 :: vc 69 (.slice ca12 cn14.length cc13) (cn14) :: blk b8 [.func (.func 130) #[] #[.pointer (some ⟨b7, 0, none⟩), .pointer (some ⟨b2, 0, none⟩), .pointer (some ⟨b3, 0, none⟩), .pointer (some ⟨b4, 0, none⟩), .pointer (some ⟨b8, 0, none⟩)]] 165 :: blk b1 [I64 (nd), va] 25 :: (ownR 3 rn11 ++ I))
 refine G.nt ?_
 refine W.seq ?_
 refine W.drawn mixed ?_
 refine A.hold (vc 22 (.slice pa9 ys16.length pc10) (ys16) :: blk b7 [.slice ad5 (rowsB nd es).length cp6] 106 :: vc 99 (.slice ad5 (rowsB nd es).length cp6) (rowsB nd es) :: blk b2 [I64 (k)] 3 :: vc 69 (.slice ca12 cn14.length cc13) (cn14) :: blk b8 [.func (.func 130) #[] #[.pointer (some ⟨b7, 0, none⟩), .pointer (some ⟨b2, 0, none⟩), .pointer (some ⟨b3, 0, none⟩), .pointer (some ⟨b4, 0, none⟩), .pointer (some ⟨b8, 0, none⟩)]] 165 :: blk b1 [I64 (nd), va] 25 :: (ownR 3 rn11 ++ I)) 2 ?_
 refine D.step (rs := [0, 1]) (by kernel_rfl) rfl rfl (all2 ?_ (all1 ?_))
 ·refine Step.read rfl (Wanted.plain rfl) rfl rfl (Runs.ld ty50) Fit.sub ?_
  refine D.step (rs := [1, 2]) (by kernel_rfl) rfl rfl (all2 ?_ (all1 ?_))
  ·refine Step.read rfl (Wanted.plain rfl) rfl rfl (Runs.ld ty129) Fit.sub ?_
   refine D.stop (by kernel_rfl) ?_
   refine A.eff (i := 2) (by kernel_rfl) rfl (Wanted.plain rfl) (Eff.st (cs := [_]) (vs := [_]) (cs' := [_]) ty50) ?_
   rintro _ _ ⟨rfl, rfl⟩
   refine A.eff (i := 3) (by kernel_rfl) rfl (Wanted.plain rfl) (Eff.st (cs := [_]) (vs := [_]) (cs' := [_]) ty129) ?_
   rintro _ _ ⟨rfl, rfl⟩
   refine A.done (by kernel_rfl) ?_
   refine V.then ?_
   refine W.ret ?_
   have hyl : ys16.length = rn11.length := hpys16.length_eq
   obtain ⟨hd1, hd2⟩ := div_sorted h2Q15 h5Q15 hpys16 hsys16
   exact V.retvv rfl ty50 ty129 rfl rfl (by repeat (first | exact List.mem_cons_self | apply List.mem_cons_of_mem)) (by repeat (first | exact List.mem_cons_self | apply List.mem_cons_of_mem)) (vc 22 (.slice pa9 ys16.length pc10) ys16 :: (ownR 3 ys16 ++ I)) (Fit.trans (show Fit κ _ ([vc 22 (.slice pa9 ys16.length pc10) ys16] ++ (ownR 3 rn11 ++ I)) from (by first | exact Fit.s | exact Fit.sub)) (Fit.ownR_perm hpys16)) ⟨pa9, pc10, ys16, .slice ca12 cn14.length cc13, by rw [hyl], ⟨hd1, hd2, by omega⟩, rfl⟩
  ·refine Step.eff rfl (Wanted.plain rfl) (Eff.st (cs := [_]) (vs := [_]) (cs' := [_]) ty50) ?_
   rintro _ _ ⟨rfl, rfl⟩
   refine ⟨Fit.sub, ?_⟩
   refine D.step (rs := [1]) (by kernel_rfl) rfl rfl (all1 ?_)
   refine Step.read rfl (Wanted.plain rfl) rfl rfl (Runs.ld ty129) Fit.sub ?_
   refine D.step (rs := [3]) (by kernel_rfl) rfl rfl (all1 ?_)
   refine Step.eff rfl (Wanted.plain rfl) (Eff.st (cs := [_]) (vs := [_]) (cs' := [_]) ty129) ?_
   rintro _ _ ⟨rfl, rfl⟩
   refine ⟨Fit.sub, ?_⟩
   refine D.done (by kernel_rfl) ?_
   refine V.then ?_
   refine W.ret ?_
   have hyl : ys16.length = rn11.length := hpys16.length_eq
   obtain ⟨hd1, hd2⟩ := div_sorted h2Q15 h5Q15 hpys16 hsys16
   exact V.retvv rfl ty50 ty129 rfl rfl (by repeat (first | exact List.mem_cons_self | apply List.mem_cons_of_mem)) (by repeat (first | exact List.mem_cons_self | apply List.mem_cons_of_mem)) (vc 22 (.slice pa9 ys16.length pc10) ys16 :: (ownR 3 ys16 ++ I)) (Fit.trans (show Fit κ _ ([vc 22 (.slice pa9 ys16.length pc10) ys16] ++ (ownR 3 rn11 ++ I)) from (by first | exact Fit.s | exact Fit.sub)) (Fit.ownR_perm hpys16)) ⟨pa9, pc10, ys16, .slice ca12 cn14.length cc13, by rw [hyl], ⟨hd1, hd2, by omega⟩, rfl⟩
 ·refine Step.read rfl (Wanted.plain rfl) rfl rfl (Runs.ld ty129) Fit.sub ?_
  refine D.step (rs := [0]) (by kernel_rfl) rfl rfl (all1 ?_)
  refine Step.read rfl (Wanted.plain rfl) rfl rfl (Runs.ld ty50) Fit.sub ?_
  refine D.stop (by kernel_rfl) ?_
  refine A.eff (i := 2) (by kernel_rfl) rfl (Wanted.plain rfl) (Eff.st (cs := [_]) (vs := [_]) (cs' := [_]) ty50) ?_
  rintro _ _ ⟨rfl, rfl⟩
  refine A.eff (i := 3) (by kernel_rfl) rfl (Wanted.plain rfl) (Eff.st (cs := [_]) (vs := [_]) (cs' := [_]) ty129) ?_
  rintro _ _ ⟨rfl, rfl⟩
  refine A.done (by kernel_rfl) ?_
  refine V.then ?_
  refine W.ret ?_
  have hyl : ys16.length = rn11.length := hpys16.length_eq
  obtain ⟨hd1, hd2⟩ := div_sorted h2Q15 h5Q15 hpys16 hsys16
  exact V.retvv rfl ty50 ty129 rfl rfl (by repeat (first | exact List.mem_cons_self | apply List.mem_cons_of_mem)) (by repeat (first | exact List.mem_cons_self | apply List.mem_cons_of_mem)) (vc 22 (.slice pa9 ys16.length pc10) ys16 :: (ownR 3 ys16 ++ I)) (Fit.trans (show Fit κ _ ([vc 22 (.slice pa9 ys16.length pc10) ys16] ++ (ownR 3 rn11 ++ I)) from (by first | exact Fit.s | exact Fit.sub)) (Fit.ownR_perm hpys16)) ⟨pa9, pc10, ys16, .slice ca12 cn14.length cc13, by rw [hyl], ⟨hd1, hd2, by omega⟩, rfl⟩

end Go.Sl
namespace Go.Sl
open Go.Proofs
set_option linter.unusedVariables false
set_option linter.unusedSimpArgs false
set_option maxRecDepth 4000
theorem askE_zero {nd : Int} {es : List Pt} {k : Int} : askE nd es k = 0 ↔ GrOk nd es ∧ 1 ≤ k := by
  unfold askE
  by_cases h : checkG nd es ≠ 0
  · rw [if_pos h]
    exact ⟨fun e => absurd e h, fun e => checkG_ok.2 e.1⟩
  · rw [if_neg h]
    have h0 := checkG_ok.1 (Classical.not_not.1 h)
    by_cases hk : k < 1
    · rw [if_pos hk]
      exact ⟨fun e => (by cases e), fun e => absurd e.2 (by omega)⟩
    · rw [if_neg hk]; exact ⟨fun _ => ⟨h0, by omega⟩, fun _ => rfl⟩
/-- The rows that Parts gives. -/
def PartsR (nd : Int) (es : List Pt) (k : Int) (Q : List (List Int)) : Prop := (askE nd es k ≠ 0 → Q = []) ∧ (askE nd es k = 0 → DivP nd k es (listB (allB nd)) Q ∧ Q.Pairwise fun a b => at_ a 0 < at_ b 0)
theorem PartsR.uniq {nd : Int} {es : List Pt} {k : Int} {Q Q' : List (List Int)} (h : PartsR nd es k Q) (h' : PartsR nd es k Q') : Q = Q' := by
  by_cases h0 : askE nd es k = 0
  · exact DivP.uniq (h.2 h0).1 (h'.2 h0).1 (h.2 h0).2 (h'.2 h0).2
  · rw [h.1 h0, h'.1 h0]

theorem KParts_ok {κ : Ctx} {I : List Item} {nd : Int} {va : Value} {es : List Pt} (hl : Sl κ I va es) (k : Int) (hT : TabRd κ I 0 tzCells) :
    CallS Tryd.prog κ 57 [.agg #[I64 (nd), va], I64 (k)] I (fun r J => ∃ a c rs, r = .tuple #[.slice a rs.length c, I64 (askE nd es k)] ∧ (PartsR nd es k (rs.map RowG.xs) ∧ rs.length ≤ 64) ∧ J = vc 22 (.slice a rs.length c) rs :: (ownR 3 rs ++ I)) := by
 refine CallS.enter (L := [(0, .agg #[I64 (nd), va]), (1, I64 (k))]) Tryd.func57 rfl rfl rfl rfl ?_
 refine W.sr ?_
 refine G.e (Eff.box (cs := [_, _]) rfl rfl rfl) ?_
 rintro _ _ ⟨b1, rfl, rfl⟩
 refine G.r (Runs.assign rfl) ?_
 refine G.r (Runs.assign rfl) ?_
 refine G.nt ?_
 refine W.seq ?_
 refine W.sr ?_
 refine G.r (Runs.lds (vs := [_, _]) ty25) ?_
 refine G.r (Runs.move rfl) ?_
 refine G.e (Eff.call call96 rfl rfl (Asked_ok (nd := nd) (Sl.f hl) k)) ?_
 rintro _ _ ⟨_, _, ⟨rfl, rfl⟩, rfl, rfl⟩
 refine G.r (Runs.assign rfl) ?_
 refine G.nt ?_
 refine W.sr ?_
 refine G.r (Runs.move rfl) ?_
 refine G.r (Runs.neq rfl rfl) ?_
 refine G.nt ?_
 refine W.ite rfl (fun c13 => ?_) (fun c13 => ?_)
 ·refine W.sr ?_
  refine G.r (Runs.move rfl) ?_
  refine G.r (Runs.assign rfl) ?_
  refine G.r (Runs.assign rfl) ?_
  refine G.nt ?_
  refine W.sub (L' := [(5, _), (4, _)]) (Sub.cons rfl (Sub.cons rfl Sub.nil)) ?_
  refine W.ret ?_
  refine V.then_ret ?_
  exact V.ret2 rfl rfl rfl (vc 22 (.slice none ([] : List (RowG Int)).length 0) ([] : List (RowG Int)) :: (ownR 3 ([] : List (RowG Int)) ++ I)) (Fit.trans (show Fit κ _ I from Fit.m) (Fit.nilvc (α := RowG Int) _ _)) ⟨none, 0, [], rfl, ⟨⟨fun _ => rfl, fun h => absurd h c13⟩, by simp⟩, rfl⟩
 ·refine W.skip ?_
  refine V.then ?_
  refine W.sr ?_
  refine G.r (Runs.lds (vs := [_, _]) ty25) ?_
  refine G.r (Runs.move rfl) ?_
  refine G.e (Eff.call call98 rfl rfl (Divided_ok (nd := nd) (k := k) (Sl.f hl) (askE_zero.1 (Classical.not_not.1 c13)).1 (TabRd.fit hT Fit.m))) ?_
  rintro _ _ ⟨_, _, ⟨ad2, cp3, rs4, cv5, rfl, ⟨h1rs4, h2rs4, h3rs4⟩, rfl⟩, rfl, rfl⟩
  refine G.fit (J := vc 22 (.slice ad2 rs4.length cp3) (rs4) :: blk b1 [I64 (nd), va] 25 :: (ownR 3 rs4 ++ I)) Fit.s ?_
  refine G.r (Runs.move rfl) ?_
  refine G.r (Runs.extract rfl rfl) ?_
  refine G.r (Runs.extract rfl rfl) ?_
  refine G.r (Runs.assign rfl) ?_
  refine G.r (Runs.assign rfl) ?_
  refine G.nt ?_
  refine W.sub (L' := [(7, _)]) (Sub.cons rfl Sub.nil) ?_
  refine W.sr ?_
  refine G.r (Runs.move rfl) ?_
  refine G.r (Runs.assign rfl) ?_
  refine G.r (Runs.assign rfl) ?_
  refine G.nt ?_
  refine W.ret ?_
  have hA : askE nd es k = 0 := Classical.not_not.1 c13
  exact V.ret2 rfl rfl rfl (vc 22 (.slice ad2 rs4.length cp3) rs4 :: (ownR 3 rs4 ++ I)) (by first | exact Fit.s | exact Fit.sub) ⟨ad2, cp3, rs4, by rw [hA]; rfl, ⟨⟨fun h => absurd hA h, fun _ => ⟨h1rs4, h2rs4⟩⟩, h3rs4⟩, rfl⟩

def joinE : List Pt := [⟨0, 1⟩, ⟨0, 2⟩, ⟨1, 2⟩, ⟨2, 3⟩, ⟨3, 4⟩, ⟨3, 5⟩, ⟨4, 5⟩]
theorem join_check : checkG 6 joinE = 0 := by decide +kernel
theorem join_ok : GrOk 6 joinE := checkG_ok.1 join_check
theorem join_ask : askE 6 joinE 2 = 0 := askE_zero.2 ⟨join_ok, by decide⟩
theorem join_lam : lamE 6 joinE 0 5 = 0 := lamE_zero.2 ⟨join_ok, by unfold endsP; decide⟩
theorem DivP.all {nd k : Int} {es : List Pt} {W : List Int} (hv : ValidP W nd) (h2 : 2 ≤ W.length) (h : KC k es W) : DivP nd k es W [W] :=
  ⟨fun p hp => by rw [List.mem_singleton] at hp; subst hp; exact ⟨hv, h2, h, fun _ hx => hx⟩, fun X _ _ _ hX => ⟨W, by simp, hX⟩, by simp⟩
theorem lvE_nil (S : Int → Bool) : lvE [] S = 0 := rfl
theorem tri_cut (x y z : Int) (S : Int → Bool) : lvE [⟨x, y⟩, ⟨x, z⟩, ⟨y, z⟩] S = (if S x = S y ∧ S y = S z then 0 else 2) := by
  simp only [lvE_cons, cross, lvE_nil]
  rcases Bool.eq_false_or_eq_true (S x) with h0 | h0 <;> rcases Bool.eq_false_or_eq_true (S y) with h1 | h1 <;> rcases Bool.eq_false_or_eq_true (S z) with h2 | h2 <;> simp [h0, h1, h2]
theorem tri_ke {x y z a b : Int} (ha : a ∈ [x, y, z]) (hb : b ∈ [x, y, z]) : KE 2 [⟨x, y⟩, ⟨x, z⟩, ⟨y, z⟩] a b := fun S h1 h2 => by
  rw [tri_cut]
  rw [if_neg fun h => ?_]; exact Int.le_refl _
  simp only [List.mem_cons, List.not_mem_nil, or_false] at ha hb
  have e : ∀ c, (c = x ∨ c = y ∨ c = z) → S c = S x := fun c hc => by
    rcases hc with rfl | rfl | rfl
    · rfl
    · exact h.1.symm
    · rw [h.1, h.2]
  rw [e a ha] at h1
  rw [e b hb, h1] at h2
  cases h2
theorem join_cut (S : Int → Bool) : lvE joinE S = (if S 0 = S 1 ∧ S 1 = S 2 then 0 else 2) + (if S 2 = S 3 then 0 else 1) + (if S 3 = S 4 ∧ S 4 = S 5 then 0 else 2) := by
  simp only [joinE, lvE_cons, cross, lvE_nil]
  rcases Bool.eq_false_or_eq_true (S 0) with h0 | h0 <;> rcases Bool.eq_false_or_eq_true (S 1) with h1 | h1 <;> rcases Bool.eq_false_or_eq_true (S 2) with h2 | h2 <;> rcases Bool.eq_false_or_eq_true (S 3) with h3 | h3 <;> rcases Bool.eq_false_or_eq_true (S 4) with h4 | h4 <;> rcases Bool.eq_false_or_eq_true (S 5) with h5 | h5 <;> simp [h0, h1, h2, h3, h4, h5]
theorem join_div : DivP 6 2 joinE [0, 1, 2, 3, 4, 5] [[0, 1, 2], [3, 4, 5]] := by
  have e1 : inS [0, 1, 2] joinE = [⟨0, 1⟩, ⟨0, 2⟩, ⟨1, 2⟩] := by decide +kernel
  have e2 : inS [3, 4, 5] joinE = [⟨3, 4⟩, ⟨3, 5⟩, ⟨4, 5⟩] := by decide +kernel
  have h1 : DivP 6 2 joinE [0, 1, 2] [[0, 1, 2]] := .all (ValidP_iff.2 ⟨by decide, by decide⟩) (by decide) fun x hx y hy => by rw [e1]; exact tri_ke hx hy
  have h2 : DivP 6 2 joinE [3, 4, 5] [[3, 4, 5]] := .all (ValidP_iff.2 ⟨by decide, by decide⟩) (by decide) fun x hx y hy => by rw [e2]; exact tri_ke hx hy
  refine DivP.join (side := [0, 1, 2]) (rest := [3, 4, 5]) (val := 1) (by decide) (fun z => ?_) (by decide +kernel) (by decide) h1 h2
  simp only [List.mem_cons, List.not_mem_nil, or_false]
  omega
theorem join_parts {Q : List (List Int)} (h : PartsR 6 joinE 2 Q) : Q = [[0, 1, 2], [3, 4, 5]] := by
  refine h.uniq ⟨fun e => absurd join_ask e, fun _ => ⟨?_, by decide⟩⟩
  rw [show listB (allB 6) = [0, 1, 2, 3, 4, 5] from by decide +kernel]; exact join_div
theorem join_min : MinSide joinE 6 0 5 [0, 1, 2] 1 := by
  refine ⟨ValidP_iff.2 ⟨by decide, by decide⟩, by decide, by decide, by decide +kernel, fun S h1 h2 => ?_, fun S h1 h2 h3 => ?_⟩
  · rw [join_cut, h1, h2]
    rcases Bool.eq_false_or_eq_true (S 1) with g1 | g1 <;> rcases Bool.eq_false_or_eq_true (S 2) with g2 | g2 <;> rcases Bool.eq_false_or_eq_true (S 3) with g3 | g3 <;> rcases Bool.eq_false_or_eq_true (S 4) with g4 | g4 <;> simp [g1, g2, g3, g4]
  · rw [join_cut, h1, h2] at h3
    have : S 1 = true ∧ S 2 = true := by
      revert h3
      rcases Bool.eq_false_or_eq_true (S 1) with g1 | g1 <;> rcases Bool.eq_false_or_eq_true (S 2) with g2 | g2 <;> rcases Bool.eq_false_or_eq_true (S 3) with g3 | g3 <;> rcases Bool.eq_false_or_eq_true (S 4) with g4 | g4 <;> simp [g1, g2, g3, g4]
    intro z hz
    simp only [List.mem_cons, List.not_mem_nil, or_false] at hz
    rcases hz with rfl | rfl | rfl
    · exact h1
    · exact this.1
    · exact this.2
theorem join_side {side : List Int} {val : Int} (h : LamP 6 joinE 0 5 side val) : side = [0, 1, 2] ∧ val = 1 := (h.2 join_lam).uniq join_min
theorem map_at {rs : List (RowG Int)} {Q : List (List Int)} (h : rs.map RowG.xs = Q) (i : Int) (h0 : 0 ≤ i) (hi : i < Q.length) : (at_ rs i).xs = at_ Q i := by
  obtain ⟨n, rfl⟩ := Int.eq_ofNat_of_zero_le h0
  rw [← h, at_nat, at_nat, List.getD_eq_getElem?_getD, List.getD_eq_getElem?_getD, List.getElem?_map]
  have hn : n < rs.length := by rw [← h, List.length_map] at hi; omega
  rw [List.getElem?_eq_getElem hn]; rfl

theorem JoinedE_ok {κ : Ctx} {I : List Item}  :
    CallS Tryd.prog κ 86 [] I (fun r J => ∃ a, r = .agg #[I64 6, .slice a joinE.length 7] ∧ J = vc 38 (.slice a joinE.length 7) joinE :: I) := by
 refine CallS.enter (L := []) Tryd.func86 rfl rfl rfl rfl ?_
 refine W.sr ?_
 refine G.e (Eff.alloc ty25 rfl) ?_
 rintro _ _ ⟨b1, rfl, rfl⟩
 refine G.nt ?_
 refine W.sr ?_
 refine G.r (Runs.build (cells := [_, _]) ty38 Tryd.underlying38 pl38 rfl rfl) ?_
 refine G.r (Runs.build (cells := [_, _]) ty38 Tryd.underlying38 pl38 rfl rfl) ?_
 refine G.r (Runs.build (cells := [_, _]) ty38 Tryd.underlying38 pl38 rfl rfl) ?_
 refine G.r (Runs.build (cells := [_, _]) ty38 Tryd.underlying38 pl38 rfl rfl) ?_
 refine G.r (Runs.build (cells := [_, _]) ty38 Tryd.underlying38 pl38 rfl rfl) ?_
 refine G.r (Runs.build (cells := [_, _]) ty38 Tryd.underlying38 pl38 rfl rfl) ?_
 refine G.r (Runs.build (cells := [_, _]) ty38 Tryd.underlying38 pl38 rfl rfl) ?_
 refine G.e (Eff.bs (α := Pt) (cs := [I64 (0), I64 (1), I64 (0), I64 (2), I64 (1), I64 (2), I64 (2), I64 (3), I64 (3), I64 (4), I64 (3), I64 (5), I64 (4), I64 (5)]) (xs := [⟨0, 1⟩, ⟨0, 2⟩, ⟨1, 2⟩, ⟨2, 3⟩, ⟨3, 4⟩, ⟨3, 5⟩, ⟨4, 5⟩]) Tryd.underlying23 ty38 rfl rfl (by decide) (by decide) rfl (by kernel_rfl) rfl rfl) ?_
 rintro _ _ ⟨ad2, rfl, rfl⟩
 refine G.r (Runs.build (cells := [_, _]) ty25 Tryd.underlying25 pl25 rfl rfl) ?_
 refine G.e (Eff.st (cs := [_, _]) (vs := [_, _]) (cs' := [_, _]) ty25) ?_
 rintro _ _ ⟨rfl, rfl⟩
 refine G.nt ?_
 refine W.ret ?_
 exact V.retc rfl ty25 rfl (by repeat (first | exact List.mem_cons_self | apply List.mem_cons_of_mem)) rfl (vc 38 (.slice ad2 joinE.length 7) joinE :: I) Fit.sub ⟨ad2, rfl, rfl⟩

set_option maxHeartbeats 1000000 in
theorem Awake17_ok {κ : Ctx} {I : List Item} (hT : TabRd κ I 0 tzCells) :
    CallS Tryd.prog κ 42 [] I (fun r J => r = .bool true ∧ I = J) := by
 refine CallS.enter (L := []) Tryd.func42 rfl rfl rfl rfl ?_
 refine W.sr ?_
 refine G.r (Runs.assign rfl) ?_
 refine G.nt ?_
 refine W.sr ?_
 refine G.e (Eff.call call86 rfl rfl JoinedE_ok) ?_
 rintro _ _ ⟨_, _, ⟨ad1, rfl, rfl⟩, rfl, rfl⟩
 refine G.e (Eff.call call57 rfl rfl (KParts_ok (nd := 6) Sl.o 2 (TabRd.fit hT Fit.m))) ?_
 rintro _ _ ⟨_, _, ⟨ad2, cp3, rs4, rfl, ⟨hrs4, hbrs4⟩, rfl⟩, rfl, rfl⟩
 refine G.fit (J := vc 22 (.slice ad2 rs4.length cp3) (rs4) :: vc 38 (.slice ad1 joinE.length 7) (joinE) :: (ownR 3 rs4 ++ I)) Fit.s ?_
 refine G.r (Runs.move rfl) ?_
 refine G.r (Runs.extract rfl rfl) ?_
 refine G.r (Runs.extract rfl rfl) ?_
 refine G.r (Runs.assign rfl) ?_
 refine G.r (Runs.assign rfl) ?_
 refine G.nt ?_
 refine W.sr ?_
 refine G.e (Eff.call call86 rfl rfl JoinedE_ok) ?_
 rintro _ _ ⟨_, _, ⟨ad5, rfl, rfl⟩, rfl, rfl⟩
 refine G.e (Eff.call call44 rfl rfl (KLambda_ok (nd := 6) Sl.o 0 5 (TabRd.fit hT Fit.m))) ?_
 rintro _ _ ⟨_, _, ⟨ad6, cp7, sd8, vl9, rfl, hsd8, rfl⟩, rfl, rfl⟩
 refine G.r (Runs.move rfl) ?_
 refine G.r (Runs.extract rfl rfl) ?_
 refine G.r (Runs.extract rfl rfl) ?_
 refine G.r (Runs.extract rfl rfl) ?_
 refine G.e (Eff.alloc ty69 rfl) ?_
 rintro _ _ ⟨b10, rfl, rfl⟩
 refine G.r (Runs.assign rfl) ?_
 refine G.e (Eff.st (cs := [_, _]) (vs := [_, _]) (cs' := [_, _]) ty69) ?_
 rintro _ _ ⟨rfl, rfl⟩
 refine G.r (Runs.assign rfl) ?_
 refine G.nt ?_
 refine W.sub (L' := [(5, _), (3, _), (4, _), (2, _), (1, _)]) (Sub.cons rfl (Sub.cons rfl (Sub.cons rfl (Sub.cons rfl (Sub.cons rfl Sub.nil))))) ?_
 refine W.sr ?_
 refine G.r (Runs.move rfl) ?_
 refine G.r (Runs.eql rfl rfl) ?_
 refine G.r (Runs.move rfl) ?_
 refine G.split (d := 19) rfl (fun g19 => ?_) (fun g19 => ?_)
 ·refine G.ro (Runs.move rfl) ?_
  refine G.ro (Runs.eql rfl rfl) ?_
  refine G.r (Runs.pickt rfl rfl) ?_
  refine G.r (Runs.move rfl) ?_
  refine G.split (d := 23) rfl (fun g23 => ?_) (fun g23 => ?_)
  ·refine G.ro (Runs.move rfl) ?_
   refine G.ro (Runs.lens Tryd.underlying50 rfl) ?_
   refine G.ro (Runs.eql rfl rfl) ?_
   refine G.r (Runs.pickt rfl rfl) ?_
   refine G.r (Runs.move rfl) ?_
   refine G.split (d := 28) rfl (fun g28 => ?_) (fun g28 => ?_)
   ·refine G.ro (Runs.move rfl) ?_
    refine G.ro (Runs.idx (α := (RowG Int)) (xs := rs4) Tryd.underlying50 ty22 rfl rfl Sl.o (by omega) (by first | omega | (simp; omega))) ?_
    refine G.ro (Runs.getf0 (α := (RowG Int)) (xs := rs4) (u := .slice (at_ rs4 1).a (at_ rs4 1).xs.length (at_ rs4 1).c) ty22 rfl Sl.o (by omega) (by first | omega | (simp; omega)) rfl) ?_
    refine G.eff (Wanted.on rfl rfl rfl) (Eff.bs (α := Int) (cs := [_, _, _]) (xs := [3, 4, 5]) Tryd.underlying22 ty3 rfl rfl (by decide) (by decide) rfl rfl rfl rfl) ?_
    rintro _ _ ⟨ad11, rfl, rfl⟩
    refine G.eff (Wanted.on rfl rfl rfl) (Eff.call call27 rfl rfl (Same_ok (HeldAll.at (ownR_in (e := 3) (rs := rs4) (fun x hx => by repeat (first | exact List.mem_append_left _ hx | apply List.mem_append_right | apply List.mem_cons_of_mem))) (i := 1) (by omega) (by omega)) Sl.o)) ?_
    rintro _ _ ⟨_, _, ⟨rfl, rfl⟩, rfl, rfl⟩
    refine G.r (Runs.pickt rfl rfl) ?_
    refine G.r (Runs.move rfl) ?_
    refine G.split (d := 35) rfl (fun g35 => ?_) (fun g35 => ?_)
    ·refine G.ro (Runs.move rfl) ?_
     refine G.ro (Runs.eql rfl rfl) ?_
     refine G.r (Runs.pickt rfl rfl) ?_
     refine G.r (Runs.move rfl) ?_
     refine G.split (d := 39) rfl (fun g39 => ?_) (fun g39 => ?_)
     ·refine G.ro (Runs.fieldAddr fld69_0 rfl) ?_
      refine G.ro (Runs.ld ty22) ?_
      refine G.eff (Wanted.on rfl rfl rfl) (Eff.bs (α := Int) (cs := [_, _, _]) (xs := [0, 1, 2]) Tryd.underlying22 ty3 rfl rfl (by decide) (by decide) rfl rfl rfl rfl) ?_
      rintro _ _ ⟨ad12, rfl, rfl⟩
      refine G.eff (Wanted.on rfl rfl rfl) (Eff.call call27 rfl rfl (Same_ok Sl.o Sl.o)) ?_
      rintro _ _ ⟨_, _, ⟨rfl, rfl⟩, rfl, rfl⟩
      refine G.r (Runs.pickt rfl rfl) ?_
      refine G.r (Runs.assign rfl) ?_
      refine G.nt ?_
      refine W.sub (L' := [(0, _)]) (Sub.cons rfl Sub.nil) ?_
      refine W.ret ?_
      exact V.ret1 rfl rfl (I) Fit.m ⟨by rw [decide_eq_true (join_side hsd8).1], rfl⟩
     ·exact absurd (join_side hsd8).2 g39
    ·exact absurd (by rw [map_at (join_parts hrs4) 1 (by decide) (by decide)]; rfl) g35
   ·exact absurd (by have := congrArg List.length (join_parts hrs4); simp only [List.length_map, List.length_cons, List.length_nil] at this; omega) g28
  ·exact absurd join_lam g23
 ·exact absurd join_ask g19

end Go.Sl
