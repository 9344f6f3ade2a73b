/- A part of the proofs of statements of this seat: contracts of functions, and the plain laws that they lean on. No conditions. -/
import Derived.Test.YtbimaodbcjjbfaaDoorReach9
import Derived.Test.YtbimaodbcjjbfaaDoorKed8
import Derived.Test.YtbimaodbcjjbfaaDoorParts8
import Derived.Test.YtbimaodbcjjbfaaDoorLookB
import Derived.Test.YtbimaodbcjjbfaaDoorLaw15A
import Derived.Test.YtbimaodbcjjbfaaDoorParts9
/- An owned slice without its first elements; rows that are owned, and fewer of them. No conditions. -/
namespace Go.Sl
set_option linter.unusedVariables false
set_option linter.unusedSectionVars false
section
variable {α : Type} [Enc α] {κ : Ctx} {I : List Item}
theorem Fit.dropvc {e : TypeId} {a : Option Addr} {n c k : Nat} {xs : List α} (hn : n = xs.length) (hk : k ≤ xs.length) : Fit κ (vc e (.slice a n c) xs :: I) (vc e (.slice (adrop a c k (Enc.sz α)) (xs.drop k).length (c - k)) (xs.drop k) :: I) := by
  subst hn
  refine Fit.upd (At.head _ _ _) fun w h => ⟨?_, fun j ⟨o, m, c', hv, hc⟩ => ?_⟩
  · obtain ⟨a', cap, hv, h1, h2, h3, h4⟩ := h
    cases hv
    refine ⟨_, c - k, rfl, cells_length _, by rw [List.length_drop]; omega, by omega, fun hc => ?_⟩
    obtain ⟨b, off, cur, ha, hb, h5, h6⟩ := h4 (by omega)
    refine ⟨b, off + k * Enc.sz α, cur, by rw [ha]; unfold adrop; rw [if_neg (by omega)]; simp [addr_add], hb, ?_, fun j u hj => ?_⟩
    · have e1 : (c - k) * Enc.sz α + k * Enc.sz α = c * Enc.sz α := by rw [← Nat.add_mul]; congr 1; omega
      omega
    · rw [cells_drop, List.getElem?_drop] at hj
      rw [Nat.add_assoc]
      exact h6 _ u hj
  · injection hv with ha hm hcc
    subst hcc
    unfold adrop at ha
    rw [if_neg (by omega)] at ha
    obtain ⟨a', cap, hv, h1, h2, h3, h4⟩ := h
    cases hv
    obtain ⟨b, off, cur, h5, hb, _⟩ := h4 (by omega)
    subst h5
    simp only [Option.map_some, Option.some.injEq, addr_add] at ha
    injection ha with hb1
    subst hb1
    exact ⟨off, _, c, rfl, by omega⟩
/-- Of owned rows, those that are still in use. -/
theorem Fit.ownR_sub {e : TypeId} {rs ys zs : List (RowG α)} {A : List Item} (h : ys.Perm zs) (hs : zs.Sublist rs) : Fit κ (A ++ (ownR e rs ++ I)) (A ++ (ownR e ys ++ I)) :=
  Fit.trans (Fit.of_sublist (List.Sublist.append_left (List.Sublist.append_right (hs.map _) I) A)) (Fit.ownR_perm h)
end
end Go.Sl
namespace Go.Sl
open Go.Proofs
set_option linter.unusedVariables false
set_option linter.unusedSimpArgs false
set_option maxRecDepth 4000
def DisjL (l : List (List Int)) : Prop := l.Pairwise fun a b => ∀ x ∈ a, x ∉ b
theorem DisjL.perm {l m : List (List Int)} (h : DisjL l) (hp : m.Perm l) : DisjL m := hp.symm.pairwise h fun {a b} hab x hx hxa => hab x hxa hx
/-- Sets that are still to be looked at, and parts that are found. -/
structure WorkP (nd k : Int) (es : List Pt) (opn out : List (List Int)) : Prop where
  val : ∀ p ∈ out, ValidP p nd ∧ 2 ≤ p.length ∧ KC k es p
  opv : ∀ q ∈ opn, ValidP q nd
  cover : ∀ X, 2 ≤ X.length → X.Nodup → KC k es X → (∀ x ∈ X, 0 ≤ x ∧ x < nd) → ∃ p ∈ opn ++ out, ∀ x ∈ X, x ∈ p
  disj : DisjL (opn ++ out)
theorem WorkP.small {nd k : Int} {es : List Pt} {q : List Int} {rest out : List (List Int)} (h : WorkP nd k es (q :: rest) out) (hq : q.length < 2) : WorkP nd k es rest out := by
  refine ⟨h.val, fun p hp => h.opv p (List.mem_cons_of_mem _ hp), fun X h2 hn hX hb => ?_, (List.pairwise_cons.1 h.disj).2⟩
  obtain ⟨p, hp, hs⟩ := h.cover X h2 hn hX hb
  rcases List.mem_cons.1 hp with rfl | hp
  · have := List.Nodup.length_le_of_subset hn hs; omega
  · exact ⟨p, hp, hs⟩
theorem WorkP.put {nd k : Int} {es : List Pt} {q : List Int} {rest out out' : List (List Int)} (h : WorkP nd k es (q :: rest) out) (h2 : 2 ≤ q.length) (hk : KC k es q) (ho : out'.Perm (q :: out)) : WorkP nd k es rest out' := by
  have hp : (rest ++ out').Perm (q :: rest ++ out) := (List.Perm.append_left rest ho).trans List.perm_middle
  refine ⟨fun p hp => ?_, fun p hp => h.opv p (List.mem_cons_of_mem _ hp), fun X a b c d => ?_, h.disj.perm hp⟩
  · rcases List.mem_cons.1 (ho.mem_iff.1 hp) with rfl | hp
    · exact ⟨h.opv _ List.mem_cons_self, h2, hk⟩
    · exact h.val p hp
  · obtain ⟨p, h1, h2⟩ := h.cover X a b c d
    exact ⟨p, hp.mem_iff.2 h1, h2⟩
theorem WorkP.split {nd k val x0 y : Int} {es : List Pt} {q side rest' : List Int} {rest out : List (List Int)} (h : WorkP nd k es (q :: rest) out) (hx : x0 ∈ q) (hm : MinSide (inS q es) nd x0 y side val) (hk : val < k) (hr : ∀ z, z ∈ rest' ↔ z ∈ q ∧ z ∉ side) (hv : ValidP rest' nd) : WorkP nd k es (rest ++ [side, rest']) out := by
  have hw := hm.within hx
  have hp : (rest ++ [side, rest'] ++ out).Perm (side :: rest' :: (rest ++ out)) := by
    rw [List.append_assoc]
    exact List.perm_middle.trans (List.Perm.cons _ List.perm_middle)
  obtain ⟨hd1, hd2⟩ := List.pairwise_cons.1 h.disj
  refine ⟨h.val, fun p hpm => ?_, fun X a b c d => ?_, DisjL.perm ?_ hp⟩
  · rcases List.mem_append.1 hpm with hpm | hpm
    · exact h.opv p (List.mem_cons_of_mem _ hpm)
    · simp only [List.mem_cons, List.not_mem_nil, or_false] at hpm
      rcases hpm with rfl | rfl
      · exact hm.valid
      · exact hv
  · obtain ⟨p, hpm, hs⟩ := h.cover X a b c d
    rcases List.mem_cons.1 hpm with rfl | hpm
    · by_cases hin : ∃ x ∈ X, x ∈ side
      · obtain ⟨x, hxX, hxs⟩ := hin
        refine ⟨side, hp.mem_iff.2 List.mem_cons_self, fun z hz => Classical.byContradiction fun hzs => ?_⟩
        have h3 := c x hxX z hz (inL side) (decide_eq_true hxs) (decide_eq_false hzs)
        have h4 := lvE_mono (inS_sub (es := es) hs) (inL side)
        have h5 := hm.eq
        omega
      · exact ⟨rest', hp.mem_iff.2 (List.mem_cons_of_mem _ List.mem_cons_self), fun z hz => (hr z).2 ⟨hs z hz, fun hzs => hin ⟨z, hz, hzs⟩⟩⟩
    · exact ⟨p, hp.mem_iff.2 (List.mem_cons_of_mem _ (List.mem_cons_of_mem _ hpm)), hs⟩
  · refine List.pairwise_cons.2 ⟨fun b hb x hx hxb => ?_, List.pairwise_cons.2 ⟨fun b hb x hx hxb => hd1 b hb x ((hr x).1 hx).1 hxb, hd2⟩⟩
    rcases List.mem_cons.1 hb with rfl | hb
    · exact ((hr x).1 hxb).2 hx
    · exact hd1 b hb x (hw x hx) hxb
theorem WorkP.ends {nd k : Int} {es : List Pt} {W : List Int} {out : List (List Int)} (h : WorkP nd k es [] out) (hW : ∀ x, x ∈ W ↔ 0 ≤ x ∧ x < nd) : DivP nd k es W out :=
  ⟨fun p hp => by
    obtain ⟨a, b, c⟩ := h.val p hp
    exact ⟨a, b, c, fun x hx => (hW x).2 ((ValidP_iff.1 a).1 x hx)⟩, fun X a b c d => h.cover X a b c fun x hx => (hW x).1 (d x hx), h.disj⟩
/-- Sets that no edge leaves, together all nodes. -/
theorem WorkP.start {nd k : Int} {es : List Pt} {cs : List (List Int)} (hk : 1 ≤ k) (hv : ∀ q ∈ cs, ValidP q nd) (hd : DisjL cs) (hc : ∀ x, 0 ≤ x → x < nd → ∃ q ∈ cs, x ∈ q) (hs : ∀ q ∈ cs, ∀ e ∈ es, e.u ∈ q ↔ e.v ∈ q) : WorkP nd k es cs [] := by
  refine ⟨fun p hp => (by cases hp), hv, fun X a b c d => ?_, by rw [List.append_nil]; exact hd⟩
  have hx0 : at_ X 0 ∈ X := head_mem (by omega)
  obtain ⟨q, hq, hxq⟩ := hc _ (d _ hx0).1 (d _ hx0).2
  refine ⟨q, by rw [List.append_nil]; exact hq, fun z hz => Classical.byContradiction fun hzq => ?_⟩
  have h3 := c _ hx0 z hz (inL q) (decide_eq_true hxq) (decide_eq_false hzq)
  have h4 : lvE (inS X es) (inL q) = 0 := by
    unfold lvE
    rw [List.filter_eq_nil_iff.2 fun e he => ?_]
    · rfl
    · have := hs q hq e (mem_inS.1 he).1
      simp [cross, inL, this]
  omega
/-- What is in order stays in order with one more in its place. -/
theorem heads_put {out : List (List Int)} {q : List Int} {p : Nat} (h : out.Pairwise fun a b => at_ a 0 < at_ b 0) (hp : p ≤ out.length) (h1 : ∀ j : Nat, p ≤ j → j < out.length → at_ q 0 < at_ (at_ out (j : Int)) 0) (h2 : 0 < p → at_ (at_ out ((p : Int) - 1)) 0 < at_ q 0) :
    (out.take p ++ q :: out.drop p).Pairwise fun a b => at_ a 0 < at_ b 0 := by
  have hsp := h
  rw [← List.take_append_drop p out, List.pairwise_append] at hsp
  obtain ⟨ht, hd, htd⟩ := hsp
  have hq2 : ∀ b ∈ out.drop p, at_ q 0 < at_ b 0 := fun b hb => by
    obtain ⟨j, hj, rfl⟩ := List.mem_iff_getElem.1 hb
    rw [List.length_drop] at hj
    have := h1 (p + j) (by omega) (by omega)
    rw [at_get _ _ (by omega)] at this
    rwa [List.getElem_drop]
  have hq1 : ∀ b ∈ out.take p, at_ b 0 < at_ q 0 := fun b hb => by
    obtain ⟨j, hj, rfl⟩ := List.mem_iff_getElem.1 hb
    rw [List.length_take] at hj
    have h3 := h2 (by omega)
    rw [show ((p : Int) - 1) = ((p - 1 : Nat) : Int) by omega, at_get _ _ (by omega)] at h3
    rw [List.getElem_take]
    rcases Nat.lt_or_ge j (p - 1) with hlt | hge
    · have := List.pairwise_iff_getElem.1 h j (p - 1) (by omega) (by omega) hlt
      omega
    · have e : j = p - 1 := by omega
      subst e; exact h3
  refine List.pairwise_append.2 ⟨ht, List.pairwise_cons.2 ⟨hq2, hd⟩, fun a ha b hb => ?_⟩
  rcases List.mem_cons.1 hb with rfl | hb
  · exact hq1 a ha
  · exact htd a ha b hb
/-- What the reference finds of a set: held together by k edges, or cut by fewer. -/
def StrongP (nd k : Int) (es : List Pt) (q side : List Int) (ok : Bool) : Prop :=
  (ok = true → ∀ y ∈ q.drop 1, KE k (inS q es) (at_ q 0) y) ∧ (ok = false → ∃ y ∈ q.drop 1, ∃ val, MinSide (inS q es) nd (at_ q 0) y side val ∧ val < k)
theorem StrongP.kc {nd k : Int} {es : List Pt} {q side : List Int} (h : StrongP nd k es q side true) : KC k es q := by
  have hx : ∀ x ∈ q, KE k (inS q es) (at_ q 0) x := fun x hx => by
    cases q with
    | nil => cases hx
    | cons a l =>
      rcases List.mem_cons.1 hx with rfl | hx
      · exact KE.refl _ _ _
      · exact h.1 rfl x hx
  exact fun x hx' y hy => (hx x hx').symm.trans (hx y hy)

end Go.Sl
namespace Go.Sl
open Go.Proofs
set_option linter.unusedVariables false
set_option linter.unusedSimpArgs false
set_option maxRecDepth 4000
theorem meet_sub {nd : Int} {sd set : List Int} (hv : ValidP sd nd) (h : ∀ x ∈ sd, x ∈ set) : meetL sd set = sd := by
  refine LinO.uniq (lt := fun a b : Int => a < b) intLin ((ofL_asc _).sublist List.filter_sublist) (ValidP_iff.1 hv).2 fun x => ?_
  rw [mem_meetL]
  exact ⟨fun h => h.1, fun hx => ⟨hx, h x hx⟩⟩
theorem ind_of {nd : Int} {es : List Pt} (hG : GrOk nd es) (set : List Int) : indG nd es set = inS set es ∧ indN nd es = nd ∧ (inS set es).length ≤ es.length := by
  have h : ¬ checkG nd es ≠ 0 := fun h => h (checkG_ok.2 hG)
  exact ⟨indG_ref set h, if_neg h, List.length_filter_le _ _⟩
theorem inS_ok {nd : Int} {es : List Pt} (hG : GrOk nd es) (X : List Int) : GrOk nd (inS X es) := ⟨hG.rng, hG.asc.sublist List.filter_sublist, fun e he => hG.edge e (List.mem_filter.1 he).1⟩
theorem strong_ends {nd : Int} {set : List Int} (hv : ValidP set nd) {k : Nat} (hk : k < (List.drop 1 set).length) : endsP nd (at_ set 0) (at_ (List.drop 1 set) (k : Int)) := by
  have h1 := first_lt (ValidP_iff.1 hv).2 hk
  have h2 := (ValidP_iff.1 hv).1 _ h1.2.1
  have h3 := (ValidP_iff.1 hv).1 _ h1.2.2
  unfold endsP; omega

set_option maxHeartbeats 1000000 in
theorem Strong_ok {κ : Ctx} {I : List Item} {nd : Int} {va : Value} {es : List Pt} {sa : Option Addr} {sc : Nat} {set : List Int} (hl : Sl κ I va es) (hs : Sl κ I (.slice sa set.length sc) set) (hG : GrOk nd es) (hv : ValidP set nd) (h2 : 2 ≤ set.length) (hb : es.length ≤ 8000) (kk : Int) :
    CallS Tryd.prog κ 99 [.agg #[I64 (nd), va], .slice sa set.length sc, I64 (kk)] I (fun r J => ∃ a c side ok, r = .tuple #[.slice a side.length c, .bool ok] ∧ StrongP nd kk es set side ok ∧ J = vc 3 (.slice a side.length c) side :: I) := by
 obtain ⟨hI, hN, hIl⟩ := ind_of hG set
 refine CallS.pull hs.le fun hmax => ?_
 have hdl : (List.drop 1 set).length = set.length - 1 := List.length_drop
 refine CallS.enter (L := [(0, .agg #[I64 (nd), va]), (1, .slice sa set.length sc), (2, I64 (kk))]) Tryd.func99 rfl rfl rfl rfl ?_
 refine W.sr ?_
 refine G.e (Eff.box (cs := [_, _]) rfl rfl rfl) ?_
 rintro _ _ ⟨b1, rfl, rfl⟩
 refine G.r (Runs.assign rfl) ?_
 refine G.r (Runs.assign rfl) ?_
 refine G.nt ?_
 refine W.sr ?_
 refine G.r (Runs.lds (vs := [_, _]) ty25) ?_
 refine G.r (Runs.move rfl) ?_
 refine G.e (Eff.call call133 rfl rfl (Induced03_ok (nd := nd) (Sl.f hl) (Sl.f hs) (by omega))) ?_
 rintro _ _ ⟨_, _, ⟨ad2, cp3, rfl, rfl⟩, rfl, rfl⟩
 refine G.r (Runs.move rfl) ?_
 refine G.r (Runs.extract rfl rfl) ?_
 refine G.r (Runs.extract rfl rfl) ?_
 refine G.e (Eff.alloc ty25 rfl) ?_
 rintro _ _ ⟨b4, rfl, rfl⟩
 refine G.e (Eff.st (cs := [_, _]) (vs := [_, _]) (cs' := [_, _]) ty25) ?_
 rintro _ _ ⟨rfl, rfl⟩
 refine G.r (Runs.assign rfl) ?_
 refine G.nt ?_
 refine W.sub (L' := [(8, _), (1, _), (2, _)]) (Sub.cons rfl (Sub.cons rfl (Sub.cons rfl Sub.nil))) ?_
 refine W.seq ?_
 refine W.sr ?_
 refine G.r (Runs.move rfl) ?_
 refine G.r (Runs.lo (α := Int) (xs := set) (l := 1) Tryd.underlying22 ty3 rfl rfl (by omega) (Sl.f hs) (by omega)) ?_
 refine G.r (Runs.lens Tryd.underlying22 rfl) ?_
 refine G.r (Runs.move rfl) ?_
 refine G.nt ?_
 refine W.block ?_
 refine W.loop (σ := Nat) (fun s => ([(1, .slice sa set.length sc), (2, I64 (kk)), (8, .pointer (some ⟨b4, 0, none⟩)), (22, .slice (adrop sa sc 1 (Enc.sz Int)) (List.drop 1 set).length (sc - 1)), (23, I64 ((((List.drop 1 set).length : Nat) : Int))), (24, I64 (((s : Nat) : Int)))] : Env)) (fun s => blk b4 [I64 (indN nd es), .slice ad2 (indG nd es set).length cp3] 25 :: vc 38 (.slice ad2 (indG nd es set).length cp3) (indG nd es set) :: blk b1 [I64 (nd), va] 25 :: I) (fun s => (s ≤ (List.drop 1 set).length) ∧ (∀ j : Nat, j < s → KE kk (inS set es) (at_ set 0) (at_ (List.drop 1 set) (j : Int)))) (fun s => (List.drop 1 set).length - s) (0) (show ((0 : Nat) ≤ (List.drop 1 set).length) ∧ (∀ j : Nat, j < (0 : Nat) → KE kk (inS set es) (at_ set 0) (at_ (List.drop 1 set) (j : Int))) from ⟨(by omega), all_zero⟩) (Sub.cons rfl (Sub.cons rfl (Sub.cons rfl (Sub.cons rfl (Sub.cons rfl (Sub.cons lookO Sub.nil)))))) (show Fit κ _ (blk b4 [I64 (indN nd es), .slice ad2 (indG nd es set).length cp3] 25 :: vc 38 (.slice ad2 (indG nd es set).length cp3) (indG nd es set) :: blk b1 [I64 (nd), va] 25 :: I) from Fit.sub) ?_
 rintro k hp
 obtain ⟨hk, hke⟩ : (k ≤ (List.drop 1 set).length) ∧ (∀ j : Nat, j < k → KE kk (inS set es) (at_ set 0) (at_ (List.drop 1 set) (j : Int))) := hp
 show W Tryd.prog κ 46 _ _ ([(1, .slice sa set.length sc), (2, I64 (kk)), (8, .pointer (some ⟨b4, 0, none⟩)), (22, .slice (adrop sa sc 1 (Enc.sz Int)) (List.drop 1 set).length (sc - 1)), (23, I64 ((((List.drop 1 set).length : Nat) : Int))), (24, I64 (((k : Nat) : Int)))] : Env) (blk b4 [I64 (indN nd es), .slice ad2 (indG nd es set).length cp3] 25 :: vc 38 (.slice ad2 (indG nd es set).length cp3) (indG nd es set) :: blk b1 [I64 (nd), va] 25 :: I)
 refine W.sr ?_
 refine G.r (Runs.lss rfl rfl) ?_
 refine G.nt ?_
 refine W.seq ?_
 refine W.ite rfl (fun c25 => ?_) (fun c25 => ?_)
 ·refine W.skip ?_
  refine V.then ?_
  refine W.seq ?_
  refine W.block ?_
  refine W.sr ?_
  refine G.r (Runs.idx (α := Int) (xs := List.drop 1 set) Tryd.underlying22 ty3 rfl rfl (Sl.drop (Sl.f hs) (by omega)) (by omega) (by omega)) ?_
  refine G.r (Runs.get (xs := List.drop 1 set) ty3 rfl (Sl.drop (Sl.f hs) (by omega)) (by omega) (by omega)) ?_
  refine G.r (Runs.assign rfl) ?_
  refine G.nt ?_
  refine W.seq ?_
  refine W.drawn mixed ?_
  refine A.hold (blk b4 [I64 (indN nd es), .slice ad2 (indG nd es set).length cp3] 25 :: vc 38 (.slice ad2 (indG nd es set).length cp3) (indG nd es set) :: blk b1 [I64 (nd), va] 25 :: I) 12 ?_
  refine D.r 0 rfl (Runs.lds (vs := [_, _]) ty25) ?_ (hJ := Fit.sub)
  refine D.r 1 rfl (Runs.move rfl) ?_ (hJ := Fit.sub)
  refine D.r 2 rfl (Runs.idx (α := Int) (xs := set) Tryd.underlying22 ty3 rfl rfl (Sl.f hs) (by omega) (by omega)) ?_ (hJ := Fit.sub)
  refine D.r 3 rfl (Runs.get (xs := set) ty3 rfl (Sl.f hs) (by omega) (by omega)) ?_ (hJ := Fit.sub)
  refine D.r 4 rfl (Runs.move rfl) ?_ (hJ := Fit.sub)
  refine D.step (rs := [5, 10]) (by kernel_rfl) rfl rfl (all2 ?_ (all1 ?_))
  ·refine Step.eff rfl (Wanted.plain rfl) (Eff.call call50 rfl rfl (Lambda17_ok (nd := (indN nd es)) Sl.o (at_ set 0) (at_ (List.drop 1 set) ((k : Nat) : Int)) (by rw [hI]; omega))) ?_
   rintro _ _ ⟨_, _, ⟨ad5, cp6, sd7, vl8, rfl, hsd7, rfl⟩, rfl, rfl⟩
   refine ⟨Fit.sub, ?_⟩
   refine D.r 6 rfl (Runs.move rfl) ?_ (hJ := Fit.sub)
   refine D.r 7 rfl (Runs.extract rfl rfl) ?_ (hJ := Fit.sub)
   refine D.r 8 rfl (Runs.extract rfl rfl) ?_ (hJ := Fit.sub)
   refine D.step (rs := [9, 10]) (by kernel_rfl) rfl rfl (all2 ?_ (all1 ?_))
   ·refine Step.read rfl (Wanted.plain rfl) rfl rfl (Runs.extract rfl rfl) Fit.sub ?_
    refine D.step (rs := [10]) (by kernel_rfl) rfl rfl (all1 ?_)
    refine Step.eff rfl (Wanted.plain rfl) (Eff.alloc ty69 rfl) ?_
    rintro _ _ ⟨b9, rfl, rfl⟩
    refine ⟨Fit.sub, ?_⟩
    refine D.r 11 rfl (Runs.assign rfl) ?_ (hJ := Fit.sub)
    refine D.stop (by kernel_rfl) ?_
    refine A.eff (i := 12) (by kernel_rfl) rfl (Wanted.plain rfl) (Eff.st (cs := [_, _]) (vs := [_, _]) (cs' := [_, _]) ty69) ?_
    rintro _ _ ⟨rfl, rfl⟩
    refine A.read (i := 13) (by kernel_rfl) rfl (Wanted.plain rfl) rfl rfl (Runs.assign rfl) ?_
    refine A.done (by kernel_rfl) ?_
    refine V.then ?_
    refine W.sub (L' := [(12, _), (13, _), (1, _), (2, _), (8, _), (22, _), (23, _), (24, _)]) (Sub.cons rfl (Sub.cons rfl (Sub.cons rfl (Sub.cons rfl (Sub.cons rfl (Sub.cons rfl (Sub.cons rfl (Sub.cons rfl Sub.nil)))))))) ?_
    refine W.sr ?_
    refine G.r (Runs.move rfl) ?_
    refine G.r (Runs.move rfl) ?_
    refine G.r (Runs.lss rfl rfl) ?_
    refine G.nt ?_
    refine W.ite rfl (fun c40 => ?_) (fun c40 => ?_)
    ·refine W.sr ?_
     refine G.r (Runs.fieldAddr fld69_0 rfl) ?_
     refine G.r (Runs.ld ty22) ?_
     refine G.r (Runs.move rfl) ?_
     have hms := hsd7
     rw [hN, hI] at hms
     have hmn := hms.2 (lamE_zero.2 ⟨inS_ok hG set, strong_ends hv (by omega)⟩)
     have hsl : sd7.length ≤ 64 := by rw [← list_mask hmn.valid hG.rng.2]; exact listB_len _
     refine G.e (Eff.call call25 rfl rfl (Meet_ok Sl.o (Sl.f hs) (by omega))) ?_
     rintro _ _ ⟨_, _, ⟨ad10, cp11, rfl, rfl⟩, rfl, rfl⟩
     refine G.r (Runs.assign rfl) ?_
     refine G.r (Runs.assign rfl) ?_
     refine G.nt ?_
     refine W.sub (L' := [(7, _), (6, _)]) (Sub.cons rfl (Sub.cons rfl Sub.nil)) ?_
     refine W.ret ?_
     refine V.block_ret ?_
     refine V.then_ret ?_
     refine V.then_ret ?_
     refine V.block_ret ?_
     refine V.then_ret ?_
     have hms := hsd7
     rw [hN, hI] at hms
     have hmn := hms.2 (lamE_zero.2 ⟨inS_ok hG set, strong_ends hv (by omega)⟩)
     have hmt : meetL sd7 set = sd7 := meet_sub hmn.valid (hmn.within (head_mem (by omega)))
     exact V.ret2 rfl rfl rfl (vc 3 (.slice ad10 sd7.length cp11) sd7 :: I) (by rw [hmt]; exact Fit.sub) ⟨ad10, cp11, sd7, false, by rw [hmt], ⟨fun h => (by cases h), fun _ => ⟨_, at_mem (by omega) (by omega), _, hmn, by omega⟩⟩, rfl⟩
    ·refine W.skip ?_
     refine V.block_normal ?_
     refine V.then ?_
     refine W.region ?_
     refine G.r (Runs.add rfl rfl (by unfold InR; omega)) ?_
     refine G.r (Runs.move rfl) ?_
     refine G.nil ?_
     have hms := hsd7
     rw [hN, hI] at hms
     have hmn := hms.2 (lamE_zero.2 ⟨inS_ok hG set, strong_ends hv (by omega)⟩)
     exact V.next ((k + 1)) (show ((k + 1 : Nat) ≤ (List.drop 1 set).length) ∧ (∀ j : Nat, j < (k + 1 : Nat) → KE kk (inS set es) (at_ set 0) (at_ (List.drop 1 set) (j : Int))) from ⟨(by omega), (all_succ hke (hmn.ke.1 (by omega)))⟩) (show (List.drop 1 set).length - (k + 1 : Nat) < (List.drop 1 set).length - k from (by omega)) (Sub.cons rfl (Sub.cons rfl (Sub.cons rfl (Sub.cons rfl (Sub.cons rfl (Sub.cons lookO Sub.nil)))))) (show Fit κ _ (blk b4 [I64 (indN nd es), .slice ad2 (indG nd es set).length cp3] 25 :: vc 38 (.slice ad2 (indG nd es set).length cp3) (indG nd es set) :: blk b1 [I64 (nd), va] 25 :: I) from Fit.sub)
   ·refine Step.eff rfl (Wanted.plain rfl) (Eff.alloc ty69 rfl) ?_
    rintro _ _ ⟨b12, rfl, rfl⟩
    refine ⟨Fit.sub, ?_⟩
    refine D.r 11 rfl (Runs.assign rfl) ?_ (hJ := Fit.sub)
    refine D.step (rs := [9, 12]) (by kernel_rfl) rfl rfl (all2 ?_ (all1 ?_))
    ·refine Step.read rfl (Wanted.plain rfl) rfl rfl (Runs.extract rfl rfl) Fit.sub ?_
     refine D.stop (by kernel_rfl) ?_
     refine A.eff (i := 12) (by kernel_rfl) rfl (Wanted.plain rfl) (Eff.st (cs := [_, _]) (vs := [_, _]) (cs' := [_, _]) ty69) ?_
     rintro _ _ ⟨rfl, rfl⟩
     refine A.read (i := 13) (by kernel_rfl) rfl (Wanted.plain rfl) rfl rfl (Runs.assign rfl) ?_
     refine A.done (by kernel_rfl) ?_
     refine V.then ?_
     refine W.sub (L' := [(12, _), (13, _), (1, _), (2, _), (8, _), (22, _), (23, _), (24, _)]) (Sub.cons rfl (Sub.cons rfl (Sub.cons rfl (Sub.cons rfl (Sub.cons rfl (Sub.cons rfl (Sub.cons rfl (Sub.cons rfl Sub.nil)))))))) ?_
     refine W.sr ?_
     refine G.r (Runs.move rfl) ?_
     refine G.r (Runs.move rfl) ?_
     refine G.r (Runs.lss rfl rfl) ?_
     refine G.nt ?_
     refine W.ite rfl (fun c40 => ?_) (fun c40 => ?_)
     ·refine W.sr ?_
      refine G.r (Runs.fieldAddr fld69_0 rfl) ?_
      refine G.r (Runs.ld ty22) ?_
      refine G.r (Runs.move rfl) ?_
      have hms := hsd7
      rw [hN, hI] at hms
      have hmn := hms.2 (lamE_zero.2 ⟨inS_ok hG set, strong_ends hv (by omega)⟩)
      have hsl : sd7.length ≤ 64 := by rw [← list_mask hmn.valid hG.rng.2]; exact listB_len _
      refine G.e (Eff.call call25 rfl rfl (Meet_ok Sl.o (Sl.f hs) (by omega))) ?_
      rintro _ _ ⟨_, _, ⟨ad13, cp14, rfl, rfl⟩, rfl, rfl⟩
      refine G.r (Runs.assign rfl) ?_
      refine G.r (Runs.assign rfl) ?_
      refine G.nt ?_
      refine W.sub (L' := [(7, _), (6, _)]) (Sub.cons rfl (Sub.cons rfl Sub.nil)) ?_
      refine W.ret ?_
      refine V.block_ret ?_
      refine V.then_ret ?_
      refine V.then_ret ?_
      refine V.block_ret ?_
      refine V.then_ret ?_
      have hms := hsd7
      rw [hN, hI] at hms
      have hmn := hms.2 (lamE_zero.2 ⟨inS_ok hG set, strong_ends hv (by omega)⟩)
      have hmt : meetL sd7 set = sd7 := meet_sub hmn.valid (hmn.within (head_mem (by omega)))
      exact V.ret2 rfl rfl rfl (vc 3 (.slice ad13 sd7.length cp14) sd7 :: I) (by rw [hmt]; exact Fit.sub) ⟨ad13, cp14, sd7, false, by rw [hmt], ⟨fun h => (by cases h), fun _ => ⟨_, at_mem (by omega) (by omega), _, hmn, by omega⟩⟩, rfl⟩
     ·refine W.skip ?_
      refine V.block_normal ?_
      refine V.then ?_
      refine W.region ?_
      refine G.r (Runs.add rfl rfl (by unfold InR; omega)) ?_
      refine G.r (Runs.move rfl) ?_
      refine G.nil ?_
      have hms := hsd7
      rw [hN, hI] at hms
      have hmn := hms.2 (lamE_zero.2 ⟨inS_ok hG set, strong_ends hv (by omega)⟩)
      exact V.next ((k + 1)) (show ((k + 1 : Nat) ≤ (List.drop 1 set).length) ∧ (∀ j : Nat, j < (k + 1 : Nat) → KE kk (inS set es) (at_ set 0) (at_ (List.drop 1 set) (j : Int))) from ⟨(by omega), (all_succ hke (hmn.ke.1 (by omega)))⟩) (show (List.drop 1 set).length - (k + 1 : Nat) < (List.drop 1 set).length - k from (by omega)) (Sub.cons rfl (Sub.cons rfl (Sub.cons rfl (Sub.cons rfl (Sub.cons rfl (Sub.cons lookO Sub.nil)))))) (show Fit κ _ (blk b4 [I64 (indN nd es), .slice ad2 (indG nd es set).length cp3] 25 :: vc 38 (.slice ad2 (indG nd es set).length cp3) (indG nd es set) :: blk b1 [I64 (nd), va] 25 :: I) from Fit.sub)
    ·refine Step.eff rfl (Wanted.plain rfl) (Eff.st (cs := [_, _]) (vs := [_, _]) (cs' := [_, _]) ty69) ?_
     rintro _ _ ⟨rfl, rfl⟩
     refine ⟨Fit.sub, ?_⟩
     refine D.step (rs := [9]) (by kernel_rfl) rfl rfl (all1 ?_)
     refine Step.read rfl (Wanted.plain rfl) rfl rfl (Runs.extract rfl rfl) Fit.sub ?_
     refine D.step (rs := [13]) (by kernel_rfl) rfl rfl (all1 ?_)
     refine Step.read rfl (Wanted.plain rfl) rfl rfl (Runs.assign rfl) Fit.sub ?_
     refine D.done (by kernel_rfl) ?_
     refine V.then ?_
     refine W.sub (L' := [(12, _), (13, _), (1, _), (2, _), (8, _), (22, _), (23, _), (24, _)]) (Sub.cons rfl (Sub.cons rfl (Sub.cons rfl (Sub.cons rfl (Sub.cons rfl (Sub.cons rfl (Sub.cons rfl (Sub.cons rfl Sub.nil)))))))) ?_
     refine W.sr ?_
     refine G.r (Runs.move rfl) ?_
     refine G.r (Runs.move rfl) ?_
     refine G.r (Runs.lss rfl rfl) ?_
     refine G.nt ?_
     refine W.ite rfl (fun c40 => ?_) (fun c40 => ?_)
     ·refine W.sr ?_
      refine G.r (Runs.fieldAddr fld69_0 rfl) ?_
      refine G.r (Runs.ld ty22) ?_
      refine G.r (Runs.move rfl) ?_
      have hms := hsd7
      rw [hN, hI] at hms
      have hmn := hms.2 (lamE_zero.2 ⟨inS_ok hG set, strong_ends hv (by omega)⟩)
      have hsl : sd7.length ≤ 64 := by rw [← list_mask hmn.valid hG.rng.2]; exact listB_len _
      refine G.e (Eff.call call25 rfl rfl (Meet_ok Sl.o (Sl.f hs) (by omega))) ?_
      rintro _ _ ⟨_, _, ⟨ad15, cp16, rfl, rfl⟩, rfl, rfl⟩
      refine G.r (Runs.assign rfl) ?_
      refine G.r (Runs.assign rfl) ?_
      refine G.nt ?_
      refine W.sub (L' := [(7, _), (6, _)]) (Sub.cons rfl (Sub.cons rfl Sub.nil)) ?_
      refine W.ret ?_
      refine V.block_ret ?_
      refine V.then_ret ?_
      refine V.then_ret ?_
      refine V.block_ret ?_
      refine V.then_ret ?_
      have hms := hsd7
      rw [hN, hI] at hms
      have hmn := hms.2 (lamE_zero.2 ⟨inS_ok hG set, strong_ends hv (by omega)⟩)
      have hmt : meetL sd7 set = sd7 := meet_sub hmn.valid (hmn.within (head_mem (by omega)))
      exact V.ret2 rfl rfl rfl (vc 3 (.slice ad15 sd7.length cp16) sd7 :: I) (by rw [hmt]; exact Fit.sub) ⟨ad15, cp16, sd7, false, by rw [hmt], ⟨fun h => (by cases h), fun _ => ⟨_, at_mem (by omega) (by omega), _, hmn, by omega⟩⟩, rfl⟩
     ·refine W.skip ?_
      refine V.block_normal ?_
      refine V.then ?_
      refine W.region ?_
      refine G.r (Runs.add rfl rfl (by unfold InR; omega)) ?_
      refine G.r (Runs.move rfl) ?_
      refine G.nil ?_
      have hms := hsd7
      rw [hN, hI] at hms
      have hmn := hms.2 (lamE_zero.2 ⟨inS_ok hG set, strong_ends hv (by omega)⟩)
      exact V.next ((k + 1)) (show ((k + 1 : Nat) ≤ (List.drop 1 set).length) ∧ (∀ j : Nat, j < (k + 1 : Nat) → KE kk (inS set es) (at_ set 0) (at_ (List.drop 1 set) (j : Int))) from ⟨(by omega), (all_succ hke (hmn.ke.1 (by omega)))⟩) (show (List.drop 1 set).length - (k + 1 : Nat) < (List.drop 1 set).length - k from (by omega)) (Sub.cons rfl (Sub.cons rfl (Sub.cons rfl (Sub.cons rfl (Sub.cons rfl (Sub.cons lookO Sub.nil)))))) (show Fit κ _ (blk b4 [I64 (indN nd es), .slice ad2 (indG nd es set).length cp3] 25 :: vc 38 (.slice ad2 (indG nd es set).length cp3) (indG nd es set) :: blk b1 [I64 (nd), va] 25 :: I) from Fit.sub)
  ·refine Step.eff rfl (Wanted.plain rfl) (Eff.alloc ty69 rfl) ?_
   rintro _ _ ⟨b17, rfl, rfl⟩
   refine ⟨Fit.sub, ?_⟩
   refine D.step (rs := [5]) (by kernel_rfl) rfl rfl (all1 ?_)
   refine Step.eff rfl (Wanted.plain rfl) (Eff.call call50 rfl rfl (Lambda17_ok (nd := (indN nd es)) Sl.o (at_ set 0) (at_ (List.drop 1 set) ((k : Nat) : Int)) (by rw [hI]; omega))) ?_
   rintro _ _ ⟨_, _, ⟨ad18, cp19, sd20, vl21, rfl, hsd20, rfl⟩, rfl, rfl⟩
   refine ⟨Fit.sub, ?_⟩
   refine D.r 6 rfl (Runs.move rfl) ?_ (hJ := Fit.sub)
   refine D.r 7 rfl (Runs.extract rfl rfl) ?_ (hJ := Fit.sub)
   refine D.r 8 rfl (Runs.extract rfl rfl) ?_ (hJ := Fit.sub)
   refine D.r 11 rfl (Runs.assign rfl) ?_ (hJ := Fit.sub)
   refine D.step (rs := [9, 12]) (by kernel_rfl) rfl rfl (all2 ?_ (all1 ?_))
   ·refine Step.read rfl (Wanted.plain rfl) rfl rfl (Runs.extract rfl rfl) Fit.sub ?_
    refine D.stop (by kernel_rfl) ?_
    refine A.eff (i := 12) (by kernel_rfl) rfl (Wanted.plain rfl) (Eff.st (cs := [_, _]) (vs := [_, _]) (cs' := [_, _]) ty69) ?_
    rintro _ _ ⟨rfl, rfl⟩
    refine A.read (i := 13) (by kernel_rfl) rfl (Wanted.plain rfl) rfl rfl (Runs.assign rfl) ?_
    refine A.done (by kernel_rfl) ?_
    refine V.then ?_
    refine W.sub (L' := [(12, _), (13, _), (1, _), (2, _), (8, _), (22, _), (23, _), (24, _)]) (Sub.cons rfl (Sub.cons rfl (Sub.cons rfl (Sub.cons rfl (Sub.cons rfl (Sub.cons rfl (Sub.cons rfl (Sub.cons rfl Sub.nil)))))))) ?_
    refine W.sr ?_
    refine G.r (Runs.move rfl) ?_
    refine G.r (Runs.move rfl) ?_
    refine G.r (Runs.lss rfl rfl) ?_
    refine G.nt ?_
    refine W.ite rfl (fun c40 => ?_) (fun c40 => ?_)
    ·refine W.sr ?_
     refine G.r (Runs.fieldAddr fld69_0 rfl) ?_
     refine G.r (Runs.ld ty22) ?_
     refine G.r (Runs.move rfl) ?_
     have hms := hsd20
     rw [hN, hI] at hms
     have hmn := hms.2 (lamE_zero.2 ⟨inS_ok hG set, strong_ends hv (by omega)⟩)
     have hsl : sd20.length ≤ 64 := by rw [← list_mask hmn.valid hG.rng.2]; exact listB_len _
     refine G.e (Eff.call call25 rfl rfl (Meet_ok Sl.o (Sl.f hs) (by omega))) ?_
     rintro _ _ ⟨_, _, ⟨ad22, cp23, rfl, rfl⟩, rfl, rfl⟩
     refine G.r (Runs.assign rfl) ?_
     refine G.r (Runs.assign rfl) ?_
     refine G.nt ?_
     refine W.sub (L' := [(7, _), (6, _)]) (Sub.cons rfl (Sub.cons rfl Sub.nil)) ?_
     refine W.ret ?_
     refine V.block_ret ?_
     refine V.then_ret ?_
     refine V.then_ret ?_
     refine V.block_ret ?_
     refine V.then_ret ?_
     have hms := hsd20
     rw [hN, hI] at hms
     have hmn := hms.2 (lamE_zero.2 ⟨inS_ok hG set, strong_ends hv (by omega)⟩)
     have hmt : meetL sd20 set = sd20 := meet_sub hmn.valid (hmn.within (head_mem (by omega)))
     exact V.ret2 rfl rfl rfl (vc 3 (.slice ad22 sd20.length cp23) sd20 :: I) (by rw [hmt]; exact Fit.sub) ⟨ad22, cp23, sd20, false, by rw [hmt], ⟨fun h => (by cases h), fun _ => ⟨_, at_mem (by omega) (by omega), _, hmn, by omega⟩⟩, rfl⟩
    ·refine W.skip ?_
     refine V.block_normal ?_
     refine V.then ?_
     refine W.region ?_
     refine G.r (Runs.add rfl rfl (by unfold InR; omega)) ?_
     refine G.r (Runs.move rfl) ?_
     refine G.nil ?_
     have hms := hsd20
     rw [hN, hI] at hms
     have hmn := hms.2 (lamE_zero.2 ⟨inS_ok hG set, strong_ends hv (by omega)⟩)
     exact V.next ((k + 1)) (show ((k + 1 : Nat) ≤ (List.drop 1 set).length) ∧ (∀ j : Nat, j < (k + 1 : Nat) → KE kk (inS set es) (at_ set 0) (at_ (List.drop 1 set) (j : Int))) from ⟨(by omega), (all_succ hke (hmn.ke.1 (by omega)))⟩) (show (List.drop 1 set).length - (k + 1 : Nat) < (List.drop 1 set).length - k from (by omega)) (Sub.cons rfl (Sub.cons rfl (Sub.cons rfl (Sub.cons rfl (Sub.cons rfl (Sub.cons lookO Sub.nil)))))) (show Fit κ _ (blk b4 [I64 (indN nd es), .slice ad2 (indG nd es set).length cp3] 25 :: vc 38 (.slice ad2 (indG nd es set).length cp3) (indG nd es set) :: blk b1 [I64 (nd), va] 25 :: I) from Fit.sub)
   ·refine Step.eff rfl (Wanted.plain rfl) (Eff.st (cs := [_, _]) (vs := [_, _]) (cs' := [_, _]) ty69) ?_
    rintro _ _ ⟨rfl, rfl⟩
    refine ⟨Fit.sub, ?_⟩
    refine D.step (rs := [9]) (by kernel_rfl) rfl rfl (all1 ?_)
    refine Step.read rfl (Wanted.plain rfl) rfl rfl (Runs.extract rfl rfl) Fit.sub ?_
    refine D.step (rs := [13]) (by kernel_rfl) rfl rfl (all1 ?_)
    refine Step.read rfl (Wanted.plain rfl) rfl rfl (Runs.assign rfl) Fit.sub ?_
    refine D.done (by kernel_rfl) ?_
    refine V.then ?_
    refine W.sub (L' := [(12, _), (13, _), (1, _), (2, _), (8, _), (22, _), (23, _), (24, _)]) (Sub.cons rfl (Sub.cons rfl (Sub.cons rfl (Sub.cons rfl (Sub.cons rfl (Sub.cons rfl (Sub.cons rfl (Sub.cons rfl Sub.nil)))))))) ?_
    refine W.sr ?_
    refine G.r (Runs.move rfl) ?_
    refine G.r (Runs.move rfl) ?_
    refine G.r (Runs.lss rfl rfl) ?_
    refine G.nt ?_
    refine W.ite rfl (fun c40 => ?_) (fun c40 => ?_)
    ·refine W.sr ?_
     refine G.r (Runs.fieldAddr fld69_0 rfl) ?_
     refine G.r (Runs.ld ty22) ?_
     refine G.r (Runs.move rfl) ?_
     have hms := hsd20
     rw [hN, hI] at hms
     have hmn := hms.2 (lamE_zero.2 ⟨inS_ok hG set, strong_ends hv (by omega)⟩)
     have hsl : sd20.length ≤ 64 := by rw [← list_mask hmn.valid hG.rng.2]; exact listB_len _
     refine G.e (Eff.call call25 rfl rfl (Meet_ok Sl.o (Sl.f hs) (by omega))) ?_
     rintro _ _ ⟨_, _, ⟨ad24, cp25, rfl, rfl⟩, rfl, rfl⟩
     refine G.r (Runs.assign rfl) ?_
     refine G.r (Runs.assign rfl) ?_
     refine G.nt ?_
     refine W.sub (L' := [(7, _), (6, _)]) (Sub.cons rfl (Sub.cons rfl Sub.nil)) ?_
     refine W.ret ?_
     refine V.block_ret ?_
     refine V.then_ret ?_
     refine V.then_ret ?_
     refine V.block_ret ?_
     refine V.then_ret ?_
     have hms := hsd20
     rw [hN, hI] at hms
     have hmn := hms.2 (lamE_zero.2 ⟨inS_ok hG set, strong_ends hv (by omega)⟩)
     have hmt : meetL sd20 set = sd20 := meet_sub hmn.valid (hmn.within (head_mem (by omega)))
     exact V.ret2 rfl rfl rfl (vc 3 (.slice ad24 sd20.length cp25) sd20 :: I) (by rw [hmt]; exact Fit.sub) ⟨ad24, cp25, sd20, false, by rw [hmt], ⟨fun h => (by cases h), fun _ => ⟨_, at_mem (by omega) (by omega), _, hmn, by omega⟩⟩, rfl⟩
    ·refine W.skip ?_
     refine V.block_normal ?_
     refine V.then ?_
     refine W.region ?_
     refine G.r (Runs.add rfl rfl (by unfold InR; omega)) ?_
     refine G.r (Runs.move rfl) ?_
     refine G.nil ?_
     have hms := hsd20
     rw [hN, hI] at hms
     have hmn := hms.2 (lamE_zero.2 ⟨inS_ok hG set, strong_ends hv (by omega)⟩)
     exact V.next ((k + 1)) (show ((k + 1 : Nat) ≤ (List.drop 1 set).length) ∧ (∀ j : Nat, j < (k + 1 : Nat) → KE kk (inS set es) (at_ set 0) (at_ (List.drop 1 set) (j : Int))) from ⟨(by omega), (all_succ hke (hmn.ke.1 (by omega)))⟩) (show (List.drop 1 set).length - (k + 1 : Nat) < (List.drop 1 set).length - k from (by omega)) (Sub.cons rfl (Sub.cons rfl (Sub.cons rfl (Sub.cons rfl (Sub.cons rfl (Sub.cons lookO Sub.nil)))))) (show Fit κ _ (blk b4 [I64 (indN nd es), .slice ad2 (indG nd es set).length cp3] 25 :: vc 38 (.slice ad2 (indG nd es set).length cp3) (indG nd es set) :: blk b1 [I64 (nd), va] 25 :: I) from Fit.sub)
 ·refine W.exit ?_
  refine V.then_exit ?_
  refine V.then_exit ?_
  refine V.block_hit ?_
  refine V.then ?_
  refine W.sr ?_
  refine G.r (Runs.assign rfl) ?_
  refine G.r (Runs.assign rfl) ?_
  refine G.nt ?_
  refine W.ret ?_
  exact V.ret2 rfl rfl rfl (vc 3 (.slice none ([] : List Int).length 0) ([] : List Int) :: I) (Fit.trans (show Fit κ _ I from Fit.m) (Fit.nilvc (α := Int) _ _)) ⟨none, 0, [], true, rfl, ⟨fun _ y hy => (by obtain ⟨j, hj, rfl⟩ := mem_at hy; exact hke j (by omega)), fun h => (by cases h)⟩, rfl⟩

end Go.Sl
namespace Go.Sl
open Go.Proofs
set_option linter.unusedVariables false
set_option linter.unusedSimpArgs false
set_option maxRecDepth 4000
def mW (l : List (List Int)) : Nat := (l.map fun q => 2 * q.length - 1).sum
theorem mW_cons (q : List Int) (l : List (List Int)) : mW (q :: l) = (2 * q.length - 1) + mW l := rfl
theorem mW_append (l m : List (List Int)) : mW (l ++ m) = mW l + mW m := by simp [mW]
theorem mW_le (l : List (List Int)) : mW l ≤ 2 * l.flatten.length := by
  induction l with
  | nil => simp [mW]
  | cons q l ih => rw [mW_cons, List.flatten_cons, List.length_append]; omega
theorem mW_ge {l : List (List Int)} (h : ∀ q ∈ l, 1 ≤ q.length) : l.length ≤ mW l := by
  induction l with
  | nil => simp [mW]
  | cons q l ih =>
    have h1 := h q List.mem_cons_self
    have h2 := ih fun p hp => h p (List.mem_cons_of_mem _ hp)
    rw [mW_cons, List.length_cons]; omega
theorem disj_flatten {l : List (List Int)} (h : l.flatten.Nodup) : DisjL l := by
  have h2 := (List.pairwise_flatten.1 h).2
  exact h2.imp fun {a b} hab x hx hxb => hab x hx x hxb rfl
theorem comps_start {nd k : Int} {es : List Pt} (hG : GrOk nd es) (hk : 1 ≤ k) : WorkP nd k es (compsG nd es) [] ∧ (∀ q ∈ compsG nd es, 1 ≤ q.length) ∧ mW (compsG nd es) ≤ 128 := by
  have hw := comps_whole hG
  have hr := hG.rng
  have hz : ¬ checkG nd es ≠ 0 := fun h => h (checkG_ok.2 hG)
  have hmem : ∀ q ∈ compsG nd es, ∃ j : Nat, j < 64 ∧ q = listB (reachB (rowsB nd es) (oneB j) (allB nd)) := fun q hq => by
    unfold compsG at hq
    rw [if_neg hz] at hq
    obtain ⟨m, hm, rfl⟩ := List.mem_map.1 hq
    obtain ⟨_, j, hj, _, e⟩ := groups_mem (rowsB_sym hG) _ _ .all m hm
    exact ⟨j, hj, by rw [e]⟩
  refine ⟨WorkP.start hk (fun q hq => ?_) (disj_flatten (hw.nodup_iff.2 ((rangeI_asc nd).imp fun h => by omega))) (fun x h0 h1 => ?_) fun q hq e he => ?_, fun q hq => ?_, ?_⟩
  · obtain ⟨j, _, e⟩ := hmem q hq
    refine ValidP_iff.2 ⟨fun x hx => ?_, by rw [e]; exact listB_asc _⟩
    have := mem_rangeI.1 (hw.mem_iff.1 (List.mem_flatten.2 ⟨q, hq, hx⟩))
    omega
  · have := hw.mem_iff.2 (mem_rangeI.2 ⟨h0, h1, by omega⟩)
    exact List.mem_flatten.1 this
  · obtain ⟨j, hj, rfl⟩ := hmem q hq
    have hb := hG.edge e he
    have step : ∀ a b : Int, adjR (rowsB nd es) a b → b < nd → a ∈ listB (reachB (rowsB nd es) (oneB j) (allB nd)) → b ∈ listB (reachB (rowsB nd es) (oneB j) (allB nd)) := fun a b hab hbn ha => by
      obtain ⟨h0, _, h2⟩ := hab
      obtain ⟨h3, h4⟩ := mem_listB.1 h2
      obtain ⟨_, h5⟩ := mem_listB.1 ha
      have hc : Conn (rowsB nd es) (allB nd) j a.toNat := ⟨hj, h5⟩
      have := hc.step (k := b.toNat) (by rw [Int.toNat_of_nonneg h0]; exact h4) (by rw [getLsb_allB hr.1 hr.2 (by omega)]; exact decide_eq_true (by omega))
      exact mem_listB.2 ⟨h3, this.2⟩
    exact ⟨step e.u e.v ((adj_edge hG).2 ⟨by omega, by omega, .inl he⟩) (by omega), step e.v e.u ((adj_edge hG).2 ⟨by omega, by omega, .inr he⟩) (by omega)⟩
  · have := comps_ne hG q hq
    cases q with
    | nil => exact absurd rfl this
    | cons a l => rw [List.length_cons]; omega
  · have h1 := mW_le (compsG nd es)
    have h2 := hw.length_eq
    have h3 : (rangeI nd).length = nd.toNat := by unfold rangeI; simp; omega
    omega

end Go.Sl
namespace Go.Sl
open Go.Proofs
set_option linter.unusedVariables false
set_option linter.unusedSimpArgs false
set_option maxRecDepth 4000
theorem cut_len {nd val x0 y : Int} {es : List Pt} {q side : List Int} (hv : ValidP q nd) (hm : MinSide (inS q es) nd x0 y side val) (hx : x0 ∈ q) : side.length + (minusL q side).length = q.length := by
  have hw := hm.within hx
  have h1 : (side ++ minusL q side).Perm q := by
    refine (List.perm_ext_iff_of_nodup ?_ (valid_nodup hv)).2 fun z => ?_
    · rw [List.nodup_append]
      exact ⟨valid_nodup hm.valid, (minus_asc _ _).imp fun h => by omega, fun a ha b hb e => (mem_minusL.1 hb).2 (e ▸ ha)⟩
    · rw [List.mem_append, mem_minusL]
      constructor
      · rintro (h | h)
        · exact hw z h
        · exact h.1
      · intro h
        by_cases hs : z ∈ side
        · exact .inl hs
        · exact .inr ⟨h, hs⟩
  have := h1.length_eq
  rwa [List.length_append] at this
theorem heads_step {r0 : RowG Int} {rest : List (List Int)} {os : List (RowG Int)} {p : Nat} (hd : DisjL ((r0.xs :: rest) ++ os.map RowG.xs)) (hS : (os.map RowG.xs).Pairwise fun a b => at_ a 0 < at_ b 0) (hv : ∀ b ∈ os.map RowG.xs, 2 ≤ b.length) (h2 : 2 ≤ r0.xs.length) (hp : p ≤ os.length)
    (hgt : ∀ j : Nat, p ≤ j → j < os.length → at_ r0.xs 0 < at_ (at_ os (j : Int)).xs 0) (hst : p = 0 ∨ (0 < p ∧ ¬ at_ r0.xs 0 < at_ (at_ os ((p : Int) - 1)).xs 0)) :
    ((os.take p ++ ([r0] ++ os.drop p)).map RowG.xs).Pairwise fun a b => at_ a 0 < at_ b 0 := by
  rw [List.map_append, List.map_append, List.map_take, List.map_drop]
  refine heads_put hS (by rw [List.length_map]; exact hp) (fun j h1 h3 => ?_) fun h0 => ?_
  · have h4 : j < os.length := by rwa [List.length_map] at h3
    rw [← map_at rfl (j : Int) (by omega) (by omega)]; exact hgt j h1 h4
  · have hm : at_ os ((p : Int) - 1) ∈ os := at_mem (by omega) (by omega)
    have hb : (at_ os ((p : Int) - 1)).xs ∈ os.map RowG.xs := List.mem_map_of_mem hm
    rw [← map_at rfl ((p : Int) - 1) (by omega) (by rw [List.length_map]; omega)]
    have h5 := (List.pairwise_cons.1 hd).1 _ (List.mem_append_right _ hb) _ (head_mem (by omega))
    have h6 := hv _ hb
    have h7 : at_ r0.xs 0 ≠ at_ (at_ os ((p : Int) - 1)).xs 0 := fun e => h5 (by rw [e]; exact head_mem (by omega))
    omega
theorem rows_cons {rs : List (RowG Int)} (h : 0 < rs.length) : rs = at_ rs 0 :: rs.drop 1 := by
  cases rs with
  | nil => simp at h
  | cons r rs => rfl
theorem rows_cons_xs {rs : List (RowG Int)} (h : 0 < rs.length) : rs.map RowG.xs = (at_ rs 0).xs :: (rs.drop 1).map RowG.xs := by
  cases rs with
  | nil => simp at h
  | cons r rs => rfl
theorem Fit.ownR_two {κ : Ctx} {I : List Item} {e : TypeId} {rs os : List (RowG Int)} {r1 r2 : RowG Int} {A : List Item} : Fit κ (A ++ vc e (.slice r1.a r1.xs.length r1.c) r1.xs :: vc e (.slice r2.a r2.xs.length r2.c) r2.xs :: (ownR e (rs ++ os) ++ I)) (A ++ (ownR e ((rs.drop 1 ++ [r1, r2]) ++ os) ++ I)) := by
  have h := Fit.ownR_sub (κ := κ) (I := I) (e := e) (A := A) (rs := r1 :: r2 :: (rs ++ os)) (ys := (rs.drop 1 ++ [r1, r2]) ++ os) (zs := r1 :: r2 :: (rs.drop 1 ++ os)) (by
    rw [List.append_assoc]
    exact List.perm_middle.trans (List.Perm.cons _ List.perm_middle)) (((List.Sublist.append_right (List.drop_sublist 1 rs) os).cons_cons r2).cons_cons r1)
  exact h
theorem Fit.ownR_less {κ : Ctx} {I : List Item} {e : TypeId} {rs os : List (RowG Int)} {A : List Item} : Fit κ (A ++ (ownR e (rs ++ os) ++ I)) (A ++ (ownR e (rs.drop 1 ++ os) ++ I)) :=
  Fit.ownR_sub (.refl _) (List.Sublist.append_right (List.drop_sublist 1 rs) os)
theorem Fit.ownR_put {κ : Ctx} {I : List Item} {e : TypeId} {rs os : List (RowG Int)} {p : Nat} {A : List Item} (h : 0 < rs.length) : Fit κ (A ++ (ownR e (rs ++ os) ++ I)) (A ++ (ownR e (rs.drop 1 ++ (os.take p ++ ([at_ rs 0] ++ os.drop p))) ++ I)) := by
  refine Fit.ownR_perm ?_
  conv => rhs; rw [rows_cons h]
  have h1 : (os.take p ++ ([at_ rs 0] ++ os.drop p)).Perm (at_ rs 0 :: os) := by
    have := List.perm_middle (a := at_ rs 0) (l₁ := os.take p) (l₂ := os.drop p)
    rw [List.take_append_drop] at this
    exact this
  exact (List.Perm.append_left _ h1).trans List.perm_middle

set_option maxHeartbeats 1000000 in
theorem Parts17_ok {κ : Ctx} {I : List Item} {nd : Int} {va : Value} {es : List Pt} (hl : Sl κ I va es) (hb : es.length ≤ 8000) (kk : Int) :
    CallS Tryd.prog κ 58 [.agg #[I64 (nd), va], I64 (kk)] I (fun r J => ∃ a c rs, r = .tuple #[.slice a rs.length c, I64 (askE nd es kk)] ∧ (PartsR nd es kk (rs.map RowG.xs) ∧ rs.length ≤ 128) ∧ J = vc 22 (.slice a rs.length c) rs :: (ownR 3 rs ++ I)) := by
 refine CallS.enter (L := [(0, .agg #[I64 (nd), va]), (1, I64 (kk))]) Tryd.func58 rfl rfl rfl rfl ?_
 refine W.sr ?_
 refine G.e (Eff.box (cs := [_, _]) rfl rfl rfl) ?_
 rintro _ _ ⟨b1, rfl, rfl⟩
 refine G.r (Runs.assign rfl) ?_
 refine G.r (Runs.assign rfl) ?_
 refine G.nt ?_
 refine W.seq ?_
 refine W.sr ?_
 refine G.r (Runs.lds (vs := [_, _]) ty25) ?_
 refine G.r (Runs.move rfl) ?_
 refine G.e (Eff.call call97 rfl rfl (Wrong17_ok (nd := nd) (Sl.f hl) kk)) ?_
 rintro _ _ ⟨_, _, ⟨rfl, rfl⟩, rfl, rfl⟩
 refine G.r (Runs.assign rfl) ?_
 refine G.nt ?_
 refine W.sr ?_
 refine G.r (Runs.move rfl) ?_
 refine G.r (Runs.neq rfl rfl) ?_
 refine G.nt ?_
 refine W.ite rfl (fun c18 => ?_) (fun c18 => ?_)
 ·refine W.sr ?_
  refine G.r (Runs.move rfl) ?_
  refine G.r (Runs.assign rfl) ?_
  refine G.r (Runs.assign rfl) ?_
  refine G.nt ?_
  refine W.sub (L' := [(5, _), (4, _)]) (Sub.cons rfl (Sub.cons rfl Sub.nil)) ?_
  refine W.ret ?_
  refine V.then_ret ?_
  exact V.ret2 rfl rfl rfl (vc 22 (.slice none ([] : List (RowG Int)).length 0) ([] : List (RowG Int)) :: (ownR 3 ([] : List (RowG Int)) ++ I)) (Fit.trans (show Fit κ _ I from Fit.m) (Fit.nilvc (α := RowG Int) _ _)) ⟨none, 0, [], rfl, ⟨⟨fun _ => rfl, fun h => absurd h c18⟩, by simp⟩, rfl⟩
 ·refine W.skip ?_
  refine V.then ?_
  refine W.sr ?_
  refine G.r (Runs.assign rfl) ?_
  obtain ⟨hG, hk1⟩ := askE_zero.1 (Classical.not_not.1 c18)
  refine G.nt ?_
  refine W.sr ?_
  refine G.r (Runs.lds (vs := [_, _]) ty25) ?_
  refine G.e (Eff.call call34 rfl rfl (Comps15_ok (nd := nd) (Sl.f hl) (by omega))) ?_
  rintro _ _ ⟨_, _, ⟨ad2, cp3, rs4, rfl, hrs4, rfl⟩, rfl, rfl⟩
  refine G.fit (J := vc 22 (.slice ad2 rs4.length cp3) (rs4) :: blk b1 [I64 (nd), va] 25 :: (ownR 3 rs4 ++ I)) Fit.s ?_
  refine G.r (Runs.move rfl) ?_
  refine G.r (Runs.extract rfl rfl) ?_
  refine G.r (Runs.extract rfl rfl) ?_
  refine G.r (Runs.assign rfl) ?_
  refine G.r (Runs.assign rfl) ?_
  refine G.nt ?_
  refine W.sub (L' := [(8, _), (7, _), (2, _), (1, _)]) (Sub.cons rfl (Sub.cons rfl (Sub.cons rfl (Sub.cons rfl Sub.nil)))) ?_
  refine W.seq ?_
  refine W.block ?_
  refine W.loop (σ := (Option Addr) × Nat × (List (RowG Int)) × (Option Addr) × Nat × (List (RowG Int))) (fun s => ([(1, I64 (kk)), (2, .pointer (some ⟨b1, 0, none⟩)), (7, .slice s.2.2.2.1 s.2.2.2.2.2.length s.2.2.2.2.1), (8, .slice s.1 s.2.2.1.length s.2.1)] : Env)) (fun s => vc 22 (.slice s.1 s.2.2.1.length s.2.1) (s.2.2.1) :: vc 22 (.slice s.2.2.2.1 s.2.2.2.2.2.length s.2.2.2.2.1) (s.2.2.2.2.2) :: blk b1 [I64 (nd), va] 25 :: (ownR 3 (s.2.2.1 ++ s.2.2.2.2.2) ++ I)) (fun s => (WorkP nd kk es (s.2.2.1.map RowG.xs) (s.2.2.2.2.2.map RowG.xs)) ∧ (∀ q ∈ s.2.2.1.map RowG.xs, 1 ≤ q.length) ∧ (mW (s.2.2.1.map RowG.xs) + s.2.2.2.2.2.length ≤ 128) ∧ ((s.2.2.2.2.2.map RowG.xs).Pairwise fun a b => at_ a 0 < at_ b 0)) (fun s => mW (s.2.2.1.map RowG.xs)) (ad2, cp3, rs4, none, 0, []) (show (WorkP nd kk es ((rs4 : List (RowG Int)).map RowG.xs) (([] : List (RowG Int)).map RowG.xs)) ∧ (∀ q ∈ (rs4 : List (RowG Int)).map RowG.xs, 1 ≤ q.length) ∧ (mW ((rs4 : List (RowG Int)).map RowG.xs) + ([] : List (RowG Int)).length ≤ 128) ∧ ((([] : List (RowG Int)).map RowG.xs).Pairwise fun a b => at_ a 0 < at_ b 0) from ⟨(by rw [hrs4]; exact (comps_start hG hk1).1), (by rw [hrs4]; exact (comps_start hG hk1).2.1), (by rw [hrs4]; exact (comps_start hG hk1).2.2), List.Pairwise.nil⟩) (Sub.cons rfl (Sub.cons rfl (Sub.cons (lookV rfl (by first | rfl | simp)) (Sub.cons (lookV rfl (by first | rfl | simp)) Sub.nil)))) (show Fit κ _ (vc 22 (.slice (ad2) (rs4).length (cp3)) ((rs4)) :: vc 22 (.slice (none) ([]).length (0)) (([])) :: blk b1 [I64 (nd), va] 25 :: (ownR 3 ((rs4) ++ ([])) ++ I)) from (by simp only [List.append_nil]; exact Fit.trans (Fit.nilvc (α := RowG Int) 22 _) Fit.s)) ?_
  rintro ⟨oa, oc, rs, ua, uc, os⟩ hp
  obtain ⟨hW, hne, hM, hS⟩ : (WorkP nd kk es (rs.map RowG.xs) (os.map RowG.xs)) ∧ (∀ q ∈ rs.map RowG.xs, 1 ≤ q.length) ∧ (mW (rs.map RowG.xs) + os.length ≤ 128) ∧ ((os.map RowG.xs).Pairwise fun a b => at_ a 0 < at_ b 0) := hp
  show W Tryd.prog κ 82 _ _ ([(1, I64 (kk)), (2, .pointer (some ⟨b1, 0, none⟩)), (7, .slice ua os.length uc), (8, .slice oa rs.length oc)] : Env) (vc 22 (.slice oa rs.length oc) (rs) :: vc 22 (.slice ua os.length uc) (os) :: blk b1 [I64 (nd), va] 25 :: (ownR 3 (rs ++ os) ++ I))
  have hhR : HeldAll κ (ownR 3 (rs ++ os) ++ I) rs := fun r hr => ownR_held r (List.mem_append_left _ hr)
  have hhO : HeldAll κ (ownR 3 (rs ++ os) ++ I) os := fun r hr => ownR_held r (List.mem_append_right _ hr)
  refine W.seq ?_
  refine W.sr ?_
  refine G.r (Runs.move rfl) ?_
  refine G.r (Runs.lens Tryd.underlying50 rfl) ?_
  refine G.r (Runs.gtr rfl rfl) ?_
  refine G.nt ?_
  refine W.ite rfl (fun c27 => ?_) (fun c27 => ?_)
  ·refine W.skip ?_
   refine V.then ?_
   refine W.block ?_
   refine W.sr ?_
   refine G.r (Runs.move rfl) ?_
   refine G.r (Runs.idx (α := (RowG Int)) (xs := rs) Tryd.underlying50 ty22 rfl rfl Sl.o (by omega) (by omega)) ?_
   refine G.r (Runs.getf0 (α := (RowG Int)) (xs := rs) (u := .slice (at_ rs 0).a (at_ rs 0).xs.length (at_ rs 0).c) ty22 rfl Sl.o (by omega) (by omega) rfl) ?_
   refine G.r (Runs.assign rfl) ?_
   have hcons := rows_cons_xs (rs := rs) (by omega)
   have hW1 := hW
   rw [hcons] at hW1
   have hne1 := hne _ (by rw [hcons]; exact List.mem_cons_self)
   have hmw : mW (rs.map RowG.xs) = (2 * (at_ rs 0).xs.length - 1) + mW ((rs.drop 1).map RowG.xs) := by rw [hcons]; exact mW_cons _ _
   have hge := mW_ge hne
   have hrl : (rs.map RowG.xs).length = rs.length := List.length_map ..
   have hdl : (List.drop 1 rs).length = rs.length - 1 := List.length_drop
   have hSv := hW1.opv _ List.mem_cons_self
   refine G.nt ?_
   refine W.sr ?_
   refine G.r (Runs.move rfl) ?_
   refine G.r (Runs.lo (α := (RowG Int)) (xs := rs) (l := 1) Tryd.underlying50 ty22 rfl rfl (by omega) Sl.o (by omega)) ?_
   refine G.r (Runs.assign rfl) ?_
   refine G.fit (J := vc 22 (.slice (adrop oa oc 1 (Enc.sz (RowG Int))) (List.drop 1 rs).length (oc - 1)) (List.drop 1 rs) :: vc 22 (.slice ua os.length uc) (os) :: blk b1 [I64 (nd), va] 25 :: (ownR 3 (rs ++ os) ++ I)) (Fit.trans (show Fit κ _ (vc 22 (.slice oa rs.length oc) (rs) :: vc 22 (.slice ua os.length uc) (os) :: blk b1 [I64 (nd), va] 25 :: (ownR 3 (rs ++ os) ++ I)) from Fit.s) (Fit.dropvc (α := RowG Int) rfl (by omega))) ?_
   refine G.nt ?_
   refine W.sub (L' := [(8, _), (10, _), (1, _), (2, _), (7, _)]) (Sub.cons rfl (Sub.cons rfl (Sub.cons rfl (Sub.cons rfl (Sub.cons rfl Sub.nil))))) ?_
   refine W.seq ?_
   refine W.sr ?_
   refine G.r (Runs.move rfl) ?_
   refine G.r (Runs.lens Tryd.underlying22 rfl) ?_
   refine G.r (Runs.lss rfl rfl) ?_
   refine G.nt ?_
   refine W.ite rfl (fun c35 => ?_) (fun c35 => ?_)
   ·refine W.exit ?_
    refine V.then_exit ?_
    refine V.block_hit ?_
    exact V.next (((adrop oa oc 1 (Enc.sz (RowG Int)))), ((oc - 1)), (List.drop 1 rs), (ua), (uc), (os)) (show (WorkP nd kk es ((List.drop 1 rs : List (RowG Int)).map RowG.xs) ((os : List (RowG Int)).map RowG.xs)) ∧ (∀ q ∈ (List.drop 1 rs : List (RowG Int)).map RowG.xs, 1 ≤ q.length) ∧ (mW ((List.drop 1 rs : List (RowG Int)).map RowG.xs) + (os : List (RowG Int)).length ≤ 128) ∧ (((os : List (RowG Int)).map RowG.xs).Pairwise fun a b => at_ a 0 < at_ b 0) from ⟨(hW1.small (by omega)), (fun q hq => hne q (by rw [hcons]; exact List.mem_cons_of_mem _ hq)), (by omega), hS⟩) (show mW ((List.drop 1 rs : List (RowG Int)).map RowG.xs) < mW (rs.map RowG.xs) from (by omega)) (Sub.cons rfl (Sub.cons rfl (Sub.cons (lookV rfl (by first | rfl | simp)) (Sub.cons (lookV rfl (by first | rfl | simp)) Sub.nil)))) (show Fit κ _ (vc 22 (.slice ((adrop oa oc 1 (Enc.sz (RowG Int)))) (List.drop 1 rs).length ((oc - 1))) ((List.drop 1 rs)) :: vc 22 (.slice (ua) (os).length (uc)) ((os)) :: blk b1 [I64 (nd), va] 25 :: (ownR 3 ((List.drop 1 rs) ++ (os)) ++ I)) from (Fit.trans (show Fit κ _ ([vc 22 (.slice (adrop oa oc 1 (Enc.sz (RowG Int))) (List.drop 1 rs).length (oc - 1)) (List.drop 1 rs), vc 22 (.slice ua (os).length uc) (os), blk b1 [I64 (nd), va] 25] ++ (ownR 3 (rs ++ os) ++ I)) from (by first | exact Fit.s | exact Fit.sub)) Fit.ownR_less))
   ·refine W.skip ?_
    refine V.then ?_
    refine W.sr ?_
    refine G.r (Runs.lds (vs := [_, _]) ty25) ?_
    refine G.r (Runs.move rfl) ?_
    refine G.r (Runs.move rfl) ?_
    refine G.e (Eff.call call99 rfl rfl (Strong_ok (nd := nd) (Sl.f hl) (Sl.fit (HeldAll.at hhR (i := 0) (by omega) (by omega)) (Fit.of_sublist (by repeat (first | exact List.Sublist.refl _ | apply List.Sublist.cons_cons | apply List.Sublist.cons | exact List.sublist_append_right _ _ | apply sub_app)))) hG hSv (by omega) (by omega) kk)) ?_
    rintro _ _ ⟨_, _, ⟨ad5, cp6, sd7, ok8, rfl, hsd7, rfl⟩, rfl, rfl⟩
    refine G.r (Runs.move rfl) ?_
    refine G.r (Runs.extract rfl rfl) ?_
    refine G.r (Runs.extract rfl rfl) ?_
    refine G.r (Runs.assign rfl) ?_
    refine G.r (Runs.assign rfl) ?_
    refine G.nt ?_
    refine W.sub (L' := [(12, _), (11, _), (8, _), (10, _), (1, _), (2, _), (7, _)]) (Sub.cons rfl (Sub.cons rfl (Sub.cons rfl (Sub.cons rfl (Sub.cons rfl (Sub.cons rfl (Sub.cons rfl Sub.nil))))))) ?_
    refine W.seq ?_
    refine W.sr ?_
    refine G.r (Runs.move rfl) ?_
    refine G.r (Runs.not rfl) ?_
    refine G.nt ?_
    refine W.cond rfl (fun c44 => ?_) (fun c44 => ?_)
    ·refine W.sr ?_
     refine G.r (Runs.move rfl) ?_
     refine G.r (Runs.move rfl) ?_
     refine G.r (Runs.move rfl) ?_
     refine G.r (Runs.move rfl) ?_
     refine G.e (Eff.call call46 rfl rfl (Minus_ok (Sl.fit (HeldAll.at hhR (i := 0) (by omega) (by omega)) (Fit.of_sublist (by repeat (first | exact List.Sublist.refl _ | apply List.Sublist.cons_cons | apply List.Sublist.cons | exact List.sublist_append_right _ _ | apply sub_app)))) Sl.o (by omega))) ?_
     rintro _ _ ⟨_, _, ⟨ad9, cp10, rfl, rfl⟩, rfl, rfl⟩
     refine G.e (Eff.bs (α := (RowG Int)) (cs := [_, _]) (xs := [⟨ad5, cp6, sd7⟩, ⟨ad9, cp10, minusL ((at_ rs 0).xs) sd7⟩]) Tryd.underlying50 ty22 rfl rfl (by decide) (by decide) rfl rfl rfl rfl) ?_
     rintro _ _ ⟨ad11, rfl, rfl⟩
     refine G.e (Eff.app (α := (RowG Int)) (e := 22) (xs := List.drop 1 rs) (ys := ([⟨ad5, cp6, sd7⟩, ⟨ad9, cp10, minusL ((at_ rs 0).xs) sd7⟩] : List (RowG Int))) Tryd.underlying50 ty22 rfl rfl rfl (by repeat (first | exact List.mem_cons_self | apply List.mem_cons_of_mem)) Sl.o (by simp only [List.length_cons, List.length_nil, List.length_append, List.length_take, List.length_drop]; omega) (by decide) rfl (fun _ _ => (by repeat (first | exact At.head _ _ _ | apply At.tail)))) ?_
     rintro _ _ ⟨ad12, cp13, rfl, rfl⟩
     refine G.r (Runs.assign rfl) ?_
     refine G.nt ?_
     refine W.sub (L' := [(8, _), (1, _), (2, _), (7, _)]) (Sub.cons rfl (Sub.cons rfl (Sub.cons rfl (Sub.cons rfl Sub.nil)))) ?_
     refine W.exit ?_
     refine V.then_exit ?_
     refine V.block_hit ?_
     obtain ⟨y0, hy0, vl0, hms, hvk⟩ := hsd7.2 (by simpa using c44)
     have hsl := hms.valid
     have hspl := hW1.split (head_mem (by omega)) hms hvk (rest' := minusL (at_ rs 0).xs sd7) (fun z => mem_minusL) (ValidP_iff.2 ⟨fun x hx => (ValidP_iff.1 hSv).1 x (mem_minusL.1 hx).1, minus_asc _ _⟩)
     have hms1 : 1 ≤ sd7.length := List.length_pos_of_mem hms.src
     have hms2 : 1 ≤ (minusL (at_ rs 0).xs sd7).length := List.length_pos_of_mem (mem_minusL.2 ⟨List.mem_of_mem_drop hy0, hms.snk⟩)
     have hms3 := cut_len hSv hms (head_mem (by omega))
     have hmw2 : mW ((List.drop 1 rs ++ ([⟨ad5, cp6, sd7⟩, ⟨ad9, cp10, minusL ((at_ rs 0).xs) sd7⟩] : List (RowG Int))).map RowG.xs) = mW ((List.drop 1 rs).map RowG.xs) + ((2 * sd7.length - 1) + (2 * (minusL (at_ rs 0).xs sd7).length - 1)) := by rw [List.map_append, mW_append]; rfl
     exact V.next ((ad12), (cp13), ((List.drop 1 rs) ++ ([⟨ad5, cp6, sd7⟩, ⟨ad9, cp10, minusL ((at_ rs 0).xs) sd7⟩] : List (RowG Int))), (ua), (uc), (os)) (show (WorkP nd kk es (((List.drop 1 rs) ++ ([⟨ad5, cp6, sd7⟩, ⟨ad9, cp10, minusL ((at_ rs 0).xs) sd7⟩] : List (RowG Int)) : List (RowG Int)).map RowG.xs) ((os : List (RowG Int)).map RowG.xs)) ∧ (∀ q ∈ ((List.drop 1 rs) ++ ([⟨ad5, cp6, sd7⟩, ⟨ad9, cp10, minusL ((at_ rs 0).xs) sd7⟩] : List (RowG Int)) : List (RowG Int)).map RowG.xs, 1 ≤ q.length) ∧ (mW (((List.drop 1 rs) ++ ([⟨ad5, cp6, sd7⟩, ⟨ad9, cp10, minusL ((at_ rs 0).xs) sd7⟩] : List (RowG Int)) : List (RowG Int)).map RowG.xs) + (os : List (RowG Int)).length ≤ 128) ∧ (((os : List (RowG Int)).map RowG.xs).Pairwise fun a b => at_ a 0 < at_ b 0) from ⟨(by rw [List.map_append]; exact hspl), (fun q hq => by rw [List.map_append] at hq; exact (List.mem_append.1 hq).elim (fun hq => hne q (by rw [hcons]; exact List.mem_cons_of_mem _ hq)) (fun hq => by simp only [List.map_cons, List.map_nil, List.mem_cons, List.not_mem_nil, or_false] at hq; exact hq.elim (fun e => by rw [e]; exact hms1) (fun e => by rw [e]; exact hms2))), (by omega), hS⟩) (show mW (((List.drop 1 rs) ++ ([⟨ad5, cp6, sd7⟩, ⟨ad9, cp10, minusL ((at_ rs 0).xs) sd7⟩] : List (RowG Int)) : List (RowG Int)).map RowG.xs) < mW (rs.map RowG.xs) from (by omega)) (Sub.cons rfl (Sub.cons rfl (Sub.cons (lookV rfl (by first | rfl | simp)) (Sub.cons (lookV rfl (by first | rfl | simp)) Sub.nil)))) (show Fit κ _ (vc 22 (.slice (ad12) ((List.drop 1 rs) ++ ([⟨ad5, cp6, sd7⟩, ⟨ad9, cp10, minusL ((at_ rs 0).xs) sd7⟩] : List (RowG Int))).length (cp13)) (((List.drop 1 rs) ++ ([⟨ad5, cp6, sd7⟩, ⟨ad9, cp10, minusL ((at_ rs 0).xs) sd7⟩] : List (RowG Int)))) :: vc 22 (.slice (ua) (os).length (uc)) ((os)) :: blk b1 [I64 (nd), va] 25 :: (ownR 3 (((List.drop 1 rs) ++ ([⟨ad5, cp6, sd7⟩, ⟨ad9, cp10, minusL ((at_ rs 0).xs) sd7⟩] : List (RowG Int))) ++ (os)) ++ I)) from (Fit.trans (show Fit κ _ ([vc 22 (.slice ad12 ((List.drop 1 rs) ++ ([⟨ad5, cp6, sd7⟩, ⟨ad9, cp10, minusL ((at_ rs 0).xs) sd7⟩] : List (RowG Int))).length cp13) ((List.drop 1 rs) ++ ([⟨ad5, cp6, sd7⟩, ⟨ad9, cp10, minusL ((at_ rs 0).xs) sd7⟩] : List (RowG Int))), vc 22 (.slice ua (os).length uc) (os), blk b1 [I64 (nd), va] 25] ++ vc 3 (.slice ad5 sd7.length cp6) (sd7) :: vc 3 (.slice ad9 (minusL ((at_ rs 0).xs) sd7).length cp10) (minusL ((at_ rs 0).xs) sd7) :: (ownR 3 (rs ++ os) ++ I)) from (by first | exact Fit.s | exact Fit.sub)) (Fit.ownR_two (r1 := ⟨ad5, cp6, sd7⟩) (r2 := ⟨ad9, cp10, minusL ((at_ rs 0).xs) sd7⟩))))
    ·refine W.skip ?_
     refine V.then ?_
     refine W.sr ?_
     refine G.r (Runs.move rfl) ?_
     refine G.r (Runs.lens Tryd.underlying50 rfl) ?_
     refine G.r (Runs.assign rfl) ?_
     refine G.nt ?_
     refine W.cut (σ := Nat) (fun s => ([(1, I64 (kk)), (2, .pointer (some ⟨b1, 0, none⟩)), (7, .slice ua os.length uc), (8, .slice (adrop oa oc 1 (Enc.sz (RowG Int))) (List.drop 1 rs).length (oc - 1)), (10, .slice (at_ rs 0).a (at_ rs 0).xs.length (at_ rs 0).c), (13, I64 (((s : Nat) : Int)))] : Env)) (fun s => vc 3 (.slice ad5 sd7.length cp6) (sd7) :: vc 22 (.slice (adrop oa oc 1 (Enc.sz (RowG Int))) (List.drop 1 rs).length (oc - 1)) (List.drop 1 rs) :: vc 22 (.slice ua os.length uc) (os) :: blk b1 [I64 (nd), va] 25 :: (ownR 3 (rs ++ os) ++ I)) (fun s => (s ≤ os.length) ∧ (∀ j : Nat, s ≤ j → j < os.length → at_ (at_ rs 0).xs 0 < at_ (at_ os (j : Int)).xs 0) ∧ (s = 0 ∨ (0 < s ∧ ¬ at_ (at_ rs 0).xs 0 < at_ (at_ os ((s : Int) - 1)).xs 0))) ?_ ?_
     ·refine W.block ?_
      refine W.loop (σ := Nat) (fun s => ([(1, I64 (kk)), (2, .pointer (some ⟨b1, 0, none⟩)), (7, .slice ua os.length uc), (8, .slice (adrop oa oc 1 (Enc.sz (RowG Int))) (List.drop 1 rs).length (oc - 1)), (10, .slice (at_ rs 0).a (at_ rs 0).xs.length (at_ rs 0).c), (13, I64 (((s : Nat) : Int)))] : Env)) (fun s => vc 3 (.slice ad5 sd7.length cp6) (sd7) :: vc 22 (.slice (adrop oa oc 1 (Enc.sz (RowG Int))) (List.drop 1 rs).length (oc - 1)) (List.drop 1 rs) :: vc 22 (.slice ua os.length uc) (os) :: blk b1 [I64 (nd), va] 25 :: (ownR 3 (rs ++ os) ++ I)) (fun s => (s ≤ os.length) ∧ (∀ j : Nat, s ≤ j → j < os.length → at_ (at_ rs 0).xs 0 < at_ (at_ os (j : Int)).xs 0)) (fun s => s) (os.length) (show ((os.length : Nat) ≤ os.length) ∧ (∀ j : Nat, (os.length : Nat) ≤ j → j < os.length → at_ (at_ rs 0).xs 0 < at_ (at_ os (j : Int)).xs 0) from ⟨(by omega), (fun j h1 h2 => by omega)⟩) (Sub.cons rfl (Sub.cons rfl (Sub.cons rfl (Sub.cons rfl (Sub.cons rfl (Sub.cons lookO Sub.nil)))))) (show Fit κ _ (vc 3 (.slice ad5 sd7.length cp6) (sd7) :: vc 22 (.slice (adrop oa oc 1 (Enc.sz (RowG Int))) (List.drop 1 rs).length (oc - 1)) (List.drop 1 rs) :: vc 22 (.slice ua os.length uc) (os) :: blk b1 [I64 (nd), va] 25 :: (ownR 3 (rs ++ os) ++ I)) from Fit.sub) ?_
      rintro p hp
      obtain ⟨hp, hgt⟩ : (p ≤ os.length) ∧ (∀ j : Nat, p ≤ j → j < os.length → at_ (at_ rs 0).xs 0 < at_ (at_ os (j : Int)).xs 0) := hp
      show W Tryd.prog κ 82 _ _ ([(1, I64 (kk)), (2, .pointer (some ⟨b1, 0, none⟩)), (7, .slice ua os.length uc), (8, .slice (adrop oa oc 1 (Enc.sz (RowG Int))) (List.drop 1 rs).length (oc - 1)), (10, .slice (at_ rs 0).a (at_ rs 0).xs.length (at_ rs 0).c), (13, I64 (((p : Nat) : Int)))] : Env) (vc 3 (.slice ad5 sd7.length cp6) (sd7) :: vc 22 (.slice (adrop oa oc 1 (Enc.sz (RowG Int))) (List.drop 1 rs).length (oc - 1)) (List.drop 1 rs) :: vc 22 (.slice ua os.length uc) (os) :: blk b1 [I64 (nd), va] 25 :: (ownR 3 (rs ++ os) ++ I))
      have hol : 0 < p → 2 ≤ (at_ os (((p : Nat) : Int) - 1)).xs.length := fun h => (hW.val _ (List.mem_map_of_mem (at_mem (by omega) (by omega)))).2.1
      refine W.seq ?_
      refine W.seq ?_
      refine W.drawn mixed ?_
      refine A.hold (vc 3 (.slice ad5 sd7.length cp6) (sd7) :: vc 22 (.slice (adrop oa oc 1 (Enc.sz (RowG Int))) (List.drop 1 rs).length (oc - 1)) (List.drop 1 rs) :: vc 22 (.slice ua os.length uc) (os) :: blk b1 [I64 (nd), va] 25 :: (ownR 3 (rs ++ os) ++ I)) 15 ?_
      refine D.r 0 rfl (Runs.move rfl) ?_ (hJ := Fit.sub)
      refine D.r 1 rfl (Runs.gtr rfl rfl) ?_ (hJ := Fit.sub)
      refine D.r 2 rfl (Runs.move rfl) ?_ (hJ := Fit.sub)
      refine D.split (d := 56) rfl (fun g56 => ?_) (fun g56 => ?_)
      ·refine D.read 3 rfl (by kernel_rfl) (by kernel_rfl) (by kernel_rfl) rfl (by kernel_rfl) (fun _ _ _ _ h => h) (Wanted.on rfl rfl rfl) rfl rfl Fit.sub (Runs.move rfl) ?_
       refine D.read 4 rfl (by kernel_rfl) (by kernel_rfl) (by kernel_rfl) rfl (by kernel_rfl) (fun _ _ _ _ h => h) (Wanted.on rfl rfl rfl) rfl rfl Fit.sub (Runs.move rfl) ?_
       refine D.read 5 rfl (by kernel_rfl) (by kernel_rfl) (by kernel_rfl) rfl (by kernel_rfl) (fun _ _ _ _ h => h) (Wanted.on rfl rfl rfl) rfl rfl Fit.sub (Runs.sub rfl rfl (by unfold InR; omega)) ?_
       refine D.read 6 rfl (by kernel_rfl) (by kernel_rfl) (by kernel_rfl) rfl (by kernel_rfl) (fun _ _ _ _ h => h) (Wanted.on rfl rfl rfl) rfl rfl Fit.sub (Runs.idx (α := (RowG Int)) (xs := os) Tryd.underlying50 ty22 rfl rfl Sl.o (by omega) (by omega)) ?_
       refine D.read 7 rfl (by kernel_rfl) (by kernel_rfl) (by kernel_rfl) rfl (by kernel_rfl) (fun _ _ _ _ h => h) (Wanted.on rfl rfl rfl) rfl rfl Fit.sub (Runs.getf0 (α := (RowG Int)) (xs := os) (u := .slice (at_ os (((p : Nat) : Int) - 1)).a (at_ os (((p : Nat) : Int) - 1)).xs.length (at_ os (((p : Nat) : Int) - 1)).c) ty22 rfl Sl.o (by omega) (by omega) rfl) ?_
       refine D.read 8 rfl (by kernel_rfl) (by kernel_rfl) (by kernel_rfl) rfl (by kernel_rfl) (fun _ _ _ _ h => h) (Wanted.on rfl rfl rfl) rfl rfl Fit.sub (Runs.idx (α := Int) (xs := (at_ os (((p : Nat) : Int) - 1)).xs) Tryd.underlying22 ty3 rfl rfl (Sl.fit (HeldAll.at hhO (i := (((p : Nat) : Int) - 1)) (by omega) (by omega)) (Fit.of_sublist (by repeat (first | exact List.Sublist.refl _ | apply List.Sublist.cons_cons | apply List.Sublist.cons | exact List.sublist_append_right _ _ | apply sub_app)))) (by omega) (by omega)) ?_
       refine D.read 9 rfl (by kernel_rfl) (by kernel_rfl) (by kernel_rfl) rfl (by kernel_rfl) (fun _ _ _ _ h => h) (Wanted.on rfl rfl rfl) rfl rfl Fit.sub (Runs.get (xs := (at_ os (((p : Nat) : Int) - 1)).xs) ty3 rfl (Sl.fit (HeldAll.at hhO (i := (((p : Nat) : Int) - 1)) (by omega) (by omega)) (Fit.of_sublist (by repeat (first | exact List.Sublist.refl _ | apply List.Sublist.cons_cons | apply List.Sublist.cons | exact List.sublist_append_right _ _ | apply sub_app)))) (by omega) (by omega)) ?_
       refine D.read 10 rfl (by kernel_rfl) (by kernel_rfl) (by kernel_rfl) rfl (by kernel_rfl) (fun _ _ _ _ h => h) (Wanted.on rfl rfl rfl) rfl rfl Fit.sub (Runs.move rfl) ?_
       refine D.read 11 rfl (by kernel_rfl) (by kernel_rfl) (by kernel_rfl) rfl (by kernel_rfl) (fun _ _ _ _ h => h) (Wanted.on rfl rfl rfl) rfl rfl Fit.sub (Runs.idx (α := Int) (xs := (at_ rs 0).xs) Tryd.underlying22 ty3 rfl rfl (Sl.fit (HeldAll.at hhR (i := 0) (by omega) (by omega)) (Fit.of_sublist (by repeat (first | exact List.Sublist.refl _ | apply List.Sublist.cons_cons | apply List.Sublist.cons | exact List.sublist_append_right _ _ | apply sub_app)))) (by omega) (by omega)) ?_
       refine D.read 12 rfl (by kernel_rfl) (by kernel_rfl) (by kernel_rfl) rfl (by kernel_rfl) (fun _ _ _ _ h => h) (Wanted.on rfl rfl rfl) rfl rfl Fit.sub (Runs.get (xs := (at_ rs 0).xs) ty3 rfl (Sl.fit (HeldAll.at hhR (i := 0) (by omega) (by omega)) (Fit.of_sublist (by repeat (first | exact List.Sublist.refl _ | apply List.Sublist.cons_cons | apply List.Sublist.cons | exact List.sublist_append_right _ _ | apply sub_app)))) (by omega) (by omega)) ?_
       refine D.read 13 rfl (by kernel_rfl) (by kernel_rfl) (by kernel_rfl) rfl (by kernel_rfl) (fun _ _ _ _ h => h) (Wanted.on rfl rfl rfl) rfl rfl Fit.sub (Runs.gtr rfl rfl) ?_
       refine D.r 14 rfl (Runs.pickt rfl rfl) ?_ (hJ := Fit.sub)
       refine D.done (by kernel_rfl) ?_
       refine V.then ?_
       refine W.sub (L' := [(68, _), (1, _), (2, _), (7, _), (8, _), (10, _), (13, _)]) (Sub.cons rfl (Sub.cons rfl (Sub.cons rfl (Sub.cons rfl (Sub.cons rfl (Sub.cons rfl (Sub.cons rfl Sub.nil))))))) ?_
       refine W.ite rfl (fun c68 => ?_) (fun c68 => ?_)
       ·refine W.skip ?_
        refine V.then ?_
        refine W.block ?_
        refine W.region ?_
        refine G.r (Runs.move rfl) ?_
        refine G.r (Runs.sub rfl rfl (by unfold InR; omega)) ?_
        refine G.r (Runs.assign rfl) ?_
        refine G.nil ?_
        refine V.block_normal ?_
        exact V.next ((p - 1)) (show ((p - 1 : Nat) ≤ os.length) ∧ (∀ j : Nat, (p - 1 : Nat) ≤ j → j < os.length → at_ (at_ rs 0).xs 0 < at_ (at_ os (j : Int)).xs 0) from ⟨(by omega), (fun j h1 h2 => if h : p ≤ j then hgt j h h2 else by have e : (j : Int) = (p : Int) - 1 := (by omega); rw [e]; exact c68)⟩) (show (p - 1 : Nat) < p from (by omega)) (Sub.cons rfl (Sub.cons rfl (Sub.cons rfl (Sub.cons rfl (Sub.cons rfl (Sub.cons lookO Sub.nil)))))) (show Fit κ _ (vc 3 (.slice ad5 sd7.length cp6) (sd7) :: vc 22 (.slice (adrop oa oc 1 (Enc.sz (RowG Int))) (List.drop 1 rs).length (oc - 1)) (List.drop 1 rs) :: vc 22 (.slice ua os.length uc) (os) :: blk b1 [I64 (nd), va] 25 :: (ownR 3 (rs ++ os) ++ I)) from Fit.sub)
       ·refine W.exit ?_
        refine V.then_exit ?_
        refine V.then_exit ?_
        refine V.block_hit ?_
        exact V.mid ((p)) (show ((p : Nat) ≤ os.length) ∧ (∀ j : Nat, (p : Nat) ≤ j → j < os.length → at_ (at_ rs 0).xs 0 < at_ (at_ os (j : Int)).xs 0) ∧ ((p : Nat) = 0 ∨ (0 < (p : Nat) ∧ ¬ at_ (at_ rs 0).xs 0 < at_ (at_ os (((p : Nat) : Int) - 1)).xs 0)) from ⟨(by omega), hgt, (by first | omega | exact .inr ⟨by omega, c68⟩)⟩) (Sub.cons rfl (Sub.cons rfl (Sub.cons rfl (Sub.cons rfl (Sub.cons rfl (Sub.cons lookO Sub.nil)))))) (show Fit κ _ (vc 3 (.slice ad5 sd7.length cp6) (sd7) :: vc 22 (.slice (adrop oa oc 1 (Enc.sz (RowG Int))) (List.drop 1 rs).length (oc - 1)) (List.drop 1 rs) :: vc 22 (.slice ua os.length uc) (os) :: blk b1 [I64 (nd), va] 25 :: (ownR 3 (rs ++ os) ++ I)) from Fit.sub)
      ·refine D.pass 3 rfl (by kernel_rfl) (by kernel_rfl) (by kernel_rfl) rfl (by kernel_rfl) (fun _ _ _ _ h => h) (Unwanted.off rfl rfl rfl) rfl rfl Fit.sub ?_
       refine D.pass 4 rfl (by kernel_rfl) (by kernel_rfl) (by kernel_rfl) rfl (by kernel_rfl) (fun _ _ _ _ h => h) (Unwanted.off rfl rfl rfl) rfl rfl Fit.sub ?_
       refine D.pass 5 rfl (by kernel_rfl) (by kernel_rfl) (by kernel_rfl) rfl (by kernel_rfl) (fun _ _ _ _ h => h) (Unwanted.off rfl rfl rfl) rfl rfl Fit.sub ?_
       refine D.pass 6 rfl (by kernel_rfl) (by kernel_rfl) (by kernel_rfl) rfl (by kernel_rfl) (fun _ _ _ _ h => h) (Unwanted.off rfl rfl rfl) rfl rfl Fit.sub ?_
       refine D.pass 7 rfl (by kernel_rfl) (by kernel_rfl) (by kernel_rfl) rfl (by kernel_rfl) (fun _ _ _ _ h => h) (Unwanted.off rfl rfl rfl) rfl rfl Fit.sub ?_
       refine D.pass 8 rfl (by kernel_rfl) (by kernel_rfl) (by kernel_rfl) rfl (by kernel_rfl) (fun _ _ _ _ h => h) (Unwanted.off rfl rfl rfl) rfl rfl Fit.sub ?_
       refine D.pass 9 rfl (by kernel_rfl) (by kernel_rfl) (by kernel_rfl) rfl (by kernel_rfl) (fun _ _ _ _ h => h) (Unwanted.off rfl rfl rfl) rfl rfl Fit.sub ?_
       refine D.pass 10 rfl (by kernel_rfl) (by kernel_rfl) (by kernel_rfl) rfl (by kernel_rfl) (fun _ _ _ _ h => h) (Unwanted.off rfl rfl rfl) rfl rfl Fit.sub ?_
       refine D.pass 11 rfl (by kernel_rfl) (by kernel_rfl) (by kernel_rfl) rfl (by kernel_rfl) (fun _ _ _ _ h => h) (Unwanted.off rfl rfl rfl) rfl rfl Fit.sub ?_
       refine D.pass 12 rfl (by kernel_rfl) (by kernel_rfl) (by kernel_rfl) rfl (by kernel_rfl) (fun _ _ _ _ h => h) (Unwanted.off rfl rfl rfl) rfl rfl Fit.sub ?_
       refine D.pass 13 rfl (by kernel_rfl) (by kernel_rfl) (by kernel_rfl) rfl (by kernel_rfl) (fun _ _ _ _ h => h) (Unwanted.off rfl rfl rfl) rfl rfl Fit.sub ?_
       refine D.r 14 rfl (Runs.pickf rfl rfl) ?_ (hJ := Fit.sub)
       refine D.done (by kernel_rfl) ?_
       refine V.then ?_
       refine W.sub (L' := [(68, _), (1, _), (2, _), (7, _), (8, _), (10, _), (13, _)]) (Sub.cons rfl (Sub.cons rfl (Sub.cons rfl (Sub.cons rfl (Sub.cons rfl (Sub.cons rfl (Sub.cons rfl Sub.nil))))))) ?_
       refine W.no rfl ?_
       refine W.exit ?_
       refine V.then_exit ?_
       refine V.then_exit ?_
       refine V.block_hit ?_
       exact V.mid ((p)) (show ((p : Nat) ≤ os.length) ∧ (∀ j : Nat, (p : Nat) ≤ j → j < os.length → at_ (at_ rs 0).xs 0 < at_ (at_ os (j : Int)).xs 0) ∧ ((p : Nat) = 0 ∨ (0 < (p : Nat) ∧ ¬ at_ (at_ rs 0).xs 0 < at_ (at_ os (((p : Nat) : Int) - 1)).xs 0)) from ⟨(by omega), hgt, (by first | omega | exact .inr ⟨by omega, c68⟩)⟩) (Sub.cons rfl (Sub.cons rfl (Sub.cons rfl (Sub.cons rfl (Sub.cons rfl (Sub.cons lookO Sub.nil)))))) (show Fit κ _ (vc 3 (.slice ad5 sd7.length cp6) (sd7) :: vc 22 (.slice (adrop oa oc 1 (Enc.sz (RowG Int))) (List.drop 1 rs).length (oc - 1)) (List.drop 1 rs) :: vc 22 (.slice ua os.length uc) (os) :: blk b1 [I64 (nd), va] 25 :: (ownR 3 (rs ++ os) ++ I)) from Fit.sub)
     ·rintro p hp
      obtain ⟨hp, hgt, hst⟩ : (p ≤ os.length) ∧ (∀ j : Nat, p ≤ j → j < os.length → at_ (at_ rs 0).xs 0 < at_ (at_ os (j : Int)).xs 0) ∧ (p = 0 ∨ (0 < p ∧ ¬ at_ (at_ rs 0).xs 0 < at_ (at_ os ((p : Int) - 1)).xs 0)) := hp
      show W Tryd.prog κ 82 _ _ ([(1, I64 (kk)), (2, .pointer (some ⟨b1, 0, none⟩)), (7, .slice ua os.length uc), (8, .slice (adrop oa oc 1 (Enc.sz (RowG Int))) (List.drop 1 rs).length (oc - 1)), (10, .slice (at_ rs 0).a (at_ rs 0).xs.length (at_ rs 0).c), (13, I64 (((p : Nat) : Int)))] : Env) (vc 3 (.slice ad5 sd7.length cp6) (sd7) :: vc 22 (.slice (adrop oa oc 1 (Enc.sz (RowG Int))) (List.drop 1 rs).length (oc - 1)) (List.drop 1 rs) :: vc 22 (.slice ua os.length uc) (os) :: blk b1 [I64 (nd), va] 25 :: (ownR 3 (rs ++ os) ++ I))
      refine W.drawn mixed ?_
      refine A.hold (vc 3 (.slice ad5 sd7.length cp6) (sd7) :: vc 22 (.slice (adrop oa oc 1 (Enc.sz (RowG Int))) (List.drop 1 rs).length (oc - 1)) (List.drop 1 rs) :: blk b1 [I64 (nd), va] 25 :: (ownR 3 (rs ++ os) ++ I)) 11 ?_
      refine D.r 0 rfl (Runs.move rfl) ?_ (hJ := Fit.sub)
      refine D.r 1 rfl (Runs.move rfl) ?_ (hJ := Fit.sub)
      refine D.r 3 rfl (Runs.move rfl) ?_ (hJ := Fit.sub)
      refine D.r 5 rfl (Runs.move rfl) ?_ (hJ := Fit.sub)
      refine D.r 6 rfl (Runs.move rfl) ?_ (hJ := Fit.sub)
      refine D.step (rs := [2, 4, 7]) (by kernel_rfl) rfl rfl (all2 ?_ (all2 ?_ (all1 ?_)))
      ·refine Step.read rfl (Wanted.plain rfl) rfl rfl (Runs.hi (α := (RowG Int)) (xs := os) (h := p) Tryd.underlying50 ty22 rfl rfl (by omega) Sl.o (by omega)) Fit.sub ?_
       refine D.step (rs := [4, 7]) (by kernel_rfl) rfl rfl (all2 ?_ (all1 ?_))
       ·refine Step.eff rfl (Wanted.plain rfl) (Eff.bs (α := (RowG Int)) (cs := [_]) (xs := [⟨(at_ rs 0).a, (at_ rs 0).c, (at_ rs 0).xs⟩]) Tryd.underlying50 ty22 rfl rfl (by decide) (by decide) rfl rfl rfl rfl) ?_
        rintro _ _ ⟨ad14, rfl, rfl⟩
        refine ⟨Fit.sub, ?_⟩
        refine D.step (rs := [7]) (by kernel_rfl) rfl rfl (all1 ?_)
        refine Step.read rfl (Wanted.plain rfl) rfl rfl (Runs.lo (α := (RowG Int)) (xs := os) (l := p) Tryd.underlying50 ty22 rfl rfl (by omega) Sl.o (by omega)) Fit.sub ?_
        refine D.step (rs := [8]) (by kernel_rfl) rfl rfl (all1 ?_)
        refine Step.eff rfl (Wanted.plain rfl) (Eff.app (α := (RowG Int)) (e := 22) (xs := ([⟨(at_ rs 0).a, (at_ rs 0).c, (at_ rs 0).xs⟩] : List (RowG Int))) (ys := List.drop p os) Tryd.underlying50 ty22 rfl rfl rfl (by repeat (first | exact List.mem_cons_self | apply List.mem_cons_of_mem)) (Sl.drop Sl.o (by omega)) (by simp only [List.length_cons, List.length_nil, List.length_append, List.length_take, List.length_drop]; omega) (by decide) rfl (fun _ _ => (by repeat (first | exact At.head _ _ _ | apply At.tail)))) ?_
        rintro _ _ ⟨ad15, cp16, rfl, rfl⟩
        refine ⟨Fit.sub, ?_⟩
        refine D.fit (J := vc 22 (.slice ua (List.take p os).length uc) (List.take p os) :: vc 22 (.slice ad15 (([⟨(at_ rs 0).a, (at_ rs 0).c, (at_ rs 0).xs⟩] : List (RowG Int)) ++ (List.drop p os)).length cp16) (([⟨(at_ rs 0).a, (at_ rs 0).c, (at_ rs 0).xs⟩] : List (RowG Int)) ++ (List.drop p os)) :: vc 3 (.slice ad5 sd7.length cp6) (sd7) :: vc 22 (.slice (adrop oa oc 1 (Enc.sz (RowG Int))) (List.drop 1 rs).length (oc - 1)) (List.drop 1 rs) :: blk b1 [I64 (nd), va] 25 :: (ownR 3 (rs ++ os) ++ I)) (Fit.trans (show Fit κ _ (vc 22 (.slice ua os.length uc) (os) :: vc 22 (.slice ad15 (([⟨(at_ rs 0).a, (at_ rs 0).c, (at_ rs 0).xs⟩] : List (RowG Int)) ++ (List.drop p os)).length cp16) (([⟨(at_ rs 0).a, (at_ rs 0).c, (at_ rs 0).xs⟩] : List (RowG Int)) ++ (List.drop p os)) :: vc 3 (.slice ad5 sd7.length cp6) (sd7) :: vc 22 (.slice (adrop oa oc 1 (Enc.sz (RowG Int))) (List.drop 1 rs).length (oc - 1)) (List.drop 1 rs) :: blk b1 [I64 (nd), va] 25 :: (ownR 3 (rs ++ os) ++ I)) from Fit.s) (Fit.takevc (α := RowG Int) rfl)) ?_
        refine D.step (rs := [9]) (by kernel_rfl) rfl rfl (all1 ?_)
        refine Step.eff rfl (Wanted.plain rfl) (Eff.app (α := (RowG Int)) (e := 22) (xs := List.take p os) (ys := ([⟨(at_ rs 0).a, (at_ rs 0).c, (at_ rs 0).xs⟩] : List (RowG Int)) ++ (List.drop p os)) Tryd.underlying50 ty22 rfl rfl rfl (by repeat (first | exact List.mem_cons_self | apply List.mem_cons_of_mem)) Sl.o (by simp only [List.length_cons, List.length_nil, List.length_append, List.length_take, List.length_drop]; omega) (by decide) rfl (fun _ _ => (by repeat (first | exact At.head _ _ _ | apply At.tail)))) ?_
        rintro _ _ ⟨ad17, cp18, rfl, rfl⟩
        refine ⟨Fit.sub, ?_⟩
        refine D.r 10 rfl (Runs.assign rfl) ?_ (hJ := Fit.sub)
        refine D.done (by kernel_rfl) ?_
        refine V.block_normal ?_
        have hso := hsd7
        have hok : ok8 = true := by simpa using c44
        rw [hok] at hso
        have hol1 : ((List.take p os) ++ (([⟨(at_ rs 0).a, (at_ rs 0).c, (at_ rs 0).xs⟩] : List (RowG Int)) ++ (List.drop p os))).length = os.length + 1 := by rw [List.length_append, List.length_append, List.length_take, List.length_drop]; simp only [List.length_cons, List.length_nil]; omega
        exact V.next (((adrop oa oc 1 (Enc.sz (RowG Int)))), ((oc - 1)), (List.drop 1 rs), (ad17), (cp18), ((List.take p os) ++ (([⟨(at_ rs 0).a, (at_ rs 0).c, (at_ rs 0).xs⟩] : List (RowG Int)) ++ (List.drop p os)))) (show (WorkP nd kk es ((List.drop 1 rs : List (RowG Int)).map RowG.xs) (((List.take p os) ++ (([⟨(at_ rs 0).a, (at_ rs 0).c, (at_ rs 0).xs⟩] : List (RowG Int)) ++ (List.drop p os)) : List (RowG Int)).map RowG.xs)) ∧ (∀ q ∈ (List.drop 1 rs : List (RowG Int)).map RowG.xs, 1 ≤ q.length) ∧ (mW ((List.drop 1 rs : List (RowG Int)).map RowG.xs) + ((List.take p os) ++ (([⟨(at_ rs 0).a, (at_ rs 0).c, (at_ rs 0).xs⟩] : List (RowG Int)) ++ (List.drop p os)) : List (RowG Int)).length ≤ 128) ∧ ((((List.take p os) ++ (([⟨(at_ rs 0).a, (at_ rs 0).c, (at_ rs 0).xs⟩] : List (RowG Int)) ++ (List.drop p os)) : List (RowG Int)).map RowG.xs).Pairwise fun a b => at_ a 0 < at_ b 0) from ⟨(hW1.put (by omega) hso.kc (by rw [List.map_append, List.map_append, List.map_take, List.map_drop]; have := List.perm_middle (a := (at_ rs 0).xs) (l₁ := (os.map RowG.xs).take p) (l₂ := (os.map RowG.xs).drop p); rw [List.take_append_drop] at this; exact this)), (fun q hq => hne q (by rw [hcons]; exact List.mem_cons_of_mem _ hq)), (by rw [hol1]; omega), (heads_step hW1.disj hS (fun b hb => (hW.val b hb).2.1) (show 2 ≤ (at_ rs 0).xs.length from by omega) hp hgt hst)⟩) (show mW ((List.drop 1 rs : List (RowG Int)).map RowG.xs) < mW (rs.map RowG.xs) from (by omega)) (Sub.cons rfl (Sub.cons rfl (Sub.cons (lookV rfl (by first | rfl | simp)) (Sub.cons (lookV rfl (by first | rfl | simp)) Sub.nil)))) (show Fit κ _ (vc 22 (.slice ((adrop oa oc 1 (Enc.sz (RowG Int)))) (List.drop 1 rs).length ((oc - 1))) ((List.drop 1 rs)) :: vc 22 (.slice (ad17) ((List.take p os) ++ (([⟨(at_ rs 0).a, (at_ rs 0).c, (at_ rs 0).xs⟩] : List (RowG Int)) ++ (List.drop p os))).length (cp18)) (((List.take p os) ++ (([⟨(at_ rs 0).a, (at_ rs 0).c, (at_ rs 0).xs⟩] : List (RowG Int)) ++ (List.drop p os)))) :: blk b1 [I64 (nd), va] 25 :: (ownR 3 ((List.drop 1 rs) ++ ((List.take p os) ++ (([⟨(at_ rs 0).a, (at_ rs 0).c, (at_ rs 0).xs⟩] : List (RowG Int)) ++ (List.drop p os)))) ++ I)) from (Fit.trans (show Fit κ _ ([vc 22 (.slice (adrop oa oc 1 (Enc.sz (RowG Int))) (List.drop 1 rs).length (oc - 1)) (List.drop 1 rs), vc 22 (.slice ad17 ((List.take p os) ++ (([⟨(at_ rs 0).a, (at_ rs 0).c, (at_ rs 0).xs⟩] : List (RowG Int)) ++ (List.drop p os))).length cp18) ((List.take p os) ++ (([⟨(at_ rs 0).a, (at_ rs 0).c, (at_ rs 0).xs⟩] : List (RowG Int)) ++ (List.drop p os))), blk b1 [I64 (nd), va] 25] ++ (ownR 3 (rs ++ os) ++ I)) from (by first | exact Fit.s | exact Fit.sub)) (Fit.ownR_put (by omega))))
       ·refine Step.read rfl (Wanted.plain rfl) rfl rfl (Runs.lo (α := (RowG Int)) (xs := os) (l := p) Tryd.underlying50 ty22 rfl rfl (by omega) Sl.o (by omega)) Fit.sub ?_
        refine D.step (rs := [4]) (by kernel_rfl) rfl rfl (all1 ?_)
        refine Step.eff rfl (Wanted.plain rfl) (Eff.bs (α := (RowG Int)) (cs := [_]) (xs := [⟨(at_ rs 0).a, (at_ rs 0).c, (at_ rs 0).xs⟩]) Tryd.underlying50 ty22 rfl rfl (by decide) (by decide) rfl rfl rfl rfl) ?_
        rintro _ _ ⟨ad19, rfl, rfl⟩
        refine ⟨Fit.sub, ?_⟩
        refine D.step (rs := [8]) (by kernel_rfl) rfl rfl (all1 ?_)
        refine Step.eff rfl (Wanted.plain rfl) (Eff.app (α := (RowG Int)) (e := 22) (xs := ([⟨(at_ rs 0).a, (at_ rs 0).c, (at_ rs 0).xs⟩] : List (RowG Int))) (ys := List.drop p os) Tryd.underlying50 ty22 rfl rfl rfl (by repeat (first | exact List.mem_cons_self | apply List.mem_cons_of_mem)) (Sl.drop Sl.o (by omega)) (by simp only [List.length_cons, List.length_nil, List.length_append, List.length_take, List.length_drop]; omega) (by decide) rfl (fun _ _ => (by repeat (first | exact At.head _ _ _ | apply At.tail)))) ?_
        rintro _ _ ⟨ad20, cp21, rfl, rfl⟩
        refine ⟨Fit.sub, ?_⟩
        refine D.fit (J := vc 22 (.slice ua (List.take p os).length uc) (List.take p os) :: vc 22 (.slice ad20 (([⟨(at_ rs 0).a, (at_ rs 0).c, (at_ rs 0).xs⟩] : List (RowG Int)) ++ (List.drop p os)).length cp21) (([⟨(at_ rs 0).a, (at_ rs 0).c, (at_ rs 0).xs⟩] : List (RowG Int)) ++ (List.drop p os)) :: vc 3 (.slice ad5 sd7.length cp6) (sd7) :: vc 22 (.slice (adrop oa oc 1 (Enc.sz (RowG Int))) (List.drop 1 rs).length (oc - 1)) (List.drop 1 rs) :: blk b1 [I64 (nd), va] 25 :: (ownR 3 (rs ++ os) ++ I)) (Fit.trans (show Fit κ _ (vc 22 (.slice ua os.length uc) (os) :: vc 22 (.slice ad20 (([⟨(at_ rs 0).a, (at_ rs 0).c, (at_ rs 0).xs⟩] : List (RowG Int)) ++ (List.drop p os)).length cp21) (([⟨(at_ rs 0).a, (at_ rs 0).c, (at_ rs 0).xs⟩] : List (RowG Int)) ++ (List.drop p os)) :: vc 3 (.slice ad5 sd7.length cp6) (sd7) :: vc 22 (.slice (adrop oa oc 1 (Enc.sz (RowG Int))) (List.drop 1 rs).length (oc - 1)) (List.drop 1 rs) :: blk b1 [I64 (nd), va] 25 :: (ownR 3 (rs ++ os) ++ I)) from Fit.s) (Fit.takevc (α := RowG Int) rfl)) ?_
        refine D.step (rs := [9]) (by kernel_rfl) rfl rfl (all1 ?_)
        refine Step.eff rfl (Wanted.plain rfl) (Eff.app (α := (RowG Int)) (e := 22) (xs := List.take p os) (ys := ([⟨(at_ rs 0).a, (at_ rs 0).c, (at_ rs 0).xs⟩] : List (RowG Int)) ++ (List.drop p os)) Tryd.underlying50 ty22 rfl rfl rfl (by repeat (first | exact List.mem_cons_self | apply List.mem_cons_of_mem)) Sl.o (by simp only [List.length_cons, List.length_nil, List.length_append, List.length_take, List.length_drop]; omega) (by decide) rfl (fun _ _ => (by repeat (first | exact At.head _ _ _ | apply At.tail)))) ?_
        rintro _ _ ⟨ad22, cp23, rfl, rfl⟩
        refine ⟨Fit.sub, ?_⟩
        refine D.r 10 rfl (Runs.assign rfl) ?_ (hJ := Fit.sub)
        refine D.done (by kernel_rfl) ?_
        refine V.block_normal ?_
        have hso := hsd7
        have hok : ok8 = true := by simpa using c44
        rw [hok] at hso
        have hol1 : ((List.take p os) ++ (([⟨(at_ rs 0).a, (at_ rs 0).c, (at_ rs 0).xs⟩] : List (RowG Int)) ++ (List.drop p os))).length = os.length + 1 := by rw [List.length_append, List.length_append, List.length_take, List.length_drop]; simp only [List.length_cons, List.length_nil]; omega
        exact V.next (((adrop oa oc 1 (Enc.sz (RowG Int)))), ((oc - 1)), (List.drop 1 rs), (ad22), (cp23), ((List.take p os) ++ (([⟨(at_ rs 0).a, (at_ rs 0).c, (at_ rs 0).xs⟩] : List (RowG Int)) ++ (List.drop p os)))) (show (WorkP nd kk es ((List.drop 1 rs : List (RowG Int)).map RowG.xs) (((List.take p os) ++ (([⟨(at_ rs 0).a, (at_ rs 0).c, (at_ rs 0).xs⟩] : List (RowG Int)) ++ (List.drop p os)) : List (RowG Int)).map RowG.xs)) ∧ (∀ q ∈ (List.drop 1 rs : List (RowG Int)).map RowG.xs, 1 ≤ q.length) ∧ (mW ((List.drop 1 rs : List (RowG Int)).map RowG.xs) + ((List.take p os) ++ (([⟨(at_ rs 0).a, (at_ rs 0).c, (at_ rs 0).xs⟩] : List (RowG Int)) ++ (List.drop p os)) : List (RowG Int)).length ≤ 128) ∧ ((((List.take p os) ++ (([⟨(at_ rs 0).a, (at_ rs 0).c, (at_ rs 0).xs⟩] : List (RowG Int)) ++ (List.drop p os)) : List (RowG Int)).map RowG.xs).Pairwise fun a b => at_ a 0 < at_ b 0) from ⟨(hW1.put (by omega) hso.kc (by rw [List.map_append, List.map_append, List.map_take, List.map_drop]; have := List.perm_middle (a := (at_ rs 0).xs) (l₁ := (os.map RowG.xs).take p) (l₂ := (os.map RowG.xs).drop p); rw [List.take_append_drop] at this; exact this)), (fun q hq => hne q (by rw [hcons]; exact List.mem_cons_of_mem _ hq)), (by rw [hol1]; omega), (heads_step hW1.disj hS (fun b hb => (hW.val b hb).2.1) (show 2 ≤ (at_ rs 0).xs.length from by omega) hp hgt hst)⟩) (show mW ((List.drop 1 rs : List (RowG Int)).map RowG.xs) < mW (rs.map RowG.xs) from (by omega)) (Sub.cons rfl (Sub.cons rfl (Sub.cons (lookV rfl (by first | rfl | simp)) (Sub.cons (lookV rfl (by first | rfl | simp)) Sub.nil)))) (show Fit κ _ (vc 22 (.slice ((adrop oa oc 1 (Enc.sz (RowG Int)))) (List.drop 1 rs).length ((oc - 1))) ((List.drop 1 rs)) :: vc 22 (.slice (ad22) ((List.take p os) ++ (([⟨(at_ rs 0).a, (at_ rs 0).c, (at_ rs 0).xs⟩] : List (RowG Int)) ++ (List.drop p os))).length (cp23)) (((List.take p os) ++ (([⟨(at_ rs 0).a, (at_ rs 0).c, (at_ rs 0).xs⟩] : List (RowG Int)) ++ (List.drop p os)))) :: blk b1 [I64 (nd), va] 25 :: (ownR 3 ((List.drop 1 rs) ++ ((List.take p os) ++ (([⟨(at_ rs 0).a, (at_ rs 0).c, (at_ rs 0).xs⟩] : List (RowG Int)) ++ (List.drop p os)))) ++ I)) from (Fit.trans (show Fit κ _ ([vc 22 (.slice (adrop oa oc 1 (Enc.sz (RowG Int))) (List.drop 1 rs).length (oc - 1)) (List.drop 1 rs), vc 22 (.slice ad22 ((List.take p os) ++ (([⟨(at_ rs 0).a, (at_ rs 0).c, (at_ rs 0).xs⟩] : List (RowG Int)) ++ (List.drop p os))).length cp23) ((List.take p os) ++ (([⟨(at_ rs 0).a, (at_ rs 0).c, (at_ rs 0).xs⟩] : List (RowG Int)) ++ (List.drop p os))), blk b1 [I64 (nd), va] 25] ++ (ownR 3 (rs ++ os) ++ I)) from (by first | exact Fit.s | exact Fit.sub)) (Fit.ownR_put (by omega))))
      ·refine Step.eff rfl (Wanted.plain rfl) (Eff.bs (α := (RowG Int)) (cs := [_]) (xs := [⟨(at_ rs 0).a, (at_ rs 0).c, (at_ rs 0).xs⟩]) Tryd.underlying50 ty22 rfl rfl (by decide) (by decide) rfl rfl rfl rfl) ?_
       rintro _ _ ⟨ad24, rfl, rfl⟩
       refine ⟨Fit.sub, ?_⟩
       refine D.step (rs := [2, 7]) (by kernel_rfl) rfl rfl (all2 ?_ (all1 ?_))
       ·refine Step.read rfl (Wanted.plain rfl) rfl rfl (Runs.hi (α := (RowG Int)) (xs := os) (h := p) Tryd.underlying50 ty22 rfl rfl (by omega) Sl.o (by omega)) Fit.sub ?_
        refine D.step (rs := [7]) (by kernel_rfl) rfl rfl (all1 ?_)
        refine Step.read rfl (Wanted.plain rfl) rfl rfl (Runs.lo (α := (RowG Int)) (xs := os) (l := p) Tryd.underlying50 ty22 rfl rfl (by omega) Sl.o (by omega)) Fit.sub ?_
        refine D.step (rs := [8]) (by kernel_rfl) rfl rfl (all1 ?_)
        refine Step.eff rfl (Wanted.plain rfl) (Eff.app (α := (RowG Int)) (e := 22) (xs := ([⟨(at_ rs 0).a, (at_ rs 0).c, (at_ rs 0).xs⟩] : List (RowG Int))) (ys := List.drop p os) Tryd.underlying50 ty22 rfl rfl rfl (by repeat (first | exact List.mem_cons_self | apply List.mem_cons_of_mem)) (Sl.drop Sl.o (by omega)) (by simp only [List.length_cons, List.length_nil, List.length_append, List.length_take, List.length_drop]; omega) (by decide) rfl (fun _ _ => (by repeat (first | exact At.head _ _ _ | apply At.tail)))) ?_
        rintro _ _ ⟨ad25, cp26, rfl, rfl⟩
        refine ⟨Fit.sub, ?_⟩
        refine D.fit (J := vc 22 (.slice ua (List.take p os).length uc) (List.take p os) :: vc 22 (.slice ad25 (([⟨(at_ rs 0).a, (at_ rs 0).c, (at_ rs 0).xs⟩] : List (RowG Int)) ++ (List.drop p os)).length cp26) (([⟨(at_ rs 0).a, (at_ rs 0).c, (at_ rs 0).xs⟩] : List (RowG Int)) ++ (List.drop p os)) :: vc 3 (.slice ad5 sd7.length cp6) (sd7) :: vc 22 (.slice (adrop oa oc 1 (Enc.sz (RowG Int))) (List.drop 1 rs).length (oc - 1)) (List.drop 1 rs) :: blk b1 [I64 (nd), va] 25 :: (ownR 3 (rs ++ os) ++ I)) (Fit.trans (show Fit κ _ (vc 22 (.slice ua os.length uc) (os) :: vc 22 (.slice ad25 (([⟨(at_ rs 0).a, (at_ rs 0).c, (at_ rs 0).xs⟩] : List (RowG Int)) ++ (List.drop p os)).length cp26) (([⟨(at_ rs 0).a, (at_ rs 0).c, (at_ rs 0).xs⟩] : List (RowG Int)) ++ (List.drop p os)) :: vc 3 (.slice ad5 sd7.length cp6) (sd7) :: vc 22 (.slice (adrop oa oc 1 (Enc.sz (RowG Int))) (List.drop 1 rs).length (oc - 1)) (List.drop 1 rs) :: blk b1 [I64 (nd), va] 25 :: (ownR 3 (rs ++ os) ++ I)) from Fit.s) (Fit.takevc (α := RowG Int) rfl)) ?_
        refine D.step (rs := [9]) (by kernel_rfl) rfl rfl (all1 ?_)
        refine Step.eff rfl (Wanted.plain rfl) (Eff.app (α := (RowG Int)) (e := 22) (xs := List.take p os) (ys := ([⟨(at_ rs 0).a, (at_ rs 0).c, (at_ rs 0).xs⟩] : List (RowG Int)) ++ (List.drop p os)) Tryd.underlying50 ty22 rfl rfl rfl (by repeat (first | exact List.mem_cons_self | apply List.mem_cons_of_mem)) Sl.o (by simp only [List.length_cons, List.length_nil, List.length_append, List.length_take, List.length_drop]; omega) (by decide) rfl (fun _ _ => (by repeat (first | exact At.head _ _ _ | apply At.tail)))) ?_
        rintro _ _ ⟨ad27, cp28, rfl, rfl⟩
        refine ⟨Fit.sub, ?_⟩
        refine D.r 10 rfl (Runs.assign rfl) ?_ (hJ := Fit.sub)
        refine D.done (by kernel_rfl) ?_
        refine V.block_normal ?_
        have hso := hsd7
        have hok : ok8 = true := by simpa using c44
        rw [hok] at hso
        have hol1 : ((List.take p os) ++ (([⟨(at_ rs 0).a, (at_ rs 0).c, (at_ rs 0).xs⟩] : List (RowG Int)) ++ (List.drop p os))).length = os.length + 1 := by rw [List.length_append, List.length_append, List.length_take, List.length_drop]; simp only [List.length_cons, List.length_nil]; omega
        exact V.next (((adrop oa oc 1 (Enc.sz (RowG Int)))), ((oc - 1)), (List.drop 1 rs), (ad27), (cp28), ((List.take p os) ++ (([⟨(at_ rs 0).a, (at_ rs 0).c, (at_ rs 0).xs⟩] : List (RowG Int)) ++ (List.drop p os)))) (show (WorkP nd kk es ((List.drop 1 rs : List (RowG Int)).map RowG.xs) (((List.take p os) ++ (([⟨(at_ rs 0).a, (at_ rs 0).c, (at_ rs 0).xs⟩] : List (RowG Int)) ++ (List.drop p os)) : List (RowG Int)).map RowG.xs)) ∧ (∀ q ∈ (List.drop 1 rs : List (RowG Int)).map RowG.xs, 1 ≤ q.length) ∧ (mW ((List.drop 1 rs : List (RowG Int)).map RowG.xs) + ((List.take p os) ++ (([⟨(at_ rs 0).a, (at_ rs 0).c, (at_ rs 0).xs⟩] : List (RowG Int)) ++ (List.drop p os)) : List (RowG Int)).length ≤ 128) ∧ ((((List.take p os) ++ (([⟨(at_ rs 0).a, (at_ rs 0).c, (at_ rs 0).xs⟩] : List (RowG Int)) ++ (List.drop p os)) : List (RowG Int)).map RowG.xs).Pairwise fun a b => at_ a 0 < at_ b 0) from ⟨(hW1.put (by omega) hso.kc (by rw [List.map_append, List.map_append, List.map_take, List.map_drop]; have := List.perm_middle (a := (at_ rs 0).xs) (l₁ := (os.map RowG.xs).take p) (l₂ := (os.map RowG.xs).drop p); rw [List.take_append_drop] at this; exact this)), (fun q hq => hne q (by rw [hcons]; exact List.mem_cons_of_mem _ hq)), (by rw [hol1]; omega), (heads_step hW1.disj hS (fun b hb => (hW.val b hb).2.1) (show 2 ≤ (at_ rs 0).xs.length from by omega) hp hgt hst)⟩) (show mW ((List.drop 1 rs : List (RowG Int)).map RowG.xs) < mW (rs.map RowG.xs) from (by omega)) (Sub.cons rfl (Sub.cons rfl (Sub.cons (lookV rfl (by first | rfl | simp)) (Sub.cons (lookV rfl (by first | rfl | simp)) Sub.nil)))) (show Fit κ _ (vc 22 (.slice ((adrop oa oc 1 (Enc.sz (RowG Int)))) (List.drop 1 rs).length ((oc - 1))) ((List.drop 1 rs)) :: vc 22 (.slice (ad27) ((List.take p os) ++ (([⟨(at_ rs 0).a, (at_ rs 0).c, (at_ rs 0).xs⟩] : List (RowG Int)) ++ (List.drop p os))).length (cp28)) (((List.take p os) ++ (([⟨(at_ rs 0).a, (at_ rs 0).c, (at_ rs 0).xs⟩] : List (RowG Int)) ++ (List.drop p os)))) :: blk b1 [I64 (nd), va] 25 :: (ownR 3 ((List.drop 1 rs) ++ ((List.take p os) ++ (([⟨(at_ rs 0).a, (at_ rs 0).c, (at_ rs 0).xs⟩] : List (RowG Int)) ++ (List.drop p os)))) ++ I)) from (Fit.trans (show Fit κ _ ([vc 22 (.slice (adrop oa oc 1 (Enc.sz (RowG Int))) (List.drop 1 rs).length (oc - 1)) (List.drop 1 rs), vc 22 (.slice ad27 ((List.take p os) ++ (([⟨(at_ rs 0).a, (at_ rs 0).c, (at_ rs 0).xs⟩] : List (RowG Int)) ++ (List.drop p os))).length cp28) ((List.take p os) ++ (([⟨(at_ rs 0).a, (at_ rs 0).c, (at_ rs 0).xs⟩] : List (RowG Int)) ++ (List.drop p os))), blk b1 [I64 (nd), va] 25] ++ (ownR 3 (rs ++ os) ++ I)) from (by first | exact Fit.s | exact Fit.sub)) (Fit.ownR_put (by omega))))
       ·refine Step.read rfl (Wanted.plain rfl) rfl rfl (Runs.lo (α := (RowG Int)) (xs := os) (l := p) Tryd.underlying50 ty22 rfl rfl (by omega) Sl.o (by omega)) Fit.sub ?_
        refine D.step (rs := [2, 8]) (by kernel_rfl) rfl rfl (all2 ?_ (all1 ?_))
        ·refine Step.read rfl (Wanted.plain rfl) rfl rfl (Runs.hi (α := (RowG Int)) (xs := os) (h := p) Tryd.underlying50 ty22 rfl rfl (by omega) Sl.o (by omega)) Fit.sub ?_
         refine D.step (rs := [8]) (by kernel_rfl) rfl rfl (all1 ?_)
         refine Step.eff rfl (Wanted.plain rfl) (Eff.app (α := (RowG Int)) (e := 22) (xs := ([⟨(at_ rs 0).a, (at_ rs 0).c, (at_ rs 0).xs⟩] : List (RowG Int))) (ys := List.drop p os) Tryd.underlying50 ty22 rfl rfl rfl (by repeat (first | exact List.mem_cons_self | apply List.mem_cons_of_mem)) (Sl.drop Sl.o (by omega)) (by simp only [List.length_cons, List.length_nil, List.length_append, List.length_take, List.length_drop]; omega) (by decide) rfl (fun _ _ => (by repeat (first | exact At.head _ _ _ | apply At.tail)))) ?_
         rintro _ _ ⟨ad29, cp30, rfl, rfl⟩
         refine ⟨Fit.sub, ?_⟩
         refine D.fit (J := vc 22 (.slice ua (List.take p os).length uc) (List.take p os) :: vc 22 (.slice ad29 (([⟨(at_ rs 0).a, (at_ rs 0).c, (at_ rs 0).xs⟩] : List (RowG Int)) ++ (List.drop p os)).length cp30) (([⟨(at_ rs 0).a, (at_ rs 0).c, (at_ rs 0).xs⟩] : List (RowG Int)) ++ (List.drop p os)) :: vc 3 (.slice ad5 sd7.length cp6) (sd7) :: vc 22 (.slice (adrop oa oc 1 (Enc.sz (RowG Int))) (List.drop 1 rs).length (oc - 1)) (List.drop 1 rs) :: blk b1 [I64 (nd), va] 25 :: (ownR 3 (rs ++ os) ++ I)) (Fit.trans (show Fit κ _ (vc 22 (.slice ua os.length uc) (os) :: vc 22 (.slice ad29 (([⟨(at_ rs 0).a, (at_ rs 0).c, (at_ rs 0).xs⟩] : List (RowG Int)) ++ (List.drop p os)).length cp30) (([⟨(at_ rs 0).a, (at_ rs 0).c, (at_ rs 0).xs⟩] : List (RowG Int)) ++ (List.drop p os)) :: vc 3 (.slice ad5 sd7.length cp6) (sd7) :: vc 22 (.slice (adrop oa oc 1 (Enc.sz (RowG Int))) (List.drop 1 rs).length (oc - 1)) (List.drop 1 rs) :: blk b1 [I64 (nd), va] 25 :: (ownR 3 (rs ++ os) ++ I)) from Fit.s) (Fit.takevc (α := RowG Int) rfl)) ?_
         refine D.step (rs := [9]) (by kernel_rfl) rfl rfl (all1 ?_)
         refine Step.eff rfl (Wanted.plain rfl) (Eff.app (α := (RowG Int)) (e := 22) (xs := List.take p os) (ys := ([⟨(at_ rs 0).a, (at_ rs 0).c, (at_ rs 0).xs⟩] : List (RowG Int)) ++ (List.drop p os)) Tryd.underlying50 ty22 rfl rfl rfl (by repeat (first | exact List.mem_cons_self | apply List.mem_cons_of_mem)) Sl.o (by simp only [List.length_cons, List.length_nil, List.length_append, List.length_take, List.length_drop]; omega) (by decide) rfl (fun _ _ => (by repeat (first | exact At.head _ _ _ | apply At.tail)))) ?_
         rintro _ _ ⟨ad31, cp32, rfl, rfl⟩
         refine ⟨Fit.sub, ?_⟩
         refine D.r 10 rfl (Runs.assign rfl) ?_ (hJ := Fit.sub)
         refine D.done (by kernel_rfl) ?_
         refine V.block_normal ?_
         have hso := hsd7
         have hok : ok8 = true := by simpa using c44
         rw [hok] at hso
         have hol1 : ((List.take p os) ++ (([⟨(at_ rs 0).a, (at_ rs 0).c, (at_ rs 0).xs⟩] : List (RowG Int)) ++ (List.drop p os))).length = os.length + 1 := by rw [List.length_append, List.length_append, List.length_take, List.length_drop]; simp only [List.length_cons, List.length_nil]; omega
         exact V.next (((adrop oa oc 1 (Enc.sz (RowG Int)))), ((oc - 1)), (List.drop 1 rs), (ad31), (cp32), ((List.take p os) ++ (([⟨(at_ rs 0).a, (at_ rs 0).c, (at_ rs 0).xs⟩] : List (RowG Int)) ++ (List.drop p os)))) (show (WorkP nd kk es ((List.drop 1 rs : List (RowG Int)).map RowG.xs) (((List.take p os) ++ (([⟨(at_ rs 0).a, (at_ rs 0).c, (at_ rs 0).xs⟩] : List (RowG Int)) ++ (List.drop p os)) : List (RowG Int)).map RowG.xs)) ∧ (∀ q ∈ (List.drop 1 rs : List (RowG Int)).map RowG.xs, 1 ≤ q.length) ∧ (mW ((List.drop 1 rs : List (RowG Int)).map RowG.xs) + ((List.take p os) ++ (([⟨(at_ rs 0).a, (at_ rs 0).c, (at_ rs 0).xs⟩] : List (RowG Int)) ++ (List.drop p os)) : List (RowG Int)).length ≤ 128) ∧ ((((List.take p os) ++ (([⟨(at_ rs 0).a, (at_ rs 0).c, (at_ rs 0).xs⟩] : List (RowG Int)) ++ (List.drop p os)) : List (RowG Int)).map RowG.xs).Pairwise fun a b => at_ a 0 < at_ b 0) from ⟨(hW1.put (by omega) hso.kc (by rw [List.map_append, List.map_append, List.map_take, List.map_drop]; have := List.perm_middle (a := (at_ rs 0).xs) (l₁ := (os.map RowG.xs).take p) (l₂ := (os.map RowG.xs).drop p); rw [List.take_append_drop] at this; exact this)), (fun q hq => hne q (by rw [hcons]; exact List.mem_cons_of_mem _ hq)), (by rw [hol1]; omega), (heads_step hW1.disj hS (fun b hb => (hW.val b hb).2.1) (show 2 ≤ (at_ rs 0).xs.length from by omega) hp hgt hst)⟩) (show mW ((List.drop 1 rs : List (RowG Int)).map RowG.xs) < mW (rs.map RowG.xs) from (by omega)) (Sub.cons rfl (Sub.cons rfl (Sub.cons (lookV rfl (by first | rfl | simp)) (Sub.cons (lookV rfl (by first | rfl | simp)) Sub.nil)))) (show Fit κ _ (vc 22 (.slice ((adrop oa oc 1 (Enc.sz (RowG Int)))) (List.drop 1 rs).length ((oc - 1))) ((List.drop 1 rs)) :: vc 22 (.slice (ad31) ((List.take p os) ++ (([⟨(at_ rs 0).a, (at_ rs 0).c, (at_ rs 0).xs⟩] : List (RowG Int)) ++ (List.drop p os))).length (cp32)) (((List.take p os) ++ (([⟨(at_ rs 0).a, (at_ rs 0).c, (at_ rs 0).xs⟩] : List (RowG Int)) ++ (List.drop p os)))) :: blk b1 [I64 (nd), va] 25 :: (ownR 3 ((List.drop 1 rs) ++ ((List.take p os) ++ (([⟨(at_ rs 0).a, (at_ rs 0).c, (at_ rs 0).xs⟩] : List (RowG Int)) ++ (List.drop p os)))) ++ I)) from (Fit.trans (show Fit κ _ ([vc 22 (.slice (adrop oa oc 1 (Enc.sz (RowG Int))) (List.drop 1 rs).length (oc - 1)) (List.drop 1 rs), vc 22 (.slice ad31 ((List.take p os) ++ (([⟨(at_ rs 0).a, (at_ rs 0).c, (at_ rs 0).xs⟩] : List (RowG Int)) ++ (List.drop p os))).length cp32) ((List.take p os) ++ (([⟨(at_ rs 0).a, (at_ rs 0).c, (at_ rs 0).xs⟩] : List (RowG Int)) ++ (List.drop p os))), blk b1 [I64 (nd), va] 25] ++ (ownR 3 (rs ++ os) ++ I)) from (by first | exact Fit.s | exact Fit.sub)) (Fit.ownR_put (by omega))))
        ·refine Step.eff rfl (Wanted.plain rfl) (Eff.app (α := (RowG Int)) (e := 22) (xs := ([⟨(at_ rs 0).a, (at_ rs 0).c, (at_ rs 0).xs⟩] : List (RowG Int))) (ys := List.drop p os) Tryd.underlying50 ty22 rfl rfl rfl (by repeat (first | exact List.mem_cons_self | apply List.mem_cons_of_mem)) (Sl.drop Sl.o (by omega)) (by simp only [List.length_cons, List.length_nil, List.length_append, List.length_take, List.length_drop]; omega) (by decide) rfl (fun _ _ => (by repeat (first | exact At.head _ _ _ | apply At.tail)))) ?_
         rintro _ _ ⟨ad33, cp34, rfl, rfl⟩
         refine ⟨Fit.sub, ?_⟩
         refine D.step (rs := [2]) (by kernel_rfl) rfl rfl (all1 ?_)
         refine Step.read rfl (Wanted.plain rfl) rfl rfl (Runs.hi (α := (RowG Int)) (xs := os) (h := p) Tryd.underlying50 ty22 rfl rfl (by omega) Sl.o (by omega)) Fit.sub ?_
         refine D.fit (J := vc 22 (.slice ua (List.take p os).length uc) (List.take p os) :: vc 22 (.slice ad33 (([⟨(at_ rs 0).a, (at_ rs 0).c, (at_ rs 0).xs⟩] : List (RowG Int)) ++ (List.drop p os)).length cp34) (([⟨(at_ rs 0).a, (at_ rs 0).c, (at_ rs 0).xs⟩] : List (RowG Int)) ++ (List.drop p os)) :: vc 3 (.slice ad5 sd7.length cp6) (sd7) :: vc 22 (.slice (adrop oa oc 1 (Enc.sz (RowG Int))) (List.drop 1 rs).length (oc - 1)) (List.drop 1 rs) :: blk b1 [I64 (nd), va] 25 :: (ownR 3 (rs ++ os) ++ I)) (Fit.trans (show Fit κ _ (vc 22 (.slice ua os.length uc) (os) :: vc 22 (.slice ad33 (([⟨(at_ rs 0).a, (at_ rs 0).c, (at_ rs 0).xs⟩] : List (RowG Int)) ++ (List.drop p os)).length cp34) (([⟨(at_ rs 0).a, (at_ rs 0).c, (at_ rs 0).xs⟩] : List (RowG Int)) ++ (List.drop p os)) :: vc 3 (.slice ad5 sd7.length cp6) (sd7) :: vc 22 (.slice (adrop oa oc 1 (Enc.sz (RowG Int))) (List.drop 1 rs).length (oc - 1)) (List.drop 1 rs) :: blk b1 [I64 (nd), va] 25 :: (ownR 3 (rs ++ os) ++ I)) from Fit.s) (Fit.takevc (α := RowG Int) rfl)) ?_
         refine D.step (rs := [9]) (by kernel_rfl) rfl rfl (all1 ?_)
         refine Step.eff rfl (Wanted.plain rfl) (Eff.app (α := (RowG Int)) (e := 22) (xs := List.take p os) (ys := ([⟨(at_ rs 0).a, (at_ rs 0).c, (at_ rs 0).xs⟩] : List (RowG Int)) ++ (List.drop p os)) Tryd.underlying50 ty22 rfl rfl rfl (by repeat (first | exact List.mem_cons_self | apply List.mem_cons_of_mem)) Sl.o (by simp only [List.length_cons, List.length_nil, List.length_append, List.length_take, List.length_drop]; omega) (by decide) rfl (fun _ _ => (by repeat (first | exact At.head _ _ _ | apply At.tail)))) ?_
         rintro _ _ ⟨ad35, cp36, rfl, rfl⟩
         refine ⟨Fit.sub, ?_⟩
         refine D.r 10 rfl (Runs.assign rfl) ?_ (hJ := Fit.sub)
         refine D.done (by kernel_rfl) ?_
         refine V.block_normal ?_
         have hso := hsd7
         have hok : ok8 = true := by simpa using c44
         rw [hok] at hso
         have hol1 : ((List.take p os) ++ (([⟨(at_ rs 0).a, (at_ rs 0).c, (at_ rs 0).xs⟩] : List (RowG Int)) ++ (List.drop p os))).length = os.length + 1 := by rw [List.length_append, List.length_append, List.length_take, List.length_drop]; simp only [List.length_cons, List.length_nil]; omega
         exact V.next (((adrop oa oc 1 (Enc.sz (RowG Int)))), ((oc - 1)), (List.drop 1 rs), (ad35), (cp36), ((List.take p os) ++ (([⟨(at_ rs 0).a, (at_ rs 0).c, (at_ rs 0).xs⟩] : List (RowG Int)) ++ (List.drop p os)))) (show (WorkP nd kk es ((List.drop 1 rs : List (RowG Int)).map RowG.xs) (((List.take p os) ++ (([⟨(at_ rs 0).a, (at_ rs 0).c, (at_ rs 0).xs⟩] : List (RowG Int)) ++ (List.drop p os)) : List (RowG Int)).map RowG.xs)) ∧ (∀ q ∈ (List.drop 1 rs : List (RowG Int)).map RowG.xs, 1 ≤ q.length) ∧ (mW ((List.drop 1 rs : List (RowG Int)).map RowG.xs) + ((List.take p os) ++ (([⟨(at_ rs 0).a, (at_ rs 0).c, (at_ rs 0).xs⟩] : List (RowG Int)) ++ (List.drop p os)) : List (RowG Int)).length ≤ 128) ∧ ((((List.take p os) ++ (([⟨(at_ rs 0).a, (at_ rs 0).c, (at_ rs 0).xs⟩] : List (RowG Int)) ++ (List.drop p os)) : List (RowG Int)).map RowG.xs).Pairwise fun a b => at_ a 0 < at_ b 0) from ⟨(hW1.put (by omega) hso.kc (by rw [List.map_append, List.map_append, List.map_take, List.map_drop]; have := List.perm_middle (a := (at_ rs 0).xs) (l₁ := (os.map RowG.xs).take p) (l₂ := (os.map RowG.xs).drop p); rw [List.take_append_drop] at this; exact this)), (fun q hq => hne q (by rw [hcons]; exact List.mem_cons_of_mem _ hq)), (by rw [hol1]; omega), (heads_step hW1.disj hS (fun b hb => (hW.val b hb).2.1) (show 2 ≤ (at_ rs 0).xs.length from by omega) hp hgt hst)⟩) (show mW ((List.drop 1 rs : List (RowG Int)).map RowG.xs) < mW (rs.map RowG.xs) from (by omega)) (Sub.cons rfl (Sub.cons rfl (Sub.cons (lookV rfl (by first | rfl | simp)) (Sub.cons (lookV rfl (by first | rfl | simp)) Sub.nil)))) (show Fit κ _ (vc 22 (.slice ((adrop oa oc 1 (Enc.sz (RowG Int)))) (List.drop 1 rs).length ((oc - 1))) ((List.drop 1 rs)) :: vc 22 (.slice (ad35) ((List.take p os) ++ (([⟨(at_ rs 0).a, (at_ rs 0).c, (at_ rs 0).xs⟩] : List (RowG Int)) ++ (List.drop p os))).length (cp36)) (((List.take p os) ++ (([⟨(at_ rs 0).a, (at_ rs 0).c, (at_ rs 0).xs⟩] : List (RowG Int)) ++ (List.drop p os)))) :: blk b1 [I64 (nd), va] 25 :: (ownR 3 ((List.drop 1 rs) ++ ((List.take p os) ++ (([⟨(at_ rs 0).a, (at_ rs 0).c, (at_ rs 0).xs⟩] : List (RowG Int)) ++ (List.drop p os)))) ++ I)) from (Fit.trans (show Fit κ _ ([vc 22 (.slice (adrop oa oc 1 (Enc.sz (RowG Int))) (List.drop 1 rs).length (oc - 1)) (List.drop 1 rs), vc 22 (.slice ad35 ((List.take p os) ++ (([⟨(at_ rs 0).a, (at_ rs 0).c, (at_ rs 0).xs⟩] : List (RowG Int)) ++ (List.drop p os))).length cp36) ((List.take p os) ++ (([⟨(at_ rs 0).a, (at_ rs 0).c, (at_ rs 0).xs⟩] : List (RowG Int)) ++ (List.drop p os))), blk b1 [I64 (nd), va] 25] ++ (ownR 3 (rs ++ os) ++ I)) from (by first | exact Fit.s | exact Fit.sub)) (Fit.ownR_put (by omega))))
      ·refine Step.read rfl (Wanted.plain rfl) rfl rfl (Runs.lo (α := (RowG Int)) (xs := os) (l := p) Tryd.underlying50 ty22 rfl rfl (by omega) Sl.o (by omega)) Fit.sub ?_
       refine D.step (rs := [2, 4]) (by kernel_rfl) rfl rfl (all2 ?_ (all1 ?_))
       ·refine Step.read rfl (Wanted.plain rfl) rfl rfl (Runs.hi (α := (RowG Int)) (xs := os) (h := p) Tryd.underlying50 ty22 rfl rfl (by omega) Sl.o (by omega)) Fit.sub ?_
        refine D.step (rs := [4]) (by kernel_rfl) rfl rfl (all1 ?_)
        refine Step.eff rfl (Wanted.plain rfl) (Eff.bs (α := (RowG Int)) (cs := [_]) (xs := [⟨(at_ rs 0).a, (at_ rs 0).c, (at_ rs 0).xs⟩]) Tryd.underlying50 ty22 rfl rfl (by decide) (by decide) rfl rfl rfl rfl) ?_
        rintro _ _ ⟨ad37, rfl, rfl⟩
        refine ⟨Fit.sub, ?_⟩
        refine D.step (rs := [8]) (by kernel_rfl) rfl rfl (all1 ?_)
        refine Step.eff rfl (Wanted.plain rfl) (Eff.app (α := (RowG Int)) (e := 22) (xs := ([⟨(at_ rs 0).a, (at_ rs 0).c, (at_ rs 0).xs⟩] : List (RowG Int))) (ys := List.drop p os) Tryd.underlying50 ty22 rfl rfl rfl (by repeat (first | exact List.mem_cons_self | apply List.mem_cons_of_mem)) (Sl.drop Sl.o (by omega)) (by simp only [List.length_cons, List.length_nil, List.length_append, List.length_take, List.length_drop]; omega) (by decide) rfl (fun _ _ => (by repeat (first | exact At.head _ _ _ | apply At.tail)))) ?_
        rintro _ _ ⟨ad38, cp39, rfl, rfl⟩
        refine ⟨Fit.sub, ?_⟩
        refine D.fit (J := vc 22 (.slice ua (List.take p os).length uc) (List.take p os) :: vc 22 (.slice ad38 (([⟨(at_ rs 0).a, (at_ rs 0).c, (at_ rs 0).xs⟩] : List (RowG Int)) ++ (List.drop p os)).length cp39) (([⟨(at_ rs 0).a, (at_ rs 0).c, (at_ rs 0).xs⟩] : List (RowG Int)) ++ (List.drop p os)) :: vc 3 (.slice ad5 sd7.length cp6) (sd7) :: vc 22 (.slice (adrop oa oc 1 (Enc.sz (RowG Int))) (List.drop 1 rs).length (oc - 1)) (List.drop 1 rs) :: blk b1 [I64 (nd), va] 25 :: (ownR 3 (rs ++ os) ++ I)) (Fit.trans (show Fit κ _ (vc 22 (.slice ua os.length uc) (os) :: vc 22 (.slice ad38 (([⟨(at_ rs 0).a, (at_ rs 0).c, (at_ rs 0).xs⟩] : List (RowG Int)) ++ (List.drop p os)).length cp39) (([⟨(at_ rs 0).a, (at_ rs 0).c, (at_ rs 0).xs⟩] : List (RowG Int)) ++ (List.drop p os)) :: vc 3 (.slice ad5 sd7.length cp6) (sd7) :: vc 22 (.slice (adrop oa oc 1 (Enc.sz (RowG Int))) (List.drop 1 rs).length (oc - 1)) (List.drop 1 rs) :: blk b1 [I64 (nd), va] 25 :: (ownR 3 (rs ++ os) ++ I)) from Fit.s) (Fit.takevc (α := RowG Int) rfl)) ?_
        refine D.step (rs := [9]) (by kernel_rfl) rfl rfl (all1 ?_)
        refine Step.eff rfl (Wanted.plain rfl) (Eff.app (α := (RowG Int)) (e := 22) (xs := List.take p os) (ys := ([⟨(at_ rs 0).a, (at_ rs 0).c, (at_ rs 0).xs⟩] : List (RowG Int)) ++ (List.drop p os)) Tryd.underlying50 ty22 rfl rfl rfl (by repeat (first | exact List.mem_cons_self | apply List.mem_cons_of_mem)) Sl.o (by simp only [List.length_cons, List.length_nil, List.length_append, List.length_take, List.length_drop]; omega) (by decide) rfl (fun _ _ => (by repeat (first | exact At.head _ _ _ | apply At.tail)))) ?_
        rintro _ _ ⟨ad40, cp41, rfl, rfl⟩
        refine ⟨Fit.sub, ?_⟩
        refine D.r 10 rfl (Runs.assign rfl) ?_ (hJ := Fit.sub)
        refine D.done (by kernel_rfl) ?_
        refine V.block_normal ?_
        have hso := hsd7
        have hok : ok8 = true := by simpa using c44
        rw [hok] at hso
        have hol1 : ((List.take p os) ++ (([⟨(at_ rs 0).a, (at_ rs 0).c, (at_ rs 0).xs⟩] : List (RowG Int)) ++ (List.drop p os))).length = os.length + 1 := by rw [List.length_append, List.length_append, List.length_take, List.length_drop]; simp only [List.length_cons, List.length_nil]; omega
        exact V.next (((adrop oa oc 1 (Enc.sz (RowG Int)))), ((oc - 1)), (List.drop 1 rs), (ad40), (cp41), ((List.take p os) ++ (([⟨(at_ rs 0).a, (at_ rs 0).c, (at_ rs 0).xs⟩] : List (RowG Int)) ++ (List.drop p os)))) (show (WorkP nd kk es ((List.drop 1 rs : List (RowG Int)).map RowG.xs) (((List.take p os) ++ (([⟨(at_ rs 0).a, (at_ rs 0).c, (at_ rs 0).xs⟩] : List (RowG Int)) ++ (List.drop p os)) : List (RowG Int)).map RowG.xs)) ∧ (∀ q ∈ (List.drop 1 rs : List (RowG Int)).map RowG.xs, 1 ≤ q.length) ∧ (mW ((List.drop 1 rs : List (RowG Int)).map RowG.xs) + ((List.take p os) ++ (([⟨(at_ rs 0).a, (at_ rs 0).c, (at_ rs 0).xs⟩] : List (RowG Int)) ++ (List.drop p os)) : List (RowG Int)).length ≤ 128) ∧ ((((List.take p os) ++ (([⟨(at_ rs 0).a, (at_ rs 0).c, (at_ rs 0).xs⟩] : List (RowG Int)) ++ (List.drop p os)) : List (RowG Int)).map RowG.xs).Pairwise fun a b => at_ a 0 < at_ b 0) from ⟨(hW1.put (by omega) hso.kc (by rw [List.map_append, List.map_append, List.map_take, List.map_drop]; have := List.perm_middle (a := (at_ rs 0).xs) (l₁ := (os.map RowG.xs).take p) (l₂ := (os.map RowG.xs).drop p); rw [List.take_append_drop] at this; exact this)), (fun q hq => hne q (by rw [hcons]; exact List.mem_cons_of_mem _ hq)), (by rw [hol1]; omega), (heads_step hW1.disj hS (fun b hb => (hW.val b hb).2.1) (show 2 ≤ (at_ rs 0).xs.length from by omega) hp hgt hst)⟩) (show mW ((List.drop 1 rs : List (RowG Int)).map RowG.xs) < mW (rs.map RowG.xs) from (by omega)) (Sub.cons rfl (Sub.cons rfl (Sub.cons (lookV rfl (by first | rfl | simp)) (Sub.cons (lookV rfl (by first | rfl | simp)) Sub.nil)))) (show Fit κ _ (vc 22 (.slice ((adrop oa oc 1 (Enc.sz (RowG Int)))) (List.drop 1 rs).length ((oc - 1))) ((List.drop 1 rs)) :: vc 22 (.slice (ad40) ((List.take p os) ++ (([⟨(at_ rs 0).a, (at_ rs 0).c, (at_ rs 0).xs⟩] : List (RowG Int)) ++ (List.drop p os))).length (cp41)) (((List.take p os) ++ (([⟨(at_ rs 0).a, (at_ rs 0).c, (at_ rs 0).xs⟩] : List (RowG Int)) ++ (List.drop p os)))) :: blk b1 [I64 (nd), va] 25 :: (ownR 3 ((List.drop 1 rs) ++ ((List.take p os) ++ (([⟨(at_ rs 0).a, (at_ rs 0).c, (at_ rs 0).xs⟩] : List (RowG Int)) ++ (List.drop p os)))) ++ I)) from (Fit.trans (show Fit κ _ ([vc 22 (.slice (adrop oa oc 1 (Enc.sz (RowG Int))) (List.drop 1 rs).length (oc - 1)) (List.drop 1 rs), vc 22 (.slice ad40 ((List.take p os) ++ (([⟨(at_ rs 0).a, (at_ rs 0).c, (at_ rs 0).xs⟩] : List (RowG Int)) ++ (List.drop p os))).length cp41) ((List.take p os) ++ (([⟨(at_ rs 0).a, (at_ rs 0).c, (at_ rs 0).xs⟩] : List (RowG Int)) ++ (List.drop p os))), blk b1 [I64 (nd), va] 25] ++ (ownR 3 (rs ++ os) ++ I)) from (by first | exact Fit.s | exact Fit.sub)) (Fit.ownR_put (by omega))))
       ·refine Step.eff rfl (Wanted.plain rfl) (Eff.bs (α := (RowG Int)) (cs := [_]) (xs := [⟨(at_ rs 0).a, (at_ rs 0).c, (at_ rs 0).xs⟩]) Tryd.underlying50 ty22 rfl rfl (by decide) (by decide) rfl rfl rfl rfl) ?_
        rintro _ _ ⟨ad42, rfl, rfl⟩
        refine ⟨Fit.sub, ?_⟩
        refine D.step (rs := [2, 8]) (by kernel_rfl) rfl rfl (all2 ?_ (all1 ?_))
        ·refine Step.read rfl (Wanted.plain rfl) rfl rfl (Runs.hi (α := (RowG Int)) (xs := os) (h := p) Tryd.underlying50 ty22 rfl rfl (by omega) Sl.o (by omega)) Fit.sub ?_
         refine D.step (rs := [8]) (by kernel_rfl) rfl rfl (all1 ?_)
         refine Step.eff rfl (Wanted.plain rfl) (Eff.app (α := (RowG Int)) (e := 22) (xs := ([⟨(at_ rs 0).a, (at_ rs 0).c, (at_ rs 0).xs⟩] : List (RowG Int))) (ys := List.drop p os) Tryd.underlying50 ty22 rfl rfl rfl (by repeat (first | exact List.mem_cons_self | apply List.mem_cons_of_mem)) (Sl.drop Sl.o (by omega)) (by simp only [List.length_cons, List.length_nil, List.length_append, List.length_take, List.length_drop]; omega) (by decide) rfl (fun _ _ => (by repeat (first | exact At.head _ _ _ | apply At.tail)))) ?_
         rintro _ _ ⟨ad43, cp44, rfl, rfl⟩
         refine ⟨Fit.sub, ?_⟩
         refine D.fit (J := vc 22 (.slice ua (List.take p os).length uc) (List.take p os) :: vc 22 (.slice ad43 (([⟨(at_ rs 0).a, (at_ rs 0).c, (at_ rs 0).xs⟩] : List (RowG Int)) ++ (List.drop p os)).length cp44) (([⟨(at_ rs 0).a, (at_ rs 0).c, (at_ rs 0).xs⟩] : List (RowG Int)) ++ (List.drop p os)) :: vc 3 (.slice ad5 sd7.length cp6) (sd7) :: vc 22 (.slice (adrop oa oc 1 (Enc.sz (RowG Int))) (List.drop 1 rs).length (oc - 1)) (List.drop 1 rs) :: blk b1 [I64 (nd), va] 25 :: (ownR 3 (rs ++ os) ++ I)) (Fit.trans (show Fit κ _ (vc 22 (.slice ua os.length uc) (os) :: vc 22 (.slice ad43 (([⟨(at_ rs 0).a, (at_ rs 0).c, (at_ rs 0).xs⟩] : List (RowG Int)) ++ (List.drop p os)).length cp44) (([⟨(at_ rs 0).a, (at_ rs 0).c, (at_ rs 0).xs⟩] : List (RowG Int)) ++ (List.drop p os)) :: vc 3 (.slice ad5 sd7.length cp6) (sd7) :: vc 22 (.slice (adrop oa oc 1 (Enc.sz (RowG Int))) (List.drop 1 rs).length (oc - 1)) (List.drop 1 rs) :: blk b1 [I64 (nd), va] 25 :: (ownR 3 (rs ++ os) ++ I)) from Fit.s) (Fit.takevc (α := RowG Int) rfl)) ?_
         refine D.step (rs := [9]) (by kernel_rfl) rfl rfl (all1 ?_)
         refine Step.eff rfl (Wanted.plain rfl) (Eff.app (α := (RowG Int)) (e := 22) (xs := List.take p os) (ys := ([⟨(at_ rs 0).a, (at_ rs 0).c, (at_ rs 0).xs⟩] : List (RowG Int)) ++ (List.drop p os)) Tryd.underlying50 ty22 rfl rfl rfl (by repeat (first | exact List.mem_cons_self | apply List.mem_cons_of_mem)) Sl.o (by simp only [List.length_cons, List.length_nil, List.length_append, List.length_take, List.length_drop]; omega) (by decide) rfl (fun _ _ => (by repeat (first | exact At.head _ _ _ | apply At.tail)))) ?_
         rintro _ _ ⟨ad45, cp46, rfl, rfl⟩
         refine ⟨Fit.sub, ?_⟩
         refine D.r 10 rfl (Runs.assign rfl) ?_ (hJ := Fit.sub)
         refine D.done (by kernel_rfl) ?_
         refine V.block_normal ?_
         have hso := hsd7
         have hok : ok8 = true := by simpa using c44
         rw [hok] at hso
         have hol1 : ((List.take p os) ++ (([⟨(at_ rs 0).a, (at_ rs 0).c, (at_ rs 0).xs⟩] : List (RowG Int)) ++ (List.drop p os))).length = os.length + 1 := by rw [List.length_append, List.length_append, List.length_take, List.length_drop]; simp only [List.length_cons, List.length_nil]; omega
         exact V.next (((adrop oa oc 1 (Enc.sz (RowG Int)))), ((oc - 1)), (List.drop 1 rs), (ad45), (cp46), ((List.take p os) ++ (([⟨(at_ rs 0).a, (at_ rs 0).c, (at_ rs 0).xs⟩] : List (RowG Int)) ++ (List.drop p os)))) (show (WorkP nd kk es ((List.drop 1 rs : List (RowG Int)).map RowG.xs) (((List.take p os) ++ (([⟨(at_ rs 0).a, (at_ rs 0).c, (at_ rs 0).xs⟩] : List (RowG Int)) ++ (List.drop p os)) : List (RowG Int)).map RowG.xs)) ∧ (∀ q ∈ (List.drop 1 rs : List (RowG Int)).map RowG.xs, 1 ≤ q.length) ∧ (mW ((List.drop 1 rs : List (RowG Int)).map RowG.xs) + ((List.take p os) ++ (([⟨(at_ rs 0).a, (at_ rs 0).c, (at_ rs 0).xs⟩] : List (RowG Int)) ++ (List.drop p os)) : List (RowG Int)).length ≤ 128) ∧ ((((List.take p os) ++ (([⟨(at_ rs 0).a, (at_ rs 0).c, (at_ rs 0).xs⟩] : List (RowG Int)) ++ (List.drop p os)) : List (RowG Int)).map RowG.xs).Pairwise fun a b => at_ a 0 < at_ b 0) from ⟨(hW1.put (by omega) hso.kc (by rw [List.map_append, List.map_append, List.map_take, List.map_drop]; have := List.perm_middle (a := (at_ rs 0).xs) (l₁ := (os.map RowG.xs).take p) (l₂ := (os.map RowG.xs).drop p); rw [List.take_append_drop] at this; exact this)), (fun q hq => hne q (by rw [hcons]; exact List.mem_cons_of_mem _ hq)), (by rw [hol1]; omega), (heads_step hW1.disj hS (fun b hb => (hW.val b hb).2.1) (show 2 ≤ (at_ rs 0).xs.length from by omega) hp hgt hst)⟩) (show mW ((List.drop 1 rs : List (RowG Int)).map RowG.xs) < mW (rs.map RowG.xs) from (by omega)) (Sub.cons rfl (Sub.cons rfl (Sub.cons (lookV rfl (by first | rfl | simp)) (Sub.cons (lookV rfl (by first | rfl | simp)) Sub.nil)))) (show Fit κ _ (vc 22 (.slice ((adrop oa oc 1 (Enc.sz (RowG Int)))) (List.drop 1 rs).length ((oc - 1))) ((List.drop 1 rs)) :: vc 22 (.slice (ad45) ((List.take p os) ++ (([⟨(at_ rs 0).a, (at_ rs 0).c, (at_ rs 0).xs⟩] : List (RowG Int)) ++ (List.drop p os))).length (cp46)) (((List.take p os) ++ (([⟨(at_ rs 0).a, (at_ rs 0).c, (at_ rs 0).xs⟩] : List (RowG Int)) ++ (List.drop p os)))) :: blk b1 [I64 (nd), va] 25 :: (ownR 3 ((List.drop 1 rs) ++ ((List.take p os) ++ (([⟨(at_ rs 0).a, (at_ rs 0).c, (at_ rs 0).xs⟩] : List (RowG Int)) ++ (List.drop p os)))) ++ I)) from (Fit.trans (show Fit κ _ ([vc 22 (.slice (adrop oa oc 1 (Enc.sz (RowG Int))) (List.drop 1 rs).length (oc - 1)) (List.drop 1 rs), vc 22 (.slice ad45 ((List.take p os) ++ (([⟨(at_ rs 0).a, (at_ rs 0).c, (at_ rs 0).xs⟩] : List (RowG Int)) ++ (List.drop p os))).length cp46) ((List.take p os) ++ (([⟨(at_ rs 0).a, (at_ rs 0).c, (at_ rs 0).xs⟩] : List (RowG Int)) ++ (List.drop p os))), blk b1 [I64 (nd), va] 25] ++ (ownR 3 (rs ++ os) ++ I)) from (by first | exact Fit.s | exact Fit.sub)) (Fit.ownR_put (by omega))))
        ·refine Step.eff rfl (Wanted.plain rfl) (Eff.app (α := (RowG Int)) (e := 22) (xs := ([⟨(at_ rs 0).a, (at_ rs 0).c, (at_ rs 0).xs⟩] : List (RowG Int))) (ys := List.drop p os) Tryd.underlying50 ty22 rfl rfl rfl (by repeat (first | exact List.mem_cons_self | apply List.mem_cons_of_mem)) (Sl.drop Sl.o (by omega)) (by simp only [List.length_cons, List.length_nil, List.length_append, List.length_take, List.length_drop]; omega) (by decide) rfl (fun _ _ => (by repeat (first | exact At.head _ _ _ | apply At.tail)))) ?_
         rintro _ _ ⟨ad47, cp48, rfl, rfl⟩
         refine ⟨Fit.sub, ?_⟩
         refine D.step (rs := [2]) (by kernel_rfl) rfl rfl (all1 ?_)
         refine Step.read rfl (Wanted.plain rfl) rfl rfl (Runs.hi (α := (RowG Int)) (xs := os) (h := p) Tryd.underlying50 ty22 rfl rfl (by omega) Sl.o (by omega)) Fit.sub ?_
         refine D.fit (J := vc 22 (.slice ua (List.take p os).length uc) (List.take p os) :: vc 22 (.slice ad47 (([⟨(at_ rs 0).a, (at_ rs 0).c, (at_ rs 0).xs⟩] : List (RowG Int)) ++ (List.drop p os)).length cp48) (([⟨(at_ rs 0).a, (at_ rs 0).c, (at_ rs 0).xs⟩] : List (RowG Int)) ++ (List.drop p os)) :: vc 3 (.slice ad5 sd7.length cp6) (sd7) :: vc 22 (.slice (adrop oa oc 1 (Enc.sz (RowG Int))) (List.drop 1 rs).length (oc - 1)) (List.drop 1 rs) :: blk b1 [I64 (nd), va] 25 :: (ownR 3 (rs ++ os) ++ I)) (Fit.trans (show Fit κ _ (vc 22 (.slice ua os.length uc) (os) :: vc 22 (.slice ad47 (([⟨(at_ rs 0).a, (at_ rs 0).c, (at_ rs 0).xs⟩] : List (RowG Int)) ++ (List.drop p os)).length cp48) (([⟨(at_ rs 0).a, (at_ rs 0).c, (at_ rs 0).xs⟩] : List (RowG Int)) ++ (List.drop p os)) :: vc 3 (.slice ad5 sd7.length cp6) (sd7) :: vc 22 (.slice (adrop oa oc 1 (Enc.sz (RowG Int))) (List.drop 1 rs).length (oc - 1)) (List.drop 1 rs) :: blk b1 [I64 (nd), va] 25 :: (ownR 3 (rs ++ os) ++ I)) from Fit.s) (Fit.takevc (α := RowG Int) rfl)) ?_
         refine D.step (rs := [9]) (by kernel_rfl) rfl rfl (all1 ?_)
         refine Step.eff rfl (Wanted.plain rfl) (Eff.app (α := (RowG Int)) (e := 22) (xs := List.take p os) (ys := ([⟨(at_ rs 0).a, (at_ rs 0).c, (at_ rs 0).xs⟩] : List (RowG Int)) ++ (List.drop p os)) Tryd.underlying50 ty22 rfl rfl rfl (by repeat (first | exact List.mem_cons_self | apply List.mem_cons_of_mem)) Sl.o (by simp only [List.length_cons, List.length_nil, List.length_append, List.length_take, List.length_drop]; omega) (by decide) rfl (fun _ _ => (by repeat (first | exact At.head _ _ _ | apply At.tail)))) ?_
         rintro _ _ ⟨ad49, cp50, rfl, rfl⟩
         refine ⟨Fit.sub, ?_⟩
         refine D.r 10 rfl (Runs.assign rfl) ?_ (hJ := Fit.sub)
         refine D.done (by kernel_rfl) ?_
         refine V.block_normal ?_
         have hso := hsd7
         have hok : ok8 = true := by simpa using c44
         rw [hok] at hso
         have hol1 : ((List.take p os) ++ (([⟨(at_ rs 0).a, (at_ rs 0).c, (at_ rs 0).xs⟩] : List (RowG Int)) ++ (List.drop p os))).length = os.length + 1 := by rw [List.length_append, List.length_append, List.length_take, List.length_drop]; simp only [List.length_cons, List.length_nil]; omega
         exact V.next (((adrop oa oc 1 (Enc.sz (RowG Int)))), ((oc - 1)), (List.drop 1 rs), (ad49), (cp50), ((List.take p os) ++ (([⟨(at_ rs 0).a, (at_ rs 0).c, (at_ rs 0).xs⟩] : List (RowG Int)) ++ (List.drop p os)))) (show (WorkP nd kk es ((List.drop 1 rs : List (RowG Int)).map RowG.xs) (((List.take p os) ++ (([⟨(at_ rs 0).a, (at_ rs 0).c, (at_ rs 0).xs⟩] : List (RowG Int)) ++ (List.drop p os)) : List (RowG Int)).map RowG.xs)) ∧ (∀ q ∈ (List.drop 1 rs : List (RowG Int)).map RowG.xs, 1 ≤ q.length) ∧ (mW ((List.drop 1 rs : List (RowG Int)).map RowG.xs) + ((List.take p os) ++ (([⟨(at_ rs 0).a, (at_ rs 0).c, (at_ rs 0).xs⟩] : List (RowG Int)) ++ (List.drop p os)) : List (RowG Int)).length ≤ 128) ∧ ((((List.take p os) ++ (([⟨(at_ rs 0).a, (at_ rs 0).c, (at_ rs 0).xs⟩] : List (RowG Int)) ++ (List.drop p os)) : List (RowG Int)).map RowG.xs).Pairwise fun a b => at_ a 0 < at_ b 0) from ⟨(hW1.put (by omega) hso.kc (by rw [List.map_append, List.map_append, List.map_take, List.map_drop]; have := List.perm_middle (a := (at_ rs 0).xs) (l₁ := (os.map RowG.xs).take p) (l₂ := (os.map RowG.xs).drop p); rw [List.take_append_drop] at this; exact this)), (fun q hq => hne q (by rw [hcons]; exact List.mem_cons_of_mem _ hq)), (by rw [hol1]; omega), (heads_step hW1.disj hS (fun b hb => (hW.val b hb).2.1) (show 2 ≤ (at_ rs 0).xs.length from by omega) hp hgt hst)⟩) (show mW ((List.drop 1 rs : List (RowG Int)).map RowG.xs) < mW (rs.map RowG.xs) from (by omega)) (Sub.cons rfl (Sub.cons rfl (Sub.cons (lookV rfl (by first | rfl | simp)) (Sub.cons (lookV rfl (by first | rfl | simp)) Sub.nil)))) (show Fit κ _ (vc 22 (.slice ((adrop oa oc 1 (Enc.sz (RowG Int)))) (List.drop 1 rs).length ((oc - 1))) ((List.drop 1 rs)) :: vc 22 (.slice (ad49) ((List.take p os) ++ (([⟨(at_ rs 0).a, (at_ rs 0).c, (at_ rs 0).xs⟩] : List (RowG Int)) ++ (List.drop p os))).length (cp50)) (((List.take p os) ++ (([⟨(at_ rs 0).a, (at_ rs 0).c, (at_ rs 0).xs⟩] : List (RowG Int)) ++ (List.drop p os)))) :: blk b1 [I64 (nd), va] 25 :: (ownR 3 ((List.drop 1 rs) ++ ((List.take p os) ++ (([⟨(at_ rs 0).a, (at_ rs 0).c, (at_ rs 0).xs⟩] : List (RowG Int)) ++ (List.drop p os)))) ++ I)) from (Fit.trans (show Fit κ _ ([vc 22 (.slice (adrop oa oc 1 (Enc.sz (RowG Int))) (List.drop 1 rs).length (oc - 1)) (List.drop 1 rs), vc 22 (.slice ad49 ((List.take p os) ++ (([⟨(at_ rs 0).a, (at_ rs 0).c, (at_ rs 0).xs⟩] : List (RowG Int)) ++ (List.drop p os))).length cp50) ((List.take p os) ++ (([⟨(at_ rs 0).a, (at_ rs 0).c, (at_ rs 0).xs⟩] : List (RowG Int)) ++ (List.drop p os))), blk b1 [I64 (nd), va] 25] ++ (ownR 3 (rs ++ os) ++ I)) from (by first | exact Fit.s | exact Fit.sub)) (Fit.ownR_put (by omega))))
  ·refine W.exit ?_
   refine V.then_exit ?_
   refine V.then_exit ?_
   refine V.block_hit ?_
   refine V.then ?_
   refine W.sr ?_
   refine G.r (Runs.move rfl) ?_
   refine G.r (Runs.assign rfl) ?_
   refine G.r (Runs.assign rfl) ?_
   refine G.nt ?_
   refine W.ret ?_
   have hr0 : rs = [] := List.eq_nil_of_length_eq_zero (by omega)
   subst hr0
   have hEA : askE nd es kk = 0 := Classical.not_not.1 c18
   exact V.ret2 rfl rfl rfl (vc 22 (.slice ua os.length uc) os :: (ownR 3 os ++ I)) (by first | exact Fit.s | exact Fit.sub) ⟨ua, uc, os, by first | (rw [hEA]; done) | (rw [hEA]; rfl), ⟨⟨fun h => absurd hEA h, fun _ => ⟨hW.ends (fun x => by rw [← range_all hG.rng, mem_rangeI]; have := hG.rng; omega), hS⟩⟩, by omega⟩, rfl⟩

end Go.Sl
namespace Go.Sl
open Go.Proofs
set_option linter.unusedVariables false
set_option linter.unusedSimpArgs false
set_option maxRecDepth 4000
end Go.Sl
