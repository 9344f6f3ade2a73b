/- A part of the proofs of statements of this seat: contracts of functions, and the plain laws that they lean on. No conditions. -/
import Derived.Test.YtbimaodbcjjbfaaDoorMaskB
import Derived.Test.YtbimaodbcjjbfaaDoorDfs9
import Derived.Test.YtbimaodbcjjbfaaDoorSortRows
import Derived.Test.YtbimaodbcjjbfaaDoorReach9
import Derived.Test.YtbimaodbcjjbfaaDoorGraphH5
import Derived.Test.YtbimaodbcjjbfaaDoorGraphM5
import Derived.Test.YtbimaodbcjjbfaaDoorGraphL5
import Derived.Test.YtbimaodbcjjbfaaDoorLookA
import Derived.Test.YtbimaodbcjjbfaaDoorGraphK5
import Derived.Test.YtbimaodbcjjbfaaDoorLookB
namespace Go.Sl
open Go.Proofs
set_option linter.unusedVariables false
set_option linter.unusedSimpArgs false
set_option maxRecDepth 4000
end Go.Sl
namespace Go.Sl
open Go.Proofs
set_option linter.unusedVariables false
set_option linter.unusedSimpArgs false
set_option maxRecDepth 4000
theorem Fit.into {κ : Ctx} {A R B I : List Item} : Fit κ (A ++ R ++ (B ++ I)) (A ++ (B ++ (R ++ I))) := by
  refine Fit.perm ?_
  rw [List.append_assoc]
  refine List.Perm.append_left A ?_
  rw [← List.append_assoc, ← List.append_assoc]
  exact List.Perm.append_right I List.perm_append_comm
theorem Fit.outof {κ : Ctx} {A R B I : List Item} : Fit κ (A ++ (B ++ (R ++ I))) (A ++ R ++ (B ++ I)) := by
  refine Fit.perm ?_
  rw [List.append_assoc]
  refine List.Perm.append_left A ?_
  rw [← List.append_assoc, ← List.append_assoc]
  exact List.Perm.append_right I List.perm_append_comm

end Go.Sl
namespace Go.Sl
open Go.Proofs
set_option linter.unusedVariables false
set_option linter.unusedSimpArgs false
set_option maxRecDepth 4000
end Go.Sl
namespace Go.Sl
open Go.Proofs
set_option linter.unusedVariables false
set_option linter.unusedSimpArgs false
set_option maxRecDepth 4000
/-- The reference's search: what has been found, and how many of these have been looked at. -/
structure RR (rows : List (BitVec 64)) (f l out : List Int) (i : Nat) : Prop where
  nodup : out.Nodup
  inl : ∀ x ∈ out, x ∈ l
  start : ∀ x ∈ f, x ∈ l → x ∈ out
  rch : ∀ x ∈ out, x ∈ listB (reachB rows (maskB f) (maskB l))
  closed : ∀ j : Nat, j < i → ∀ y ∈ l, (at_ rows (at_ out (j : Int))).getLsbD y.toNat = true → y ∈ out
  ile : i ≤ out.length
theorem bit_maskB {l : List Int} {i : Nat} (hi : i < 64) : (maskB l).getLsbD i = true ↔ (i : Int) ∈ l := by
  unfold maskB; rw [getLsb_maskB hi]; simp
theorem RR.begin {rows : List (BitVec 64)} {f l : List Int} (hl : ∀ x ∈ l, 0 ≤ x ∧ x < 64) : RR rows f l (meetL f l) 0 := by
  refine ⟨((ofL_asc f).imp fun h => by omega : (ofL f).Nodup).filter _, fun x hx => (mem_meetL.1 hx).2, fun x h1 h2 => mem_meetL.2 ⟨h1, h2⟩, fun x hx => ?_, fun j hj => absurd hj (Nat.not_lt_zero j), Nat.zero_le _⟩
  obtain ⟨h1, h2⟩ := mem_meetL.1 hx
  have := hl x h2
  rw [mem_listB]
  refine ⟨this.1, (reachB_ok _ _ _).start _ ?_⟩
  rw [BitVec.getLsbD_and, Bool.and_eq_true, bit_maskB (by omega), bit_maskB (by omega), show ((x.toNat : Nat) : Int) = x by omega]
  exact ⟨h1, h2⟩
theorem RR.push {rows : List (BitVec 64)} {f l out : List Int} {i : Nat} (h : RR rows f l out i) (hl : ∀ x ∈ l, 0 ≤ x ∧ x < 64) (hi : i < out.length) {y : Int} (hy : y ∈ l) (hn : y ∉ out) (hr : (at_ rows (at_ out (i : Int))).getLsbD y.toNat = true) : RR rows f l (out ++ [y]) i := by
  have hyl := hl y hy
  refine ⟨?_, fun x hx => ?_, fun x h1 h2 => List.mem_append_left _ (h.start x h1 h2), fun x hx => ?_, fun j hj z hz hzr => ?_, by rw [List.length_append]; omega⟩
  · rw [List.nodup_append]
    refine ⟨h.nodup, by simp, fun a ha b hb => ?_⟩
    rw [List.mem_singleton] at hb; subst hb
    exact fun e => hn (e ▸ ha)
  · rcases List.mem_append.1 hx with h1 | h1
    · exact h.inl x h1
    · rw [List.mem_singleton] at h1; exact h1 ▸ hy
  · rcases List.mem_append.1 hx with h1 | h1
    · exact h.rch x h1
    · rw [List.mem_singleton] at h1; subst h1
      have hm : at_ out (i : Int) ∈ out := at_mem (by omega) (by omega)
      obtain ⟨h2, h3⟩ := mem_listB.1 (h.rch _ hm)
      rw [mem_listB]
      refine ⟨hyl.1, (reachB_ok _ _ _).closed _ _ h3 (by rw [show (((at_ out (i : Int)).toNat : Nat) : Int) = at_ out (i : Int) by omega]; exact hr) ?_⟩
      rw [bit_maskB (by omega), show ((x.toNat : Nat) : Int) = x by omega]; exact hy
  · have := h.ile
    rw [at_append_left _ _ _ (by omega)] at hzr
    exact List.mem_append_left _ (h.closed j hj z hz hzr)
theorem RR.next {rows : List (BitVec 64)} {f l out : List Int} {i : Nat} (h : RR rows f l out i) (hi : i < out.length) (hc : ∀ y ∈ l, (at_ rows (at_ out (i : Int))).getLsbD y.toNat = true → y ∈ out) : RR rows f l out (i + 1) :=
  ⟨h.nodup, h.inl, h.start, h.rch, fun j hj y hy hr => by
    rcases Nat.lt_or_ge j i with h1 | h1
    · exact h.closed j h1 y hy hr
    · have e : j = i := by omega
      subst e; exact hc y hy hr, by omega⟩
theorem RR.len {rows : List (BitVec 64)} {f l out : List Int} {i : Nat} (h : RR rows f l out i) (hl : ∀ x ∈ l, 0 ≤ x ∧ x < 64) : out.length ≤ 64 := by
  have : out.length ≤ (rangeI 64).length := List.Nodup.length_le_of_subset h.nodup fun x hx => mem_rangeI.2 (by have := hl x (h.inl x hx); omega)
  rw [show (rangeI 64).length = 64 by decide +kernel] at this
  exact this
theorem RR.ends {rows : List (BitVec 64)} {f l out : List Int} {i : Nat} (h : RR rows f l out i) (hl : ∀ x ∈ l, 0 ≤ x ∧ x < 64) (hi : out.length ≤ i) : ofL out = listB (reachB rows (maskB f) (maskB l)) := by
  refine intLin.uniq (ofL_asc _) (listB_asc _) fun x => ?_
  rw [mem_ofL]
  refine ⟨h.rch x, fun hx => ?_⟩
  obtain ⟨h0, hb⟩ := mem_listB.1 hx
  have key := (reachB_ok rows (maskB f) (maskB l)).least (fun j => j < 64 ∧ (j : Int) ∈ out) (fun j hj => ?_) (fun a b hab _ hr hw => ?_) x.toNat hb
  · rw [show ((x.toNat : Nat) : Int) = x by omega] at key; exact key.2
  · have h64 : j < 64 := Classical.byContradiction fun hn => by rw [BitVec.getLsbD_of_ge _ _ (by omega)] at hj; cases hj
    rw [BitVec.getLsbD_and, Bool.and_eq_true, bit_maskB h64, bit_maskB h64] at hj
    exact ⟨h64, h.start _ hj.1 hj.2⟩
  · have h64 : b < 64 := Classical.byContradiction fun hn => by rw [BitVec.getLsbD_of_ge _ _ (by omega)] at hw; cases hw
    rw [bit_maskB h64] at hw
    obtain ⟨j, hj, he⟩ := mem_at hab.2
    refine ⟨h64, h.closed j (by omega) (b : Int) hw ?_⟩
    rw [he, Int.toNat_natCast]; exact hr
theorem mask_one (u : Int) : maskB [u] = bitB u := by unfold maskB; simp
theorem bit_one {u : Int} (h : 0 ≤ u ∧ u < 64) : bitB u = oneB u.toNat := by unfold bitB oneB; rw [if_neg (by omega)]
end Go.Sl
