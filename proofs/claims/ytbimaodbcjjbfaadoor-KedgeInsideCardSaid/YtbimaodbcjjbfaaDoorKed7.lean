/- A part of the proofs of statements of this seat: contracts of functions, and the plain laws that they lean on. No conditions. -/
import Derived.Test.YtbimaodbcjjbfaaDoorReach9
import Derived.Test.YtbimaodbcjjbfaaDoorKed8
import Derived.Test.YtbimaodbcjjbfaaDoorParts8
import Derived.Test.YtbimaodbcjjbfaaDoorLookB
import Derived.Test.YtbimaodbcjjbfaaDoorLaw15A
import Derived.Test.YtbimaodbcjjbfaaDoorParts9
/- An owned slice without its first elements; rows that are owned, and fewer of them. No conditions. -/
namespace Go.Sl
set_option linter.unusedVariables false
set_option linter.unusedSectionVars false
section
variable {α : Type} [Enc α] {κ : Ctx} {I : List Item}
end
end Go.Sl
namespace Go.Sl
open Go.Proofs
set_option linter.unusedVariables false
set_option linter.unusedSimpArgs false
set_option maxRecDepth 4000
def DisjL (l : List (List Int)) : Prop := l.Pairwise fun a b => ∀ x ∈ a, x ∉ b
theorem DisjL.perm {l m : List (List Int)} (h : DisjL l) (hp : m.Perm l) : DisjL m := hp.symm.pairwise h fun {a b} hab x hx hxa => hab x hxa hx
/-- Sets that are still to be looked at, and parts that are found. -/
structure WorkP (nd k : Int) (es : List Pt) (opn out : List (List Int)) : Prop where
  val : ∀ p ∈ out, ValidP p nd ∧ 2 ≤ p.length ∧ KC k es p
  opv : ∀ q ∈ opn, ValidP q nd
  cover : ∀ X, 2 ≤ X.length → X.Nodup → KC k es X → (∀ x ∈ X, 0 ≤ x ∧ x < nd) → ∃ p ∈ opn ++ out, ∀ x ∈ X, x ∈ p
  disj : DisjL (opn ++ out)
theorem WorkP.small {nd k : Int} {es : List Pt} {q : List Int} {rest out : List (List Int)} (h : WorkP nd k es (q :: rest) out) (hq : q.length < 2) : WorkP nd k es rest out := by
  refine ⟨h.val, fun p hp => h.opv p (List.mem_cons_of_mem _ hp), fun X h2 hn hX hb => ?_, (List.pairwise_cons.1 h.disj).2⟩
  obtain ⟨p, hp, hs⟩ := h.cover X h2 hn hX hb
  rcases List.mem_cons.1 hp with rfl | hp
  · have := List.Nodup.length_le_of_subset hn hs; omega
  · exact ⟨p, hp, hs⟩
theorem WorkP.put {nd k : Int} {es : List Pt} {q : List Int} {rest out out' : List (List Int)} (h : WorkP nd k es (q :: rest) out) (h2 : 2 ≤ q.length) (hk : KC k es q) (ho : out'.Perm (q :: out)) : WorkP nd k es rest out' := by
  have hp : (rest ++ out').Perm (q :: rest ++ out) := (List.Perm.append_left rest ho).trans List.perm_middle
  refine ⟨fun p hp => ?_, fun p hp => h.opv p (List.mem_cons_of_mem _ hp), fun X a b c d => ?_, h.disj.perm hp⟩
  · rcases List.mem_cons.1 (ho.mem_iff.1 hp) with rfl | hp
    · exact ⟨h.opv _ List.mem_cons_self, h2, hk⟩
    · exact h.val p hp
  · obtain ⟨p, h1, h2⟩ := h.cover X a b c d
    exact ⟨p, hp.mem_iff.2 h1, h2⟩
theorem WorkP.split {nd k val x0 y : Int} {es : List Pt} {q side rest' : List Int} {rest out : List (List Int)} (h : WorkP nd k es (q :: rest) out) (hx : x0 ∈ q) (hm : MinSide (inS q es) nd x0 y side val) (hk : val < k) (hr : ∀ z, z ∈ rest' ↔ z ∈ q ∧ z ∉ side) (hv : ValidP rest' nd) : WorkP nd k es (rest ++ [side, rest']) out := by
  have hw := hm.within hx
  have hp : (rest ++ [side, rest'] ++ out).Perm (side :: rest' :: (rest ++ out)) := by
    rw [List.append_assoc]
    exact List.perm_middle.trans (List.Perm.cons _ List.perm_middle)
  obtain ⟨hd1, hd2⟩ := List.pairwise_cons.1 h.disj
  refine ⟨h.val, fun p hpm => ?_, fun X a b c d => ?_, DisjL.perm ?_ hp⟩
  · rcases List.mem_append.1 hpm with hpm | hpm
    · exact h.opv p (List.mem_cons_of_mem _ hpm)
    · simp only [List.mem_cons, List.not_mem_nil, or_false] at hpm
      rcases hpm with rfl | rfl
      · exact hm.valid
      · exact hv
  · obtain ⟨p, hpm, hs⟩ := h.cover X a b c d
    rcases List.mem_cons.1 hpm with rfl | hpm
    · by_cases hin : ∃ x ∈ X, x ∈ side
      · obtain ⟨x, hxX, hxs⟩ := hin
        refine ⟨side, hp.mem_iff.2 List.mem_cons_self, fun z hz => Classical.byContradiction fun hzs => ?_⟩
        have h3 := c x hxX z hz (inL side) (decide_eq_true hxs) (decide_eq_false hzs)
        have h4 := lvE_mono (inS_sub (es := es) hs) (inL side)
        have h5 := hm.eq
        omega
      · exact ⟨rest', hp.mem_iff.2 (List.mem_cons_of_mem _ List.mem_cons_self), fun z hz => (hr z).2 ⟨hs z hz, fun hzs => hin ⟨z, hz, hzs⟩⟩⟩
    · exact ⟨p, hp.mem_iff.2 (List.mem_cons_of_mem _ (List.mem_cons_of_mem _ hpm)), hs⟩
  · refine List.pairwise_cons.2 ⟨fun b hb x hx hxb => ?_, List.pairwise_cons.2 ⟨fun b hb x hx hxb => hd1 b hb x ((hr x).1 hx).1 hxb, hd2⟩⟩
    rcases List.mem_cons.1 hb with rfl | hb
    · exact ((hr x).1 hxb).2 hx
    · exact hd1 b hb x (hw x hx) hxb
theorem WorkP.ends {nd k : Int} {es : List Pt} {W : List Int} {out : List (List Int)} (h : WorkP nd k es [] out) (hW : ∀ x, x ∈ W ↔ 0 ≤ x ∧ x < nd) : DivP nd k es W out :=
  ⟨fun p hp => by
    obtain ⟨a, b, c⟩ := h.val p hp
    exact ⟨a, b, c, fun x hx => (hW x).2 ((ValidP_iff.1 a).1 x hx)⟩, fun X a b c d => h.cover X a b c fun x hx => (hW x).1 (d x hx), h.disj⟩
/-- Sets that no edge leaves, together all nodes. -/
theorem WorkP.start {nd k : Int} {es : List Pt} {cs : List (List Int)} (hk : 1 ≤ k) (hv : ∀ q ∈ cs, ValidP q nd) (hd : DisjL cs) (hc : ∀ x, 0 ≤ x → x < nd → ∃ q ∈ cs, x ∈ q) (hs : ∀ q ∈ cs, ∀ e ∈ es, e.u ∈ q ↔ e.v ∈ q) : WorkP nd k es cs [] := by
  refine ⟨fun p hp => (by cases hp), hv, fun X a b c d => ?_, by rw [List.append_nil]; exact hd⟩
  have hx0 : at_ X 0 ∈ X := head_mem (by omega)
  obtain ⟨q, hq, hxq⟩ := hc _ (d _ hx0).1 (d _ hx0).2
  refine ⟨q, by rw [List.append_nil]; exact hq, fun z hz => Classical.byContradiction fun hzq => ?_⟩
  have h3 := c _ hx0 z hz (inL q) (decide_eq_true hxq) (decide_eq_false hzq)
  have h4 : lvE (inS X es) (inL q) = 0 := by
    unfold lvE
    rw [List.filter_eq_nil_iff.2 fun e he => ?_]
    · rfl
    · have := hs q hq e (mem_inS.1 he).1
      simp [cross, inL, this]
  omega
end Go.Sl
namespace Go.Sl
open Go.Proofs
set_option linter.unusedVariables false
set_option linter.unusedSimpArgs false
set_option maxRecDepth 4000
end Go.Sl
namespace Go.Sl
open Go.Proofs
set_option linter.unusedVariables false
set_option linter.unusedSimpArgs false
set_option maxRecDepth 4000
end Go.Sl
namespace Go.Sl
open Go.Proofs
set_option linter.unusedVariables false
set_option linter.unusedSimpArgs false
set_option maxRecDepth 4000
end Go.Sl
namespace Go.Sl
open Go.Proofs
set_option linter.unusedVariables false
set_option linter.unusedSimpArgs false
set_option maxRecDepth 4000
end Go.Sl
