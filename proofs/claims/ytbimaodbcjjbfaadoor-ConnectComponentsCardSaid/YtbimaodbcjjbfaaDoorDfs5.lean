/- A part of the proofs of statements of this seat: contracts of functions, and the plain laws that they lean on. No conditions. -/
import Derived.Test.YtbimaodbcjjbfaaDoorDfs4
/- The blocks of a graph in their order. No Go. No conditions. -/
namespace Go.Sl
set_option linter.unusedVariables false
set_option linter.unusedSimpArgs false
def hd0 (b : List Pt) : Pt := at_ b 0
def insH (x : List Pt) : List (List Pt) → List (List Pt)
  | [] => [x]
  | y :: l => if Pt.lt (hd0 y) (hd0 x) then y :: insH x l else x :: y :: l
def sortH (l : List (List Pt)) : List (List Pt) := l.foldr insH []
theorem insH_perm (x : List Pt) : ∀ l, (insH x l).Perm (x :: l)
  | [] => List.Perm.refl _
  | y :: l => by
    unfold insH
    split
    · exact ((insH_perm x l).cons y).trans (List.Perm.swap x y l)
    · exact List.Perm.refl _
theorem sortH_perm : ∀ l, (sortH l).Perm l
  | [] => List.Perm.refl _
  | x :: l => (insH_perm x (sortH l)).trans ((sortH_perm l).cons x)
theorem insH_sorted (x : List Pt) : ∀ l : List (List Pt), (l.Pairwise fun a b => ¬ Pt.lt (hd0 b) (hd0 a)) → (insH x l).Pairwise fun a b => ¬ Pt.lt (hd0 b) (hd0 a)
  | [], _ => by simp [insH]
  | y :: l, h => by
    obtain ⟨h1, h2⟩ := List.pairwise_cons.1 h
    unfold insH
    split
    · rename_i hyx
      refine List.pairwise_cons.2 ⟨fun z hz => ?_, insH_sorted x l h2⟩
      rcases List.mem_cons.1 ((insH_perm x l).mem_iff.1 hz) with rfl | hz
      · exact Pt.lin.asymm hyx
      · exact h1 z hz
    · rename_i hyx
      refine List.pairwise_cons.2 ⟨fun z hz => ?_, h⟩
      rcases List.mem_cons.1 hz with rfl | hz
      · exact hyx
      · intro hzx
        rcases Pt.lin.tri (hd0 x) (hd0 y) with h3 | h3 | h3
        · exact h1 z hz (Pt.lin.tr _ _ _ hzx h3)
        · exact h1 z hz (h3 ▸ hzx)
        · exact hyx h3
theorem sortH_sorted : ∀ l : List (List Pt), (sortH l).Pairwise fun a b => ¬ Pt.lt (hd0 b) (hd0 a)
  | [] => List.Pairwise.nil
  | x :: l => insH_sorted x _ (sortH_sorted l)
theorem hd0_mem {b : List Pt} (h : b ≠ []) : hd0 b ∈ b := at_mem (Int.le_refl _) (by have := List.length_pos_iff.2 h; omega)
/-- Two lists that share an element are one list. -/
theorem flat_uniq : ∀ {out : List (List Pt)}, out.flatten.Nodup → ∀ {a b : List Pt}, a ∈ out → b ∈ out → ∀ {e : Pt}, e ∈ a → e ∈ b → a = b
  | [], _, a, b, ha, _, _, _, _ => by cases ha
  | x :: out, hn, a, b, ha, hb, e, hea, heb => by
    rw [List.flatten_cons, List.nodup_append] at hn
    rcases List.mem_cons.1 ha with h1 | h1
    · rcases List.mem_cons.1 hb with h2 | h2
      · rw [h1, h2]
      · exact absurd rfl (hn.2.2 e (h1 ▸ hea) e (List.mem_flatten.2 ⟨b, h2, heb⟩))
    · rcases List.mem_cons.1 hb with h2 | h2
      · exact absurd rfl (hn.2.2 e (h2 ▸ heb) e (List.mem_flatten.2 ⟨a, h1, hea⟩))
      · exact flat_uniq hn.2.1 h1 h2 hea heb
theorem sortH_uniq {out ys : List (List Pt)} (hf : ∀ b ∈ out, b ≠ []) (hn : out.flatten.Nodup) (hp : ys.Perm out) (hs : ys.Pairwise fun a b => ¬ Pt.lt (hd0 b) (hd0 a)) : ys = sortH out := by
  refine List.Perm.eq_of_pairwise (le := fun a b => ¬ Pt.lt (hd0 b) (hd0 a)) (fun a b ha hb h1 h2 => ?_) hs (sortH_sorted out) (hp.trans (sortH_perm out).symm)
  have hao := hp.mem_iff.1 ha
  have hbo := (sortH_perm out).mem_iff.1 hb
  have he : hd0 a = hd0 b := (Pt.lin.tri (hd0 a) (hd0 b)).elim (fun h3 => absurd h3 h2) fun h3 => h3.elim id fun h3 => absurd h3 h1
  exact flat_uniq hn hao hbo (hd0_mem (hf a hao)) (he ▸ hd0_mem (hf b hbo))
def blkR (rows : List (BitVec 64)) : List (List Pt) := sortH (scanS rows rows.length).out
end Go.Sl
