/- A part of the proofs of statements of this seat: contracts of functions, and the plain laws that they lean on. No conditions. -/
import Derived.Test.YtbimaodbcjjbfaaDoorDfs4
/- The blocks of a graph in their order. No Go. No conditions. -/
namespace Go.Sl
set_option linter.unusedVariables false
set_option linter.unusedSimpArgs false
def hd0 (b : List Pt) : Pt := at_ b 0
def insH (x : List Pt) : List (List Pt) → List (List Pt)
  | [] => [x]
  | y :: l => if Pt.lt (hd0 y) (hd0 x) then y :: insH x l else x :: y :: l
def sortH (l : List (List Pt)) : List (List Pt) := l.foldr insH []
theorem insH_perm (x : List Pt) : ∀ l, (insH x l).Perm (x :: l)
  | [] => List.Perm.refl _
  | y :: l => by
    unfold insH
    split
    · exact ((insH_perm x l).cons y).trans (List.Perm.swap x y l)
    · exact List.Perm.refl _
theorem sortH_perm : ∀ l, (sortH l).Perm l
  | [] => List.Perm.refl _
  | x :: l => (insH_perm x (sortH l)).trans ((sortH_perm l).cons x)
theorem insH_sorted (x : List Pt) : ∀ l : List (List Pt), (l.Pairwise fun a b => ¬ Pt.lt (hd0 b) (hd0 a)) → (insH x l).Pairwise fun a b => ¬ Pt.lt (hd0 b) (hd0 a)
  | [], _ => by simp [insH]
  | y :: l, h => by
    obtain ⟨h1, h2⟩ := List.pairwise_cons.1 h
    unfold insH
    split
    · rename_i hyx
      refine List.pairwise_cons.2 ⟨fun z hz => ?_, insH_sorted x l h2⟩
      rcases List.mem_cons.1 ((insH_perm x l).mem_iff.1 hz) with rfl | hz
      · exact Pt.lin.asymm hyx
      · exact h1 z hz
    · rename_i hyx
      refine List.pairwise_cons.2 ⟨fun z hz => ?_, h⟩
      rcases List.mem_cons.1 hz with rfl | hz
      · exact hyx
      · intro hzx
        rcases Pt.lin.tri (hd0 x) (hd0 y) with h3 | h3 | h3
        · exact h1 z hz (Pt.lin.tr _ _ _ hzx h3)
        · exact h1 z hz (h3 ▸ hzx)
        · exact hyx h3
theorem sortH_sorted : ∀ l : List (List Pt), (sortH l).Pairwise fun a b => ¬ Pt.lt (hd0 b) (hd0 a)
  | [] => List.Pairwise.nil
  | x :: l => insH_sorted x _ (sortH_sorted l)
theorem hd0_mem {b : List Pt} (h : b ≠ []) : hd0 b ∈ b := at_mem (Int.le_refl _) (by have := List.length_pos_iff.2 h; omega)
/-- Two lists that share an element are one list. -/
theorem flat_uniq : ∀ {out : List (List Pt)}, out.flatten.Nodup → ∀ {a b : List Pt}, a ∈ out → b ∈ out → ∀ {e : Pt}, e ∈ a → e ∈ b → a = b
  | [], _, a, b, ha, _, _, _, _ => by cases ha
  | x :: out, hn, a, b, ha, hb, e, hea, heb => by
    rw [List.flatten_cons, List.nodup_append] at hn
    rcases List.mem_cons.1 ha with h1 | h1
    · rcases List.mem_cons.1 hb with h2 | h2
      · rw [h1, h2]
      · exact absurd rfl (hn.2.2 e (h1 ▸ hea) e (List.mem_flatten.2 ⟨b, h2, heb⟩))
    · rcases List.mem_cons.1 hb with h2 | h2
      · exact absurd rfl (hn.2.2 e (h2 ▸ heb) e (List.mem_flatten.2 ⟨a, h1, hea⟩))
      · exact flat_uniq hn.2.1 h1 h2 hea heb
theorem sortH_uniq {out ys : List (List Pt)} (hf : ∀ b ∈ out, b ≠ []) (hn : out.flatten.Nodup) (hp : ys.Perm out) (hs : ys.Pairwise fun a b => ¬ Pt.lt (hd0 b) (hd0 a)) : ys = sortH out := by
  refine List.Perm.eq_of_pairwise (le := fun a b => ¬ Pt.lt (hd0 b) (hd0 a)) (fun a b ha hb h1 h2 => ?_) hs (sortH_sorted out) (hp.trans (sortH_perm out).symm)
  have hao := hp.mem_iff.1 ha
  have hbo := (sortH_perm out).mem_iff.1 hb
  have he : hd0 a = hd0 b := (Pt.lin.tri (hd0 a) (hd0 b)).elim (fun h3 => absurd h3 h2) fun h3 => h3.elim id fun h3 => absurd h3 h1
  exact flat_uniq hn hao hbo (hd0_mem (hf a hao)) (he ▸ hd0_mem (hf b hbo))
theorem step_sorted {rows : List (BitVec 64)} {S : Srch} {ini : List Vis} {t : Vis} (h : ∀ b ∈ S.out, b.Pairwise fun x y => ¬ Pt.lt y x) : ∀ b ∈ (stepT rows S ini t).out, b.Pairwise fun x y => ¬ Pt.lt y x := by
  unfold stepT
  split
  · split
    · exact h
    · split
      · exact h
      · split <;> exact h
  · split
    · exact h
    · split
      · intro b hb
        rcases List.mem_append.1 hb with hb | hb
        · exact h b hb
        · rw [List.mem_singleton] at hb; rw [hb]; exact sortD_sorted _
      · exact h
theorem run_sorted {rows : List (BitVec 64)} : ∀ (n : Nat) (S : Srch), (∀ b ∈ S.out, b.Pairwise fun x y => ¬ Pt.lt y x) → ∀ b ∈ (runF rows n S).out, b.Pairwise fun x y => ¬ Pt.lt y x
  | 0, S, h => h
  | n + 1, S, h => by
    rw [runF_succ]
    by_cases e : S.way = []
    · rw [if_pos e]; exact h
    · rw [if_neg e]; exact run_sorted n _ (step_sorted h)
theorem scan_sorted {rows : List (BitVec 64)} : ∀ k, ∀ b ∈ (scanS rows k).out, b.Pairwise fun x y => ¬ Pt.lt y x
  | 0 => fun b hb => by cases hb
  | k + 1 => by
    unfold scanS
    split
    · exact run_sorted 5000 _ (scan_sorted k)
    · exact scan_sorted k
def blkR (rows : List (BitVec 64)) : List (List Pt) := sortH (scanS rows rows.length).out
theorem asc_of_nodup {b : List Pt} (h : b.Pairwise fun x y => ¬ Pt.lt y x) (hn : b.Nodup) : b.Pairwise Pt.lt := by
  have := h.and (show b.Pairwise (· ≠ ·) from hn)
  exact this.imp fun {x y} h => (Pt.lin.tri x y).elim id fun h3 => h3.elim (fun h3 => absurd h3 h.2) fun h3 => absurd h3 h.1
theorem nodup_of_flat : ∀ {out : List (List Pt)}, out.flatten.Nodup → ∀ b ∈ out, b.Nodup
  | [], _, b, hb => by cases hb
  | x :: out, hn, b, hb => by
    rw [List.flatten_cons, List.nodup_append] at hn
    rcases List.mem_cons.1 hb with rfl | hb
    · exact hn.1
    · exact nodup_of_flat hn.2.1 b hb
theorem blk_ok {rows : List (BitVec 64)} (hG : RowsG rows) : BlkP (adjR rows) (blkR rows) ∧ (∀ b ∈ blkR rows, b.Pairwise Pt.lt) ∧ (blkR rows).Pairwise fun a b => Pt.lt (hd0 a) (hd0 b) := by
  have h := scan_blk hG
  have hp : (blkR rows).Perm (scanS rows rows.length).out := sortH_perm _
  have hpf : (blkR rows).flatten.Perm (scanS rows rows.length).out.flatten := hp.flatten
  have hb : BlkP (adjR rows) (blkR rows) := ⟨fun b hb => h.full b (hp.mem_iff.1 hb), hpf.nodup_iff.2 h.nd, fun e => hpf.mem_iff.trans (h.mem e), fun b hb => h.shut b (hp.mem_iff.1 hb), fun b hb => h.eqv b (hp.mem_iff.1 hb)⟩
  refine ⟨hb, fun b hbm => asc_of_nodup (scan_sorted _ b (hp.mem_iff.1 hbm)) (nodup_of_flat hb.nd b hbm), ?_⟩
  have hs := sortH_sorted (scanS rows rows.length).out
  have hn : (blkR rows).Pairwise (· ≠ ·) := by
    have key : ∀ {out : List (List Pt)}, out.flatten.Nodup → (∀ b ∈ out, b ≠ []) → out.Pairwise (· ≠ ·) := fun {out} => by
      induction out with
      | nil => exact fun _ _ => .nil
      | cons x out ih =>
        intro hn hf
        rw [List.flatten_cons, List.nodup_append] at hn
        refine List.pairwise_cons.2 ⟨fun y hy e => ?_, ih hn.2.1 fun b hb => hf b (List.mem_cons_of_mem _ hb)⟩
        subst e
        obtain ⟨e, he⟩ := List.exists_mem_of_ne_nil _ (hf x List.mem_cons_self)
        exact hn.2.2 e he e (List.mem_flatten.2 ⟨x, hy, he⟩) rfl
    exact key hb.nd hb.full
  refine (hs.and hn).imp_of_mem fun {a b} ha hbm hh => ?_
  refine (Pt.lin.tri (hd0 a) (hd0 b)).elim id fun h3 => h3.elim (fun h3 => ?_) fun h3 => absurd h3 hh.1
  exact absurd (flat_uniq hb.nd ha hbm (hd0_mem (hb.full a ha)) (h3 ▸ hd0_mem (hb.full b hbm))) hh.2
end Go.Sl
