/- A part of the proofs of statements of this seat: contracts of functions, and the plain laws that they lean on. No conditions. -/
import Derived.Test.YtbimaodbcjjbfaaDoorRunsU
import Derived.Test.YtbimaodbcjjbfaaDoorRunsT
import Derived.Test.YtbimaodbcjjbfaaDoorRunsW
/- Numbers of other kinds: conversions, shifts. No conditions. -/
namespace Go.Sl
set_option linter.unusedVariables false
set_option linter.unusedSimpArgs false
section
variable {P : Program} {κ : Ctx} {N : Nat} {Q : Exit → Act → World → Prop} {L : Env} {I J : List Item}
variable {d : Option Tmp} {ty : TypeId} {ps : String} {af : Array Edge} {gd : Option (Nat × Bool)}
theorem Runs.convw {x : Operand} {S T : TypeId} {k k' q : IntKind} {n : Int} (hs : P.underlying S = some (.int q)) (ht : P.underlying T = some (.int k)) (hx : evalO L x = some (.int k' n)) :
    Runs P κ N ⟨d, .convert S T x, ty, ps, af, gd⟩ L J (.int k (k.wrap n)) := fun a w ha _ => by
  simp [execOp, ha.eval hx, convert, run_underlying hs, run_underlying ht, Conv.intToInt]
theorem Runs.convI {x : Operand} {S T : TypeId} {k' q : IntKind} {n : Int} (hs : P.underlying S = some (.int q)) (ht : P.underlying T = some (.int .i64)) (hx : evalO L x = some (.int k' n)) (hr : InR n) :
    Runs P κ N ⟨d, .convert S T x, ty, ps, af, gd⟩ L J (I64 n) := by
  have h := Runs.convw (P := P) (κ := κ) (N := N) (J := J) (d := d) (ty := ty) (ps := ps) (af := af) (gd := gd) hs ht hx
  rwa [hr.wrap] at h
theorem Runs.shrw {x y : Operand} {T U : TypeId} {k k' : IntKind} {m n : Int} (hx : evalO L x = some (.int k m)) (hy : evalO L y = some (.int k' n)) (h0 : 0 ≤ n) :
    Runs P κ N ⟨d, .binOp .shr T x y U, ty, ps, af, gd⟩ L J (.int k (m.fdiv (2 ^ Min.min n.toNat k.bits))) := fun a w ha _ => by
  have h : ¬ n < 0 := by omega
  simp only [execOp, ha.eval hx, ha.eval hy]
  simp [go_sem, Op.shift, h]
theorem Runs.shlw {x y : Operand} {T U : TypeId} {k k' : IntKind} {m n : Int} (hx : evalO L x = some (.int k m)) (hy : evalO L y = some (.int k' n)) (h0 : 0 ≤ n) :
    Runs P κ N ⟨d, .binOp .shl T x y U, ty, ps, af, gd⟩ L J (.int k (k.wrap (m * 2 ^ Min.min n.toNat k.bits))) := fun a w ha _ => by
  have h : ¬ n < 0 := by omega
  simp only [execOp, ha.eval hx, ha.eval hy]
  simp [go_sem, Op.shift, h]
end
end Go.Sl
namespace Go.Sl
open Go.Proofs
set_option linter.unusedVariables false
set_option linter.unusedSimpArgs false
set_option maxRecDepth 4000
def RunV.Nil (r : RunV) : Prop := r.a = none ∧ r.c = 0 ∧ r.xs = []
/-- The first k records of rl are divided among the parts. -/
structure PartsOk (rl : List Pt) (k : Nat) (rs : List RunV) : Prop where
  sz : ∀ i : Int, 0 ≤ i → i < rs.length → 1 ≤ (at_ rs i).n ∧ (at_ rs i).n ≤ 1024
  asc : ∀ i : Int, 0 ≤ i → i < rs.length → AscP (at_ rs i).xs
  sub : ∀ i : Int, 0 ≤ i → i < rs.length → ∀ p ∈ (at_ rs i).xs, p ∈ rl.take k
  len : ∀ i : Int, 0 ≤ i → i < rs.length → (at_ rs i).xs.length ≤ k
  all : ∀ p ∈ rl.take k, ∃ i : Int, 0 ≤ i ∧ i < rs.length ∧ p ∈ (at_ rs i).xs
section
variable {rl : List Pt} {k : Nat} {rs : List RunV} {i j : Int} {ad : Option Addr} {c : Nat}
theorem PartsOk.start (h : ∀ r ∈ rs, r.Nil) (hs : ∀ i : Int, 0 ≤ i → i < rs.length → 1 ≤ (at_ rs i).n ∧ (at_ rs i).n ≤ 5) : PartsOk rl 0 rs := by
  have hx : ∀ i : Int, 0 ≤ i → i < rs.length → (at_ rs i).xs = [] := fun i h0 h1 => (h _ (at_mem h0 h1)).2.2
  exact ⟨fun i h0 h1 => by have := hs i h0 h1; omega, fun i h0 h1 => by rw [hx i h0 h1]; exact List.Pairwise.nil, (fun i h0 h1 p hp => by rw [hx i h0 h1] at hp; cases hp), fun i h0 h1 => by rw [hx i h0 h1]; exact Nat.le_refl _, fun p hp => by simp at hp⟩
/-- A record more at one part: none there may be the record, or behind it. -/
theorem PartsOk.put {q : Nat} (h : PartsOk rl q rs) (hk : k < rl.length) (hq : q ≤ k + 1) (ha : AscP rl) (h0 : 0 ≤ i) (h1 : i < rs.length) (hi : ∀ p ∈ (at_ rs i).xs, p ∈ rl.take k) (hil : (at_ rs i).xs.length ≤ k) (hc : q = k ∨ q = k + 1) :
    PartsOk rl (k + 1) (rs.set i.toNat ⟨(at_ rs i).n, ad, c, (at_ rs i).xs ++ [at_ rl (k : Int)]⟩) := by
  have hat : ∀ j : Int, 0 ≤ j → j < rs.length → at_ (rs.set i.toNat (⟨(at_ rs i).n, ad, c, (at_ rs i).xs ++ [at_ rl (k : Int)]⟩ : RunV)) j = if i = j then ⟨(at_ rs i).n, ad, c, (at_ rs i).xs ++ [at_ rl (k : Int)]⟩ else at_ rs j := fun j a b => at_set rs i j _ h0 a h1
  have htk : ∀ p, p ∈ rl.take (k + 1) ↔ p ∈ rl.take k ∨ p = at_ rl (k : Int) := fun p => by rw [take_at rl k hk, List.mem_append, List.mem_singleton]
  have hqk : ∀ p, p ∈ rl.take q → p ∈ rl.take (k + 1) := fun p hp => by
    rcases hc with rfl | rfl
    · exact (htk p).2 (.inl hp)
    · exact hp
  refine ⟨fun j a b => ?_, fun j a b => ?_, fun j a b p hp => ?_, fun j a b => ?_, fun p hp => ?_⟩
  · rw [List.length_set] at b
    rw [hat j a b]; split
    · exact h.sz i h0 h1
    · exact h.sz j a b
  · rw [List.length_set] at b
    rw [hat j a b]; split
    · refine List.pairwise_append.2 ⟨h.asc i h0 h1, List.pairwise_singleton _ _, fun x hx y hy => ?_⟩
      rw [List.mem_singleton.1 hy]
      obtain ⟨m, hm, rfl⟩ := mem_at (hi x hx)
      rw [List.length_take] at hm
      have e : at_ (rl.take k) (m : Int) = at_ rl (m : Int) := by
        rw [at_nat, at_nat, List.getD_eq_getElem?_getD, List.getD_eq_getElem?_getD, List.getElem?_take, if_pos (by omega)]
      rw [e]
      exact asc_at ha (by omega) hk
    · exact h.asc j a b
  · rw [List.length_set] at b
    rw [hat j a b] at hp; split at hp
    · rcases List.mem_append.1 hp with hp | hp
      · exact (htk p).2 (.inl (hi p hp))
      · exact (htk p).2 (.inr (List.mem_singleton.1 hp))
    · exact hqk p (h.sub j a b p hp)
  · rw [List.length_set] at b
    rw [hat j a b]; split
    · simp only [List.length_append, List.length_cons, List.length_nil]; omega
    · have := h.len j a b; omega
  · rw [List.length_set]
    rcases (htk p).1 hp with hp | rfl
    · have hp' : p ∈ rl.take q := by
        rcases hc with rfl | rfl
        · exact hp
        · exact (htk p).2 (.inl hp)
      obtain ⟨j, a, b, hj⟩ := h.all p hp'
      refine ⟨j, a, b, ?_⟩
      rw [hat j a b]; split
      · rename_i e; subst e; exact List.mem_append_left _ hj
      · exact hj
    · exact ⟨i, h0, h1, by rw [hat i h0 h1, if_pos rfl]; exact List.mem_append_right _ (List.mem_singleton.2 rfl)⟩
theorem PartsOk.push (h : PartsOk rl k rs) (hk : k < rl.length) (ha : AscP rl) (h0 : 0 ≤ i) (h1 : i < rs.length) :
    PartsOk rl (k + 1) (rs.set i.toNat ⟨(at_ rs i).n, ad, c, (at_ rs i).xs ++ [at_ rl (k : Int)]⟩) := h.put hk (by omega) ha h0 h1 (h.sub i h0 h1) (h.len i h0 h1) (.inl rfl)
theorem PartsOk.run {n : Int} (h : PartsOk rl k rs) (hv : RunOk n rl) : ∀ r ∈ rs, RunOk r.n r.xs := fun r hr => by
  obtain ⟨i, hi, rfl⟩ := mem_at hr
  exact ⟨h.sz _ (by omega) (by omega), h.asc _ (by omega) (by omega), fun p hp => hv.right p (List.mem_of_mem_take (h.sub _ (by omega) (by omega) p hp))⟩
end

end Go.Sl
