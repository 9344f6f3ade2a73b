/- A part of the proofs of statements of this seat: contracts of functions, and the plain laws that they lean on. No conditions. -/
import Derived.Test.YtbimaodbcjjbfaaGreatDoorRunsU
import Derived.Test.YtbimaodbcjjbfaaGreatDoorRunsT
import Derived.Test.YtbimaodbcjjbfaaGreatDoorRunsW
/- Numbers of other kinds: conversions, shifts. No conditions. -/
namespace Go.Sl
set_option linter.unusedVariables false
set_option linter.unusedSimpArgs false
section
variable {P : Program} {κ : Ctx} {N : Nat} {Q : Exit → Act → World → Prop} {L : Env} {I J : List Item}
variable {d : Option Tmp} {ty : TypeId} {ps : String} {af : Array Edge} {gd : Option (Nat × Bool)}
theorem Runs.convw {x : Operand} {S T : TypeId} {k k' q : IntKind} {n : Int} (hs : P.underlying S = some (.int q)) (ht : P.underlying T = some (.int k)) (hx : evalO L x = some (.int k' n)) :
    Runs P κ N ⟨d, .convert S T x, ty, ps, af, gd⟩ L J (.int k (k.wrap n)) := fun a w ha _ => by
  simp [execOp, ha.eval hx, convert, run_underlying hs, run_underlying ht, Conv.intToInt]
theorem Runs.convI {x : Operand} {S T : TypeId} {k' q : IntKind} {n : Int} (hs : P.underlying S = some (.int q)) (ht : P.underlying T = some (.int .i64)) (hx : evalO L x = some (.int k' n)) (hr : InR n) :
    Runs P κ N ⟨d, .convert S T x, ty, ps, af, gd⟩ L J (I64 n) := by
  have h := Runs.convw (P := P) (κ := κ) (N := N) (J := J) (d := d) (ty := ty) (ps := ps) (af := af) (gd := gd) hs ht hx
  rwa [hr.wrap] at h
theorem Runs.convU {x : Operand} {S T : TypeId} {k' q : IntKind} {n : Int} (hs : P.underlying S = some (.int q)) (ht : P.underlying T = some (.int .u64)) (hx : evalO L x = some (.int k' n)) (hr : 0 ≤ n ∧ n ≤ 18446744073709551615) :
    Runs P κ N ⟨d, .convert S T x, ty, ps, af, gd⟩ L J (.int .u64 n) := by
  have h := Runs.convw (P := P) (κ := κ) (N := N) (J := J) (d := d) (ty := ty) (ps := ps) (af := af) (gd := gd) hs ht hx
  rwa [Go.IntWalk.u64_in _ hr] at h
theorem Runs.shrw {x y : Operand} {T U : TypeId} {k k' : IntKind} {m n : Int} (hx : evalO L x = some (.int k m)) (hy : evalO L y = some (.int k' n)) (h0 : 0 ≤ n) :
    Runs P κ N ⟨d, .binOp .shr T x y U, ty, ps, af, gd⟩ L J (.int k (m.fdiv (2 ^ Min.min n.toNat k.bits))) := fun a w ha _ => by
  have h : ¬ n < 0 := by omega
  simp only [execOp, ha.eval hx, ha.eval hy]
  simp [go_sem, Op.shift, h]
theorem Runs.shlw {x y : Operand} {T U : TypeId} {k k' : IntKind} {m n : Int} (hx : evalO L x = some (.int k m)) (hy : evalO L y = some (.int k' n)) (h0 : 0 ≤ n) :
    Runs P κ N ⟨d, .binOp .shl T x y U, ty, ps, af, gd⟩ L J (.int k (k.wrap (m * 2 ^ Min.min n.toNat k.bits))) := fun a w ha _ => by
  have h : ¬ n < 0 := by omega
  simp only [execOp, ha.eval hx, ha.eval hy]
  simp [go_sem, Op.shift, h]
end
end Go.Sl
namespace Go.Sl
open Go.Proofs
set_option linter.unusedVariables false
set_option linter.unusedSimpArgs false
set_option maxRecDepth 4000
/-- The runs' records, each owned. -/
def runsI (rs : List RunV) : List Item := rs.map fun r => vc 32 (.slice r.a r.xs.length r.c) r.xs
theorem At.runs {I : List Item} {n : Int} {ad : Option Addr} {c : Nat} {xs : List Pt} : ∀ {rs : List RunV} {i : Int}, 0 ≤ i → i < rs.length →
    At (runsI rs ++ I) (vc 32 (.slice (at_ rs i).a (at_ rs i).xs.length (at_ rs i).c) (at_ rs i).xs) (vc 32 (.slice ad xs.length c) xs) (runsI (List.set rs i.toNat ⟨n, ad, c, xs⟩) ++ I) := fun {rs} {i} h0 h => by
  obtain ⟨k, rfl⟩ : ∃ k : Nat, i = (k : Int) := ⟨i.toNat, by omega⟩
  rw [Int.toNat_natCast]
  clear h0
  induction rs generalizing k with
  | nil => simp at h; omega
  | cons r rs ih =>
    cases k with
    | zero => exact At.head _ _ _
    | succ k => exact At.tail _ (ih k (by simp at h; omega))
section
variable {rl : List Pt} {k : Nat} {rs : List RunV} {i j : Int} {ad : Option Addr} {c : Nat}
end

end Go.Sl
