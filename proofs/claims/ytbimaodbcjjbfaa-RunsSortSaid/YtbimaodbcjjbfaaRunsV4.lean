/- A part of the proofs of statements of this seat: contracts of functions, and the plain laws that they lean on. No conditions. -/
import Derived.Test.YtbimaodbcjjbfaaRunsU
import Derived.Test.YtbimaodbcjjbfaaRunsT
import Derived.Test.YtbimaodbcjjbfaaRunsW
/- Numbers of other kinds: conversions, shifts. No conditions. -/
namespace Go.Sl
set_option linter.unusedVariables false
set_option linter.unusedSimpArgs false
section
variable {P : Program} {κ : Ctx} {N : Fr} {Q : Exit → Act → World → Prop} {L : Env} {I J : List Item}
variable {d : Option Tmp} {ty : TypeId} {ps : String} {af : Array Edge} {gd : Option (Nat × Bool)}
theorem Runs.convw {x : Operand} {S T : TypeId} {k k' q : IntKind} {n : Int} (hs : P.underlying S = some (.int q)) (ht : P.underlying T = some (.int k)) (hx : evalO L x = some (.int k' n)) :
    Runs P κ N ⟨d, .convert S T x, ty, ps, af, gd⟩ L J (.int k (k.wrap n)) := fun a w ha _ => by
  simp [execOp, ha.eval hx, convert, run_underlying hs, run_underlying ht, Conv.intToInt]
theorem Runs.convI {x : Operand} {S T : TypeId} {k' q : IntKind} {n : Int} (hs : P.underlying S = some (.int q)) (ht : P.underlying T = some (.int .i64)) (hx : evalO L x = some (.int k' n)) (hr : InR n) :
    Runs P κ N ⟨d, .convert S T x, ty, ps, af, gd⟩ L J (I64 n) := by
  have h := Runs.convw (P := P) (κ := κ) (N := N) (J := J) (d := d) (ty := ty) (ps := ps) (af := af) (gd := gd) hs ht hx
  rwa [hr.wrap] at h
/-- A struct result in a block, and two in slots. -/
theorem V.retc2 {fn : Func} {t u s : Tmp} {T b E sz by' : Nat} {z cs : List Value} {v' v'' : Value} {Post : Value → List Item → Prop} (hr : fn.results = #[.cell t T, .tmp u, .tmp s]) (hT : tyF P T = some (sz, true, by', z)) (hv : look L t = some (.pointer (some ⟨b, 0, none⟩))) (hv' : look L u = some v') (hv'' : look L s = some v'') (hb : blk b cs E ∈ I)
    (hl : cs.length = sz) (J : List Item) (hf : Fit κ I J) (hp : Post (.tuple #[.agg cs.toArray, v', v'']) J) (h0 : N.ds = [] := by rfl) : V κ N (bodyPost P fn (RetR κ Post)) .ret L I :=
  fun a w ha hs => by
    have hcell := fun j => cell_blk (w := w) (hs.ok _ hb).1 j
    have hload : (loadVar T ⟨b, 0, none⟩).run P w = .ok (.agg cs.toArray) w := run_loadVar_agg hT hl fun j u hj => by rw [addr_add, hcell, ← hj]; simp
    refine bodyPost_ret (v := .tuple #[.agg cs.toArray, v', v'']) ?_ (ha.defers.trans h0) ⟨_, J, rfl, hp, hf w hs⟩
    simp [results, hr, ha.get t _ hv, ha.get u _ hv', ha.get s _ hv'', asAddr, hload]
end
end Go.Sl
namespace Go.Sl
open Go.Proofs
set_option linter.unusedVariables false
set_option linter.unusedSimpArgs false
set_option maxRecDepth 4000
/-- The runs' records, each owned. -/
def runsI (rs : List RunV) : List Item := rs.map fun r => vc 60 (.slice r.a r.xs.length r.c) r.xs
theorem At.runs {I : List Item} {n : Int} {ad : Option Addr} {c : Nat} {xs : List Pt} : ∀ {rs : List RunV} {i : Int}, 0 ≤ i → i < rs.length →
    At (runsI rs ++ I) (vc 60 (.slice (at_ rs i).a (at_ rs i).xs.length (at_ rs i).c) (at_ rs i).xs) (vc 60 (.slice ad xs.length c) xs) (runsI (List.set rs i.toNat ⟨n, ad, c, xs⟩) ++ I) := fun {rs} {i} h0 h => by
  obtain ⟨k, rfl⟩ : ∃ k : Nat, i = (k : Int) := ⟨i.toNat, by omega⟩
  rw [Int.toNat_natCast]
  clear h0
  induction rs generalizing k with
  | nil => simp at h; omega
  | cons r rs ih =>
    cases k with
    | zero => exact At.head _ _ _
    | succ k => exact At.tail _ (ih k (by simp at h; omega))
theorem runsI_held {κ : Ctx} {I : List Item} {rs : List RunV} : HeldRuns κ (runsI rs ++ I) rs := fun r hr => Sl.vec (List.mem_append_left _ (List.mem_map.2 ⟨r, hr, rfl⟩))
section
variable {rl : List Pt} {k : Nat} {rs : List RunV} {i j : Int} {ad : Option Addr} {c : Nat}
end

end Go.Sl
