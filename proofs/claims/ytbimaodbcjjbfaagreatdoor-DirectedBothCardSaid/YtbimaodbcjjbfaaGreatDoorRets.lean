/- A part of the proofs of statements of this seat: contracts of functions, and the plain laws that they lean on. No conditions. -/
import Derived.Test.YtbimaodbcjjbfaaGreatDoorRunsV4
/- Returning a number, a record from a cell, and a number. No conditions. -/
namespace Go.Sl
variable {P : Program} {κ : Ctx} {N : Nat} {L : Env} {I : List Item}
theorem V.rettct {fn : Func} {t u s : Tmp} {T b E sz by' : Nat} {z cs : List Value} {v' v'' : Value} {Post : Value → List Item → Prop} (hr : fn.results = #[.tmp u, .cell t T, .tmp s]) (hT : tyF P T = some (sz, true, by', z)) (hv : look L t = some (.pointer (some ⟨b, 0, none⟩))) (hv' : look L u = some v') (hv'' : look L s = some v'') (hb : blk b cs E ∈ I)
    (hl : cs.length = sz) (J : List Item) (hf : Fit κ I J) (hp : Post (.tuple #[v', .agg cs.toArray, v'']) J) : V κ N (bodyPost P fn (RetR κ Post)) .ret L I :=
  fun a w ha hs => by
    have hcell := fun j => cell_blk (w := w) (hs.ok _ hb).1 j
    have hload : (loadVar T ⟨b, 0, none⟩).run P w = .ok (.agg cs.toArray) w := run_loadVar_agg hT hl fun j u hj => by rw [addr_add, hcell, ← hj]; simp
    refine bodyPost_ret (v := .tuple #[v', .agg cs.toArray, v'']) ?_ ha.defers ⟨_, J, rfl, hp, hf w hs⟩
    simp [results, hr, ha.get t _ hv, ha.get u _ hv', ha.get s _ hv'', asAddr, hload]
end Go.Sl
