/- A part of the proofs of statements of this seat: contracts of functions, and the plain laws that they lean on. No conditions. -/
import Derived.Test.YtbimaodbcjjbfaaDoorRets
/- Returning two slices from cells. No conditions. -/
namespace Go.Sl
variable {P : Program} {κ : Ctx} {N : Nat} {L : Env} {I : List Item}
theorem V.retvv {fn : Func} {t u : Tmp} {T U b b' E E' by' by2 : Nat} {z z' : List Value} {v v' : Value} {Post : Value → List Item → Prop} (hr : fn.results = #[.cell t T, .cell u U]) (hT : tyF P T = some (1, false, by', z)) (hU : tyF P U = some (1, false, by2, z'))
    (hv : look L t = some (.pointer (some ⟨b, 0, none⟩))) (hv' : look L u = some (.pointer (some ⟨b', 0, none⟩))) (hb : blk b [v] E ∈ I) (hb' : blk b' [v'] E' ∈ I)
    (J : List Item) (hf : Fit κ I J) (hp : Post (.tuple #[v, v']) J) : V κ N (bodyPost P fn (RetR κ Post)) .ret L I :=
  fun a w ha hs => by
    have hcell : w.cell? ⟨b, 0, none⟩ = some v := by rw [cell_blk (w := w) (hs.ok _ hb).1 0]; rfl
    have hcell2 : w.cell? ⟨b', 0, none⟩ = some v' := by rw [cell_blk (w := w) (hs.ok _ hb').1 0]; rfl
    have hload : (loadVar T ⟨b, 0, none⟩).run P w = .ok v w := run_loadVar_one hT hcell
    have hload2 : (loadVar U ⟨b', 0, none⟩).run P w = .ok v' w := run_loadVar_one hU hcell2
    refine bodyPost_ret (v := .tuple #[v, v']) ?_ ha.defers ⟨_, J, rfl, hp, hf w hs⟩
    simp [results, hr, ha.get t _ hv, ha.get u _ hv', asAddr, hload, hload2]
end Go.Sl
