/- The statement RunsSortSaid, for every input. No conditions. -/
import Derived.Test.YtbimaodbcjjbfaaRunSL9
import Derived.Test.YtbimaodbcjjbfaaRows
import Derived.Test.YtbimaodbcjjbfaaFrame
import Derived.Test.YtbimaodbcjjbfaaFactA
import Derived.Test.YtbimaodbcjjbfaaFactB
import Derived.Test.YtbimaodbcjjbfaaFactC
import Derived.Test.YtbimaodbcjjbfaaFactD
namespace Go.Proofs.Ytbimaodbcjjbfaa.runsSort
open Go.ChangeShapes Go.WideShapes Go.ChangeAt Go.RowKit Go.Sl
set_option linter.unusedVariables false
set_option maxRecDepth 100000
theorem own : ownKnob Try.prog.godebug = none := by kernel_rfl
theorem laidOut : laidOutB Try.prog = true := by kernel_rfl
theorem lifted (os : Os) (started : os.Started) (H : Type) (enc : TypeId × Value → H) :
    ReturnsInHanded {} Try.checked os 10 .any (Rows.runsSortSpec.pre6 enc Try.prog Try.f10 Rows.runsSortRow.domain false) (Rows.runsSortSpec.post enc Try.prog Try.f10 false true false false) := by
  refine returnsInHanded_of_change_sized (C := Try.checked) own started (by kernel_rfl) Try.func10
    (ChangeSpec.witness6 (enc := enc) (C := Try.checked) false ⟨#[], #[.slice none 0 0, .int .u8 0, .int .u8 0], []⟩ 8 (by kernel_rfl) (by kernel_rfl) (by kernel_rfl) (by kernel_rfl)) ?_
  intro W base args ds gs before hval0 hW hcnd hsz _
  have hval : ∀ (j : Nat) t v, Try.f10.params[j]? = some t → args[j]? = some v → Value.okWide Try.prog W .any base t v := hval0
  have hW' := hW
  obtain ⟨p, q, hA0, hV, rfl, hfz, hnd⟩ := hW
  have hA : DataW.TrodAll enc Try.prog W 0 (fun _ => true) true Try.f10.params.toList args.toList ds p := hA0
  rw [Try.params10] at hA hval
  obtain ⟨v0, vs0, d0, ds0, p0, q0, hargs, rfl, rfl, h0, r0⟩ := trodAll_cons hA
  obtain ⟨v1, vs1, d1, ds1, p1, q1, rfl, rfl, rfl, h1, r1⟩ := trodAll_cons r0
  obtain ⟨v2, vs2, d2, ds2, p2, q2, rfl, rfl, rfl, h2, r2⟩ := trodAll_cons r1
  obtain ⟨rfl, rfl, rfl⟩ := trodAll_nil r2
  obtain rfl : args = #[v0, v1, v2] := by cases args; simp_all
  obtain ⟨rfl, rfl⟩ := trodVars_none hV
  have k0 := h0
  have lt0 : ∀ x ∈ p0, x.block < W.heap.size := by obtain ⟨m, hm⟩ := k0; exact DataW.trod_lt m _ _ _ hm
  have k1 := h1
  have lt1 : ∀ x ∈ p1, x.block < W.heap.size := by obtain ⟨m, hm⟩ := k1; exact DataW.trod_lt m _ _ _ hm
  have k2 := h2
  have lt2 : ∀ x ∈ p2, x.block < W.heap.size := by obtain ⟨m, hm⟩ := k2; exact DataW.trod_lt m _ _ _ hm
  obtain ⟨cw0, fuel0, tr0⟩ := arg_cell Try.underlying22 (hval 0 22 v0 rfl rfl) h0
  obtain ⟨la, lc, ls, rfl, sl_ls, in_ls, ln_ls⟩ := in_ints Try.underlying22 Try.underlying3 (by kernel_rfl) cw0 tr0 (light_arg hsz (j := 0) rfl rfl)
  obtain ⟨a8, rfl, rfl, rfl, in_a8⟩ := open_int Try.underlying5 (hval 1 5 v1 rfl rfl) h1
  obtain ⟨b8, rfl, rfl, rfl, in_b8⟩ := open_int Try.underlying5 (hval 2 5 v2 rfl rfl) h2
  clear hA0 hval0
  refine (calls_below (P := Try.prog) (RunsSort_walk (sl_ls.sl List.mem_cons_self) (by have h := in_a8; simp [Lit.wf, IntKind.min, IntKind.max, IntKind.signed, IntKind.bits] at h; omega) (by have h := in_b8; simp [Lit.wf, IntKind.min, IntKind.max, IntKind.signed, IntKind.bits] at h; omega))).mono fun e W' ⟨he, bel⟩ => ?_
  subst he
  exact ⟨_, rfl, _, _, _, [], _, [], hW', trodAll_mk1 (shut_bool Try.underlying4 _), (trodAll_cons_mk (Below.trod laidOut (by kernel_rfl) (of_decide_eq_true (by kernel_rfl)) k0 bel lt0) (trodAll_cons_mk (Below.trod laidOut (by kernel_rfl) (of_decide_eq_true (by kernel_rfl)) k1 bel lt1) (trodAll_cons_mk (Below.trod laidOut (by kernel_rfl) (of_decide_eq_true (by kernel_rfl)) k2 bel lt2) trodAll_mk0))), rfl, bel.frame _, fun h => by cases h⟩
theorem c10 : ((Rows.runsSortRow.inPlace == Try.prog.inPlace 10)) = true := by kernel_rfl
theorem c11 : ((Rows.runsSortRow.unfollowed == Try.prog.unfollowed 10)) = true := by kernel_rfl
theorem c12 : ((Rows.runsSortRow.recurses == Try.prog.recurses 10)) = true := by kernel_rfl
theorem c13 : ((Rows.runsSortRow.named == Try.prog.varsNamed 10)) = true := by kernel_rfl
theorem closed : joinedFacts Try.prog 10 Try.f10 Rows.runsSortSpec Rows.runsSortRow = true := joined_mk (by kernel_rfl) fact2 fact3 (by kernel_rfl) (by kernel_rfl) (by kernel_rfl) (by kernel_rfl) (by kernel_rfl) (by kernel_rfl) c10 c11 c12 c13 (by kernel_rfl) (by kernel_rfl) (by kernel_rfl) (by kernel_rfl) (by kernel_rfl) (by kernel_rfl) (by kernel_rfl) (by kernel_rfl) (by kernel_rfl) fact23 (by kernel_rfl) fact25 fact26 fact27 fact28 (by kernel_rfl) (by kernel_rfl) (by kernel_rfl) (by kernel_rfl)
theorem over : Rows.runsSortRow.holds Try.pinned (OpenSpec.ofChange Rows.runsSortSpec) :=
  OpenClaim.holds_of_wide 10 Try.f10 rfl rfl rfl rfl rfl rfl rfl ⟨rfl, rfl, rfl, rfl, rfl⟩ rfl rfl rfl rfl rfl (by kernel_rfl) Try.func10 closed
    (of_decide_eq_true (by kernel_rfl)) (by unfold Func.isWrapper; first | (rw [if_pos (by decide +kernel)]; kernel_rfl) | (rw [if_neg (by decide +kernel)]; exact ⟨rfl, rfl⟩))
    (fun os started H enc _ => lifted os started H enc)
end Go.Proofs.Ytbimaodbcjjbfaa.runsSort
namespace Go.Proofs.Ytbimaodbcjjbfaa
/-- The given statement. -/
theorem runsSort_holds : Rows.RunsSortSaid := runsSort.over
end Go.Proofs.Ytbimaodbcjjbfaa
