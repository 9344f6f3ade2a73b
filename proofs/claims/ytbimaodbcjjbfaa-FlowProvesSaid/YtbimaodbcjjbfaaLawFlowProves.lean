/- The statement FlowProvesSaid, for every input. No conditions. -/
import Derived.Test.YtbimaodbcjjbfaaPart08
import Derived.Test.YtbimaodbcjjbfaaRows
import Derived.Test.YtbimaodbcjjbfaaFactA
import Derived.Test.YtbimaodbcjjbfaaFactB
import Derived.Test.YtbimaodbcjjbfaaFactC
import Derived.Test.YtbimaodbcjjbfaaFactD
namespace Go.Proofs.Ytbimaodbcjjbfaa.flowProves
open Go.ChangeShapes Go.WideShapes Go.ChangeAt Go.RowKit Go.Sl
set_option linter.unusedVariables false
set_option maxRecDepth 100000
theorem own : ownKnob Try.prog.godebug = none := by kernel_rfl
theorem laidOut : laidOutB Try.prog = true := by kernel_rfl
theorem lifted (os : Os) (started : os.Started) (H : Type) (enc : TypeId × Value → H) :
    ReturnsInHanded {} Try.checked os 3 .any (Rows.flowProvesSpec.pre6 enc Try.prog Try.f3 Rows.flowProvesRow.domain false) (Rows.flowProvesSpec.post enc Try.prog Try.f3 false true false false) := by
  refine returnsInHanded_of_change_sized (C := Try.checked) own started (by kernel_rfl) Try.func3
    (ChangeSpec.witness6 (enc := enc) (C := Try.checked) false ⟨#[], #[.agg #[.slice none 0 0, .int .i64 0, .slice none 0 0], .slice none 0 0], []⟩ 8 (by kernel_rfl) (by kernel_rfl) (by kernel_rfl) (by kernel_rfl)) ?_
  intro W base args ds gs before hval0 hW hcnd hsz _
  have hval : ∀ (j : Nat) t v, Try.f3.params[j]? = some t → args[j]? = some v → Value.okWide Try.prog W .any base t v := hval0
  have hW' := hW
  obtain ⟨p, q, hA0, hV, rfl, hfz, hnd⟩ := hW
  have hA : DataW.TrodAll enc Try.prog W 0 (fun _ => true) true Try.f3.params.toList args.toList ds p := hA0
  rw [Try.params3] at hA hval
  obtain ⟨v0, vs0, d0, ds0, p0, q0, hargs, rfl, rfl, h0, r0⟩ := trodAll_cons hA
  obtain ⟨v1, vs1, d1, ds1, p1, q1, rfl, rfl, rfl, h1, r1⟩ := trodAll_cons r0
  obtain ⟨rfl, rfl, rfl⟩ := trodAll_nil r1
  obtain rfl : args = #[v0, v1] := by cases args; simp_all
  obtain ⟨rfl, rfl⟩ := trodVars_none hV
  have k0 := h0
  have lt0 : ∀ x ∈ p0, x.block < W.heap.size := by obtain ⟨m, hm⟩ := k0; exact DataW.trod_lt m _ _ _ hm
  have k1 := h1
  have lt1 : ∀ x ∈ p1, x.block < W.heap.size := by obtain ⟨m, hm⟩ := k1; exact DataW.trod_lt m _ _ _ hm
  obtain ⟨l0, rfl, hl0, hf0⟩ := in_struct Try.underlying24 (by kernel_rfl) (by kernel_rfl) (by kernel_rfl) (hval 0 24 v0 rfl rfl) h0 (light_arg hsz (j := 0) rfl rfl)
  obtain ⟨u00, n00, y00, e00, c00, t00, w00⟩ := hf0 0 _ rfl
  obtain ⟨ua, uc, fu, rfl, sl_fu, in_fu, ln_fu⟩ := in_ints Try.underlying22 Try.underlying3 (by kernel_rfl) c00 t00 w00
  obtain ⟨u01, n01, y01, e01, c01, t01, w01⟩ := hf0 1 _ rfl
  obtain ⟨val0, rfl, in_val0⟩ := in_int Try.underlying3 t01
  obtain ⟨u02, n02, y02, e02, c02, t02, w02⟩ := hf0 2 _ rfl
  obtain ⟨wa, wc, sw, rfl, sl_sw, in_sw, ln_sw⟩ := in_ints Try.underlying22 Try.underlying3 (by kernel_rfl) c02 t02 w02
  obtain rfl := list3 hl0 e00 e01 e02
  obtain ⟨cw1, fuel1, tr1⟩ := arg_cell Try.underlying22 (hval 1 22 v1 rfl rfl) h1
  obtain ⟨la, lc, ls, rfl, sl_ls, in_ls, ln_ls⟩ := in_ints Try.underlying22 Try.underlying3 (by kernel_rfl) cw1 tr1 (light_arg hsz (j := 1) rfl rfl)
  clear hA0 hval0
  refine (calls_below (P := Try.prog) (FlowProves_walk (sl_fu.sl List.mem_cons_self) (sl_sw.sl List.mem_cons_self) (sl_ls.sl List.mem_cons_self) (by rw [show Try.prog.bytesOf 3 = 8 from by kernel_rfl] at ln_fu ln_sw; omega))).mono fun e W' ⟨he, bel⟩ => ?_
  subst he
  exact ⟨_, rfl, _, _, _, [], _, [], hW', trodAll_mk1 (shut_bool Try.underlying4 _), (trodAll_cons_mk (Below.trod laidOut (by kernel_rfl) (of_decide_eq_true (by kernel_rfl)) k0 bel lt0) (trodAll_cons_mk (Below.trod laidOut (by kernel_rfl) (of_decide_eq_true (by kernel_rfl)) k1 bel lt1) trodAll_mk0)), rfl, bel.frame _, fun h => by cases h⟩
theorem c10 : ((Rows.flowProvesRow.inPlace == Try.prog.inPlace 3)) = true := by kernel_rfl
theorem c11 : ((Rows.flowProvesRow.unfollowed == Try.prog.unfollowed 3)) = true := by kernel_rfl
theorem c12 : ((Rows.flowProvesRow.recurses == Try.prog.recurses 3)) = true := by kernel_rfl
theorem c13 : ((Rows.flowProvesRow.named == Try.prog.varsNamed 3)) = true := by kernel_rfl
theorem closed : joinedFacts Try.prog 3 Try.f3 Rows.flowProvesSpec Rows.flowProvesRow = true := joined_mk (by kernel_rfl) fact2 fact3 (by kernel_rfl) (by kernel_rfl) (by kernel_rfl) (by kernel_rfl) (by kernel_rfl) (by kernel_rfl) c10 c11 c12 c13 (by kernel_rfl) (by kernel_rfl) (by kernel_rfl) (by kernel_rfl) (by kernel_rfl) (by kernel_rfl) (by kernel_rfl) (by kernel_rfl) (by kernel_rfl) fact23 (by kernel_rfl) fact25 fact26 fact27 fact28 (by kernel_rfl) (by kernel_rfl) (by kernel_rfl) (by kernel_rfl)
theorem over : Rows.flowProvesRow.holds Try.pinned (OpenSpec.ofChange Rows.flowProvesSpec) :=
  OpenClaim.holds_of_wide 3 Try.f3 rfl rfl rfl rfl rfl rfl rfl ⟨rfl, rfl, rfl, rfl, rfl⟩ rfl rfl rfl rfl rfl (by kernel_rfl) Try.func3 closed
    (of_decide_eq_true (by kernel_rfl)) (by unfold Func.isWrapper; first | (rw [if_pos (by decide +kernel)]; kernel_rfl) | (rw [if_neg (by decide +kernel)]; exact ⟨rfl, rfl⟩))
    (fun os started H enc _ => lifted os started H enc)
end Go.Proofs.Ytbimaodbcjjbfaa.flowProves
namespace Go.Proofs.Ytbimaodbcjjbfaa
/-- The given statement. -/
theorem flowProves_holds : Rows.FlowProvesSaid := flowProves.over
end Go.Proofs.Ytbimaodbcjjbfaa
