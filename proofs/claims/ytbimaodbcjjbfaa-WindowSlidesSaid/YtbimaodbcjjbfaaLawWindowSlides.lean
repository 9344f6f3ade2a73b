/- The statement WindowSlidesSaid, for every input. No conditions. -/
import Derived.Test.YtbimaodbcjjbfaaLaw07B
import Derived.Test.YtbimaodbcjjbfaaRows
import Derived.Test.YtbimaodbcjjbfaaFrame
import Derived.Test.YtbimaodbcjjbfaaFactA
import Derived.Test.YtbimaodbcjjbfaaFactB
import Derived.Test.YtbimaodbcjjbfaaFactC
import Derived.Test.YtbimaodbcjjbfaaFactD
namespace Go.Proofs.Ytbimaodbcjjbfaa.windowSlides
open Go.ChangeShapes Go.WideShapes Go.ChangeAt Go.RowKit Go.Sl
set_option linter.unusedVariables false
set_option maxRecDepth 100000
theorem own : ownKnob Try.prog.godebug = none := by kernel_rfl
theorem laidOut : laidOutB Try.prog = true := by kernel_rfl
theorem lifted (os : Os) (started : os.Started) (H : Type) (enc : TypeId × Value → H) :
    ReturnsInHanded {} Try.checked os 15 .any (Rows.windowSlidesSpec.pre6 enc Try.prog Try.f15 Rows.windowSlidesRow.domain false) (Rows.windowSlidesSpec.post enc Try.prog Try.f15 false true false false) := by
  refine returnsInHanded_of_change_sized (C := Try.checked) own started (by kernel_rfl) Try.func15
    (ChangeSpec.witness6 (enc := enc) (C := Try.checked) false ⟨#[], #[.slice none 0 0, .agg #[.int .i64 0, .int .i64 0, .int .i64 0], .slice none 0 0, .int .i64 0], []⟩ 8 (by kernel_rfl) (by kernel_rfl) (by kernel_rfl) (by kernel_rfl)) ?_
  intro W base args ds gs before hval0 hW hcnd hsz _
  have hval : ∀ (j : Nat) t v, Try.f15.params[j]? = some t → args[j]? = some v → Value.okWide Try.prog W .any base t v := hval0
  have hW' := hW
  obtain ⟨p, q, hA0, hV, rfl, hfz, hnd⟩ := hW
  have hA : DataW.TrodAll enc Try.prog W 0 (fun _ => true) true Try.f15.params.toList args.toList ds p := hA0
  rw [Try.params15] at hA hval
  obtain ⟨v0, vs0, d0, ds0, p0, q0, hargs, rfl, rfl, h0, r0⟩ := trodAll_cons hA
  obtain ⟨v1, vs1, d1, ds1, p1, q1, rfl, rfl, rfl, h1, r1⟩ := trodAll_cons r0
  obtain ⟨v2, vs2, d2, ds2, p2, q2, rfl, rfl, rfl, h2, r2⟩ := trodAll_cons r1
  obtain ⟨v3, vs3, d3, ds3, p3, q3, rfl, rfl, rfl, h3, r3⟩ := trodAll_cons r2
  obtain ⟨rfl, rfl, rfl⟩ := trodAll_nil r3
  obtain rfl : args = #[v0, v1, v2, v3] := by cases args; simp_all
  obtain ⟨rfl, rfl⟩ := trodVars_none hV
  have k0 := h0
  have lt0 : ∀ x ∈ p0, x.block < W.heap.size := by obtain ⟨m, hm⟩ := k0; exact DataW.trod_lt m _ _ _ hm
  have k1 := h1
  have lt1 : ∀ x ∈ p1, x.block < W.heap.size := by obtain ⟨m, hm⟩ := k1; exact DataW.trod_lt m _ _ _ hm
  have k2 := h2
  have lt2 : ∀ x ∈ p2, x.block < W.heap.size := by obtain ⟨m, hm⟩ := k2; exact DataW.trod_lt m _ _ _ hm
  have k3 := h3
  have lt3 : ∀ x ∈ p3, x.block < W.heap.size := by obtain ⟨m, hm⟩ := k3; exact DataW.trod_lt m _ _ _ hm
  obtain ⟨cw0, fuel0, tr0⟩ := arg_cell Try.underlying81 (hval 0 81 v0 rfl rfl) h0
  obtain ⟨ga, gc, gx, rfl, sl_gx, in_gx, ln_gx⟩ := in_flat (fun f => (⟨f 0, f 1, f 2, f 3, f 4, f 5, f 6⟩ : Ev)) (fun _ => rfl) rfl Try.underlying81 Try.underlying122 (by kernel_rfl) (by kernel_rfl) (by exact fields_int (by kernel_rfl)) cw0 tr0 (light_arg hsz (j := 0) rfl rfl)
  obtain ⟨l1, rfl, hl1, hf1⟩ := in_struct Try.underlying73 (by kernel_rfl) (by kernel_rfl) (by kernel_rfl) (hval 1 73 v1 rfl rfl) h1 (light_arg hsz (j := 1) rfl rfl)
  obtain ⟨u10, n10, y10, e10, c10, t10, w10⟩ := hf1 0 _ rfl
  obtain ⟨kd0, rfl, in_kd0⟩ := in_int Try.underlying3 t10
  obtain ⟨u11, n11, y11, e11, c11, t11, w11⟩ := hf1 1 _ rfl
  obtain ⟨wd0, rfl, in_wd0⟩ := in_int Try.underlying3 t11
  obtain ⟨u12, n12, y12, e12, c12, t12, w12⟩ := hf1 2 _ rfl
  obtain ⟨mo0, rfl, in_mo0⟩ := in_int Try.underlying3 t12
  obtain rfl := list3 hl1 e10 e11 e12
  obtain ⟨cw2, fuel2, tr2⟩ := arg_cell Try.underlying22 (hval 2 22 v2 rfl rfl) h2
  obtain ⟨la, lc, ls, rfl, sl_ls, in_ls, ln_ls⟩ := in_ints Try.underlying22 Try.underlying3 (by kernel_rfl) cw2 tr2 (light_arg hsz (j := 2) rfl rfl)
  obtain ⟨h0, rfl, rfl, rfl, in_h0⟩ := open_int Try.underlying3 (hval 3 3 v3 rfl rfl) h3
  clear hA0 hval0
  refine (calls_below (P := Try.prog) (WindowSlides_walk (k0 := kd0) (w0 := wd0) (m0 := mo0) (sl_gx.sl List.mem_cons_self) (sl_ls.sl List.mem_cons_self) h0)).mono fun e W' ⟨he, bel⟩ => ?_
  subst he
  exact ⟨_, rfl, _, _, _, [], _, [], hW', trodAll_mk1 (shut_bool Try.underlying4 _), (trodAll_cons_mk (Below.trod laidOut (by kernel_rfl) (of_decide_eq_true (by kernel_rfl)) k0 bel lt0) (trodAll_cons_mk (Below.trod laidOut (by kernel_rfl) (of_decide_eq_true (by kernel_rfl)) k1 bel lt1) (trodAll_cons_mk (Below.trod laidOut (by kernel_rfl) (of_decide_eq_true (by kernel_rfl)) k2 bel lt2) (trodAll_cons_mk (Below.trod laidOut (by kernel_rfl) (of_decide_eq_true (by kernel_rfl)) k3 bel lt3) trodAll_mk0)))), rfl, bel.frame _, fun h => by cases h⟩
theorem c10 : ((Rows.windowSlidesRow.inPlace == Try.prog.inPlace 15)) = true := by kernel_rfl
theorem c11 : ((Rows.windowSlidesRow.unfollowed == Try.prog.unfollowed 15)) = true := by kernel_rfl
theorem c12 : ((Rows.windowSlidesRow.recurses == Try.prog.recurses 15)) = true := by kernel_rfl
theorem c13 : ((Rows.windowSlidesRow.named == Try.prog.varsNamed 15)) = true := by kernel_rfl
theorem closed : joinedFacts Try.prog 15 Try.f15 Rows.windowSlidesSpec Rows.windowSlidesRow = true := joined_mk (by kernel_rfl) fact2 fact3 (by kernel_rfl) (by kernel_rfl) (by kernel_rfl) (by kernel_rfl) (by kernel_rfl) (by kernel_rfl) c10 c11 c12 c13 (by kernel_rfl) (by kernel_rfl) (by kernel_rfl) (by kernel_rfl) (by kernel_rfl) (by kernel_rfl) (by kernel_rfl) (by kernel_rfl) (by kernel_rfl) fact23 (by kernel_rfl) fact25 fact26 fact27 fact28 (by kernel_rfl) (by kernel_rfl) (by kernel_rfl) (by kernel_rfl)
theorem over : Rows.windowSlidesRow.holds Try.pinned (OpenSpec.ofChange Rows.windowSlidesSpec) :=
  OpenClaim.holds_of_wide 15 Try.f15 rfl rfl rfl rfl rfl rfl rfl ⟨rfl, rfl, rfl, rfl, rfl⟩ rfl rfl rfl rfl rfl (by kernel_rfl) Try.func15 closed
    (of_decide_eq_true (by kernel_rfl)) (by unfold Func.isWrapper; first | (rw [if_pos (by decide +kernel)]; kernel_rfl) | (rw [if_neg (by decide +kernel)]; exact ⟨rfl, rfl⟩))
    (fun os started H enc _ => lifted os started H enc)
end Go.Proofs.Ytbimaodbcjjbfaa.windowSlides
namespace Go.Proofs.Ytbimaodbcjjbfaa
/-- The given statement. -/
theorem windowSlides_holds : Rows.WindowSlidesSaid := windowSlides.over
end Go.Proofs.Ytbimaodbcjjbfaa
