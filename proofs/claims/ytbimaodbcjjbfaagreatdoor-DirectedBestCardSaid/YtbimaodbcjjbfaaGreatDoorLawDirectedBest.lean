/- The statement DirectedBestSaid, for every input. No conditions. -/
import Derived.Test.YtbimaodbcjjbfaaGreatDoorDirM
import Derived.Test.YtbimaodbcjjbfaaGreatDoorFrame2
import Derived.Test.YtbimaodbcjjbfaaGreatDoorRows
import Derived.Test.YtbimaodbcjjbfaaGreatDoorFrame
import Derived.Test.YtbimaodbcjjbfaaGreatDoorFactA
import Derived.Test.YtbimaodbcjjbfaaGreatDoorFactB
import Derived.Test.YtbimaodbcjjbfaaGreatDoorFactC
import Derived.Test.YtbimaodbcjjbfaaGreatDoorFactD
import Derived.Test.YtbimaodbcjjbfaaGreatDoorCards
import Derived.Test.YtbimaodbcjjbfaaGreatDoorTie
import Derived.ProofKit
import Derived.LaidMore
import Derived.OpenShut
import Derived.Lib.LaidTab
import Derived.MakeChecks
import Derived.LaidHandle
import Derived.Handed
import Derived.SevenTiedAt
namespace Go.Proofs.YtbimaodbcjjbfaaGreatDoor.directedBest
open Go.ChangeShapes Go.WideShapes Go.ChangeAt Go.RowKit Go.Sl
set_option linter.unusedVariables false
set_option maxRecDepth 100000
theorem own : ownKnob Tryz.prog.godebug = none := by kernel_rfl
theorem laidOut : laidOutB Tryz.prog = true := by kernel_rfl
theorem gTab : Tryz.prog.globalNamed "math/bits.deBruijn64tab" = some 0 := by kernel_rfl
theorem tTab : (Tryz.prog.globals[0]?).map (·.type) = some 147 := by kernel_rfl
/-- The heap that the door's own run leaves meets the condition. -/
theorem door_met (os : Os) (args : Array Value) : laidMetH Tryz.prog [("math/bits.deBruijn64tab", Rows.laid_math_bits_deBruijn64tab)] ((World.doorLaid Tryz.prog 400 os).forCall (fun _ _ => 0) ⟨#[], args, []⟩).memory :=
  laidMetH_of_parts3 (fuel := 8) (laidMet_of_run' 8 (by kernel_rfl) (by kernel_rfl)) (by kernel_rfl) (by kernel_rfl)
/-- What the condition says of the table's cells. -/
theorem of_laid {W : World} (h : laidMetH Tryz.prog [("math/bits.deBruijn64tab", Rows.laid_math_bits_deBruijn64tab)] W) (j : Nat) (u : Value) (hu : tzCells[j]? = some u) : W.cell? ⟨0, j, none⟩ = some u := by
  rw [MakeChecks.laidMetH_plain _ _ _ (by kernel_rfl)] at h
  have hT : Lib.TabIs Tryz.prog W "math/bits.deBruijn64tab" .u8 tzTab := Lib.tabIs_of_head (zs := tzTab) gTab tTab Tryz.underlying147 Tryz.underlying5 (by kernel_rfl) (by kernel_rfl) h
  have hj : j < tzTab.length := by
    have := (List.getElem?_eq_some_iff.1 hu).1
    simpa [tzCells] using this
  have h1 := hT.cell gTab j hj
  unfold tzCells at hu
  rw [List.getElem?_map, List.getElem?_eq_getElem hj] at hu
  rw [h1, ← hu, List.getD_eq_getElem?_getD, List.getElem?_eq_getElem hj]
  rfl
theorem tabW {κ : Ctx} {W : World} {I : List Go.Sl.Item} (h : laidMetH Tryz.prog [("math/bits.deBruijn64tab", Rows.laid_math_bits_deBruijn64tab)] W) (hm : old W.heap.size W ∈ I) : TabRd κ I 0 tzCells := fun w' hs j u hj => old_cell hs hm (of_laid h j u hj)
theorem lifted (os : Os) (started : os.Started) (H : Type) (enc : TypeId × Value → H) :
    ReturnsInHanded {} Tryz.checked os 5 .any (fun w args => (Rows.directedBestSpec.pre enc Tryz.prog Tryz.f5 [] false w args ∧ laidMetH Tryz.prog [("math/bits.deBruijn64tab", Rows.laid_math_bits_deBruijn64tab)] w) ∧ sizedMet enc Tryz.prog Tryz.f5 (OpenSpec.ofChange Rows.directedBestSpec) false w args) (Rows.directedBestSpec.post enc Tryz.prog Tryz.f5 false true false false) := by
  refine returnsInHanded_of_change_and (C := Tryz.checked) (X := fun w _ => laidMetH Tryz.prog [("math/bits.deBruijn64tab", Rows.laid_math_bits_deBruijn64tab)] w) (fun _ _ _ hh h => h.of_heap hh) own started (by kernel_rfl) Tryz.func5
    (ChangeSpec.witness_shaped (enc := enc) (C := Tryz.checked) (os := os) (X := fun w _ => laidMetH Tryz.prog [("math/bits.deBruijn64tab", Rows.laid_math_bits_deBruijn64tab)] w) false (World.doorLaid Tryz.prog 400 os) #[.agg #[.int .i64 0, .slice none 0 0], .slice none 0 0] 8 rfl (World.shaped_of_RefB (by kernel_rfl) (by kernel_rfl)) (by kernel_rfl) (by kernel_rfl) (by kernel_rfl) (door_met os _)) ?_
  intro W base args ds gs before hval0 hW hcnd hsz hL _
  have hval : ∀ (j : Nat) t v, Tryz.f5.params[j]? = some t → args[j]? = some v → Value.okWide Tryz.prog W .any base t v := hval0
  have hW' := hW
  obtain ⟨p, q, hA0, hV, rfl, hfz, hnd⟩ := hW
  have hA : DataW.TrodAll enc Tryz.prog W 0 (fun _ => true) true Tryz.f5.params.toList args.toList ds p := hA0
  rw [Tryz.params5] at hA hval
  obtain ⟨v0, vs0, d0, ds0, p0, q0, hargs, rfl, rfl, h0, r0⟩ := trodAll_cons hA
  obtain ⟨v1, vs1, d1, ds1, p1, q1, rfl, rfl, rfl, h1, r1⟩ := trodAll_cons r0
  obtain ⟨rfl, rfl, rfl⟩ := trodAll_nil r1
  obtain rfl : args = #[v0, v1] := by cases args; simp_all
  obtain ⟨rfl, rfl⟩ := trodVars_none hV
  have k0 := h0
  have lt0 : ∀ x ∈ p0, x.block < W.heap.size := by obtain ⟨m, hm⟩ := k0; exact DataW.trod_lt m _ _ _ hm
  have k1 := h1
  have lt1 : ∀ x ∈ p1, x.block < W.heap.size := by obtain ⟨m, hm⟩ := k1; exact DataW.trod_lt m _ _ _ hm
  obtain ⟨l0, rfl, hl0, hf0⟩ := in_struct Tryz.underlying54 (by kernel_rfl) (by kernel_rfl) (by kernel_rfl) (hval 0 54 v0 rfl rfl) h0 (light_arg hsz (j := 0) rfl rfl)
  obtain ⟨u00, n00, y00, e00, c00, t00, w00⟩ := hf0 0 _ rfl
  obtain ⟨m0, rfl, in_m0⟩ := in_int Tryz.underlying3 t00
  obtain ⟨u01, n01, y01, e01, c01, t01, w01⟩ := hf0 1 _ rfl
  obtain ⟨ra, rc, rx, rfl, sl_rx, in_rx, ln_rx⟩ := in_arrs (fun f => (⟨f 0, f 1⟩ : Pt)) (fun _ => rfl) rfl Tryz.underlying33 Tryz.underlying32 Tryz.underlying3 (by kernel_rfl) (by kernel_rfl) c01 t01 w01
  obtain rfl := list2 hl0 e00 e01
  obtain ⟨cw1, fuel1, tr1⟩ := arg_cell Tryz.underlying22 (hval 1 22 v1 rfl rfl) h1
  obtain ⟨la, lc, ls, rfl, sl_ls, in_ls, ln_ls⟩ := in_ints Tryz.underlying22 Tryz.underlying3 (by kernel_rfl) cw1 tr1 (light_arg hsz (j := 1) rfl rfl)
  clear hA0 hval0
  refine (calls_below (P := Tryz.prog) (DirectedBest_walk (nd := m0) (sl_rx.sl List.mem_cons_self) (sl_ls.sl List.mem_cons_self) (tabW hL List.mem_cons_self))).mono fun e W' ⟨he, bel⟩ => ?_
  subst he
  exact ⟨_, rfl, _, _, _, [], _, [], hW', trodAll_mk1 (shut_bool Tryz.underlying4 _), (trodAll_cons_mk (Below.trod laidOut (by kernel_rfl) (of_decide_eq_true (by kernel_rfl)) k0 bel lt0) (trodAll_cons_mk (Below.trod laidOut (by kernel_rfl) (of_decide_eq_true (by kernel_rfl)) k1 bel lt1) trodAll_mk0)), rfl, bel.frame _, fun h => by cases h⟩
theorem c10 : ((Rows.directedBestRow.inPlace == Tryz.prog.inPlace 5)) = true := by kernel_rfl
theorem c11 : ((Rows.directedBestRow.unfollowed == Tryz.prog.unfollowed 5)) = true := by kernel_rfl
theorem c12 : ((Rows.directedBestRow.recurses == Tryz.prog.recurses 5)) = true := by kernel_rfl
theorem c13 : ((Rows.directedBestRow.named == Tryz.prog.varsNamed 5)) = true := by kernel_rfl
theorem closed : joinedFacts Tryz.prog 5 Tryz.f5 Rows.directedBestSpec Rows.directedBestRow = true := joined_mk (by kernel_rfl) fact2 fact3 (by kernel_rfl) (by kernel_rfl) (by kernel_rfl) (by kernel_rfl) (by kernel_rfl) (by kernel_rfl) c10 c11 c12 c13 (by kernel_rfl) (by kernel_rfl) (by kernel_rfl) (by kernel_rfl) (by kernel_rfl) (by kernel_rfl) (by kernel_rfl) (by kernel_rfl) (by kernel_rfl) fact23 (by kernel_rfl) fact25 fact26 fact27 fact28 (by kernel_rfl) (by kernel_rfl) (by kernel_rfl) (by kernel_rfl)
theorem over : Rows.directedBestRow.holds Tryz.pinned (OpenSpec.ofChange Rows.directedBestSpec) :=
  OpenClaim.holds_of_wide 5 Tryz.f5 rfl rfl rfl rfl rfl rfl rfl ⟨rfl, rfl, rfl, rfl, rfl⟩ rfl rfl rfl rfl rfl (by kernel_rfl) Tryz.func5 closed
    (of_decide_eq_true (by kernel_rfl)) (by unfold Func.isWrapper; first | (rw [if_pos (by decide +kernel)]; kernel_rfl) | (rw [if_neg (by decide +kernel)]; exact ⟨rfl, rfl⟩))
    (fun os started H enc _ => lifted os started H enc)
end Go.Proofs.YtbimaodbcjjbfaaGreatDoor.directedBest
namespace Go.Proofs.YtbimaodbcjjbfaaGreatDoor
/-- The given statement. -/
theorem directedBest_holds : Rows.DirectedBestSaid := directedBest.over
theorem directedBestCard_holds : Rows.DirectedBestCardSaid :=
  Claim7.holds_tied_plain_at .later [] [.data] true (true, "8843abd135f42638d1a5429137ac52fb6a54ff7798351f64c3e02626a5bc36c0") false
    directedBest_holds (fun _ h => by cases h) (by kernel_rfl) (fun _ h => by cases h) directedBest_row_tie rfl ⟨rfl, rfl⟩ (by kernel_rfl) rfl
    (fun f fn hf hfn => by
      obtain rfl : f = 5 := Option.some.inj ((show Tryz.prog.funcNamed "cohesion/cohesionlaw23.DirectedBest" = some 5 by kernel_rfl).symm.trans hf) |>.symm
      obtain rfl : fn = Tryz.f5 := (Option.some.inj (Tryz.func5.symm.trans hfn)).symm
      exact ⟨by kernel_rfl, fun j t ht => by
        rw [Tryz.params5] at ht
        have hm : t ∈ [54, 22] := by simpa using Array.mem_of_getElem? ht
        have hall : ([54, 22].all fun u => !Tryz.prog.wantsStandIn u) = true := by kernel_rfl
        exact (show Tryz.prog.wantsStandIn t = false by simpa using List.all_eq_true.1 hall t hm)⟩)
    (by kernel_rfl)
end Go.Proofs.YtbimaodbcjjbfaaGreatDoor
