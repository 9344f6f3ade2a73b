/- A part of the proofs of statements of this seat: contracts of functions, and the plain laws that they lean on. No conditions. -/
import Derived.Test.YtoagcglbkeomgaaGreatDoorV34
import Derived.Test.YtoagcglbkeomgaaGreatDoorFactAV
import Derived.Test.YtoagcglbkeomgaaGreatDoorFactBV
import Derived.Test.YtoagcglbkeomgaaGreatDoorFactCV
import Derived.Test.YtoagcglbkeomgaaGreatDoorFactDV
import Derived.Test.YtoagcglbkeomgaaGreatDoorCards
import Derived.Test.YtoagcglbkeomgaaGreatDoorTie
import Derived.LaidMore
import Derived.Lib.LaidTab
import Derived.MakeChecks
import Derived.LaidHandle
import Derived.Handed
import Derived.SevenTiedAt
set_option linter.unusedVariables false
set_option linter.unusedSimpArgs false
set_option linter.unusedSectionVars false
namespace Go.Proofs.YtoagcglbkeomgaaGreatDoor.engineLeaves
open Go.ChangeShapes Go.WideShapes Go.ChangeAt Go.RowKit Go.Sl
set_option maxRecDepth 100000
theorem own:ownKnob Tryz.prog.godebug=none:=by kernel_rfl
theorem laidOut:laidOutB Tryz.prog=true:=by kernel_rfl
theorem gTab : Tryz.prog.globalNamed "math/bits.deBruijn64tab" = some 0 := by kernel_rfl
theorem tTab:(Tryz.prog.globals[0]?).map (·.type)=some 241:=by kernel_rfl
theorem door_met(os : Os)(args : Array Value) : laidMetH Tryz.prog [("math/bits.deBruijn64tab", Rows.laid_math_bits_deBruijn64tab)] ((World.doorLaid Tryz.prog 400 os).forCall (fun _ _ => 0) ⟨#[], args, []⟩).memory :=
 laidMetH_of_parts3 (fuel:=8) (laidMet_of_run' 8 (by kernel_rfl)<|by kernel_rfl) (by kernel_rfl) (by kernel_rfl)
theorem of_laid{W : World}(h : laidMetH Tryz.prog [("math/bits.deBruijn64tab", Rows.laid_math_bits_deBruijn64tab)] W)(j : Nat)(u : Value)(hu : p6[j]? = some u) : W.cell? ⟨0, j, none⟩ = some u := by
 rw [MakeChecks.laidMetH_plain _ _ _ (by kernel_rfl)] at h
 have hT : Lib.TabIs Tryz.prog W "math/bits.deBruijn64tab" .u8 az2 := Lib.tabIs_of_head (zs := az2) gTab tTab Tryz.underlying241 Tryz.underlying5 (by kernel_rfl) (by kernel_rfl) h
 have hj:j<az2.length:=by
  have:=(List.getElem?_eq_some_iff.1 hu).1
  simpa [p6] using this
 have h1:=hT.cell gTab j hj
 unfold p6 at hu
 rw [List.getElem?_map,List.getElem?_eq_getElem hj] at hu
 rw [h1,←hu,List.getD_eq_getElem?_getD,List.getElem?_eq_getElem hj]
 rfl
theorem tabW{κ : Ctx}{W : World}{I : List Go.Sl.Item}(h : laidMetH Tryz.prog [("math/bits.deBruijn64tab", Rows.laid_math_bits_deBruijn64tab)] W)(hm : old W.heap.size W ∈ I) : F4 κ I 0 p6 := fun w' hs j u hj => ck7 hs hm (of_laid h j u hj)
theorem lifted(os:Os)(started:os.Started)(H:Type)(enc:TypeId×Value->H) :
  ReturnsInHanded {} Tryz.checked os 9 .any (fun w args => (Rows.engineLeavesSpec.pre enc Tryz.prog Tryz.f9 [] false w args ∧ laidMetH Tryz.prog [("math/bits.deBruijn64tab", Rows.laid_math_bits_deBruijn64tab)] w) ∧ sizedMet enc Tryz.prog Tryz.f9 (OpenSpec.ofChange Rows.engineLeavesSpec) false w args) (Rows.engineLeavesSpec.post enc Tryz.prog Tryz.f9 false true false false) := by
 refine returnsInHanded_of_change_and (C := Tryz.checked) (X := fun w _ => laidMetH Tryz.prog [("math/bits.deBruijn64tab", Rows.laid_math_bits_deBruijn64tab)] w) (fun _ _ _ hh h => h.of_heap hh) own started (by kernel_rfl) Tryz.func9
  (ChangeSpec.witness_shaped (enc := enc) (C := Tryz.checked) (os := os) (X := fun w _ => laidMetH Tryz.prog [("math/bits.deBruijn64tab", Rows.laid_math_bits_deBruijn64tab)] w) false (World.doorLaid Tryz.prog 400 os) #[.slice none 0 0] 8 rfl (World.shaped_of_RefB (by kernel_rfl) (by kernel_rfl)) (by kernel_rfl) (by kernel_rfl) (by kernel_rfl) (door_met os _)) ?_
 intro W base args ds gs before hval0 hW hcnd hsz hL _
 have hval:∀(j:Nat) t v,Tryz.f9.params[j]? = some t->args[j]? = some v->Value.okWide Tryz.prog W .any base t v:=hval0
 have hW':=hW
 obtain ⟨p,q,hA0,hV,rfl,hfz,hnd⟩:=hW
 have hA:DataW.TrodAll enc Tryz.prog W 0 (λ_=>true) true Tryz.f9.params.toList args.toList ds p:=hA0
 rw [Tryz.params9] at hA hval
 obtain ⟨v0,vs0,d0,ds0,p0,q0,hargs,rfl,rfl,h0,r0⟩:=trodAll_cons hA
 obtain ⟨rfl,rfl,rfl⟩:=trodAll_nil r0
 obtain rfl:args = #[v0]:=by cases args;simp_all
 obtain ⟨rfl,rfl⟩:=trodVars_none hV
 have k0:=h0
 have lt0:∀x∈p0,x.block<W.heap.size:=by obtain ⟨m,hm⟩:=k0;exact DataW.trod_lt m _ _ _ hm
 obtain ⟨cw0,fuel0,tr0⟩:=fc2 Tryz.underlying22 (hval 0 22 v0 rfl rfl) h0
 obtain ⟨la,lc,ls,rfl,sl_ls,in_ls,ln_ls⟩:=fo7 Tryz.underlying22 Tryz.underlying3 (by kernel_rfl) cw0 tr0 (dh4 hsz (j:=0) rfl rfl)
 clear hA0 hval0
 refine (cg4 (P:=Tryz.prog)<|ax6 (sl_ls.sl List.mem_cons_self)<|tabW hL List.mem_cons_self).mono λe W' ⟨he,bel⟩=>?_
 subst he
 exact ⟨_,rfl,_,_,_,[],_,[],hW',trodAll_mk1<|shut_bool Tryz.underlying4 _,(trodAll_cons_mk (Below.trod laidOut (by kernel_rfl) (of_decide_eq_true<|by kernel_rfl) k0 bel lt0) trodAll_mk0),rfl,bel.frame _,λh=>by cases h⟩
theorem c10:((Rows.engineLeavesRow.inPlace==Tryz.prog.inPlace 9))=true:=by kernel_rfl
theorem c11:((Rows.engineLeavesRow.unfollowed==Tryz.prog.unfollowed 9))=true:=by kernel_rfl
theorem c12:((Rows.engineLeavesRow.recurses==Tryz.prog.recurses 9))=true:=by kernel_rfl
theorem c13:((Rows.engineLeavesRow.named==Tryz.prog.varsNamed 9))=true:=by kernel_rfl
theorem closed:joinedFacts Tryz.prog 9 Tryz.f9 Rows.engineLeavesSpec Rows.engineLeavesRow=true:=di4 (by kernel_rfl) fact2 fact3 (by kernel_rfl) (by kernel_rfl) (by kernel_rfl) (by kernel_rfl) (by kernel_rfl) (by kernel_rfl) c10 c11 c12 c13 (by kernel_rfl) (by kernel_rfl) (by kernel_rfl) (by kernel_rfl) (by kernel_rfl) (by kernel_rfl) (by kernel_rfl) (by kernel_rfl) (by kernel_rfl) fact23 (by kernel_rfl) fact25 fact26 fact27 fact28 (by kernel_rfl) (by kernel_rfl) (by kernel_rfl) (by kernel_rfl)
theorem over:Rows.engineLeavesRow.holds Tryz.pinned (OpenSpec.ofChange Rows.engineLeavesSpec):=
 OpenClaim.holds_of_wide 9 Tryz.f9 rfl rfl rfl rfl rfl rfl rfl ⟨rfl,rfl,rfl,rfl,rfl⟩ rfl rfl rfl rfl rfl (by kernel_rfl) Tryz.func9 closed
  (of_decide_eq_true<|by kernel_rfl) (by unfold Func.isWrapper;first|(rw [if_pos (by decide+kernel)];kernel_rfl)|(rw [if_neg (by decide+kernel)];exact ⟨rfl,rfl⟩))
  (λos M H enc _=>lifted os M H enc)
end Go.Proofs.YtoagcglbkeomgaaGreatDoor.engineLeaves
namespace Go.Proofs.YtoagcglbkeomgaaGreatDoor
theorem engineLeaves_holds:Rows.EngineLeavesSaid:=engineLeaves.over
end Go.Proofs.YtoagcglbkeomgaaGreatDoor
