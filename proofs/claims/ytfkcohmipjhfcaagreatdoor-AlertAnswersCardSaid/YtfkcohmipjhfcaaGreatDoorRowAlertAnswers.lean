/- A part of the proofs of statements of this seat: contracts of functions, and the plain laws that they lean on. No conditions. -/
import Derived.Test.YtfkcohmipjhfcaaGreatDoorB28
import Derived.Test.YtfkcohmipjhfcaaGreatDoorB29
import Derived.Test.YtfkcohmipjhfcaaGreatDoorFactAB
import Derived.Test.YtfkcohmipjhfcaaGreatDoorFactBB
import Derived.Test.YtfkcohmipjhfcaaGreatDoorFactCB
import Derived.Test.YtfkcohmipjhfcaaGreatDoorFactDB
import Derived.Test.YtfkcohmipjhfcaaGreatDoorCards
import Derived.Test.YtfkcohmipjhfcaaGreatDoorTie
import Derived.LaidMore
import Derived.Lib.LaidTab
import Derived.MakeChecks
import Derived.LaidHandle
import Derived.Handed
import Derived.SevenTiedAt
set_option linter.unusedVariables false
set_option linter.unusedSimpArgs false
set_option linter.unusedSectionVars false
namespace Go.Proofs.YtfkcohmipjhfcaaGreatDoor.alertAnswers
open Go.ChangeShapes Go.WideShapes Go.ChangeAt Go.RowKit Go.Sl
set_option maxRecDepth 100000
theorem open_al{H:Type}{enc:TypeId×Value->H}{W:World}{base:Nat}{held:Bool}(cs:List Value)(n:Nat)(x:DataW H×List MemPlace)(h:DataW.trod enc Tryz.prog W base (λ_=>true) held n 42 cs=some x):∃y:AlV,cs=Enc.enc y/\SlW W (.slice y.a y.xs.length y.c) y.xs:=by
 obtain ⟨q0,e0,_⟩:=be4 (j:=0) (off:=0) Tryz.underlying42 ⟨⟨_,rfl,rfl,by kernel_rfl,Tryz.underlying3⟩⟩ h
 obtain ⟨q1,e1,_⟩:=be4 (j:=1) (off:=1) Tryz.underlying42 ⟨⟨_,rfl,rfl,by kernel_rfl,Tryz.underlying3⟩⟩ h
 obtain ⟨q2,e2,_⟩:=be4 (j:=2) (off:=2) Tryz.underlying42 ⟨⟨_,rfl,rfl,by kernel_rfl,Tryz.underlying3⟩⟩ h
 obtain ⟨a3,c3,E,e3,M⟩:=fx1 (j:=3) (off:=3) Tryz.underlying42 ⟨⟨_,_,rfl,rfl,by kernel_rfl,Tryz.underlying22,Tryz.underlying3,by kernel_rfl⟩⟩ h
 obtain ⟨q4,q5,⟨e4,_⟩,e5,_⟩:=fx0 (j:=4) (off:=4) Tryz.underlying42 ⟨⟨_,_,rfl,rfl,by kernel_rfl,Tryz.underlying40,rfl,⟨⟨_,rfl,rfl,by kernel_rfl,Tryz.underlying3⟩⟩,⟨⟨_,rfl,rfl,by kernel_rfl,Tryz.underlying3⟩⟩⟩⟩ h
 have hl:cs.length=6:=(ft5 Tryz.underlying42 h).trans (by kernel_rfl)
 exact ⟨⟨q0,q1,q2,a3,c3,E,q4,q5⟩,gs2 hl e0 e1 e2 e3 e4 e5,M⟩
theorem open_rg{H:Type}{enc:TypeId×Value->H}{W:World}{base:Nat}{held:Bool}(cs:List Value)(n:Nat)(x:DataW H×List MemPlace)(h:DataW.trod enc Tryz.prog W base (λ_=>true) held n 44 cs=some x):∃y:Rg,cs=Enc.enc y/\True:=by
 obtain ⟨q0,E,_⟩:=be4 (j:=0) (off:=0) Tryz.underlying44 ⟨⟨_,rfl,rfl,by kernel_rfl,Tryz.underlying3⟩⟩ h
 obtain ⟨M,e1,_⟩:=be4 (j:=1) (off:=1) Tryz.underlying44 ⟨⟨_,rfl,rfl,by kernel_rfl,Tryz.underlying3⟩⟩ h
 obtain ⟨q2,e2⟩:=fx2 (j:=2) (off:=2) Tryz.underlying44 ⟨⟨_,rfl,rfl,by kernel_rfl,Tryz.underlying4⟩⟩ h
 have hl:cs.length=3:=(ft5 Tryz.underlying44 h).trans (by kernel_rfl)
 exact ⟨⟨q0,M,q2⟩,gj2 hl E e1 e2,trivial⟩
theorem own:ownKnob Tryz.prog.godebug=none:=by kernel_rfl
theorem laidOut:laidOutB Tryz.prog=true:=by kernel_rfl
theorem gTab : Tryz.prog.globalNamed "math/bits.deBruijn64tab" = some 0 := by kernel_rfl
theorem tTab:(Tryz.prog.globals[0]?).map (·.type)=some 310:=by kernel_rfl
theorem door_met(os : Os)(args : Array Value) : laidMetH Tryz.prog [("math/bits.deBruijn64tab", Rows.laid_math_bits_deBruijn64tab)] ((World.doorLaid Tryz.prog 400 os).forCall (fun _ _ => 0) ⟨#[], args, []⟩).memory :=
 laidMetH_of_parts3 (fuel:=8) (laidMet_of_run' 8 (by kernel_rfl)<|by kernel_rfl) (by kernel_rfl) (by kernel_rfl)
theorem of_laid{W : World}(h : laidMetH Tryz.prog [("math/bits.deBruijn64tab", Rows.laid_math_bits_deBruijn64tab)] W)(j : Nat)(u : Value)(hu : F3[j]? = some u) : W.cell? ⟨0, j, none⟩ = some u := by
 rw [MakeChecks.laidMetH_plain _ _ _ (by kernel_rfl)] at h
 have hT : Lib.TabIs Tryz.prog W "math/bits.deBruijn64tab" .u8 az3 := Lib.tabIs_of_head (zs := az3) gTab tTab Tryz.underlying310 Tryz.underlying5 (by kernel_rfl) (by kernel_rfl) h
 have hj:j<az3.length:=by
  have:=(List.getElem?_eq_some_iff.1 hu).1
  simpa [F3] using this
 have h1:=hT.cell gTab j hj
 unfold F3 at hu
 rw [List.getElem?_map,List.getElem?_eq_getElem hj] at hu
 rw [h1,←hu,List.getD_eq_getElem?_getD,List.getElem?_eq_getElem hj]
 rfl
theorem tabW{κ : Ctx}{W : World}{I : List Go.Sl.Item}(h : laidMetH Tryz.prog [("math/bits.deBruijn64tab", Rows.laid_math_bits_deBruijn64tab)] W)(hm : old W.heap.size W ∈ I) : P6 κ I 0 F3 := fun w' hs j u hj => cv7 hs hm (of_laid h j u hj)
theorem lifted(os:Os)(started:os.Started)(H:Type)(enc:TypeId×Value->H) :
  ReturnsInHanded {} Tryz.checked os 6 .any (fun w args => (Rows.alertAnswersSpec.pre enc Tryz.prog Tryz.f6 [] false w args ∧ laidMetH Tryz.prog [("math/bits.deBruijn64tab", Rows.laid_math_bits_deBruijn64tab)] w) ∧ sizedMet enc Tryz.prog Tryz.f6 (OpenSpec.ofChange Rows.alertAnswersSpec) false w args) (Rows.alertAnswersSpec.post enc Tryz.prog Tryz.f6 false true false false) := by
 refine returnsInHanded_of_change_and (C := Tryz.checked) (X := fun w _ => laidMetH Tryz.prog [("math/bits.deBruijn64tab", Rows.laid_math_bits_deBruijn64tab)] w) (fun _ _ _ hh h => h.of_heap hh) own started (by kernel_rfl) Tryz.func6
  (ChangeSpec.witness_shaped (enc := enc) (C := Tryz.checked) (os := os) (X := fun w _ => laidMetH Tryz.prog [("math/bits.deBruijn64tab", Rows.laid_math_bits_deBruijn64tab)] w) false (World.doorLaid Tryz.prog 400 os) #[.slice none 0 0, .slice none 0 0, .slice none 0 0, .agg #[.int .i64 0, .int .i64 0, .int .i64 0], .slice none 0 0, .int .i64 0, .int .i64 0] 8 rfl (World.shaped_of_RefB (by kernel_rfl) (by kernel_rfl)) (by kernel_rfl) (by kernel_rfl) (by kernel_rfl) (door_met os _)) ?_
 intro W base args ds gs before hval0 hW hcnd hsz hL _
 have hval:∀(j:Nat) t v,Tryz.f6.params[j]? = some t->args[j]? = some v->Value.okWide Tryz.prog W .any base t v:=hval0
 have hW':=hW
 obtain ⟨p,q,hA0,hV,rfl,hfz,hnd⟩:=hW
 have hA:DataW.TrodAll enc Tryz.prog W 0 (λ_=>true) true Tryz.f6.params.toList args.toList ds p:=hA0
 rw [Tryz.params6] at hA hval
 obtain ⟨v0,vs0,d0,ds0,p0,q0,hargs,rfl,rfl,h0,r0⟩:=trodAll_cons hA
 obtain ⟨v1,vs1,d1,ds1,p1,q1,rfl,rfl,rfl,h1,r1⟩:=trodAll_cons r0
 obtain ⟨v2,vs2,d2,ds2,p2,q2,rfl,rfl,rfl,h2,r2⟩:=trodAll_cons r1
 obtain ⟨v3,vs3,d3,ds3,p3,q3,rfl,rfl,rfl,h3,r3⟩:=trodAll_cons r2
 obtain ⟨v4,vs4,d4,ds4,p4,q4,rfl,rfl,rfl,h4,r4⟩:=trodAll_cons r3
 obtain ⟨v5,vs5,d5,ds5,p5,q5,rfl,rfl,rfl,h5,r5⟩:=trodAll_cons r4
 obtain ⟨v6,vs6,d6,ds6,p6,q6,rfl,rfl,rfl,h6,r6⟩:=trodAll_cons r5
 obtain ⟨rfl,rfl,rfl⟩:=trodAll_nil r6
 obtain rfl:args = #[v0,v1,v2,v3,v4,v5,v6]:=by cases args;simp_all
 obtain ⟨rfl,rfl⟩:=trodVars_none hV
 have k0:=h0
 have lt0:∀x∈p0,x.block<W.heap.size:=by obtain ⟨m,hm⟩:=k0;exact DataW.trod_lt m _ _ _ hm
 have k1:=h1
 have lt1:∀x∈p1,x.block<W.heap.size:=by obtain ⟨m,hm⟩:=k1;exact DataW.trod_lt m _ _ _ hm
 have k2:=h2
 have lt2:∀x∈p2,x.block<W.heap.size:=by obtain ⟨m,hm⟩:=k2;exact DataW.trod_lt m _ _ _ hm
 have k3:=h3
 have lt3:∀x∈p3,x.block<W.heap.size:=by obtain ⟨m,hm⟩:=k3;exact DataW.trod_lt m _ _ _ hm
 have k4:=h4
 have lt4:∀x∈p4,x.block<W.heap.size:=by obtain ⟨m,hm⟩:=k4;exact DataW.trod_lt m _ _ _ hm
 have k5:=h5
 have lt5:∀x∈p5,x.block<W.heap.size:=by obtain ⟨m,hm⟩:=k5;exact DataW.trod_lt m _ _ _ hm
 have k6:=h6
 have lt6:∀x∈p6,x.block<W.heap.size:=by obtain ⟨m,hm⟩:=k6;exact DataW.trod_lt m _ _ _ hm
 obtain ⟨cw0,fuel0,tr0⟩:=bc4 Tryz.underlying22 (hval 0 22 v0 rfl rfl) h0
 obtain ⟨la,lc,ls,rfl,sl_ls,in_ls,ln_ls⟩:=fz0 Tryz.underlying22 Tryz.underlying3 (by kernel_rfl) cw0 tr0 (bg9 hsz (j:=0) rfl rfl)
 obtain ⟨cw1,fuel1,tr1⟩:=bc4 Tryz.underlying33 (hval 1 33 v1 rfl rfl) h1
 obtain ⟨ra,rc,als0,rfl,sl_als0,q_als0⟩:=cx3 (α:=AlV) (λy=>SlW W (.slice y.a y.xs.length y.c) y.xs) Tryz.underlying33 (by kernel_rfl) open_al tr1
 obtain ⟨cw2,fuel2,tr2⟩:=bc4 Tryz.underlying28 (hval 2 28 v2 rfl rfl) h2
 obtain ⟨ea,ec,es0,rfl,sl_es0,in_es0,ln_es0⟩:=fz1 (λf=>(⟨f 0,f 1,f 2,f 3,f 4,f 5,f 6⟩:Ev)) (λ_=>rfl) rfl Tryz.underlying28 Tryz.underlying108 (by kernel_rfl) (by kernel_rfl) (by exact dg4 (by kernel_rfl)) cw2 tr2 (bg9 hsz (j:=2) rfl rfl)
 obtain ⟨l3,rfl,hl3,hf3⟩:=dv0 Tryz.underlying31 (by kernel_rfl) (by kernel_rfl) (by kernel_rfl) (hval 3 31 v3 rfl rfl) h3 (bg9 hsz (j:=3) rfl rfl)
 obtain ⟨u30,n30,y30,e30,c30,t30,w30⟩:=hf3 0 _ rfl
 obtain ⟨kd0,rfl,in_kd0⟩:=dv1 Tryz.underlying3 t30
 obtain ⟨u31,n31,y31,e31,c31,t31,w31⟩:=hf3 1 _ rfl
 obtain ⟨wd0,rfl,in_wd0⟩:=dv1 Tryz.underlying3 t31
 obtain ⟨u32,n32,y32,e32,c32,t32,w32⟩:=hf3 2 _ rfl
 obtain ⟨mo0,rfl,in_mo0⟩:=dv1 Tryz.underlying3 t32
 obtain rfl:=gj2 hl3 e30 e31 e32
 obtain ⟨cw4,fuel4,tr4⟩:=bc4 Tryz.underlying35 (hval 4 35 v4 rfl rfl) h4
 obtain ⟨qa,qc,rs0,rfl,sl_rs0,q_rs0⟩:=cx3 (α:=Rg) (λ_=>True) Tryz.underlying35 (by kernel_rfl) open_rg tr4
 obtain ⟨nodes0,rfl,rfl,rfl,in_nodes0⟩:=open_int Tryz.underlying3 (hval 5 3 v5 rfl rfl) h5
 obtain ⟨n0,rfl,rfl,rfl,in_n0⟩:=open_int Tryz.underlying3 (hval 6 3 v6 rfl rfl) h6
 clear hA0 hval0
 refine (cp7 (P:=Tryz.prog)<|ax9 (sl_ls.sl List.mem_cons_self) (sl_als0.sl List.mem_cons_self) (λx hx=>SlW.sl (q_als0 x hx) List.mem_cons_self) (sl_es0.sl List.mem_cons_self) (sl_rs0.sl List.mem_cons_self) kd0 wd0 mo0 nodes0 n0<|tabW hL List.mem_cons_self).mono λe W' ⟨he,bel⟩=>?_
 subst he
 exact ⟨_,rfl,_,_,_,[],_,[],hW',trodAll_mk1<|shut_bool Tryz.underlying4 _,(trodAll_cons_mk (Below.trod laidOut (by kernel_rfl) (of_decide_eq_true<|by kernel_rfl) k0 bel lt0)<|trodAll_cons_mk (Below.trod laidOut (by kernel_rfl) (of_decide_eq_true<|by kernel_rfl) k1 bel lt1)<|trodAll_cons_mk (Below.trod laidOut (by kernel_rfl) (of_decide_eq_true<|by kernel_rfl) k2 bel lt2)<|trodAll_cons_mk (Below.trod laidOut (by kernel_rfl) (of_decide_eq_true<|by kernel_rfl) k3 bel lt3)<|trodAll_cons_mk (Below.trod laidOut (by kernel_rfl) (of_decide_eq_true<|by kernel_rfl) k4 bel lt4)<|trodAll_cons_mk (Below.trod laidOut (by kernel_rfl) (of_decide_eq_true<|by kernel_rfl) k5 bel lt5)<|trodAll_cons_mk (Below.trod laidOut (by kernel_rfl) (of_decide_eq_true<|by kernel_rfl) k6 bel lt6) trodAll_mk0),rfl,bel.frame _,λh=>by cases h⟩
theorem c10:((Rows.alertAnswersRow.inPlace==Tryz.prog.inPlace 6))=true:=by kernel_rfl
theorem c11:((Rows.alertAnswersRow.unfollowed==Tryz.prog.unfollowed 6))=true:=by kernel_rfl
theorem c12:((Rows.alertAnswersRow.recurses==Tryz.prog.recurses 6))=true:=by kernel_rfl
theorem c13:((Rows.alertAnswersRow.named==Tryz.prog.varsNamed 6))=true:=by kernel_rfl
theorem closed:joinedFacts Tryz.prog 6 Tryz.f6 Rows.alertAnswersSpec Rows.alertAnswersRow=true:=du7 (by kernel_rfl) fact2 fact3 (by kernel_rfl) (by kernel_rfl) (by kernel_rfl) (by kernel_rfl) (by kernel_rfl) (by kernel_rfl) c10 c11 c12 c13 (by kernel_rfl) (by kernel_rfl) (by kernel_rfl) (by kernel_rfl) (by kernel_rfl) (by kernel_rfl) (by kernel_rfl) (by kernel_rfl) (by kernel_rfl) fact23 (by kernel_rfl) fact25 fact26 fact27 fact28 (by kernel_rfl) (by kernel_rfl) (by kernel_rfl) (by kernel_rfl)
theorem over:Rows.alertAnswersRow.holds Tryz.pinned (OpenSpec.ofChange Rows.alertAnswersSpec):=
 OpenClaim.holds_of_wide 6 Tryz.f6 rfl rfl rfl rfl rfl rfl rfl ⟨rfl,rfl,rfl,rfl,rfl⟩ rfl rfl rfl rfl rfl (by kernel_rfl) Tryz.func6 closed
  (of_decide_eq_true<|by kernel_rfl) (by unfold Func.isWrapper;first|(rw [if_pos (by decide+kernel)];kernel_rfl)|(rw [if_neg (by decide+kernel)];exact ⟨rfl,rfl⟩))
  (λos M H enc _=>lifted os M H enc)
end Go.Proofs.YtfkcohmipjhfcaaGreatDoor.alertAnswers
namespace Go.Proofs.YtfkcohmipjhfcaaGreatDoor
theorem alertAnswers_holds:Rows.AlertAnswersSaid:=alertAnswers.over
end Go.Proofs.YtfkcohmipjhfcaaGreatDoor
