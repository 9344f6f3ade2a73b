/- A part of the proofs of statements of this seat: contracts of functions, and the plain laws that they lean on. No conditions. -/
import Derived.Test.YtoagcglbkeomgaaGreatDoorQ22
set_option linter.unusedVariables false
set_option linter.unusedSimpArgs false
set_option linter.unusedSectionVars false
open Go.Proofs.Tryz (prog)
set_option maxHeartbeats 8000000
namespace Go.Sl
open Go.Proofs
set_option maxRecDepth 4000
variable{bd kd mo nd tm wd:Int}{a ea ga na va wa:Option Addr}{b c ec gb gc i n nc wc:Nat}{T:List Item}{l xs ys:List Ev}{M Z aa ab ad ae ah ai aj ak an ao ap aq x0 x1 x2 x3 x4 x5 x6 x7 x8 x9 y0 y1 y2 y3 y4 y5 y6 y7 y8 y9:Value}{es:List Pt}
theorem Step_ok{κ:Ctx}{I:List Item}{lt mr:Int}{wn:Nat}{lv:SlA}{pv:PkV}{X:List Lk}(hH:Has I T)(hl:Sl κ T (.slice lv.a X.length lv.c) X)(hp:PkR κ T nd (edgesK X) pv)(hI:SlI nd kd wd tm X){xe:Ev}(hw:checkW kd wd mo=0)(hx:FitOk nd xe)(bi:0<=tm/\tm<=xe.tm)(hT:TabRd κ I 0 tzCells):eu prog κ 81 [.agg #[e7 kd,e7 wd,e7 mo,e7 bd,e7 lt,e7 mr,.slice wa wn wc,e7 nd,.slice lv.a X.length lv.c,e7 nd,.slice pv.e1.a (edgesK X).length pv.e1.c,.slice pv.n1.a (coreN nd (edgesK X)).length pv.n1.c,e7 nd,.slice pv.e2.a (edgesK X).length pv.e2.c,.slice pv.n2.a (trussG nd (edgesK X)).length pv.n2.c,e7 nd,.slice pv.e3.a (edgesK X).length pv.e3.c,e7 (triS nd (edgesK X) / 3),.slice pv.n3.a (triL nd (edgesK X)).length pv.n3.c,e7 nd,.slice pv.e4.a (edgesK X).length pv.e4.c,e7 (wedgeC nd (edgesK X)),e7 (quadC nd (edgesK X)),.slice pv.n4.a (quadL nd (edgesK X)).length pv.n4.c,e7 tm],.agg #[e7 (xe.kd),e7 (xe.tm),e7 (xe.u),e7 (xe.v),e7 (xe.w),e7 (xe.lb),e7 (xe.sg)]] I (λr J=>∃(lw:SlA) (pw:PkV) (Y:List Item) (a:Option Addr) (c:Nat),r = .tuple #[.agg #[e7 kd,e7 wd,e7 mo,e7 bd,e7 lt,e7 mr,.slice wa wn wc,e7 nd,.slice lw.a ((evStep kd wd mo (X,[]) xe).1).length lw.c,e7 nd,.slice pw.e1.a (edgesK ((evStep kd wd mo (X,[]) xe).1)).length pw.e1.c,.slice pw.n1.a (coreN nd (edgesK ((evStep kd wd mo (X,[]) xe).1))).length pw.n1.c,e7 nd,.slice pw.e2.a (edgesK ((evStep kd wd mo (X,[]) xe).1)).length pw.e2.c,.slice pw.n2.a (trussG nd (edgesK ((evStep kd wd mo (X,[]) xe).1))).length pw.n2.c,e7 nd,.slice pw.e3.a (edgesK ((evStep kd wd mo (X,[]) xe).1)).length pw.e3.c,e7 (triS nd (edgesK ((evStep kd wd mo (X,[]) xe).1)) / 3),.slice pw.n3.a (triL nd (edgesK ((evStep kd wd mo (X,[]) xe).1))).length pw.n3.c,e7 nd,.slice pw.e4.a (edgesK ((evStep kd wd mo (X,[]) xe).1)).length pw.e4.c,e7 (wedgeC nd (edgesK ((evStep kd wd mo (X,[]) xe).1))),e7 (quadC nd (edgesK ((evStep kd wd mo (X,[]) xe).1))),.slice pw.n4.a (quadL nd (edgesK ((evStep kd wd mo (X,[]) xe).1))).length pw.n4.c,e7 (xe.tm)],.slice a (evStep kd wd mo (X,[]) xe).2.length c,e7 0]/\Sl κ (Y++T) (.slice lw.a (evStep kd wd mo (X,[]) xe).1.length lw.c) (evStep kd wd mo (X,[]) xe).1/\PkR κ (Y++T) nd (edgesK (evStep kd wd mo (X,[]) xe).1) pw/\Sl κ (Y++T) (.slice a (evStep kd wd mo (X,[]) xe).2.length c) (evStep kd wd mo (X,[]) xe).2/\J=Y++I):=by
 have be:=hx.tm
 have bn:=edges_le (edgesK_ok hI.val)
 rw [edgesK_len] at bn
 refine Ce2 Tryz.func81 C C ?_
 refine Af<|Ge1 (Bc (cs:=[_,_,_,_,_,_,_,_,_,_,_,_,_,_,_,_,_,_,_,_,_,_,_,_,_]) C C C) λb1=>Ge1 (Bc (cs:=[_,_,_,_,_,_,_]) C C C) λb2=>Ge1 (A2 ty47 C) λb3=>Ga C<|Ga C<|Ad<|Ap<|Af<|Gl7 ty54 ?_
 refine Gc0 (Aj c_ C C<|CheckE_ok xe) ?_
 refine Ga C<|Ad<|Af<|Gm C<|Gr (Bn C C)<|Ad<|A8 C (λbg=>?_)<|λbg=>?_
 ·exact absurd hx.chk bg
 refine Aw<|Ah<|Ap<|Af<|Gr (A5 (vs:=[_,_,_,_,_,_,_,_,_,_,_,_,_,_,_,_,_,_,_,_,_,_,_,_,_]) ty47) ?_
 refine Gl7 ty54 ?_
 refine Gc0 (Aj c_ C C<|NodeK_ok (nd:=nd) (e:=xe) hx) ?_
 refine Gr (Cr C)<|Ad<|Am (S4 22 4 3 2 C C C C)<|Dw C<|Aw<|Ah<|Ap<|Af<|Gf fld54_1 C<|Gl ef ?_
 refine Gf fld47_7 C<|Gl ef ?_
 refine Gr (Bb C C)<|Ad<|A8 C (λbr=>?_)<|λbr=>?_
 ·omega
 refine Aw<|Ah<|Af<|Ga C<|Ad<|Af<|Ga C<|Ad<|Ap<|Af<|Gr (A5 (vs:=[_,_,_,_,_,_,_,_,_,_,_,_,_,_,_,_,_,_,_,_,_,_,_,_,_]) ty47) ?_
 refine Gf fld54_1 C<|Gl ef ?_
 refine G.e (Aj c_ C C<|Old_ok (Bv hl<|Ce (κ:=κ)<|by repeat (first|exact hH|exact Bu _|apply Bt|apply Ci|apply B0)) hI.val hw om) ?_
 rintro _ _ ⟨_,_,⟨bk,bm,rfl,rfl⟩,rfl,rfl⟩
 refine Ga C<|Ad<|Am (S5 10 8 4 3 2 C C C C C)<|A0<|B1 (σ:=(List Lk)×SlA×PkV×(List Item)×(Option Addr)×Nat×(Option Addr)×Nat×(List Ev)) (λs=>([(2,.pointer<|some ⟨b1,0,none⟩),(3,.pointer<|some ⟨b2,0,none⟩),(4,.pointer<|some ⟨b3,0,none⟩),(8,.slice s.2.2.2.2.2.2.1 s.2.2.2.2.2.2.2.2.length s.2.2.2.2.2.2.2.1),(10,.slice s.2.2.2.2.1 (oldL kd wd mo xe.tm s.1).length s.2.2.2.2.2.1)]:Env)) (λs=>vc 54 (.slice s.2.2.2.2.2.2.1 s.2.2.2.2.2.2.2.2.length s.2.2.2.2.2.2.2.1) (s.2.2.2.2.2.2.2.2)::vc 54 (.slice s.2.2.2.2.1 (oldL kd wd mo xe.tm s.1).length s.2.2.2.2.2.1) (oldL kd wd mo xe.tm s.1)::e8 b3 [e7 0,e7 0,e7 0,e7 0,e7 0,e7 0,.slice none 0 0,e7 0,.slice none 0 0,e7 0,.slice none 0 0,.slice none 0 0,e7 0,.slice none 0 0,.slice none 0 0,e7 0,.slice none 0 0,e7 0,.slice none 0 0,e7 0,.slice none 0 0,e7 0,e7 0,.slice none 0 0,e7 0] 47::e8 b2 [e7 (xe.kd),e7<|xe.tm,e7<|xe.u,e7<|xe.v,e7<|xe.w,e7<|xe.lb,e7<|xe.sg] 54::e8 b1 [e7 kd,e7 wd,e7 mo,e7 bd,e7 lt,e7 mr,.slice wa wn wc,e7 nd,.slice s.2.1.a s.1.length s.2.1.c,e7 nd,.slice s.2.2.1.e1.a (edgesK s.1).length s.2.2.1.e1.c,.slice s.2.2.1.n1.a (coreN nd<|edgesK s.1).length s.2.2.1.n1.c,e7 nd,.slice s.2.2.1.e2.a (edgesK s.1).length s.2.2.1.e2.c,.slice s.2.2.1.n2.a (trussG nd<|edgesK s.1).length s.2.2.1.n2.c,e7 nd,.slice s.2.2.1.e3.a (edgesK s.1).length s.2.2.1.e3.c,e7<|triS nd (edgesK s.1) / 3,.slice s.2.2.1.n3.a (triL nd<|edgesK s.1).length s.2.2.1.n3.c,e7 nd,.slice s.2.2.1.e4.a (edgesK s.1).length s.2.2.1.e4.c,e7<|wedgeC nd<|edgesK s.1,e7<|quadC nd<|edgesK s.1,.slice s.2.2.1.n4.a (quadL nd<|edgesK s.1).length s.2.2.1.n4.c,e7 tm] 47::(s.2.2.2.1++I)) (λs=>(agedL kd wd mo xe.tm (X,[])=agedL kd wd mo xe.tm (s.1,s.2.2.2.2.2.2.2.2))/\(checkS nd s.1=0)/\(Sl κ (s.2.2.2.1++T) (.slice s.2.1.a s.1.length s.2.1.c) s.1)/\(PkR κ (s.2.2.2.1++T) nd (edgesK s.1) s.2.2.1)/\(s.2.2.2.2.2.2.2.2.length+s.1.length<=X.length)) (λs=>s.1.length) (X,lv,pv,[],bk,bm,none,0,[]) ⟨rfl,hI.val,hl,hp,(by simp)⟩ (Aa C<|Aa C<|Aa C<|Aa (Dd C<|by first|rfl|simp)<|Aa (Dd C<|by first|rfl|simp) Bl) (Cv (show Fit κ _ _ from Bm)<|Cm (α:=Ev) _ _) ?_
 rintro ⟨X1,lw,pw,Y,ca,cc,oa,oc,o⟩ hp
 dsimp only at hp ⊢
 obtain ⟨a7,ai,bc,bb,bv⟩:=hp
 have bt:=oldL_len kd wd mo xe.tm X1
 refine Ap<|Af<|Gm C<|Gr (Bj Ar C)<|Gr (Ck C C)<|Ad<|A8 C (λbj=>?_)<|λbj=>?_
 ·refine Aw (Ah<|Ap<|A0<|Af<|Gm C ?_)
  have an:=old_step (o:=o) ai hw be.2 om
  refine Gm C<|Ge2 (Cp (α:=Ev) (e:=54) (xs:=o) (ys:=oldL kd wd mo xe.tm X1) Ar ty54 C C C mm Bh olp dc C<|λ_ _=>am) λa0 ay=>?_
  refine Ga C<|Ad<|Af<|Gr (A5 (vs:=[_,_,_,_,_,_,_,_,_,_,_,_,_,_,_,_,_,_,_,_,_,_,_,_,_]) ty47) ?_
  refine Gm C<|G.e (Aj c_ C C<|Happen_ok (T:=(Y++T)) (X:=X1) (evs:=oldL kd wd mo xe.tm X1) (by repeat (first|exact hH|exact Bu _|apply Bt|apply Ci|apply B0)) bc bb ai Bh an.2.2.2.1 (by first|omega|(simp only [List.length_cons,List.length_nil];omega))<|Bg hT Av) ?_
  rintro _ _ ⟨_,_,⟨bp,bo,Y10,rfl,ao,az,rfl⟩,rfl,rfl⟩
  refine D9 (J:=vc 54 (.slice a0 (o++(oldL kd wd mo xe.tm X1)).length ay) (o++(oldL kd wd mo xe.tm X1))::vc 54 (.slice ca (oldL kd wd mo xe.tm X1).length cc) (oldL kd wd mo xe.tm X1)::e8 b3 [e7 0,e7 0,e7 0,e7 0,e7 0,e7 0,.slice none 0 0,e7 0,.slice none 0 0,e7 0,.slice none 0 0,.slice none 0 0,e7 0,.slice none 0 0,.slice none 0 0,e7 0,.slice none 0 0,e7 0,.slice none 0 0,e7 0,.slice none 0 0,e7 0,e7 0,.slice none 0 0,e7 0] 47::e8 b2 [e7 (xe.kd),e7<|xe.tm,e7<|xe.u,e7<|xe.v,e7<|xe.w,e7<|xe.lb,e7<|xe.sg] 54::e8 b1 [e7 kd,e7 wd,e7 mo,e7 bd,e7 lt,e7 mr,.slice wa wn wc,e7 nd,.slice lw.a X1.length lw.c,e7 nd,.slice pw.e1.a (edgesK X1).length pw.e1.c,.slice pw.n1.a (coreN nd<|edgesK X1).length pw.n1.c,e7 nd,.slice pw.e2.a (edgesK X1).length pw.e2.c,.slice pw.n2.a (trussG nd<|edgesK X1).length pw.n2.c,e7 nd,.slice pw.e3.a (edgesK X1).length pw.e3.c,e7<|triS nd (edgesK X1) / 3,.slice pw.n3.a (triL nd<|edgesK X1).length pw.n3.c,e7 nd,.slice pw.e4.a (edgesK X1).length pw.e4.c,e7<|wedgeC nd<|edgesK X1,e7<|quadC nd<|edgesK X1,.slice pw.n4.a (quadL nd<|edgesK X1).length pw.n4.c,e7 tm] 47::(Y10++(Y++I))) (Cw<|C6 (A:=Y10) (L:=[vc 54 (.slice a0 (o++(oldL kd wd mo xe.tm X1)).length ay) (o++(oldL kd wd mo xe.tm X1)),vc 54 (.slice ca (oldL kd wd mo xe.tm X1).length cc)<|oldL kd wd mo xe.tm X1,e8 b3 [e7 0,e7 0,e7 0,e7 0,e7 0,e7 0,.slice none 0 0,e7 0,.slice none 0 0,e7 0,.slice none 0 0,.slice none 0 0,e7 0,.slice none 0 0,.slice none 0 0,e7 0,.slice none 0 0,e7 0,.slice none 0 0,e7 0,.slice none 0 0,e7 0,e7 0,.slice none 0 0,e7 0] 47,e8 b2 [e7 (xe.kd),e7<|xe.tm,e7<|xe.u,e7<|xe.v,e7<|xe.w,e7<|xe.lb,e7<|xe.sg] 54,e8 b1 [e7 kd,e7 wd,e7 mo,e7 bd,e7 lt,e7 mr,.slice wa wn wc,e7 nd,.slice lw.a X1.length lw.c,e7 nd,.slice pw.e1.a (edgesK X1).length pw.e1.c,.slice pw.n1.a (coreN nd<|edgesK X1).length pw.n1.c,e7 nd,.slice pw.e2.a (edgesK X1).length pw.e2.c,.slice pw.n2.a (trussG nd<|edgesK X1).length pw.n2.c,e7 nd,.slice pw.e3.a (edgesK X1).length pw.e3.c,e7<|triS nd (edgesK X1) / 3,.slice pw.n3.a (triL nd<|edgesK X1).length pw.n3.c,e7 nd,.slice pw.e4.a (edgesK X1).length pw.e4.c,e7<|wedgeC nd<|edgesK X1,e7<|quadC nd<|edgesK X1,.slice pw.n4.a (quadL nd<|edgesK X1).length pw.n4.c,e7 tm] 47]) (T:=(Y++I))) ?_
  refine Gm C<|Gr (Ak C C)<|Gr (Ak C C)<|Ge0 (B6 (cs:=[_,_,_,_,_,_,_,_,_,_,_,_,_,_,_,_,_,_,_,_,_,_,_,_,_]) (vs:=[_,_,_,_,_,_,_,_,_,_,_,_,_,_,_,_,_,_,_,_,_,_,_,_,_]) (cs':=[_,_,_,_,_,_,_,_,_,_,_,_,_,_,_,_,_,_,_,_,_,_,_,_,_]) ty47) ?_
  refine Ga C<|Ad<|Am (S5 9 8 2 3 4 C C C C C)<|Af<|Gm C<|Gr (Bn C C)<|Ad<|A8 C (λbf=>?_)<|λbf=>?_
  ·exact absurd bf dc
  refine Aw<|Al<|Ah<|Au<|Gr (A5 (vs:=[_,_,_,_,_,_,_,_,_,_,_,_,_,_,_,_,_,_,_,_,_,_,_,_,_]) ty47) ?_
  refine Gf fld54_1 C<|Gl ef ?_
  refine G.e (Aj c_ C C<|Old_ok (Bv ao<|Ce (κ:=κ)<|by repeat (first|exact hH|exact Bu _|apply Bt|apply Ci|apply B0)) an.2.2.1 hw om) ?_
  rintro _ _ ⟨_,_,⟨a5,ba,rfl,rfl⟩,rfl,rfl⟩
  exact Ga C<|Bo<|Cf (((List.foldl ep X1<|oldL kd wd mo xe.tm X1)),(bp),(bo),((Y10++Y)),(a5),(ba),(a0),(ay),(o++(oldL kd wd mo xe.tm X1))) (by dsimp only;exact ⟨(a7.trans an.1),an.2.2.1,(by rw [List.append_assoc];exact ao),(by rw [List.append_assoc];exact az),(by have h9:=an.2.2.2.2;omega)⟩) (hlt:=by (try dsimp only);exact an.2.1) (hI:=by (try dsimp only);exact (by rw [List.append_assoc];exact Bm))
 refine Bx<|Ao<|Ao<|A9<|Ah<|Af<|Gm C ?_
 have aq:=a7.trans (old_end om)
 refine Gl7 ty54 ?_
 refine Ge1 (Co (α:=Ev) (cs:=[e7 (xe.kd),e7<|xe.tm,e7<|xe.u,e7<|xe.v,e7<|xe.w,e7<|xe.lb,e7<|xe.sg]) (xs:=[⟨xe.kd,xe.tm,xe.u,xe.v,xe.w,xe.lb,xe.sg⟩]) Ar ty54 C C dc dc C kr C C) λae=>?_
 refine Ge2 (Cp (α:=Ev) (e:=54) (xs:=o) (ys:=([xe]:List Ev)) Ar ty54 C C C mm Bh olp dc C<|λ_ _=>am) λaa M=>?_
 refine Ga C<|Ad<|Ap<|Af<|Gr (A5 (vs:=[_,_,_,_,_,_,_,_,_,_,_,_,_,_,_,_,_,_,_,_,_,_,_,_,_]) ty47) ?_
 refine Gl7 ty54 ?_
 refine Ge1 (Co (α:=Ev) (cs:=[e7 (xe.kd),e7<|xe.tm,e7<|xe.u,e7<|xe.v,e7<|xe.w,e7<|xe.lb,e7<|xe.sg]) (xs:=[⟨xe.kd,xe.tm,xe.u,xe.v,xe.w,xe.lb,xe.sg⟩]) Ar ty54 C C dc dc C kr C C) λad=>?_
 refine G.e (Aj c_ C C<|Happen_ok (T:=(Y++T)) (X:=X1) (evs:=([xe]:List Ev)) (by repeat (first|exact hH|exact Bu _|apply Bt|apply Ci|apply B0)) bc bb ai Bh (λq hq=>(List.mem_singleton.1 hq)▸hx) (by first|omega|(simp only [List.length_cons,List.length_nil];omega))<|Bg hT Av) ?_
 rintro _ _ ⟨_,_,⟨ab,Z,Y19,rfl,ak,ap,rfl⟩,rfl,rfl⟩
 refine D9 (J:=vc 54 (.slice ad 1 1) (([xe]:List Ev))::vc 54 (.slice ae 1 1) (([xe]:List Ev))::vc 54 (.slice aa (o++([xe]:List Ev)).length M) (o++([xe]:List Ev))::vc 54 (.slice ca (oldL kd wd mo xe.tm X1).length cc) (oldL kd wd mo xe.tm X1)::e8 b3 [e7 0,e7 0,e7 0,e7 0,e7 0,e7 0,.slice none 0 0,e7 0,.slice none 0 0,e7 0,.slice none 0 0,.slice none 0 0,e7 0,.slice none 0 0,.slice none 0 0,e7 0,.slice none 0 0,e7 0,.slice none 0 0,e7 0,.slice none 0 0,e7 0,e7 0,.slice none 0 0,e7 0] 47::e8 b2 [e7 (xe.kd),e7<|xe.tm,e7<|xe.u,e7<|xe.v,e7<|xe.w,e7<|xe.lb,e7<|xe.sg] 54::e8 b1 [e7 kd,e7 wd,e7 mo,e7 bd,e7 lt,e7 mr,.slice wa wn wc,e7 nd,.slice lw.a X1.length lw.c,e7 nd,.slice pw.e1.a (edgesK X1).length pw.e1.c,.slice pw.n1.a (coreN nd<|edgesK X1).length pw.n1.c,e7 nd,.slice pw.e2.a (edgesK X1).length pw.e2.c,.slice pw.n2.a (trussG nd<|edgesK X1).length pw.n2.c,e7 nd,.slice pw.e3.a (edgesK X1).length pw.e3.c,e7<|triS nd (edgesK X1) / 3,.slice pw.n3.a (triL nd<|edgesK X1).length pw.n3.c,e7 nd,.slice pw.e4.a (edgesK X1).length pw.e4.c,e7<|wedgeC nd<|edgesK X1,e7<|quadC nd<|edgesK X1,.slice pw.n4.a (quadL nd<|edgesK X1).length pw.n4.c,e7 tm] 47::(Y19++(Y++I))) (Cw<|C6 (A:=Y19) (L:=[vc 54 (.slice ad 1 1) (([xe]:List Ev)),vc 54 (.slice ae 1 1)<|([xe]:List Ev),vc 54 (.slice aa (o++([xe]:List Ev)).length M)<|o++([xe]:List Ev),vc 54 (.slice ca (oldL kd wd mo xe.tm X1).length cc)<|oldL kd wd mo xe.tm X1,e8 b3 [e7 0,e7 0,e7 0,e7 0,e7 0,e7 0,.slice none 0 0,e7 0,.slice none 0 0,e7 0,.slice none 0 0,.slice none 0 0,e7 0,.slice none 0 0,.slice none 0 0,e7 0,.slice none 0 0,e7 0,.slice none 0 0,e7 0,.slice none 0 0,e7 0,e7 0,.slice none 0 0,e7 0] 47,e8 b2 [e7 (xe.kd),e7<|xe.tm,e7<|xe.u,e7<|xe.v,e7<|xe.w,e7<|xe.lb,e7<|xe.sg] 54,e8 b1 [e7 kd,e7 wd,e7 mo,e7 bd,e7 lt,e7 mr,.slice wa wn wc,e7 nd,.slice lw.a X1.length lw.c,e7 nd,.slice pw.e1.a (edgesK X1).length pw.e1.c,.slice pw.n1.a (coreN nd<|edgesK X1).length pw.n1.c,e7 nd,.slice pw.e2.a (edgesK X1).length pw.e2.c,.slice pw.n2.a (trussG nd<|edgesK X1).length pw.n2.c,e7 nd,.slice pw.e3.a (edgesK X1).length pw.e3.c,e7<|triS nd (edgesK X1) / 3,.slice pw.n3.a (triL nd<|edgesK X1).length pw.n3.c,e7 nd,.slice pw.e4.a (edgesK X1).length pw.e4.c,e7<|wedgeC nd<|edgesK X1,e7<|quadC nd<|edgesK X1,.slice pw.n4.a (quadL nd<|edgesK X1).length pw.n4.c,e7 tm] 47]) (T:=(Y++I))) ?_
 show G prog κ _ _ _ _ ([(62,.tuple #[.agg #[e7 kd,e7 wd,e7 mo,e7 bd,e7 lt,e7 mr,.slice wa wn wc,e7 nd,.slice ab.a (ep X1 xe).length ab.c,e7 nd,.slice Z.e1.a (edgesK<|ep X1 xe).length Z.e1.c,.slice Z.n1.a (coreN nd<|edgesK<|ep X1 xe).length Z.n1.c,e7 nd,.slice Z.e2.a (edgesK<|ep X1 xe).length Z.e2.c,.slice Z.n2.a (trussG nd<|edgesK<|ep X1 xe).length Z.n2.c,e7 nd,.slice Z.e3.a (edgesK<|ep X1 xe).length Z.e3.c,e7<|triS nd (edgesK<|ep X1 xe) / 3,.slice Z.n3.a (triL nd<|edgesK<|ep X1 xe).length Z.n3.c,e7 nd,.slice Z.e4.a (edgesK<|ep X1 xe).length Z.e4.c,e7<|wedgeC nd<|edgesK<|ep X1 xe,e7<|quadC nd<|edgesK<|ep X1 xe,.slice Z.n4.a (quadL nd<|edgesK<|ep X1 xe).length Z.n4.c,e7 tm],e7 0]),(61,.slice ad 1 1),(60,.agg #[e7 (xe.kd),e7<|xe.tm,e7<|xe.u,e7<|xe.v,e7<|xe.w,e7<|xe.lb,e7<|xe.sg]),(59,.agg #[e7 kd,e7 wd,e7 mo,e7 bd,e7 lt,e7 mr,.slice wa wn wc,e7 nd,.slice lw.a X1.length lw.c,e7 nd,.slice pw.e1.a (edgesK X1).length pw.e1.c,.slice pw.n1.a (coreN nd<|edgesK X1).length pw.n1.c,e7 nd,.slice pw.e2.a (edgesK X1).length pw.e2.c,.slice pw.n2.a (trussG nd<|edgesK X1).length pw.n2.c,e7 nd,.slice pw.e3.a (edgesK X1).length pw.e3.c,e7<|triS nd (edgesK X1) / 3,.slice pw.n3.a (triL nd<|edgesK X1).length pw.n3.c,e7 nd,.slice pw.e4.a (edgesK X1).length pw.e4.c,e7<|wedgeC nd<|edgesK X1,e7<|quadC nd<|edgesK X1,.slice pw.n4.a (quadL nd<|edgesK X1).length pw.n4.c,e7 tm]),(8,.slice aa (o++([xe]:List Ev)).length M),(57,.slice aa (o++([xe]:List Ev)).length M),(56,.slice ae 1 1),(55,.agg #[e7 (xe.kd),e7<|xe.tm,e7<|xe.u,e7<|xe.v,e7<|xe.w,e7<|xe.lb,e7<|xe.sg]),(54,.slice oa o.length oc),(36,.bool<|decide<|0<(((oldL kd wd mo xe.tm X1).length:Nat):Int)),(35,e7<|(((oldL kd wd mo xe.tm X1).length:Nat):Int)),(34,.slice ca (oldL kd wd mo xe.tm X1).length cc),(2,.pointer<|some ⟨b1,0,none⟩),(3,.pointer<|some ⟨b2,0,none⟩),(4,.pointer<|some ⟨b3,0,none⟩),(8,.slice oa o.length oc),(10,.slice ca (oldL kd wd mo xe.tm X1).length cc)]:Env) (vc 54 (.slice ad 1 1) (([xe]:List Ev))::vc 54 (.slice ae 1 1) (([xe]:List Ev))::vc 54 (.slice aa (o++([xe]:List Ev)).length M) (o++([xe]:List Ev))::vc 54 (.slice ca (oldL kd wd mo xe.tm X1).length cc) (oldL kd wd mo xe.tm X1)::e8 b3 [e7 0,e7 0,e7 0,e7 0,e7 0,e7 0,.slice none 0 0,e7 0,.slice none 0 0,e7 0,.slice none 0 0,.slice none 0 0,e7 0,.slice none 0 0,.slice none 0 0,e7 0,.slice none 0 0,e7 0,.slice none 0 0,e7 0,.slice none 0 0,e7 0,e7 0,.slice none 0 0,e7 0] 47::e8 b2 [e7 (xe.kd),e7<|xe.tm,e7<|xe.u,e7<|xe.v,e7<|xe.w,e7<|xe.lb,e7<|xe.sg] 54::e8 b1 [e7 kd,e7 wd,e7 mo,e7 bd,e7 lt,e7 mr,.slice wa wn wc,e7 nd,.slice lw.a X1.length lw.c,e7 nd,.slice pw.e1.a (edgesK X1).length pw.e1.c,.slice pw.n1.a (coreN nd<|edgesK X1).length pw.n1.c,e7 nd,.slice pw.e2.a (edgesK X1).length pw.e2.c,.slice pw.n2.a (trussG nd<|edgesK X1).length pw.n2.c,e7 nd,.slice pw.e3.a (edgesK X1).length pw.e3.c,e7<|triS nd (edgesK X1) / 3,.slice pw.n3.a (triL nd<|edgesK X1).length pw.n3.c,e7 nd,.slice pw.e4.a (edgesK X1).length pw.e4.c,e7<|wedgeC nd<|edgesK X1,e7<|quadC nd<|edgesK X1,.slice pw.n4.a (quadL nd<|edgesK X1).length pw.n4.c,e7 tm] 47::(Y19++(Y++I)))
 refine Gm C<|Gr (Ak C C)<|Gr (Ak C C)<|Ge0 (B6 (cs:=[_,_,_,_,_,_,_,_,_,_,_,_,_,_,_,_,_,_,_,_,_,_,_,_,_]) (vs:=[_,_,_,_,_,_,_,_,_,_,_,_,_,_,_,_,_,_,_,_,_,_,_,_,_]) (cs':=[_,_,_,_,_,_,_,_,_,_,_,_,_,_,_,_,_,_,_,_,_,_,_,_,_]) ty47) ?_
 refine Ga C<|Ad<|Am (S5 9 8 2 3 4 C C C C C)<|Af<|Gm C<|Gr (Bn C C)<|Ad<|A8 C (λa3=>?_)<|λa3=>?_
 ·exact absurd a3 dc
 refine Aw<|Ah<|Ap<|Af<|Gf fld54_1 C<|Gl ef ?_
 refine Gf fld47_7 C<|Ge0 (B6 (cs:=[_,_,_,_,_,_,_,_,_,_,_,_,_,_,_,_,_,_,_,_,_,_,_,_,_]) (vs:=[_]) (cs':=[_,_,_,_,_,_,_,_,_,_,_,_,_,_,_,_,_,_,_,_,_,_,_,_,_]) ef) ?_
 refine Ad<|Af<|Gf fld47_0 C<|Gf fld29_0 C<|Gl ef ?_
 have a9:=edges_le (edgesK_ok<|stepL_val ai hx)
 rw [edgesK_len] at a9
 refine Gr (Bs C C)<|Ad<|Am (S5 75 8 2 3 4 C C C C C)<|A8 C (λa1=>?_)<|λa1=>?_
 ·refine Af (Gf fld47_2 C<|Gl2 ty35 ?_)
  refine Gf fld47_0 C<|Gl3 ty29 ?_
  refine Gf fld54_1 C<|Gl ef ?_
  have a8:=ask_zero hw (stepL_val ai hx) be (by have bq:=aged_tm hI.tm hI.val (show ¬kd=2 by omega) aq;subst bq;exact step_tm hI.tm bi.2)
  refine Gc2 (Aj c_ C C<|Expired_yes (Bv ak<|Ce (κ:=κ)<|by repeat (first|exact hH|exact Bu _|apply Bt|apply Ci|apply B0)) om a8) λau ar=>?_
  refine Gm C<|Gr (Ak C C)<|Gr (Ak C C)<|Ga C<|Ga C<|Ad<|Am (S5 12 11 8 2 4 C C C C C)<|Ap<|Af<|Gm C<|Gr (Bn C C)<|Ad<|A8 C (λa4=>?_)<|λa4=>?_
  ·exact absurd a4 dc
  refine Aw<|Ah<|Af<|Gm C ?_
  have bu:=gone_len kd wd mo xe.tm (ep X1 xe)
  refine Gm C<|Ge2 (Cp (α:=Ev) (e:=54) (xs:=o++([xe]:List Ev)) (ys:=goneL kd wd mo xe.tm (ep X1 xe)) Ar ty54 C C C mm Bh olp dc C<|λ_ _=>am) λaj ah=>?_
  refine Ga C<|Ad<|Af<|Gr (A5 (vs:=[_,_,_,_,_,_,_,_,_,_,_,_,_,_,_,_,_,_,_,_,_,_,_,_,_]) ty47) ?_
  refine Gm C<|G.e (Aj c_ C C<|Happen_ok (T:=(Y19++(Y++T))) (X:=(ep X1 xe)) (evs:=goneL kd wd mo xe.tm (ep X1 xe)) (by repeat (first|exact hH|exact Bu _|apply Bt|apply Ci|apply B0)) ak ap (stepL_val ai hx) Bh (gone_fit (stepL_val ai hx) hx.tm) (by first|omega|(simp only [List.length_cons,List.length_nil];omega))<|Bg hT Av) ?_
  rintro _ _ ⟨_,_,⟨a6,bh,Y26,rfl,ax,aw,rfl⟩,rfl,rfl⟩
  refine D9 (J:=vc 54 (.slice au (goneL kd wd mo xe.tm<|ep X1 xe).length ar) (goneL kd wd mo xe.tm<|ep X1 xe)::vc 54 (.slice ad 1 1) (([xe]:List Ev))::vc 54 (.slice ae 1 1) (([xe]:List Ev))::vc 54 (.slice aj ((o++([xe]:List Ev))++(goneL kd wd mo xe.tm<|ep X1 xe)).length ah) ((o++([xe]:List Ev))++(goneL kd wd mo xe.tm<|ep X1 xe))::vc 54 (.slice ca (oldL kd wd mo xe.tm X1).length cc) (oldL kd wd mo xe.tm X1)::e8 b3 [e7 0,e7 0,e7 0,e7 0,e7 0,e7 0,.slice none 0 0,e7 0,.slice none 0 0,e7 0,.slice none 0 0,.slice none 0 0,e7 0,.slice none 0 0,.slice none 0 0,e7 0,.slice none 0 0,e7 0,.slice none 0 0,e7 0,.slice none 0 0,e7 0,e7 0,.slice none 0 0,e7 0] 47::e8 b2 [e7 (xe.kd),e7<|xe.tm,e7<|xe.u,e7<|xe.v,e7<|xe.w,e7<|xe.lb,e7<|xe.sg] 54::e8 b1 [e7 kd,e7 wd,e7 mo,e7 bd,e7 lt,e7 mr,.slice wa wn wc,e7 nd,.slice ab.a (ep X1 xe).length ab.c,e7 nd,.slice Z.e1.a (edgesK<|ep X1 xe).length Z.e1.c,.slice Z.n1.a (coreN nd<|edgesK<|ep X1 xe).length Z.n1.c,e7 nd,.slice Z.e2.a (edgesK<|ep X1 xe).length Z.e2.c,.slice Z.n2.a (trussG nd<|edgesK<|ep X1 xe).length Z.n2.c,e7 nd,.slice Z.e3.a (edgesK<|ep X1 xe).length Z.e3.c,e7<|triS nd (edgesK<|ep X1 xe) / 3,.slice Z.n3.a (triL nd<|edgesK<|ep X1 xe).length Z.n3.c,e7 nd,.slice Z.e4.a (edgesK<|ep X1 xe).length Z.e4.c,e7<|wedgeC nd<|edgesK<|ep X1 xe,e7<|quadC nd<|edgesK<|ep X1 xe,.slice Z.n4.a (quadL nd<|edgesK<|ep X1 xe).length Z.n4.c,e7<|xe.tm] 47::(Y26++(Y19++(Y++I)))) (Cw<|C6 (A:=Y26) (L:=[vc 54 (.slice au (goneL kd wd mo xe.tm<|ep X1 xe).length ar) (goneL kd wd mo xe.tm<|ep X1 xe),vc 54 (.slice ad 1 1)<|([xe]:List Ev),vc 54 (.slice ae 1 1)<|([xe]:List Ev),vc 54 (.slice aj ((o++([xe]:List Ev))++(goneL kd wd mo xe.tm<|ep X1 xe)).length ah)<|(o++([xe]:List Ev))++(goneL kd wd mo xe.tm<|ep X1 xe),vc 54 (.slice ca (oldL kd wd mo xe.tm X1).length cc)<|oldL kd wd mo xe.tm X1,e8 b3 [e7 0,e7 0,e7 0,e7 0,e7 0,e7 0,.slice none 0 0,e7 0,.slice none 0 0,e7 0,.slice none 0 0,.slice none 0 0,e7 0,.slice none 0 0,.slice none 0 0,e7 0,.slice none 0 0,e7 0,.slice none 0 0,e7 0,.slice none 0 0,e7 0,e7 0,.slice none 0 0,e7 0] 47,e8 b2 [e7 (xe.kd),e7<|xe.tm,e7<|xe.u,e7<|xe.v,e7<|xe.w,e7<|xe.lb,e7<|xe.sg] 54,e8 b1 [e7 kd,e7 wd,e7 mo,e7 bd,e7 lt,e7 mr,.slice wa wn wc,e7 nd,.slice ab.a (ep X1 xe).length ab.c,e7 nd,.slice Z.e1.a (edgesK<|ep X1 xe).length Z.e1.c,.slice Z.n1.a (coreN nd<|edgesK<|ep X1 xe).length Z.n1.c,e7 nd,.slice Z.e2.a (edgesK<|ep X1 xe).length Z.e2.c,.slice Z.n2.a (trussG nd<|edgesK<|ep X1 xe).length Z.n2.c,e7 nd,.slice Z.e3.a (edgesK<|ep X1 xe).length Z.e3.c,e7<|triS nd (edgesK<|ep X1 xe) / 3,.slice Z.n3.a (triL nd<|edgesK<|ep X1 xe).length Z.n3.c,e7 nd,.slice Z.e4.a (edgesK<|ep X1 xe).length Z.e4.c,e7<|wedgeC nd<|edgesK<|ep X1 xe,e7<|quadC nd<|edgesK<|ep X1 xe,.slice Z.n4.a (quadL nd<|edgesK<|ep X1 xe).length Z.n4.c,e7<|xe.tm] 47]) (T:=(Y19++(Y++I)))) ?_
  refine Gm C<|Gr (Ak C C)<|Gr (Ak C C)<|Ge0 (B6 (cs:=[_,_,_,_,_,_,_,_,_,_,_,_,_,_,_,_,_,_,_,_,_,_,_,_,_]) (vs:=[_,_,_,_,_,_,_,_,_,_,_,_,_,_,_,_,_,_,_,_,_,_,_,_,_]) (cs':=[_,_,_,_,_,_,_,_,_,_,_,_,_,_,_,_,_,_,_,_,_,_,_,_,_]) ty47) ?_
  refine Ga C<|Ad<|Am (S4 12 8 2 4 C C C C)<|Af<|Gm C<|Gr (Bn C C)<|Ad<|A8 C (λav=>?_)<|λav=>?_
  ·exact absurd av dc
  refine Aw<|Ah<|Af<|Gr (A5 (vs:=[_,_,_,_,_,_,_,_,_,_,_,_,_,_,_,_,_,_,_,_,_,_,_,_,_]) ty47) ?_
  refine Gm C<|Ge0 (B6 (cs:=[_,_,_,_,_,_,_,_,_,_,_,_,_,_,_,_,_,_,_,_,_,_,_,_,_]) (vs:=[_,_,_,_,_,_,_,_,_,_,_,_,_,_,_,_,_,_,_,_,_,_,_,_,_]) (cs':=[_,_,_,_,_,_,_,_,_,_,_,_,_,_,_,_,_,_,_,_,_,_,_,_,_]) ty47) ?_
  refine Ga C<|Ga C<|Ad<|Ay ?_
  have hR:=step_end3 (nd:=nd) aq a1 (stepL_val ai hx)
  rw [hR]
  exact C4 C ty47 C C C mm C (((vc 54 (.slice aj ((o++([xe]:List Ev))++(goneL kd wd mo xe.tm<|ep X1 xe)).length ah) ((o++([xe]:List Ev))++(goneL kd wd mo xe.tm<|ep X1 xe))::(Y26++(Y19++Y)))++I)) (by simp only [List.cons_append,List.append_assoc];exact Bm) ⟨a6,bh,(vc 54 (.slice aj ((o++([xe]:List Ev))++(goneL kd wd mo xe.tm<|ep X1 xe)).length ah) ((o++([xe]:List Ev))++(goneL kd wd mo xe.tm<|ep X1 xe))::(Y26++(Y19++Y))),aj,ah,rfl,(by simp only [List.cons_append,List.append_assoc];exact Bv ax<|Fit.tail<|E0 _),(by simp only [List.cons_append,List.append_assoc];exact PkR.fit aw<|Fit.tail<|E0 _),C8<|List.mem_append_left _ List.mem_cons_self,rfl⟩
 refine Aw<|Ah<|Af<|Gr (A5 (vs:=[_,_,_,_,_,_,_,_,_,_,_,_,_,_,_,_,_,_,_,_,_,_,_,_,_]) ty47) ?_
 refine Gm C<|Ge0 (B6 (cs:=[_,_,_,_,_,_,_,_,_,_,_,_,_,_,_,_,_,_,_,_,_,_,_,_,_]) (vs:=[_,_,_,_,_,_,_,_,_,_,_,_,_,_,_,_,_,_,_,_,_,_,_,_,_]) (cs':=[_,_,_,_,_,_,_,_,_,_,_,_,_,_,_,_,_,_,_,_,_,_,_,_,_]) ty47) ?_
 refine Ga C<|Ga C<|Ad<|Ay ?_
 have hR:=step_end aq a1
 rw [hR]
 exact C4 C ty47 C C C mm C (((vc 54 (.slice aa (o++([xe]:List Ev)).length M) (o++([xe]:List Ev))::(Y19++Y))++I)) (by simp only [List.cons_append,List.append_assoc];exact Bm) ⟨ab,Z,(vc 54 (.slice aa (o++([xe]:List Ev)).length M) (o++([xe]:List Ev))::(Y19++Y)),aa,M,rfl,(by simp only [List.cons_append,List.append_assoc];exact Bv ak<|Fit.tail<|E0 _),(by simp only [List.cons_append,List.append_assoc];exact PkR.fit ap<|Fit.tail<|E0 _),C8<|List.mem_append_left _ List.mem_cons_self,rfl⟩
variable {κ:Ctx}{I:List Item}
theorem ov138:∀Z w,(callFunc 138 Z).run prog w=((Extern.SlicesOverlaps.overlaps #[30,30] #[4] Z).run prog w).andThen λv w'=> .ok (.value v) w':=λZ w=>run_callFunc_extern (e:=Extern.SlicesOverlaps.overlaps #[30,30] #[4]) Tryz.func138 kr kr kr kr Z w
theorem InsertV_ok{ae:Nat}(hi:i<=xs.length)(hy:0<ys.length)(ap:xs.length+ys.length<=1000000000):eu prog κ 94 [.slice a xs.length c,e7 ((i:Int)),.slice va ys.length ae] (vc 54 (.slice a xs.length c) (xs)::vc 54 (.slice va ys.length ae) (ys)::I) (λr J=>∃a' c',r = .slice a' (List.take i xs++ys++List.drop i xs).length c'/\J=vc 54 (.slice a' (List.take i xs++ys++List.drop i xs).length c') (List.take i xs++ys++List.drop i xs)::I):=by
 refine B9 (vc.cap List.mem_cons_self) λao=>?_
 have aa:(List.take i xs++ys++List.drop i xs).length=xs.length+ys.length:=by simp only [List.length_append,List.length_take,List.length_drop];omega
 refine Ce3 Tryz.func94 C C ?_
 refine Af<|Ga C<|Ad<|Af<|Gm C<|Gm C<|Gr (Es (α:=Ev) (xs:=xs) (l:=i) Ar ty54 C C om Bh lat)<|Ad<|Af<|Gm C<|Gr (Bj Ar C)<|Ga C<|Ad<|Ap<|Af<|Gm C<|Gr (Bs C C)<|Ad<|A8 C (λad=>?_)<|λad=>?_
 ·exact absurd ad om
 refine Aw<|Ah<|Af<|Gm C<|Gr (Bj Ar C)<|Ga C<|Ad<|Am (S5 8 7 0 1 2 C C C C C)<|Ap<|Af<|Gm C<|Gm C<|Gr (Bs C C)<|Ad<|A8 C (λaj=>?_)<|λaj=>?_
 ·refine Af (Gm C<|Gm C<|Ge2 (Cp (α:=Ev) (e:=54) (xs:=xs) (ys:=ys) Ar ty54 C C C mm Bh om dc C<|λ_ _=>am) λM ah=>?_)
  refine Ga C<|Ad<|Ay<|Aq ?_
  have hR:List.take i xs++ys++List.drop i xs=xs++ys:=by rw [List.take_of_length_le om,List.drop_eq_nil_of_le om,List.append_nil]
  exact A1 C C (vc 54 (.slice M (List.take i xs++ys++List.drop i xs).length ah) (List.take i xs++ys++List.drop i xs)::I) (by rw [hR];exact Bm) ⟨M,ah,by rw [hR],rfl⟩
 refine Aw<|Ah<|Ap<|Af<|Gm C<|Gm C<|Gr (Rad C C)<|Gm C<|Gr (Runs.caps Ar C)<|Gr (Ck C C)<|Ad<|Am (S6 31 8 7 0 1 2 C C C C C C)<|A8 C (λak=>?_)<|λak=>?_
 ·refine Af (Gm C<|Gm C<|Gr (Eu (h:=i) Ar ty54 C C om om)<|Gm C<|Gm C<|Gr (Rad C C)<|Gm C<|Gr (Rsu C C)<|Ge2 (Eff.grow (α:=Ev) (xs:=xs) (k:=xs.length+ys.length - i) Ar Cb ty54 C C C om Bh om om om om dc C) λab Z=>?_)
  refine Ga C<|G.pull (p:=(List.take i xs++List.replicate (xs.length+ys.length - i) (default:Ev)).length<=Z) (vc.cap mm) λan=>?_
  have aq:(List.take i xs++List.replicate (xs.length+ys.length - i) (default:Ev)).length=xs.length+ys.length:=by simp only [List.length_append,List.length_take,List.length_replicate];omega
  refine Ad<|Am (S5 9 7 0 1 2 C C C C C)<|Af<|Gm C<|Gm C<|Gr (Es (α:=Ev) (xs:=List.take i xs++List.replicate (xs.length+ys.length - i) (default:Ev)) (l:=i) Ar ty54 C C om Bh lat)<|Gm C<|Ge0 (Fa (α:=Ev) (k:=i) (q:=ys.length) (R:=List.take i xs++ys++List.replicate (xs.length - i) (default:Ev)) (n:=(i+(xs.length+ys.length - i))) Ar ty54 C lat C Bh lat lat C (ins1 hi) lat am) ?_
  refine Ad<|Ap<|Bq mixed<|Cc I 9<|Dr 0 C (Ai C)<|Dr 1 C (Ai C)<|Dr 2 C (Ai C)<|Dr 3 C (Rad C C)<|Dr 4 C (Cz (l:=(i+ys.length)) Ar ty54 C C om om om)<|Dr 5 C (Ai C)<|Dr 6 C (Ai C)<|Dr 7 C (Cz (l:=i) Ar ty54 C C om om om)<|Ds1 8<|Se0 C (Fa (α:=Ev) (k:=(i+ys.length)) (q:=(xs.length - i)) (R:=List.take i xs++ys++List.drop i xs) (n:=(i+(xs.length+ys.length - i))) Ar ty54 C lat C (Sl.dropn (C8 (xs:=xs) mm) om om) lat lat C (ins2 hi) lat am) ?_
  exact Dz<|Ah<|Am (S1 9 C)<|Af<|Gm C<|Ga C<|Ad<|Ay<|Aq<|A1 C C (vc 54 (.slice ab (List.take i xs++ys++List.drop i xs).length Z) (List.take i xs++ys++List.drop i xs)::I) (by rw [show (List.take i xs++ys++List.drop i xs).length=i+(xs.length+ys.length - i) by omega];exact Bm) ⟨ab,Z,by rw [show (List.take i xs++ys++List.drop i xs).length=i+(xs.length+ys.length - i) by omega],rfl⟩
 refine Aw<|Ah<|Af<|Gm C<|Gm C<|Gm C<|Gr (Rad C C)<|Gr (Eu (h:=xs.length+ys.length) Ar ty54 C C om om)<|Ga C<|G.room (h:=xs.length+ys.length) (by repeat (first|exact AtF.head _ _|apply AtF.tail)) C om om<|λjs ai=>?_
 refine Ad<|Ap<|Af<|Gm C<|Gm C<|Gm C<|Gm C<|Gr (Rad C C)<|Gr (Cz (l:=(i+ys.length)) Ar ty54 C C om om om)<|Ge0 (Eff.overlaps (k:=i+ys.length) ov138 Ar ty54 C C om om om (Fit.sp<|Sp.pick (Pick.tail _<|Pick.head _ _)<|Sp.refl _) (Nat.mul_pos om Enc.pos) C) ?_
 refine Gr (Cr C)<|Ad<|Am (S6 68 0 8 7 1 2 C C C C C C)<|Dp C<|Ap<|Bq mixed<|Cc I 9<|Dr 0 C (Ai C)<|Dr 1 C (Ai C)<|Dr 2 C (Ai C)<|Dr 3 C (Rad C C)<|Dr 4 C (Cz (l:=(i+ys.length)) Ar ty54 C C om om om)<|Dr 5 C (Ai C)<|Dr 6 C (Ai C)<|Dr 7 C (Cz (l:=i) Ar ty54 C C om om om)<|Ds1 8<|Se0 C (Eff.copyR (sz:=Enc.sz Ev) (n:=xs.length+ys.length) (cs:=(cells xs++js)) (k:=(i+ys.length)) (q:=(xs.length - i)) Ar ty54 C om C (SlRd.dropR (SlRd.vec mm) om) om om (ins_one hi) C am) ?_
 refine Dz<|Ah<|Am (S3 0 1 2 C C C)<|Af<|Gm C<|Gm C<|Gr (Cz (l:=i) Ar ty54 C C om om om)<|Gm C<|Ge0 (Eff.copyR (sz:=Enc.sz Ev) (n:=xs.length+ys.length) (cs:=(List.take ((i+ys.length)*Enc.sz Ev) (cells xs++js)++List.take ((xs.length - i)*Enc.sz Ev) (List.drop (i*Enc.sz Ev)<|cells xs++js)++List.drop ((i+ys.length)*Enc.sz Ev+(xs.length - i)*Enc.sz Ev) (cells xs++js))) (k:=i) (q:=ys.length) Ar ty54 C om C (C8 (e:=54) (xs:=ys) mm) om om (λu hu=>cells_one ys u<|List.mem_of_mem_take hu) C am) ?_
 refine Ad<|Af<|Gm C<|Ga C<|Ad<|Ay<|Aq ?_
 have hC:(List.take (i*Enc.sz Ev) (List.take ((i+ys.length)*Enc.sz Ev) (cells xs++js)++List.take ((xs.length - i)*Enc.sz Ev) (List.drop (i*Enc.sz Ev)<|cells xs++js)++List.drop ((i+ys.length)*Enc.sz Ev+(xs.length - i)*Enc.sz Ev) (cells xs++js))++List.take (ys.length*Enc.sz Ev) (cells ys)++List.drop (i*Enc.sz Ev+ys.length*Enc.sz Ev) (List.take ((i+ys.length)*Enc.sz Ev) (cells xs++js)++List.take ((xs.length - i)*Enc.sz Ev) (List.drop (i*Enc.sz Ev)<|cells xs++js)++List.drop ((i+ys.length)*Enc.sz Ev+(xs.length - i)*Enc.sz Ev) (cells xs++js)))=cells (List.take i xs++ys++List.drop i xs):=ins_cells hi ai
 exact A1 C C (vc 54 (.slice a (List.take i xs++ys++List.drop i xs).length c) (List.take i xs++ys++List.drop i xs)::I) (by rw [hC];show Fit κ _ (vec 54 _ (.slice a (List.take i xs++ys++List.drop i xs).length c) (List.take i xs++ys++List.drop i xs).length (cells<|List.take i xs++ys++List.drop i xs)::I);rw [aa];exact Bm) ⟨a,c,by rw [aa],rfl⟩
theorem InsertV_two{m Z:Nat}{K:List Item}(hf:Fit κ I (vc 54 (.slice a n c) xs::vc 54 (.slice va m Z) ys::K))(hn:n=xs.length)(hm:m=ys.length)(hi:i<=xs.length)(hy:0<ys.length)(M:xs.length+ys.length<=1000000000):eu prog κ 94 [.slice a n c,e7 (i:Int),.slice va m Z] I (λr J=>∃a' c',r = .slice a' (List.take i xs++ys++List.drop i xs).length c'/\J=vc 54 (.slice a' (List.take i xs++ys++List.drop i xs).length c') (List.take i xs++ys++List.drop i xs)::K):=by
 subst hn hm
 exact Cn hf<|InsertV_ok hi hy M
theorem place_step{e:Ev}(M:0<i)(h:e.tm<(e_ l ((i:Int) - 1)).tm)(Z:placeG evC l e n=placeG evC l e i):placeG evC l e n=placeG evC l e (i - 1):=by
 rw [Z]
 obtain ⟨m,rfl⟩:∃m,i=m+1:=⟨i - 1,by omega⟩
 have e1:(((m+1:Nat):Int) - 1)=(m:Int):=by omega
 rw [e1] at h
 show (if evC e (e_ l m)<0 then placeG evC l e m else m+1)=_
 rw [if_pos (by unfold evC;rw [if_pos h];decide)]
 rfl
theorem place_stop{e:Ev}(h:0<i->¬e.tm<(e_ l ((i:Int) - 1)).tm)(M:placeG evC l e n=placeG evC l e i):placeG evC l e n=i:=by
 rw [M]
 cases i with
 |zero=>rfl
 |succ m=>
  have Z:=h om
  have e1:(((m+1:Nat):Int) - 1)=(m:Int):=by omega
  rw [e1] at Z
  show (if evC e (e_ l m)<0 then placeG evC l e m else m+1)=_
  rw [if_neg]
  unfold evC
  rw [if_neg Z]
  split<;>decide
theorem push_eq{bf:BfS}{e:Ev}(h:placeG evC bf.ws e bf.ws.length=i):List.take i bf.ws++[e]++List.drop i bf.ws=pushW bf e:=by
 unfold pushW insertG insG
 rw [h];simp
theorem BPush_ok{e:Ev}{bf:BfS}(hH:Has I T)(hl:Sl κ T (.slice wa bf.ws.length wc) bf.ws)(hB:BfOk bd bf)(hw:bf.ws.length<=4096)(he:checkE e=0)(ht:bf.mr<e.tm)(hT:0<=e.tm/\e.tm<=1048576)(bn:bf.ws.length<4096):eu prog κ 47 [.agg #[e7 bd,e7 (bf.lt),e7 (bf.mr),.slice wa bf.ws.length wc],.agg #[e7 (e.kd),e7 (e.tm),e7 (e.u),e7 (e.v),e7 (e.w),e7 (e.lb),e7 (e.sg)]] I (λr J=>∃(a:Option Addr) (c:Nat) (a2:Option Addr) (c2:Nat) (Y:List Item),r = .tuple #[.agg #[e7 bd,e7 (bf.push bd e).lt,e7 (bf.push bd e).mr,.slice a (bf.push bd e).ws.length c],.slice a2 ((bf.out bd e)).length c2,e7 0]/\Sl κ (Y++T) (.slice a (bf.push bd e).ws.length c) (bf.push bd e).ws/\Sl κ (Y++T) (.slice a2 ((bf.out bd e)).length c2) (bf.out bd e)/\J=Y++I):=by
 have bw:=hB.bd
 have br:=hB.lt
 have bx:=hB.mr
 refine Ce2 Tryz.func47 C C ?_
 refine Af<|Ge1 (Bc (cs:=[_,_,_,_]) C C C) λb1=>Ge1 (Bc (cs:=[_,_,_,_,_,_,_]) C C C) λb2=>Ge1 (A2 ty32 C) λb3=>Ga C<|Ga C<|Ad<|Af<|Gl7 ty54 ?_
 refine Gc0 (Aj c_ C C<|CheckE_ok e) ?_
 refine Ga C<|Ad<|Ap<|A0<|Af<|Gl4 ty32 ?_
 refine G.e (Aj c_ C C<|BValid_ok (bd:=bd) (bf:=bf) (Bv (Bv hl hH.fit) Av) hB om) ?_
 rintro _ _ ⟨_,_,⟨rfl,rfl⟩,rfl,rfl⟩
 refine Gr (Cr C)<|Ga C<|Ad<|Am (S5 13 7 4 3 2 C C C C C)<|Dw C<|Af<|Gm C<|Gr (Bn C C)<|Ga C<|Ad<|A8 C (λa4=>?_)<|λa4=>?_
 ·exact absurd he a4
 refine Af<|Gf fld54_1 C<|Gl ef ?_
 refine Gf fld32_2 C<|Gl ef ?_
 refine Gr (E3 C C)<|Ga C<|Ad<|Am (S4 25 4 3 2 C C C C)<|A8 C (λa9=>?_)<|λa9=>?_
 ·omega
 refine Af<|Gf fld32_3 C<|Gl ty30 ?_
 refine Gr (Bj Ar C)<|Gr (Bs C C)<|Ga C<|Ad<|A8 C (λba=>?_)<|λba=>?_
 ·omega
 refine Aw<|Al<|Ah<|Af<|Gf fld32_3 C<|Gl ty30 ?_
 refine Gr (Bj Ar C)<|Ga C<|Ad<|Ap<|A0<|B1 (σ:=Nat) (λs=>([(2,.pointer<|some ⟨b1,0,none⟩),(3,.pointer<|some ⟨b2,0,none⟩),(4,.pointer<|some ⟨b3,0,none⟩),(8,e7 ((s:Nat):Int))]:Env)) (λs=>e8 b3 [e7 0,e7 0,e7 0,.slice none 0 0] 32::e8 b2 [e7 (e.kd),e7<|e.tm,e7<|e.u,e7<|e.v,e7<|e.w,e7<|e.lb,e7<|e.sg] 54::e8 b1 [e7 bd,e7<|bf.lt,e7<|bf.mr,.slice wa bf.ws.length wc] 32::I) (λs=>(s<=bf.ws.length)/\(placeG evC bf.ws e bf.ws.length=placeG evC bf.ws e s)) (λs=>s) (bf.ws.length) ⟨om,rfl⟩ (Aa C<|Aa C<|Aa C<|Aa Cd Bl) Bf ?_
 rintro i hp
 obtain ⟨hi,hj⟩:=hp
 refine Ap<|Ap<|Bq mixed<|Ee 14<|Dr 0 C (Ai C)<|Dr 1 C (Ck C C)<|Dr 2 C (Ai C)<|Ey (d:=45) C (λa8=>?_)<|λa8=>?_
 ·refine Dro 3 C (Ac fld32_3 C) (Dro 4 C (A7 ty30) ?_)
  refine Dro 5 C (Ai C)<|Dro 6 C (Rsu C C)<|Dro 7 C (Az (α:=Ev) (xs:=bf.ws) Ar ty54 C C (Bv (Bv hl hH.fit) Av) om om)<|Dro 8 C (Runs.fld (α:=Ev) (xs:=bf.ws) fld54_1 C (Bv (Bv hl hH.fit) Av) om)<|Dro 9 C (Runs.getf (α:=Ev) (xs:=bf.ws) (u:=e7 ((e_ bf.ws<|(i:Int) - 1).tm)) ef C (Bv (Bv hl hH.fit) Av) om om C)<|Dro 10 C (Ac fld54_1 C)<|Dro 11 C (A7 ef) ?_
  refine Dro 12 C (Ck C C)<|Dr 13 C (A3 C C)<|Dz<|Ah<|Am (S5 56 2 3 4 8 C C C C C)<|A8 C (λaa=>?_)<|λaa=>?_
  ·exact Aw<|Ah<|A0<|Au<|Gm C<|Gr (Rsu C C)<|Ga C<|Bo<|Al<|Cf ((i - 1)) ⟨om,(place_step om aa hj)⟩
  refine Bx<|Ao<|Ao<|A9<|Ah<|Ap<|Bq mixed<|Ee 8<|Dr 0 C (Ac fld32_3 C)<|Dr 1 C (A7 ty30) ?_
  refine Dr 3 C (Ai C)<|Dr 4 C (A5 (vs:=[_,_,_,_,_,_,_]) ty54) ?_
  refine Dl (rs:=[2,5]) kr C C<|Ez ?_<|Ed ?_
  ·refine Sc2 C (Aj c_ C C<|CloneV (xs:=bf.ws) (Bv (Bv hl hH.fit) Av) om) λbo bq=>?_
   refine Ds1 5<|Se1 C (Co (α:=Ev) (cs:=[e7 (e.kd),e7<|e.tm,e7<|e.u,e7<|e.v,e7<|e.w,e7<|e.lb,e7<|e.sg]) (xs:=[⟨e.kd,e.tm,e.u,e.v,e.w,e.lb,e.sg⟩]) Ar ty54 C C dc dc C kr C C) λbv=>?_
   refine Ds1 6<|Sc2 C (Aj c_ C C<|InsertV_two (i:=i) (xs:=bf.ws) (ys:=([⟨e.kd,e.tm,e.u,e.v,e.w,e.lb,e.sg⟩]:List Ev)) Bm om C om (by simp only [List.length_cons];omega) lcn) λa0 a1=>?_
   have M:List.take i bf.ws++([⟨e.kd,e.tm,e.u,e.v,e.w,e.lb,e.sg⟩]:List Ev)++List.drop i bf.ws=pushW bf e:=push_eq (place_stop (by intro h;first|omega|exact aa) hj)
   rw [M]
   refine Dr 7 C (Ac fld32_3 C)<|Ct kr ?_
   refine Ae 8 C (B6 (cs:=[_,_,_,_]) (vs:=[_]) (cs':=[_,_,_,_]) ty30) ?_
   rintro _ _ ⟨rfl,rfl⟩
   refine Cu kr ?_
   refine Ah<|Af<|Gf fld32_1 C<|Gl ef ?_
   refine Gf fld54_1 C<|Gl ef ?_
   refine Gr (Do C C)<|Gf fld32_1 C<|Ge0 (B6 (cs:=[_,_,_,_]) (vs:=[_]) (cs':=[_,_,_,_]) ef) ?_
   refine Ad<|Am (S2 2 4 C C)<|Af<|Gl4 ty32 ?_
   refine Gf fld32_1 C<|Gl ef ?_
   refine Gf fld32_0 C<|Gl ef ?_
   refine Gr (Rsu C C)<|Gr (Rsu C C) ?_
   have Z:((if bf.lt<e.tm then e.tm else bf.lt) - bd) - 1=relM bd bf e:=by unfold relM;rw [ifmax]
   rw [Z]
   refine G.e (Aj c_ C C<|BRel_ok (bd:=bd) (lt:=if bf.lt<e.tm then e.tm else bf.lt) (mr:=bf.mr) (m:=(relM bd bf e)) Bh hB.asc'<|by rw [push_len];omega) ?_
   rintro _ _ ⟨_,_,⟨ax,an,a6,rfl,ay,rfl⟩,rfl,rfl⟩
   refine Gm C<|Gr (Ak C C)<|Gr (Ak C C)<|Ge1 (A2 ty32 C) λbp=>Ge0 (Dk ty32) ?_
   refine Ga C<|Ad<|Am (S3 10 9 4 C C C)<|Af<|Gl4 ty32 ?_
   refine Gm C<|Ge0 (Dk ty32) ?_
   exact Ga C<|Ga C<|Ad<|Ay<|C4 C ty32 C C C mm C (vc 54 (.slice ax (beyond (relM bd bf e)<|pushW bf e).length an) (beyond (relM bd bf e)<|pushW bf e)::vc 54 (.slice a0 (pushW bf e).length a1) (pushW bf e)::I) Bm ⟨ax,an,a0,a6,[vc 54 (.slice ax (beyond (relM bd bf e)<|pushW bf e).length an) (beyond (relM bd bf e)<|pushW bf e),vc 54 (.slice a0 (pushW bf e).length a1)<|pushW bf e],(by rw [ifmax];rfl),C8 mm,(Sl.upTo Bh ay),rfl⟩
  refine Se1 C (Co (α:=Ev) (cs:=[e7 (e.kd),e7<|e.tm,e7<|e.u,e7<|e.v,e7<|e.w,e7<|e.lb,e7<|e.sg]) (xs:=[⟨e.kd,e.tm,e.u,e.v,e.w,e.lb,e.sg⟩]) Ar ty54 C C dc dc C kr C C) λbk=>?_
  refine Ds1 2<|Sc2 C (Aj c_ C C<|CloneV (xs:=bf.ws) (Bv (Bv hl hH.fit) Av) om) λbi bg=>?_
  refine Ds1 6<|Sc2 C (Aj c_ C C<|InsertV_two (i:=i) (xs:=bf.ws) (ys:=([⟨e.kd,e.tm,e.u,e.v,e.w,e.lb,e.sg⟩]:List Ev)) Bm om C om (by simp only [List.length_cons];omega) lcn) λap au=>?_
  have M:List.take i bf.ws++([⟨e.kd,e.tm,e.u,e.v,e.w,e.lb,e.sg⟩]:List Ev)++List.drop i bf.ws=pushW bf e:=push_eq (place_stop (by intro h;first|omega|exact aa) hj)
  rw [M]
  refine Dr 7 C (Ac fld32_3 C)<|Ct kr ?_
  refine Ae 8 C (B6 (cs:=[_,_,_,_]) (vs:=[_]) (cs':=[_,_,_,_]) ty30) ?_
  rintro _ _ ⟨rfl,rfl⟩
  refine Cu kr ?_
  refine Ah<|Af<|Gf fld32_1 C<|Gl ef ?_
  refine Gf fld54_1 C<|Gl ef ?_
  refine Gr (Do C C)<|Gf fld32_1 C<|Ge0 (B6 (cs:=[_,_,_,_]) (vs:=[_]) (cs':=[_,_,_,_]) ef) ?_
  refine Ad<|Am (S2 2 4 C C)<|Af<|Gl4 ty32 ?_
  refine Gf fld32_1 C<|Gl ef ?_
  refine Gf fld32_0 C<|Gl ef ?_
  refine Gr (Rsu C C)<|Gr (Rsu C C) ?_
  have Z:((if bf.lt<e.tm then e.tm else bf.lt) - bd) - 1=relM bd bf e:=by unfold relM;rw [ifmax]
  rw [Z]
  refine G.e (Aj c_ C C<|BRel_ok (bd:=bd) (lt:=if bf.lt<e.tm then e.tm else bf.lt) (mr:=bf.mr) (m:=(relM bd bf e)) Bh hB.asc'<|by rw [push_len];omega) ?_
  rintro _ _ ⟨_,_,⟨ai,ad,a5,rfl,aw,rfl⟩,rfl,rfl⟩
  refine Gm C<|Gr (Ak C C)<|Gr (Ak C C)<|Ge1 (A2 ty32 C) λbu=>Ge0 (Dk ty32) ?_
  refine Ga C<|Ad<|Am (S3 10 9 4 C C C)<|Af<|Gl4 ty32 ?_
  refine Gm C<|Ge0 (Dk ty32) ?_
  exact Ga C<|Ga C<|Ad<|Ay<|C4 C ty32 C C C mm C (vc 54 (.slice ai (beyond (relM bd bf e)<|pushW bf e).length ad) (beyond (relM bd bf e)<|pushW bf e)::vc 54 (.slice ap (pushW bf e).length au) (pushW bf e)::I) Bm ⟨ai,ad,ap,a5,[vc 54 (.slice ai (beyond (relM bd bf e)<|pushW bf e).length ad) (beyond (relM bd bf e)<|pushW bf e),vc 54 (.slice ap (pushW bf e).length au)<|pushW bf e],(by rw [ifmax];rfl),C8 mm,(Sl.upTo Bh aw),rfl⟩
 refine Dpo 3 C<|Dpo 4 C<|Dpo 5 C<|Dpo 6 C<|Dpo 7 C<|Dpo 8 C<|Dpo 9 C<|Dpo 10 C<|Dpo 11 C<|Dpo 12 C<|Dr 13 C (Bd C C)<|Dz<|Ah<|Am (S5 56 2 3 4 8 C C C C C)<|Dw C<|Bx<|Ao<|Ao<|A9<|Ah<|Ap<|Bq mixed<|Ee 8<|Dr 0 C (Ac fld32_3 C)<|Dr 1 C (A7 ty30) ?_
 refine Dr 3 C (Ai C)<|Dr 4 C (A5 (vs:=[_,_,_,_,_,_,_]) ty54) ?_
 refine Dl (rs:=[2,5]) kr C C<|Ez ?_<|Ed ?_
 ·refine Sc2 C (Aj c_ C C<|CloneV (xs:=bf.ws) (Bv (Bv hl hH.fit) Av) om) λbm bc=>?_
  refine Ds1 5<|Se1 C (Co (α:=Ev) (cs:=[e7 (e.kd),e7<|e.tm,e7<|e.u,e7<|e.v,e7<|e.w,e7<|e.lb,e7<|e.sg]) (xs:=[⟨e.kd,e.tm,e.u,e.v,e.w,e.lb,e.sg⟩]) Ar ty54 C C dc dc C kr C C) λbe=>?_
  refine Ds1 6<|Sc2 C (Aj c_ C C<|InsertV_two (i:=i) (xs:=bf.ws) (ys:=([⟨e.kd,e.tm,e.u,e.v,e.w,e.lb,e.sg⟩]:List Ev)) Bm om C om (by simp only [List.length_cons];omega) lcn) λak aq=>?_
  have M:List.take i bf.ws++([⟨e.kd,e.tm,e.u,e.v,e.w,e.lb,e.sg⟩]:List Ev)++List.drop i bf.ws=pushW bf e:=push_eq (place_stop (by intro h;first|omega|exact aa) hj)
  rw [M]
  refine Dr 7 C (Ac fld32_3 C)<|Ct kr ?_
  refine Ae 8 C (B6 (cs:=[_,_,_,_]) (vs:=[_]) (cs':=[_,_,_,_]) ty30) ?_
  rintro _ _ ⟨rfl,rfl⟩
  refine Cu kr ?_
  refine Ah<|Af<|Gf fld32_1 C<|Gl ef ?_
  refine Gf fld54_1 C<|Gl ef ?_
  refine Gr (Do C C)<|Gf fld32_1 C<|Ge0 (B6 (cs:=[_,_,_,_]) (vs:=[_]) (cs':=[_,_,_,_]) ef) ?_
  refine Ad<|Am (S2 2 4 C C)<|Af<|Gl4 ty32 ?_
  refine Gf fld32_1 C<|Gl ef ?_
  refine Gf fld32_0 C<|Gl ef ?_
  refine Gr (Rsu C C)<|Gr (Rsu C C) ?_
  have Z:((if bf.lt<e.tm then e.tm else bf.lt) - bd) - 1=relM bd bf e:=by unfold relM;rw [ifmax]
  rw [Z]
  refine G.e (Aj c_ C C<|BRel_ok (bd:=bd) (lt:=if bf.lt<e.tm then e.tm else bf.lt) (mr:=bf.mr) (m:=(relM bd bf e)) Bh hB.asc'<|by rw [push_len];omega) ?_
  rintro _ _ ⟨_,_,⟨ab,ao,a3,rfl,av,rfl⟩,rfl,rfl⟩
  refine Gm C<|Gr (Ak C C)<|Gr (Ak C C)<|Ge1 (A2 ty32 C) λbz=>Ge0 (Dk ty32) ?_
  refine Ga C<|Ad<|Am (S3 10 9 4 C C C)<|Af<|Gl4 ty32 ?_
  refine Gm C<|Ge0 (Dk ty32) ?_
  exact Ga C<|Ga C<|Ad<|Ay<|C4 C ty32 C C C mm C (vc 54 (.slice ab (beyond (relM bd bf e)<|pushW bf e).length ao) (beyond (relM bd bf e)<|pushW bf e)::vc 54 (.slice ak (pushW bf e).length aq) (pushW bf e)::I) Bm ⟨ab,ao,ak,a3,[vc 54 (.slice ab (beyond (relM bd bf e)<|pushW bf e).length ao) (beyond (relM bd bf e)<|pushW bf e),vc 54 (.slice ak (pushW bf e).length aq)<|pushW bf e],(by rw [ifmax];rfl),C8 mm,(Sl.upTo Bh av),rfl⟩
 refine Se1 C (Co (α:=Ev) (cs:=[e7 (e.kd),e7<|e.tm,e7<|e.u,e7<|e.v,e7<|e.w,e7<|e.lb,e7<|e.sg]) (xs:=[⟨e.kd,e.tm,e.u,e.v,e.w,e.lb,e.sg⟩]) Ar ty54 C C dc dc C kr C C) λbj=>?_
 refine Ds1 2<|Sc2 C (Aj c_ C C<|CloneV (xs:=bf.ws) (Bv (Bv hl hH.fit) Av) om) λbb bh=>?_
 refine Ds1 6<|Sc2 C (Aj c_ C C<|InsertV_two (i:=i) (xs:=bf.ws) (ys:=([⟨e.kd,e.tm,e.u,e.v,e.w,e.lb,e.sg⟩]:List Ev)) Bm om C om (by simp only [List.length_cons];omega) lcn) λah ar=>?_
 have M:List.take i bf.ws++([⟨e.kd,e.tm,e.u,e.v,e.w,e.lb,e.sg⟩]:List Ev)++List.drop i bf.ws=pushW bf e:=push_eq (place_stop (by intro h;first|omega|exact aa) hj)
 rw [M]
 refine Dr 7 C (Ac fld32_3 C)<|Ct kr ?_
 refine Ae 8 C (B6 (cs:=[_,_,_,_]) (vs:=[_]) (cs':=[_,_,_,_]) ty30) ?_
 rintro _ _ ⟨rfl,rfl⟩
 refine Cu kr ?_
 refine Ah<|Af<|Gf fld32_1 C<|Gl ef ?_
 refine Gf fld54_1 C<|Gl ef ?_
 refine Gr (Do C C)<|Gf fld32_1 C<|Ge0 (B6 (cs:=[_,_,_,_]) (vs:=[_]) (cs':=[_,_,_,_]) ef) ?_
 refine Ad<|Am (S2 2 4 C C)<|Af<|Gl4 ty32 ?_
 refine Gf fld32_1 C<|Gl ef ?_
 refine Gf fld32_0 C<|Gl ef ?_
 refine Gr (Rsu C C)<|Gr (Rsu C C) ?_
 have Z:((if bf.lt<e.tm then e.tm else bf.lt) - bd) - 1=relM bd bf e:=by unfold relM;rw [ifmax]
 rw [Z]
 refine G.e (Aj c_ C C<|BRel_ok (bd:=bd) (lt:=if bf.lt<e.tm then e.tm else bf.lt) (mr:=bf.mr) (m:=(relM bd bf e)) Bh hB.asc'<|by rw [push_len];omega) ?_
 rintro _ _ ⟨_,_,⟨ae,aj,a7,rfl,az,rfl⟩,rfl,rfl⟩
 refine Gm C<|Gr (Ak C C)<|Gr (Ak C C)<|Ge1 (A2 ty32 C) λbt=>Ge0 (Dk ty32) ?_
 refine Ga C<|Ad<|Am (S3 10 9 4 C C C)<|Af<|Gl4 ty32 ?_
 refine Gm C<|Ge0 (Dk ty32) ?_
 exact Ga C<|Ga C<|Ad<|Ay<|C4 C ty32 C C C mm C (vc 54 (.slice ae (beyond (relM bd bf e)<|pushW bf e).length aj) (beyond (relM bd bf e)<|pushW bf e)::vc 54 (.slice ah (pushW bf e).length ar) (pushW bf e)::I) Bm ⟨ae,aj,ah,a7,[vc 54 (.slice ae (beyond (relM bd bf e)<|pushW bf e).length aj) (beyond (relM bd bf e)<|pushW bf e),vc 54 (.slice ah (pushW bf e).length ar)<|pushW bf e],(by rw [ifmax];rfl),C8 mm,(Sl.upTo Bh az),rfl⟩
variable {κ:Ctx}{I:List Item}
theorem BCopied_ok{bf:BfS}(hl:Sl κ I (.slice wa bf.ws.length wc) bf.ws)(hw:bf.ws.length<=4096):eu prog κ 93 [.agg #[e7 bd,e7 (bf.lt),e7 (bf.mr),.slice wa bf.ws.length wc]] I (λr J=>∃(a:Option Addr) (c:Nat),r = .agg #[e7 bd,e7 bf.lt,e7 bf.mr,.slice a bf.ws.length c]/\J=vc 54 (.slice a bf.ws.length c) bf.ws::I):=by
 refine Ce1 Tryz.func93 C C ?_
 refine Af<|Ge1 (Bc (cs:=[_,_,_,_]) C C C) λb1=>Ge1 (A2 ty32 C) λb2=>Ad<|Af<|Gf fld32_3 C<|Gl ty30 ?_
 refine Gc2 (Aj c_ C C<|CloneV (xs:=bf.ws) (A6 hl) om) λM Z=>?_
 refine Gf fld32_3 C<|Ge0 (B6 (cs:=[_,_,_,_]) (vs:=[_]) (cs':=[_,_,_,_]) ty30) ?_
 refine Ad<|Af<|Gl4 ty32 ?_
 refine Ge0 (Dk ty32) ?_
 exact Ad<|Ay<|E5 C ty32 C mm C (vc 54 (.slice M bf.ws.length Z) bf.ws::I) Bm ⟨M,Z,rfl,rfl⟩
theorem BFlush_ok{bf:BfS}(hH:Has I T)(hl:Sl κ T (.slice wa bf.ws.length wc) bf.ws)(Z:BfOk bd bf)(hw:bf.ws.length<=4096):eu prog κ 65 [.agg #[e7 bd,e7 (bf.lt),e7 (bf.mr),.slice wa bf.ws.length wc]] I (λr J=>∃(a:Option Addr) (c:Nat) (a2:Option Addr) (c2:Nat) (Y:List Item),r = .tuple #[.agg #[e7 bd,e7 bf.flush.lt,e7 bf.flush.mr,.slice a bf.flush.ws.length c],.slice a2 (bf.ws).length c2,e7 0]/\Sl κ (Y++T) (.slice a bf.flush.ws.length c) bf.flush.ws/\Sl κ (Y++T) (.slice a2 bf.ws.length c2) bf.ws/\J=Y++I):=by
 have ax:=Z.bd
 have az:=Z.lt
 have ay:=Z.mr
 refine Ce1 Tryz.func65 C C ?_
 refine Af<|Ge1 (Bc (cs:=[_,_,_,_]) C C C) λb1=>Ge1 (A2 ty32 C) λb2=>Ga C<|Ga C<|Ad<|Ap<|Af<|Gl4 ty32 ?_
 refine G.e (Aj c_ C C<|BValid_ok (bd:=bd) (bf:=bf) (Bv (Bv hl hH.fit) Av) Z om) ?_
 rintro _ _ ⟨_,_,⟨rfl,rfl⟩,rfl,rfl⟩
 refine Gr (Cr C)<|Ad<|Dw C<|Aw<|Ah<|Ap<|Bq mixed<|Ee 11<|Dr 0 C (A5 (vs:=[_,_,_,_]) ty32) ?_
 refine Dr 2 C (Ac fld32_1 C)<|Dr 3 C (A7 ef) ?_
 refine Dl (rs:=[1,8]) kr C C<|Ez ?_<|Ed ?_
 ·refine Sc2 C (Aj c_ C C<|BCopied_ok (bd:=bd) (bf:=bf) (Bv (Bv hl hH.fit) Av) om) λM aj=>?_
  refine Dl (rs:=[4,8]) kr C C<|Ez ?_<|Ed ?_
  ·refine Se C (Aj c_ C C<|BRel_ok (bd:=bd) (lt:=bf.lt) (mr:=bf.mr) (m:=bf.lt) Bh Z.asc om) ?_
   rintro _ _ ⟨_,_,⟨ao,aq,aw,rfl,ar,rfl⟩,rfl,rfl⟩
   refine ⟨Av,?_⟩
   refine Dr 5 C (Ai C)<|Dr 6 C (Ak C C)<|Dr 7 C (Ak C C)<|Ds1 8<|Se1 C (A2 ty32 C) λb8=>?_
   refine Ds1 9<|Se0 C (Dk ty32) ?_
   refine Dr 10 C (Ba C)<|Dz<|Ah<|Am (S3 6 5 2 C C C)<|Af<|Gl4 ty32 ?_
   refine Gm C<|Ge0 (Dk ty32) ?_
   refine Ga C<|Ga C<|Ad<|Ay ?_
   have ai:max bf.mr bf.lt=bf.lt:=by omega
   exact C4 C ty32 C C C mm C (vc 54 (.slice ao (beyond bf.lt bf.ws).length aq) (beyond bf.lt bf.ws)::vc 54 (.slice M bf.ws.length aj) (bf.ws)::I) Bm ⟨ao,aq,M,aw,[vc 54 (.slice ao (beyond bf.lt bf.ws).length aq) (beyond bf.lt bf.ws),vc 54 (.slice M bf.ws.length aj)<|bf.ws],(by rw [ai,Z.none,Z.all];rfl),Sl.cast (xs:=beyond bf.lt bf.ws) Bh Z.none,Sl.cast (xs:=upTo bf.lt bf.ws) (Sl.upTo Bh ar) Z.all,rfl⟩
  refine Se1 C (A2 ty32 C) λb9=>?_
  refine Ds1 4<|Se C (Aj c_ C C<|BRel_ok (bd:=bd) (lt:=bf.lt) (mr:=bf.mr) (m:=bf.lt) Bh Z.asc om) ?_
  rintro _ _ ⟨_,_,⟨aa,ae,av,rfl,ap,rfl⟩,rfl,rfl⟩
  refine ⟨Av,?_⟩
  refine Dr 5 C (Ai C)<|Dr 6 C (Ak C C)<|Dr 7 C (Ak C C)<|Ds1 9<|Se0 C (Dk ty32) ?_
  refine Dr 10 C (Ba C)<|Dz<|Ah<|Am (S3 6 5 2 C C C)<|Af<|Gl4 ty32 ?_
  refine Gm C<|Ge0 (Dk ty32) ?_
  refine Ga C<|Ga C<|Ad<|Ay ?_
  have ai:max bf.mr bf.lt=bf.lt:=by omega
  exact C4 C ty32 C C C mm C (vc 54 (.slice aa (beyond bf.lt bf.ws).length ae) (beyond bf.lt bf.ws)::vc 54 (.slice M bf.ws.length aj) (bf.ws)::I) Bm ⟨aa,ae,M,av,[vc 54 (.slice aa (beyond bf.lt bf.ws).length ae) (beyond bf.lt bf.ws),vc 54 (.slice M bf.ws.length aj)<|bf.ws],(by rw [ai,Z.none,Z.all];rfl),Sl.cast (xs:=beyond bf.lt bf.ws) Bh Z.none,Sl.cast (xs:=upTo bf.lt bf.ws) (Sl.upTo Bh ap) Z.all,rfl⟩
 refine Se1 C (A2 ty32 C) λa0=>?_
 refine Ds1 1<|Sc2 C (Aj c_ C C<|BCopied_ok (bd:=bd) (bf:=bf) (Bv (Bv hl hH.fit) Av) om) λab ak=>?_
 refine Ds1 4<|Se C (Aj c_ C C<|BRel_ok (bd:=bd) (lt:=bf.lt) (mr:=bf.mr) (m:=bf.lt) Bh Z.asc om) ?_
 rintro _ _ ⟨_,_,⟨ad,ah,au,rfl,an,rfl⟩,rfl,rfl⟩
 refine ⟨Av,?_⟩
 refine Dr 5 C (Ai C)<|Dr 6 C (Ak C C)<|Dr 7 C (Ak C C)<|Ds1 9<|Se0 C (Dk ty32) ?_
 refine Dr 10 C (Ba C)<|Dz<|Ah<|Am (S3 6 5 2 C C C)<|Af<|Gl4 ty32 ?_
 refine Gm C<|Ge0 (Dk ty32) ?_
 refine Ga C<|Ga C<|Ad<|Ay ?_
 have ai:max bf.mr bf.lt=bf.lt:=by omega
 exact C4 C ty32 C C C mm C (vc 54 (.slice ad (beyond bf.lt bf.ws).length ah) (beyond bf.lt bf.ws)::vc 54 (.slice ab bf.ws.length ak) (bf.ws)::I) Bm ⟨ad,ah,ab,au,[vc 54 (.slice ad (beyond bf.lt bf.ws).length ah) (beyond bf.lt bf.ws),vc 54 (.slice ab bf.ws.length ak)<|bf.ws],(by rw [ai,Z.none,Z.all];rfl),Sl.cast (xs:=beyond bf.lt bf.ws) Bh Z.none,Sl.cast (xs:=upTo bf.lt bf.ws) (Sl.upTo Bh an) Z.all,rfl⟩
theorem BPushL_ok{e:Ev}{bf:BfS}(hl:Sl κ I (.slice wa bf.ws.length wc) bf.ws)(M:BfOk bd bf)(hw:bf.ws.length<=4096)(he:checkE e=0)(ht:e.tm<=bf.mr):eu prog κ 47 [.agg #[e7 bd,e7 (bf.lt),e7 (bf.mr),.slice wa bf.ws.length wc],.agg #[e7 (e.kd),e7 (e.tm),e7 (e.u),e7 (e.v),e7 (e.w),e7 (e.lb),e7 (e.sg)]] I (λr J=>∃(a:Option Addr) (c:Nat),r = .tuple #[.agg #[e7 bd,e7 bf.lt,e7 bf.mr,.slice a bf.ws.length c],.slice none 0 0,e7 10]/\I=J):=by
 have ai:=M.bd
 have ah:=M.lt
 have ae:=M.mr
 refine Ce2 Tryz.func47 C C ?_
 refine Af<|Ge1 (Bc (cs:=[_,_,_,_]) C C C) λb1=>Ge1 (Bc (cs:=[_,_,_,_,_,_,_]) C C C) λb2=>Ge1 (A2 ty32 C) λb3=>Ga C<|Ga C<|Ad<|Af<|Gl7 ty54 ?_
 refine Gc0 (Aj c_ C C<|CheckE_ok e) ?_
 refine Ga C<|Ad<|Ap<|A0<|Af<|Gl4 ty32 ?_
 refine G.e (Aj c_ C C<|BValid_ok (bd:=bd) (bf:=bf) (A6 hl) M om) ?_
 rintro _ _ ⟨_,_,⟨rfl,rfl⟩,rfl,rfl⟩
 refine Gr (Cr C)<|Ga C<|Ad<|Am (S5 13 7 4 3 2 C C C C C)<|Dw C<|Af<|Gm C<|Gr (Bn C C)<|Ga C<|Ad<|A8 C (λZ=>?_)<|λZ=>?_
 ·exact absurd he Z
 refine Af<|Gf fld54_1 C<|Gl ef ?_
 refine Gf fld32_2 C<|Gl ef ?_
 refine Gr (E3 C C)<|Ga C<|Ad<|Am (S4 25 4 3 2 C C C C)<|A8 C (λab=>?_)<|λab=>?_
 ·refine Af (Gl4 ty32 ?_)
  refine Gc2 (Aj c_ C C<|BCopied_ok (bd:=bd) (bf:=bf) (A6 hl) om) λaa ad=>?_
  refine Ge0 (Dk ty32) ?_
  exact Ga C<|Ga C<|Ad<|Ay<|Be<|Aq<|C4 C ty32 C C C mm C I Av ⟨aa,ad,rfl,rfl⟩
 omega
theorem BOpen_ok(hb:0<=bd/\bd<=1048576):eu prog κ 39 [e7 bd] I (λr J=>r = .tuple #[.agg #[e7 bd,e7 (-1),e7 (-1),.slice none 0 0],e7 0]/\I=J):=by
 refine Ce1 Tryz.func39 C C ?_
 refine Af<|Ge1 (A2 ty32 C) λb1=>Ga C<|Ad<|Ap<|Af<|Gm C<|Gr (Bb C C)<|Gm C<|Br (d:=6) C (λZ=>?_)<|λZ=>?_
 ·omega
 refine e9 (Ai C)<|e9 (Ck C C)<|Gr (Bd C C)<|Ad<|A8 C (λM=>?_)<|λM=>?_
 ·omega
 refine Aw<|Ah<|Af<|Gm C<|Gr (Bp (cells:=[_,_,_,_]) ty32 Tryz.underlying32 pl32 C C)<|Ge0 (Dk ty32) ?_
 exact Ga C<|Ad<|Ay<|C0 C ty32 C C mm C I Av ⟨rfl,rfl⟩
variable {κ:Ctx}{I:List Item}
structure KpV where
 w:SlA
 l:SlA
 p:PkV
structure KpF (κ:Ctx) (T:List Item) (nd:Int) (k:EnS) (v:KpV):Prop where
 w:Sl κ T (.slice v.w.a k.b.ws.length v.w.c) k.b.ws
 l:Sl κ T (.slice v.l.a k.S.length v.l.c) k.S
 p:PkR κ T nd (edgesK k.S) v.p
theorem KpF.fit{κ:Ctx}{I J:List Item}{k:EnS}{v:KpV}(h:KpF κ I nd k v)(f:Fit κ J I):KpF κ J nd k v:=⟨h.w.fit f,h.l.fit f,h.p.fit f⟩
theorem kept_tm{k:EnS}(h:EnOk nd kd wd mo bd k):k.S.any (λx=>decide (k.tm<x.tm))=false:=by
 rw [Bool.eq_false_iff]
 intro M
 obtain ⟨x,hx,Z⟩:=List.any_eq_true.1 M
 have:=h.inv.tm x hx
 have:=of_decide_eq_true Z
 omega
theorem KVal1_ok(hb:BlkRd κ I b [x0,x1,x2,x3,x4,x5,x6,x7,x8,x9,ao,aq,ak,ap,ae,ai,aa,an,ab,ah,Z,M,ad,aj,e7 (tm)] 47)(x:Lk):eu prog κ 59 [.agg #[e7 (x.u),e7 (x.v),e7 (x.w),e7 (x.lb),e7 (x.sg),e7 (x.tm)],.pointer (some ⟨b,0,none⟩)] I (λr J=>r = .bool (decide (tm<x.tm))/\I=J):=by
 refine Ce2 Tryz.func59 C C ?_
 refine Af<|Ge1 (Bc (cs:=[_,_,_,_,_,_]) C C C) λb1=>Ga C<|Ad<|Af<|Gf fld82_5 C<|Gl ef ?_
 exact Gf fld47_7 C<|Gr (D6 ef C (Ei hb Av) C)<|Gr (Ck C C)<|Ga C<|Ad<|Ay<|A1 C C I Av ⟨rfl,rfl⟩
theorem KVal1_says(hb:BlkRd κ I b [x0,x1,x2,x3,x4,x5,x6,x7,x8,x9,ao,aq,ak,ap,ae,ai,aa,an,ab,ah,Z,M,ad,aj,e7 (tm)] 47):Says prog κ I 59 [.pointer (some ⟨b,0,none⟩)] (λx:Lk=>decide (tm<x.tm)):=⟨c_,λx J hf=>KVal1_ok (hb.fit hf) x⟩
theorem KVal20_ok(hl:Sl κ I (.slice ea es.length ec) es)(hm:Sl κ I (.slice na (coreN nd es).length nc) (coreN nd es))(hG:GrOk nd es)(hg:Sl κ I (.slice ga es.length gc) es)(hT:TabRd κ I 0 tzCells):eu prog κ 63 [.iface 170 (.pointer (some ⟨b,0,none⟩)),.pointer (some ⟨gb,0,none⟩)] (e8 b [e7 nd,.slice ea es.length ec,.slice na (coreN nd es).length nc,y3,y4,y5,y6,y7,y8,y9,M,Z,ab,aa,ad] 169::e8 gb [e7 nd,.slice ga es.length gc] 38::I) (λr J=>r = .bool false/\J=e8 b [e7 nd,.slice ea es.length ec,.slice na (coreN nd es).length nc,y3,y4,y5,y6,y7,y8,y9,M,Z,ab,aa,ad] 169::e8 gb [e7 nd,.slice ga es.length gc] 38::I):=by
 refine Ce2 Tryz.func63 C C ?_
 refine Af<|Ga C<|Ad<|Af<|Gm C<|Gl2 ty38 ?_
 refine G.e (Dt c_ C (λw=>by kernel_rfl) C C<|Cn (J:=e8 b [e7 nd,.slice ea es.length ec,.slice na (coreN nd es).length nc,y3,y4,y5,y6,y7,y8,y9,M,Z,ab,aa,ad] 169::e8 gb [e7 nd,.slice ga es.length gc] 38::I) Bm<|Val0_ok (b:=b) (A6 hl) (A6 hm) hG (A6 hg)<|Bg hT Av) ?_
 rintro _ _ ⟨_,_,⟨rfl,rfl⟩,rfl,rfl⟩
 exact Gr (Cr C)<|Ga C<|Ad<|Ay<|A1 C C (e8 b [e7 nd,.slice ea es.length ec,.slice na (coreN nd es).length nc,y3,y4,y5,y6,y7,y8,y9,M,Z,ab,aa,ad] 169::e8 gb [e7 nd,.slice ga es.length gc] 38::I) Bm ⟨rfl,rfl⟩
theorem KVal21_ok(hl:Sl κ I (.slice ea es.length ec) es)(hm:Sl κ I (.slice na (trussG nd es).length nc) (trussG nd es))(hG:GrOk nd es)(hg:Sl κ I (.slice ga es.length gc) es)(hT:TabRd κ I 0 tzCells):eu prog κ 63 [.iface 171 (.pointer (some ⟨b,3,none⟩)),.pointer (some ⟨gb,0,none⟩)] (e8 b [y0,y1,y2,e7 nd,.slice ea es.length ec,.slice na (trussG nd es).length nc,y6,y7,y8,y9,M,Z,ab,aa,ad] 169::e8 gb [e7 nd,.slice ga es.length gc] 38::I) (λr J=>r = .bool false/\J=e8 b [y0,y1,y2,e7 nd,.slice ea es.length ec,.slice na (trussG nd es).length nc,y6,y7,y8,y9,M,Z,ab,aa,ad] 169::e8 gb [e7 nd,.slice ga es.length gc] 38::I):=by
 refine Ce2 Tryz.func63 C C ?_
 refine Af<|Ga C<|Ad<|Af<|Gm C<|Gl2 ty38 ?_
 refine G.e (Dt c_ C (λw=>by kernel_rfl) C C<|Cn (J:=e8 b [y0,y1,y2,e7 nd,.slice ea es.length ec,.slice na (trussG nd es).length nc,y6,y7,y8,y9,M,Z,ab,aa,ad] 169::e8 gb [e7 nd,.slice ga es.length gc] 38::I) Bm<|Val1_ok (b:=b) (A6 hl) (A6 hm) hG (A6 hg)<|Bg hT Av) ?_
 rintro _ _ ⟨_,_,⟨rfl,rfl⟩,rfl,rfl⟩
 exact Gr (Cr C)<|Ga C<|Ad<|Ay<|A1 C C (e8 b [y0,y1,y2,e7 nd,.slice ea es.length ec,.slice na (trussG nd es).length nc,y6,y7,y8,y9,M,Z,ab,aa,ad] 169::e8 gb [e7 nd,.slice ga es.length gc] 38::I) Bm ⟨rfl,rfl⟩
theorem KVal22_ok(hl:Sl κ I (.slice ea es.length ec) es)(hm:Sl κ I (.slice na (triL nd es).length nc) (triL nd es))(hG:GrOk nd es)(hg:Sl κ I (.slice ga es.length gc) es)  :
    eu prog κ 63 [.iface 172 (.pointer<|some ⟨b,6,none⟩),.pointer<|some ⟨gb,0,none⟩] (e8 b [y0,y1,y2,y3,y4,y5,e7 nd,.slice ea es.length ec,e7<|triS nd es / 3,.slice na (triL nd es).length nc,M,Z,ab,aa,ad] 169::e8 gb [e7 nd,.slice ga es.length gc] 38::I) (λr J=>r = .bool false/\J=e8 b [y0,y1,y2,y3,y4,y5,e7 nd,.slice ea es.length ec,e7<|triS nd es / 3,.slice na (triL nd es).length nc,M,Z,ab,aa,ad] 169::e8 gb [e7 nd,.slice ga es.length gc] 38::I):=by
 refine Ce2 Tryz.func63 C C ?_
 refine Af<|Ga C<|Ad<|Af<|Gm C<|Gl2 ty38 ?_
 refine G.e (Dt c_ C (λw=>by kernel_rfl) C C<|Cn (J:=e8 b [y0,y1,y2,y3,y4,y5,e7 nd,.slice ea es.length ec,e7<|triS nd es / 3,.slice na (triL nd es).length nc,M,Z,ab,aa,ad] 169::e8 gb [e7 nd,.slice ga es.length gc] 38::I) Bm<|Val2_ok (b:=b) (A6 hl) (A6 hm) hG<|A6 hg) ?_
 rintro _ _ ⟨_,_,⟨rfl,rfl⟩,rfl,rfl⟩
 exact Gr (Cr C)<|Ga C<|Ad<|Ay<|A1 C C (e8 b [y0,y1,y2,y3,y4,y5,e7 nd,.slice ea es.length ec,e7<|triS nd es / 3,.slice na (triL nd es).length nc,M,Z,ab,aa,ad] 169::e8 gb [e7 nd,.slice ga es.length gc] 38::I) Bm ⟨rfl,rfl⟩
theorem KVal23_ok{M Z:Option Addr}(hl:Sl κ I (.slice M es.length ec) es)(hm:Sl κ I (.slice Z (quadL nd es).length nc) (quadL nd es))(hG:GrOk nd es)(hg:Sl κ I (.slice ga es.length gc) es)(hT:TabRd κ I 0 tzCells):eu prog κ 63 [.iface 173 (.pointer (some ⟨b,10,none⟩)),.pointer (some ⟨gb,0,none⟩)] (e8 b [y0,y1,y2,y3,y4,y5,y6,y7,y8,y9,e7 nd,.slice M es.length ec,e7 (wedgeC nd es),e7 (quadC nd es),.slice Z (quadL nd es).length nc] 169::e8 gb [e7 nd,.slice ga es.length gc] 38::I) (λr J=>r = .bool false/\J=e8 b [y0,y1,y2,y3,y4,y5,y6,y7,y8,y9,e7 nd,.slice M es.length ec,e7 (wedgeC nd es),e7 (quadC nd es),.slice Z (quadL nd es).length nc] 169::e8 gb [e7 nd,.slice ga es.length gc] 38::I):=by
 refine Ce2 Tryz.func63 C C ?_
 refine Af<|Ga C<|Ad<|Af<|Gm C<|Gl2 ty38 ?_
 refine G.e (Dt c_ C (λw=>by kernel_rfl) C C<|Cn (J:=e8 b [y0,y1,y2,y3,y4,y5,y6,y7,y8,y9,e7 nd,.slice M es.length ec,e7<|wedgeC nd es,e7<|quadC nd es,.slice Z (quadL nd es).length nc] 169::e8 gb [e7 nd,.slice ga es.length gc] 38::I) Bm<|Val3_ok (b:=b) (A6 hl) (A6 hm) hG (A6 hg)<|Bg hT Av) ?_
 rintro _ _ ⟨_,_,⟨rfl,rfl⟩,rfl,rfl⟩
 exact Gr (Cr C)<|Ga C<|Ad<|Ay<|A1 C C (e8 b [y0,y1,y2,y3,y4,y5,y6,y7,y8,y9,e7 nd,.slice M es.length ec,e7<|wedgeC nd es,e7<|quadC nd es,.slice Z (quadL nd es).length nc] 169::e8 gb [e7 nd,.slice ga es.length gc] 38::I) Bm ⟨rfl,rfl⟩
end Go.Sl
