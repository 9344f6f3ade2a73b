/- A part of the proofs of statements of this seat: contracts of functions, and the plain laws that they lean on. No conditions. -/
import Derived.Test.YtoagcglbkeomgaaGreatDoorS25
set_option linter.unusedVariables false
set_option linter.unusedSimpArgs false
set_option linter.unusedSectionVars false
open Go.Proofs.Tryz (prog)
set_option maxHeartbeats 8000000
open List (append_assoc length_cons mem_cons_self length_nil cons_append)
namespace Go.Sl
open Go.Proofs
set_option maxRecDepth 4000
variable{bd kd mo nd tm wd:Int}{a ea ga na va wa:Option Addr}{b c ec gb gc i n nc wc:Nat}{T:List Item}{M Z aa ab ad ae ah ai aj ak an ao ap aq x0 x1 x2 x3 x4 x5 x6 x7 x8 x9 y0 y1 y2 y3 y4 y5 y6 y7 y8 y9:Value}{l xs ys:List Ev}{es:List Pt}
theorem Step_ok{κ:Ctx}{I:List Item}{lt mr:Int}{wn:Nat}{lv:SlA}{pv:PkV}{X:List Lk}(hH:Has I T)(hl:Sl κ T (.slice lv.a X.length lv.c) X)(hp:PkR κ T nd (edgesK X) pv)(hI:SlI nd kd wd tm X){xe:Ev}(hw:checkW kd wd mo=0)(hx:FitOk nd xe)(bp:0<=tm/\tm<=xe.tm)(hT:TabRd κ I 0 tzCells):eu prog κ 81 [.agg (ky kd wd mo bd lt mr wa wn wc nd lv.a X.length lv.c (edgesK X) pv tm).toArray,.agg (ez xe).toArray] I (λr J=>∃(lw:SlA) (pw:PkV) (Y:List Item) (a:Option Addr) (c:Nat),r = .tuple #[.agg (ky kd wd mo bd lt mr wa wn wc nd lw.a ((evStep kd wd mo (X,[]) xe).1).length lw.c (edgesK ((evStep kd wd mo (X,[]) xe).1)) pw xe.tm).toArray,.slice a (evStep kd wd mo (X,[]) xe).2.length c,e7 0]/\Sl κ (Y++T) (.slice lw.a (evStep kd wd mo (X,[]) xe).1.length lw.c) (evStep kd wd mo (X,[]) xe).1/\PkR κ (Y++T) nd (edgesK (evStep kd wd mo (X,[]) xe).1) pw/\Sl κ (Y++T) (.slice a (evStep kd wd mo (X,[]) xe).2.length c) (evStep kd wd mo (X,[]) xe).2/\J=Y++I):=by
 have ba:=hx.tm
 have bj:=edges_le (edgesK_ok hI.val)
 rw [edgesK_len] at bj
 refine Ce2 Tryz.func81 C C ?_
 refine Ad<|Ge1 (Bd (cs:=[_,_,_,_,_,_,_,_,_,_,_,_,_,_,_,_,_,_,_,_,_,_,_,_,_]) C C C) λb1=>Ge1 (Bd (cs:=[_,_,_,_,_,_,_]) C C C) λb2=>Ge1 (A4 ty47 C) λb3=>Ga C<|Ga C<|Ac<|Ar<|Ad<|Gl7 ty54 ?_
 refine Gc0 (Aj c_ C C<|CheckE_ok xe) ?_
 refine Ga C<|Ac<|Ad<|Gm C<|Gr (Be C C)<|Ac<|A7 C (λbe=>?_)<|λbe=>?_
 ·exact absurd hx.chk be
 refine Aw<|Ah<|Ar<|Ad<|Gr (Runs.lq ty47) ?_
 refine Gl7 ty54 ?_
 refine Gc0 (Aj c_ C C<|NodeK_ok (nd:=nd) (e:=xe) hx) ?_
 refine Gr (Cn C)<|Ac<|Ap (S4 22 4 3 2)<|Dg C<|Aw<|Ah<|Ar<|Ad<|Gf fld54_1 C<|Gl ef ?_
 refine Gf fld47_7 C<|Gl ef ?_
 refine Gr (A9 C C)<|Ac<|A7 C (λbm=>?_)<|λbm=>?_
 ·omega
 refine Aw<|Ah<|Ad<|Ga C<|Ac<|Ad<|Ga C<|Ac<|Ar<|Ad<|Gr (Runs.lq ty47) ?_
 refine Gf fld54_1 C<|Gl ef ?_
 refine G.e (Aj c_ C C<|Old_ok (Bu hl<|Cm (κ:=κ)<|by repeat (first|exact hH|exact B0 _|apply Bz|apply Cl|apply Ca)) hI.val hw om) ?_
 rintro _ _ ⟨_,_,⟨bi,bk,rfl,rfl⟩,rfl,rfl⟩
 refine Ga C<|Ac<|Ap (S5 10 8 4 3 2)<|A5<|B1 (σ:=(List Lk)×SlA×PkV×(List Item)×(Option Addr)×Nat×(Option Addr)×Nat×(List Ev)) (λs=>([(2,pt b1),(3,pt b2),(4,pt b3),(8,.slice s.2.2.2.2.2.2.1 s.2.2.2.2.2.2.2.2.length s.2.2.2.2.2.2.2.1),(10,.slice s.2.2.2.2.1 (oldL kd wd mo xe.tm s.1).length s.2.2.2.2.2.1)]:Env)) (λs=>vk 54 s.2.2.2.2.2.2.1 s.2.2.2.2.2.2.2.1 s.2.2.2.2.2.2.2.2::vk 54 s.2.2.2.2.1 s.2.2.2.2.2.1 (oldL kd wd mo xe.tm s.1)::e8 b3 zk 47::e8 b2 (ez xe) 54::e8 b1 (ky kd wd mo bd lt mr wa wn wc nd s.2.1.a s.1.length s.2.1.c (edgesK s.1) s.2.2.1 tm) 47::(s.2.2.2.1++I)) (λs=>(agedL kd wd mo xe.tm (X,[])=agedL kd wd mo xe.tm (s.1,s.2.2.2.2.2.2.2.2))/\(checkS nd s.1=0)/\(Sl κ (s.2.2.2.1++T) (.slice s.2.1.a s.1.length s.2.1.c) s.1)/\(PkR κ (s.2.2.2.1++T) nd (edgesK s.1) s.2.2.1)/\(s.2.2.2.2.2.2.2.2.length+s.1.length<=X.length)) (λs=>s.1.length) (X,lv,pv,[],bi,bk,none,0,[]) ⟨rfl,hI.val,hl,hp,(by simp)⟩ (cx2<|Aa C<|Aa (C8 C<|by first|rfl|simp)<|Aa (C8 C<|by first|rfl|simp) Bp) (Co (show Fit κ _ _ from Bl)<|Cf (α:=Ev) _ _) ?_
 rintro ⟨X1,lw,pw,Y,ca,cc,oa,oc,o⟩ hp
 dsimp only at hp ⊢
 obtain ⟨a4,ah,bb,a8,bu⟩:=hp
 have bt:=oldL_len kd wd mo xe.tm X1
 refine Ar<|Ad<|Gm C<|Gr (Bk Al C)<|Gr (B2 C C)<|Ac<|A7 C (λbo=>?_)<|λbo=>?_
 ·refine Aw (Ah<|Ar<|A5<|Ad<|Gm C ?_)
  have an:=old_step (o:=o) ah hw ba.2 om
  refine Gm C<|Ge2 (B3 (α:=Ev) (e:=54) (xs:=o) (ys:=oldL kd wd mo xe.tm X1) Al ty54 C C C mm Bi olp dc C<|λ_ _=>am) λaz a0=>?_
  refine Ga C<|Ac<|Ad<|Gr (Runs.lq ty47) ?_
  refine Gm C<|G.e (Aj c_ C C<|Happen_ok (T:=(Y++T)) (X:=X1) (evs:=oldL kd wd mo xe.tm X1) (by repeat (first|exact hH|exact B0 _|apply Bz|apply Cl|apply Ca)) bb a8 ah Bi an.2.2.2.1 (by first|omega|(simp only [length_cons,length_nil];omega))<|Bn hT Ax) ?_
  rintro _ _ ⟨_,_,⟨br,bq,Y10,rfl,ap,a1,rfl⟩,rfl,rfl⟩
  refine D9 (J:=vk 54 az a0 (o++(oldL kd wd mo xe.tm X1))::vk 54 ca cc (oldL kd wd mo xe.tm X1)::e8 b3 zk 47::e8 b2 (ez xe) 54::e8 b1 (ky kd wd mo bd lt mr wa wn wc nd lw.a X1.length lw.c (edgesK X1) pw tm) 47::(Y10++(Y++I))) (C4<|Dk (A:=Y10) (L:=[vk 54 az a0 (o++(oldL kd wd mo xe.tm X1)),vc 54 (.slice ca (oldL kd wd mo xe.tm X1).length cc)<|oldL kd wd mo xe.tm X1,e8 b3 zk 47,e8 b2 (ez xe) 54,e8 b1 (ky kd wd mo bd lt mr wa wn wc nd lw.a X1.length lw.c (edgesK X1) pw tm) 47]) (T:=(Y++I))) ?_
  refine Gm C<|Gr (Ak C C)<|Gr (Ak C C)<|Ge0 (Eff.sq ty47) ?_
  refine Ga C<|Ac<|Ap (S5 9 8 2 3 4)<|Ad<|Gm C<|Gr (Be C C)<|Ac<|A7 C (λbc=>?_)<|λbc=>?_
  ·exact absurd bc dc
  refine Aw<|Am<|Ah<|Ay<|Gr (Runs.lq ty47) ?_
  refine Gf fld54_1 C<|Gl ef ?_
  refine G.e (Aj c_ C C<|Old_ok (Bu ap<|Cm (κ:=κ)<|by repeat (first|exact hH|exact B0 _|apply Bz|apply Cl|apply Ca)) an.2.2.1 hw om) ?_
  rintro _ _ ⟨_,_,⟨bg,bf,rfl,rfl⟩,rfl,rfl⟩
  exact Ga C<|Bj<|Cb (((List.foldl ep X1<|oldL kd wd mo xe.tm X1)),(br),(bq),((Y10++Y)),(bg),(bf),(az),(a0),(o++(oldL kd wd mo xe.tm X1))) (by dsimp only;exact ⟨(a4.trans an.1),an.2.2.1,(by rw [append_assoc];exact ap),(by rw [append_assoc];exact a1),(by have h9:=an.2.2.2.2;omega)⟩) (hlt:=by (try dsimp only);exact an.2.1) (hI:=by (try dsimp only);exact (by rw [append_assoc];exact Bl))
 refine Bt<|Aq<|Aq<|Bb<|Ah<|Ad<|Gm C ?_
 have aq:=a4.trans (old_end om)
 refine Gl7 ty54 ?_
 refine Ge1 (Ce (α:=Ev) (cs:=(ez xe)) (xs:=[⟨xe.kd,xe.tm,xe.u,xe.v,xe.w,xe.lb,xe.sg⟩]) Al ty54 C C dc dc C kr C C) λae=>?_
 refine Ge2 (B3 (α:=Ev) (e:=54) (xs:=o) (ys:=([xe]:List Ev)) Al ty54 C C C mm Bi olp dc C<|λ_ _=>am) λaa M=>?_
 refine Ga C<|Ac<|Ar<|Ad<|Gr (Runs.lq ty47) ?_
 refine Gl7 ty54 ?_
 refine Ge1 (Ce (α:=Ev) (cs:=(ez xe)) (xs:=[⟨xe.kd,xe.tm,xe.u,xe.v,xe.w,xe.lb,xe.sg⟩]) Al ty54 C C dc dc C kr C C) λad=>?_
 refine G.e (Aj c_ C C<|Happen_ok (T:=(Y++T)) (X:=X1) (evs:=([xe]:List Ev)) (by repeat (first|exact hH|exact B0 _|apply Bz|apply Cl|apply Ca)) bb a8 ah Bi (λq hq=>(List.mem_singleton.1 hq)▸hx) (by first|omega|(simp only [length_cons,length_nil];omega))<|Bn hT Ax) ?_
 rintro _ _ ⟨_,_,⟨ab,Z,Y19,rfl,ak,ao,rfl⟩,rfl,rfl⟩
 refine D9 (J:=vc 54 (.slice ad 1 1) (([xe]:List Ev))::vc 54 (.slice ae 1 1) (([xe]:List Ev))::vk 54 aa M (o++([xe]:List Ev))::vk 54 ca cc (oldL kd wd mo xe.tm X1)::e8 b3 zk 47::e8 b2 (ez xe) 54::e8 b1 (ky kd wd mo bd lt mr wa wn wc nd lw.a X1.length lw.c (edgesK X1) pw tm) 47::(Y19++(Y++I))) (C4<|Dk (A:=Y19) (L:=[vc 54 (.slice ad 1 1) (([xe]:List Ev)),vc 54 (.slice ae 1 1)<|([xe]:List Ev),vc 54 (.slice aa (o++([xe]:List Ev)).length M)<|o++([xe]:List Ev),vc 54 (.slice ca (oldL kd wd mo xe.tm X1).length cc)<|oldL kd wd mo xe.tm X1,e8 b3 zk 47,e8 b2 (ez xe) 54,e8 b1 (ky kd wd mo bd lt mr wa wn wc nd lw.a X1.length lw.c (edgesK X1) pw tm) 47]) (T:=(Y++I))) ?_
 show G prog κ _ _ _ _ ([(62,.tuple #[.agg (ky kd wd mo bd lt mr wa wn wc nd ab.a (ep X1 xe).length ab.c (edgesK<|ep X1 xe) Z tm).toArray,e7 0]),(61,.slice ad 1 1),(60,.agg (ez xe).toArray),(59,.agg (ky kd wd mo bd lt mr wa wn wc nd lw.a X1.length lw.c (edgesK X1) pw tm).toArray),(8,.slice aa (o++([xe]:List Ev)).length M),(57,.slice aa (o++([xe]:List Ev)).length M),(56,.slice ae 1 1),(55,.agg (ez xe).toArray),(54,.slice oa o.length oc),(36,.bool<|decide<|0<(((oldL kd wd mo xe.tm X1).length:Nat):Int)),(35,e7<|(((oldL kd wd mo xe.tm X1).length:Nat):Int)),(34,.slice ca (oldL kd wd mo xe.tm X1).length cc),(2,pt b1),(3,pt b2),(4,pt b3),(8,.slice oa o.length oc),(10,.slice ca (oldL kd wd mo xe.tm X1).length cc)]:Env) (vc 54 (.slice ad 1 1) (([xe]:List Ev))::vc 54 (.slice ae 1 1) (([xe]:List Ev))::vk 54 aa M (o++([xe]:List Ev))::vk 54 ca cc (oldL kd wd mo xe.tm X1)::e8 b3 zk 47::e8 b2 (ez xe) 54::e8 b1 (ky kd wd mo bd lt mr wa wn wc nd lw.a X1.length lw.c (edgesK X1) pw tm) 47::(Y19++(Y++I)))
 refine Gm C<|Gr (Ak C C)<|Gr (Ak C C)<|Ge0 (Eff.sq ty47) ?_
 refine Ga C<|Ac<|Ap (S5 9 8 2 3 4)<|Ad<|Gm C<|Gr (Be C C)<|Ac<|A7 C (λa3=>?_)<|λa3=>?_
 ·exact absurd a3 dc
 refine Aw<|Ah<|Ar<|Ad<|Gf fld54_1 C<|Gl ef ?_
 refine Gf fld47_7 C<|Ge0 (B6 (cs:=[_,_,_,_,_,_,_,_,_,_,_,_,_,_,_,_,_,_,_,_,_,_,_,_,_]) (vs:=[_]) (cs':=[_,_,_,_,_,_,_,_,_,_,_,_,_,_,_,_,_,_,_,_,_,_,_,_,_]) ef) ?_
 refine Ac<|Ad<|Gf fld47_0 C<|Gf fld29_0 C<|Gl ef ?_
 have a5:=edges_le (edgesK_ok<|stepL_val ah hx)
 rw [edgesK_len] at a5
 refine Gr (Br C C)<|Ac<|Ap (S5 75 8 2 3 4)<|A7 C (λax=>?_)<|λax=>?_
 ·refine Ad (Gf fld47_2 C<|Gl2 ty35 ?_)
  refine Gf fld47_0 C<|Gl3 ty29 ?_
  refine Gf fld54_1 C<|Gl ef ?_
  have bh:=ask_zero hw (stepL_val ah hx) ba (by have bn:=aged_tm hI.tm hI.val (show ¬kd=2 by omega) aq;subst bn;exact step_tm hI.tm bp.2)
  refine Gc2 (Aj c_ C C<|Expired_yes (Bu ak<|Cm (κ:=κ)<|by repeat (first|exact hH|exact B0 _|apply Bz|apply Cl|apply Ca)) om bh) λau av=>?_
  refine Gm C<|Gr (Ak C C)<|Gr (Ak C C)<|Ga C<|Ga C<|Ac<|Ap (S5 12 11 8 2 4)<|Ar<|Ad<|Gm C<|Gr (Be C C)<|Ac<|A7 C (λa9=>?_)<|λa9=>?_
  ·exact absurd a9 dc
  refine Aw<|Ah<|Ad<|Gm C ?_
  have bv:=gone_len kd wd mo xe.tm (ep X1 xe)
  refine Gm C<|Ge2 (B3 (α:=Ev) (e:=54) (xs:=o++([xe]:List Ev)) (ys:=goneL kd wd mo xe.tm (ep X1 xe)) Al ty54 C C C mm Bi olp dc C<|λ_ _=>am) λaj ai=>?_
  refine Ga C<|Ac<|Ad<|Gr (Runs.lq ty47) ?_
  refine Gm C<|G.e (Aj c_ C C<|Happen_ok (T:=(Y19++(Y++T))) (X:=(ep X1 xe)) (evs:=goneL kd wd mo xe.tm (ep X1 xe)) (by repeat (first|exact hH|exact B0 _|apply Bz|apply Cl|apply Ca)) ak ao (stepL_val ah hx) Bi (gone_fit (stepL_val ah hx) hx.tm) (by first|omega|(simp only [length_cons,length_nil];omega))<|Bn hT Ax) ?_
  rintro _ _ ⟨_,_,⟨a7,a6,Y26,rfl,aw,ay,rfl⟩,rfl,rfl⟩
  refine D9 (J:=vk 54 au av (goneL kd wd mo xe.tm<|ep X1 xe)::vc 54 (.slice ad 1 1) (([xe]:List Ev))::vc 54 (.slice ae 1 1) (([xe]:List Ev))::vk 54 aj ai ((o++([xe]:List Ev))++(goneL kd wd mo xe.tm<|ep X1 xe))::vk 54 ca cc (oldL kd wd mo xe.tm X1)::e8 b3 zk 47::e8 b2 (ez xe) 54::e8 b1 (ky kd wd mo bd lt mr wa wn wc nd ab.a (ep X1 xe).length ab.c (edgesK<|ep X1 xe) Z xe.tm) 47::(Y26++(Y19++(Y++I)))) (C4<|Dk (A:=Y26) (L:=[vk 54 au av (goneL kd wd mo xe.tm<|ep X1 xe),vc 54 (.slice ad 1 1)<|([xe]:List Ev),vc 54 (.slice ae 1 1)<|([xe]:List Ev),vc 54 (.slice aj ((o++([xe]:List Ev))++(goneL kd wd mo xe.tm<|ep X1 xe)).length ai)<|(o++([xe]:List Ev))++(goneL kd wd mo xe.tm<|ep X1 xe),vc 54 (.slice ca (oldL kd wd mo xe.tm X1).length cc)<|oldL kd wd mo xe.tm X1,e8 b3 zk 47,e8 b2 (ez xe) 54,e8 b1 (ky kd wd mo bd lt mr wa wn wc nd ab.a (ep X1 xe).length ab.c (edgesK<|ep X1 xe) Z xe.tm) 47]) (T:=(Y19++(Y++I)))) ?_
  refine Gm C<|Gr (Ak C C)<|Gr (Ak C C)<|Ge0 (Eff.sq ty47) ?_
  refine Ga C<|Ac<|Ap (S4 12 8 2 4)<|Ad<|Gm C<|Gr (Be C C)<|Ac<|A7 C (λar=>?_)<|λar=>?_
  ·exact absurd ar dc
  refine Aw<|Ah<|Ad<|Gr (Runs.lq ty47) ?_
  refine Gm C<|Ge0 (Eff.sq ty47) ?_
  refine Ga C<|Ga C<|Ac<|Az ?_
  have hR:=step_end3 (nd:=nd) aq ax (stepL_val ah hx)
  rw [hR]
  exact Cy C ty47 C C C mm C (((vk 54 aj ai ((o++([xe]:List Ev))++(goneL kd wd mo xe.tm<|ep X1 xe))::(Y26++(Y19++Y)))++I)) (by simp only [cons_append,append_assoc];exact Bl) ⟨a7,a6,(vk 54 aj ai ((o++([xe]:List Ev))++(goneL kd wd mo xe.tm<|ep X1 xe))::(Y26++(Y19++Y))),aj,ai,rfl,(by simp only [cons_append,append_assoc];exact Bu aw<|Fit.tail<|Dn _),(by simp only [cons_append,append_assoc];exact PkR.fit ay<|Fit.tail<|Dn _),De<|List.mem_append_left _ mem_cons_self,rfl⟩
 refine Aw<|Ah<|Ad<|Gr (Runs.lq ty47) ?_
 refine Gm C<|Ge0 (Eff.sq ty47) ?_
 refine Ga C<|Ga C<|Ac<|Az ?_
 have hR:=step_end aq ax
 rw [hR]
 exact Cy C ty47 C C C mm C (((vk 54 aa M (o++([xe]:List Ev))::(Y19++Y))++I)) (by simp only [cons_append,append_assoc];exact Bl) ⟨ab,Z,(vk 54 aa M (o++([xe]:List Ev))::(Y19++Y)),aa,M,rfl,(by simp only [cons_append,append_assoc];exact Bu ak<|Fit.tail<|Dn _),(by simp only [cons_append,append_assoc];exact PkR.fit ao<|Fit.tail<|Dn _),De<|List.mem_append_left _ mem_cons_self,rfl⟩
variable {κ:Ctx}{I:List Item}
theorem ov138:∀Z w,(callFunc 138 Z).run prog w=((Extern.SlicesOverlaps.overlaps #[30,30] #[4] Z).run prog w).andThen λv w'=> .ok (.value v) w':=λZ w=>run_callFunc_extern (e:=Extern.SlicesOverlaps.overlaps #[30,30] #[4]) Tryz.func138 kr kr kr kr Z w
theorem InsertV_ok{M:Nat}(hi:i<=xs.length)(hy:0<ys.length)(aq:xs.length+ys.length<=1000000000):eu prog κ 94 [.slice a xs.length c,e7 ((i:Int)),.slice va ys.length M] (vk 54 a c xs::vk 54 va M ys::I) (λr J=>∃a' c',r = .slice a' (List.take i xs++ys++List.drop i xs).length c'/\J=vk 54 a' c' (List.take i xs++ys++List.drop i xs)::I):=by
 refine B5 (vc.cap mem_cons_self) λao=>?_
 have aa:(List.take i xs++ys++List.drop i xs).length=xs.length+ys.length:=by simp only [List.length_append,List.length_take,List.length_drop];omega
 refine Ce3 Tryz.func94 C C ?_
 refine Ad<|Ga C<|Ac<|Ad<|Gm C<|Gm C<|Gr (D0 (α:=Ev) (xs:=xs) (l:=i) Al ty54 C C om Bi lat)<|Ac<|Ad<|Gm C<|Gr (Bk Al C)<|Ga C<|Ac<|Ar<|Ad<|Gm C<|Gr (Br C C)<|Ac<|A7 C (λad=>?_)<|λad=>?_
 ·exact absurd ad om
 refine Aw<|Ah<|Ad<|Gm C<|Gr (Bk Al C)<|Ga C<|Ac<|Ap (S5 8 7 0 1 2)<|Ar<|Ad<|Gm C<|Gm C<|Gr (Br C C)<|Ac<|A7 C (λak=>?_)<|λak=>?_
 ·refine Ad (Gm C<|Gm C<|Ge2 (B3 (α:=Ev) (e:=54) (xs:=xs) (ys:=ys) Al ty54 C C C mm Bi om dc C<|λ_ _=>am) λab ae=>?_)
  refine Ga C<|Ac<|Az<|Ao ?_
  have hR:List.take i xs++ys++List.drop i xs=xs++ys:=by rw [List.take_of_length_le om,List.drop_eq_nil_of_le om,List.append_nil]
  exact A1 C C (vk 54 ab ae (List.take i xs++ys++List.drop i xs)::I) (by unfold vk;rw [hR];exact Bl) ⟨ab,ae,by rw [hR],rfl⟩
 refine Aw<|Ah<|Ar<|Ad<|Gm C<|Gm C<|Gr (Rad C C)<|Gm C<|Gr (Runs.caps Al C)<|Gr (B2 C C)<|Ac<|Ap (S6 31 8 7 0 1 2)<|A7 C (λaj=>?_)<|λaj=>?_
 ·refine Ad (Gm C<|Gm C<|Gr (E3 (h:=i) Al ty54 C C om om)<|Gm C<|Gm C<|Gr (Rad C C)<|Gm C<|Gr (Rsu C C)<|Ge2 (Eff.grow (α:=Ev) (xs:=xs) (k:=xs.length+ys.length - i) Al Ci ty54 C C C om Bi om om om om dc C) λah Z=>?_)
  refine Ga C<|G.pull (p:=(List.take i xs++List.replicate (xs.length+ys.length - i) (default:Ev)).length<=Z) (vc.cap mm) λan=>?_
  have ap:(List.take i xs++List.replicate (xs.length+ys.length - i) (default:Ev)).length=xs.length+ys.length:=by simp only [List.length_append,List.length_take,List.length_replicate];omega
  refine Ac<|Ap (S5 9 7 0 1 2)<|Ad<|Gm C<|Gm C<|Gr (D0 (α:=Ev) (xs:=List.take i xs++List.replicate (xs.length+ys.length - i) (default:Ev)) (l:=i) Al ty54 C C om Bi lat)<|Gm C<|Ge0 (Fh (α:=Ev) (k:=i) (q:=ys.length) (R:=List.take i xs++ys++List.replicate (xs.length - i) (default:Ev)) (n:=(i+(xs.length+ys.length - i))) Al ty54 C lat C Bi lat lat C (ins1 hi) lat am) ?_
  refine Ac<|Ar<|Bs mixed<|Cc I 9<|Dr 0 C (Ai C)<|Dr 1 C (Ai C)<|Dr 2 C (Ai C)<|Dr 3 C (Rad C C)<|Dr 4 C (C3 (l:=(i+ys.length)) Al ty54 C C om om om)<|Dr 5 C (Ai C)<|Dr 6 C (Ai C)<|Dr 7 C (C3 (l:=i) Al ty54 C C om om om)<|Ds1 8<|Se0 C (Fh (α:=Ev) (k:=(i+ys.length)) (q:=(xs.length - i)) (R:=List.take i xs++ys++List.drop i xs) (n:=(i+(xs.length+ys.length - i))) Al ty54 C lat C (Sl.dropn (De (xs:=xs) mm) om om) lat lat C (ins2 hi) lat am) ?_
  exact Dz<|Ah<|Ap (S1 9)<|Ad<|Gm C<|Ga C<|Ac<|Az<|Ao<|A1 C C (vk 54 ah Z (List.take i xs++ys++List.drop i xs)::I) (by unfold vk;rw [show (List.take i xs++ys++List.drop i xs).length=i+(xs.length+ys.length - i) by omega];exact Bl) ⟨ah,Z,by rw [show (List.take i xs++ys++List.drop i xs).length=i+(xs.length+ys.length - i) by omega],rfl⟩
 refine Aw<|Ah<|Ad<|Gm C<|Gm C<|Gm C<|Gr (Rad C C)<|Gr (E3 (h:=xs.length+ys.length) Al ty54 C C om om)<|Ga C<|G.room (h:=xs.length+ys.length) (by repeat (first|exact AtF.head _ _|apply AtF.tail)) C om om<|λjs ai=>?_
 refine Ac<|Ar<|Ad<|Gm C<|Gm C<|Gm C<|Gm C<|Gr (Rad C C)<|Gr (C3 (l:=(i+ys.length)) Al ty54 C C om om om)<|Ge0 (Eff.overlaps (k:=i+ys.length) ov138 Al ty54 C C om om om (Fit.sp<|Sp.pick (Pick.tail _<|Pick.head _ _)<|Sp.refl _) (Nat.mul_pos om Enc.pos) C) ?_
 refine Gr (Cn C)<|Ac<|Ap (S6 68 0 8 7 1 2)<|Cu C<|Ar<|Bs mixed<|Cc I 9<|Dr 0 C (Ai C)<|Dr 1 C (Ai C)<|Dr 2 C (Ai C)<|Dr 3 C (Rad C C)<|Dr 4 C (C3 (l:=(i+ys.length)) Al ty54 C C om om om)<|Dr 5 C (Ai C)<|Dr 6 C (Ai C)<|Dr 7 C (C3 (l:=i) Al ty54 C C om om om)<|Ds1 8<|Se0 C (Eff.copyR (sz:=Enc.sz Ev) (n:=xs.length+ys.length) (cs:=(cells xs++js)) (k:=(i+ys.length)) (q:=(xs.length - i)) Al ty54 C om C (SlRd.dropR (SlRd.vec mm) om) om om (ins_one hi) C am) ?_
 refine Dz<|Ah<|Ap (S3 0 1 2)<|Ad<|Gm C<|Gm C<|Gr (C3 (l:=i) Al ty54 C C om om om)<|Gm C<|Ge0 (Eff.copyR (sz:=Enc.sz Ev) (n:=xs.length+ys.length) (cs:=(List.take ((i+ys.length)*Enc.sz Ev) (cells xs++js)++List.take ((xs.length - i)*Enc.sz Ev) (List.drop (i*Enc.sz Ev)<|cells xs++js)++List.drop ((i+ys.length)*Enc.sz Ev+(xs.length - i)*Enc.sz Ev) (cells xs++js))) (k:=i) (q:=ys.length) Al ty54 C om C (De (e:=54) (xs:=ys) mm) om om (λu hu=>cells_one ys u<|List.mem_of_mem_take hu) C am) ?_
 refine Ac<|Ad<|Gm C<|Ga C<|Ac<|Az<|Ao ?_
 have hC:(List.take (i*Enc.sz Ev) (List.take ((i+ys.length)*Enc.sz Ev) (cells xs++js)++List.take ((xs.length - i)*Enc.sz Ev) (List.drop (i*Enc.sz Ev)<|cells xs++js)++List.drop ((i+ys.length)*Enc.sz Ev+(xs.length - i)*Enc.sz Ev) (cells xs++js))++List.take (ys.length*Enc.sz Ev) (cells ys)++List.drop (i*Enc.sz Ev+ys.length*Enc.sz Ev) (List.take ((i+ys.length)*Enc.sz Ev) (cells xs++js)++List.take ((xs.length - i)*Enc.sz Ev) (List.drop (i*Enc.sz Ev)<|cells xs++js)++List.drop ((i+ys.length)*Enc.sz Ev+(xs.length - i)*Enc.sz Ev) (cells xs++js)))=cells (List.take i xs++ys++List.drop i xs):=ins_cells hi ai
 exact A1 C C (vk 54 a c (List.take i xs++ys++List.drop i xs)::I) (by unfold vk;rw [hC];show Fit κ _ (vec 54 _ (.slice a (List.take i xs++ys++List.drop i xs).length c) (List.take i xs++ys++List.drop i xs).length (cells<|List.take i xs++ys++List.drop i xs)::I);rw [aa];exact Bl) ⟨a,c,by rw [aa],rfl⟩
theorem InsertV_two{m Z:Nat}{K:List Item}(hf:Fit κ I (vc 54 (.slice a n c) xs::vc 54 (.slice va m Z) ys::K))(hn:n=xs.length)(hm:m=ys.length)(hi:i<=xs.length)(hy:0<ys.length)(M:xs.length+ys.length<=1000000000):eu prog κ 94 [.slice a n c,e7 (i:Int),.slice va m Z] I (λr J=>∃a' c',r = .slice a' (List.take i xs++ys++List.drop i xs).length c'/\J=vk 54 a' c' (List.take i xs++ys++List.drop i xs)::K):=by
 subst hn hm
 exact Cp hf<|InsertV_ok hi hy M
theorem place_step{e:Ev}(M:0<i)(h:e.tm<(e_ l ((i:Int) - 1)).tm)(Z:placeG evC l e n=placeG evC l e i):placeG evC l e n=placeG evC l e (i - 1):=by
 rw [Z]
 obtain ⟨m,rfl⟩:∃m,i=m+1:=⟨i - 1,by omega⟩
 have e1:(((m+1:Nat):Int) - 1)=(m:Int):=by omega
 rw [e1] at h
 show (if evC e (e_ l m)<0 then placeG evC l e m else m+1)=_
 rw [if_pos (by unfold evC;rw [if_pos h];decide)]
 rfl
theorem place_stop{e:Ev}(h:0<i->¬e.tm<(e_ l ((i:Int) - 1)).tm)(M:placeG evC l e n=placeG evC l e i):placeG evC l e n=i:=by
 rw [M]
 cases i with
 |zero=>rfl
 |succ m=>
  have Z:=h om
  have e1:(((m+1:Nat):Int) - 1)=(m:Int):=by omega
  rw [e1] at Z
  show (if evC e (e_ l m)<0 then placeG evC l e m else m+1)=_
  rw [if_neg]
  unfold evC
  rw [if_neg Z]
  split<;>decide
theorem push_eq{bf:BfS}{e:Ev}(h:placeG evC bf.ws e bf.ws.length=i):List.take i bf.ws++[e]++List.drop i bf.ws=pushW bf e:=by
 unfold pushW insertG insG
 rw [h];simp
theorem BPush_ok{e:Ev}{bf:BfS}(hH:Has I T)(hl:Sl κ T (.slice wa bf.ws.length wc) bf.ws)(hB:BfOk bd bf)(hw:bf.ws.length<=4096)(he:checkE e=0)(ht:bf.mr<e.tm)(hT:0<=e.tm/\e.tm<=1048576)(bz:bf.ws.length<4096):eu prog κ 47 [.agg #[e7 bd,e7 (bf.lt),e7 (bf.mr),.slice wa bf.ws.length wc],.agg (ez e).toArray] I (λr J=>∃(a:Option Addr) (c:Nat) (a2:Option Addr) (c2:Nat) (Y:List Item),r = .tuple #[.agg #[e7 bd,e7 (bf.push bd e).lt,e7 (bf.push bd e).mr,.slice a (bf.push bd e).ws.length c],.slice a2 ((bf.out bd e)).length c2,e7 0]/\Sl κ (Y++T) (.slice a (bf.push bd e).ws.length c) (bf.push bd e).ws/\Sl κ (Y++T) (.slice a2 ((bf.out bd e)).length c2) (bf.out bd e)/\J=Y++I):=by
 have bx:=hB.bd
 have bp:=hB.lt
 have bu:=hB.mr
 refine Ce2 Tryz.func47 C C ?_
 refine Ad<|Ge1 (Bd (cs:=[_,_,_,_]) C C C) λb1=>Ge1 (Bd (cs:=[_,_,_,_,_,_,_]) C C C) λb2=>Ge1 (A4 ty32 C) λb3=>Ga C<|Ga C<|Ac<|Ad<|Gl7 ty54 ?_
 refine Gc0 (Aj c_ C C<|CheckE_ok e) ?_
 refine Ga C<|Ac<|Ar<|A5<|Ad<|Gl4 ty32 ?_
 refine G.e (Aj c_ C C<|BValid_ok (bd:=bd) (bf:=bf) (Bu (Bu hl hH.fit) Ax) hB om) ?_
 rintro _ _ ⟨_,_,⟨rfl,rfl⟩,rfl,rfl⟩
 refine Gr (Cn C)<|Ga C<|Ac<|Ap (S5 13 7 4 3 2)<|Dg C<|Ad<|Gm C<|Gr (Be C C)<|Ga C<|Ac<|A7 C (λa5=>?_)<|λa5=>?_
 ·exact absurd he a5
 refine Ad<|Gf fld54_1 C<|Gl ef ?_
 refine Gf fld32_2 C<|Gl ef ?_
 refine Gr (Ej C C)<|Ga C<|Ac<|Ap (S4 25 4 3 2)<|A7 C (λa9=>?_)<|λa9=>?_
 ·omega
 refine Ad<|Gf fld32_3 C<|Gl ty30 ?_
 refine Gr (Bk Al C)<|Gr (Br C C)<|Ga C<|Ac<|A7 C (λa8=>?_)<|λa8=>?_
 ·omega
 refine Aw<|Am<|Ah<|Ad<|Gf fld32_3 C<|Gl ty30 ?_
 refine Gr (Bk Al C)<|Ga C<|Ac<|Ar<|A5<|B1 (σ:=Nat) (λs=>([(2,pt b1),(3,pt b2),(4,pt b3),(8,e7 ((s:Nat):Int))]:Env)) (λs=>e8 b3 [e7 0,e7 0,e7 0,.slice none 0 0] 32::e8 b2 (ez e) 54::e8 b1 [e7 bd,e7<|bf.lt,e7<|bf.mr,.slice wa bf.ws.length wc] 32::I) (λs=>(s<=bf.ws.length)/\(placeG evC bf.ws e bf.ws.length=placeG evC bf.ws e s)) (λs=>s) (bf.ws.length) ⟨om,rfl⟩ (cx2<|Aa C<|Aa Cd Bp) Bg ?_
 rintro i hp
 obtain ⟨hi,hj⟩:=hp
 refine Ar<|Ar<|Bs mixed<|El 14<|Dr 0 C (Ai C)<|Dr 1 C (B2 C C)<|Dr 2 C (Ai C)<|Dw (d:=45) C (λba=>?_)<|λba=>?_
 ·refine Dro 3 C (Ab fld32_3 C) (Dro 4 C (A0 ty30) ?_)
  refine Dro 5 C (Ai C)<|Dro 6 C (Rsu C C)<|Dro 7 C (A3 (α:=Ev) (xs:=bf.ws) Al ty54 C C (Bu (Bu hl hH.fit) Ax) om om)<|Dro 8 C (Fg (α:=Ev) (xs:=bf.ws) fld54_1 C (Bu (Bu hl hH.fit) Ax) om)<|Dro 9 C (E9 (α:=Ev) (xs:=bf.ws) (u:=e7 ((e_ bf.ws<|(i:Int) - 1).tm)) ef C (Bu (Bu hl hH.fit) Ax) om om C)<|Dro 10 C (Ab fld54_1 C)<|Dro 11 C (A0 ef) ?_
  refine Dro 12 C (B2 C C)<|Dr 13 C (Av C C)<|Dz<|Ah<|Ap (S5 56 2 3 4 8)<|A7 C (λaa=>?_)<|λaa=>?_
  ·exact Aw<|Ah<|A5<|Ay<|Gm C<|Gr (Rsu C C)<|Ga C<|Bj<|Am<|Cb ((i - 1)) ⟨om,(place_step om aa hj)⟩
  refine Bt<|Aq<|Aq<|Bb<|Ah<|Ar<|Bs mixed<|El 8<|Dr 0 C (Ab fld32_3 C)<|Dr 1 C (A0 ty30) ?_
  refine Dr 3 C (Ai C)<|Dr 4 C (Bc (vs:=[_,_,_,_,_,_,_]) ty54) ?_
  refine Do (rs:=[2,5]) kr C C<|Eu ?_<|D6 ?_
  ·refine Sc2 C (Aj c_ C C<|CloneV (xs:=bf.ws) (Bu (Bu hl hH.fit) Ax) om) λbn bq=>?_
   refine Ds1 5<|Se1 C (Ce (α:=Ev) (cs:=(ez e)) (xs:=[⟨e.kd,e.tm,e.u,e.v,e.w,e.lb,e.sg⟩]) Al ty54 C C dc dc C kr C C) λbt=>?_
   refine Ds1 6<|Sc2 C (Aj c_ C C<|InsertV_two (i:=i) (xs:=bf.ws) (ys:=([⟨e.kd,e.tm,e.u,e.v,e.w,e.lb,e.sg⟩]:List Ev)) Bl om C om (by simp only [length_cons];omega) lcn) λa0 a6=>?_
   have M:List.take i bf.ws++([⟨e.kd,e.tm,e.u,e.v,e.w,e.lb,e.sg⟩]:List Ev)++List.drop i bf.ws=pushW bf e:=push_eq (place_stop (by intro h;first|omega|exact aa) hj)
   rw [M]
   refine Dr 7 C (Ab fld32_3 C)<|Cs kr ?_
   refine Ae 8 C (B6 (cs:=[_,_,_,_]) (vs:=[_]) (cs':=[_,_,_,_]) ty30) ?_
   rintro _ _ ⟨rfl,rfl⟩
   refine Ct kr ?_
   refine Ah<|Ad<|Gf fld32_1 C<|Gl ef ?_
   refine Gf fld54_1 C<|Gl ef ?_
   refine Gr (Dm C C)<|Gf fld32_1 C<|Ge0 (B6 (cs:=[_,_,_,_]) (vs:=[_]) (cs':=[_,_,_,_]) ef) ?_
   refine Ac<|Ap (S2 2 4)<|Ad<|Gl4 ty32 ?_
   refine Gf fld32_1 C<|Gl ef ?_
   refine Gf fld32_0 C<|Gl ef ?_
   refine Gr (Rsu C C)<|Gr (Rsu C C) ?_
   have Z:((if bf.lt<e.tm then e.tm else bf.lt) - bd) - 1=relM bd bf e:=by unfold relM;rw [ifmax]
   rw [Z]
   refine G.e (Aj c_ C C<|BRel_ok (bd:=bd) (lt:=if bf.lt<e.tm then e.tm else bf.lt) (mr:=bf.mr) (m:=(relM bd bf e)) Bi hB.asc'<|by rw [push_len];omega) ?_
   rintro _ _ ⟨_,_,⟨az,ab,a3,rfl,ax,rfl⟩,rfl,rfl⟩
   refine Gm C<|Gr (Ak C C)<|Gr (Ak C C)<|Ge1 (A4 ty32 C) λbv=>Ge0 (C5 ty32) ?_
   refine Ga C<|Ac<|Ap (S3 10 9 4)<|Ad<|Gl4 ty32 ?_
   refine Gm C<|Ge0 (C5 ty32) ?_
   exact Ga C<|Ga C<|Ac<|Az<|Cy C ty32 C C C mm C (vk 54 az ab (beyond (relM bd bf e)<|pushW bf e)::vk 54 a0 a6 (pushW bf e)::I) Bl ⟨az,ab,a0,a3,[vk 54 az ab (beyond (relM bd bf e)<|pushW bf e),vc 54 (.slice a0 (pushW bf e).length a6)<|pushW bf e],(by rw [ifmax];rfl),De mm,(Sl.upTo Bi ax),rfl⟩
  refine Se1 C (Ce (α:=Ev) (cs:=(ez e)) (xs:=[⟨e.kd,e.tm,e.u,e.v,e.w,e.lb,e.sg⟩]) Al ty54 C C dc dc C kr C C) λbg=>?_
  refine Ds1 2<|Sc2 C (Aj c_ C C<|CloneV (xs:=bf.ws) (Bu (Bu hl hH.fit) Ax) om) λbj be=>?_
  refine Ds1 6<|Sc2 C (Aj c_ C C<|InsertV_two (i:=i) (xs:=bf.ws) (ys:=([⟨e.kd,e.tm,e.u,e.v,e.w,e.lb,e.sg⟩]:List Ev)) Bl om C om (by simp only [length_cons];omega) lcn) λad au=>?_
  have M:List.take i bf.ws++([⟨e.kd,e.tm,e.u,e.v,e.w,e.lb,e.sg⟩]:List Ev)++List.drop i bf.ws=pushW bf e:=push_eq (place_stop (by intro h;first|omega|exact aa) hj)
  rw [M]
  refine Dr 7 C (Ab fld32_3 C)<|Cs kr ?_
  refine Ae 8 C (B6 (cs:=[_,_,_,_]) (vs:=[_]) (cs':=[_,_,_,_]) ty30) ?_
  rintro _ _ ⟨rfl,rfl⟩
  refine Ct kr ?_
  refine Ah<|Ad<|Gf fld32_1 C<|Gl ef ?_
  refine Gf fld54_1 C<|Gl ef ?_
  refine Gr (Dm C C)<|Gf fld32_1 C<|Ge0 (B6 (cs:=[_,_,_,_]) (vs:=[_]) (cs':=[_,_,_,_]) ef) ?_
  refine Ac<|Ap (S2 2 4)<|Ad<|Gl4 ty32 ?_
  refine Gf fld32_1 C<|Gl ef ?_
  refine Gf fld32_0 C<|Gl ef ?_
  refine Gr (Rsu C C)<|Gr (Rsu C C) ?_
  have Z:((if bf.lt<e.tm then e.tm else bf.lt) - bd) - 1=relM bd bf e:=by unfold relM;rw [ifmax]
  rw [Z]
  refine G.e (Aj c_ C C<|BRel_ok (bd:=bd) (lt:=if bf.lt<e.tm then e.tm else bf.lt) (mr:=bf.mr) (m:=(relM bd bf e)) Bi hB.asc'<|by rw [push_len];omega) ?_
  rintro _ _ ⟨_,_,⟨ao,ak,a1,rfl,ay,rfl⟩,rfl,rfl⟩
  refine Gm C<|Gr (Ak C C)<|Gr (Ak C C)<|Ge1 (A4 ty32 C) λbo=>Ge0 (C5 ty32) ?_
  refine Ga C<|Ac<|Ap (S3 10 9 4)<|Ad<|Gl4 ty32 ?_
  refine Gm C<|Ge0 (C5 ty32) ?_
  exact Ga C<|Ga C<|Ac<|Az<|Cy C ty32 C C C mm C (vk 54 ao ak (beyond (relM bd bf e)<|pushW bf e)::vk 54 ad au (pushW bf e)::I) Bl ⟨ao,ak,ad,a1,[vk 54 ao ak (beyond (relM bd bf e)<|pushW bf e),vc 54 (.slice ad (pushW bf e).length au)<|pushW bf e],(by rw [ifmax];rfl),De mm,(Sl.upTo Bi ay),rfl⟩
 refine Dpo 3 C<|Dpo 4 C<|Dpo 5 C<|Dpo 6 C<|Dpo 7 C<|Dpo 8 C<|Dpo 9 C<|Dpo 10 C<|Dpo 11 C<|Dpo 12 C<|Dr 13 C (Au C C)<|Dz<|Ah<|Ap (S5 56 2 3 4 8)<|Dg C<|Bt<|Aq<|Aq<|Bb<|Ah<|Ar<|Bs mixed<|El 8<|Dr 0 C (Ab fld32_3 C)<|Dr 1 C (A0 ty30) ?_
 refine Dr 3 C (Ai C)<|Dr 4 C (Bc (vs:=[_,_,_,_,_,_,_]) ty54) ?_
 refine Do (rs:=[2,5]) kr C C<|Eu ?_<|D6 ?_
 ·refine Sc2 C (Aj c_ C C<|CloneV (xs:=bf.ws) (Bu (Bu hl hH.fit) Ax) om) λbk bh=>?_
  refine Ds1 5<|Se1 C (Ce (α:=Ev) (cs:=(ez e)) (xs:=[⟨e.kd,e.tm,e.u,e.v,e.w,e.lb,e.sg⟩]) Al ty54 C C dc dc C kr C C) λbb=>?_
  refine Ds1 6<|Sc2 C (Aj c_ C C<|InsertV_two (i:=i) (xs:=bf.ws) (ys:=([⟨e.kd,e.tm,e.u,e.v,e.w,e.lb,e.sg⟩]:List Ev)) Bl om C om (by simp only [length_cons];omega) lcn) λap ar=>?_
  have M:List.take i bf.ws++([⟨e.kd,e.tm,e.u,e.v,e.w,e.lb,e.sg⟩]:List Ev)++List.drop i bf.ws=pushW bf e:=push_eq (place_stop (by intro h;first|omega|exact aa) hj)
  rw [M]
  refine Dr 7 C (Ab fld32_3 C)<|Cs kr ?_
  refine Ae 8 C (B6 (cs:=[_,_,_,_]) (vs:=[_]) (cs':=[_,_,_,_]) ty30) ?_
  rintro _ _ ⟨rfl,rfl⟩
  refine Ct kr ?_
  refine Ah<|Ad<|Gf fld32_1 C<|Gl ef ?_
  refine Gf fld54_1 C<|Gl ef ?_
  refine Gr (Dm C C)<|Gf fld32_1 C<|Ge0 (B6 (cs:=[_,_,_,_]) (vs:=[_]) (cs':=[_,_,_,_]) ef) ?_
  refine Ac<|Ap (S2 2 4)<|Ad<|Gl4 ty32 ?_
  refine Gf fld32_1 C<|Gl ef ?_
  refine Gf fld32_0 C<|Gl ef ?_
  refine Gr (Rsu C C)<|Gr (Rsu C C) ?_
  have Z:((if bf.lt<e.tm then e.tm else bf.lt) - bd) - 1=relM bd bf e:=by unfold relM;rw [ifmax]
  rw [Z]
  refine G.e (Aj c_ C C<|BRel_ok (bd:=bd) (lt:=if bf.lt<e.tm then e.tm else bf.lt) (mr:=bf.mr) (m:=(relM bd bf e)) Bi hB.asc'<|by rw [push_len];omega) ?_
  rintro _ _ ⟨_,_,⟨ai,ae,a4,rfl,av,rfl⟩,rfl,rfl⟩
  refine Gm C<|Gr (Ak C C)<|Gr (Ak C C)<|Ge1 (A4 ty32 C) λbr=>Ge0 (C5 ty32) ?_
  refine Ga C<|Ac<|Ap (S3 10 9 4)<|Ad<|Gl4 ty32 ?_
  refine Gm C<|Ge0 (C5 ty32) ?_
  exact Ga C<|Ga C<|Ac<|Az<|Cy C ty32 C C C mm C (vk 54 ai ae (beyond (relM bd bf e)<|pushW bf e)::vk 54 ap ar (pushW bf e)::I) Bl ⟨ai,ae,ap,a4,[vk 54 ai ae (beyond (relM bd bf e)<|pushW bf e),vc 54 (.slice ap (pushW bf e).length ar)<|pushW bf e],(by rw [ifmax];rfl),De mm,(Sl.upTo Bi av),rfl⟩
 refine Se1 C (Ce (α:=Ev) (cs:=(ez e)) (xs:=[⟨e.kd,e.tm,e.u,e.v,e.w,e.lb,e.sg⟩]) Al ty54 C C dc dc C kr C C) λbm=>?_
 refine Ds1 2<|Sc2 C (Aj c_ C C<|CloneV (xs:=bf.ws) (Bu (Bu hl hH.fit) Ax) om) λbc bi=>?_
 refine Ds1 6<|Sc2 C (Aj c_ C C<|InsertV_two (i:=i) (xs:=bf.ws) (ys:=([⟨e.kd,e.tm,e.u,e.v,e.w,e.lb,e.sg⟩]:List Ev)) Bl om C om (by simp only [length_cons];omega) lcn) λah aq=>?_
 have M:List.take i bf.ws++([⟨e.kd,e.tm,e.u,e.v,e.w,e.lb,e.sg⟩]:List Ev)++List.drop i bf.ws=pushW bf e:=push_eq (place_stop (by intro h;first|omega|exact aa) hj)
 rw [M]
 refine Dr 7 C (Ab fld32_3 C)<|Cs kr ?_
 refine Ae 8 C (B6 (cs:=[_,_,_,_]) (vs:=[_]) (cs':=[_,_,_,_]) ty30) ?_
 rintro _ _ ⟨rfl,rfl⟩
 refine Ct kr ?_
 refine Ah<|Ad<|Gf fld32_1 C<|Gl ef ?_
 refine Gf fld54_1 C<|Gl ef ?_
 refine Gr (Dm C C)<|Gf fld32_1 C<|Ge0 (B6 (cs:=[_,_,_,_]) (vs:=[_]) (cs':=[_,_,_,_]) ef) ?_
 refine Ac<|Ap (S2 2 4)<|Ad<|Gl4 ty32 ?_
 refine Gf fld32_1 C<|Gl ef ?_
 refine Gf fld32_0 C<|Gl ef ?_
 refine Gr (Rsu C C)<|Gr (Rsu C C) ?_
 have Z:((if bf.lt<e.tm then e.tm else bf.lt) - bd) - 1=relM bd bf e:=by unfold relM;rw [ifmax]
 rw [Z]
 refine G.e (Aj c_ C C<|BRel_ok (bd:=bd) (lt:=if bf.lt<e.tm then e.tm else bf.lt) (mr:=bf.mr) (m:=(relM bd bf e)) Bi hB.asc'<|by rw [push_len];omega) ?_
 rintro _ _ ⟨_,_,⟨an,aj,a7,rfl,aw,rfl⟩,rfl,rfl⟩
 refine Gm C<|Gr (Ak C C)<|Gr (Ak C C)<|Ge1 (A4 ty32 C) λbw=>Ge0 (C5 ty32) ?_
 refine Ga C<|Ac<|Ap (S3 10 9 4)<|Ad<|Gl4 ty32 ?_
 refine Gm C<|Ge0 (C5 ty32) ?_
 exact Ga C<|Ga C<|Ac<|Az<|Cy C ty32 C C C mm C (vk 54 an aj (beyond (relM bd bf e)<|pushW bf e)::vk 54 ah aq (pushW bf e)::I) Bl ⟨an,aj,ah,a7,[vk 54 an aj (beyond (relM bd bf e)<|pushW bf e),vc 54 (.slice ah (pushW bf e).length aq)<|pushW bf e],(by rw [ifmax];rfl),De mm,(Sl.upTo Bi aw),rfl⟩
variable {κ:Ctx}{I:List Item}
theorem BCopied_ok{bf:BfS}(hl:Sl κ I (.slice wa bf.ws.length wc) bf.ws)(hw:bf.ws.length<=4096):eu prog κ 93 [.agg #[e7 bd,e7 (bf.lt),e7 (bf.mr),.slice wa bf.ws.length wc]] I (λr J=>∃(a:Option Addr) (c:Nat),r = .agg #[e7 bd,e7 bf.lt,e7 bf.mr,.slice a bf.ws.length c]/\J=vk 54 a c bf.ws::I):=by
 refine Ce1 Tryz.func93 C C ?_
 refine Ad<|Ge1 (Bd (cs:=[_,_,_,_]) C C C) λb1=>Ge1 (A4 ty32 C) λb2=>Ac<|Ad<|Gf fld32_3 C<|Gl ty30 ?_
 refine Gc2 (Aj c_ C C<|CloneV (xs:=bf.ws) (A8 hl) om) λM Z=>?_
 refine Gf fld32_3 C<|Ge0 (B6 (cs:=[_,_,_,_]) (vs:=[_]) (cs':=[_,_,_,_]) ty30) ?_
 refine Ac<|Ad<|Gl4 ty32 ?_
 refine Ge0 (C5 ty32) ?_
 exact Ac<|Az<|Ez C ty32 C mm C (vk 54 M Z bf.ws::I) Bl ⟨M,Z,rfl,rfl⟩
theorem BFlush_ok{bf:BfS}(hH:Has I T)(hl:Sl κ T (.slice wa bf.ws.length wc) bf.ws)(Z:BfOk bd bf)(hw:bf.ws.length<=4096):eu prog κ 65 [.agg #[e7 bd,e7 (bf.lt),e7 (bf.mr),.slice wa bf.ws.length wc]] I (λr J=>∃(a:Option Addr) (c:Nat) (a2:Option Addr) (c2:Nat) (Y:List Item),r = .tuple #[.agg #[e7 bd,e7 bf.flush.lt,e7 bf.flush.mr,.slice a bf.flush.ws.length c],.slice a2 (bf.ws).length c2,e7 0]/\Sl κ (Y++T) (.slice a bf.flush.ws.length c) bf.flush.ws/\Sl κ (Y++T) (.slice a2 bf.ws.length c2) bf.ws/\J=Y++I):=by
 have az:=Z.bd
 have a0:=Z.lt
 have ax:=Z.mr
 refine Ce1 Tryz.func65 C C ?_
 refine Ad<|Ge1 (Bd (cs:=[_,_,_,_]) C C C) λb1=>Ge1 (A4 ty32 C) λb2=>Ga C<|Ga C<|Ac<|Ar<|Ad<|Gl4 ty32 ?_
 refine G.e (Aj c_ C C<|BValid_ok (bd:=bd) (bf:=bf) (Bu (Bu hl hH.fit) Ax) Z om) ?_
 rintro _ _ ⟨_,_,⟨rfl,rfl⟩,rfl,rfl⟩
 refine Gr (Cn C)<|Ac<|Dg C<|Aw<|Ah<|Ar<|Bs mixed<|El 11<|Dr 0 C (Bc (vs:=[_,_,_,_]) ty32) ?_
 refine Dr 2 C (Ab fld32_1 C)<|Dr 3 C (A0 ef) ?_
 refine Do (rs:=[1,8]) kr C C<|Eu ?_<|D6 ?_
 ·refine Sc2 C (Aj c_ C C<|BCopied_ok (bd:=bd) (bf:=bf) (Bu (Bu hl hH.fit) Ax) om) λM aj=>?_
  refine Do (rs:=[4,8]) kr C C<|Eu ?_<|D6 ?_
  ·refine Se C (Aj c_ C C<|BRel_ok (bd:=bd) (lt:=bf.lt) (mr:=bf.mr) (m:=bf.lt) Bi Z.asc om) ?_
   rintro _ _ ⟨_,_,⟨ao,aq,aw,rfl,ar,rfl⟩,rfl,rfl⟩
   refine ⟨Ax,?_⟩
   refine Dr 5 C (Ai C)<|Dr 6 C (Ak C C)<|Dr 7 C (Ak C C)<|Ds1 8<|Se1 C (A4 ty32 C) λb8=>?_
   refine Ds1 9<|Se0 C (C5 ty32) ?_
   refine Dr 10 C (Bf C)<|Dz<|Ah<|Ap (S3 6 5 2)<|Ad<|Gl4 ty32 ?_
   refine Gm C<|Ge0 (C5 ty32) ?_
   refine Ga C<|Ga C<|Ac<|Az ?_
   have ab:max bf.mr bf.lt=bf.lt:=by omega
   exact Cy C ty32 C C C mm C (vk 54 ao aq (beyond bf.lt bf.ws)::vk 54 M aj bf.ws::I) Bl ⟨ao,aq,M,aw,[vk 54 ao aq (beyond bf.lt bf.ws),vc 54 (.slice M bf.ws.length aj)<|bf.ws],(by rw [ab,Z.none,Z.all];rfl),Sl.cast (xs:=beyond bf.lt bf.ws) Bi Z.none,Sl.cast (xs:=upTo bf.lt bf.ws) (Sl.upTo Bi ar) Z.all,rfl⟩
  refine Se1 C (A4 ty32 C) λb9=>?_
  refine Ds1 4<|Se C (Aj c_ C C<|BRel_ok (bd:=bd) (lt:=bf.lt) (mr:=bf.mr) (m:=bf.lt) Bi Z.asc om) ?_
  rintro _ _ ⟨_,_,⟨ah,ai,av,rfl,ap,rfl⟩,rfl,rfl⟩
  refine ⟨Ax,?_⟩
  refine Dr 5 C (Ai C)<|Dr 6 C (Ak C C)<|Dr 7 C (Ak C C)<|Ds1 9<|Se0 C (C5 ty32) ?_
  refine Dr 10 C (Bf C)<|Dz<|Ah<|Ap (S3 6 5 2)<|Ad<|Gl4 ty32 ?_
  refine Gm C<|Ge0 (C5 ty32) ?_
  refine Ga C<|Ga C<|Ac<|Az ?_
  have ab:max bf.mr bf.lt=bf.lt:=by omega
  exact Cy C ty32 C C C mm C (vk 54 ah ai (beyond bf.lt bf.ws)::vk 54 M aj bf.ws::I) Bl ⟨ah,ai,M,av,[vk 54 ah ai (beyond bf.lt bf.ws),vc 54 (.slice M bf.ws.length aj)<|bf.ws],(by rw [ab,Z.none,Z.all];rfl),Sl.cast (xs:=beyond bf.lt bf.ws) Bi Z.none,Sl.cast (xs:=upTo bf.lt bf.ws) (Sl.upTo Bi ap) Z.all,rfl⟩
 refine Se1 C (A4 ty32 C) λay=>?_
 refine Ds1 1<|Sc2 C (Aj c_ C C<|BCopied_ok (bd:=bd) (bf:=bf) (Bu (Bu hl hH.fit) Ax) om) λad ak=>?_
 refine Ds1 4<|Se C (Aj c_ C C<|BRel_ok (bd:=bd) (lt:=bf.lt) (mr:=bf.mr) (m:=bf.lt) Bi Z.asc om) ?_
 rintro _ _ ⟨_,_,⟨ae,aa,au,rfl,an,rfl⟩,rfl,rfl⟩
 refine ⟨Ax,?_⟩
 refine Dr 5 C (Ai C)<|Dr 6 C (Ak C C)<|Dr 7 C (Ak C C)<|Ds1 9<|Se0 C (C5 ty32) ?_
 refine Dr 10 C (Bf C)<|Dz<|Ah<|Ap (S3 6 5 2)<|Ad<|Gl4 ty32 ?_
 refine Gm C<|Ge0 (C5 ty32) ?_
 refine Ga C<|Ga C<|Ac<|Az ?_
 have ab:max bf.mr bf.lt=bf.lt:=by omega
 exact Cy C ty32 C C C mm C (vk 54 ae aa (beyond bf.lt bf.ws)::vk 54 ad ak bf.ws::I) Bl ⟨ae,aa,ad,au,[vk 54 ae aa (beyond bf.lt bf.ws),vc 54 (.slice ad bf.ws.length ak)<|bf.ws],(by rw [ab,Z.none,Z.all];rfl),Sl.cast (xs:=beyond bf.lt bf.ws) Bi Z.none,Sl.cast (xs:=upTo bf.lt bf.ws) (Sl.upTo Bi an) Z.all,rfl⟩
theorem BPushL_ok{e:Ev}{bf:BfS}(hl:Sl κ I (.slice wa bf.ws.length wc) bf.ws)(M:BfOk bd bf)(hw:bf.ws.length<=4096)(he:checkE e=0)(ht:e.tm<=bf.mr):eu prog κ 47 [.agg #[e7 bd,e7 (bf.lt),e7 (bf.mr),.slice wa bf.ws.length wc],.agg (ez e).toArray] I (λr J=>∃(a:Option Addr) (c:Nat),r = .tuple #[.agg #[e7 bd,e7 bf.lt,e7 bf.mr,.slice a bf.ws.length c],.slice none 0 0,e7 10]/\I=J):=by
 have ae:=M.bd
 have ai:=M.lt
 have ah:=M.mr
 refine Ce2 Tryz.func47 C C ?_
 refine Ad<|Ge1 (Bd (cs:=[_,_,_,_]) C C C) λb1=>Ge1 (Bd (cs:=[_,_,_,_,_,_,_]) C C C) λb2=>Ge1 (A4 ty32 C) λb3=>Ga C<|Ga C<|Ac<|Ad<|Gl7 ty54 ?_
 refine Gc0 (Aj c_ C C<|CheckE_ok e) ?_
 refine Ga C<|Ac<|Ar<|A5<|Ad<|Gl4 ty32 ?_
 refine G.e (Aj c_ C C<|BValid_ok (bd:=bd) (bf:=bf) (A8 hl) M om) ?_
 rintro _ _ ⟨_,_,⟨rfl,rfl⟩,rfl,rfl⟩
 refine Gr (Cn C)<|Ga C<|Ac<|Ap (S5 13 7 4 3 2)<|Dg C<|Ad<|Gm C<|Gr (Be C C)<|Ga C<|Ac<|A7 C (λZ=>?_)<|λZ=>?_
 ·exact absurd he Z
 refine Ad<|Gf fld54_1 C<|Gl ef ?_
 refine Gf fld32_2 C<|Gl ef ?_
 refine Gr (Ej C C)<|Ga C<|Ac<|Ap (S4 25 4 3 2)<|A7 C (λaa=>?_)<|λaa=>?_
 ·refine Ad (Gl4 ty32 ?_)
  refine Gc2 (Aj c_ C C<|BCopied_ok (bd:=bd) (bf:=bf) (A8 hl) om) λab ad=>?_
  refine Ge0 (C5 ty32) ?_
  exact Ga C<|Ga C<|Ac<|Az<|Ba<|Ao<|Cy C ty32 C C C mm C I Ax ⟨ab,ad,rfl,rfl⟩
 omega
theorem BOpen_ok(hb:0<=bd/\bd<=1048576):eu prog κ 39 [e7 bd] I (λr J=>r = .tuple #[.agg #[e7 bd,e7 (-1),e7 (-1),.slice none 0 0],e7 0]/\I=J):=by
 refine Ce1 Tryz.func39 C C ?_
 refine Ad<|Ge1 (A4 ty32 C) λb1=>Ga C<|Ac<|Ar<|Ad<|Gm C<|Gr (A9 C C)<|Gm C<|Bh (d:=6) C (λZ=>?_)<|λZ=>?_
 ·omega
 refine e9 (Ai C)<|e9 (B2 C C)<|Gr (Au C C)<|Ac<|A7 C (λM=>?_)<|λM=>?_
 ·omega
 refine Aw<|Ah<|Ad<|Gm C<|Gr (Bq (cells:=[_,_,_,_]) ty32 Tryz.underlying32 pl32 C C)<|Ge0 (C5 ty32) ?_
 exact Ga C<|Ac<|Az<|C0 C ty32 C C mm C I Ax ⟨rfl,rfl⟩
variable {κ:Ctx}{I:List Item}
structure KpV where
 w:SlA
 l:SlA
 p:PkV
abbrev kx(kd wd mo bd nd:Int)(k:EnS)(v:KpV):List Value:=[e7 kd,e7 wd,e7 mo,e7 bd,e7 k.b.lt,e7 k.b.mr,.slice v.w.a k.b.ws.length v.w.c,e7 nd,.slice v.l.a k.S.length v.l.c,e7 nd,.slice v.p.e1.a (edgesK k.S).length v.p.e1.c,.slice v.p.n1.a (coreN nd (edgesK k.S)).length v.p.n1.c,e7 nd,.slice v.p.e2.a (edgesK k.S).length v.p.e2.c,.slice v.p.n2.a (trussG nd (edgesK k.S)).length v.p.n2.c,e7 nd,.slice v.p.e3.a (edgesK k.S).length v.p.e3.c,e7 (triS nd (edgesK k.S) / 3),.slice v.p.n3.a (triL nd (edgesK k.S)).length v.p.n3.c,e7 nd,.slice v.p.e4.a (edgesK k.S).length v.p.e4.c,e7 (wedgeC nd (edgesK k.S)),e7 (quadC nd (edgesK k.S)),.slice v.p.n4.a (quadL nd (edgesK k.S)).length v.p.n4.c,e7 k.tm]
structure KpF (κ:Ctx) (T:List Item) (nd:Int) (k:EnS) (v:KpV):Prop where
 w:Sl κ T (.slice v.w.a k.b.ws.length v.w.c) k.b.ws
 l:Sl κ T (.slice v.l.a k.S.length v.l.c) k.S
 p:PkR κ T nd (edgesK k.S) v.p
theorem KpF.fit{κ:Ctx}{I J:List Item}{k:EnS}{v:KpV}(h:KpF κ I nd k v)(f:Fit κ J I):KpF κ J nd k v:=⟨h.w.fit f,h.l.fit f,h.p.fit f⟩
theorem kept_tm{k:EnS}(h:EnOk nd kd wd mo bd k):k.S.any (λx=>decide (k.tm<x.tm))=false:=by
 rw [Bool.eq_false_iff]
 intro h1
 obtain ⟨x,Z,M⟩:=List.any_eq_true.1 h1
 have:=h.inv.tm x Z
 have:=of_decide_eq_true M
 omega
theorem KVal1_ok(hb:BlkRd κ I b [x0,x1,x2,x3,x4,x5,x6,x7,x8,x9,aj,M,ap,ab,aa,ae,aq,ah,an,ai,Z,ad,ao,ak,e7 (tm)] 47)(x:Lk):eu prog κ 59 [.agg (kl x).toArray,(pt b)] I (λr J=>r = .bool (decide (tm<x.tm))/\I=J):=by
 refine Ce2 Tryz.func59 C C ?_
 refine Ad<|Ge1 (Bd (cs:=[_,_,_,_,_,_]) C C C) λb1=>Ga C<|Ac<|Ad<|Gf fld82_5 C<|Gl ef ?_
 exact Gf fld47_7 C<|Gr (Ef ef C (Ep hb Ax) C)<|Gr (B2 C C)<|Ga C<|Ac<|Az<|A1 C C I Ax ⟨rfl,rfl⟩
theorem KVal1_says(hb:BlkRd κ I b [x0,x1,x2,x3,x4,x5,x6,x7,x8,x9,aj,M,ap,ab,aa,ae,aq,ah,an,ai,Z,ad,ao,ak,e7 (tm)] 47):Says prog κ I 59 [(pt b)] (λx:Lk=>decide (tm<x.tm)):=⟨c_,λx J hf=>KVal1_ok (hb.fit hf) x⟩
theorem KVal20_ok(hl:Sl κ I (.slice ea es.length ec) es)(hm:Sl κ I (.slice na (coreN nd es).length nc) (coreN nd es))(hG:GrOk nd es)(hg:Sl κ I (.slice ga es.length gc) es)(hT:TabRd κ I 0 tzCells):eu prog κ 63 [.iface 170 ((pt b)),(pt gb)] (e8 b [e7 nd,.slice ea es.length ec,.slice na (coreN nd es).length nc,y3,y4,y5,y6,y7,y8,y9,Z,aa,ad,ab,M] 169::e8 gb [e7 nd,.slice ga es.length gc] 38::I) (λr J=>r = .bool false/\J=e8 b [e7 nd,.slice ea es.length ec,.slice na (coreN nd es).length nc,y3,y4,y5,y6,y7,y8,y9,Z,aa,ad,ab,M] 169::e8 gb [e7 nd,.slice ga es.length gc] 38::I):=by
 refine Ce2 Tryz.func63 C C ?_
 refine Ad<|Ga C<|Ac<|Ad<|Gm C<|Gl2 ty38 ?_
 refine G.e (D4 c_ C (λw=>by kernel_rfl) C C<|Cp (J:=e8 b [e7 nd,.slice ea es.length ec,.slice na (coreN nd es).length nc,y3,y4,y5,y6,y7,y8,y9,Z,aa,ad,ab,M] 169::e8 gb [e7 nd,.slice ga es.length gc] 38::I) Bl<|Val0_ok (b:=b) (A8 hl) (A8 hm) hG (A8 hg)<|Bn hT Ax) ?_
 rintro _ _ ⟨_,_,⟨rfl,rfl⟩,rfl,rfl⟩
 exact Gr (Cn C)<|Ga C<|Ac<|Az<|A1 C C (e8 b [e7 nd,.slice ea es.length ec,.slice na (coreN nd es).length nc,y3,y4,y5,y6,y7,y8,y9,Z,aa,ad,ab,M] 169::e8 gb [e7 nd,.slice ga es.length gc] 38::I) Bl ⟨rfl,rfl⟩
theorem KVal21_ok(hl:Sl κ I (.slice ea es.length ec) es)(hm:Sl κ I (.slice na (trussG nd es).length nc) (trussG nd es))(hG:GrOk nd es)(hg:Sl κ I (.slice ga es.length gc) es)(hT:TabRd κ I 0 tzCells):eu prog κ 63 [.iface 171 (.pointer (some ⟨b,3,none⟩)),(pt gb)] (e8 b [y0,y1,y2,e7 nd,.slice ea es.length ec,.slice na (trussG nd es).length nc,y6,y7,y8,y9,Z,aa,ad,ab,M] 169::e8 gb [e7 nd,.slice ga es.length gc] 38::I) (λr J=>r = .bool false/\J=e8 b [y0,y1,y2,e7 nd,.slice ea es.length ec,.slice na (trussG nd es).length nc,y6,y7,y8,y9,Z,aa,ad,ab,M] 169::e8 gb [e7 nd,.slice ga es.length gc] 38::I):=by
 refine Ce2 Tryz.func63 C C ?_
 refine Ad<|Ga C<|Ac<|Ad<|Gm C<|Gl2 ty38 ?_
 refine G.e (D4 c_ C (λw=>by kernel_rfl) C C<|Cp (J:=e8 b [y0,y1,y2,e7 nd,.slice ea es.length ec,.slice na (trussG nd es).length nc,y6,y7,y8,y9,Z,aa,ad,ab,M] 169::e8 gb [e7 nd,.slice ga es.length gc] 38::I) Bl<|Val1_ok (b:=b) (A8 hl) (A8 hm) hG (A8 hg)<|Bn hT Ax) ?_
 rintro _ _ ⟨_,_,⟨rfl,rfl⟩,rfl,rfl⟩
 exact Gr (Cn C)<|Ga C<|Ac<|Az<|A1 C C (e8 b [y0,y1,y2,e7 nd,.slice ea es.length ec,.slice na (trussG nd es).length nc,y6,y7,y8,y9,Z,aa,ad,ab,M] 169::e8 gb [e7 nd,.slice ga es.length gc] 38::I) Bl ⟨rfl,rfl⟩
theorem KVal22_ok(hl:Sl κ I (.slice ea es.length ec) es)(hm:Sl κ I (.slice na (triL nd es).length nc) (triL nd es))(hG:GrOk nd es)(hg:Sl κ I (.slice ga es.length gc) es)  :
    eu prog κ 63 [.iface 172 (.pointer<|some ⟨b,6,none⟩),pt gb] (e8 b [y0,y1,y2,y3,y4,y5,e7 nd,.slice ea es.length ec,e7<|triS nd es / 3,.slice na (triL nd es).length nc,Z,aa,ad,ab,M] 169::e8 gb [e7 nd,.slice ga es.length gc] 38::I) (λr J=>r = .bool false/\J=e8 b [y0,y1,y2,y3,y4,y5,e7 nd,.slice ea es.length ec,e7<|triS nd es / 3,.slice na (triL nd es).length nc,Z,aa,ad,ab,M] 169::e8 gb [e7 nd,.slice ga es.length gc] 38::I):=by
 refine Ce2 Tryz.func63 C C ?_
 refine Ad<|Ga C<|Ac<|Ad<|Gm C<|Gl2 ty38 ?_
 refine G.e (D4 c_ C (λw=>by kernel_rfl) C C<|Cp (J:=e8 b [y0,y1,y2,y3,y4,y5,e7 nd,.slice ea es.length ec,e7<|triS nd es / 3,.slice na (triL nd es).length nc,Z,aa,ad,ab,M] 169::e8 gb [e7 nd,.slice ga es.length gc] 38::I) Bl<|Val2_ok (b:=b) (A8 hl) (A8 hm) hG<|A8 hg) ?_
 rintro _ _ ⟨_,_,⟨rfl,rfl⟩,rfl,rfl⟩
 exact Gr (Cn C)<|Ga C<|Ac<|Az<|A1 C C (e8 b [y0,y1,y2,y3,y4,y5,e7 nd,.slice ea es.length ec,e7<|triS nd es / 3,.slice na (triL nd es).length nc,Z,aa,ad,ab,M] 169::e8 gb [e7 nd,.slice ga es.length gc] 38::I) Bl ⟨rfl,rfl⟩
theorem KVal23_ok{Z:Option Addr}{M:Nat}(hl:Sl κ I (.slice ea es.length M) es)(hm:Sl κ I (.slice Z (quadL nd es).length nc) (quadL nd es))(hG:GrOk nd es)(hg:Sl κ I (.slice ga es.length gc) es)(hT:TabRd κ I 0 tzCells):eu prog κ 63 [.iface 173 (.pointer (some ⟨b,10,none⟩)),(pt gb)] (e8 b [y0,y1,y2,y3,y4,y5,y6,y7,y8,y9,e7 nd,.slice ea es.length M,e7 (wedgeC nd es),e7 (quadC nd es),.slice Z (quadL nd es).length nc] 169::e8 gb [e7 nd,.slice ga es.length gc] 38::I) (λr J=>r = .bool false/\J=e8 b [y0,y1,y2,y3,y4,y5,y6,y7,y8,y9,e7 nd,.slice ea es.length M,e7 (wedgeC nd es),e7 (quadC nd es),.slice Z (quadL nd es).length nc] 169::e8 gb [e7 nd,.slice ga es.length gc] 38::I):=by
 refine Ce2 Tryz.func63 C C ?_
 refine Ad<|Ga C<|Ac<|Ad<|Gm C<|Gl2 ty38 ?_
 refine G.e (D4 c_ C (λw=>by kernel_rfl) C C<|Cp (J:=e8 b [y0,y1,y2,y3,y4,y5,y6,y7,y8,y9,e7 nd,.slice ea es.length M,e7<|wedgeC nd es,e7<|quadC nd es,.slice Z (quadL nd es).length nc] 169::e8 gb [e7 nd,.slice ga es.length gc] 38::I) Bl<|Val3_ok (b:=b) (A8 hl) (A8 hm) hG (A8 hg)<|Bn hT Ax) ?_
 rintro _ _ ⟨_,_,⟨rfl,rfl⟩,rfl,rfl⟩
 exact Gr (Cn C)<|Ga C<|Ac<|Az<|A1 C C (e8 b [y0,y1,y2,y3,y4,y5,y6,y7,y8,y9,e7 nd,.slice ea es.length M,e7<|wedgeC nd es,e7<|quadC nd es,.slice Z (quadL nd es).length nc] 169::e8 gb [e7 nd,.slice ga es.length gc] 38::I) Bl ⟨rfl,rfl⟩
end Go.Sl
