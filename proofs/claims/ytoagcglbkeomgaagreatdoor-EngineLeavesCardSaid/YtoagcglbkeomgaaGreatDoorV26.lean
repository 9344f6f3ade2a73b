/- A part of the proofs of statements of this seat: contracts of functions, and the plain laws that they lean on. No conditions. -/
import Derived.Test.YtoagcglbkeomgaaGreatDoorV25
set_option linter.unusedVariables false
set_option linter.unusedSimpArgs false
set_option linter.unusedSectionVars false
open Go.Proofs.Tryz (prog)
set_option maxHeartbeats 8000000
namespace Go.Sl
open Go.Proofs
set_option maxRecDepth 4000
variable{bd:Int}{a va wa:Option Addr}{T:List Item}{M c i n:Nat}{l xs ys:List Ev}
attribute [local irreducible] W G V D A j8 Eff
theorem ta2{p:Prop}(h:p:=by repeat (first|assumption|exact Bf _|apply Be|apply B4|apply Bn)):p:=h
theorem ta7{p:Prop}(h:p:=by rw [Fr];exact Az):p:=h
theorem tb2{p:Prop}(h:p:=by simp only [Jc,Fr];exact Az):p:=h
theorem do7{κ:Ctx}{I:List Item}{nd kd wd mo lt mr tm:Int}{wn wc:Nat}{lv:SlA}{pv:PkV}{X:List Lk}(hH:Has I T)(hl:Sl κ T (.slice lv.a X.length lv.c) X)(hp:PkR κ T nd (j5 X) pv)(hI:SlI nd kd wd tm X){xe:Ev}(hw:s7 kd wd mo=0)(hx:H7 nd xe)(bq:0<=tm/\tm<=xe.tm)(hT:F4 κ I 0 p6):eu prog κ 81 [.agg (ky kd wd mo bd lt mr wa wn wc nd lv.a X.length lv.c (j5 X) pv tm).toArray,.agg (ez xe).toArray] I (λr J=>∃(lw:SlA) (pw:PkV) (Y:List Item) (a:Option Addr) (c:Nat),r = .tuple #[.agg (ky kd wd mo bd lt mr wa wn wc nd lw.a ((p5 kd wd mo (X,[]) xe).1).length lw.c (j5 ((p5 kd wd mo (X,[]) xe).1)) pw xe.tm).toArray,.slice a (p5 kd wd mo (X,[]) xe).2.length c,e7 0]/\Sl κ (Y++T) (.slice lw.a (p5 kd wd mo (X,[]) xe).1.length lw.c) (p5 kd wd mo (X,[]) xe).1/\PkR κ (Y++T) nd (j5 (p5 kd wd mo (X,[]) xe).1) pw/\Sl κ (Y++T) (.slice a (p5 kd wd mo (X,[]) xe).2.length c) (p5 kd wd mo (X,[]) xe).2/\J=Y++I):=by
 have bh:=hx.tm
 have bo:=q9 (F1 hI.val)
 rw [G5] at bo
 refine Ce2 Tryz.func81 C C ?_
 refine Ak<|Ge1 (Au (cs:=[_,_,_,_,_,_,_,_,_,_,_,_,_,_,_,_,_,_,_,_,_,_,_,_,_]) C C C) λb1=>Ge1 (Au (cs:=[_,_,_,_,_,_,_]) C C C) λb2=>Ge1 (Aj H2 C) λb3=>Z ?_
 refine G.e (Ac c_ C C<|ab4 xe) ?_
 rintro _ _ ⟨_,_,⟨rfl,rfl⟩,rfl,rfl⟩
 refine Z ?_
 refine Am C (λbe=>?_)<|λbe=>Z ?_
 ·exact absurd hx.chk be
 refine Gc0 (Ac c_ C C<|bu2 (nd:=nd) (e:=xe) hx)<|Z ?_
 refine Am C (λbt=>?_)<|λbt=>Z ?_
 ·omega
 refine G.e (Ac c_ C C<|fk3 (Bg hl<|B0 (κ:=κ)<|by repeat (first|exact hH|exact Bf _|apply Be|apply B4|apply Bn)) hI.val hw om) ?_
 rintro _ _ ⟨_,_,⟨bj,ba,rfl,rfl⟩,rfl,rfl⟩
 refine Z ?_
 refine B9 (σ:=(List Lk)×SlA×PkV×(List Item)×(Option Addr)×Nat×(Option Addr)×Nat×(List Ev)) (λs=>([(2,pt b1),(3,pt b2),(4,pt b3),(8,.slice s.2.2.2.2.2.2.1 s.2.2.2.2.2.2.2.2.length s.2.2.2.2.2.2.2.1),(10,.slice s.2.2.2.2.1 (P3 kd wd mo xe.tm s.1).length s.2.2.2.2.2.1)]:Env)) (λs=>vk 54 s.2.2.2.2.2.2.1 s.2.2.2.2.2.2.2.1 s.2.2.2.2.2.2.2.2::vk 54 s.2.2.2.2.1 s.2.2.2.2.2.1 (P3 kd wd mo xe.tm s.1)::e8 b3 zk 47::e8 b2 (ez xe) 54::e8 b1 (ky kd wd mo bd lt mr wa wn wc nd s.2.1.a s.1.length s.2.1.c (j5 s.1) s.2.2.1 tm) 47::(s.2.2.2.1++I)) (λs=>(Q0 kd wd mo xe.tm (X,[])=Q0 kd wd mo xe.tm (s.1,s.2.2.2.2.2.2.2.2))/\(q7 nd s.1=0)/\(Sl κ (s.2.2.2.1++T) (.slice s.2.1.a s.1.length s.2.1.c) s.1)/\(PkR κ (s.2.2.2.1++T) nd (j5 s.1) s.2.2.1)/\(s.2.2.2.2.2.2.2.2.length+s.1.length<=X.length)) (λs=>s.1.length) (X,lv,pv,[],bj,ba,none,0,[]) (show (Q0 kd wd mo xe.tm (X,[])=Q0 kd wd mo xe.tm ((X:List Lk),([]:List Ev)))/\(q7 nd (X:List Lk)=0)/\(Sl κ (([]:List Item)++T) (.slice (lv:SlA).a (X:List Lk).length (lv:SlA).c) (X:List Lk))/\(PkR κ (([]:List Item)++T) nd (j5 (X:List Lk)) (pv:PkV))/\(([]:List Ev).length+(X:List Lk).length<=X.length) from ⟨rfl,hI.val,hl,hp,(by simp)⟩) (cx2<|Aa C<|Aa (Db C<|by first|rfl|simp)<|Aa (Db C<|by first|rfl|simp) Bb) (show Fit κ _ (vk 54 none 0 ([])::vk 54 bj ba (P3 kd wd mo xe.tm X)::e8 b3 zk 47::e8 b2 (ez xe) 54::e8 b1 (ky kd wd mo bd lt mr wa wn wc nd (lv).a (X).length (lv).c (j5 X) (pv) tm) 47::(([])++I)) from (A9 (show Fit κ _ _ from Az)<|B7 (α:=Ev) _ _)) ?_
 rintro ⟨X1,lw,pw,Y,ca,cc,oa,oc,o⟩ hp
 dsimp only at hp ⊢
 obtain ⟨bn,aq,bb,bf,bw⟩:=hp
 have bu:=dw7 kd wd mo xe.tm X1
 refine Z ?_
 refine Am C (λbp=>Z ?_)<|λbp=>Z ?_
 ·have aw:=dw5 (o:=o) aq hw bh.2 om
  refine Z ?_
  refine Ge2 (Br (α:=Ev) (e:=54) (xs:=o) (ys:=P3 kd wd mo xe.tm X1) Ad s9 C C C mm A5 olp dc C<|λ_ _=>am) λav au=>Z ?_
  refine G.e (Ac c_ C C<|bi3 (T:=(Y++T)) (X:=X1) (evs:=P3 kd wd mo xe.tm X1) ta2 bb bf aq A5 aw.2.2.2.1 (by first|omega|(simp only [E_,Fu];omega))<|A8 hT Ah) ?_
  rintro _ _ ⟨_,_,⟨a7,ah,Y10,rfl,az,a5,rfl⟩,rfl,rfl⟩
  refine Dq (J:=vk 54 av au (o++(P3 kd wd mo xe.tm X1))::vk 54 ca cc (P3 kd wd mo xe.tm X1)::e8 b3 zk 47::e8 b2 (ez xe) 54::e8 b1 (ky kd wd mo bd lt mr wa wn wc nd lw.a X1.length lw.c (j5 X1) pw tm) 47::(Y10++(Y++I))) (Cj<|C1 (A:=Y10) (L:=[vk 54 av au (o++(P3 kd wd mo xe.tm X1)),vc 54 (.slice ca (P3 kd wd mo xe.tm X1).length cc)<|P3 kd wd mo xe.tm X1,e8 b3 zk 47,e8 b2 (ez xe) 54,e8 b1 (ky kd wd mo bd lt mr wa wn wc nd lw.a X1.length lw.c (j5 X1) pw tm) 47]) (T:=(Y++I))) ?_
  show G prog κ _ _ _ _ ([(47,.tuple #[.agg (ky kd wd mo bd lt mr wa wn wc nd a7.a (List.foldl ep X1<|P3 kd wd mo xe.tm X1).length a7.c (j5<|List.foldl ep X1<|P3 kd wd mo xe.tm X1) ah tm).toArray,e7 0]),(46,.slice ca (P3 kd wd mo xe.tm X1).length cc),(45,.agg (ky kd wd mo bd lt mr wa wn wc nd lw.a X1.length lw.c (j5 X1) pw tm).toArray),(8,.slice av (o++(P3 kd wd mo xe.tm X1)).length au),(43,.slice av (o++(P3 kd wd mo xe.tm X1)).length au),(42,.slice ca (P3 kd wd mo xe.tm X1).length cc),(41,.slice oa o.length oc),(36,.bool<|decide<|0<(((P3 kd wd mo xe.tm X1).length:Nat):Int)),(35,e7<|(((P3 kd wd mo xe.tm X1).length:Nat):Int)),(34,.slice ca (P3 kd wd mo xe.tm X1).length cc),(2,pt b1),(3,pt b2),(4,pt b3),(8,.slice oa o.length oc),(10,.slice ca (P3 kd wd mo xe.tm X1).length cc)]:Env) (vk 54 av au (o++(P3 kd wd mo xe.tm X1))::vk 54 ca cc (P3 kd wd mo xe.tm X1)::e8 b3 zk 47::e8 b2 (ez xe) 54::e8 b1 (ky kd wd mo bd lt mr wa wn wc nd lw.a X1.length lw.c (j5 X1) pw tm) 47::(Y10++(Y++I)))
  refine Z ?_
  refine Ge0 (Eff.sq H2)<|Z ?_
  refine Am C (λa8=>?_)<|λa8=>Z ?_
  ·exact absurd a8 dc
  refine G.e (Ac c_ C C<|fk3 (Bg az<|B0 (κ:=κ)<|by repeat (first|exact hH|exact Bf _|apply Be|apply B4|apply Bn)) aw.2.2.1 hw om) ?_
  rintro _ _ ⟨_,_,⟨bk,bi,rfl,rfl⟩,rfl,rfl⟩
  exact Ga C<|Bq<|Bt (((List.foldl ep X1<|P3 kd wd mo xe.tm X1)),(a7),(ah),((Y10++Y)),(bk),(bi),(av),(au),(o++(P3 kd wd mo xe.tm X1))) (by dsimp only;exact ⟨(bn.trans aw.1),aw.2.2.1,(by rw [Fr];exact az),(by rw [Fr];exact a5),(by have h9:=aw.2.2.2.2;omega)⟩) (hlt:=by (try dsimp only);exact aw.2.1) (hI:=by (try dsimp only);exact ta7)
 have ay:=bn.trans (fn6 om)
 refine Z ?_
 refine Ge1 (B2 (α:=Ev) (cs:=(ez xe)) (xs:=[⟨xe.kd,xe.tm,xe.u,xe.v,xe.w,xe.lb,xe.sg⟩]) Ad s9 C C dc dc C kr C C) λae=>?_
 show G prog κ _ _ _ _ ([(56,.slice ae 1 1),(55,.agg (ez xe).toArray),(54,.slice oa o.length oc),(36,.bool<|decide<|0<(((P3 kd wd mo xe.tm X1).length:Nat):Int)),(35,e7<|(((P3 kd wd mo xe.tm X1).length:Nat):Int)),(34,.slice ca (P3 kd wd mo xe.tm X1).length cc),(2,pt b1),(3,pt b2),(4,pt b3),(8,.slice oa o.length oc),(10,.slice ca (P3 kd wd mo xe.tm X1).length cc)]:Env) (vc 54 (.slice ae 1 1) (([xe]:List Ev))::vk 54 oa oc o::vk 54 ca cc (P3 kd wd mo xe.tm X1)::e8 b3 zk 47::e8 b2 (ez xe) 54::e8 b1 (ky kd wd mo bd lt mr wa wn wc nd lw.a X1.length lw.c (j5 X1) pw tm) 47::(Y++I))
 refine Ge2 (Br (α:=Ev) (e:=54) (xs:=o) (ys:=([xe]:List Ev)) Ad s9 C C C mm A5 olp dc C<|λ_ _=>am) λad ab=>Z ?_
 refine Ge1 (B2 (α:=Ev) (cs:=(ez xe)) (xs:=[⟨xe.kd,xe.tm,xe.u,xe.v,xe.w,xe.lb,xe.sg⟩]) Ad s9 C C dc dc C kr C C) λaj=>?_
 show G prog κ _ _ _ _ ([(61,.slice aj 1 1),(60,.agg (ez xe).toArray),(59,.agg (ky kd wd mo bd lt mr wa wn wc nd lw.a X1.length lw.c (j5 X1) pw tm).toArray),(8,.slice ad (o++([xe]:List Ev)).length ab),(57,.slice ad (o++([xe]:List Ev)).length ab),(56,.slice ae 1 1),(55,.agg (ez xe).toArray),(54,.slice oa o.length oc),(36,.bool<|decide<|0<(((P3 kd wd mo xe.tm X1).length:Nat):Int)),(35,e7<|(((P3 kd wd mo xe.tm X1).length:Nat):Int)),(34,.slice ca (P3 kd wd mo xe.tm X1).length cc),(2,pt b1),(3,pt b2),(4,pt b3),(8,.slice oa o.length oc),(10,.slice ca (P3 kd wd mo xe.tm X1).length cc)]:Env) (vc 54 (.slice aj 1 1) (([xe]:List Ev))::vc 54 (.slice ae 1 1) (([xe]:List Ev))::vk 54 ad ab (o++([xe]:List Ev))::vk 54 ca cc (P3 kd wd mo xe.tm X1)::e8 b3 zk 47::e8 b2 (ez xe) 54::e8 b1 (ky kd wd mo bd lt mr wa wn wc nd lw.a X1.length lw.c (j5 X1) pw tm) 47::(Y++I))
 refine G.e (Ac c_ C C<|bi3 (T:=(Y++T)) (X:=X1) (evs:=([xe]:List Ev)) ta2 bb bf aq A5 (λq hq=>(Gc.1 hq)▸hx) (by first|omega|(simp only [E_,Fu];omega))<|A8 hT Ah) ?_
 rintro _ _ ⟨_,_,⟨ai,M,Y19,rfl,ar,a0,rfl⟩,rfl,rfl⟩
 refine Dq (J:=vc 54 (.slice aj 1 1) (([xe]:List Ev))::vc 54 (.slice ae 1 1) (([xe]:List Ev))::vk 54 ad ab (o++([xe]:List Ev))::vk 54 ca cc (P3 kd wd mo xe.tm X1)::e8 b3 zk 47::e8 b2 (ez xe) 54::e8 b1 (ky kd wd mo bd lt mr wa wn wc nd lw.a X1.length lw.c (j5 X1) pw tm) 47::(Y19++(Y++I))) (Cj<|C1 (A:=Y19) (L:=[vc 54 (.slice aj 1 1) (([xe]:List Ev)),vc 54 (.slice ae 1 1)<|([xe]:List Ev),vc 54 (.slice ad (o++([xe]:List Ev)).length ab)<|o++([xe]:List Ev),vc 54 (.slice ca (P3 kd wd mo xe.tm X1).length cc)<|P3 kd wd mo xe.tm X1,e8 b3 zk 47,e8 b2 (ez xe) 54,e8 b1 (ky kd wd mo bd lt mr wa wn wc nd lw.a X1.length lw.c (j5 X1) pw tm) 47]) (T:=(Y++I))) ?_
 show G prog κ _ _ _ _ ([(62,.tuple #[.agg (ky kd wd mo bd lt mr wa wn wc nd ai.a (ep X1 xe).length ai.c (j5<|ep X1 xe) M tm).toArray,e7 0]),(61,.slice aj 1 1),(60,.agg (ez xe).toArray),(59,.agg (ky kd wd mo bd lt mr wa wn wc nd lw.a X1.length lw.c (j5 X1) pw tm).toArray),(8,.slice ad (o++([xe]:List Ev)).length ab),(57,.slice ad (o++([xe]:List Ev)).length ab),(56,.slice ae 1 1),(55,.agg (ez xe).toArray),(54,.slice oa o.length oc),(36,.bool<|decide<|0<(((P3 kd wd mo xe.tm X1).length:Nat):Int)),(35,e7<|(((P3 kd wd mo xe.tm X1).length:Nat):Int)),(34,.slice ca (P3 kd wd mo xe.tm X1).length cc),(2,pt b1),(3,pt b2),(4,pt b3),(8,.slice oa o.length oc),(10,.slice ca (P3 kd wd mo xe.tm X1).length cc)]:Env) (vc 54 (.slice aj 1 1) (([xe]:List Ev))::vc 54 (.slice ae 1 1) (([xe]:List Ev))::vk 54 ad ab (o++([xe]:List Ev))::vk 54 ca cc (P3 kd wd mo xe.tm X1)::e8 b3 zk 47::e8 b2 (ez xe) 54::e8 b1 (ky kd wd mo bd lt mr wa wn wc nd lw.a X1.length lw.c (j5 X1) pw tm) 47::(Y19++(Y++I)))
 refine Z ?_
 refine Ge0 (Eff.sq H2)<|Z ?_
 refine Am C (λa9=>?_)<|λa9=>Z ?_
 ·exact absurd a9 dc
 refine Ge0 (Bs (cs:=[_,_,_,_,_,_,_,_,_,_,_,_,_,_,_,_,_,_,_,_,_,_,_,_,_]) (vs:=[_]) (cs':=[_,_,_,_,_,_,_,_,_,_,_,_,_,_,_,_,_,_,_,_,_,_,_,_,_]) ef)<|Z ?_
 have bm:=q9 (F1<|J5 aq hx)
 rw [G5] at bm
 refine Z ?_
 refine Am C (λa6=>Z ?_)<|λa6=>Z ?_
 ·have bg:=fc0 hw (J5 aq hx) bh (by have br:=fq7 hI.tm hI.val (show ¬kd=2 by omega) ay;subst br;exact fm7 hI.tm bq.2)
  refine Gc2 (Ac c_ C C<|ci3 (Bg ar<|B0 (κ:=κ)<|by repeat (first|exact hH|exact Bf _|apply Be|apply B4|apply Bn)) om bg) λap ao=>?_
  refine Gm C<|Gr (Bj C C)<|Gr (Bj C C)<|Ga C<|Ga C<|Ar<|A1 (S5 12 11 8 2 4)<|Ax<|Ak<|Gm C<|Gr (Cb C C)<|Ar<|Am C (λbc=>?_)<|λbc=>?_
  ·exact absurd bc dc
  refine Bc<|Ao<|Ak<|Gm C ?_
  have bv:=ag0 kd wd mo xe.tm (ep X1 xe)
  refine Gm C<|Ge2 (Br (α:=Ev) (e:=54) (xs:=o++([xe]:List Ev)) (ys:=s3 kd wd mo xe.tm (ep X1 xe)) Ad s9 C C C mm A5 olp dc C<|λ_ _=>am) λan ak=>?_
  refine Ga C<|Ar<|Ak<|Gr (j8.lj H2) ?_
  refine Gm C<|G.e (Ac c_ C C<|bi3 (T:=(Y19++(Y++T))) (X:=(ep X1 xe)) (evs:=s3 kd wd mo xe.tm (ep X1 xe)) ta2 ar a0 (J5 aq hx) A5 (am2 (J5 aq hx) hx.tm) (by first|omega|(simp only [E_,Fu];omega))<|A8 hT Ah) ?_
  rintro _ _ ⟨_,_,⟨ax,aa,Y26,rfl,a4,a3,rfl⟩,rfl,rfl⟩
  refine Dq (J:=vk 54 ap ao (s3 kd wd mo xe.tm<|ep X1 xe)::vc 54 (.slice aj 1 1) (([xe]:List Ev))::vc 54 (.slice ae 1 1) (([xe]:List Ev))::vk 54 an ak ((o++([xe]:List Ev))++(s3 kd wd mo xe.tm<|ep X1 xe))::vk 54 ca cc (P3 kd wd mo xe.tm X1)::e8 b3 zk 47::e8 b2 (ez xe) 54::e8 b1 (ky kd wd mo bd lt mr wa wn wc nd ai.a (ep X1 xe).length ai.c (j5<|ep X1 xe) M xe.tm) 47::(Y26++(Y19++(Y++I)))) (Cj<|C1 (A:=Y26) (L:=[vk 54 ap ao (s3 kd wd mo xe.tm<|ep X1 xe),vc 54 (.slice aj 1 1)<|([xe]:List Ev),vc 54 (.slice ae 1 1)<|([xe]:List Ev),vc 54 (.slice an ((o++([xe]:List Ev))++(s3 kd wd mo xe.tm<|ep X1 xe)).length ak)<|(o++([xe]:List Ev))++(s3 kd wd mo xe.tm<|ep X1 xe),vc 54 (.slice ca (P3 kd wd mo xe.tm X1).length cc)<|P3 kd wd mo xe.tm X1,e8 b3 zk 47,e8 b2 (ez xe) 54,e8 b1 (ky kd wd mo bd lt mr wa wn wc nd ai.a (ep X1 xe).length ai.c (j5<|ep X1 xe) M xe.tm) 47]) (T:=(Y19++(Y++I)))) ?_
  show G prog κ _ _ _ _ ([(96,.tuple #[.agg (ky kd wd mo bd lt mr wa wn wc nd ax.a (List.foldl ep (ep X1 xe)<|s3 kd wd mo xe.tm<|ep X1 xe).length ax.c (j5<|List.foldl ep (ep X1 xe)<|s3 kd wd mo xe.tm<|ep X1 xe) aa xe.tm).toArray,e7 0]),(95,.slice ap (s3 kd wd mo xe.tm<|ep X1 xe).length ao),(94,.agg (ky kd wd mo bd lt mr wa wn wc nd ai.a (ep X1 xe).length ai.c (j5<|ep X1 xe) M xe.tm).toArray),(8,.slice an ((o++([xe]:List Ev))++(s3 kd wd mo xe.tm<|ep X1 xe)).length ak),(92,.slice an ((o++([xe]:List Ev))++(s3 kd wd mo xe.tm<|ep X1 xe)).length ak),(91,.slice ap (s3 kd wd mo xe.tm<|ep X1 xe).length ao),(90,.slice ad (o++([xe]:List Ev)).length ab),(87,.bool<|decide<|0≠0),(86,e7 0),(12,e7 0),(11,.slice ap (s3 kd wd mo xe.tm<|ep X1 xe).length ao),(8,.slice ad (o++([xe]:List Ev)).length ab),(2,pt b1),(4,pt b3)]:Env) (vk 54 ap ao (s3 kd wd mo xe.tm<|ep X1 xe)::vc 54 (.slice aj 1 1) (([xe]:List Ev))::vc 54 (.slice ae 1 1) (([xe]:List Ev))::vk 54 an ak ((o++([xe]:List Ev))++(s3 kd wd mo xe.tm<|ep X1 xe))::vk 54 ca cc (P3 kd wd mo xe.tm X1)::e8 b3 zk 47::e8 b2 (ez xe) 54::e8 b1 (ky kd wd mo bd lt mr wa wn wc nd ai.a (ep X1 xe).length ai.c (j5<|ep X1 xe) M xe.tm) 47::(Y26++(Y19++(Y++I))))
  refine Z ?_
  refine Ge0 (Eff.sq H2)<|Z ?_
  refine Am C (λa1=>?_)<|λa1=>Z ?_
  ·exact absurd a1 dc
  refine Ge0 (Eff.sq H2)<|Z ?_
  have hR:=bw5 (nd:=nd) ay a6 (J5 aq hx)
  rw [hR]
  exact Cu C H2 C C C mm C (((vk 54 an ak ((o++([xe]:List Ev))++(s3 kd wd mo xe.tm<|ep X1 xe))::(Y26++(Y19++Y)))++I)) tb2 ⟨ax,aa,(vk 54 an ak ((o++([xe]:List Ev))++(s3 kd wd mo xe.tm<|ep X1 xe))::(Y26++(Y19++Y))),an,ak,rfl,(by simp only [Jc,Fr];exact Bg a4<|Fa<|Dd _),(by simp only [Jc,Fr];exact PkR.fit a3<|Fa<|Dd _),Cz<|Gi _ A_,rfl⟩
 refine Ge0 (Eff.sq H2)<|Z ?_
 have hR:=step_end ay a6
 rw [hR]
 exact Cu C H2 C C C mm C (((vk 54 ad ab (o++([xe]:List Ev))::(Y19++Y))++I)) tb2 ⟨ai,M,(vk 54 ad ab (o++([xe]:List Ev))::(Y19++Y)),ad,ab,rfl,(by simp only [Jc,Fr];exact Bg ar<|Fa<|Dd _),(by simp only [Jc,Fr];exact PkR.fit a0<|Fa<|Dd _),Cz<|Gi _ A_,rfl⟩
variable {κ:Ctx}{I:List Item}
theorem gf8:∀M w,(callFunc 138 M).run prog w=((Extern.SlicesOverlaps.overlaps #[30,30] #[4] M).run prog w).andThen λv w'=> .ok (.value v) w':=λM w=>run_callFunc_extern (e:=Extern.SlicesOverlaps.overlaps #[30,30] #[4]) Tryz.func138 kr kr kr kr M w
theorem cz5{ae:Nat}(hi:i<=xs.length)(hy:0<ys.length)(ar:xs.length+ys.length<=1000000000):eu prog κ 94 [.slice a xs.length c,e7 ((i:Int)),.slice va ys.length ae] (vk 54 a c xs::vk 54 va ae ys::I) (λr J=>∃a' c',r = .slice a' (List.take i xs++ys++List.drop i xs).length c'/\J=vk 54 a' c' (List.take i xs++ys++List.drop i xs)::I):=by
 refine Bv (vc.cap A_) λap=>?_
 have aa:(List.take i xs++ys++List.drop i xs).length=xs.length+ys.length:=by simp only [By,Fp,Fx];omega
 refine Ce3 Tryz.func94 C C<|Z ?_
 refine Gr (Dn (α:=Ev) (xs:=xs) (l:=i) Ad s9 C C om A5 lat)<|Z ?_
 refine Am C (λah=>?_)<|λah=>Z ?_
 ·exact absurd ah om
 refine Am C (λao=>Z ?_)<|λao=>Z ?_
 ·refine Ge2 (Br (α:=Ev) (e:=54) (xs:=xs) (ys:=ys) Ad s9 C C C mm A5 om dc C<|λ_ _=>am) λab ai=>Z ?_
  have hR:List.take i xs++ys++List.drop i xs=xs++ys:=by rw [Fv om,Ha om,Gq]
  exact Al C C (vk 54 ab ai (List.take i xs++ys++List.drop i xs)::I) (by unfold vk;rw [hR];exact Az) ⟨ab,ai,by rw [hR],rfl⟩
 refine Gr (j8.caps Ad C)<|Z ?_
 refine Am C (λaj=>Z ?_)<|λaj=>Z ?_
 ·refine Gr (E2 (h:=i) Ad s9 C C om om) (Z ?_)
  refine Ge2 (Eff.grow (α:=Ev) (xs:=xs) (k:=xs.length+ys.length - i) Ad Cf s9 C C C om A5 om om om om dc C) λad M=>?_
  refine Ga C<|G.pull (p:=(List.take i xs++List.replicate (xs.length+ys.length - i) (default:Ev)).length<=M) (vc.cap mm) λak=>?_
  have aq:(List.take i xs++List.replicate (xs.length+ys.length - i) (default:Ev)).length=xs.length+ys.length:=by simp only [By,Fp,Fy];omega
  refine Z ?_
  refine Gr (Dn (α:=Ev) (xs:=List.take i xs++List.replicate (xs.length+ys.length - i) (default:Ev)) (l:=i) Ad s9 C C om A5 lat)<|Gm C<|Ge0 (Fk (α:=Ev) (k:=i) (q:=ys.length) (R:=List.take i xs++ys++List.replicate (xs.length - i) (default:Ev)) (n:=(i+(xs.length+ys.length - i))) Ad s9 C lat C A5 lat lat C (gg7 hi) lat am) ?_
  refine Ar<|Ax<|Ba mixed<|Bx I 9<|Z ?_
  refine Dr 4 C (C2 (l:=(i+ys.length)) Ad s9 C C om om om)<|Z ?_
  refine Dr 7 C (C2 (l:=i) Ad s9 C C om om om)<|Ds1 8<|Se0 C (Fk (α:=Ev) (k:=(i+ys.length)) (q:=(xs.length - i)) (R:=List.take i xs++ys++List.drop i xs) (n:=(i+(xs.length+ys.length - i))) Ad s9 C lat C (Sl.dz8 (Cz (xs:=xs) mm) om om) lat lat C (gg6 hi) lat am)<|Z ?_
  exact Al C C (vk 54 ad M (List.take i xs++ys++List.drop i xs)::I) (by unfold vk;rw [show (List.take i xs++ys++List.drop i xs).length=i+(xs.length+ys.length - i) by omega];exact Az) ⟨ad,M,by rw [show (List.take i xs++ys++List.drop i xs).length=i+(xs.length+ys.length - i) by omega],rfl⟩
 refine Gr (E2 (h:=xs.length+ys.length) Ad s9 C C om om)<|Ga C<|G.room (h:=xs.length+ys.length) ta1 C om om<|λjs an=>Z ?_
 refine Gr (C2 (l:=(i+ys.length)) Ad s9 C C om om om)<|Ge0 (Eff.overlaps (k:=i+ys.length) gf8 Ad s9 C C om om om (Fit.sp<|Sp.pick (ab6.tail _<|ab6.head _ _)<|Sp.refl _) (Nat.mul_pos om Enc.pos) C)<|Z ?_
 refine Ba mixed<|Bx I 9<|Z ?_
 refine Dr 4 C (C2 (l:=(i+ys.length)) Ad s9 C C om om om)<|Z ?_
 refine Dr 7 C (C2 (l:=i) Ad s9 C C om om om)<|Ds1 8<|Se0 C (Eff.cg2 (sz:=Enc.sz Ev) (n:=xs.length+ys.length) (cs:=(cells xs++js)) (k:=(i+ys.length)) (q:=(xs.length - i)) Ad s9 C om C (au7.dz9 (au7.vec mm) om) om om (ce9 hi) C am)<|Z ?_
 refine Gr (C2 (l:=i) Ad s9 C C om om om)<|Gm C<|Ge0 (Eff.cg2 (sz:=Enc.sz Ev) (n:=xs.length+ys.length) (cs:=(List.take ((i+ys.length)*Enc.sz Ev) (cells xs++js)++List.take ((xs.length - i)*Enc.sz Ev) (List.drop (i*Enc.sz Ev)<|cells xs++js)++List.drop ((i+ys.length)*Enc.sz Ev+(xs.length - i)*Enc.sz Ev) (cells xs++js))) (k:=i) (q:=ys.length) Ad s9 C om C (Cz (e:=54) (xs:=ys) mm) om om (λu hu=>cells_one ys u<|Hw hu) C am)<|Z ?_
 have hC:(List.take (i*Enc.sz Ev) (List.take ((i+ys.length)*Enc.sz Ev) (cells xs++js)++List.take ((xs.length - i)*Enc.sz Ev) (List.drop (i*Enc.sz Ev)<|cells xs++js)++List.drop ((i+ys.length)*Enc.sz Ev+(xs.length - i)*Enc.sz Ev) (cells xs++js))++List.take (ys.length*Enc.sz Ev) (cells ys)++List.drop (i*Enc.sz Ev+ys.length*Enc.sz Ev) (List.take ((i+ys.length)*Enc.sz Ev) (cells xs++js)++List.take ((xs.length - i)*Enc.sz Ev) (List.drop (i*Enc.sz Ev)<|cells xs++js)++List.drop ((i+ys.length)*Enc.sz Ev+(xs.length - i)*Enc.sz Ev) (cells xs++js)))=cells (List.take i xs++ys++List.drop i xs):=be8 hi an
 exact Al C C (vk 54 a c (List.take i xs++ys++List.drop i xs)::I) (by unfold vk;rw [hC];show Fit κ _ (vec 54 _ (.slice a (List.take i xs++ys++List.drop i xs).length c) (List.take i xs++ys++List.drop i xs).length (cells<|List.take i xs++ys++List.drop i xs)::I);rw [aa];exact Az) ⟨a,c,by rw [aa],rfl⟩
theorem ag5{m:Nat}{K:List Item}(hf:Fit κ I (vc 54 (.slice a n c) xs::vc 54 (.slice va m M) ys::K))(hn:n=xs.length)(hm:m=ys.length)(hi:i<=xs.length)(hy:0<ys.length)(aa:xs.length+ys.length<=1000000000):eu prog κ 94 [.slice a n c,e7 (i:Int),.slice va m M] I (λr J=>∃a' c',r = .slice a' (List.take i xs++ys++List.drop i xs).length c'/\J=vk 54 a' c' (List.take i xs++ys++List.drop i xs)::K):=by
 subst hn hm
 exact Cm hf<|cz5 hi hy aa
theorem bm4{e:Ev}(h0:0<i)(h:e.tm<(e_ l ((i:Int) - 1)).tm)(M:M5 evC l e n=M5 evC l e i):M5 evC l e n=M5 evC l e (i - 1):=by
 rw [M]
 obtain ⟨m,rfl⟩:∃m,i=m+1:=⟨i - 1,by omega⟩
 have e1:(((m+1:Nat):Int) - 1)=(m:Int):=by omega
 rw [e1] at h
 show (if evC e (e_ l m)<0 then M5 evC l e m else m+1)=_
 rw [B_ (by unfold evC;rw [B_ h];decide)]
 rfl
theorem M9{e:Ev}(h:0<i->¬e.tm<(e_ l ((i:Int) - 1)).tm)(hj:M5 evC l e n=M5 evC l e i):M5 evC l e n=i:=by
 rw [hj]
 cases i with
 |zero=>rfl
 |succ m=>
  have M:=h om
  have e1:(((m+1:Nat):Int) - 1)=(m:Int):=by omega
  rw [e1] at M
  show (if evC e (e_ l m)<0 then M5 evC l e m else m+1)=_
  rw [An]
  unfold evC
  rw [An M]
  split<;>decide
theorem bd5{bf:BfS}{e:Ev}(h:M5 evC bf.ws e bf.ws.length=i):List.take i bf.ws++[e]++List.drop i bf.ws=K3 bf e:=by
 unfold K3 be7 gd3
 rw [h];simp
theorem fi1{e:Ev}{bf:BfS}(hH:Has I T)(hl:Sl κ T (.slice wa bf.ws.length M) bf.ws)(hB:az5 bd bf)(hw:bf.ws.length<=4096)(he:z6 e=0)(ht:bf.mr<e.tm)(hT:0<=e.tm/\e.tm<=1048576)(bu:bf.ws.length<4096):eu prog κ 47 [.agg #[e7 bd,e7 (bf.lt),e7 (bf.mr),.slice wa bf.ws.length M],.agg (ez e).toArray] I (λr J=>∃(a:Option Addr) (c:Nat) (a2:Option Addr) (c2:Nat) (Y:List Item),r = .tuple #[.agg #[e7 bd,e7 (bf.push bd e).lt,e7 (bf.push bd e).mr,.slice a (bf.push bd e).ws.length c],.slice a2 ((bf.out bd e)).length c2,e7 0]/\Sl κ (Y++T) (.slice a (bf.push bd e).ws.length c) (bf.push bd e).ws/\Sl κ (Y++T) (.slice a2 ((bf.out bd e)).length c2) (bf.out bd e)/\J=Y++I):=by
 have bw:=hB.bd
 have b7:=hB.lt
 have b5:=hB.mr
 refine Ce2 Tryz.func47 C C ?_
 refine Ak<|Ge1 (Au (cs:=[_,_,_,_]) C C C) λb1=>Ge1 (Au (cs:=[_,_,_,_,_,_,_]) C C C) λb2=>Ge1 (Aj J4 C) λb3=>Ga C<|Ga C<|Ar<|Ak<|Gl7 s9 ?_
 refine G.e (Ac c_ C C<|ab4 e) ?_
 rintro _ _ ⟨_,_,⟨rfl,rfl⟩,rfl,rfl⟩
 refine Ga C<|Ar<|Ax<|A7<|Ak<|Gl4 J4 ?_
 refine G.e (Ac c_ C C<|au6 (bd:=bd) (bf:=bf) (Bg (Bg hl hH.fit) Ah) hB om) ?_
 rintro _ _ ⟨_,_,⟨rfl,rfl⟩,rfl,rfl⟩
 refine Gr (E3 C)<|Ga C<|Ar<|A1 (S5 13 7 4 3 2)<|W.no C<|Ak<|Gm C<|Gr (Cb C C)<|Ga C<|Ar<|Am C (λbh=>?_)<|λbh=>?_
 ·exact absurd he bh
 refine Ak<|Gf R0 C<|Gl ef ?_
 refine Gf cf8 C<|Gl ef ?_
 refine Gr (j8.leq C C)<|Ga C<|Ar<|A1 (S4 25 4 3 2)<|Am C (λbr=>?_)<|λbr=>?_
 ·omega
 refine Ak<|Gf R1 C<|Gl ap8 ?_
 refine Gr (Bk Ad C)<|Gr (Cx C C)<|Ga C<|Ar<|Am C (λbq=>?_)<|λbq=>?_
 ·omega
 refine Bc<|Av<|Ao<|Ak<|Gf R1 C<|Gl ap8 ?_
 refine Gr (Bk Ad C)<|Ga C<|Ar<|Ax<|A7<|B9 (σ:=Nat) (λs=>([(2,pt b1),(3,pt b2),(4,pt b3),(8,e7 ((s:Nat):Int))]:Env)) (λs=>e8 b3 [e7 0,e7 0,e7 0,.slice none 0 0] 32::e8 b2 (ez e) 54::e8 b1 [e7 bd,e7<|bf.lt,e7<|bf.mr,.slice wa bf.ws.length M] 32::I) (λs=>(s<=bf.ws.length)/\(M5 evC bf.ws e bf.ws.length=M5 evC bf.ws e s)) (λs=>s) (bf.ws.length) (show ((bf.ws.length:Nat)<=bf.ws.length)/\(M5 evC bf.ws e bf.ws.length=M5 evC bf.ws e (bf.ws.length:Nat)) from ⟨om,rfl⟩) (cx2<|Aa C<|Aa Co Bb) (show Fit κ _ (e8 b3 [e7 0,e7 0,e7 0,.slice none 0 0] 32::e8 b2 (ez e) 54::e8 b1 [e7 bd,e7<|bf.lt,e7<|bf.mr,.slice wa bf.ws.length M] 32::I) from Ai) ?_
 rintro i hp
 obtain ⟨hi,hj⟩:=hp
 refine Ax<|Ax<|Ba mixed<|Bx (e8 b3 [e7 0,e7 0,e7 0,.slice none 0 0] 32::e8 b2 (ez e) 54::e8 b1 [e7 bd,e7<|bf.lt,e7<|bf.mr,.slice wa bf.ws.length M] 32::I) 14<|Dr 0 C (Aq C)<|Dr 1 C (Ed C C)<|Dr 2 C (Aq C)<|Dj (d:=45) C (λbp=>?_)<|λbp=>?_
 ·refine Dro 3 C (Af R1 C) (Dro 4 C (Bd ap8) ?_)
  refine Dro 5 C (Aq C)<|Dro 6 C (Rsu C C)<|Dro 7 C (A2 (α:=Ev) (xs:=bf.ws) Ad s9 C C (Bg (Bg hl hH.fit) Ah) om om)<|Dro 8 C (j8.fld (α:=Ev) (xs:=bf.ws) R0 C (Bg (Bg hl hH.fit) Ah) om)<|Dro 9 C (Fj (α:=Ev) (xs:=bf.ws) (u:=e7 ((e_ bf.ws<|(i:Int) - 1).tm)) ef C (Bg (Bg hl hH.fit) Ah) om om C)<|Dro 10 C (Af R0 C)<|Dro 11 C (Bd ef) ?_
  refine Dro 12 C (Ed C C)<|Dr 13 C (Bz C C)<|Dz<|Ao<|A1 (S5 56 2 3 4 8)<|Am C (λan=>?_)<|λan=>?_
  ·exact Bc<|Ao<|A7<|A6<|Gm C<|Gr (Rsu C C)<|Ga C<|Bq<|Av<|Bt ((i - 1)) ⟨om,(bm4 om an hj)⟩
  refine Ci<|Aw<|Aw<|Bi<|Ao<|Ax<|Ba mixed<|Bx (e8 b3 [e7 0,e7 0,e7 0,.slice none 0 0] 32::e8 b2 (ez e) 54::e8 b1 [e7 bd,e7<|bf.lt,e7<|bf.mr,.slice wa bf.ws.length M] 32::I) 8<|Dr 0 C (Af R1 C)<|Dr 1 C (Bd ap8) ?_
  refine Dr 3 C (Aq C)<|Dr 4 C (Bm (vs:=[_,_,_,_,_,_,_]) s9) ?_
  refine C9 (rs:=[2,5]) kr C C<|Ej ?_<|Do ?_
  ·refine Sc2 C (Ac c_ C C<|az1 (xs:=bf.ws) (Bg (Bg hl hH.fit) Ah) om) λbo bi=>?_
   refine Ds1 5<|Se1 C (B2 (α:=Ev) (cs:=(ez e)) (xs:=[⟨e.kd,e.tm,e.u,e.v,e.w,e.lb,e.sg⟩]) Ad s9 C C dc dc C kr C C) λbk=>?_
   refine Ds1 6<|Sc2 C (Ac c_ C C<|ag5 (i:=i) (xs:=bf.ws) (ys:=([⟨e.kd,e.tm,e.u,e.v,e.w,e.lb,e.sg⟩]:List Ev)) (show Fit κ _ (vk 54 bo bi bf.ws::vc 54 (.slice bk 1 1) (([⟨e.kd,e.tm,e.u,e.v,e.w,e.lb,e.sg⟩]:List Ev))::e8 b3 [e7 0,e7 0,e7 0,.slice none 0 0] 32::e8 b2 (ez e) 54::e8 b1 [e7 bd,e7<|bf.lt,e7<|bf.mr,.slice wa bf.ws.length M] 32::I) from Az) om C om tb0 lcn) λaq ay=>?_
   show D prog κ _ _ _ _ _ _ _ ([(65,.slice aq (List.take i bf.ws++([⟨e.kd,e.tm,e.u,e.v,e.w,e.lb,e.sg⟩]:List Ev)++List.drop i bf.ws).length ay),(64,.slice bk 1 1),(61,.slice bo bf.ws.length bi),(63,.agg (ez e).toArray),(62,e7<|(i:Int)),(60,.slice wa bf.ws.length M),(59,.pointer<|some ⟨b1,3,none⟩),(56,.bool<|decide<|e.tm<((e_ bf.ws<|(i:Int) - 1).tm)),(2,pt b1),(3,pt b2),(4,pt b3),(8,e7<|(i:Int))]:Env) (vk 54 aq ay (List.take i bf.ws++([⟨e.kd,e.tm,e.u,e.v,e.w,e.lb,e.sg⟩]:List Ev)++List.drop i bf.ws)::e8 b3 [e7 0,e7 0,e7 0,.slice none 0 0] 32::e8 b2 (ez e) 54::e8 b1 [e7 bd,e7<|bf.lt,e7<|bf.mr,.slice wa bf.ws.length M] 32::I)
   have ah:List.take i bf.ws++([⟨e.kd,e.tm,e.u,e.v,e.w,e.lb,e.sg⟩]:List Ev)++List.drop i bf.ws=K3 bf e:=bd5 (M9 (by intro h;first|omega|exact an) hj)
   rw [ah]
   refine Dr 7 C (Af R1 C)<|Cg kr ?_
   refine Ae 8 C (Bs (cs:=[_,_,_,_]) (vs:=[_]) (cs':=[_,_,_,_]) ap8) ?_
   rintro _ _ ⟨rfl,rfl⟩
   refine Ch kr ?_
   refine Ao<|Ak<|Gf U7 C<|Gl ef ?_
   refine Gf R0 C<|Gl ef ?_
   refine Gr (E9 C C)<|Gf U7 C<|Ge0 (Bs (cs:=[_,_,_,_]) (vs:=[_]) (cs':=[_,_,_,_]) ef) ?_
   refine Ar<|A1 (S2 2 4)<|Ak<|Gl4 J4 ?_
   refine Gf U7 C<|Gl ef ?_
   refine Gf bf9 C<|Gl ef ?_
   refine Gr (Rsu C C)<|Gr (Rsu C C) ?_
   have ae:((if bf.lt<e.tm then e.tm else bf.lt) - bd) - 1=ah7 bd bf e:=by unfold ah7;rw [ao4]
   rw [ae]
   refine G.e (Ac c_ C C<|ap1 (bd:=bd) (lt:=if bf.lt<e.tm then e.tm else bf.lt) (mr:=bf.mr) (m:=(ah7 bd bf e)) A5 hB.fu5<|by rw [ac0];omega) ?_
   rintro _ _ ⟨_,_,⟨ba,ap,bm,rfl,bb,rfl⟩,rfl,rfl⟩
   refine Gm C<|Gr (Bj C C)<|Gr (Bj C C)<|Ge1 (Aj J4 C) λb4=>Ge0 (C8 J4) ?_
   refine Ga C<|Ar<|A1 (S3 10 9 4)<|Ak<|Gl4 J4 ?_
   refine Gm C<|Ge0 (C8 J4) ?_
   exact Ga C<|Ga C<|Ar<|B3<|Cu C J4 C C C mm C (vk 54 ba ap (beyond (ah7 bd bf e)<|K3 bf e)::vk 54 aq ay (K3 bf e)::I) Az ⟨ba,ap,aq,bm,[vk 54 ba ap (beyond (ah7 bd bf e)<|K3 bf e),vc 54 (.slice aq (K3 bf e).length ay)<|K3 bf e],(by rw [ao4];rfl),Cz mm,(Sl.ap2 A5 bb),rfl⟩
  refine Se1 C (B2 (α:=Ev) (cs:=(ez e)) (xs:=[⟨e.kd,e.tm,e.u,e.v,e.w,e.lb,e.sg⟩]) Ad s9 C C dc dc C kr C C) λa0=>?_
  refine Ds1 2<|Sc2 C (Ac c_ C C<|az1 (xs:=bf.ws) (Bg (Bg hl hH.fit) Ah) om) λa5 a1=>?_
  refine Ds1 6<|Sc2 C (Ac c_ C C<|ag5 (i:=i) (xs:=bf.ws) (ys:=([⟨e.kd,e.tm,e.u,e.v,e.w,e.lb,e.sg⟩]:List Ev)) (show Fit κ _ (vk 54 a5 a1 bf.ws::vc 54 (.slice a0 1 1) (([⟨e.kd,e.tm,e.u,e.v,e.w,e.lb,e.sg⟩]:List Ev))::e8 b3 [e7 0,e7 0,e7 0,.slice none 0 0] 32::e8 b2 (ez e) 54::e8 b1 [e7 bd,e7<|bf.lt,e7<|bf.mr,.slice wa bf.ws.length M] 32::I) from Az) om C om tb0 lcn) λad aj=>?_
  show D prog κ _ _ _ _ _ _ _ ([(65,.slice ad (List.take i bf.ws++([⟨e.kd,e.tm,e.u,e.v,e.w,e.lb,e.sg⟩]:List Ev)++List.drop i bf.ws).length aj),(61,.slice a5 bf.ws.length a1),(64,.slice a0 1 1),(63,.agg (ez e).toArray),(62,e7<|(i:Int)),(60,.slice wa bf.ws.length M),(59,.pointer<|some ⟨b1,3,none⟩),(56,.bool<|decide<|e.tm<((e_ bf.ws<|(i:Int) - 1).tm)),(2,pt b1),(3,pt b2),(4,pt b3),(8,e7<|(i:Int))]:Env) (vk 54 ad aj (List.take i bf.ws++([⟨e.kd,e.tm,e.u,e.v,e.w,e.lb,e.sg⟩]:List Ev)++List.drop i bf.ws)::e8 b3 [e7 0,e7 0,e7 0,.slice none 0 0] 32::e8 b2 (ez e) 54::e8 b1 [e7 bd,e7<|bf.lt,e7<|bf.mr,.slice wa bf.ws.length M] 32::I)
  have ah:List.take i bf.ws++([⟨e.kd,e.tm,e.u,e.v,e.w,e.lb,e.sg⟩]:List Ev)++List.drop i bf.ws=K3 bf e:=bd5 (M9 (by intro h;first|omega|exact an) hj)
  rw [ah]
  refine Dr 7 C (Af R1 C)<|Cg kr ?_
  refine Ae 8 C (Bs (cs:=[_,_,_,_]) (vs:=[_]) (cs':=[_,_,_,_]) ap8) ?_
  rintro _ _ ⟨rfl,rfl⟩
  refine Ch kr ?_
  refine Ao<|Ak<|Gf U7 C<|Gl ef ?_
  refine Gf R0 C<|Gl ef ?_
  refine Gr (E9 C C)<|Gf U7 C<|Ge0 (Bs (cs:=[_,_,_,_]) (vs:=[_]) (cs':=[_,_,_,_]) ef) ?_
  refine Ar<|A1 (S2 2 4)<|Ak<|Gl4 J4 ?_
  refine Gf U7 C<|Gl ef ?_
  refine Gf bf9 C<|Gl ef ?_
  refine Gr (Rsu C C)<|Gr (Rsu C C) ?_
  have ae:((if bf.lt<e.tm then e.tm else bf.lt) - bd) - 1=ah7 bd bf e:=by unfold ah7;rw [ao4]
  rw [ae]
  refine G.e (Ac c_ C C<|ap1 (bd:=bd) (lt:=if bf.lt<e.tm then e.tm else bf.lt) (mr:=bf.mr) (m:=(ah7 bd bf e)) A5 hB.fu5<|by rw [ac0];omega) ?_
  rintro _ _ ⟨_,_,⟨av,ao,bn,rfl,bc,rfl⟩,rfl,rfl⟩
  refine Gm C<|Gr (Bj C C)<|Gr (Bj C C)<|Ge1 (Aj J4 C) λb6=>Ge0 (C8 J4) ?_
  refine Ga C<|Ar<|A1 (S3 10 9 4)<|Ak<|Gl4 J4 ?_
  refine Gm C<|Ge0 (C8 J4) ?_
  exact Ga C<|Ga C<|Ar<|B3<|Cu C J4 C C C mm C (vk 54 av ao (beyond (ah7 bd bf e)<|K3 bf e)::vk 54 ad aj (K3 bf e)::I) Az ⟨av,ao,ad,bn,[vk 54 av ao (beyond (ah7 bd bf e)<|K3 bf e),vc 54 (.slice ad (K3 bf e).length aj)<|K3 bf e],(by rw [ao4];rfl),Cz mm,(Sl.ap2 A5 bc),rfl⟩
 refine Dpo 3 C<|Dpo 4 C<|Dpo 5 C<|Dpo 6 C<|Dpo 7 C<|Dpo 8 C<|Dpo 9 C<|Dpo 10 C<|Dpo 11 C<|Dpo 12 C<|Dr 13 C (Bo C C)<|Dz<|Ao<|A1 (S5 56 2 3 4 8)<|W.no C<|Ci<|Aw<|Aw<|Bi<|Ao<|Ax<|Ba mixed<|Bx (e8 b3 [e7 0,e7 0,e7 0,.slice none 0 0] 32::e8 b2 (ez e) 54::e8 b1 [e7 bd,e7<|bf.lt,e7<|bf.mr,.slice wa bf.ws.length M] 32::I) 8<|Dr 0 C (Af R1 C)<|Dr 1 C (Bd ap8) ?_
 refine Dr 3 C (Aq C)<|Dr 4 C (Bm (vs:=[_,_,_,_,_,_,_]) s9) ?_
 refine C9 (rs:=[2,5]) kr C C<|Ej ?_<|Do ?_
 ·refine Sc2 C (Ac c_ C C<|az1 (xs:=bf.ws) (Bg (Bg hl hH.fit) Ah) om) λa4 az=>?_
  refine Ds1 5<|Se1 C (B2 (α:=Ev) (cs:=(ez e)) (xs:=[⟨e.kd,e.tm,e.u,e.v,e.w,e.lb,e.sg⟩]) Ad s9 C C dc dc C kr C C) λa8=>?_
  refine Ds1 6<|Sc2 C (Ac c_ C C<|ag5 (i:=i) (xs:=bf.ws) (ys:=([⟨e.kd,e.tm,e.u,e.v,e.w,e.lb,e.sg⟩]:List Ev)) (show Fit κ _ (vk 54 a4 az bf.ws::vc 54 (.slice a8 1 1) (([⟨e.kd,e.tm,e.u,e.v,e.w,e.lb,e.sg⟩]:List Ev))::e8 b3 [e7 0,e7 0,e7 0,.slice none 0 0] 32::e8 b2 (ez e) 54::e8 b1 [e7 bd,e7<|bf.lt,e7<|bf.mr,.slice wa bf.ws.length M] 32::I) from Az) om C om tb0 lcn) λab ak=>?_
  show D prog κ _ _ _ _ _ _ _ ([(65,.slice ab (List.take i bf.ws++([⟨e.kd,e.tm,e.u,e.v,e.w,e.lb,e.sg⟩]:List Ev)++List.drop i bf.ws).length ak),(64,.slice a8 1 1),(61,.slice a4 bf.ws.length az),(63,.agg (ez e).toArray),(62,e7<|(i:Int)),(60,.slice wa bf.ws.length M),(59,.pointer<|some ⟨b1,3,none⟩),(56,.bool false),(2,pt b1),(3,pt b2),(4,pt b3),(8,e7<|(i:Int))]:Env) (vk 54 ab ak (List.take i bf.ws++([⟨e.kd,e.tm,e.u,e.v,e.w,e.lb,e.sg⟩]:List Ev)++List.drop i bf.ws)::e8 b3 [e7 0,e7 0,e7 0,.slice none 0 0] 32::e8 b2 (ez e) 54::e8 b1 [e7 bd,e7<|bf.lt,e7<|bf.mr,.slice wa bf.ws.length M] 32::I)
  have ah:List.take i bf.ws++([⟨e.kd,e.tm,e.u,e.v,e.w,e.lb,e.sg⟩]:List Ev)++List.drop i bf.ws=K3 bf e:=bd5 (M9 (by intro h;first|omega|exact an) hj)
  rw [ah]
  refine Dr 7 C (Af R1 C)<|Cg kr ?_
  refine Ae 8 C (Bs (cs:=[_,_,_,_]) (vs:=[_]) (cs':=[_,_,_,_]) ap8) ?_
  rintro _ _ ⟨rfl,rfl⟩
  refine Ch kr ?_
  refine Ao<|Ak<|Gf U7 C<|Gl ef ?_
  refine Gf R0 C<|Gl ef ?_
  refine Gr (E9 C C)<|Gf U7 C<|Ge0 (Bs (cs:=[_,_,_,_]) (vs:=[_]) (cs':=[_,_,_,_]) ef) ?_
  refine Ar<|A1 (S2 2 4)<|Ak<|Gl4 J4 ?_
  refine Gf U7 C<|Gl ef ?_
  refine Gf bf9 C<|Gl ef ?_
  refine Gr (Rsu C C)<|Gr (Rsu C C) ?_
  have ae:((if bf.lt<e.tm then e.tm else bf.lt) - bd) - 1=ah7 bd bf e:=by unfold ah7;rw [ao4]
  rw [ae]
  refine G.e (Ac c_ C C<|ap1 (bd:=bd) (lt:=if bf.lt<e.tm then e.tm else bf.lt) (mr:=bf.mr) (m:=(ah7 bd bf e)) A5 hB.fu5<|by rw [ac0];omega) ?_
  rintro _ _ ⟨_,_,⟨ax,ar,bj,rfl,a9,rfl⟩,rfl,rfl⟩
  refine Gm C<|Gr (Bj C C)<|Gr (Bj C C)<|Ge1 (Aj J4 C) λbt=>Ge0 (C8 J4) ?_
  refine Ga C<|Ar<|A1 (S3 10 9 4)<|Ak<|Gl4 J4 ?_
  refine Gm C<|Ge0 (C8 J4) ?_
  exact Ga C<|Ga C<|Ar<|B3<|Cu C J4 C C C mm C (vk 54 ax ar (beyond (ah7 bd bf e)<|K3 bf e)::vk 54 ab ak (K3 bf e)::I) Az ⟨ax,ar,ab,bj,[vk 54 ax ar (beyond (ah7 bd bf e)<|K3 bf e),vc 54 (.slice ab (K3 bf e).length ak)<|K3 bf e],(by rw [ao4];rfl),Cz mm,(Sl.ap2 A5 a9),rfl⟩
 refine Se1 C (B2 (α:=Ev) (cs:=(ez e)) (xs:=[⟨e.kd,e.tm,e.u,e.v,e.w,e.lb,e.sg⟩]) Ad s9 C C dc dc C kr C C) λa3=>?_
 refine Ds1 2<|Sc2 C (Ac c_ C C<|az1 (xs:=bf.ws) (Bg (Bg hl hH.fit) Ah) om) λa7 a6=>?_
 refine Ds1 6<|Sc2 C (Ac c_ C C<|ag5 (i:=i) (xs:=bf.ws) (ys:=([⟨e.kd,e.tm,e.u,e.v,e.w,e.lb,e.sg⟩]:List Ev)) (show Fit κ _ (vk 54 a7 a6 bf.ws::vc 54 (.slice a3 1 1) (([⟨e.kd,e.tm,e.u,e.v,e.w,e.lb,e.sg⟩]:List Ev))::e8 b3 [e7 0,e7 0,e7 0,.slice none 0 0] 32::e8 b2 (ez e) 54::e8 b1 [e7 bd,e7<|bf.lt,e7<|bf.mr,.slice wa bf.ws.length M] 32::I) from Az) om C om tb0 lcn) λaa ai=>?_
 show D prog κ _ _ _ _ _ _ _ ([(65,.slice aa (List.take i bf.ws++([⟨e.kd,e.tm,e.u,e.v,e.w,e.lb,e.sg⟩]:List Ev)++List.drop i bf.ws).length ai),(61,.slice a7 bf.ws.length a6),(64,.slice a3 1 1),(63,.agg (ez e).toArray),(62,e7<|(i:Int)),(60,.slice wa bf.ws.length M),(59,.pointer<|some ⟨b1,3,none⟩),(56,.bool false),(2,pt b1),(3,pt b2),(4,pt b3),(8,e7<|(i:Int))]:Env) (vk 54 aa ai (List.take i bf.ws++([⟨e.kd,e.tm,e.u,e.v,e.w,e.lb,e.sg⟩]:List Ev)++List.drop i bf.ws)::e8 b3 [e7 0,e7 0,e7 0,.slice none 0 0] 32::e8 b2 (ez e) 54::e8 b1 [e7 bd,e7<|bf.lt,e7<|bf.mr,.slice wa bf.ws.length M] 32::I)
 have ah:List.take i bf.ws++([⟨e.kd,e.tm,e.u,e.v,e.w,e.lb,e.sg⟩]:List Ev)++List.drop i bf.ws=K3 bf e:=bd5 (M9 (by intro h;first|omega|exact an) hj)
 rw [ah]
 refine Dr 7 C (Af R1 C)<|Cg kr ?_
 refine Ae 8 C (Bs (cs:=[_,_,_,_]) (vs:=[_]) (cs':=[_,_,_,_]) ap8) ?_
 rintro _ _ ⟨rfl,rfl⟩
 refine Ch kr ?_
 refine Ao<|Ak<|Gf U7 C<|Gl ef ?_
 refine Gf R0 C<|Gl ef ?_
 refine Gr (E9 C C)<|Gf U7 C<|Ge0 (Bs (cs:=[_,_,_,_]) (vs:=[_]) (cs':=[_,_,_,_]) ef) ?_
 refine Ar<|A1 (S2 2 4)<|Ak<|Gl4 J4 ?_
 refine Gf U7 C<|Gl ef ?_
 refine Gf bf9 C<|Gl ef ?_
 refine Gr (Rsu C C)<|Gr (Rsu C C) ?_
 have ae:((if bf.lt<e.tm then e.tm else bf.lt) - bd) - 1=ah7 bd bf e:=by unfold ah7;rw [ao4]
 rw [ae]
 refine G.e (Ac c_ C C<|ap1 (bd:=bd) (lt:=if bf.lt<e.tm then e.tm else bf.lt) (mr:=bf.mr) (m:=(ah7 bd bf e)) A5 hB.fu5<|by rw [ac0];omega) ?_
 rintro _ _ ⟨_,_,⟨au,aw,bg,rfl,be,rfl⟩,rfl,rfl⟩
 refine Gm C<|Gr (Bj C C)<|Gr (Bj C C)<|Ge1 (Aj J4 C) λbv=>Ge0 (C8 J4) ?_
 refine Ga C<|Ar<|A1 (S3 10 9 4)<|Ak<|Gl4 J4 ?_
 refine Gm C<|Ge0 (C8 J4) ?_
 exact Ga C<|Ga C<|Ar<|B3<|Cu C J4 C C C mm C (vk 54 au aw (beyond (ah7 bd bf e)<|K3 bf e)::vk 54 aa ai (K3 bf e)::I) Az ⟨au,aw,aa,bg,[vk 54 au aw (beyond (ah7 bd bf e)<|K3 bf e),vc 54 (.slice aa (K3 bf e).length ai)<|K3 bf e],(by rw [ao4];rfl),Cz mm,(Sl.ap2 A5 be),rfl⟩
end Go.Sl
