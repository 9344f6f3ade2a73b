/- A part of the proofs of statements of this seat: contracts of functions, and the plain laws that they lean on. No conditions. -/
import Derived.Test.YtoagcglbkeomgaaGreatDoorA25
set_option linter.unusedVariables false
set_option linter.unusedSimpArgs false
set_option linter.unusedSectionVars false
open Go.Proofs.Tryz (prog)
set_option maxHeartbeats 8000000
namespace Go.Sl
open Go.Proofs
set_option maxRecDepth 4000
variable{bd:Int}{a va wa:Option Addr}{T:List Item}{M c i n:Nat}{l xs ys:List Ev}
attribute [local irreducible] W G V D A j8 Eff
theorem ta2{p:Prop}(h:p:=by repeat (first|assumption|exact Bh _|apply Bg|apply B2|apply Bp)):p:=h
theorem ta7{p:Prop}(h:p:=by rw [Fv];exact Az):p:=h
theorem tb2{p:Prop}(h:p:=by simp only [Jf,Fv];exact Az):p:=h
theorem dn8{κ:Ctx}{I:List Item}{nd kd wd mo lt mr tm:Int}{wn wc:Nat}{lv:SlA}{pv:PkV}{X:List Lk}(hH:Has I T)(hl:Sl κ T (.slice lv.a X.length lv.c) X)(hp:PkR κ T nd (j6 X) pv)(hI:SlI nd kd wd tm X){xe:Ev}(hw:s7 kd wd mo=0)(hx:H4 nd xe)(bq:0<=tm/\tm<=xe.tm)(hT:F4 κ I 0 p5):eu prog κ 81 [.agg (ky kd wd mo bd lt mr wa wn wc nd lv.a X.length lv.c (j6 X) pv tm).toArray,.agg (ez xe).toArray] I (λr J=>∃(lw:SlA) (pw:PkV) (Y:List Item) (a:Option Addr) (c:Nat),r = .tuple #[.agg (ky kd wd mo bd lt mr wa wn wc nd lw.a ((p6 kd wd mo (X,[]) xe).1).length lw.c (j6 ((p6 kd wd mo (X,[]) xe).1)) pw xe.tm).toArray,.slice a (p6 kd wd mo (X,[]) xe).2.length c,e7 0]/\Sl κ (Y++T) (.slice lw.a (p6 kd wd mo (X,[]) xe).1.length lw.c) (p6 kd wd mo (X,[]) xe).1/\PkR κ (Y++T) nd (j6 (p6 kd wd mo (X,[]) xe).1) pw/\Sl κ (Y++T) (.slice a (p6 kd wd mo (X,[]) xe).2.length c) (p6 kd wd mo (X,[]) xe).2/\J=Y++I):=by
 have a9:=hx.tm
 have bo:=q9 (F6 hI.val)
 rw [G0] at bo
 refine Ce2 Tryz.func81 C C ?_
 refine Al<|Ge1 (Av (cs:=[_,_,_,_,_,_,_,_,_,_,_,_,_,_,_,_,_,_,_,_,_,_,_,_,_]) C C C) λb1=>Ge1 (Av (cs:=[_,_,_,_,_,_,_]) C C C) λb2=>Ge1 (Aj H2 C) λb3=>Z ?_
 refine G.e (Ab c_ C C<|ab3 xe) ?_
 rintro _ _ ⟨_,_,⟨rfl,rfl⟩,rfl,rfl⟩
 refine Z ?_
 refine Ao C (λbg=>?_)<|λbg=>Z ?_
 ·exact absurd hx.chk bg
 refine Gc0 (Ab c_ C C<|bt7 (nd:=nd) (e:=xe) hx)<|Z ?_
 refine Ao C (λbr=>?_)<|λbr=>Z ?_
 ·omega
 refine G.e (Ab c_ C C<|fj1 (Bd hl<|B4 (κ:=κ)<|by repeat (first|exact hH|exact Bh _|apply Bg|apply B2|apply Bp)) hI.val hw om) ?_
 rintro _ _ ⟨_,_,⟨bm,bk,rfl,rfl⟩,rfl,rfl⟩
 refine Z ?_
 refine B9 (σ:=(List Lk)×SlA×PkV×(List Item)×(Option Addr)×Nat×(Option Addr)×Nat×(List Ev)) (λs=>([(2,pt b1),(3,pt b2),(4,pt b3),(8,.slice s.2.2.2.2.2.2.1 s.2.2.2.2.2.2.2.2.length s.2.2.2.2.2.2.2.1),(10,.slice s.2.2.2.2.1 (P5 kd wd mo xe.tm s.1).length s.2.2.2.2.2.1)]:Env)) (λs=>vk 54 s.2.2.2.2.2.2.1 s.2.2.2.2.2.2.2.1 s.2.2.2.2.2.2.2.2::vk 54 s.2.2.2.2.1 s.2.2.2.2.2.1 (P5 kd wd mo xe.tm s.1)::e8 b3 zk 47::e8 b2 (ez xe) 54::e8 b1 (ky kd wd mo bd lt mr wa wn wc nd s.2.1.a s.1.length s.2.1.c (j6 s.1) s.2.2.1 tm) 47::(s.2.2.2.1++I)) (λs=>(R6 kd wd mo xe.tm (X,[])=R6 kd wd mo xe.tm (s.1,s.2.2.2.2.2.2.2.2))/\(p9 nd s.1=0)/\(Sl κ (s.2.2.2.1++T) (.slice s.2.1.a s.1.length s.2.1.c) s.1)/\(PkR κ (s.2.2.2.1++T) nd (j6 s.1) s.2.2.1)/\(s.2.2.2.2.2.2.2.2.length+s.1.length<=X.length)) (λs=>s.1.length) (X,lv,pv,[],bm,bk,none,0,[]) (show (R6 kd wd mo xe.tm (X,[])=R6 kd wd mo xe.tm ((X:List Lk),([]:List Ev)))/\(p9 nd (X:List Lk)=0)/\(Sl κ (([]:List Item)++T) (.slice (lv:SlA).a (X:List Lk).length (lv:SlA).c) (X:List Lk))/\(PkR κ (([]:List Item)++T) nd (j6 (X:List Lk)) (pv:PkV))/\(([]:List Ev).length+(X:List Lk).length<=X.length) from ⟨rfl,hI.val,hl,hp,(by simp)⟩) (cx2<|Aa C<|Aa (Da C<|by first|rfl|simp)<|Aa (Da C<|by first|rfl|simp) Bb) (show Fit κ _ (vk 54 none 0 ([])::vk 54 bm bk (P5 kd wd mo xe.tm X)::e8 b3 zk 47::e8 b2 (ez xe) 54::e8 b1 (ky kd wd mo bd lt mr wa wn wc nd (lv).a (X).length (lv).c (j6 X) (pv) tm) 47::(([])++I)) from (A9 (show Fit κ _ _ from Az)<|B6 (α:=Ev) _ _)) ?_
 rintro ⟨X1,lw,pw,Y,ca,cc,oa,oc,o⟩ hp
 dsimp only at hp ⊢
 obtain ⟨a8,aq,bc,bn,bw⟩:=hp
 have bu:=dv6 kd wd mo xe.tm X1
 refine Z ?_
 refine Ao C (λbt=>Z ?_)<|λbt=>Z ?_
 ·have au:=dv4 (o:=o) aq hw a9.2 om
  refine Z ?_
  refine Ge2 (Bs (α:=Ev) (e:=54) (xs:=o) (ys:=P5 kd wd mo xe.tm X1) Ad z6 C C C mm A5 olp dc C<|λ_ _=>am) λav aw=>Z ?_
  refine G.e (Ab c_ C C<|bh6 (T:=(Y++T)) (X:=X1) (evs:=P5 kd wd mo xe.tm X1) ta2 bc bn aq A5 au.2.2.2.1 (by first|omega|(simp only [E_,Fy];omega))<|Ba hT Ah) ?_
  rintro _ _ ⟨_,_,⟨a3,ah,Y10,rfl,az,a4,rfl⟩,rfl,rfl⟩
  refine Dp (J:=vk 54 av aw (o++(P5 kd wd mo xe.tm X1))::vk 54 ca cc (P5 kd wd mo xe.tm X1)::e8 b3 zk 47::e8 b2 (ez xe) 54::e8 b1 (ky kd wd mo bd lt mr wa wn wc nd lw.a X1.length lw.c (j6 X1) pw tm) 47::(Y10++(Y++I))) (Cj<|Cz (A:=Y10) (L:=[vk 54 av aw (o++(P5 kd wd mo xe.tm X1)),vc 54 (.slice ca (P5 kd wd mo xe.tm X1).length cc)<|P5 kd wd mo xe.tm X1,e8 b3 zk 47,e8 b2 (ez xe) 54,e8 b1 (ky kd wd mo bd lt mr wa wn wc nd lw.a X1.length lw.c (j6 X1) pw tm) 47]) (T:=(Y++I))) ?_
  show G prog κ _ _ _ _ ([(47,.tuple #[.agg (ky kd wd mo bd lt mr wa wn wc nd a3.a (List.foldl ep X1<|P5 kd wd mo xe.tm X1).length a3.c (j6<|List.foldl ep X1<|P5 kd wd mo xe.tm X1) ah tm).toArray,e7 0]),(46,.slice ca (P5 kd wd mo xe.tm X1).length cc),(45,.agg (ky kd wd mo bd lt mr wa wn wc nd lw.a X1.length lw.c (j6 X1) pw tm).toArray),(8,.slice av (o++(P5 kd wd mo xe.tm X1)).length aw),(43,.slice av (o++(P5 kd wd mo xe.tm X1)).length aw),(42,.slice ca (P5 kd wd mo xe.tm X1).length cc),(41,.slice oa o.length oc),(36,.bool<|decide<|0<(((P5 kd wd mo xe.tm X1).length:Nat):Int)),(35,e7<|(((P5 kd wd mo xe.tm X1).length:Nat):Int)),(34,.slice ca (P5 kd wd mo xe.tm X1).length cc),(2,pt b1),(3,pt b2),(4,pt b3),(8,.slice oa o.length oc),(10,.slice ca (P5 kd wd mo xe.tm X1).length cc)]:Env) (vk 54 av aw (o++(P5 kd wd mo xe.tm X1))::vk 54 ca cc (P5 kd wd mo xe.tm X1)::e8 b3 zk 47::e8 b2 (ez xe) 54::e8 b1 (ky kd wd mo bd lt mr wa wn wc nd lw.a X1.length lw.c (j6 X1) pw tm) 47::(Y10++(Y++I)))
  refine Z ?_
  refine Ge0 (Eff.sq H2)<|Z ?_
  refine Ao C (λbb=>?_)<|λbb=>Z ?_
  ·exact absurd bb dc
  refine G.e (Ab c_ C C<|fj1 (Bd az<|B4 (κ:=κ)<|by repeat (first|exact hH|exact Bh _|apply Bg|apply B2|apply Bp)) au.2.2.1 hw om) ?_
  rintro _ _ ⟨_,_,⟨bf,ba,rfl,rfl⟩,rfl,rfl⟩
  exact Ga C<|Bq<|Bu (((List.foldl ep X1<|P5 kd wd mo xe.tm X1)),(a3),(ah),((Y10++Y)),(bf),(ba),(av),(aw),(o++(P5 kd wd mo xe.tm X1))) (by dsimp only;exact ⟨(a8.trans au.1),au.2.2.1,(by rw [Fv];exact az),(by rw [Fv];exact a4),(by have h9:=au.2.2.2.2;omega)⟩) (hlt:=by (try dsimp only);exact au.2.1) (hI:=by (try dsimp only);exact ta7)
 have ax:=a8.trans (fm3 om)
 refine Z ?_
 refine Ge1 (B1 (α:=Ev) (cs:=(ez xe)) (xs:=[⟨xe.kd,xe.tm,xe.u,xe.v,xe.w,xe.lb,xe.sg⟩]) Ad z6 C C dc dc C kr C C) λae=>?_
 show G prog κ _ _ _ _ ([(56,.slice ae 1 1),(55,.agg (ez xe).toArray),(54,.slice oa o.length oc),(36,.bool<|decide<|0<(((P5 kd wd mo xe.tm X1).length:Nat):Int)),(35,e7<|(((P5 kd wd mo xe.tm X1).length:Nat):Int)),(34,.slice ca (P5 kd wd mo xe.tm X1).length cc),(2,pt b1),(3,pt b2),(4,pt b3),(8,.slice oa o.length oc),(10,.slice ca (P5 kd wd mo xe.tm X1).length cc)]:Env) (vc 54 (.slice ae 1 1) (([xe]:List Ev))::vk 54 oa oc o::vk 54 ca cc (P5 kd wd mo xe.tm X1)::e8 b3 zk 47::e8 b2 (ez xe) 54::e8 b1 (ky kd wd mo bd lt mr wa wn wc nd lw.a X1.length lw.c (j6 X1) pw tm) 47::(Y++I))
 refine Ge2 (Bs (α:=Ev) (e:=54) (xs:=o) (ys:=([xe]:List Ev)) Ad z6 C C C mm A5 olp dc C<|λ_ _=>am) λab ad=>Z ?_
 refine Ge1 (B1 (α:=Ev) (cs:=(ez xe)) (xs:=[⟨xe.kd,xe.tm,xe.u,xe.v,xe.w,xe.lb,xe.sg⟩]) Ad z6 C C dc dc C kr C C) λaj=>?_
 show G prog κ _ _ _ _ ([(61,.slice aj 1 1),(60,.agg (ez xe).toArray),(59,.agg (ky kd wd mo bd lt mr wa wn wc nd lw.a X1.length lw.c (j6 X1) pw tm).toArray),(8,.slice ab (o++([xe]:List Ev)).length ad),(57,.slice ab (o++([xe]:List Ev)).length ad),(56,.slice ae 1 1),(55,.agg (ez xe).toArray),(54,.slice oa o.length oc),(36,.bool<|decide<|0<(((P5 kd wd mo xe.tm X1).length:Nat):Int)),(35,e7<|(((P5 kd wd mo xe.tm X1).length:Nat):Int)),(34,.slice ca (P5 kd wd mo xe.tm X1).length cc),(2,pt b1),(3,pt b2),(4,pt b3),(8,.slice oa o.length oc),(10,.slice ca (P5 kd wd mo xe.tm X1).length cc)]:Env) (vc 54 (.slice aj 1 1) (([xe]:List Ev))::vc 54 (.slice ae 1 1) (([xe]:List Ev))::vk 54 ab ad (o++([xe]:List Ev))::vk 54 ca cc (P5 kd wd mo xe.tm X1)::e8 b3 zk 47::e8 b2 (ez xe) 54::e8 b1 (ky kd wd mo bd lt mr wa wn wc nd lw.a X1.length lw.c (j6 X1) pw tm) 47::(Y++I))
 refine G.e (Ab c_ C C<|bh6 (T:=(Y++T)) (X:=X1) (evs:=([xe]:List Ev)) ta2 bc bn aq A5 (λq hq=>(Gh.1 hq)▸hx) (by first|omega|(simp only [E_,Fy];omega))<|Ba hT Ah) ?_
 rintro _ _ ⟨_,_,⟨ai,M,Y19,rfl,ar,a0,rfl⟩,rfl,rfl⟩
 refine Dp (J:=vc 54 (.slice aj 1 1) (([xe]:List Ev))::vc 54 (.slice ae 1 1) (([xe]:List Ev))::vk 54 ab ad (o++([xe]:List Ev))::vk 54 ca cc (P5 kd wd mo xe.tm X1)::e8 b3 zk 47::e8 b2 (ez xe) 54::e8 b1 (ky kd wd mo bd lt mr wa wn wc nd lw.a X1.length lw.c (j6 X1) pw tm) 47::(Y19++(Y++I))) (Cj<|Cz (A:=Y19) (L:=[vc 54 (.slice aj 1 1) (([xe]:List Ev)),vc 54 (.slice ae 1 1)<|([xe]:List Ev),vc 54 (.slice ab (o++([xe]:List Ev)).length ad)<|o++([xe]:List Ev),vc 54 (.slice ca (P5 kd wd mo xe.tm X1).length cc)<|P5 kd wd mo xe.tm X1,e8 b3 zk 47,e8 b2 (ez xe) 54,e8 b1 (ky kd wd mo bd lt mr wa wn wc nd lw.a X1.length lw.c (j6 X1) pw tm) 47]) (T:=(Y++I))) ?_
 show G prog κ _ _ _ _ ([(62,.tuple #[.agg (ky kd wd mo bd lt mr wa wn wc nd ai.a (ep X1 xe).length ai.c (j6<|ep X1 xe) M tm).toArray,e7 0]),(61,.slice aj 1 1),(60,.agg (ez xe).toArray),(59,.agg (ky kd wd mo bd lt mr wa wn wc nd lw.a X1.length lw.c (j6 X1) pw tm).toArray),(8,.slice ab (o++([xe]:List Ev)).length ad),(57,.slice ab (o++([xe]:List Ev)).length ad),(56,.slice ae 1 1),(55,.agg (ez xe).toArray),(54,.slice oa o.length oc),(36,.bool<|decide<|0<(((P5 kd wd mo xe.tm X1).length:Nat):Int)),(35,e7<|(((P5 kd wd mo xe.tm X1).length:Nat):Int)),(34,.slice ca (P5 kd wd mo xe.tm X1).length cc),(2,pt b1),(3,pt b2),(4,pt b3),(8,.slice oa o.length oc),(10,.slice ca (P5 kd wd mo xe.tm X1).length cc)]:Env) (vc 54 (.slice aj 1 1) (([xe]:List Ev))::vc 54 (.slice ae 1 1) (([xe]:List Ev))::vk 54 ab ad (o++([xe]:List Ev))::vk 54 ca cc (P5 kd wd mo xe.tm X1)::e8 b3 zk 47::e8 b2 (ez xe) 54::e8 b1 (ky kd wd mo bd lt mr wa wn wc nd lw.a X1.length lw.c (j6 X1) pw tm) 47::(Y19++(Y++I)))
 refine Z ?_
 refine Ge0 (Eff.sq H2)<|Z ?_
 refine Ao C (λbh=>?_)<|λbh=>Z ?_
 ·exact absurd bh dc
 refine Ge0 (Bt (cs:=[_,_,_,_,_,_,_,_,_,_,_,_,_,_,_,_,_,_,_,_,_,_,_,_,_]) (vs:=[_]) (cs':=[_,_,_,_,_,_,_,_,_,_,_,_,_,_,_,_,_,_,_,_,_,_,_,_,_]) ef)<|Z ?_
 have be:=q9 (F6<|J3 aq hx)
 rw [G0] at be
 refine Z ?_
 refine Ao C (λa6=>Z ?_)<|λa6=>Z ?_
 ·have bi:=fb0 hw (J3 aq hx) a9 (by have bp:=fp4 hI.tm hI.val (show ¬kd=2 by omega) ax;subst bp;exact fk5 hI.tm bq.2)
  refine Gc2 (Ab c_ C C<|ci3 (Bd ar<|B4 (κ:=κ)<|by repeat (first|exact hH|exact Bh _|apply Bg|apply B2|apply Bp)) om bi) λap ao=>?_
  refine Gm C<|Gr (Bf C C)<|Gr (Bf C C)<|Ga C<|Ga C<|Ar<|A0 (S5 12 11 8 2 4)<|Ax<|Al<|Gm C<|Gr (Cb C C)<|Ar<|Ao C (λbj=>?_)<|λbj=>?_
  ·exact absurd bj dc
  refine Bc<|Ak<|Al<|Gm C ?_
  have bv:=af7 kd wd mo xe.tm (ep X1 xe)
  refine Gm C<|Ge2 (Bs (α:=Ev) (e:=54) (xs:=o++([xe]:List Ev)) (ys:=s6 kd wd mo xe.tm (ep X1 xe)) Ad z6 C C C mm A5 olp dc C<|λ_ _=>am) λak an=>?_
  refine Ga C<|Ar<|Al<|Gr (j8.lj H2) ?_
  refine Gm C<|G.e (Ab c_ C C<|bh6 (T:=(Y19++(Y++T))) (X:=(ep X1 xe)) (evs:=s6 kd wd mo xe.tm (ep X1 xe)) ta2 ar a0 (J3 aq hx) A5 (ak7 (J3 aq hx) hx.tm) (by first|omega|(simp only [E_,Fy];omega))<|Ba hT Ah) ?_
  rintro _ _ ⟨_,_,⟨ay,aa,Y26,rfl,a5,a7,rfl⟩,rfl,rfl⟩
  refine Dp (J:=vk 54 ap ao (s6 kd wd mo xe.tm<|ep X1 xe)::vc 54 (.slice aj 1 1) (([xe]:List Ev))::vc 54 (.slice ae 1 1) (([xe]:List Ev))::vk 54 ak an ((o++([xe]:List Ev))++(s6 kd wd mo xe.tm<|ep X1 xe))::vk 54 ca cc (P5 kd wd mo xe.tm X1)::e8 b3 zk 47::e8 b2 (ez xe) 54::e8 b1 (ky kd wd mo bd lt mr wa wn wc nd ai.a (ep X1 xe).length ai.c (j6<|ep X1 xe) M xe.tm) 47::(Y26++(Y19++(Y++I)))) (Cj<|Cz (A:=Y26) (L:=[vk 54 ap ao (s6 kd wd mo xe.tm<|ep X1 xe),vc 54 (.slice aj 1 1)<|([xe]:List Ev),vc 54 (.slice ae 1 1)<|([xe]:List Ev),vc 54 (.slice ak ((o++([xe]:List Ev))++(s6 kd wd mo xe.tm<|ep X1 xe)).length an)<|(o++([xe]:List Ev))++(s6 kd wd mo xe.tm<|ep X1 xe),vc 54 (.slice ca (P5 kd wd mo xe.tm X1).length cc)<|P5 kd wd mo xe.tm X1,e8 b3 zk 47,e8 b2 (ez xe) 54,e8 b1 (ky kd wd mo bd lt mr wa wn wc nd ai.a (ep X1 xe).length ai.c (j6<|ep X1 xe) M xe.tm) 47]) (T:=(Y19++(Y++I)))) ?_
  show G prog κ _ _ _ _ ([(96,.tuple #[.agg (ky kd wd mo bd lt mr wa wn wc nd ay.a (List.foldl ep (ep X1 xe)<|s6 kd wd mo xe.tm<|ep X1 xe).length ay.c (j6<|List.foldl ep (ep X1 xe)<|s6 kd wd mo xe.tm<|ep X1 xe) aa xe.tm).toArray,e7 0]),(95,.slice ap (s6 kd wd mo xe.tm<|ep X1 xe).length ao),(94,.agg (ky kd wd mo bd lt mr wa wn wc nd ai.a (ep X1 xe).length ai.c (j6<|ep X1 xe) M xe.tm).toArray),(8,.slice ak ((o++([xe]:List Ev))++(s6 kd wd mo xe.tm<|ep X1 xe)).length an),(92,.slice ak ((o++([xe]:List Ev))++(s6 kd wd mo xe.tm<|ep X1 xe)).length an),(91,.slice ap (s6 kd wd mo xe.tm<|ep X1 xe).length ao),(90,.slice ab (o++([xe]:List Ev)).length ad),(87,.bool<|decide<|0≠0),(86,e7 0),(12,e7 0),(11,.slice ap (s6 kd wd mo xe.tm<|ep X1 xe).length ao),(8,.slice ab (o++([xe]:List Ev)).length ad),(2,pt b1),(4,pt b3)]:Env) (vk 54 ap ao (s6 kd wd mo xe.tm<|ep X1 xe)::vc 54 (.slice aj 1 1) (([xe]:List Ev))::vc 54 (.slice ae 1 1) (([xe]:List Ev))::vk 54 ak an ((o++([xe]:List Ev))++(s6 kd wd mo xe.tm<|ep X1 xe))::vk 54 ca cc (P5 kd wd mo xe.tm X1)::e8 b3 zk 47::e8 b2 (ez xe) 54::e8 b1 (ky kd wd mo bd lt mr wa wn wc nd ai.a (ep X1 xe).length ai.c (j6<|ep X1 xe) M xe.tm) 47::(Y26++(Y19++(Y++I))))
  refine Z ?_
  refine Ge0 (Eff.sq H2)<|Z ?_
  refine Ao C (λa1=>?_)<|λa1=>Z ?_
  ·exact absurd a1 dc
  refine Ge0 (Eff.sq H2)<|Z ?_
  have hR:=bw0 (nd:=nd) ax a6 (J3 aq hx)
  rw [hR]
  exact Cs C H2 C C C mm C (((vk 54 ak an ((o++([xe]:List Ev))++(s6 kd wd mo xe.tm<|ep X1 xe))::(Y26++(Y19++Y)))++I)) tb2 ⟨ay,aa,(vk 54 ak an ((o++([xe]:List Ev))++(s6 kd wd mo xe.tm<|ep X1 xe))::(Y26++(Y19++Y))),ak,an,rfl,(by simp only [Jf,Fv];exact Bd a5<|Ff<|De _),(by simp only [Jf,Fv];exact PkR.fit a7<|Ff<|De _),Cy<|Gk _ A_,rfl⟩
 refine Ge0 (Eff.sq H2)<|Z ?_
 have hR:=step_end ax a6
 rw [hR]
 exact Cs C H2 C C C mm C (((vk 54 ab ad (o++([xe]:List Ev))::(Y19++Y))++I)) tb2 ⟨ai,M,(vk 54 ab ad (o++([xe]:List Ev))::(Y19++Y)),ab,ad,rfl,(by simp only [Jf,Fv];exact Bd ar<|Ff<|De _),(by simp only [Jf,Fv];exact PkR.fit a0<|Ff<|De _),Cy<|Gk _ A_,rfl⟩
variable {κ:Ctx}{I:List Item}
theorem ge7:∀M w,(callFunc 138 M).run prog w=((Extern.SlicesOverlaps.overlaps #[30,30] #[4] M).run prog w).andThen λv w'=> .ok (.value v) w':=λM w=>run_callFunc_extern (e:=Extern.SlicesOverlaps.overlaps #[30,30] #[4]) Tryz.func138 kr kr kr kr M w
theorem cz0{ab:Nat}(hi:i<=xs.length)(hy:0<ys.length)(aq:xs.length+ys.length<=1000000000):eu prog κ 94 [.slice a xs.length c,e7 ((i:Int)),.slice va ys.length ab] (vk 54 a c xs::vk 54 va ab ys::I) (λr J=>∃a' c',r = .slice a' (List.take i xs++ys++List.drop i xs).length c'/\J=vk 54 a' c' (List.take i xs++ys++List.drop i xs)::I):=by
 refine Bx (vc.cap A_) λap=>?_
 have ae:(List.take i xs++ys++List.drop i xs).length=xs.length+ys.length:=by simp only [By,Ft,Gb];omega
 refine Ce3 Tryz.func94 C C<|Z ?_
 refine Gr (Do (α:=Ev) (xs:=xs) (l:=i) Ad z6 C C om A5 lat)<|Z ?_
 refine Ao C (λaa=>?_)<|λaa=>Z ?_
 ·exact absurd aa om
 refine Ao C (λaj=>Z ?_)<|λaj=>Z ?_
 ·refine Ge2 (Bs (α:=Ev) (e:=54) (xs:=xs) (ys:=ys) Ad z6 C C C mm A5 om dc C<|λ_ _=>am) λai ah=>Z ?_
  have hR:List.take i xs++ys++List.drop i xs=xs++ys:=by rw [Fz om,He om,Gv]
  exact Am C C (vk 54 ai ah (List.take i xs++ys++List.drop i xs)::I) (by unfold vk;rw [hR];exact Az) ⟨ai,ah,by rw [hR],rfl⟩
 refine Gr (j8.caps Ad C)<|Z ?_
 refine Ao C (λak=>Z ?_)<|λak=>Z ?_
 ·refine Gr (E2 (h:=i) Ad z6 C C om om) (Z ?_)
  refine Ge2 (Eff.grow (α:=Ev) (xs:=xs) (k:=xs.length+ys.length - i) Ad Cf z6 C C C om A5 om om om om dc C) λad M=>?_
  refine Ga C<|G.pull (p:=(List.take i xs++List.replicate (xs.length+ys.length - i) (default:Ev)).length<=M) (vc.cap mm) λan=>?_
  have ar:(List.take i xs++List.replicate (xs.length+ys.length - i) (default:Ev)).length=xs.length+ys.length:=by simp only [By,Ft,Gc];omega
  refine Z ?_
  refine Gr (Do (α:=Ev) (xs:=List.take i xs++List.replicate (xs.length+ys.length - i) (default:Ev)) (l:=i) Ad z6 C C om A5 lat)<|Gm C<|Ge0 (Fp (α:=Ev) (k:=i) (q:=ys.length) (R:=List.take i xs++ys++List.replicate (xs.length - i) (default:Ev)) (n:=(i+(xs.length+ys.length - i))) Ad z6 C lat C A5 lat lat C (gf6 hi) lat am) ?_
  refine Ar<|Ax<|A8 mixed<|Bv I 9<|Z ?_
  refine Dr 4 C (C1 (l:=(i+ys.length)) Ad z6 C C om om om)<|Z ?_
  refine Dr 7 C (C1 (l:=i) Ad z6 C C om om om)<|Ds1 8<|Se0 C (Fp (α:=Ev) (k:=(i+ys.length)) (q:=(xs.length - i)) (R:=List.take i xs++ys++List.drop i xs) (n:=(i+(xs.length+ys.length - i))) Ad z6 C lat C (Sl.dy8 (Cy (xs:=xs) mm) om om) lat lat C (gf5 hi) lat am)<|Z ?_
  exact Am C C (vk 54 ad M (List.take i xs++ys++List.drop i xs)::I) (by unfold vk;rw [show (List.take i xs++ys++List.drop i xs).length=i+(xs.length+ys.length - i) by omega];exact Az) ⟨ad,M,by rw [show (List.take i xs++ys++List.drop i xs).length=i+(xs.length+ys.length - i) by omega],rfl⟩
 refine Gr (E2 (h:=xs.length+ys.length) Ad z6 C C om om)<|Ga C<|G.room (h:=xs.length+ys.length) ta1 C om om<|λjs ao=>Z ?_
 refine Gr (C1 (l:=(i+ys.length)) Ad z6 C C om om om)<|Ge0 (Eff.overlaps (k:=i+ys.length) ge7 Ad z6 C C om om om (Fit.sp<|Sp.pick (ab5.tail _<|ab5.head _ _)<|Sp.refl _) (Nat.mul_pos om Enc.pos) C)<|Z ?_
 refine A8 mixed<|Bv I 9<|Z ?_
 refine Dr 4 C (C1 (l:=(i+ys.length)) Ad z6 C C om om om)<|Z ?_
 refine Dr 7 C (C1 (l:=i) Ad z6 C C om om om)<|Ds1 8<|Se0 C (Eff.cg2 (sz:=Enc.sz Ev) (n:=xs.length+ys.length) (cs:=(cells xs++js)) (k:=(i+ys.length)) (q:=(xs.length - i)) Ad z6 C om C (au2.dy9 (au2.vec mm) om) om om (ce5 hi) C am)<|Z ?_
 refine Gr (C1 (l:=i) Ad z6 C C om om om)<|Gm C<|Ge0 (Eff.cg2 (sz:=Enc.sz Ev) (n:=xs.length+ys.length) (cs:=(List.take ((i+ys.length)*Enc.sz Ev) (cells xs++js)++List.take ((xs.length - i)*Enc.sz Ev) (List.drop (i*Enc.sz Ev)<|cells xs++js)++List.drop ((i+ys.length)*Enc.sz Ev+(xs.length - i)*Enc.sz Ev) (cells xs++js))) (k:=i) (q:=ys.length) Ad z6 C om C (Cy (e:=54) (xs:=ys) mm) om om (λu hu=>cells_one ys u<|Hz hu) C am)<|Z ?_
 have hC:(List.take (i*Enc.sz Ev) (List.take ((i+ys.length)*Enc.sz Ev) (cells xs++js)++List.take ((xs.length - i)*Enc.sz Ev) (List.drop (i*Enc.sz Ev)<|cells xs++js)++List.drop ((i+ys.length)*Enc.sz Ev+(xs.length - i)*Enc.sz Ev) (cells xs++js))++List.take (ys.length*Enc.sz Ev) (cells ys)++List.drop (i*Enc.sz Ev+ys.length*Enc.sz Ev) (List.take ((i+ys.length)*Enc.sz Ev) (cells xs++js)++List.take ((xs.length - i)*Enc.sz Ev) (List.drop (i*Enc.sz Ev)<|cells xs++js)++List.drop ((i+ys.length)*Enc.sz Ev+(xs.length - i)*Enc.sz Ev) (cells xs++js)))=cells (List.take i xs++ys++List.drop i xs):=be5 hi ao
 exact Am C C (vk 54 a c (List.take i xs++ys++List.drop i xs)::I) (by unfold vk;rw [hC];show Fit κ _ (vec 54 _ (.slice a (List.take i xs++ys++List.drop i xs).length c) (List.take i xs++ys++List.drop i xs).length (cells<|List.take i xs++ys++List.drop i xs)::I);rw [ae];exact Az) ⟨a,c,by rw [ae],rfl⟩
theorem ag3{m:Nat}{K:List Item}(hf:Fit κ I (vc 54 (.slice a n c) xs::vc 54 (.slice va m M) ys::K))(hn:n=xs.length)(hm:m=ys.length)(hi:i<=xs.length)(hy:0<ys.length)(aa:xs.length+ys.length<=1000000000):eu prog κ 94 [.slice a n c,e7 (i:Int),.slice va m M] I (λr J=>∃a' c',r = .slice a' (List.take i xs++ys++List.drop i xs).length c'/\J=vk 54 a' c' (List.take i xs++ys++List.drop i xs)::K):=by
 subst hn hm
 exact Ck hf<|cz0 hi hy aa
theorem bk7{e:Ev}(h0:0<i)(h:e.tm<(e_ l ((i:Int) - 1)).tm)(M:M5 evC l e n=M5 evC l e i):M5 evC l e n=M5 evC l e (i - 1):=by
 rw [M]
 obtain ⟨m,rfl⟩:∃m,i=m+1:=⟨i - 1,by omega⟩
 have e1:(((m+1:Nat):Int) - 1)=(m:Int):=by omega
 rw [e1] at h
 show (if evC e (e_ l m)<0 then M5 evC l e m else m+1)=_
 rw [B_ (by unfold evC;rw [B_ h];decide)]
 rfl
theorem M9{e:Ev}(h:0<i->¬e.tm<(e_ l ((i:Int) - 1)).tm)(hj:M5 evC l e n=M5 evC l e i):M5 evC l e n=i:=by
 rw [hj]
 cases i with
 |zero=>rfl
 |succ m=>
  have M:=h om
  have e1:(((m+1:Nat):Int) - 1)=(m:Int):=by omega
  rw [e1] at M
  show (if evC e (e_ l m)<0 then M5 evC l e m else m+1)=_
  rw [An]
  unfold evC
  rw [An M]
  split<;>decide
theorem bd2{bf:BfS}{e:Ev}(h:M5 evC bf.ws e bf.ws.length=i):List.take i bf.ws++[e]++List.drop i bf.ws=K5 bf e:=by
 unfold K5 be4 gc2
 rw [h];simp
theorem fg9{e:Ev}{bf:BfS}(hH:Has I T)(hl:Sl κ T (.slice wa bf.ws.length M) bf.ws)(hB:az2 bd bf)(hw:bf.ws.length<=4096)(he:z7 e=0)(ht:bf.mr<e.tm)(hT:0<=e.tm/\e.tm<=1048576)(bt:bf.ws.length<4096):eu prog κ 47 [.agg #[e7 bd,e7 (bf.lt),e7 (bf.mr),.slice wa bf.ws.length M],.agg (ez e).toArray] I (λr J=>∃(a:Option Addr) (c:Nat) (a2:Option Addr) (c2:Nat) (Y:List Item),r = .tuple #[.agg #[e7 bd,e7 (bf.push bd e).lt,e7 (bf.push bd e).mr,.slice a (bf.push bd e).ws.length c],.slice a2 ((bf.out bd e)).length c2,e7 0]/\Sl κ (Y++T) (.slice a (bf.push bd e).ws.length c) (bf.push bd e).ws/\Sl κ (Y++T) (.slice a2 ((bf.out bd e)).length c2) (bf.out bd e)/\J=Y++I):=by
 have bw:=hB.bd
 have bv:=hB.lt
 have b6:=hB.mr
 refine Ce2 Tryz.func47 C C ?_
 refine Al<|Ge1 (Av (cs:=[_,_,_,_]) C C C) λb1=>Ge1 (Av (cs:=[_,_,_,_,_,_,_]) C C C) λb2=>Ge1 (Aj J6 C) λb3=>Ga C<|Ga C<|Ar<|Al<|Gl7 z6 ?_
 refine G.e (Ab c_ C C<|ab3 e) ?_
 rintro _ _ ⟨_,_,⟨rfl,rfl⟩,rfl,rfl⟩
 refine Ga C<|Ar<|Ax<|A7<|Al<|Gl4 J6 ?_
 refine G.e (Ab c_ C C<|au0 (bd:=bd) (bf:=bf) (Bd (Bd hl hH.fit) Ah) hB om) ?_
 rintro _ _ ⟨_,_,⟨rfl,rfl⟩,rfl,rfl⟩
 refine Gr (Ey C)<|Ga C<|Ar<|A0 (S5 13 7 4 3 2)<|W.no C<|Al<|Gm C<|Gr (Cb C C)<|Ga C<|Ar<|Ao C (λbi=>?_)<|λbi=>?_
 ·exact absurd he bi
 refine Al<|Gf H8 C<|Gl ef ?_
 refine Gf cf8 C<|Gl ef ?_
 refine Gr (j8.leq C C)<|Ga C<|Ar<|A0 (S4 25 4 3 2)<|Ao C (λbp=>?_)<|λbp=>?_
 ·omega
 refine Al<|Gf R2 C<|Gl ap1 ?_
 refine Gr (Bn Ad C)<|Gr (C3 C C)<|Ga C<|Ar<|Ao C (λbr=>?_)<|λbr=>?_
 ·omega
 refine Bc<|Au<|Ak<|Al<|Gf R2 C<|Gl ap1 ?_
 refine Gr (Bn Ad C)<|Ga C<|Ar<|Ax<|A7<|B9 (σ:=Nat) (λs=>([(2,pt b1),(3,pt b2),(4,pt b3),(8,e7 ((s:Nat):Int))]:Env)) (λs=>e8 b3 [e7 0,e7 0,e7 0,.slice none 0 0] 32::e8 b2 (ez e) 54::e8 b1 [e7 bd,e7<|bf.lt,e7<|bf.mr,.slice wa bf.ws.length M] 32::I) (λs=>(s<=bf.ws.length)/\(M5 evC bf.ws e bf.ws.length=M5 evC bf.ws e s)) (λs=>s) (bf.ws.length) (show ((bf.ws.length:Nat)<=bf.ws.length)/\(M5 evC bf.ws e bf.ws.length=M5 evC bf.ws e (bf.ws.length:Nat)) from ⟨om,rfl⟩) (cx2<|Aa C<|Aa Cl Bb) (show Fit κ _ (e8 b3 [e7 0,e7 0,e7 0,.slice none 0 0] 32::e8 b2 (ez e) 54::e8 b1 [e7 bd,e7<|bf.lt,e7<|bf.mr,.slice wa bf.ws.length M] 32::I) from Ai) ?_
 rintro i hp
 obtain ⟨hi,hj⟩:=hp
 refine Ax<|Ax<|A8 mixed<|Bv (e8 b3 [e7 0,e7 0,e7 0,.slice none 0 0] 32::e8 b2 (ez e) 54::e8 b1 [e7 bd,e7<|bf.lt,e7<|bf.mr,.slice wa bf.ws.length M] 32::I) 14<|Dr 0 C (Ap C)<|Dr 1 C (Dc C C)<|Dr 2 C (Ap C)<|Df (d:=45) C (λbq=>?_)<|λbq=>?_
 ·refine Dro 3 C (Af R2 C) (Dro 4 C (Be ap1) ?_)
  refine Dro 5 C (Ap C)<|Dro 6 C (Rsu C C)<|Dro 7 C (A1 (α:=Ev) (xs:=bf.ws) Ad z6 C C (Bd (Bd hl hH.fit) Ah) om om)<|Dro 8 C (Fe (α:=Ev) (xs:=bf.ws) H8 C (Bd (Bd hl hH.fit) Ah) om)<|Dro 9 C (E3 (α:=Ev) (xs:=bf.ws) (u:=e7 ((e_ bf.ws<|(i:Int) - 1).tm)) ef C (Bd (Bd hl hH.fit) Ah) om om C)<|Dro 10 C (Af H8 C)<|Dro 11 C (Be ef) ?_
  refine Dro 12 C (Dc C C)<|Dr 13 C (B0 C C)<|Dz<|Ak<|A0 (S5 56 2 3 4 8)<|Ao C (λan=>?_)<|λan=>?_
  ·exact Bc<|Ak<|A7<|A6<|Gm C<|Gr (Rsu C C)<|Ga C<|Bq<|Au<|Bu ((i - 1)) ⟨om,(bk7 om an hj)⟩
  refine Cg<|Aw<|Aw<|Bi<|Ak<|Ax<|A8 mixed<|Bv (e8 b3 [e7 0,e7 0,e7 0,.slice none 0 0] 32::e8 b2 (ez e) 54::e8 b1 [e7 bd,e7<|bf.lt,e7<|bf.mr,.slice wa bf.ws.length M] 32::I) 8<|Dr 0 C (Af R2 C)<|Dr 1 C (Be ap1) ?_
  refine Dr 3 C (Ap C)<|Dr 4 C (Bl (vs:=[_,_,_,_,_,_,_]) z6) ?_
  refine C5 (rs:=[2,5]) kr C C<|D5 ?_<|Dl ?_
  ·refine Sc2 C (Ab c_ C C<|ay7 (xs:=bf.ws) (Bd (Bd hl hH.fit) Ah) om) λbn bm=>?_
   refine Ds1 5<|Se1 C (B1 (α:=Ev) (cs:=(ez e)) (xs:=[⟨e.kd,e.tm,e.u,e.v,e.w,e.lb,e.sg⟩]) Ad z6 C C dc dc C kr C C) λbk=>?_
   refine Ds1 6<|Sc2 C (Ab c_ C C<|ag3 (i:=i) (xs:=bf.ws) (ys:=([⟨e.kd,e.tm,e.u,e.v,e.w,e.lb,e.sg⟩]:List Ev)) (show Fit κ _ (vk 54 bn bm bf.ws::vc 54 (.slice bk 1 1) (([⟨e.kd,e.tm,e.u,e.v,e.w,e.lb,e.sg⟩]:List Ev))::e8 b3 [e7 0,e7 0,e7 0,.slice none 0 0] 32::e8 b2 (ez e) 54::e8 b1 [e7 bd,e7<|bf.lt,e7<|bf.mr,.slice wa bf.ws.length M] 32::I) from Az) om C om tb0 lcn) λar ay=>?_
   show D prog κ _ _ _ _ _ _ _ ([(65,.slice ar (List.take i bf.ws++([⟨e.kd,e.tm,e.u,e.v,e.w,e.lb,e.sg⟩]:List Ev)++List.drop i bf.ws).length ay),(64,.slice bk 1 1),(61,.slice bn bf.ws.length bm),(63,.agg (ez e).toArray),(62,e7<|(i:Int)),(60,.slice wa bf.ws.length M),(59,.pointer<|some ⟨b1,3,none⟩),(56,.bool<|decide<|e.tm<((e_ bf.ws<|(i:Int) - 1).tm)),(2,pt b1),(3,pt b2),(4,pt b3),(8,e7<|(i:Int))]:Env) (vk 54 ar ay (List.take i bf.ws++([⟨e.kd,e.tm,e.u,e.v,e.w,e.lb,e.sg⟩]:List Ev)++List.drop i bf.ws)::e8 b3 [e7 0,e7 0,e7 0,.slice none 0 0] 32::e8 b2 (ez e) 54::e8 b1 [e7 bd,e7<|bf.lt,e7<|bf.mr,.slice wa bf.ws.length M] 32::I)
   have ah:List.take i bf.ws++([⟨e.kd,e.tm,e.u,e.v,e.w,e.lb,e.sg⟩]:List Ev)++List.drop i bf.ws=K5 bf e:=bd2 (M9 (by intro h;first|omega|exact an) hj)
   rw [ah]
   refine Dr 7 C (Af R2 C)<|Ch kr ?_
   refine Ae 8 C (Bt (cs:=[_,_,_,_]) (vs:=[_]) (cs':=[_,_,_,_]) ap1) ?_
   rintro _ _ ⟨rfl,rfl⟩
   refine Ci kr ?_
   refine Ak<|Al<|Gf U7 C<|Gl ef ?_
   refine Gf H8 C<|Gl ef ?_
   refine Gr (Fd C C)<|Gf U7 C<|Ge0 (Bt (cs:=[_,_,_,_]) (vs:=[_]) (cs':=[_,_,_,_]) ef) ?_
   refine Ar<|A0 (S2 2 4)<|Al<|Gl4 J6 ?_
   refine Gf U7 C<|Gl ef ?_
   refine Gf bf3 C<|Gl ef ?_
   refine Gr (Rsu C C)<|Gr (Rsu C C) ?_
   have ae:((if bf.lt<e.tm then e.tm else bf.lt) - bd) - 1=ah2 bd bf e:=by unfold ah2;rw [an9]
   rw [ae]
   refine G.e (Ab c_ C C<|ao4 (bd:=bd) (lt:=if bf.lt<e.tm then e.tm else bf.lt) (mr:=bf.mr) (m:=(ah2 bd bf e)) A5 hB.ft1<|by rw [ab8];omega) ?_
   rintro _ _ ⟨_,_,⟨bb,ax,bj,rfl,a9,rfl⟩,rfl,rfl⟩
   refine Gm C<|Gr (Bf C C)<|Gr (Bf C C)<|Ge1 (Aj J6 C) λb5=>Ge0 (C9 J6) ?_
   refine Ga C<|Ar<|A0 (S3 10 9 4)<|Al<|Gl4 J6 ?_
   refine Gm C<|Ge0 (C9 J6) ?_
   exact Ga C<|Ga C<|Ar<|B3<|Cs C J6 C C C mm C (vk 54 bb ax (beyond (ah2 bd bf e)<|K5 bf e)::vk 54 ar ay (K5 bf e)::I) Az ⟨bb,ax,ar,bj,[vk 54 bb ax (beyond (ah2 bd bf e)<|K5 bf e),vc 54 (.slice ar (K5 bf e).length ay)<|K5 bf e],(by rw [an9];rfl),Cy mm,(Sl.ao5 A5 a9),rfl⟩
  refine Se1 C (B1 (α:=Ev) (cs:=(ez e)) (xs:=[⟨e.kd,e.tm,e.u,e.v,e.w,e.lb,e.sg⟩]) Ad z6 C C dc dc C kr C C) λaz=>?_
  refine Ds1 2<|Sc2 C (Ab c_ C C<|ay7 (xs:=bf.ws) (Bd (Bd hl hH.fit) Ah) om) λa0 a5=>?_
  refine Ds1 6<|Sc2 C (Ab c_ C C<|ag3 (i:=i) (xs:=bf.ws) (ys:=([⟨e.kd,e.tm,e.u,e.v,e.w,e.lb,e.sg⟩]:List Ev)) (show Fit κ _ (vk 54 a0 a5 bf.ws::vc 54 (.slice az 1 1) (([⟨e.kd,e.tm,e.u,e.v,e.w,e.lb,e.sg⟩]:List Ev))::e8 b3 [e7 0,e7 0,e7 0,.slice none 0 0] 32::e8 b2 (ez e) 54::e8 b1 [e7 bd,e7<|bf.lt,e7<|bf.mr,.slice wa bf.ws.length M] 32::I) from Az) om C om tb0 lcn) λaa ai=>?_
  show D prog κ _ _ _ _ _ _ _ ([(65,.slice aa (List.take i bf.ws++([⟨e.kd,e.tm,e.u,e.v,e.w,e.lb,e.sg⟩]:List Ev)++List.drop i bf.ws).length ai),(61,.slice a0 bf.ws.length a5),(64,.slice az 1 1),(63,.agg (ez e).toArray),(62,e7<|(i:Int)),(60,.slice wa bf.ws.length M),(59,.pointer<|some ⟨b1,3,none⟩),(56,.bool<|decide<|e.tm<((e_ bf.ws<|(i:Int) - 1).tm)),(2,pt b1),(3,pt b2),(4,pt b3),(8,e7<|(i:Int))]:Env) (vk 54 aa ai (List.take i bf.ws++([⟨e.kd,e.tm,e.u,e.v,e.w,e.lb,e.sg⟩]:List Ev)++List.drop i bf.ws)::e8 b3 [e7 0,e7 0,e7 0,.slice none 0 0] 32::e8 b2 (ez e) 54::e8 b1 [e7 bd,e7<|bf.lt,e7<|bf.mr,.slice wa bf.ws.length M] 32::I)
  have ah:List.take i bf.ws++([⟨e.kd,e.tm,e.u,e.v,e.w,e.lb,e.sg⟩]:List Ev)++List.drop i bf.ws=K5 bf e:=bd2 (M9 (by intro h;first|omega|exact an) hj)
  rw [ah]
  refine Dr 7 C (Af R2 C)<|Ch kr ?_
  refine Ae 8 C (Bt (cs:=[_,_,_,_]) (vs:=[_]) (cs':=[_,_,_,_]) ap1) ?_
  rintro _ _ ⟨rfl,rfl⟩
  refine Ci kr ?_
  refine Ak<|Al<|Gf U7 C<|Gl ef ?_
  refine Gf H8 C<|Gl ef ?_
  refine Gr (Fd C C)<|Gf U7 C<|Ge0 (Bt (cs:=[_,_,_,_]) (vs:=[_]) (cs':=[_,_,_,_]) ef) ?_
  refine Ar<|A0 (S2 2 4)<|Al<|Gl4 J6 ?_
  refine Gf U7 C<|Gl ef ?_
  refine Gf bf3 C<|Gl ef ?_
  refine Gr (Rsu C C)<|Gr (Rsu C C) ?_
  have ae:((if bf.lt<e.tm then e.tm else bf.lt) - bd) - 1=ah2 bd bf e:=by unfold ah2;rw [an9]
  rw [ae]
  refine G.e (Ab c_ C C<|ao4 (bd:=bd) (lt:=if bf.lt<e.tm then e.tm else bf.lt) (mr:=bf.mr) (m:=(ah2 bd bf e)) A5 hB.ft1<|by rw [ab8];omega) ?_
  rintro _ _ ⟨_,_,⟨au,aw,bh,rfl,ba,rfl⟩,rfl,rfl⟩
  refine Gm C<|Gr (Bf C C)<|Gr (Bf C C)<|Ge1 (Aj J6 C) λb7=>Ge0 (C9 J6) ?_
  refine Ga C<|Ar<|A0 (S3 10 9 4)<|Al<|Gl4 J6 ?_
  refine Gm C<|Ge0 (C9 J6) ?_
  exact Ga C<|Ga C<|Ar<|B3<|Cs C J6 C C C mm C (vk 54 au aw (beyond (ah2 bd bf e)<|K5 bf e)::vk 54 aa ai (K5 bf e)::I) Az ⟨au,aw,aa,bh,[vk 54 au aw (beyond (ah2 bd bf e)<|K5 bf e),vc 54 (.slice aa (K5 bf e).length ai)<|K5 bf e],(by rw [an9];rfl),Cy mm,(Sl.ao5 A5 ba),rfl⟩
 refine Dpo 3 C<|Dpo 4 C<|Dpo 5 C<|Dpo 6 C<|Dpo 7 C<|Dpo 8 C<|Dpo 9 C<|Dpo 10 C<|Dpo 11 C<|Dpo 12 C<|Dr 13 C (Bk C C)<|Dz<|Ak<|A0 (S5 56 2 3 4 8)<|W.no C<|Cg<|Aw<|Aw<|Bi<|Ak<|Ax<|A8 mixed<|Bv (e8 b3 [e7 0,e7 0,e7 0,.slice none 0 0] 32::e8 b2 (ez e) 54::e8 b1 [e7 bd,e7<|bf.lt,e7<|bf.mr,.slice wa bf.ws.length M] 32::I) 8<|Dr 0 C (Af R2 C)<|Dr 1 C (Be ap1) ?_
 refine Dr 3 C (Ap C)<|Dr 4 C (Bl (vs:=[_,_,_,_,_,_,_]) z6) ?_
 refine C5 (rs:=[2,5]) kr C C<|D5 ?_<|Dl ?_
 ·refine Sc2 C (Ab c_ C C<|ay7 (xs:=bf.ws) (Bd (Bd hl hH.fit) Ah) om) λa3 a6=>?_
  refine Ds1 5<|Se1 C (B1 (α:=Ev) (cs:=(ez e)) (xs:=[⟨e.kd,e.tm,e.u,e.v,e.w,e.lb,e.sg⟩]) Ad z6 C C dc dc C kr C C) λa4=>?_
  refine Ds1 6<|Sc2 C (Ab c_ C C<|ag3 (i:=i) (xs:=bf.ws) (ys:=([⟨e.kd,e.tm,e.u,e.v,e.w,e.lb,e.sg⟩]:List Ev)) (show Fit κ _ (vk 54 a3 a6 bf.ws::vc 54 (.slice a4 1 1) (([⟨e.kd,e.tm,e.u,e.v,e.w,e.lb,e.sg⟩]:List Ev))::e8 b3 [e7 0,e7 0,e7 0,.slice none 0 0] 32::e8 b2 (ez e) 54::e8 b1 [e7 bd,e7<|bf.lt,e7<|bf.mr,.slice wa bf.ws.length M] 32::I) from Az) om C om tb0 lcn) λab ak=>?_
  show D prog κ _ _ _ _ _ _ _ ([(65,.slice ab (List.take i bf.ws++([⟨e.kd,e.tm,e.u,e.v,e.w,e.lb,e.sg⟩]:List Ev)++List.drop i bf.ws).length ak),(64,.slice a4 1 1),(61,.slice a3 bf.ws.length a6),(63,.agg (ez e).toArray),(62,e7<|(i:Int)),(60,.slice wa bf.ws.length M),(59,.pointer<|some ⟨b1,3,none⟩),(56,.bool false),(2,pt b1),(3,pt b2),(4,pt b3),(8,e7<|(i:Int))]:Env) (vk 54 ab ak (List.take i bf.ws++([⟨e.kd,e.tm,e.u,e.v,e.w,e.lb,e.sg⟩]:List Ev)++List.drop i bf.ws)::e8 b3 [e7 0,e7 0,e7 0,.slice none 0 0] 32::e8 b2 (ez e) 54::e8 b1 [e7 bd,e7<|bf.lt,e7<|bf.mr,.slice wa bf.ws.length M] 32::I)
  have ah:List.take i bf.ws++([⟨e.kd,e.tm,e.u,e.v,e.w,e.lb,e.sg⟩]:List Ev)++List.drop i bf.ws=K5 bf e:=bd2 (M9 (by intro h;first|omega|exact an) hj)
  rw [ah]
  refine Dr 7 C (Af R2 C)<|Ch kr ?_
  refine Ae 8 C (Bt (cs:=[_,_,_,_]) (vs:=[_]) (cs':=[_,_,_,_]) ap1) ?_
  rintro _ _ ⟨rfl,rfl⟩
  refine Ci kr ?_
  refine Ak<|Al<|Gf U7 C<|Gl ef ?_
  refine Gf H8 C<|Gl ef ?_
  refine Gr (Fd C C)<|Gf U7 C<|Ge0 (Bt (cs:=[_,_,_,_]) (vs:=[_]) (cs':=[_,_,_,_]) ef) ?_
  refine Ar<|A0 (S2 2 4)<|Al<|Gl4 J6 ?_
  refine Gf U7 C<|Gl ef ?_
  refine Gf bf3 C<|Gl ef ?_
  refine Gr (Rsu C C)<|Gr (Rsu C C) ?_
  have ae:((if bf.lt<e.tm then e.tm else bf.lt) - bd) - 1=ah2 bd bf e:=by unfold ah2;rw [an9]
  rw [ae]
  refine G.e (Ab c_ C C<|ao4 (bd:=bd) (lt:=if bf.lt<e.tm then e.tm else bf.lt) (mr:=bf.mr) (m:=(ah2 bd bf e)) A5 hB.ft1<|by rw [ab8];omega) ?_
  rintro _ _ ⟨_,_,⟨ao,av,bo,rfl,be,rfl⟩,rfl,rfl⟩
  refine Gm C<|Gr (Bf C C)<|Gr (Bf C C)<|Ge1 (Aj J6 C) λb4=>Ge0 (C9 J6) ?_
  refine Ga C<|Ar<|A0 (S3 10 9 4)<|Al<|Gl4 J6 ?_
  refine Gm C<|Ge0 (C9 J6) ?_
  exact Ga C<|Ga C<|Ar<|B3<|Cs C J6 C C C mm C (vk 54 ao av (beyond (ah2 bd bf e)<|K5 bf e)::vk 54 ab ak (K5 bf e)::I) Az ⟨ao,av,ab,bo,[vk 54 ao av (beyond (ah2 bd bf e)<|K5 bf e),vc 54 (.slice ab (K5 bf e).length ak)<|K5 bf e],(by rw [an9];rfl),Cy mm,(Sl.ao5 A5 be),rfl⟩
 refine Se1 C (B1 (α:=Ev) (cs:=(ez e)) (xs:=[⟨e.kd,e.tm,e.u,e.v,e.w,e.lb,e.sg⟩]) Ad z6 C C dc dc C kr C C) λa8=>?_
 refine Ds1 2<|Sc2 C (Ab c_ C C<|ay7 (xs:=bf.ws) (Bd (Bd hl hH.fit) Ah) om) λa1 a7=>?_
 refine Ds1 6<|Sc2 C (Ab c_ C C<|ag3 (i:=i) (xs:=bf.ws) (ys:=([⟨e.kd,e.tm,e.u,e.v,e.w,e.lb,e.sg⟩]:List Ev)) (show Fit κ _ (vk 54 a1 a7 bf.ws::vc 54 (.slice a8 1 1) (([⟨e.kd,e.tm,e.u,e.v,e.w,e.lb,e.sg⟩]:List Ev))::e8 b3 [e7 0,e7 0,e7 0,.slice none 0 0] 32::e8 b2 (ez e) 54::e8 b1 [e7 bd,e7<|bf.lt,e7<|bf.mr,.slice wa bf.ws.length M] 32::I) from Az) om C om tb0 lcn) λad aj=>?_
 show D prog κ _ _ _ _ _ _ _ ([(65,.slice ad (List.take i bf.ws++([⟨e.kd,e.tm,e.u,e.v,e.w,e.lb,e.sg⟩]:List Ev)++List.drop i bf.ws).length aj),(61,.slice a1 bf.ws.length a7),(64,.slice a8 1 1),(63,.agg (ez e).toArray),(62,e7<|(i:Int)),(60,.slice wa bf.ws.length M),(59,.pointer<|some ⟨b1,3,none⟩),(56,.bool false),(2,pt b1),(3,pt b2),(4,pt b3),(8,e7<|(i:Int))]:Env) (vk 54 ad aj (List.take i bf.ws++([⟨e.kd,e.tm,e.u,e.v,e.w,e.lb,e.sg⟩]:List Ev)++List.drop i bf.ws)::e8 b3 [e7 0,e7 0,e7 0,.slice none 0 0] 32::e8 b2 (ez e) 54::e8 b1 [e7 bd,e7<|bf.lt,e7<|bf.mr,.slice wa bf.ws.length M] 32::I)
 have ah:List.take i bf.ws++([⟨e.kd,e.tm,e.u,e.v,e.w,e.lb,e.sg⟩]:List Ev)++List.drop i bf.ws=K5 bf e:=bd2 (M9 (by intro h;first|omega|exact an) hj)
 rw [ah]
 refine Dr 7 C (Af R2 C)<|Ch kr ?_
 refine Ae 8 C (Bt (cs:=[_,_,_,_]) (vs:=[_]) (cs':=[_,_,_,_]) ap1) ?_
 rintro _ _ ⟨rfl,rfl⟩
 refine Ci kr ?_
 refine Ak<|Al<|Gf U7 C<|Gl ef ?_
 refine Gf H8 C<|Gl ef ?_
 refine Gr (Fd C C)<|Gf U7 C<|Ge0 (Bt (cs:=[_,_,_,_]) (vs:=[_]) (cs':=[_,_,_,_]) ef) ?_
 refine Ar<|A0 (S2 2 4)<|Al<|Gl4 J6 ?_
 refine Gf U7 C<|Gl ef ?_
 refine Gf bf3 C<|Gl ef ?_
 refine Gr (Rsu C C)<|Gr (Rsu C C) ?_
 have ae:((if bf.lt<e.tm then e.tm else bf.lt) - bd) - 1=ah2 bd bf e:=by unfold ah2;rw [an9]
 rw [ae]
 refine G.e (Ab c_ C C<|ao4 (bd:=bd) (lt:=if bf.lt<e.tm then e.tm else bf.lt) (mr:=bf.mr) (m:=(ah2 bd bf e)) A5 hB.ft1<|by rw [ab8];omega) ?_
 rintro _ _ ⟨_,_,⟨aq,ap,bg,rfl,bc,rfl⟩,rfl,rfl⟩
 refine Gm C<|Gr (Bf C C)<|Gr (Bf C C)<|Ge1 (Aj J6 C) λbu=>Ge0 (C9 J6) ?_
 refine Ga C<|Ar<|A0 (S3 10 9 4)<|Al<|Gl4 J6 ?_
 refine Gm C<|Ge0 (C9 J6) ?_
 exact Ga C<|Ga C<|Ar<|B3<|Cs C J6 C C C mm C (vk 54 aq ap (beyond (ah2 bd bf e)<|K5 bf e)::vk 54 ad aj (K5 bf e)::I) Az ⟨aq,ap,ad,bg,[vk 54 aq ap (beyond (ah2 bd bf e)<|K5 bf e),vc 54 (.slice ad (K5 bf e).length aj)<|K5 bf e],(by rw [an9];rfl),Cy mm,(Sl.ao5 A5 bc),rfl⟩
end Go.Sl
