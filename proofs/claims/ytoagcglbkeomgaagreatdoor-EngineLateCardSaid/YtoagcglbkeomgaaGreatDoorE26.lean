/- A part of the proofs of statements of this seat: contracts of functions, and the plain laws that they lean on. No conditions. -/
import Derived.Test.YtoagcglbkeomgaaGreatDoorE25
set_option linter.unusedVariables false
set_option linter.unusedSimpArgs false
set_option linter.unusedSectionVars false
open Go.Proofs.Tryz (prog)
set_option maxHeartbeats 8000000
namespace Go.Sl
open Go.Proofs
set_option maxRecDepth 4000
variable{bd:Int}{c i n wc:Nat}{T:List Item}{a va:Option Addr}{l xs ys:List Ev}
attribute [local irreducible] W G V D A j7 Eff
theorem ta2{p:Prop}(h:p:=by repeat (first|assumption|exact Bh _|apply Bg|apply B1|apply Bo)):p:=h
theorem ta7{p:Prop}(h:p:=by rw [Fu];exact Az):p:=h
theorem tb2{p:Prop}(h:p:=by simp only [Jd,Fu];exact Az):p:=h
theorem fq4{κ:Ctx}{I:List Item}{nd kd wd mo lt mr tm:Int}{wa:Option Addr}{wn:Nat}{lv:SlA}{pv:PkV}{X:List Lk}(hH:Has I T)(hl:Sl κ T (.slice lv.a X.length lv.c) X)(hp:PkR κ T nd (j8 X) pv)(hI:SlI nd kd wd tm X){xe:Ev}(hw:s7 kd wd mo=0)(hx:J1 nd xe)(bt:0<=tm/\tm<=xe.tm)(hT:F4 κ I 0 p5):eu prog κ 81 [.agg (ky kd wd mo bd lt mr wa wn wc nd lv.a X.length lv.c (j8 X) pv tm).toArray,.agg (ez xe).toArray] I (λr J=>∃(lw:SlA) (pw:PkV) (Y:List Item) (a:Option Addr) (c:Nat),r = .tuple #[.agg (ky kd wd mo bd lt mr wa wn wc nd lw.a ((q7 kd wd mo (X,[]) xe).1).length lw.c (j8 ((q7 kd wd mo (X,[]) xe).1)) pw xe.tm).toArray,.slice a (q7 kd wd mo (X,[]) xe).2.length c,e7 0]/\Sl κ (Y++T) (.slice lw.a (q7 kd wd mo (X,[]) xe).1.length lw.c) (q7 kd wd mo (X,[]) xe).1/\PkR κ (Y++T) nd (j8 (q7 kd wd mo (X,[]) xe).1) pw/\Sl κ (Y++T) (.slice a (q7 kd wd mo (X,[]) xe).2.length c) (q7 kd wd mo (X,[]) xe).2/\J=Y++I):=by
 have ba:=hx.tm
 have bp:=q9 (G2 hI.val)
 rw [G7] at bp
 refine Ce2 Tryz.func81 C C ?_
 refine Am<|Ge1 (Au (cs:=[_,_,_,_,_,_,_,_,_,_,_,_,_,_,_,_,_,_,_,_,_,_,_,_,_]) C C C) λb1=>Ge1 (Au (cs:=[_,_,_,_,_,_,_]) C C C) λb2=>Ge1 (Aj H3 C) λb3=>Z ?_
 refine G.e (Ac c_ C C<|ab3 xe) ?_
 rintro _ _ ⟨_,_,⟨rfl,rfl⟩,rfl,rfl⟩
 refine Z ?_
 refine Al C (λbi=>?_)<|λbi=>Z ?_
 ·exact absurd hx.chk bi
 refine Gc0 (Ac c_ C C<|bt8 (nd:=nd) (e:=xe) hx)<|Z ?_
 refine Al C (λbq=>?_)<|λbq=>Z ?_
 ·omega
 refine G.e (Ac c_ C C<|fj1 (Bd hl<|B3 (κ:=κ)<|by repeat (first|exact hH|exact Bh _|apply Bg|apply B1|apply Bo)) hI.val hw om) ?_
 rintro _ _ ⟨_,_,⟨bn,bm,rfl,rfl⟩,rfl,rfl⟩
 refine Z ?_
 refine B9 (σ:=(List Lk)×SlA×PkV×(List Item)×(Option Addr)×Nat×(Option Addr)×Nat×(List Ev)) (λs=>([(2,pt b1),(3,pt b2),(4,pt b3),(8,.slice s.2.2.2.2.2.2.1 s.2.2.2.2.2.2.2.2.length s.2.2.2.2.2.2.2.1),(10,.slice s.2.2.2.2.1 (P3 kd wd mo xe.tm s.1).length s.2.2.2.2.2.1)]:Env)) (λs=>vk 54 s.2.2.2.2.2.2.1 s.2.2.2.2.2.2.2.1 s.2.2.2.2.2.2.2.2::vk 54 s.2.2.2.2.1 s.2.2.2.2.2.1 (P3 kd wd mo xe.tm s.1)::e8 b3 zk 47::e8 b2 (ez xe) 54::e8 b1 (ky kd wd mo bd lt mr wa wn wc nd s.2.1.a s.1.length s.2.1.c (j8 s.1) s.2.2.1 tm) 47::(s.2.2.2.1++I)) (λs=>(R5 kd wd mo xe.tm (X,[])=R5 kd wd mo xe.tm (s.1,s.2.2.2.2.2.2.2.2))/\(p9 nd s.1=0)/\(Sl κ (s.2.2.2.1++T) (.slice s.2.1.a s.1.length s.2.1.c) s.1)/\(PkR κ (s.2.2.2.1++T) nd (j8 s.1) s.2.2.1)/\(s.2.2.2.2.2.2.2.2.length+s.1.length<=X.length)) (λs=>s.1.length) (X,lv,pv,[],bn,bm,none,0,[]) (show (R5 kd wd mo xe.tm (X,[])=R5 kd wd mo xe.tm ((X:List Lk),([]:List Ev)))/\(p9 nd (X:List Lk)=0)/\(Sl κ (([]:List Item)++T) (.slice (lv:SlA).a (X:List Lk).length (lv:SlA).c) (X:List Lk))/\(PkR κ (([]:List Item)++T) nd (j8 (X:List Lk)) (pv:PkV))/\(([]:List Ev).length+(X:List Lk).length<=X.length) from ⟨rfl,hI.val,hl,hp,(by simp)⟩) (cx2<|Aa C<|Aa (Db C<|by first|rfl|simp)<|Aa (Db C<|by first|rfl|simp) Bb) (show Fit κ _ (vk 54 none 0 ([])::vk 54 bn bm (P3 kd wd mo xe.tm X)::e8 b3 zk 47::e8 b2 (ez xe) 54::e8 b1 (ky kd wd mo bd lt mr wa wn wc nd (lv).a (X).length (lv).c (j8 X) (pv) tm) 47::(([])++I)) from (A7 (show Fit κ _ _ from Az)<|B6 (α:=Ev) _ _)) ?_
 rintro ⟨X1,lw,pw,Y,ca,cc,oa,oc,o⟩ hp
 dsimp only at hp ⊢
 obtain ⟨bc,aq,bj,a9,bw⟩:=hp
 have bu:=dw0 kd wd mo xe.tm X1
 refine Z ?_
 refine Al C (λbr=>Z ?_)<|λbr=>Z ?_
 ·have au:=dv8 (o:=o) aq hw ba.2 om
  refine Z ?_
  refine Ge2 (Bp (α:=Ev) (e:=54) (xs:=o) (ys:=P3 kd wd mo xe.tm X1) Ad z6 C C C mm A5 olp dc C<|λ_ _=>am) λav aw=>Z ?_
  refine G.e (Ac c_ C C<|bh3 (T:=(Y++T)) (X:=X1) (evs:=P3 kd wd mo xe.tm X1) ta2 bj a9 aq A5 au.2.2.2.1 (by first|omega|(simp only [E_,Fw];omega))<|A6 hT Ah) ?_
  rintro _ _ ⟨_,_,⟨a3,ah,Y10,rfl,az,a4,rfl⟩,rfl,rfl⟩
  refine Ds (J:=vk 54 av aw (o++(P3 kd wd mo xe.tm X1))::vk 54 ca cc (P3 kd wd mo xe.tm X1)::e8 b3 zk 47::e8 b2 (ez xe) 54::e8 b1 (ky kd wd mo bd lt mr wa wn wc nd lw.a X1.length lw.c (j8 X1) pw tm) 47::(Y10++(Y++I))) (Cj<|C0 (A:=Y10) (L:=[vk 54 av aw (o++(P3 kd wd mo xe.tm X1)),vc 54 (.slice ca (P3 kd wd mo xe.tm X1).length cc)<|P3 kd wd mo xe.tm X1,e8 b3 zk 47,e8 b2 (ez xe) 54,e8 b1 (ky kd wd mo bd lt mr wa wn wc nd lw.a X1.length lw.c (j8 X1) pw tm) 47]) (T:=(Y++I))) ?_
  show G prog κ _ _ _ _ ([(47,.tuple #[.agg (ky kd wd mo bd lt mr wa wn wc nd a3.a (List.foldl ep X1<|P3 kd wd mo xe.tm X1).length a3.c (j8<|List.foldl ep X1<|P3 kd wd mo xe.tm X1) ah tm).toArray,e7 0]),(46,.slice ca (P3 kd wd mo xe.tm X1).length cc),(45,.agg (ky kd wd mo bd lt mr wa wn wc nd lw.a X1.length lw.c (j8 X1) pw tm).toArray),(8,.slice av (o++(P3 kd wd mo xe.tm X1)).length aw),(43,.slice av (o++(P3 kd wd mo xe.tm X1)).length aw),(42,.slice ca (P3 kd wd mo xe.tm X1).length cc),(41,.slice oa o.length oc),(36,.bool<|decide<|0<(((P3 kd wd mo xe.tm X1).length:Nat):Int)),(35,e7<|(((P3 kd wd mo xe.tm X1).length:Nat):Int)),(34,.slice ca (P3 kd wd mo xe.tm X1).length cc),(2,pt b1),(3,pt b2),(4,pt b3),(8,.slice oa o.length oc),(10,.slice ca (P3 kd wd mo xe.tm X1).length cc)]:Env) (vk 54 av aw (o++(P3 kd wd mo xe.tm X1))::vk 54 ca cc (P3 kd wd mo xe.tm X1)::e8 b3 zk 47::e8 b2 (ez xe) 54::e8 b1 (ky kd wd mo bd lt mr wa wn wc nd lw.a X1.length lw.c (j8 X1) pw tm) 47::(Y10++(Y++I)))
  refine Z ?_
  refine Ge0 (Eff.sq H3)<|Z ?_
  refine Al C (λbh=>?_)<|λbh=>Z ?_
  ·exact absurd bh dc
  refine G.e (Ac c_ C C<|fj1 (Bd az<|B3 (κ:=κ)<|by repeat (first|exact hH|exact Bh _|apply Bg|apply B1|apply Bo)) au.2.2.1 hw om) ?_
  rintro _ _ ⟨_,_,⟨bk,bf,rfl,rfl⟩,rfl,rfl⟩
  exact Ga C<|Bs<|Bt (((List.foldl ep X1<|P3 kd wd mo xe.tm X1)),(a3),(ah),((Y10++Y)),(bk),(bf),(av),(aw),(o++(P3 kd wd mo xe.tm X1))) (by dsimp only;exact ⟨(bc.trans au.1),au.2.2.1,(by rw [Fu];exact az),(by rw [Fu];exact a4),(by have h9:=au.2.2.2.2;omega)⟩) (hlt:=by (try dsimp only);exact au.2.1) (hI:=by (try dsimp only);exact ta7)
 have ax:=bc.trans (fm3 om)
 refine Z ?_
 refine Ge1 (B0 (α:=Ev) (cs:=(ez xe)) (xs:=[⟨xe.kd,xe.tm,xe.u,xe.v,xe.w,xe.lb,xe.sg⟩]) Ad z6 C C dc dc C kr C C) λai=>?_
 show G prog κ _ _ _ _ ([(56,.slice ai 1 1),(55,.agg (ez xe).toArray),(54,.slice oa o.length oc),(36,.bool<|decide<|0<(((P3 kd wd mo xe.tm X1).length:Nat):Int)),(35,e7<|(((P3 kd wd mo xe.tm X1).length:Nat):Int)),(34,.slice ca (P3 kd wd mo xe.tm X1).length cc),(2,pt b1),(3,pt b2),(4,pt b3),(8,.slice oa o.length oc),(10,.slice ca (P3 kd wd mo xe.tm X1).length cc)]:Env) (vc 54 (.slice ai 1 1) (([xe]:List Ev))::vk 54 oa oc o::vk 54 ca cc (P3 kd wd mo xe.tm X1)::e8 b3 zk 47::e8 b2 (ez xe) 54::e8 b1 (ky kd wd mo bd lt mr wa wn wc nd lw.a X1.length lw.c (j8 X1) pw tm) 47::(Y++I))
 refine Ge2 (Bp (α:=Ev) (e:=54) (xs:=o) (ys:=([xe]:List Ev)) Ad z6 C C C mm A5 olp dc C<|λ_ _=>am) λad ab=>Z ?_
 refine Ge1 (B0 (α:=Ev) (cs:=(ez xe)) (xs:=[⟨xe.kd,xe.tm,xe.u,xe.v,xe.w,xe.lb,xe.sg⟩]) Ad z6 C C dc dc C kr C C) λaj=>?_
 show G prog κ _ _ _ _ ([(61,.slice aj 1 1),(60,.agg (ez xe).toArray),(59,.agg (ky kd wd mo bd lt mr wa wn wc nd lw.a X1.length lw.c (j8 X1) pw tm).toArray),(8,.slice ad (o++([xe]:List Ev)).length ab),(57,.slice ad (o++([xe]:List Ev)).length ab),(56,.slice ai 1 1),(55,.agg (ez xe).toArray),(54,.slice oa o.length oc),(36,.bool<|decide<|0<(((P3 kd wd mo xe.tm X1).length:Nat):Int)),(35,e7<|(((P3 kd wd mo xe.tm X1).length:Nat):Int)),(34,.slice ca (P3 kd wd mo xe.tm X1).length cc),(2,pt b1),(3,pt b2),(4,pt b3),(8,.slice oa o.length oc),(10,.slice ca (P3 kd wd mo xe.tm X1).length cc)]:Env) (vc 54 (.slice aj 1 1) (([xe]:List Ev))::vc 54 (.slice ai 1 1) (([xe]:List Ev))::vk 54 ad ab (o++([xe]:List Ev))::vk 54 ca cc (P3 kd wd mo xe.tm X1)::e8 b3 zk 47::e8 b2 (ez xe) 54::e8 b1 (ky kd wd mo bd lt mr wa wn wc nd lw.a X1.length lw.c (j8 X1) pw tm) 47::(Y++I))
 refine G.e (Ac c_ C C<|bh3 (T:=(Y++T)) (X:=X1) (evs:=([xe]:List Ev)) ta2 bj a9 aq A5 (λq hq=>(Ge.1 hq)▸hx) (by first|omega|(simp only [E_,Fw];omega))<|A6 hT Ah) ?_
 rintro _ _ ⟨_,_,⟨ae,M,Y19,rfl,ar,a0,rfl⟩,rfl,rfl⟩
 refine Ds (J:=vc 54 (.slice aj 1 1) (([xe]:List Ev))::vc 54 (.slice ai 1 1) (([xe]:List Ev))::vk 54 ad ab (o++([xe]:List Ev))::vk 54 ca cc (P3 kd wd mo xe.tm X1)::e8 b3 zk 47::e8 b2 (ez xe) 54::e8 b1 (ky kd wd mo bd lt mr wa wn wc nd lw.a X1.length lw.c (j8 X1) pw tm) 47::(Y19++(Y++I))) (Cj<|C0 (A:=Y19) (L:=[vc 54 (.slice aj 1 1) (([xe]:List Ev)),vc 54 (.slice ai 1 1)<|([xe]:List Ev),vc 54 (.slice ad (o++([xe]:List Ev)).length ab)<|o++([xe]:List Ev),vc 54 (.slice ca (P3 kd wd mo xe.tm X1).length cc)<|P3 kd wd mo xe.tm X1,e8 b3 zk 47,e8 b2 (ez xe) 54,e8 b1 (ky kd wd mo bd lt mr wa wn wc nd lw.a X1.length lw.c (j8 X1) pw tm) 47]) (T:=(Y++I))) ?_
 show G prog κ _ _ _ _ ([(62,.tuple #[.agg (ky kd wd mo bd lt mr wa wn wc nd ae.a (ep X1 xe).length ae.c (j8<|ep X1 xe) M tm).toArray,e7 0]),(61,.slice aj 1 1),(60,.agg (ez xe).toArray),(59,.agg (ky kd wd mo bd lt mr wa wn wc nd lw.a X1.length lw.c (j8 X1) pw tm).toArray),(8,.slice ad (o++([xe]:List Ev)).length ab),(57,.slice ad (o++([xe]:List Ev)).length ab),(56,.slice ai 1 1),(55,.agg (ez xe).toArray),(54,.slice oa o.length oc),(36,.bool<|decide<|0<(((P3 kd wd mo xe.tm X1).length:Nat):Int)),(35,e7<|(((P3 kd wd mo xe.tm X1).length:Nat):Int)),(34,.slice ca (P3 kd wd mo xe.tm X1).length cc),(2,pt b1),(3,pt b2),(4,pt b3),(8,.slice oa o.length oc),(10,.slice ca (P3 kd wd mo xe.tm X1).length cc)]:Env) (vc 54 (.slice aj 1 1) (([xe]:List Ev))::vc 54 (.slice ai 1 1) (([xe]:List Ev))::vk 54 ad ab (o++([xe]:List Ev))::vk 54 ca cc (P3 kd wd mo xe.tm X1)::e8 b3 zk 47::e8 b2 (ez xe) 54::e8 b1 (ky kd wd mo bd lt mr wa wn wc nd lw.a X1.length lw.c (j8 X1) pw tm) 47::(Y19++(Y++I)))
 refine Z ?_
 refine Ge0 (Eff.sq H3)<|Z ?_
 refine Al C (λbe=>?_)<|λbe=>Z ?_
 ·exact absurd be dc
 refine Ge0 (Br (cs:=[_,_,_,_,_,_,_,_,_,_,_,_,_,_,_,_,_,_,_,_,_,_,_,_,_]) (vs:=[_]) (cs':=[_,_,_,_,_,_,_,_,_,_,_,_,_,_,_,_,_,_,_,_,_,_,_,_,_]) ef)<|Z ?_
 have bg:=q9 (G2<|J5 aq hx)
 rw [G7] at bg
 refine Z ?_
 refine Al C (λa7=>Z ?_)<|λa7=>Z ?_
 ·have bb:=fb3 hw (J5 aq hx) ba (by have bo:=fp5 hI.tm hI.val (show ¬kd=2 by omega) ax;subst bo;exact fk5 hI.tm bt.2)
  refine Gc2 (Ac c_ C C<|ci4 (Bd ar<|B3 (κ:=κ)<|by repeat (first|exact hH|exact Bh _|apply Bg|apply B1|apply Bo)) om bb) λap ao=>?_
  refine Gm C<|Gr (Bk C C)<|Gr (Bk C C)<|Ga C<|Ga C<|Ar<|A0 (S5 12 11 8 2 4)<|Ay<|Am<|Gm C<|Gr (Ci C C)<|Ar<|Al C (λa8=>?_)<|λa8=>?_
  ·exact absurd a8 dc
  refine Bc<|Ao<|Am<|Gm C ?_
  have bv:=af8 kd wd mo xe.tm (ep X1 xe)
  refine Gm C<|Ge2 (Bp (α:=Ev) (e:=54) (xs:=o++([xe]:List Ev)) (ys:=s6 kd wd mo xe.tm (ep X1 xe)) Ad z6 C C C mm A5 olp dc C<|λ_ _=>am) λan ak=>?_
  refine Ga C<|Ar<|Am<|Gr (j7.lj H3) ?_
  refine Gm C<|G.e (Ac c_ C C<|bh3 (T:=(Y19++(Y++T))) (X:=(ep X1 xe)) (evs:=s6 kd wd mo xe.tm (ep X1 xe)) ta2 ar a0 (J5 aq hx) A5 (ak9 (J5 aq hx) hx.tm) (by first|omega|(simp only [E_,Fw];omega))<|A6 hT Ah) ?_
  rintro _ _ ⟨_,_,⟨ay,aa,Y26,rfl,a5,a6,rfl⟩,rfl,rfl⟩
  refine Ds (J:=vk 54 ap ao (s6 kd wd mo xe.tm<|ep X1 xe)::vc 54 (.slice aj 1 1) (([xe]:List Ev))::vc 54 (.slice ai 1 1) (([xe]:List Ev))::vk 54 an ak ((o++([xe]:List Ev))++(s6 kd wd mo xe.tm<|ep X1 xe))::vk 54 ca cc (P3 kd wd mo xe.tm X1)::e8 b3 zk 47::e8 b2 (ez xe) 54::e8 b1 (ky kd wd mo bd lt mr wa wn wc nd ae.a (ep X1 xe).length ae.c (j8<|ep X1 xe) M xe.tm) 47::(Y26++(Y19++(Y++I)))) (Cj<|C0 (A:=Y26) (L:=[vk 54 ap ao (s6 kd wd mo xe.tm<|ep X1 xe),vc 54 (.slice aj 1 1)<|([xe]:List Ev),vc 54 (.slice ai 1 1)<|([xe]:List Ev),vc 54 (.slice an ((o++([xe]:List Ev))++(s6 kd wd mo xe.tm<|ep X1 xe)).length ak)<|(o++([xe]:List Ev))++(s6 kd wd mo xe.tm<|ep X1 xe),vc 54 (.slice ca (P3 kd wd mo xe.tm X1).length cc)<|P3 kd wd mo xe.tm X1,e8 b3 zk 47,e8 b2 (ez xe) 54,e8 b1 (ky kd wd mo bd lt mr wa wn wc nd ae.a (ep X1 xe).length ae.c (j8<|ep X1 xe) M xe.tm) 47]) (T:=(Y19++(Y++I)))) ?_
  show G prog κ _ _ _ _ ([(96,.tuple #[.agg (ky kd wd mo bd lt mr wa wn wc nd ay.a (List.foldl ep (ep X1 xe)<|s6 kd wd mo xe.tm<|ep X1 xe).length ay.c (j8<|List.foldl ep (ep X1 xe)<|s6 kd wd mo xe.tm<|ep X1 xe) aa xe.tm).toArray,e7 0]),(95,.slice ap (s6 kd wd mo xe.tm<|ep X1 xe).length ao),(94,.agg (ky kd wd mo bd lt mr wa wn wc nd ae.a (ep X1 xe).length ae.c (j8<|ep X1 xe) M xe.tm).toArray),(8,.slice an ((o++([xe]:List Ev))++(s6 kd wd mo xe.tm<|ep X1 xe)).length ak),(92,.slice an ((o++([xe]:List Ev))++(s6 kd wd mo xe.tm<|ep X1 xe)).length ak),(91,.slice ap (s6 kd wd mo xe.tm<|ep X1 xe).length ao),(90,.slice ad (o++([xe]:List Ev)).length ab),(87,.bool<|decide<|0≠0),(86,e7 0),(12,e7 0),(11,.slice ap (s6 kd wd mo xe.tm<|ep X1 xe).length ao),(8,.slice ad (o++([xe]:List Ev)).length ab),(2,pt b1),(4,pt b3)]:Env) (vk 54 ap ao (s6 kd wd mo xe.tm<|ep X1 xe)::vc 54 (.slice aj 1 1) (([xe]:List Ev))::vc 54 (.slice ai 1 1) (([xe]:List Ev))::vk 54 an ak ((o++([xe]:List Ev))++(s6 kd wd mo xe.tm<|ep X1 xe))::vk 54 ca cc (P3 kd wd mo xe.tm X1)::e8 b3 zk 47::e8 b2 (ez xe) 54::e8 b1 (ky kd wd mo bd lt mr wa wn wc nd ae.a (ep X1 xe).length ae.c (j8<|ep X1 xe) M xe.tm) 47::(Y26++(Y19++(Y++I))))
  refine Z ?_
  refine Ge0 (Eff.sq H3)<|Z ?_
  refine Al C (λa1=>?_)<|λa1=>Z ?_
  ·exact absurd a1 dc
  refine Ge0 (Eff.sq H3)<|Z ?_
  have hR:=bw2 (nd:=nd) ax a7 (J5 aq hx)
  rw [hR]
  exact Cu C H3 C C C mm C (((vk 54 an ak ((o++([xe]:List Ev))++(s6 kd wd mo xe.tm<|ep X1 xe))::(Y26++(Y19++Y)))++I)) tb2 ⟨ay,aa,(vk 54 an ak ((o++([xe]:List Ev))++(s6 kd wd mo xe.tm<|ep X1 xe))::(Y26++(Y19++Y))),an,ak,rfl,(by simp only [Jd,Fu];exact Bd a5<|Fb<|Dd _),(by simp only [Jd,Fu];exact PkR.fit a6<|Fb<|Dd _),Cy<|Gk _ A_,rfl⟩
 refine Ge0 (Eff.sq H3)<|Z ?_
 have hR:=step_end ax a7
 rw [hR]
 exact Cu C H3 C C C mm C (((vk 54 ad ab (o++([xe]:List Ev))::(Y19++Y))++I)) tb2 ⟨ae,M,(vk 54 ad ab (o++([xe]:List Ev))::(Y19++Y)),ad,ab,rfl,(by simp only [Jd,Fu];exact Bd ar<|Fb<|Dd _),(by simp only [Jd,Fu];exact PkR.fit a0<|Fb<|Dd _),Cy<|Gk _ A_,rfl⟩
variable {κ:Ctx}{I:List Item}
theorem ge5:∀M w,(callFunc 138 M).run prog w=((Extern.SlicesOverlaps.overlaps #[30,30] #[4] M).run prog w).andThen λv w'=> .ok (.value v) w':=λM w=>run_callFunc_extern (e:=Extern.SlicesOverlaps.overlaps #[30,30] #[4]) Tryz.func138 kr kr kr kr M w
theorem cz1{ah:Nat}(hi:i<=xs.length)(hy:0<ys.length)(ar:xs.length+ys.length<=1000000000):eu prog κ 94 [.slice a xs.length c,e7 ((i:Int)),.slice va ys.length ah] (vk 54 a c xs::vk 54 va ah ys::I) (λr J=>∃a' c',r = .slice a' (List.take i xs++ys++List.drop i xs).length c'/\J=vk 54 a' c' (List.take i xs++ys++List.drop i xs)::I):=by
 refine Bw (vc.cap A_) λap=>?_
 have ae:(List.take i xs++ys++List.drop i xs).length=xs.length+ys.length:=by simp only [By,Fr,Fz];omega
 refine Ce3 Tryz.func94 C C<|Z ?_
 refine Gr (Dn (α:=Ev) (xs:=xs) (l:=i) Ad z6 C C om A5 lat)<|Z ?_
 refine Al C (λai=>?_)<|λai=>Z ?_
 ·exact absurd ai om
 refine Al C (λan=>Z ?_)<|λan=>Z ?_
 ·refine Ge2 (Bp (α:=Ev) (e:=54) (xs:=xs) (ys:=ys) Ad z6 C C C mm A5 om dc C<|λ_ _=>am) λab ad=>Z ?_
  have hR:List.take i xs++ys++List.drop i xs=xs++ys:=by rw [Fx om,Hb om,Gt]
  exact Ak C C (vk 54 ab ad (List.take i xs++ys++List.drop i xs)::I) (by unfold vk;rw [hR];exact Az) ⟨ab,ad,by rw [hR],rfl⟩
 refine Gr (j7.caps Ad C)<|Z ?_
 refine Al C (λaj=>Z ?_)<|λaj=>Z ?_
 ·refine Gr (E3 (h:=i) Ad z6 C C om om) (Z ?_)
  refine Ge2 (Eff.grow (α:=Ev) (xs:=xs) (k:=xs.length+ys.length - i) Ad Cb z6 C C C om A5 om om om om dc C) λaa M=>?_
  refine Ga C<|G.pull (p:=(List.take i xs++List.replicate (xs.length+ys.length - i) (default:Ev)).length<=M) (vc.cap mm) λao=>?_
  have aq:(List.take i xs++List.replicate (xs.length+ys.length - i) (default:Ev)).length=xs.length+ys.length:=by simp only [By,Fr,F_];omega
  refine Z ?_
  refine Gr (Dn (α:=Ev) (xs:=List.take i xs++List.replicate (xs.length+ys.length - i) (default:Ev)) (l:=i) Ad z6 C C om A5 lat)<|Gm C<|Ge0 (Fm (α:=Ev) (k:=i) (q:=ys.length) (R:=List.take i xs++ys++List.replicate (xs.length - i) (default:Ev)) (n:=(i+(xs.length+ys.length - i))) Ad z6 C lat C A5 lat lat C (gf4 hi) lat am) ?_
  refine Ar<|Ay<|A9 mixed<|Bx I 9<|Z ?_
  refine Dr 4 C (C2 (l:=(i+ys.length)) Ad z6 C C om om om)<|Z ?_
  refine Dr 7 C (C2 (l:=i) Ad z6 C C om om om)<|Ds1 8<|Se0 C (Fm (α:=Ev) (k:=(i+ys.length)) (q:=(xs.length - i)) (R:=List.take i xs++ys++List.drop i xs) (n:=(i+(xs.length+ys.length - i))) Ad z6 C lat C (Sl.dz2 (Cy (xs:=xs) mm) om om) lat lat C (gf3 hi) lat am)<|Z ?_
  exact Ak C C (vk 54 aa M (List.take i xs++ys++List.drop i xs)::I) (by unfold vk;rw [show (List.take i xs++ys++List.drop i xs).length=i+(xs.length+ys.length - i) by omega];exact Az) ⟨aa,M,by rw [show (List.take i xs++ys++List.drop i xs).length=i+(xs.length+ys.length - i) by omega],rfl⟩
 refine Gr (E3 (h:=xs.length+ys.length) Ad z6 C C om om)<|Ga C<|G.room (h:=xs.length+ys.length) ta1 C om om<|λjs ak=>Z ?_
 refine Gr (C2 (l:=(i+ys.length)) Ad z6 C C om om om)<|Ge0 (Eff.overlaps (k:=i+ys.length) ge5 Ad z6 C C om om om (Fit.sp<|Sp.pick (ab5.tail _<|ab5.head _ _)<|Sp.refl _) (Nat.mul_pos om Enc.pos) C)<|Z ?_
 refine A9 mixed<|Bx I 9<|Z ?_
 refine Dr 4 C (C2 (l:=(i+ys.length)) Ad z6 C C om om om)<|Z ?_
 refine Dr 7 C (C2 (l:=i) Ad z6 C C om om om)<|Ds1 8<|Se0 C (Eff.cg3 (sz:=Enc.sz Ev) (n:=xs.length+ys.length) (cs:=(cells xs++js)) (k:=(i+ys.length)) (q:=(xs.length - i)) Ad z6 C om C (au2.dz3 (au2.vec mm) om) om om (ce6 hi) C am)<|Z ?_
 refine Gr (C2 (l:=i) Ad z6 C C om om om)<|Gm C<|Ge0 (Eff.cg3 (sz:=Enc.sz Ev) (n:=xs.length+ys.length) (cs:=(List.take ((i+ys.length)*Enc.sz Ev) (cells xs++js)++List.take ((xs.length - i)*Enc.sz Ev) (List.drop (i*Enc.sz Ev)<|cells xs++js)++List.drop ((i+ys.length)*Enc.sz Ev+(xs.length - i)*Enc.sz Ev) (cells xs++js))) (k:=i) (q:=ys.length) Ad z6 C om C (Cy (e:=54) (xs:=ys) mm) om om (λu hu=>cells_one ys u<|Hx hu) C am)<|Z ?_
 have hC:(List.take (i*Enc.sz Ev) (List.take ((i+ys.length)*Enc.sz Ev) (cells xs++js)++List.take ((xs.length - i)*Enc.sz Ev) (List.drop (i*Enc.sz Ev)<|cells xs++js)++List.drop ((i+ys.length)*Enc.sz Ev+(xs.length - i)*Enc.sz Ev) (cells xs++js))++List.take (ys.length*Enc.sz Ev) (cells ys)++List.drop (i*Enc.sz Ev+ys.length*Enc.sz Ev) (List.take ((i+ys.length)*Enc.sz Ev) (cells xs++js)++List.take ((xs.length - i)*Enc.sz Ev) (List.drop (i*Enc.sz Ev)<|cells xs++js)++List.drop ((i+ys.length)*Enc.sz Ev+(xs.length - i)*Enc.sz Ev) (cells xs++js)))=cells (List.take i xs++ys++List.drop i xs):=be2 hi ak
 exact Ak C C (vk 54 a c (List.take i xs++ys++List.drop i xs)::I) (by unfold vk;rw [hC];show Fit κ _ (vec 54 _ (.slice a (List.take i xs++ys++List.drop i xs).length c) (List.take i xs++ys++List.drop i xs).length (cells<|List.take i xs++ys++List.drop i xs)::I);rw [ae];exact Az) ⟨a,c,by rw [ae],rfl⟩
theorem ag4{m M:Nat}{K:List Item}(hf:Fit κ I (vc 54 (.slice a n c) xs::vc 54 (.slice va m M) ys::K))(hn:n=xs.length)(hm:m=ys.length)(hi:i<=xs.length)(hy:0<ys.length)(aa:xs.length+ys.length<=1000000000):eu prog κ 94 [.slice a n c,e7 (i:Int),.slice va m M] I (λr J=>∃a' c',r = .slice a' (List.take i xs++ys++List.drop i xs).length c'/\J=vk 54 a' c' (List.take i xs++ys++List.drop i xs)::K):=by
 subst hn hm
 exact Cl hf<|cz1 hi hy aa
theorem bk5{e:Ev}(h0:0<i)(h:e.tm<(e_ l ((i:Int) - 1)).tm)(M:M4 evC l e n=M4 evC l e i):M4 evC l e n=M4 evC l e (i - 1):=by
 rw [M]
 obtain ⟨m,rfl⟩:∃m,i=m+1:=⟨i - 1,by omega⟩
 have e1:(((m+1:Nat):Int) - 1)=(m:Int):=by omega
 rw [e1] at h
 show (if evC e (e_ l m)<0 then M4 evC l e m else m+1)=_
 rw [B_ (by unfold evC;rw [B_ h];decide)]
 rfl
theorem M8{e:Ev}(h:0<i->¬e.tm<(e_ l ((i:Int) - 1)).tm)(hj:M4 evC l e n=M4 evC l e i):M4 evC l e n=i:=by
 rw [hj]
 cases i with
 |zero=>rfl
 |succ m=>
  have M:=h om
  have e1:(((m+1:Nat):Int) - 1)=(m:Int):=by omega
  rw [e1] at M
  show (if evC e (e_ l m)<0 then M4 evC l e m else m+1)=_
  rw [An]
  unfold evC
  rw [An M]
  split<;>decide
theorem bc9{bf:BfS}{e:Ev}(h:M4 evC bf.ws e bf.ws.length=i):List.take i bf.ws++[e]++List.drop i bf.ws=K4 bf e:=by
 unfold K4 be1 gc1
 rw [h];simp
theorem fh1{e:Ev}{bf:BfS}{M:Option Addr}(hH:Has I T)(hl:Sl κ T (.slice M bf.ws.length wc) bf.ws)(hB:au4 bd bf)(hw:bf.ws.length<=4096)(he:z7 e=0)(ht:bf.mr<e.tm)(hT:0<=e.tm/\e.tm<=1048576)(b5:bf.ws.length<4096):eu prog κ 47 [.agg #[e7 bd,e7 (bf.lt),e7 (bf.mr),.slice M bf.ws.length wc],.agg (ez e).toArray] I (λr J=>∃(a:Option Addr) (c:Nat) (a2:Option Addr) (c2:Nat) (Y:List Item),r = .tuple #[.agg #[e7 bd,e7 (bf.push bd e).lt,e7 (bf.push bd e).mr,.slice a (bf.push bd e).ws.length c],.slice a2 ((bf.out bd e)).length c2,e7 0]/\Sl κ (Y++T) (.slice a (bf.push bd e).ws.length c) (bf.push bd e).ws/\Sl κ (Y++T) (.slice a2 ((bf.out bd e)).length c2) (bf.out bd e)/\J=Y++I):=by
 have bw:=hB.bd
 have b4:=hB.lt
 have b6:=hB.mr
 refine Ce2 Tryz.func47 C C ?_
 refine Am<|Ge1 (Au (cs:=[_,_,_,_]) C C C) λb1=>Ge1 (Au (cs:=[_,_,_,_,_,_,_]) C C C) λb2=>Ge1 (Aj J4 C) λb3=>Ga C<|Ga C<|Ar<|Am<|Gl7 z6 ?_
 refine G.e (Ac c_ C C<|ab3 e) ?_
 rintro _ _ ⟨_,_,⟨rfl,rfl⟩,rfl,rfl⟩
 refine Ga C<|Ar<|Ay<|A8<|Am<|Gl4 J4 ?_
 refine G.e (Ac c_ C C<|au1 (bd:=bd) (bf:=bf) (Bd (Bd hl hH.fit) Ah) hB om) ?_
 rintro _ _ ⟨_,_,⟨rfl,rfl⟩,rfl,rfl⟩
 refine Gr (Fa C)<|Ga C<|Ar<|A0 (S5 13 7 4 3 2)<|W.no C<|Am<|Gm C<|Gr (Ci C C)<|Ga C<|Ar<|Al C (λbk=>?_)<|λbk=>?_
 ·exact absurd he bk
 refine Am<|Gf Q9 C<|Gl ef ?_
 refine Gf cf9 C<|Gl ef ?_
 refine Gr (j7.leq C C)<|Ga C<|Ar<|A0 (S4 25 4 3 2)<|Al C (λbr=>?_)<|λbr=>?_
 ·omega
 refine Am<|Gf R0 C<|Gl ap3 ?_
 refine Gr (Bl Ad C)<|Gr (C4 C C)<|Ga C<|Ar<|Al C (λbp=>?_)<|λbp=>?_
 ·omega
 refine Bc<|Av<|Ao<|Am<|Gf R0 C<|Gl ap3 ?_
 refine Gr (Bl Ad C)<|Ga C<|Ar<|Ay<|A8<|B9 (σ:=Nat) (λs=>([(2,pt b1),(3,pt b2),(4,pt b3),(8,e7 ((s:Nat):Int))]:Env)) (λs=>e8 b3 [e7 0,e7 0,e7 0,.slice none 0 0] 32::e8 b2 (ez e) 54::e8 b1 [e7 bd,e7<|bf.lt,e7<|bf.mr,.slice M bf.ws.length wc] 32::I) (λs=>(s<=bf.ws.length)/\(M4 evC bf.ws e bf.ws.length=M4 evC bf.ws e s)) (λs=>s) (bf.ws.length) (show ((bf.ws.length:Nat)<=bf.ws.length)/\(M4 evC bf.ws e bf.ws.length=M4 evC bf.ws e (bf.ws.length:Nat)) from ⟨om,rfl⟩) (cx2<|Aa C<|Aa Cn Bb) (show Fit κ _ (e8 b3 [e7 0,e7 0,e7 0,.slice none 0 0] 32::e8 b2 (ez e) 54::e8 b1 [e7 bd,e7<|bf.lt,e7<|bf.mr,.slice M bf.ws.length wc] 32::I) from Ai) ?_
 rintro i hp
 obtain ⟨hi,hj⟩:=hp
 refine Ay<|Ay<|A9 mixed<|Bx (e8 b3 [e7 0,e7 0,e7 0,.slice none 0 0] 32::e8 b2 (ez e) 54::e8 b1 [e7 bd,e7<|bf.lt,e7<|bf.mr,.slice M bf.ws.length wc] 32::I) 14<|Dr 0 C (Aq C)<|Dr 1 C (Ec C C)<|Dr 2 C (Aq C)<|Dk (d:=45) C (λbq=>?_)<|λbq=>?_
 ·refine Dro 3 C (Af R0 C) (Dro 4 C (Bf ap3) ?_)
  refine Dro 5 C (Aq C)<|Dro 6 C (Rsu C C)<|Dro 7 C (A2 (α:=Ev) (xs:=bf.ws) Ad z6 C C (Bd (Bd hl hH.fit) Ah) om om)<|Dro 8 C (j7.fld (α:=Ev) (xs:=bf.ws) Q9 C (Bd (Bd hl hH.fit) Ah) om)<|Dro 9 C (Fj (α:=Ev) (xs:=bf.ws) (u:=e7 ((e_ bf.ws<|(i:Int) - 1).tm)) ef C (Bd (Bd hl hH.fit) Ah) om om C)<|Dro 10 C (Af Q9 C)<|Dro 11 C (Bf ef) ?_
  refine Dro 12 C (Ec C C)<|Dr 13 C (B4 C C)<|Dz<|Ao<|A0 (S5 56 2 3 4 8)<|Al C (λan=>?_)<|λan=>?_
  ·exact Bc<|Ao<|A8<|Ba<|Gm C<|Gr (Rsu C C)<|Ga C<|Bs<|Av<|Bt ((i - 1)) ⟨om,(bk5 om an hj)⟩
  refine Ck<|Aw<|Aw<|Bi<|Ao<|Ay<|A9 mixed<|Bx (e8 b3 [e7 0,e7 0,e7 0,.slice none 0 0] 32::e8 b2 (ez e) 54::e8 b1 [e7 bd,e7<|bf.lt,e7<|bf.mr,.slice M bf.ws.length wc] 32::I) 8<|Dr 0 C (Af R0 C)<|Dr 1 C (Bf ap3) ?_
  refine Dr 3 C (Aq C)<|Dr 4 C (Bm (vs:=[_,_,_,_,_,_,_]) z6) ?_
  refine C8 (rs:=[2,5]) kr C C<|Ei ?_<|Do ?_
  ·refine Sc2 C (Ac c_ C C<|ay7 (xs:=bf.ws) (Bd (Bd hl hH.fit) Ah) om) λbm bi=>?_
   refine Ds1 5<|Se1 C (B0 (α:=Ev) (cs:=(ez e)) (xs:=[⟨e.kd,e.tm,e.u,e.v,e.w,e.lb,e.sg⟩]) Ad z6 C C dc dc C kr C C) λbg=>?_
   refine Ds1 6<|Sc2 C (Ac c_ C C<|ag4 (i:=i) (xs:=bf.ws) (ys:=([⟨e.kd,e.tm,e.u,e.v,e.w,e.lb,e.sg⟩]:List Ev)) (show Fit κ _ (vk 54 bm bi bf.ws::vc 54 (.slice bg 1 1) (([⟨e.kd,e.tm,e.u,e.v,e.w,e.lb,e.sg⟩]:List Ev))::e8 b3 [e7 0,e7 0,e7 0,.slice none 0 0] 32::e8 b2 (ez e) 54::e8 b1 [e7 bd,e7<|bf.lt,e7<|bf.mr,.slice M bf.ws.length wc] 32::I) from Az) om C om tb0 lcn) λaq ay=>?_
   show D prog κ _ _ _ _ _ _ _ ([(65,.slice aq (List.take i bf.ws++([⟨e.kd,e.tm,e.u,e.v,e.w,e.lb,e.sg⟩]:List Ev)++List.drop i bf.ws).length ay),(64,.slice bg 1 1),(61,.slice bm bf.ws.length bi),(63,.agg (ez e).toArray),(62,e7<|(i:Int)),(60,.slice M bf.ws.length wc),(59,.pointer<|some ⟨b1,3,none⟩),(56,.bool<|decide<|e.tm<((e_ bf.ws<|(i:Int) - 1).tm)),(2,pt b1),(3,pt b2),(4,pt b3),(8,e7<|(i:Int))]:Env) (vk 54 aq ay (List.take i bf.ws++([⟨e.kd,e.tm,e.u,e.v,e.w,e.lb,e.sg⟩]:List Ev)++List.drop i bf.ws)::e8 b3 [e7 0,e7 0,e7 0,.slice none 0 0] 32::e8 b2 (ez e) 54::e8 b1 [e7 bd,e7<|bf.lt,e7<|bf.mr,.slice M bf.ws.length wc] 32::I)
   have ah:List.take i bf.ws++([⟨e.kd,e.tm,e.u,e.v,e.w,e.lb,e.sg⟩]:List Ev)++List.drop i bf.ws=K4 bf e:=bc9 (M8 (by intro h;first|omega|exact an) hj)
   rw [ah]
   refine Dr 7 C (Af R0 C)<|Cg kr ?_
   refine Ae 8 C (Br (cs:=[_,_,_,_]) (vs:=[_]) (cs':=[_,_,_,_]) ap3) ?_
   rintro _ _ ⟨rfl,rfl⟩
   refine Ch kr ?_
   refine Ao<|Am<|Gf U7 C<|Gl ef ?_
   refine Gf Q9 C<|Gl ef ?_
   refine Gr (Fi C C)<|Gf U7 C<|Ge0 (Br (cs:=[_,_,_,_]) (vs:=[_]) (cs':=[_,_,_,_]) ef) ?_
   refine Ar<|A0 (S2 2 4)<|Am<|Gl4 J4 ?_
   refine Gf U7 C<|Gl ef ?_
   refine Gf be9 C<|Gl ef ?_
   refine Gr (Rsu C C)<|Gr (Rsu C C) ?_
   have ae:((if bf.lt<e.tm then e.tm else bf.lt) - bd) - 1=ah3 bd bf e:=by unfold ah3;rw [ao0]
   rw [ae]
   refine G.e (Ac c_ C C<|ao6 (bd:=bd) (lt:=if bf.lt<e.tm then e.tm else bf.lt) (mr:=bf.mr) (m:=(ah3 bd bf e)) A5 hB.ft4<|by rw [ab8];omega) ?_
   rintro _ _ ⟨_,_,⟨bc,av,bh,rfl,bb,rfl⟩,rfl,rfl⟩
   refine Gm C<|Gr (Bk C C)<|Gr (Bk C C)<|Ge1 (Aj J4 C) λbt=>Ge0 (C7 J4) ?_
   refine Ga C<|Ar<|A0 (S3 10 9 4)<|Am<|Gl4 J4 ?_
   refine Gm C<|Ge0 (C7 J4) ?_
   exact Ga C<|Ga C<|Ar<|B2<|Cu C J4 C C C mm C (vk 54 bc av (beyond (ah3 bd bf e)<|K4 bf e)::vk 54 aq ay (K4 bf e)::I) Az ⟨bc,av,aq,bh,[vk 54 bc av (beyond (ah3 bd bf e)<|K4 bf e),vc 54 (.slice aq (K4 bf e).length ay)<|K4 bf e],(by rw [ao0];rfl),Cy mm,(Sl.ao7 A5 bb),rfl⟩
  refine Se1 C (B0 (α:=Ev) (cs:=(ez e)) (xs:=[⟨e.kd,e.tm,e.u,e.v,e.w,e.lb,e.sg⟩]) Ad z6 C C dc dc C kr C C) λa4=>?_
  refine Ds1 2<|Sc2 C (Ac c_ C C<|ay7 (xs:=bf.ws) (Bd (Bd hl hH.fit) Ah) om) λa6 a5=>?_
  refine Ds1 6<|Sc2 C (Ac c_ C C<|ag4 (i:=i) (xs:=bf.ws) (ys:=([⟨e.kd,e.tm,e.u,e.v,e.w,e.lb,e.sg⟩]:List Ev)) (show Fit κ _ (vk 54 a6 a5 bf.ws::vc 54 (.slice a4 1 1) (([⟨e.kd,e.tm,e.u,e.v,e.w,e.lb,e.sg⟩]:List Ev))::e8 b3 [e7 0,e7 0,e7 0,.slice none 0 0] 32::e8 b2 (ez e) 54::e8 b1 [e7 bd,e7<|bf.lt,e7<|bf.mr,.slice M bf.ws.length wc] 32::I) from Az) om C om tb0 lcn) λab ak=>?_
  show D prog κ _ _ _ _ _ _ _ ([(65,.slice ab (List.take i bf.ws++([⟨e.kd,e.tm,e.u,e.v,e.w,e.lb,e.sg⟩]:List Ev)++List.drop i bf.ws).length ak),(61,.slice a6 bf.ws.length a5),(64,.slice a4 1 1),(63,.agg (ez e).toArray),(62,e7<|(i:Int)),(60,.slice M bf.ws.length wc),(59,.pointer<|some ⟨b1,3,none⟩),(56,.bool<|decide<|e.tm<((e_ bf.ws<|(i:Int) - 1).tm)),(2,pt b1),(3,pt b2),(4,pt b3),(8,e7<|(i:Int))]:Env) (vk 54 ab ak (List.take i bf.ws++([⟨e.kd,e.tm,e.u,e.v,e.w,e.lb,e.sg⟩]:List Ev)++List.drop i bf.ws)::e8 b3 [e7 0,e7 0,e7 0,.slice none 0 0] 32::e8 b2 (ez e) 54::e8 b1 [e7 bd,e7<|bf.lt,e7<|bf.mr,.slice M bf.ws.length wc] 32::I)
  have ah:List.take i bf.ws++([⟨e.kd,e.tm,e.u,e.v,e.w,e.lb,e.sg⟩]:List Ev)++List.drop i bf.ws=K4 bf e:=bc9 (M8 (by intro h;first|omega|exact an) hj)
  rw [ah]
  refine Dr 7 C (Af R0 C)<|Cg kr ?_
  refine Ae 8 C (Br (cs:=[_,_,_,_]) (vs:=[_]) (cs':=[_,_,_,_]) ap3) ?_
  rintro _ _ ⟨rfl,rfl⟩
  refine Ch kr ?_
  refine Ao<|Am<|Gf U7 C<|Gl ef ?_
  refine Gf Q9 C<|Gl ef ?_
  refine Gr (Fi C C)<|Gf U7 C<|Ge0 (Br (cs:=[_,_,_,_]) (vs:=[_]) (cs':=[_,_,_,_]) ef) ?_
  refine Ar<|A0 (S2 2 4)<|Am<|Gl4 J4 ?_
  refine Gf U7 C<|Gl ef ?_
  refine Gf be9 C<|Gl ef ?_
  refine Gr (Rsu C C)<|Gr (Rsu C C) ?_
  have ae:((if bf.lt<e.tm then e.tm else bf.lt) - bd) - 1=ah3 bd bf e:=by unfold ah3;rw [ao0]
  rw [ae]
  refine G.e (Ac c_ C C<|ao6 (bd:=bd) (lt:=if bf.lt<e.tm then e.tm else bf.lt) (mr:=bf.mr) (m:=(ah3 bd bf e)) A5 hB.ft4<|by rw [ab8];omega) ?_
  rintro _ _ ⟨_,_,⟨ao,ar,bo,rfl,ba,rfl⟩,rfl,rfl⟩
  refine Gm C<|Gr (Bk C C)<|Gr (Bk C C)<|Ge1 (Aj J4 C) λbu=>Ge0 (C7 J4) ?_
  refine Ga C<|Ar<|A0 (S3 10 9 4)<|Am<|Gl4 J4 ?_
  refine Gm C<|Ge0 (C7 J4) ?_
  exact Ga C<|Ga C<|Ar<|B2<|Cu C J4 C C C mm C (vk 54 ao ar (beyond (ah3 bd bf e)<|K4 bf e)::vk 54 ab ak (K4 bf e)::I) Az ⟨ao,ar,ab,bo,[vk 54 ao ar (beyond (ah3 bd bf e)<|K4 bf e),vc 54 (.slice ab (K4 bf e).length ak)<|K4 bf e],(by rw [ao0];rfl),Cy mm,(Sl.ao7 A5 ba),rfl⟩
 refine Dpo 3 C<|Dpo 4 C<|Dpo 5 C<|Dpo 6 C<|Dpo 7 C<|Dpo 8 C<|Dpo 9 C<|Dpo 10 C<|Dpo 11 C<|Dpo 12 C<|Dr 13 C (Bq C C)<|Dz<|Ao<|A0 (S5 56 2 3 4 8)<|W.no C<|Ck<|Aw<|Aw<|Bi<|Ao<|Ay<|A9 mixed<|Bx (e8 b3 [e7 0,e7 0,e7 0,.slice none 0 0] 32::e8 b2 (ez e) 54::e8 b1 [e7 bd,e7<|bf.lt,e7<|bf.mr,.slice M bf.ws.length wc] 32::I) 8<|Dr 0 C (Af R0 C)<|Dr 1 C (Bf ap3) ?_
 refine Dr 3 C (Aq C)<|Dr 4 C (Bm (vs:=[_,_,_,_,_,_,_]) z6) ?_
 refine C8 (rs:=[2,5]) kr C C<|Ei ?_<|Do ?_
 ·refine Sc2 C (Ac c_ C C<|ay7 (xs:=bf.ws) (Bd (Bd hl hH.fit) Ah) om) λa8 a0=>?_
  refine Ds1 5<|Se1 C (B0 (α:=Ev) (cs:=(ez e)) (xs:=[⟨e.kd,e.tm,e.u,e.v,e.w,e.lb,e.sg⟩]) Ad z6 C C dc dc C kr C C) λa1=>?_
  refine Ds1 6<|Sc2 C (Ac c_ C C<|ag4 (i:=i) (xs:=bf.ws) (ys:=([⟨e.kd,e.tm,e.u,e.v,e.w,e.lb,e.sg⟩]:List Ev)) (show Fit κ _ (vk 54 a8 a0 bf.ws::vc 54 (.slice a1 1 1) (([⟨e.kd,e.tm,e.u,e.v,e.w,e.lb,e.sg⟩]:List Ev))::e8 b3 [e7 0,e7 0,e7 0,.slice none 0 0] 32::e8 b2 (ez e) 54::e8 b1 [e7 bd,e7<|bf.lt,e7<|bf.mr,.slice M bf.ws.length wc] 32::I) from Az) om C om tb0 lcn) λaa aj=>?_
  show D prog κ _ _ _ _ _ _ _ ([(65,.slice aa (List.take i bf.ws++([⟨e.kd,e.tm,e.u,e.v,e.w,e.lb,e.sg⟩]:List Ev)++List.drop i bf.ws).length aj),(64,.slice a1 1 1),(61,.slice a8 bf.ws.length a0),(63,.agg (ez e).toArray),(62,e7<|(i:Int)),(60,.slice M bf.ws.length wc),(59,.pointer<|some ⟨b1,3,none⟩),(56,.bool false),(2,pt b1),(3,pt b2),(4,pt b3),(8,e7<|(i:Int))]:Env) (vk 54 aa aj (List.take i bf.ws++([⟨e.kd,e.tm,e.u,e.v,e.w,e.lb,e.sg⟩]:List Ev)++List.drop i bf.ws)::e8 b3 [e7 0,e7 0,e7 0,.slice none 0 0] 32::e8 b2 (ez e) 54::e8 b1 [e7 bd,e7<|bf.lt,e7<|bf.mr,.slice M bf.ws.length wc] 32::I)
  have ah:List.take i bf.ws++([⟨e.kd,e.tm,e.u,e.v,e.w,e.lb,e.sg⟩]:List Ev)++List.drop i bf.ws=K4 bf e:=bc9 (M8 (by intro h;first|omega|exact an) hj)
  rw [ah]
  refine Dr 7 C (Af R0 C)<|Cg kr ?_
  refine Ae 8 C (Br (cs:=[_,_,_,_]) (vs:=[_]) (cs':=[_,_,_,_]) ap3) ?_
  rintro _ _ ⟨rfl,rfl⟩
  refine Ch kr ?_
  refine Ao<|Am<|Gf U7 C<|Gl ef ?_
  refine Gf Q9 C<|Gl ef ?_
  refine Gr (Fi C C)<|Gf U7 C<|Ge0 (Br (cs:=[_,_,_,_]) (vs:=[_]) (cs':=[_,_,_,_]) ef) ?_
  refine Ar<|A0 (S2 2 4)<|Am<|Gl4 J4 ?_
  refine Gf U7 C<|Gl ef ?_
  refine Gf be9 C<|Gl ef ?_
  refine Gr (Rsu C C)<|Gr (Rsu C C) ?_
  have ae:((if bf.lt<e.tm then e.tm else bf.lt) - bd) - 1=ah3 bd bf e:=by unfold ah3;rw [ao0]
  rw [ae]
  refine G.e (Ac c_ C C<|ao6 (bd:=bd) (lt:=if bf.lt<e.tm then e.tm else bf.lt) (mr:=bf.mr) (m:=(ah3 bd bf e)) A5 hB.ft4<|by rw [ab8];omega) ?_
  rintro _ _ ⟨_,_,⟨ax,ap,bn,rfl,a9,rfl⟩,rfl,rfl⟩
  refine Gm C<|Gr (Bk C C)<|Gr (Bk C C)<|Ge1 (Aj J4 C) λb7=>Ge0 (C7 J4) ?_
  refine Ga C<|Ar<|A0 (S3 10 9 4)<|Am<|Gl4 J4 ?_
  refine Gm C<|Ge0 (C7 J4) ?_
  exact Ga C<|Ga C<|Ar<|B2<|Cu C J4 C C C mm C (vk 54 ax ap (beyond (ah3 bd bf e)<|K4 bf e)::vk 54 aa aj (K4 bf e)::I) Az ⟨ax,ap,aa,bn,[vk 54 ax ap (beyond (ah3 bd bf e)<|K4 bf e),vc 54 (.slice aa (K4 bf e).length aj)<|K4 bf e],(by rw [ao0];rfl),Cy mm,(Sl.ao7 A5 a9),rfl⟩
 refine Se1 C (B0 (α:=Ev) (cs:=(ez e)) (xs:=[⟨e.kd,e.tm,e.u,e.v,e.w,e.lb,e.sg⟩]) Ad z6 C C dc dc C kr C C) λaz=>?_
 refine Ds1 2<|Sc2 C (Ac c_ C C<|ay7 (xs:=bf.ws) (Bd (Bd hl hH.fit) Ah) om) λa7 a3=>?_
 refine Ds1 6<|Sc2 C (Ac c_ C C<|ag4 (i:=i) (xs:=bf.ws) (ys:=([⟨e.kd,e.tm,e.u,e.v,e.w,e.lb,e.sg⟩]:List Ev)) (show Fit κ _ (vk 54 a7 a3 bf.ws::vc 54 (.slice az 1 1) (([⟨e.kd,e.tm,e.u,e.v,e.w,e.lb,e.sg⟩]:List Ev))::e8 b3 [e7 0,e7 0,e7 0,.slice none 0 0] 32::e8 b2 (ez e) 54::e8 b1 [e7 bd,e7<|bf.lt,e7<|bf.mr,.slice M bf.ws.length wc] 32::I) from Az) om C om tb0 lcn) λad ai=>?_
 show D prog κ _ _ _ _ _ _ _ ([(65,.slice ad (List.take i bf.ws++([⟨e.kd,e.tm,e.u,e.v,e.w,e.lb,e.sg⟩]:List Ev)++List.drop i bf.ws).length ai),(61,.slice a7 bf.ws.length a3),(64,.slice az 1 1),(63,.agg (ez e).toArray),(62,e7<|(i:Int)),(60,.slice M bf.ws.length wc),(59,.pointer<|some ⟨b1,3,none⟩),(56,.bool false),(2,pt b1),(3,pt b2),(4,pt b3),(8,e7<|(i:Int))]:Env) (vk 54 ad ai (List.take i bf.ws++([⟨e.kd,e.tm,e.u,e.v,e.w,e.lb,e.sg⟩]:List Ev)++List.drop i bf.ws)::e8 b3 [e7 0,e7 0,e7 0,.slice none 0 0] 32::e8 b2 (ez e) 54::e8 b1 [e7 bd,e7<|bf.lt,e7<|bf.mr,.slice M bf.ws.length wc] 32::I)
 have ah:List.take i bf.ws++([⟨e.kd,e.tm,e.u,e.v,e.w,e.lb,e.sg⟩]:List Ev)++List.drop i bf.ws=K4 bf e:=bc9 (M8 (by intro h;first|omega|exact an) hj)
 rw [ah]
 refine Dr 7 C (Af R0 C)<|Cg kr ?_
 refine Ae 8 C (Br (cs:=[_,_,_,_]) (vs:=[_]) (cs':=[_,_,_,_]) ap3) ?_
 rintro _ _ ⟨rfl,rfl⟩
 refine Ch kr ?_
 refine Ao<|Am<|Gf U7 C<|Gl ef ?_
 refine Gf Q9 C<|Gl ef ?_
 refine Gr (Fi C C)<|Gf U7 C<|Ge0 (Br (cs:=[_,_,_,_]) (vs:=[_]) (cs':=[_,_,_,_]) ef) ?_
 refine Ar<|A0 (S2 2 4)<|Am<|Gl4 J4 ?_
 refine Gf U7 C<|Gl ef ?_
 refine Gf be9 C<|Gl ef ?_
 refine Gr (Rsu C C)<|Gr (Rsu C C) ?_
 have ae:((if bf.lt<e.tm then e.tm else bf.lt) - bd) - 1=ah3 bd bf e:=by unfold ah3;rw [ao0]
 rw [ae]
 refine G.e (Ac c_ C C<|ao6 (bd:=bd) (lt:=if bf.lt<e.tm then e.tm else bf.lt) (mr:=bf.mr) (m:=(ah3 bd bf e)) A5 hB.ft4<|by rw [ab8];omega) ?_
 rintro _ _ ⟨_,_,⟨aw,au,bj,rfl,be,rfl⟩,rfl,rfl⟩
 refine Gm C<|Gr (Bk C C)<|Gr (Bk C C)<|Ge1 (Aj J4 C) λbv=>Ge0 (C7 J4) ?_
 refine Ga C<|Ar<|A0 (S3 10 9 4)<|Am<|Gl4 J4 ?_
 refine Gm C<|Ge0 (C7 J4) ?_
 exact Ga C<|Ga C<|Ar<|B2<|Cu C J4 C C C mm C (vk 54 aw au (beyond (ah3 bd bf e)<|K4 bf e)::vk 54 ad ai (K4 bf e)::I) Az ⟨aw,au,ad,bj,[vk 54 aw au (beyond (ah3 bd bf e)<|K4 bf e),vc 54 (.slice ad (K4 bf e).length ai)<|K4 bf e],(by rw [ao0];rfl),Cy mm,(Sl.ao7 A5 be),rfl⟩
end Go.Sl
