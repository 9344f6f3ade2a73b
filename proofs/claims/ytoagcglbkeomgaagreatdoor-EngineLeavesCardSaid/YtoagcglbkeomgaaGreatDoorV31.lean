/- A part of the proofs of statements of this seat: contracts of functions, and the plain laws that they lean on. No conditions. -/
import Derived.Test.YtoagcglbkeomgaaGreatDoorV30
set_option linter.unusedVariables false
set_option linter.unusedSimpArgs false
set_option linter.unusedSectionVars false
namespace Go.Sl
open Go.Proofs
set_option maxRecDepth 4000
attribute [local irreducible] W G V D A j8 Eff
set_option maxHeartbeats 4000000 in
theorem bo7{κ:Ctx}{I:List Item}{nd kd wd mo bd:Int}{k:EnS}{v:KpV}{T:List Item}(hH:Has I T)(hF:KpF κ T nd k v)(hK:EnV nd kd wd mo bd k)(ct:k.b.ws.length<=4000)(h1:1<=nd){xe:Ev}(hx:H7 nd xe)(ht:k.tm<=xe.tm):eu Tryz.prog κ 149 [.agg (kx kd wd mo bd nd k v).toArray,.agg (ez xe).toArray] I (λr J=>∃(v':KpV) (Y:List Item) (a:Option Addr) (c:Nat),r = .tuple #[.agg (kx kd wd mo bd nd ((⟨k.b,(p5 kd wd mo (k.S,[]) xe).1,xe.tm⟩:EnS)) v').toArray,.slice a ((p5 kd wd mo (k.S,[]) xe).2).length c,e7 0]/\KpF κ (Y++T) nd (⟨k.b,(p5 kd wd mo (k.S,[]) xe).1,xe.tm⟩:EnS) v'/\Sl κ (Y++T) (.slice a ((p5 kd wd mo (k.S,[]) xe).2).length c) (p5 kd wd mo (k.S,[]) xe).2/\J=Y++I):=by
 have cy:=hx.tm
 have cp:=hx.fits
 have c0:=hK.tm
 have cf:=q9 (F1 hK.inv.val)
 rw [G5] at cf
 refine Ce2 Tryz.func149 C C ?_
 refine Ak<|Ge1 (Au (cs:=[_,_,_,_,_,_,_,_,_,_,_,_,_,_,_,_,_,_,_,_,_,_,_,_,_]) C C C) λb1=>Ge1 (Au (cs:=[_,_,_,_,_,_,_]) C C C) λb2=>Ge1 (Aj H2 C) λb3=>Z ?_
 refine Gc0 (Ac c_ C C<|bh8 (k:=k) (v:=v) (KpF.fit hF<|B0 (κ:=κ)<|by repeat (first|exact hH|exact Bf _|apply Be|apply B4|apply Bn)) hK om om)<|Z ?_
 refine Gc0 (Ac c_ C C<|Z8 xe)<|Z ?_
 refine Am C (λbw=>?_)<|λbw=>Z ?_
 ·exact absurd hx.chk bw
 refine A3 (d:=34) C (λcm=>?_)<|λcm=>Z ?_
 ·omega
 refine Am C (λcc=>?_)<|λcc=>Z ?_
 ·omega
 refine Am C (λch=>?_)<|λch=>Z ?_
 ·omega
 refine Ge1 (Aj V3 C) λb4=>Ge0 (Cs V3) ?_
 refine Ar<|W.cut (σ:=(List Lk)×SlA×(List Item)×(Option Addr)×Nat×(List Ev)) (λs=>([(2,pt b1),(3,pt b2),(4,pt b3),(8,.slice s.2.2.2.1 s.2.2.2.2.2.length s.2.2.2.2.1),(9,pt b4)]:Env)) (λs=>vk 54 s.2.2.2.1 s.2.2.2.2.1 s.2.2.2.2.2::e8 b4 [e7 nd,.slice s.2.1.a s.1.length s.2.1.c] 35::e8 b3 zk 47::e8 b2 (ez xe) 54::e8 b1 (kx kd wd mo bd nd k v) 47::(s.2.2.1++I)) (λs=>(Q0 kd wd mo xe.tm (k.S,[])=(s.1,s.2.2.2.2.2))/\(SlI nd kd wd xe.tm s.1)/\(Sl κ (s.2.2.1++T) (.slice s.2.1.a s.1.length s.2.1.c) s.1)/\(s.1.length+s.2.2.2.2.2.length=k.S.length)) ?_ ?_
 ·refine A7 (B9 (σ:=(List Lk)×SlA×(List Item)×(Option Addr)×Nat×(List Ev)) (λs=>([(2,pt b1),(3,pt b2),(4,pt b3),(8,.slice s.2.2.2.1 s.2.2.2.2.2.length s.2.2.2.2.1),(9,pt b4)]:Env)) (λs=>vk 54 s.2.2.2.1 s.2.2.2.2.1 s.2.2.2.2.2::e8 b4 [e7 nd,.slice s.2.1.a s.1.length s.2.1.c] 35::e8 b3 zk 47::e8 b2 (ez xe) 54::e8 b1 (kx kd wd mo bd nd k v) 47::(s.2.2.1++I)) (λs=>(Q0 kd wd mo xe.tm (k.S,[])=Q0 kd wd mo xe.tm (s.1,s.2.2.2.2.2))/\(SlI nd kd wd k.tm s.1)/\(Sl κ (s.2.2.1++T) (.slice s.2.1.a s.1.length s.2.1.c) s.1)/\(s.1.length+s.2.2.2.2.2.length=k.S.length)) (λs=>s.1.length) (k.S,v.l,[],none,0,[]) (show (Q0 kd wd mo xe.tm (k.S,[])=Q0 kd wd mo xe.tm ((k.S:List Lk),([]:List Ev)))/\(SlI nd kd wd k.tm (k.S:List Lk))/\(Sl κ (([]:List Item)++T) (.slice (v.l:SlA).a (k.S:List Lk).length (v.l:SlA).c) (k.S:List Lk))/\((k.S:List Lk).length+([]:List Ev).length=k.S.length) from ⟨rfl,hK.inv,hF.l,rfl⟩) (cx2<|Aa C<|Aa (Db C<|by first|rfl|simp)<|Aa C Bb) (show Fit κ _ (vk 54 none 0 ([])::e8 b4 [e7 nd,.slice (v.l).a (k.S).length (v.l).c] 35::e8 b3 zk 47::e8 b2 (ez xe) 54::e8 b1 (kx kd wd mo bd nd k v) 47::(([])++I)) from (A9 (show Fit κ _ _ from Az)<|B7 (α:=Ev) _ _)) ?_)
  rintro ⟨M,lw,Y,oa,oc,vs⟩ hp
  dsimp only at hp ⊢
  obtain ⟨a5,hJ,a9,bq⟩:=hp
  have ca:=q9 (F1 hJ.val)
  rw [G5] at ca
  refine Z ?_
  refine G.e (Ac c_ C C<|do5 (nd:=nd) (kd:=kd) (wd:=wd) (mo:=mo)<|Bg a9<|B0 (κ:=κ)<|by repeat (first|exact hH|exact Bf _|apply Be|apply B4|apply Bn)) ?_
  rintro _ _ ⟨_,_,⟨ah,rfl,ay,rfl⟩,rfl,rfl⟩
  refine Z ?_
  refine A3 (d:=61) C (λbb=>Z ?_)<|λbb=>Z ?_
  ·have an:kd=2->¬(0<M.length/\ab5 M+wd<=xe.tm):=λbk h=>by have hc:ad2 nd M kd wd mo:=⟨bc0 (λh=>h hK.win)<|λh=>h hJ.val,bk,Li.1 h.1⟩;first|exact absurd hc bb|(have hz:=bd9 (ay.yes hc);omega)
   exact Dm ((M),(lw),(Y),(oa),(oc),(vs))<|by dsimp only;exact ⟨(a5.trans<|ax2 an),(hJ.later ht an),a9,bq⟩
  refine Am C (λb9=>Z ?_)<|λb9=>Z ?_
  ·have an:kd=2->¬(0<M.length/\ab5 M+wd<=xe.tm):=λbk h=>by have hc:ad2 nd M kd wd mo:=⟨bc0 (λh=>h hK.win)<|λh=>h hJ.val,bk,Li.1 h.1⟩;first|exact absurd hc bb|(have hz:=bd9 (ay.yes hc);omega)
   exact Dm ((M),(lw),(Y),(oa),(oc),(vs))<|by dsimp only;exact ⟨(a5.trans<|ax2 an),(hJ.later ht an),a9,bq⟩
  have hc:ad2 nd M kd wd mo:=Ft.1 bb
  have az:0<M.length:=Li.2 hc.2.2
  have hz:ah=ab5 M+wd:=bd9 (ay.yes hc)
  have cw:=hJ.first hc.2.1 az
  have ck:∀x∈M,ah<=x.tm+wd:=λx ce=>by have h5:=(T0 az).2 x ce;omega
  have co:=ag0 kd wd mo ah M
  refine Z ?_
  refine B9 (σ:=Nat×(List Lk)×SlA×(List Item)×(Option Addr)×Nat×(List Ev)) (λs=>([(2,pt b1),(3,pt b2),(4,pt b3),(8,.slice s.2.2.2.2.1 s.2.2.2.2.2.2.length s.2.2.2.2.2.1),(9,pt b4),(10,e7 ah),(13,.slice lw.a M.length lw.c),(14,e7 ((s.1:Nat):Int))]:Env)) (λs=>vk 54 s.2.2.2.2.1 s.2.2.2.2.2.1 s.2.2.2.2.2.2::e8 b4 [e7 nd,.slice s.2.2.1.a s.2.1.length s.2.2.1.c] 35::e8 b3 zk 47::e8 b2 (ez xe) 54::e8 b1 (kx kd wd mo bd nd k v) 47::(s.2.2.2.1++I)) (λs=>(s.1<=M.length)/\(s.2.1=(as9 wd ah<|M.take s.1).foldl ep M)/\(s.2.2.2.2.2.2=vs++as9 wd ah (M.take s.1))/\(q7 nd s.2.1=0)/\(Sl κ (s.2.2.2.1++T) (.slice s.2.2.1.a s.2.1.length s.2.2.1.c) s.2.1)/\(Sl κ (s.2.2.2.1++T) (.slice lw.a M.length lw.c) M)/\(s.2.2.2.2.2.2.length<=vs.length+s.1)) (λs=>M.length - s.1) (0,M,lw,Y,oa,oc,vs) (show ((0:Nat)<=M.length)/\((M:List Lk)=(as9 wd ah<|M.take (0:Nat)).foldl ep M)/\((vs:List Ev)=vs++as9 wd ah (M.take (0:Nat)))/\(q7 nd (M:List Lk)=0)/\(Sl κ ((Y:List Item)++T) (.slice (lw:SlA).a (M:List Lk).length (lw:SlA).c) (M:List Lk))/\(Sl κ ((Y:List Item)++T) (.slice lw.a M.length lw.c) M)/\((vs:List Ev).length<=vs.length+(0:Nat)) from ⟨om,rfl,(by show vs=vs++[];rw [Gq]),hJ.val,a9,a9,om⟩) (cx2<|Aa C<|Aa (Db C<|by first|rfl|simp)<|cx2<|Aa C<|Aa Co Bb) (show Fit κ _ (vk 54 oa oc (vs)::e8 b4 [e7 nd,.slice (lw).a (M).length (lw).c] 35::e8 b3 zk 47::e8 b2 (ez xe) 54::e8 b1 (kx kd wd mo bd nd k v) 47::((Y)++I)) from Az) ?_
  rintro ⟨i,X2,av,Y2,be,ba,o2⟩ hp
  dsimp only at hp ⊢
  obtain ⟨hi,hX,ho,bc,bj,ak,ci⟩:=hp
  have bo:=q9 (F1 bc)
  rw [G5] at bo
  refine Ax<|Ak<|Gm C<|Gm C<|Gr (Bk A0 C)<|Gr (Bl C C)<|Ar<|Am C (λcj=>?_)<|λcj=>Z ?_
  ·refine Bc (Ao<|Ax<|A7<|Ax<|Ba mixed<|Bx (vk 54 be ba o2::e8 b4 [e7 nd,.slice av.a X2.length av.c] 35::e8 b3 zk 47::e8 b2 (ez xe) 54::e8 b1 (kx kd wd mo bd nd k v) 47::(Y2++I)) 11<|Dr 0 C (Aq C)<|Dr 1 C (Aq C) ?_)
   have cz:=bh0 hJ.val (i:Int) om om
   have cn:=at3 hK.win
   refine Dr 2 C (A2 (α:=Lk) (xs:=M) A0 J2 C C (Bg ak<|B0 (κ:=κ)<|by repeat (first|exact hH|exact Bf _|apply Be|apply B4|apply Bn)) om om)<|Dr 3 C (j8.fld (α:=Lk) (xs:=M) bs3 C (Bg ak<|B0 (κ:=κ)<|by repeat (first|exact hH|exact Bf _|apply Be|apply B4|apply Bn)) om)<|Dr 4 C (Fj (α:=Lk) (xs:=M) (u:=e7 ((e_ M i).tm)) ef C (Bg ak<|B0 (κ:=κ)<|by repeat (first|exact hH|exact Bf _|apply Be|apply B4|apply Bn)) om om C)<|Dr 5 C (Af bf7 C)<|Dr 6 C (Af ao6 C)<|Dr 7 C (Bd ef) ?_
   refine Dr 8 C (Rad C C)<|Dr 9 C (Aq C)<|Dr 10 C (Cx C C)<|Dz<|Ao<|A1 (S9 85 2 3 4 8 9 10 13 14)<|Am C (λa8=>?_)<|λa8=>Z ?_
   ·refine Ba mixed (Bx (e8 b3 zk 47::e8 b2 (ez xe) 54::e8 b1 (kx kd wd mo bd nd k v) 47::(Y2++I)) 14<|Dr 1 C (Aq C)<|Dr 2 C (Aq C)<|Dr 3 C (Aq C)<|Dr 4 C (A2 (α:=Lk) (xs:=M) A0 J2 C C (Bg ak<|B0 (κ:=κ)<|by repeat (first|exact hH|exact Bf _|apply Be|apply B4|apply Bn)) om om)<|Dr 5 C (C6 (α:=Lk) (xs:=M) J2 C (Bg ak<|B0 (κ:=κ)<|by repeat (first|exact hH|exact Bf _|apply Be|apply B4|apply Bn)) om om)<|Dr 6 C (Aq C)<|D.two (e8 b4 [e7 nd,.slice av.a X2.length av.c] 35::e8 b3 zk 47::e8 b2 (ez xe) 54::e8 b1 (kx kd wd mo bd nd k v) 47::(Y2++I)) 8 Az ?_)
    refine Fe 0 C kr kr kr C kr (λ_ _ _ _ h=>h) (Ap C) C C Az (Bm (vs:=[_,_]) V3) ?_
    refine Ez (rs:=[7]) kr C C<|Do ?_
    refine Dt C (Ap C) (Ac c_ C C<|ci7 (e_ M i) ah) ?_
    rintro _ _ ⟨_,_,⟨rfl,rfl⟩,rfl,rfl⟩
    refine ⟨Az,?_⟩
    refine D2.stop kr ?_
    refine Ds1 8<|Se C (Ac c_ C C<|Cm (J:=vk 54 be ba o2::e8 b4 [e7 nd,.slice av.a X2.length av.c] 35::e8 b3 zk 47::e8 b2 (ez xe) 54::e8 b1 (kx kd wd mo bd nd k v) 47::(Y2++I)) Az<|bu0 (nd:=nd) (e:=(⟨2,ah,(e_ M i).u,(e_ M i).v,0,0,0⟩:Ev)) (Bg bj<|B0 (κ:=κ)<|by repeat (first|exact hH|exact Bf _|apply Be|apply B4|apply Bn)) bc (dm0 hJ.val (Bp (xs:=M) (i:=(i:Int)) om om) om) om om) ?_
    rintro _ _ ⟨_,_,⟨a1,a0,b5,bu,rfl,rfl⟩,rfl,rfl⟩
    refine ⟨Az,?_⟩
    refine Dr 9 C (Aq C)<|Dr 10 C (Bj C C)<|Dr 11 C (Bj C C)<|Ds1 12<|Se0 C (Cs V3)<|Z ?_
    exact Bt ((i+1),(ep X2 (⟨2,ah,(e_ M i).u,(e_ M i).v,0,0,0⟩:Ev)),((⟨a1,a0⟩:SlA)),((vk 82 a1 a0 (ep X2 (⟨2,ah,(e_ M i).u,(e_ M i).v,0,0,0⟩:Ev))::Y2)),(b5),(bu),((o2++[(⟨2,ah,(e_ M i).u,(e_ M i).v,0,0,0⟩:Ev)]))) (by dsimp only;exact ⟨om,(by rw [hX];exact cu8 wd ah M M i om a8),(by rw [ho,bz3 om a8,Fr];rfl),(J5 bc<|dm0 hJ.val (Bp (xs:=M) (i:=(i:Int)) om om) om),(Cz<|Gi _ A_),(show Sl κ (vk 82 a1 a0 (ep X2 (⟨2,ah,(e_ M i).u,(e_ M i).v,0,0,0⟩:Ev))::(Y2++T)) _ _ from Bg ak (Fa<|Dd _)),(by rw [By,E_,Fu];omega)⟩) (hI:=by (try dsimp only);exact (show Fit κ _ (vk 54 b5 bu (o2++[(⟨2,ah,(e_ M i).u,(e_ M i).v,0,0,0⟩:Ev)])::e8 b4 [e7 nd,.slice (⟨a1,a0⟩:SlA).a (ep X2 (⟨2,ah,(e_ M i).u,(e_ M i).v,0,0,0⟩:Ev)).length (⟨a1,a0⟩:SlA).c] 35::e8 b3 zk 47::e8 b2 (ez xe) 54::e8 b1 (kx kd wd mo bd nd k v) 47::vk 82 a1 a0 (ep X2 (⟨2,ah,(e_ M i).u,(e_ M i).v,0,0,0⟩:Ev))::(Y2++I)) from Az))
   exact Bt ((i+1),(X2),(av),(Y2),(be),(ba),(o2))<|by dsimp only;exact ⟨om,(by rw [co8 om a8];exact hX),(by rw [co8 om a8];exact ho),bc,bj,ak,om⟩
  rw [show M.take i=M from Fv om,cu9 (mo:=mo) hc.2.1 ck] at hX ho
  have hg:=ae5 (kd:=kd) (wd:=wd) (mo:=mo) (nw:=ah) hJ.val
  rw [hg] at hX
  exact Bt ((X2),(av),(Y2),(be),(ba),(o2)) (by dsimp only;exact ⟨(by rw [hX,ho];exact a5.trans<|cw2 hc.2.1 ⟨az,by omega⟩ hz),(by rw [hX];exact hJ.filter _),bj,(by rw [hX,ho,By];omega)⟩) (hlt:=by (try dsimp only);exact (by rw [hX];exact do2 hc.2.1 az hz))
 rintro ⟨X1,a3,Y1,bm,bi,o1⟩ hp
 obtain ⟨b7,au,cd,cx⟩:(Q0 kd wd mo xe.tm (k.S,[])=(X1,o1))/\(SlI nd kd wd xe.tm X1)/\(Sl κ (Y1++T) (.slice a3.a X1.length a3.c) X1)/\(X1.length+o1.length=k.S.length):=hp
 show W Tryz.prog κ 142 _ _ ([(2,pt b1),(3,pt b2),(4,pt b3),(8,.slice bm o1.length bi),(9,pt b4)]:Env) (vk 54 bm bi o1::e8 b4 [e7 nd,.slice a3.a X1.length a3.c] 35::e8 b3 zk 47::e8 b2 (ez xe) 54::e8 b1 (kx kd wd mo bd nd k v) 47::(Y1++I))
 have cb:=q9 (F1 au.val)
 rw [G5] at cb
 have cr:=ai0 X1 xe
 refine Z ?_
 refine G.e (Ac c_ C C<|Cm (J:=vk 54 bm bi o1::e8 b4 [e7 nd,.slice a3.a X1.length a3.c] 35::e8 b3 zk 47::e8 b2 (ez xe) 54::e8 b1 (kx kd wd mo bd nd k v) 47::(Y1++I)) Az<|bu0 (nd:=nd) (e:=xe) (Bg cd<|B0 (κ:=κ)<|by repeat (first|exact hH|exact Bf _|apply Be|apply B4|apply Bn)) au.val hx om om) ?_
 rintro _ _ ⟨_,_,⟨ae,ad,ar,aq,rfl,rfl⟩,rfl,rfl⟩
 refine Z ?_
 refine Ge0 (Cs V3) ?_
 refine Ga C<|Ar<|W.cut (σ:=(List Lk)×SlA×(List Item)×(Option Addr)×Nat×(List Ev)) (λs=>([(2,pt b1),(3,pt b2),(4,pt b3),(8,.slice s.2.2.2.1 s.2.2.2.2.2.length s.2.2.2.2.1),(9,pt b4)]:Env)) (λs=>vk 54 s.2.2.2.1 s.2.2.2.2.1 s.2.2.2.2.2::e8 b4 [e7 nd,.slice s.2.1.a s.1.length s.2.1.c] 35::e8 b3 zk 47::e8 b2 (ez xe) 54::e8 b1 (kx kd wd mo bd nd k v) 47::(s.2.2.1++I)) (λs=>(p5 kd wd mo (k.S,[]) xe=(s.1,s.2.2.2.2.2))/\(q7 nd s.1=0)/\(Sl κ (s.2.2.1++T) (.slice s.2.1.a s.1.length s.2.1.c) s.1)) ?_ ?_
 ·refine Z ?_
  refine Z ?_
  refine A1 (S6 108 8 2 3 4 9)<|Am C (λa6=>?_)<|λa6=>Z ?_
  ·refine Ak (Gl2 V3 ?_)
   refine Gf bf7 C<|Gl3 da5 ?_
   refine Gf R0 C<|Gl ef ?_
   refine G.e (Ac c_ C C<|ci4 (nd:=nd) (kd:=kd) (wd:=wd) (mo:=mo) (nw:=xe.tm) (xs:=ep X1 xe) A5 om) ?_
   rintro _ _ ⟨_,_,(⟨a4,rfl,rfl⟩|⟨aj,ai,b8,rfl,rfl⟩),rfl,rfl⟩
   ·exact absurd (SlI.ask (au.step hx rfl<|cv4 hK.win) hK.win hx.tm<|Hl _) a4
   show G Tryz.prog κ _ _ _ _ ([(115,.tuple #[.slice aj (s3 kd wd mo xe.tm<|ep X1 xe).length ai,e7 0]),(114,e7<|xe.tm),(113,.pointer<|some ⟨b2,1,none⟩),(112,.agg #[e7 kd,e7 wd,e7 mo]),(111,pt b1),(110,.agg #[e7 nd,.slice ae (ep X1 xe).length ad]),(108,.bool<|decide<|kd=3),(8,.slice ar (o1++[xe]).length aq),(2,pt b1),(3,pt b2),(4,pt b3),(9,pt b4)]:Env) (vk 54 aj ai (s3 kd wd mo xe.tm<|ep X1 xe)::vk 82 ae ad (ep X1 xe)::vk 54 ar aq (o1++[xe])::e8 b4 [e7 nd,.slice ae (ep X1 xe).length ad] 35::e8 b3 zk 47::e8 b2 (ez xe) 54::e8 b1 (kx kd wd mo bd nd k v) 47::(Y1++I))
   refine Z ?_
   refine B9 (σ:=Nat×(List Lk)×SlA×(List Item)×(Option Addr)×Nat×(List Ev)) (λs=>([(2,pt b1),(3,pt b2),(4,pt b3),(8,.slice s.2.2.2.2.1 s.2.2.2.2.2.2.length s.2.2.2.2.2.1),(9,pt b4),(15,.slice aj (s3 kd wd mo xe.tm<|ep X1 xe).length ai),(17,e7 ((s.1:Nat):Int))]:Env)) (λs=>vk 54 s.2.2.2.2.1 s.2.2.2.2.2.1 s.2.2.2.2.2.2::vk 54 aj ai (s3 kd wd mo xe.tm<|ep X1 xe)::e8 b4 [e7 nd,.slice s.2.2.1.a s.2.1.length s.2.2.1.c] 35::e8 b3 zk 47::e8 b2 (ez xe) 54::e8 b1 (kx kd wd mo bd nd k v) 47::(s.2.2.2.1++I)) (λs=>(s.1<=(s3 kd wd mo xe.tm<|ep X1 xe).length)/\(s.2.1=((s3 kd wd mo xe.tm<|ep X1 xe).take s.1).foldl ep (ep X1 xe))/\(s.2.2.2.2.2.2=o1++[xe]++(s3 kd wd mo xe.tm<|ep X1 xe).take s.1)/\(q7 nd s.2.1=0)/\(Sl κ (s.2.2.2.1++T) (.slice s.2.2.1.a s.2.1.length s.2.2.1.c) s.2.1)) (λs=>(s3 kd wd mo xe.tm<|ep X1 xe).length - s.1) (0,(ep X1 xe),(⟨ae,ad⟩:SlA),(vk 82 ae ad (ep X1 xe)::Y1),ar,aq,(o1++[xe])) (show ((0:Nat)<=(s3 kd wd mo xe.tm<|ep X1 xe).length)/\(((ep X1 xe):List Lk)=((s3 kd wd mo xe.tm<|ep X1 xe).take (0:Nat)).foldl ep (ep X1 xe))/\(((o1++[xe]):List Ev)=o1++[xe]++(s3 kd wd mo xe.tm<|ep X1 xe).take (0:Nat))/\(q7 nd ((ep X1 xe):List Lk)=0)/\(Sl κ (((vk 82 ae ad (ep X1 xe)::Y1):List Item)++T) (.slice ((⟨ae,ad⟩:SlA):SlA).a ((ep X1 xe):List Lk).length ((⟨ae,ad⟩:SlA):SlA).c) ((ep X1 xe):List Lk)) from ⟨om,rfl,(by show _=_++[];rw [Gq]),(J5 au.val hx),(Cz<|Gi _ A_)⟩) (cx2<|Aa C<|Aa (Db C<|by first|rfl|simp)<|cx2<|Aa Co Bb) (show Fit κ _ (vk 54 ar aq ((o1++[xe]))::vk 54 aj ai (s3 kd wd mo xe.tm<|ep X1 xe)::e8 b4 [e7 nd,.slice ((⟨ae,ad⟩:SlA)).a ((ep X1 xe)).length ((⟨ae,ad⟩:SlA)).c] 35::e8 b3 zk 47::e8 b2 (ez xe) 54::e8 b1 (kx kd wd mo bd nd k v) 47::(((vk 82 ae ad (ep X1 xe)::Y1))++I)) from Az) ?_
   rintro ⟨i,X3,a7,Y3,br,b6,o3⟩ hp
   dsimp only at hp ⊢
   obtain ⟨hi,hX,ho,bf,bt⟩:=hp
   have bo:=q9 (F1 bf)
   rw [G5] at bo
   have cq:=ag0 kd wd mo xe.tm (ep X1 xe)
   have ci:o3.length=o1.length+1+i:=by rw [ho];simp only [By,E_,Fu,Fp];omega
   refine Z ?_
   refine Am C (λbp=>Z ?_)<|λbp=>Z ?_
   ·refine Ba mixed (Bx (vk 54 aj ai (s3 kd wd mo xe.tm<|ep X1 xe)::e8 b3 zk 47::e8 b2 (ez xe) 54::e8 b1 (kx kd wd mo bd nd k v) 47::(Y3++I)) 12<|Dr 1 C (Aq C)<|Z ?_)
    refine D.two (vk 54 aj ai (s3 kd wd mo xe.tm<|ep X1 xe)::e8 b4 [e7 nd,.slice a7.a X3.length a7.c] 35::e8 b3 zk 47::e8 b2 (ez xe) 54::e8 b1 (kx kd wd mo bd nd k v) 47::(Y3++I)) 6 Az ?_
    refine Fe 0 C kr kr kr C kr (λ_ _ _ _ h=>h) (Ap C) C C Az (Bm (vs:=[_,_]) V3) ?_
    refine D2.stop kr ?_
    refine Ds1 6<|Se C (Ac c_ C C<|Cm (J:=vk 54 br b6 o3::vk 54 aj ai (s3 kd wd mo xe.tm<|ep X1 xe)::e8 b4 [e7 nd,.slice a7.a X3.length a7.c] 35::e8 b3 zk 47::e8 b2 (ez xe) 54::e8 b1 (kx kd wd mo bd nd k v) 47::(Y3++I)) Az<|bu0 (nd:=nd) (e:=(e_ (s3 kd wd mo xe.tm<|ep X1 xe) (i:Int))) (Bg bt<|B0 (κ:=κ)<|by repeat (first|exact hH|exact Bf _|apply Be|apply B4|apply Bn)) bf (am2 (J5 au.val hx) hx.tm _<|Bp om om) om om) ?_
    rintro _ _ ⟨_,_,⟨ax,aw,bh,bg,rfl,rfl⟩,rfl,rfl⟩
    refine ⟨Az,?_⟩
    refine Z ?_
    refine Ds1 10<|Se0 C (Cs V3)<|Z ?_
    exact Bt ((i+1),(ep X3<|e_ (s3 kd wd mo xe.tm<|ep X1 xe) (i:Int)),((⟨ax,aw⟩:SlA)),((vk 82 ax aw (ep X3<|e_ (s3 kd wd mo xe.tm<|ep X1 xe) (i:Int))::Y3)),(bh),(bg),((o3++[(e_ (s3 kd wd mo xe.tm<|ep X1 xe) (i:Int))]))) (by dsimp only;exact ⟨om,(by rw [Ca (s3 kd wd mo xe.tm<|ep X1 xe) i om,Hd,←hX];rfl),(by rw [Ca (s3 kd wd mo xe.tm<|ep X1 xe) i om,ho];simp only [Fr]),(J5 bf<|am2 (J5 au.val hx) hx.tm _<|Bp om om),(Cz<|Gi _ A_)⟩) (hI:=by (try dsimp only);exact (show Fit κ _ (vk 54 bh bg (o3++[(e_ (s3 kd wd mo xe.tm<|ep X1 xe) (i:Int))])::vk 54 aj ai (s3 kd wd mo xe.tm<|ep X1 xe)::e8 b4 [e7 nd,.slice (⟨ax,aw⟩:SlA).a (ep X3<|e_ (s3 kd wd mo xe.tm<|ep X1 xe) (i:Int)).length (⟨ax,aw⟩:SlA).c] 35::e8 b3 zk 47::e8 b2 (ez xe) 54::e8 b1 (kx kd wd mo bd nd k v) 47::vk 82 ax aw (ep X3<|e_ (s3 kd wd mo xe.tm<|ep X1 xe) (i:Int))::(Y3++I)) from Az))
   rw [show (s3 kd wd mo xe.tm<|ep X1 xe).take i=(s3 kd wd mo xe.tm<|ep X1 xe) from Fv om] at hX ho
   exact Dm ((X3),(a7),(Y3),(br),(b6),(o3))<|by dsimp only;exact ⟨(by rw [hX,ho];exact bw5 (nd:=nd) b7 a6<|J5 au.val hx),bf,bt⟩
  exact Dm (((ep X1 xe)),((⟨ae,ad⟩:SlA)),((vk 82 ae ad (ep X1 xe)::Y1)),(ar),(aq),((o1++[xe]))) (by dsimp only;exact ⟨(step_end b7 a6),(J5 au.val hx),(Cz<|Gi _ A_)⟩) (hI:=by (try dsimp only);exact (show Fit κ _ (vk 54 ar aq (o1++[xe])::e8 b4 [e7 nd,.slice (⟨ae,ad⟩:SlA).a (ep X1 xe).length (⟨ae,ad⟩:SlA).c] 35::e8 b3 zk 47::e8 b2 (ez xe) 54::e8 b1 (kx kd wd mo bd nd k v) 47::vk 82 ae ad (ep X1 xe)::(Y1++I)) from Az))
 rintro ⟨X4,ab,Y4,ao,ap,o4⟩ hp
 obtain ⟨hE,cg,bv⟩:(p5 kd wd mo (k.S,[]) xe=(X4,o4))/\(q7 nd X4=0)/\(Sl κ (Y4++T) (.slice ab.a X4.length ab.c) X4):=hp
 show W Tryz.prog κ 142 _ _ ([(2,pt b1),(3,pt b2),(4,pt b3),(8,.slice ao o4.length ap),(9,pt b4)]:Env) (vk 54 ao ap o4::e8 b4 [e7 nd,.slice ab.a X4.length ab.c] 35::e8 b3 zk 47::e8 b2 (ez xe) 54::e8 b1 (kx kd wd mo bd nd k v) 47::(Y4++I))
 refine Ax<|Ba mixed<|Bx (vk 54 ao ap o4::e8 b4 [e7 nd,.slice ab.a X4.length ab.c] 35::e8 b3 zk 47::e8 b2 (ez xe) 54::(Y4++I)) 7<|Z ?_
 refine Ds1 4<|Se0 C (Bs (cs:=[_,_,_,_,_,_,_,_,_,_,_,_,_,_,_,_,_,_,_,_,_,_,_,_,_]) (vs:=[_,_]) (cs':=[_,_,_,_,_,_,_,_,_,_,_,_,_,_,_,_,_,_,_,_,_,_,_,_,_]) V3)<|Z ?_
 refine Ds1 6<|Se0 C (Bs (cs:=[_,_,_,_,_,_,_,_,_,_,_,_,_,_,_,_,_,_,_,_,_,_,_,_,_]) (vs:=[_]) (cs':=[_,_,_,_,_,_,_,_,_,_,_,_,_,_,_,_,_,_,_,_,_,_,_,_,_]) ef)<|Z ?_
 refine G.e (Ac c_ C C<|ax4 (nd:=nd) (S:=X4) (Bg bv<|B0 (κ:=κ)<|by repeat (first|exact hH|exact Bf _|apply Be|apply B4|apply Bn)) cg om) ?_
 rintro _ _ ⟨_,_,⟨aa,Y21,rfl,bn,rfl⟩,rfl,rfl⟩
 refine Dq (J:=vk 54 ao ap o4::e8 b4 [e7 nd,.slice ab.a X4.length ab.c] 35::e8 b3 zk 47::e8 b2 (ez xe) 54::e8 b1 (ky kd wd mo bd k.b.lt k.b.mr v.w.a k.b.ws.length v.w.c nd ab.a X4.length ab.c (j5 k.S) v.p xe.tm) 47::(Y21++(Y4++I))) (Cj<|C1 (A:=Y21) (L:=[vk 54 ao ap o4,e8 b4 [e7 nd,.slice ab.a X4.length ab.c] 35,e8 b3 zk 47,e8 b2 (ez xe) 54,e8 b1 (ky kd wd mo bd k.b.lt k.b.mr v.w.a k.b.ws.length v.w.c nd ab.a X4.length ab.c (j5 k.S) v.p xe.tm) 47]) (T:=(Y4++I))) ?_
 show G Tryz.prog κ _ _ _ _ ([(140,.agg (ky kd wd mo bd k.b.lt k.b.mr v.w.a k.b.ws.length v.w.c nd ab.a X4.length ab.c (j5 X4) aa xe.tm).toArray),(139,.agg (ky kd wd mo bd k.b.lt k.b.mr v.w.a k.b.ws.length v.w.c nd ab.a X4.length ab.c (j5 k.S) v.p xe.tm).toArray),(138,.pointer<|some ⟨b1,24,none⟩),(137,.pointer<|some ⟨b1,7,none⟩),(136,e7<|xe.tm),(135,.pointer<|some ⟨b2,1,none⟩),(134,.agg #[e7 nd,.slice ab.a X4.length ab.c]),(2,pt b1),(3,pt b2),(4,pt b3),(8,.slice ao o4.length ap),(9,pt b4)]:Env) (vk 54 ao ap o4::e8 b4 [e7 nd,.slice ab.a X4.length ab.c] 35::e8 b3 zk 47::e8 b2 (ez xe) 54::e8 b1 (ky kd wd mo bd k.b.lt k.b.mr v.w.a k.b.ws.length v.w.c nd ab.a X4.length ab.c (j5 k.S) v.p xe.tm) 47::(Y21++(Y4++I)))
 refine Gm C<|Ge0 (Eff.sq H2)<|Z ?_
 rw [hE]
 exact Cu C H2 C C C mm C (((vk 54 ao ap o4::(Y21++Y4))++I)) tb2 ⟨(⟨v.w,ab,aa⟩:KpV),(vk 54 ao ap o4::(Y21++Y4)),ao,ap,rfl,(by simp only [Jc,Fr];exact ⟨Bg hF.w Ah,Bg bv Ah,PkR.fit bn<|C4<|by repeat (first|exact Ho _ _|apply List.Sublist.cons)⟩),Cz<|Gi _ A_,rfl⟩
end Go.Sl
