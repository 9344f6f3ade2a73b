/- A part of the proofs of statements of this seat: contracts of functions, and the plain laws that they lean on. No conditions. -/
import Derived.Test.YtoagcglbkeomgaaGreatDoorA30
set_option linter.unusedVariables false
set_option linter.unusedSimpArgs false
set_option linter.unusedSectionVars false
namespace Go.Sl
open Go.Proofs
set_option maxRecDepth 4000
attribute [local irreducible] W G V D A j8 Eff
set_option maxHeartbeats 4000000 in
theorem bo2{κ:Ctx}{I:List Item}{nd kd wd mo bd:Int}{k:EnS}{v:KpV}{T:List Item}(hH:Has I T)(hF:KpF κ T nd k v)(hK:EnV nd kd wd mo bd k)(c0:k.b.ws.length<=4000)(h1:1<=nd){xe:Ev}(hx:H4 nd xe)(ht:k.tm<=xe.tm):eu Tryz.prog κ 149 [.agg (kx kd wd mo bd nd k v).toArray,.agg (ez xe).toArray] I (λr J=>∃(v':KpV) (Y:List Item) (a:Option Addr) (c:Nat),r = .tuple #[.agg (kx kd wd mo bd nd ((⟨k.b,(p6 kd wd mo (k.S,[]) xe).1,xe.tm⟩:EnS)) v').toArray,.slice a ((p6 kd wd mo (k.S,[]) xe).2).length c,e7 0]/\KpF κ (Y++T) nd (⟨k.b,(p6 kd wd mo (k.S,[]) xe).1,xe.tm⟩:EnS) v'/\Sl κ (Y++T) (.slice a ((p6 kd wd mo (k.S,[]) xe).2).length c) (p6 kd wd mo (k.S,[]) xe).2/\J=Y++I):=by
 have cq:=hx.tm
 have cx:=hx.fits
 have cr:=hK.tm
 have b9:=q9 (F6 hK.inv.val)
 rw [G0] at b9
 refine Ce2 Tryz.func149 C C ?_
 refine Al<|Ge1 (Av (cs:=[_,_,_,_,_,_,_,_,_,_,_,_,_,_,_,_,_,_,_,_,_,_,_,_,_]) C C C) λb1=>Ge1 (Av (cs:=[_,_,_,_,_,_,_]) C C C) λb2=>Ge1 (Aj H2 C) λb3=>Z ?_
 refine Gc0 (Ab c_ C C<|bh1 (k:=k) (v:=v) (KpF.fit hF<|B4 (κ:=κ)<|by repeat (first|exact hH|exact Bh _|apply Bg|apply B2|apply Bp)) hK om om)<|Z ?_
 refine Gc0 (Ab c_ C C<|Z5 xe)<|Z ?_
 refine Ao C (λbv=>?_)<|λbv=>Z ?_
 ·exact absurd hx.chk bv
 refine A4 (d:=34) C (λce=>?_)<|λce=>Z ?_
 ·omega
 refine Ao C (λcj=>?_)<|λcj=>Z ?_
 ·omega
 refine Ao C (λcc=>?_)<|λcc=>Z ?_
 ·omega
 refine Ge1 (Aj Q2 C) λb4=>Ge0 (Co Q2) ?_
 refine Ar<|Fj (σ:=(List Lk)×SlA×(List Item)×(Option Addr)×Nat×(List Ev)) (λs=>([(2,pt b1),(3,pt b2),(4,pt b3),(8,.slice s.2.2.2.1 s.2.2.2.2.2.length s.2.2.2.2.1),(9,pt b4)]:Env)) (λs=>vk 54 s.2.2.2.1 s.2.2.2.2.1 s.2.2.2.2.2::e8 b4 [e7 nd,.slice s.2.1.a s.1.length s.2.1.c] 35::e8 b3 zk 47::e8 b2 (ez xe) 54::e8 b1 (kx kd wd mo bd nd k v) 47::(s.2.2.1++I)) (λs=>(R6 kd wd mo xe.tm (k.S,[])=(s.1,s.2.2.2.2.2))/\(SlI nd kd wd xe.tm s.1)/\(Sl κ (s.2.2.1++T) (.slice s.2.1.a s.1.length s.2.1.c) s.1)/\(s.1.length+s.2.2.2.2.2.length=k.S.length)) ?_ ?_
 ·refine A7 (B9 (σ:=(List Lk)×SlA×(List Item)×(Option Addr)×Nat×(List Ev)) (λs=>([(2,pt b1),(3,pt b2),(4,pt b3),(8,.slice s.2.2.2.1 s.2.2.2.2.2.length s.2.2.2.2.1),(9,pt b4)]:Env)) (λs=>vk 54 s.2.2.2.1 s.2.2.2.2.1 s.2.2.2.2.2::e8 b4 [e7 nd,.slice s.2.1.a s.1.length s.2.1.c] 35::e8 b3 zk 47::e8 b2 (ez xe) 54::e8 b1 (kx kd wd mo bd nd k v) 47::(s.2.2.1++I)) (λs=>(R6 kd wd mo xe.tm (k.S,[])=R6 kd wd mo xe.tm (s.1,s.2.2.2.2.2))/\(SlI nd kd wd k.tm s.1)/\(Sl κ (s.2.2.1++T) (.slice s.2.1.a s.1.length s.2.1.c) s.1)/\(s.1.length+s.2.2.2.2.2.length=k.S.length)) (λs=>s.1.length) (k.S,v.l,[],none,0,[]) (show (R6 kd wd mo xe.tm (k.S,[])=R6 kd wd mo xe.tm ((k.S:List Lk),([]:List Ev)))/\(SlI nd kd wd k.tm (k.S:List Lk))/\(Sl κ (([]:List Item)++T) (.slice (v.l:SlA).a (k.S:List Lk).length (v.l:SlA).c) (k.S:List Lk))/\((k.S:List Lk).length+([]:List Ev).length=k.S.length) from ⟨rfl,hK.inv,hF.l,rfl⟩) (cx2<|Aa C<|Aa (Da C<|by first|rfl|simp)<|Aa C Bb) (show Fit κ _ (vk 54 none 0 ([])::e8 b4 [e7 nd,.slice (v.l).a (k.S).length (v.l).c] 35::e8 b3 zk 47::e8 b2 (ez xe) 54::e8 b1 (kx kd wd mo bd nd k v) 47::(([])++I)) from (A9 (show Fit κ _ _ from Az)<|B6 (α:=Ev) _ _)) ?_)
  rintro ⟨M,lw,Y,oa,oc,vs⟩ hp
  dsimp only at hp ⊢
  obtain ⟨a8,hJ,a7,b6⟩:=hp
  have cb:=q9 (F6 hJ.val)
  rw [G0] at cb
  refine Z ?_
  refine G.e (Ab c_ C C<|dn6 (nd:=nd) (kd:=kd) (wd:=wd) (mo:=mo)<|Bd a7<|B4 (κ:=κ)<|by repeat (first|exact hH|exact Bh _|apply Bg|apply B2|apply Bp)) ?_
  rintro _ _ ⟨_,_,⟨ah,rfl,ay,rfl⟩,rfl,rfl⟩
  refine Z ?_
  refine A4 (d:=61) C (λbe=>Z ?_)<|λbe=>Z ?_
  ·have ak:kd=2->¬(0<M.length/\ab4 M+wd<=xe.tm):=λbm h=>by have hc:ac9 nd M kd wd mo:=⟨bb6 (λh=>h hK.win)<|λh=>h hJ.val,bm,Lm.1 h.1⟩;first|exact absurd hc be|(have hz:=bd6 (ay.yes hc);omega)
   exact Dk ((M),(lw),(Y),(oa),(oc),(vs))<|by dsimp only;exact ⟨(a8.trans<|bn6 ak),(hJ.later ht ak),a7,b6⟩
  refine Ao C (λcf=>Z ?_)<|λcf=>Z ?_
  ·have ak:kd=2->¬(0<M.length/\ab4 M+wd<=xe.tm):=λbm h=>by have hc:ac9 nd M kd wd mo:=⟨bb6 (λh=>h hK.win)<|λh=>h hJ.val,bm,Lm.1 h.1⟩;first|exact absurd hc be|(have hz:=bd6 (ay.yes hc);omega)
   exact Dk ((M),(lw),(Y),(oa),(oc),(vs))<|by dsimp only;exact ⟨(a8.trans<|bn6 ak),(hJ.later ht ak),a7,b6⟩
  have hc:ac9 nd M kd wd mo:=Fx.1 be
  have az:0<M.length:=Lm.2 hc.2.2
  have hz:ah=ab4 M+wd:=bd6 (ay.yes hc)
  have cw:=hJ.first hc.2.1 az
  have cm:∀x∈M,ah<=x.tm+wd:=λx ch=>by have h5:=(T2 az).2 x ch;omega
  have co:=af7 kd wd mo ah M
  refine Z ?_
  refine B9 (σ:=Nat×(List Lk)×SlA×(List Item)×(Option Addr)×Nat×(List Ev)) (λs=>([(2,pt b1),(3,pt b2),(4,pt b3),(8,.slice s.2.2.2.2.1 s.2.2.2.2.2.2.length s.2.2.2.2.2.1),(9,pt b4),(10,e7 ah),(13,.slice lw.a M.length lw.c),(14,e7 ((s.1:Nat):Int))]:Env)) (λs=>vk 54 s.2.2.2.2.1 s.2.2.2.2.2.1 s.2.2.2.2.2.2::e8 b4 [e7 nd,.slice s.2.2.1.a s.2.1.length s.2.2.1.c] 35::e8 b3 zk 47::e8 b2 (ez xe) 54::e8 b1 (kx kd wd mo bd nd k v) 47::(s.2.2.2.1++I)) (λs=>(s.1<=M.length)/\(s.2.1=(as3 wd ah<|M.take s.1).foldl ep M)/\(s.2.2.2.2.2.2=vs++as3 wd ah (M.take s.1))/\(p9 nd s.2.1=0)/\(Sl κ (s.2.2.2.1++T) (.slice s.2.2.1.a s.2.1.length s.2.2.1.c) s.2.1)/\(Sl κ (s.2.2.2.1++T) (.slice lw.a M.length lw.c) M)/\(s.2.2.2.2.2.2.length<=vs.length+s.1)) (λs=>M.length - s.1) (0,M,lw,Y,oa,oc,vs) (show ((0:Nat)<=M.length)/\((M:List Lk)=(as3 wd ah<|M.take (0:Nat)).foldl ep M)/\((vs:List Ev)=vs++as3 wd ah (M.take (0:Nat)))/\(p9 nd (M:List Lk)=0)/\(Sl κ ((Y:List Item)++T) (.slice (lw:SlA).a (M:List Lk).length (lw:SlA).c) (M:List Lk))/\(Sl κ ((Y:List Item)++T) (.slice lw.a M.length lw.c) M)/\((vs:List Ev).length<=vs.length+(0:Nat)) from ⟨om,rfl,(by show vs=vs++[];rw [Gv]),hJ.val,a7,a7,om⟩) (cx2<|Aa C<|Aa (Da C<|by first|rfl|simp)<|cx2<|Aa C<|Aa Cl Bb) (show Fit κ _ (vk 54 oa oc (vs)::e8 b4 [e7 nd,.slice (lw).a (M).length (lw).c] 35::e8 b3 zk 47::e8 b2 (ez xe) 54::e8 b1 (kx kd wd mo bd nd k v) 47::((Y)++I)) from Az) ?_
  rintro ⟨i,X2,ax,Y2,ba,bc,o2⟩ hp
  dsimp only at hp ⊢
  obtain ⟨hi,hX,ho,bf,bk,an,cg⟩:=hp
  have bo:=q9 (F6 bf)
  rw [G0] at bo
  refine Ax<|Al<|Gm C<|Gm C<|Gr (Bn A2 C)<|Gr (Bm C C)<|Ar<|Ao C (λca=>?_)<|λca=>Z ?_
  ·refine Bc (Ak<|Ax<|A7<|Ax<|A8 mixed<|Bv (vk 54 ba bc o2::e8 b4 [e7 nd,.slice ax.a X2.length ax.c] 35::e8 b3 zk 47::e8 b2 (ez xe) 54::e8 b1 (kx kd wd mo bd nd k v) 47::(Y2++I)) 11<|Dr 0 C (Ap C)<|Dr 1 C (Ap C) ?_)
   have cz:=bg2 hJ.val (i:Int) om om
   have cn:=as8 hK.win
   refine Dr 2 C (A1 (α:=Lk) (xs:=M) A2 J8 C C (Bd an<|B4 (κ:=κ)<|by repeat (first|exact hH|exact Bh _|apply Bg|apply B2|apply Bp)) om om)<|Dr 3 C (Fe (α:=Lk) (xs:=M) br7 C (Bd an<|B4 (κ:=κ)<|by repeat (first|exact hH|exact Bh _|apply Bg|apply B2|apply Bp)) om)<|Dr 4 C (E3 (α:=Lk) (xs:=M) (u:=e7 ((e_ M i).tm)) ef C (Bd an<|B4 (κ:=κ)<|by repeat (first|exact hH|exact Bh _|apply Bg|apply B2|apply Bp)) om om C)<|Dr 5 C (Af aw4 C)<|Dr 6 C (Af ao0 C)<|Dr 7 C (Be ef) ?_
   refine Dr 8 C (Rad C C)<|Dr 9 C (Ap C)<|Dr 10 C (C3 C C)<|Dz<|Ak<|A0 (S9 85 2 3 4 8 9 10 13 14)<|Ao C (λa9=>?_)<|λa9=>Z ?_
   ·refine A8 mixed (Bv (e8 b3 zk 47::e8 b2 (ez xe) 54::e8 b1 (kx kd wd mo bd nd k v) 47::(Y2++I)) 14<|Dr 1 C (Ap C)<|Dr 2 C (Ap C)<|Dr 3 C (Ap C)<|Dr 4 C (A1 (α:=Lk) (xs:=M) A2 J8 C C (Bd an<|B4 (κ:=κ)<|by repeat (first|exact hH|exact Bh _|apply Bg|apply B2|apply Bp)) om om)<|Dr 5 C (C7 (α:=Lk) (xs:=M) J8 C (Bd an<|B4 (κ:=κ)<|by repeat (first|exact hH|exact Bh _|apply Bg|apply B2|apply Bp)) om om)<|Dr 6 C (Ap C)<|D.two (e8 b4 [e7 nd,.slice ax.a X2.length ax.c] 35::e8 b3 zk 47::e8 b2 (ez xe) 54::e8 b1 (kx kd wd mo bd nd k v) 47::(Y2++I)) 8 Az ?_)
    refine Fh 0 C kr kr kr C kr (λ_ _ _ _ h=>h) (Aq C) C C Az (Bl (vs:=[_,_]) Q2) ?_
    refine E0 (rs:=[7]) kr C C<|Dl ?_
    refine Du C (Aq C) (Ab c_ C C<|ci7 (e_ M i) ah) ?_
    rintro _ _ ⟨_,_,⟨rfl,rfl⟩,rfl,rfl⟩
    refine ⟨Az,?_⟩
    refine D2.stop kr ?_
    refine Ds1 8<|Se C (Ab c_ C C<|Ck (J:=vk 54 ba bc o2::e8 b4 [e7 nd,.slice ax.a X2.length ax.c] 35::e8 b3 zk 47::e8 b2 (ez xe) 54::e8 b1 (kx kd wd mo bd nd k v) 47::(Y2++I)) Az<|bt5 (nd:=nd) (e:=(⟨2,ah,(e_ M i).u,(e_ M i).v,0,0,0⟩:Ev)) (Bd bk<|B4 (κ:=κ)<|by repeat (first|exact hH|exact Bh _|apply Bg|apply B2|apply Bp)) bf (dk2 hJ.val (Bo (xs:=M) (i:=(i:Int)) om om) om) om om) ?_
    rintro _ _ ⟨_,_,⟨a1,a3,b5,br,rfl,rfl⟩,rfl,rfl⟩
    refine ⟨Az,?_⟩
    refine Dr 9 C (Ap C)<|Dr 10 C (Bf C C)<|Dr 11 C (Bf C C)<|Ds1 12<|Se0 C (Co Q2)<|Z ?_
    exact Bu ((i+1),(ep X2 (⟨2,ah,(e_ M i).u,(e_ M i).v,0,0,0⟩:Ev)),((⟨a1,a3⟩:SlA)),((vk 82 a1 a3 (ep X2 (⟨2,ah,(e_ M i).u,(e_ M i).v,0,0,0⟩:Ev))::Y2)),(b5),(br),((o2++[(⟨2,ah,(e_ M i).u,(e_ M i).v,0,0,0⟩:Ev)]))) (by dsimp only;exact ⟨om,(by rw [hX];exact cu4 wd ah M M i om a9),(by rw [ho,by7 om a9,Fv];rfl),(J3 bf<|dk2 hJ.val (Bo (xs:=M) (i:=(i:Int)) om om) om),(Cy<|Gk _ A_),(show Sl κ (vk 82 a1 a3 (ep X2 (⟨2,ah,(e_ M i).u,(e_ M i).v,0,0,0⟩:Ev))::(Y2++T)) _ _ from Bd an (Ff<|De _)),(by rw [By,E_,Fy];omega)⟩) (hI:=by (try dsimp only);exact (show Fit κ _ (vk 54 b5 br (o2++[(⟨2,ah,(e_ M i).u,(e_ M i).v,0,0,0⟩:Ev)])::e8 b4 [e7 nd,.slice (⟨a1,a3⟩:SlA).a (ep X2 (⟨2,ah,(e_ M i).u,(e_ M i).v,0,0,0⟩:Ev)).length (⟨a1,a3⟩:SlA).c] 35::e8 b3 zk 47::e8 b2 (ez xe) 54::e8 b1 (kx kd wd mo bd nd k v) 47::vk 82 a1 a3 (ep X2 (⟨2,ah,(e_ M i).u,(e_ M i).v,0,0,0⟩:Ev))::(Y2++I)) from Az))
   exact Bu ((i+1),(X2),(ax),(Y2),(ba),(bc),(o2))<|by dsimp only;exact ⟨om,(by rw [co6 om a9];exact hX),(by rw [co6 om a9];exact ho),bf,bk,an,om⟩
  rw [show M.take i=M from Fz om,cu5 (mo:=mo) hc.2.1 cm] at hX ho
  have hg:=ae1 (kd:=kd) (wd:=wd) (mo:=mo) (nw:=ah) hJ.val
  rw [hg] at hX
  exact Bu ((X2),(ax),(Y2),(ba),(bc),(o2)) (by dsimp only;exact ⟨(by rw [hX,ho];exact a8.trans<|cv7 hc.2.1 ⟨az,by omega⟩ hz),(by rw [hX];exact hJ.filter _),bk,(by rw [hX,ho,By];omega)⟩) (hlt:=by (try dsimp only);exact (by rw [hX];exact dn3 hc.2.1 az hz))
 rintro ⟨X1,a0,Y1,bi,bn,o1⟩ hp
 obtain ⟨bp,aw,cd,cy⟩:(R6 kd wd mo xe.tm (k.S,[])=(X1,o1))/\(SlI nd kd wd xe.tm X1)/\(Sl κ (Y1++T) (.slice a0.a X1.length a0.c) X1)/\(X1.length+o1.length=k.S.length):=hp
 show W Tryz.prog κ 142 _ _ ([(2,pt b1),(3,pt b2),(4,pt b3),(8,.slice bi o1.length bn),(9,pt b4)]:Env) (vk 54 bi bn o1::e8 b4 [e7 nd,.slice a0.a X1.length a0.c] 35::e8 b3 zk 47::e8 b2 (ez xe) 54::e8 b1 (kx kd wd mo bd nd k v) 47::(Y1++I))
 have ck:=q9 (F6 aw.val)
 rw [G0] at ck
 have cp:=ah6 X1 xe
 refine Z ?_
 refine G.e (Ab c_ C C<|Ck (J:=vk 54 bi bn o1::e8 b4 [e7 nd,.slice a0.a X1.length a0.c] 35::e8 b3 zk 47::e8 b2 (ez xe) 54::e8 b1 (kx kd wd mo bd nd k v) 47::(Y1++I)) Az<|bt5 (nd:=nd) (e:=xe) (Bd cd<|B4 (κ:=κ)<|by repeat (first|exact hH|exact Bh _|apply Bg|apply B2|apply Bp)) aw.val hx om om) ?_
 rintro _ _ ⟨_,_,⟨ae,ad,aq,ar,rfl,rfl⟩,rfl,rfl⟩
 refine Z ?_
 refine Ge0 (Co Q2) ?_
 refine Ga C<|Ar<|Fj (σ:=(List Lk)×SlA×(List Item)×(Option Addr)×Nat×(List Ev)) (λs=>([(2,pt b1),(3,pt b2),(4,pt b3),(8,.slice s.2.2.2.1 s.2.2.2.2.2.length s.2.2.2.2.1),(9,pt b4)]:Env)) (λs=>vk 54 s.2.2.2.1 s.2.2.2.2.1 s.2.2.2.2.2::e8 b4 [e7 nd,.slice s.2.1.a s.1.length s.2.1.c] 35::e8 b3 zk 47::e8 b2 (ez xe) 54::e8 b1 (kx kd wd mo bd nd k v) 47::(s.2.2.1++I)) (λs=>(p6 kd wd mo (k.S,[]) xe=(s.1,s.2.2.2.2.2))/\(p9 nd s.1=0)/\(Sl κ (s.2.2.1++T) (.slice s.2.1.a s.1.length s.2.1.c) s.1)) ?_ ?_
 ·refine Z ?_
  refine Z ?_
  refine A0 (S6 108 8 2 3 4 9)<|Ao C (λa5=>?_)<|λa5=>Z ?_
  ·refine Al (Gl2 Q2 ?_)
   refine Gf aw4 C<|Gl3 da0 ?_
   refine Gf H8 C<|Gl ef ?_
   refine G.e (Ab c_ C C<|ci4 (nd:=nd) (kd:=kd) (wd:=wd) (mo:=mo) (nw:=xe.tm) (xs:=ep X1 xe) A5 om) ?_
   rintro _ _ ⟨_,_,(⟨a4,rfl,rfl⟩|⟨ai,aj,b8,rfl,rfl⟩),rfl,rfl⟩
   ·exact absurd (SlI.ask (aw.step hx rfl<|cv0 hK.win) hK.win hx.tm<|Hp _) a4
   show G Tryz.prog κ _ _ _ _ ([(115,.tuple #[.slice ai (s6 kd wd mo xe.tm<|ep X1 xe).length aj,e7 0]),(114,e7<|xe.tm),(113,.pointer<|some ⟨b2,1,none⟩),(112,.agg #[e7 kd,e7 wd,e7 mo]),(111,pt b1),(110,.agg #[e7 nd,.slice ae (ep X1 xe).length ad]),(108,.bool<|decide<|kd=3),(8,.slice aq (o1++[xe]).length ar),(2,pt b1),(3,pt b2),(4,pt b3),(9,pt b4)]:Env) (vk 54 ai aj (s6 kd wd mo xe.tm<|ep X1 xe)::vk 82 ae ad (ep X1 xe)::vk 54 aq ar (o1++[xe])::e8 b4 [e7 nd,.slice ae (ep X1 xe).length ad] 35::e8 b3 zk 47::e8 b2 (ez xe) 54::e8 b1 (kx kd wd mo bd nd k v) 47::(Y1++I))
   refine Z ?_
   refine B9 (σ:=Nat×(List Lk)×SlA×(List Item)×(Option Addr)×Nat×(List Ev)) (λs=>([(2,pt b1),(3,pt b2),(4,pt b3),(8,.slice s.2.2.2.2.1 s.2.2.2.2.2.2.length s.2.2.2.2.2.1),(9,pt b4),(15,.slice ai (s6 kd wd mo xe.tm<|ep X1 xe).length aj),(17,e7 ((s.1:Nat):Int))]:Env)) (λs=>vk 54 s.2.2.2.2.1 s.2.2.2.2.2.1 s.2.2.2.2.2.2::vk 54 ai aj (s6 kd wd mo xe.tm<|ep X1 xe)::e8 b4 [e7 nd,.slice s.2.2.1.a s.2.1.length s.2.2.1.c] 35::e8 b3 zk 47::e8 b2 (ez xe) 54::e8 b1 (kx kd wd mo bd nd k v) 47::(s.2.2.2.1++I)) (λs=>(s.1<=(s6 kd wd mo xe.tm<|ep X1 xe).length)/\(s.2.1=((s6 kd wd mo xe.tm<|ep X1 xe).take s.1).foldl ep (ep X1 xe))/\(s.2.2.2.2.2.2=o1++[xe]++(s6 kd wd mo xe.tm<|ep X1 xe).take s.1)/\(p9 nd s.2.1=0)/\(Sl κ (s.2.2.2.1++T) (.slice s.2.2.1.a s.2.1.length s.2.2.1.c) s.2.1)) (λs=>(s6 kd wd mo xe.tm<|ep X1 xe).length - s.1) (0,(ep X1 xe),(⟨ae,ad⟩:SlA),(vk 82 ae ad (ep X1 xe)::Y1),aq,ar,(o1++[xe])) (show ((0:Nat)<=(s6 kd wd mo xe.tm<|ep X1 xe).length)/\(((ep X1 xe):List Lk)=((s6 kd wd mo xe.tm<|ep X1 xe).take (0:Nat)).foldl ep (ep X1 xe))/\(((o1++[xe]):List Ev)=o1++[xe]++(s6 kd wd mo xe.tm<|ep X1 xe).take (0:Nat))/\(p9 nd ((ep X1 xe):List Lk)=0)/\(Sl κ (((vk 82 ae ad (ep X1 xe)::Y1):List Item)++T) (.slice ((⟨ae,ad⟩:SlA):SlA).a ((ep X1 xe):List Lk).length ((⟨ae,ad⟩:SlA):SlA).c) ((ep X1 xe):List Lk)) from ⟨om,rfl,(by show _=_++[];rw [Gv]),(J3 aw.val hx),(Cy<|Gk _ A_)⟩) (cx2<|Aa C<|Aa (Da C<|by first|rfl|simp)<|cx2<|Aa Cl Bb) (show Fit κ _ (vk 54 aq ar ((o1++[xe]))::vk 54 ai aj (s6 kd wd mo xe.tm<|ep X1 xe)::e8 b4 [e7 nd,.slice ((⟨ae,ad⟩:SlA)).a ((ep X1 xe)).length ((⟨ae,ad⟩:SlA)).c] 35::e8 b3 zk 47::e8 b2 (ez xe) 54::e8 b1 (kx kd wd mo bd nd k v) 47::(((vk 82 ae ad (ep X1 xe)::Y1))++I)) from Az) ?_
   rintro ⟨i,X3,a6,Y3,bu,b7,o3⟩ hp
   dsimp only at hp ⊢
   obtain ⟨hi,hX,ho,bb,bw⟩:=hp
   have bo:=q9 (F6 bb)
   rw [G0] at bo
   have ct:=af7 kd wd mo xe.tm (ep X1 xe)
   have cg:o3.length=o1.length+1+i:=by rw [ho];simp only [By,E_,Fy,Ft];omega
   refine Z ?_
   refine Ao C (λbq=>Z ?_)<|λbq=>Z ?_
   ·refine A8 mixed (Bv (vk 54 ai aj (s6 kd wd mo xe.tm<|ep X1 xe)::e8 b3 zk 47::e8 b2 (ez xe) 54::e8 b1 (kx kd wd mo bd nd k v) 47::(Y3++I)) 12<|Dr 1 C (Ap C)<|Z ?_)
    refine D.two (vk 54 ai aj (s6 kd wd mo xe.tm<|ep X1 xe)::e8 b4 [e7 nd,.slice a6.a X3.length a6.c] 35::e8 b3 zk 47::e8 b2 (ez xe) 54::e8 b1 (kx kd wd mo bd nd k v) 47::(Y3++I)) 6 Az ?_
    refine Fh 0 C kr kr kr C kr (λ_ _ _ _ h=>h) (Aq C) C C Az (Bl (vs:=[_,_]) Q2) ?_
    refine D2.stop kr ?_
    refine Ds1 6<|Se C (Ab c_ C C<|Ck (J:=vk 54 bu b7 o3::vk 54 ai aj (s6 kd wd mo xe.tm<|ep X1 xe)::e8 b4 [e7 nd,.slice a6.a X3.length a6.c] 35::e8 b3 zk 47::e8 b2 (ez xe) 54::e8 b1 (kx kd wd mo bd nd k v) 47::(Y3++I)) Az<|bt5 (nd:=nd) (e:=(e_ (s6 kd wd mo xe.tm<|ep X1 xe) (i:Int))) (Bd bw<|B4 (κ:=κ)<|by repeat (first|exact hH|exact Bh _|apply Bg|apply B2|apply Bp)) bb (ak7 (J3 aw.val hx) hx.tm _<|Bo om om) om om) ?_
    rintro _ _ ⟨_,_,⟨av,au,bg,bh,rfl,rfl⟩,rfl,rfl⟩
    refine ⟨Az,?_⟩
    refine Z ?_
    refine Ds1 10<|Se0 C (Co Q2)<|Z ?_
    exact Bu ((i+1),(ep X3<|e_ (s6 kd wd mo xe.tm<|ep X1 xe) (i:Int)),((⟨av,au⟩:SlA)),((vk 82 av au (ep X3<|e_ (s6 kd wd mo xe.tm<|ep X1 xe) (i:Int))::Y3)),(bg),(bh),((o3++[(e_ (s6 kd wd mo xe.tm<|ep X1 xe) (i:Int))]))) (by dsimp only;exact ⟨om,(by rw [Ca (s6 kd wd mo xe.tm<|ep X1 xe) i om,Hf,←hX];rfl),(by rw [Ca (s6 kd wd mo xe.tm<|ep X1 xe) i om,ho];simp only [Fv]),(J3 bb<|ak7 (J3 aw.val hx) hx.tm _<|Bo om om),(Cy<|Gk _ A_)⟩) (hI:=by (try dsimp only);exact (show Fit κ _ (vk 54 bg bh (o3++[(e_ (s6 kd wd mo xe.tm<|ep X1 xe) (i:Int))])::vk 54 ai aj (s6 kd wd mo xe.tm<|ep X1 xe)::e8 b4 [e7 nd,.slice (⟨av,au⟩:SlA).a (ep X3<|e_ (s6 kd wd mo xe.tm<|ep X1 xe) (i:Int)).length (⟨av,au⟩:SlA).c] 35::e8 b3 zk 47::e8 b2 (ez xe) 54::e8 b1 (kx kd wd mo bd nd k v) 47::vk 82 av au (ep X3<|e_ (s6 kd wd mo xe.tm<|ep X1 xe) (i:Int))::(Y3++I)) from Az))
   rw [show (s6 kd wd mo xe.tm<|ep X1 xe).take i=(s6 kd wd mo xe.tm<|ep X1 xe) from Fz om] at hX ho
   exact Dk ((X3),(a6),(Y3),(bu),(b7),(o3))<|by dsimp only;exact ⟨(by rw [hX,ho];exact bw0 (nd:=nd) bp a5<|J3 aw.val hx),bb,bw⟩
  exact Dk (((ep X1 xe)),((⟨ae,ad⟩:SlA)),((vk 82 ae ad (ep X1 xe)::Y1)),(aq),(ar),((o1++[xe]))) (by dsimp only;exact ⟨(step_end bp a5),(J3 aw.val hx),(Cy<|Gk _ A_)⟩) (hI:=by (try dsimp only);exact (show Fit κ _ (vk 54 aq ar (o1++[xe])::e8 b4 [e7 nd,.slice (⟨ae,ad⟩:SlA).a (ep X1 xe).length (⟨ae,ad⟩:SlA).c] 35::e8 b3 zk 47::e8 b2 (ez xe) 54::e8 b1 (kx kd wd mo bd nd k v) 47::vk 82 ae ad (ep X1 xe)::(Y1++I)) from Az))
 rintro ⟨X4,ab,Y4,ap,ao,o4⟩ hp
 obtain ⟨hE,ci,bt⟩:(p6 kd wd mo (k.S,[]) xe=(X4,o4))/\(p9 nd X4=0)/\(Sl κ (Y4++T) (.slice ab.a X4.length ab.c) X4):=hp
 show W Tryz.prog κ 142 _ _ ([(2,pt b1),(3,pt b2),(4,pt b3),(8,.slice ap o4.length ao),(9,pt b4)]:Env) (vk 54 ap ao o4::e8 b4 [e7 nd,.slice ab.a X4.length ab.c] 35::e8 b3 zk 47::e8 b2 (ez xe) 54::e8 b1 (kx kd wd mo bd nd k v) 47::(Y4++I))
 refine Ax<|A8 mixed<|Bv (vk 54 ap ao o4::e8 b4 [e7 nd,.slice ab.a X4.length ab.c] 35::e8 b3 zk 47::e8 b2 (ez xe) 54::(Y4++I)) 7<|Z ?_
 refine Ds1 4<|Se0 C (Bt (cs:=[_,_,_,_,_,_,_,_,_,_,_,_,_,_,_,_,_,_,_,_,_,_,_,_,_]) (vs:=[_,_]) (cs':=[_,_,_,_,_,_,_,_,_,_,_,_,_,_,_,_,_,_,_,_,_,_,_,_,_]) Q2)<|Z ?_
 refine Ds1 6<|Se0 C (Bt (cs:=[_,_,_,_,_,_,_,_,_,_,_,_,_,_,_,_,_,_,_,_,_,_,_,_,_]) (vs:=[_]) (cs':=[_,_,_,_,_,_,_,_,_,_,_,_,_,_,_,_,_,_,_,_,_,_,_,_,_]) ef)<|Z ?_
 refine G.e (Ab c_ C C<|ax2 (nd:=nd) (S:=X4) (Bd bt<|B4 (κ:=κ)<|by repeat (first|exact hH|exact Bh _|apply Bg|apply B2|apply Bp)) ci om) ?_
 rintro _ _ ⟨_,_,⟨aa,Y21,rfl,bj,rfl⟩,rfl,rfl⟩
 refine Dp (J:=vk 54 ap ao o4::e8 b4 [e7 nd,.slice ab.a X4.length ab.c] 35::e8 b3 zk 47::e8 b2 (ez xe) 54::e8 b1 (ky kd wd mo bd k.b.lt k.b.mr v.w.a k.b.ws.length v.w.c nd ab.a X4.length ab.c (j6 k.S) v.p xe.tm) 47::(Y21++(Y4++I))) (Cj<|Cz (A:=Y21) (L:=[vk 54 ap ao o4,e8 b4 [e7 nd,.slice ab.a X4.length ab.c] 35,e8 b3 zk 47,e8 b2 (ez xe) 54,e8 b1 (ky kd wd mo bd k.b.lt k.b.mr v.w.a k.b.ws.length v.w.c nd ab.a X4.length ab.c (j6 k.S) v.p xe.tm) 47]) (T:=(Y4++I))) ?_
 show G Tryz.prog κ _ _ _ _ ([(140,.agg (ky kd wd mo bd k.b.lt k.b.mr v.w.a k.b.ws.length v.w.c nd ab.a X4.length ab.c (j6 X4) aa xe.tm).toArray),(139,.agg (ky kd wd mo bd k.b.lt k.b.mr v.w.a k.b.ws.length v.w.c nd ab.a X4.length ab.c (j6 k.S) v.p xe.tm).toArray),(138,.pointer<|some ⟨b1,24,none⟩),(137,.pointer<|some ⟨b1,7,none⟩),(136,e7<|xe.tm),(135,.pointer<|some ⟨b2,1,none⟩),(134,.agg #[e7 nd,.slice ab.a X4.length ab.c]),(2,pt b1),(3,pt b2),(4,pt b3),(8,.slice ap o4.length ao),(9,pt b4)]:Env) (vk 54 ap ao o4::e8 b4 [e7 nd,.slice ab.a X4.length ab.c] 35::e8 b3 zk 47::e8 b2 (ez xe) 54::e8 b1 (ky kd wd mo bd k.b.lt k.b.mr v.w.a k.b.ws.length v.w.c nd ab.a X4.length ab.c (j6 k.S) v.p xe.tm) 47::(Y21++(Y4++I)))
 refine Gm C<|Ge0 (Eff.sq H2)<|Z ?_
 rw [hE]
 exact Cs C H2 C C C mm C (((vk 54 ap ao o4::(Y21++Y4))++I)) tb2 ⟨(⟨v.w,ab,aa⟩:KpV),(vk 54 ap ao o4::(Y21++Y4)),ap,ao,rfl,(by simp only [Jf,Fv];exact ⟨Bd hF.w Ah,Bd bt Ah,PkR.fit bj<|C4<|by repeat (first|exact Hs _ _|apply List.Sublist.cons)⟩),Cy<|Gk _ A_,rfl⟩
end Go.Sl
