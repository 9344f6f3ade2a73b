/- A part of the proofs of statements of this seat: contracts of functions, and the plain laws that they lean on. No conditions. -/
import Derived.Test.YtoagcglbkeomgaaGreatDoorE29
set_option linter.unusedVariables false
set_option linter.unusedSimpArgs false
set_option linter.unusedSectionVars false
namespace Go.Sl
open Go.Proofs
set_option maxRecDepth 4000
attribute [local irreducible] W G V D A j7 Eff
theorem bt6{κ:Ctx}{I:List Item}{nd:Int}{e:Ev}{la oa:Option Addr}{lc oc:Nat}{xs:List Lk}{o:List Ev}(hl:Sl κ I (.slice la xs.length lc) xs)(ao:p9 nd xs=0)(an:J1 nd e)(ar:xs.length<=1000000)(ho:o.length<=10000000):eu Tryz.prog κ 169 [.agg #[e7 nd,.slice la xs.length lc],.slice oa o.length oc,.agg (ez e).toArray] (vk 54 oa oc o::I) (λr J=>∃(a:Option Addr) (c:Nat) (a2:Option Addr) (c2:Nat),r = .tuple #[.agg #[e7 nd,.slice a (ep xs e).length c],.slice a2 (o++[e]).length c2]/\J=vk 82 a c (ep xs e)::vk 54 a2 c2 (o++[e])::I):=by
 refine Ce3 Tryz.func169 C C ?_
 refine Am<|Ge1 (Au (cs:=[_,_]) C C C) λb1=>Ge1 (Au (cs:=[_,_,_,_,_,_,_]) C C C) λb2=>Ge1 (Aj W2 C) λb3=>Z ?_
 refine G.e (Ac c_ C C<|dr7 (nd:=nd) (e:=e) (A4 hl) ao an ar) ?_
 rintro _ _ ⟨_,_,⟨⟨M,aa,au,ap,aq⟩,⟨rfl,aj⟩,rfl⟩,rfl,rfl⟩
 show G Tryz.prog κ _ _ _ _ ([(11,.tuple #[.agg #[e7 nd,.slice M (ep xs e).length aa],.slice au ap aq,e7 0]),(10,.agg (ez e).toArray),(9,.agg #[e7 nd,.slice la xs.length lc]),(7,.slice none 0 0),(6,pt b3),(5,pt b2),(3,pt b1),(0,.agg #[e7 nd,.slice la xs.length lc]),(1,.slice oa o.length oc),(2,.agg (ez e).toArray)]:Env) (vk 82 M aa (ep xs e)::e8 b3 [e7 0,.slice none 0 0] 35::e8 b2 (ez e) 54::e8 b1 [e7 nd,.slice la xs.length lc] 35::vk 54 oa oc o::I)
 have aj:ap<=2*xs.length+1:=aj
 refine Z ?_
 refine Ge0 (Cr W2)<|Z ?_
 refine A9 mixed<|Bx (vk 82 M aa (ep xs e)::e8 b3 [e7 0,.slice none 0 0] 35::e8 b2 (ez e) 54::e8 b1 [e7 nd,.slice M (ep xs e).length aa] 35::I) 5<|Z ?_
 refine C8 (rs:=[1,2]) kr C C<|Ei ?_<|Do ?_
 ·refine Sr C (Aq C) Az ?_
  refine Ds1 2<|Sr C (Bm (vs:=[_,_,_,_,_,_,_]) z6) Az ?_
  refine Ds1 3<|Se1 C (B0 (α:=Ev) (cs:=(ez e)) (xs:=[⟨e.kd,e.tm,e.u,e.v,e.w,e.lb,e.sg⟩]) Ad z6 C C dc dc C kr C C) λax=>?_
  refine Ds1 4<|Se2 C (Bp (α:=Ev) (e:=54) (xs:=o) (ys:=([⟨e.kd,e.tm,e.u,e.v,e.w,e.lb,e.sg⟩]:List Ev)) Ad z6 C C C mm A5 lcn dc C<|λ_ _=>am) λad ae=>?_
  refine Cg kr ?_
  refine Ae 5 C (Cr W2) ?_
  rintro _ _ ⟨rfl,rfl⟩
  refine Dg (i:=6) kr C (Ap C) C C (Be C) ?_
  refine Ch kr ?_
  exact Ao<|B2<|Co C W2 C C mm C (vk 82 M aa (ep xs e)::vk 54 ad ae (o++[e])::I) Az ⟨M,aa,ad,ae,rfl,rfl⟩
 refine Sr C (Bm (vs:=[_,_,_,_,_,_,_]) z6) Az ?_
 refine C8 (rs:=[1,3]) kr C C<|Ei ?_<|Do ?_
 ·refine Sr C (Aq C) Az ?_
  refine Ds1 3<|Se1 C (B0 (α:=Ev) (cs:=(ez e)) (xs:=[⟨e.kd,e.tm,e.u,e.v,e.w,e.lb,e.sg⟩]) Ad z6 C C dc dc C kr C C) λav=>?_
  refine Ds1 4<|Se2 C (Bp (α:=Ev) (e:=54) (xs:=o) (ys:=([⟨e.kd,e.tm,e.u,e.v,e.w,e.lb,e.sg⟩]:List Ev)) Ad z6 C C C mm A5 lcn dc C<|λ_ _=>am) λah ak=>?_
  refine Cg kr ?_
  refine Ae 5 C (Cr W2) ?_
  rintro _ _ ⟨rfl,rfl⟩
  refine Dg (i:=6) kr C (Ap C) C C (Be C) ?_
  refine Ch kr ?_
  exact Ao<|B2<|Co C W2 C C mm C (vk 82 M aa (ep xs e)::vk 54 ah ak (o++[e])::I) Az ⟨M,aa,ah,ak,rfl,rfl⟩
 refine Se1 C (B0 (α:=Ev) (cs:=(ez e)) (xs:=[⟨e.kd,e.tm,e.u,e.v,e.w,e.lb,e.sg⟩]) Ad z6 C C dc dc C kr C C) λaw=>?_
 refine Ds1 1<|Sr C (Aq C) Az ?_
 refine Ds1 4<|Se2 C (Bp (α:=Ev) (e:=54) (xs:=o) (ys:=([⟨e.kd,e.tm,e.u,e.v,e.w,e.lb,e.sg⟩]:List Ev)) Ad z6 C C C mm A5 lcn dc C<|λ_ _=>am) λai ab=>?_
 refine Cg kr ?_
 refine Ae 5 C (Cr W2) ?_
 rintro _ _ ⟨rfl,rfl⟩
 refine Dg (i:=6) kr C (Ap C) C C (Be C) ?_
 refine Ch kr ?_
 exact Ao<|B2<|Co C W2 C C mm C (vk 82 M aa (ep xs e)::vk 54 ai ab (o++[e])::I) Az ⟨M,aa,ai,ab,rfl,rfl⟩
end Go.Sl
namespace Go.Sl
open Go.Proofs
set_option maxRecDepth 4000
variable{t wd:Int}{l:List Lk}{k:Nat}
def as5(wd t:Int)(l:List Lk):List Ev:=(l.filter λx=>decide (x.tm+wd=t)).map (L9 t)
theorem by9(h:k<l.length)(M:(e_ l k).tm+wd=t):as5 wd t (l.take (k+1))=as5 wd t (l.take k)++[L9 t (e_ l k)]:=by
 unfold as5
 rw [Ca l k h,Gs,Ht]
 congr 1
 simp [M]
theorem co8(h:k<l.length)(M:¬(e_ l k).tm+wd=t):as5 wd t (l.take (k+1))=as5 wd t (l.take k):=by
 unfold as5
 rw [Ca l k h,Gs,Ht]
 simp [M]
theorem cu7{kd mo:Int}(hk:kd=2)(hm:∀x∈l,t<=x.tm+wd):as5 wd t l=s6 kd wd mo t l:=by
 unfold as5 s6
 congr 1
 refine Hy λx M=>?_
 have:=hm x M
 unfold inW
 rw [B_ hk]
 rw [Kb]
 simp only [Gp,Kj,Ln]
 omega
theorem cu6(wd t:Int)(l M:List Lk)(k:Nat)(h:k<l.length)(ht:(e_ l k).tm+wd=t):ep ((as5 wd t (l.take k)).foldl ep M) (L9 t (e_ l k))=(as5 wd t (l.take (k+1))).foldl ep M:=by
 rw [by9 h ht,Hf];rfl
theorem dk4{nd:Int}{x:Lk}(h:p9 nd l=0)(hx:x∈l)(ht:0<=t/\t<=1048576):J1 nd (L9 t x):=by
 have h1:=bj6 h x hx
 have h2:=(Q2 h).1
 exact ⟨by show (1:Int)<=2/\(2:Int)<=3;omega,ht,⟨by show 0<=x.u/\x.u<64;omega,λM=>absurd M (by show ¬(2:Int)=3;decide),λ_=>by show (0<=x.v/\x.v<64)/\x.u≠x.v;omega⟩,
  λM=>absurd M (by show ¬(2:Int)=1;decide),by show x.u<nd/\x.v<nd;omega,λ_=>⟨rfl,rfl,rfl⟩⟩
end Go.Sl
namespace Go.Sl
open Go.Proofs
set_option maxRecDepth 4000
attribute [local irreducible] W G V D A j7 Eff
set_option maxHeartbeats 4000000 in
theorem bo0{κ:Ctx}{I:List Item}{nd kd wd mo bd:Int}{k:EnS}{v:KpV}{T:List Item}(hH:Has I T)(hF:KpF κ T nd k v)(hK:EnV nd kd wd mo bd k)(c0:k.b.ws.length<=4000)(h1:1<=nd){xe:Ev}(hx:J1 nd xe)(ht:k.tm<=xe.tm):eu Tryz.prog κ 149 [.agg (kx kd wd mo bd nd k v).toArray,.agg (ez xe).toArray] I (λr J=>∃(v':KpV) (Y:List Item) (a:Option Addr) (c:Nat),r = .tuple #[.agg (kx kd wd mo bd nd ((⟨k.b,(q7 kd wd mo (k.S,[]) xe).1,xe.tm⟩:EnS)) v').toArray,.slice a ((q7 kd wd mo (k.S,[]) xe).2).length c,e7 0]/\KpF κ (Y++T) nd (⟨k.b,(q7 kd wd mo (k.S,[]) xe).1,xe.tm⟩:EnS) v'/\Sl κ (Y++T) (.slice a ((q7 kd wd mo (k.S,[]) xe).2).length c) (q7 kd wd mo (k.S,[]) xe).2/\J=Y++I):=by
 have cp:=hx.tm
 have cw:=hx.fits
 have cy:=hK.tm
 have cj:=q9 (G2 hK.inv.val)
 rw [G7] at cj
 refine Ce2 Tryz.func149 C C ?_
 refine Am<|Ge1 (Au (cs:=[_,_,_,_,_,_,_,_,_,_,_,_,_,_,_,_,_,_,_,_,_,_,_,_,_]) C C C) λb1=>Ge1 (Au (cs:=[_,_,_,_,_,_,_]) C C C) λb2=>Ge1 (Aj H3 C) λb3=>Z ?_
 refine Gc0 (Ac c_ C C<|bg8 (k:=k) (v:=v) (KpF.fit hF<|B3 (κ:=κ)<|by repeat (first|exact hH|exact Bh _|apply Bg|apply B1|apply Bo)) hK om om)<|Z ?_
 refine Gc0 (Ac c_ C C<|Z6 xe)<|Z ?_
 refine Al C (λb5=>?_)<|λb5=>Z ?_
 ·exact absurd hx.chk b5
 refine A1 (d:=34) C (λch=>?_)<|λch=>Z ?_
 ·omega
 refine Al C (λcm=>?_)<|λcm=>Z ?_
 ·omega
 refine Al C (λck=>?_)<|λck=>Z ?_
 ·omega
 refine Ge1 (Aj W2 C) λb4=>Ge0 (Cr W2) ?_
 refine Ar<|Fe (σ:=(List Lk)×SlA×(List Item)×(Option Addr)×Nat×(List Ev)) (λs=>([(2,pt b1),(3,pt b2),(4,pt b3),(8,.slice s.2.2.2.1 s.2.2.2.2.2.length s.2.2.2.2.1),(9,pt b4)]:Env)) (λs=>vk 54 s.2.2.2.1 s.2.2.2.2.1 s.2.2.2.2.2::e8 b4 [e7 nd,.slice s.2.1.a s.1.length s.2.1.c] 35::e8 b3 zk 47::e8 b2 (ez xe) 54::e8 b1 (kx kd wd mo bd nd k v) 47::(s.2.2.1++I)) (λs=>(R5 kd wd mo xe.tm (k.S,[])=(s.1,s.2.2.2.2.2))/\(SlI nd kd wd xe.tm s.1)/\(Sl κ (s.2.2.1++T) (.slice s.2.1.a s.1.length s.2.1.c) s.1)/\(s.1.length+s.2.2.2.2.2.length=k.S.length)) ?_ ?_
 ·refine A8 (B9 (σ:=(List Lk)×SlA×(List Item)×(Option Addr)×Nat×(List Ev)) (λs=>([(2,pt b1),(3,pt b2),(4,pt b3),(8,.slice s.2.2.2.1 s.2.2.2.2.2.length s.2.2.2.2.1),(9,pt b4)]:Env)) (λs=>vk 54 s.2.2.2.1 s.2.2.2.2.1 s.2.2.2.2.2::e8 b4 [e7 nd,.slice s.2.1.a s.1.length s.2.1.c] 35::e8 b3 zk 47::e8 b2 (ez xe) 54::e8 b1 (kx kd wd mo bd nd k v) 47::(s.2.2.1++I)) (λs=>(R5 kd wd mo xe.tm (k.S,[])=R5 kd wd mo xe.tm (s.1,s.2.2.2.2.2))/\(SlI nd kd wd k.tm s.1)/\(Sl κ (s.2.2.1++T) (.slice s.2.1.a s.1.length s.2.1.c) s.1)/\(s.1.length+s.2.2.2.2.2.length=k.S.length)) (λs=>s.1.length) (k.S,v.l,[],none,0,[]) (show (R5 kd wd mo xe.tm (k.S,[])=R5 kd wd mo xe.tm ((k.S:List Lk),([]:List Ev)))/\(SlI nd kd wd k.tm (k.S:List Lk))/\(Sl κ (([]:List Item)++T) (.slice (v.l:SlA).a (k.S:List Lk).length (v.l:SlA).c) (k.S:List Lk))/\((k.S:List Lk).length+([]:List Ev).length=k.S.length) from ⟨rfl,hK.inv,hF.l,rfl⟩) (cx2<|Aa C<|Aa (Db C<|by first|rfl|simp)<|Aa C Bb) (show Fit κ _ (vk 54 none 0 ([])::e8 b4 [e7 nd,.slice (v.l).a (k.S).length (v.l).c] 35::e8 b3 zk 47::e8 b2 (ez xe) 54::e8 b1 (kx kd wd mo bd nd k v) 47::(([])++I)) from (A7 (show Fit κ _ _ from Az)<|B6 (α:=Ev) _ _)) ?_)
  rintro ⟨M,lw,Y,oa,oc,vs⟩ hp
  dsimp only at hp ⊢
  obtain ⟨a7,hJ,a6,b6⟩:=hp
  have b9:=q9 (G2 hJ.val)
  rw [G7] at b9
  refine Z ?_
  refine G.e (Ac c_ C C<|dn9 (nd:=nd) (kd:=kd) (wd:=wd) (mo:=mo)<|Bd a6<|B3 (κ:=κ)<|by repeat (first|exact hH|exact Bh _|apply Bg|apply B1|apply Bo)) ?_
  rintro _ _ ⟨_,_,⟨ah,rfl,ay,rfl⟩,rfl,rfl⟩
  refine Z ?_
  refine A1 (d:=61) C (λbf=>Z ?_)<|λbf=>Z ?_
  ·have ak:kd=2->¬(0<M.length/\ab4 M+wd<=xe.tm):=λbi h=>by have hc:ac9 nd M kd wd mo:=⟨bb5 (λh=>h hK.win)<|λh=>h hJ.val,bi,Lj.1 h.1⟩;first|exact absurd hc bf|(have hz:=bd3 (ay.yes hc);omega)
   exact Di ((M),(lw),(Y),(oa),(oc),(vs))<|by dsimp only;exact ⟨(a7.trans<|bn4 ak),(hJ.later ht ak),a6,b6⟩
  refine Al C (λcb=>Z ?_)<|λcb=>Z ?_
  ·have ak:kd=2->¬(0<M.length/\ab4 M+wd<=xe.tm):=λbi h=>by have hc:ac9 nd M kd wd mo:=⟨bb5 (λh=>h hK.win)<|λh=>h hJ.val,bi,Lj.1 h.1⟩;first|exact absurd hc bf|(have hz:=bd3 (ay.yes hc);omega)
   exact Di ((M),(lw),(Y),(oa),(oc),(vs))<|by dsimp only;exact ⟨(a7.trans<|bn4 ak),(hJ.later ht ak),a6,b6⟩
  have hc:ac9 nd M kd wd mo:=Fv.1 bf
  have az:0<M.length:=Lj.2 hc.2.2
  have hz:ah=ab4 M+wd:=bd3 (ay.yes hc)
  have cq:=hJ.first hc.2.1 az
  have cd:∀x∈M,ah<=x.tm+wd:=λx cg=>by have h5:=(T1 az).2 x cg;omega
  have co:=af8 kd wd mo ah M
  refine Z ?_
  refine B9 (σ:=Nat×(List Lk)×SlA×(List Item)×(Option Addr)×Nat×(List Ev)) (λs=>([(2,pt b1),(3,pt b2),(4,pt b3),(8,.slice s.2.2.2.2.1 s.2.2.2.2.2.2.length s.2.2.2.2.2.1),(9,pt b4),(10,e7 ah),(13,.slice lw.a M.length lw.c),(14,e7 ((s.1:Nat):Int))]:Env)) (λs=>vk 54 s.2.2.2.2.1 s.2.2.2.2.2.1 s.2.2.2.2.2.2::e8 b4 [e7 nd,.slice s.2.2.1.a s.2.1.length s.2.2.1.c] 35::e8 b3 zk 47::e8 b2 (ez xe) 54::e8 b1 (kx kd wd mo bd nd k v) 47::(s.2.2.2.1++I)) (λs=>(s.1<=M.length)/\(s.2.1=(as5 wd ah<|M.take s.1).foldl ep M)/\(s.2.2.2.2.2.2=vs++as5 wd ah (M.take s.1))/\(p9 nd s.2.1=0)/\(Sl κ (s.2.2.2.1++T) (.slice s.2.2.1.a s.2.1.length s.2.2.1.c) s.2.1)/\(Sl κ (s.2.2.2.1++T) (.slice lw.a M.length lw.c) M)/\(s.2.2.2.2.2.2.length<=vs.length+s.1)) (λs=>M.length - s.1) (0,M,lw,Y,oa,oc,vs) (show ((0:Nat)<=M.length)/\((M:List Lk)=(as5 wd ah<|M.take (0:Nat)).foldl ep M)/\((vs:List Ev)=vs++as5 wd ah (M.take (0:Nat)))/\(p9 nd (M:List Lk)=0)/\(Sl κ ((Y:List Item)++T) (.slice (lw:SlA).a (M:List Lk).length (lw:SlA).c) (M:List Lk))/\(Sl κ ((Y:List Item)++T) (.slice lw.a M.length lw.c) M)/\((vs:List Ev).length<=vs.length+(0:Nat)) from ⟨om,rfl,(by show vs=vs++[];rw [Gt]),hJ.val,a6,a6,om⟩) (cx2<|Aa C<|Aa (Db C<|by first|rfl|simp)<|cx2<|Aa C<|Aa Cn Bb) (show Fit κ _ (vk 54 oa oc (vs)::e8 b4 [e7 nd,.slice (lw).a (M).length (lw).c] 35::e8 b3 zk 47::e8 b2 (ez xe) 54::e8 b1 (kx kd wd mo bd nd k v) 47::((Y)++I)) from Az) ?_
  rintro ⟨i,X2,aw,Y2,be,bb,o2⟩ hp
  dsimp only at hp ⊢
  obtain ⟨hi,hX,ho,ba,bn,an,ci⟩:=hp
  have bj:=q9 (G2 ba)
  rw [G7] at bj
  refine Ay<|Am<|Gm C<|Gm C<|Gr (Bl A3 C)<|Gr (Bj C C)<|Ar<|Al C (λca=>?_)<|λca=>Z ?_
  ·refine Bc (Ao<|Ay<|A8<|Ay<|A9 mixed<|Bx (vk 54 be bb o2::e8 b4 [e7 nd,.slice aw.a X2.length aw.c] 35::e8 b3 zk 47::e8 b2 (ez xe) 54::e8 b1 (kx kd wd mo bd nd k v) 47::(Y2++I)) 11<|Dr 0 C (Aq C)<|Dr 1 C (Aq C) ?_)
   have cr:=bf9 hJ.val (i:Int) om om
   have cn:=at0 hK.win
   refine Dr 2 C (A2 (α:=Lk) (xs:=M) A3 J7 C C (Bd an<|B3 (κ:=κ)<|by repeat (first|exact hH|exact Bh _|apply Bg|apply B1|apply Bo)) om om)<|Dr 3 C (j7.fld (α:=Lk) (xs:=M) br5 C (Bd an<|B3 (κ:=κ)<|by repeat (first|exact hH|exact Bh _|apply Bg|apply B1|apply Bo)) om)<|Dr 4 C (Fj (α:=Lk) (xs:=M) (u:=e7 ((e_ M i).tm)) ef C (Bd an<|B3 (κ:=κ)<|by repeat (first|exact hH|exact Bh _|apply Bg|apply B1|apply Bo)) om om C)<|Dr 5 C (Af br8 C)<|Dr 6 C (Af ao2 C)<|Dr 7 C (Bf ef) ?_
   refine Dr 8 C (Rad C C)<|Dr 9 C (Aq C)<|Dr 10 C (C4 C C)<|Dz<|Ao<|A0 (S9 85 2 3 4 8 9 10 13 14)<|Al C (λa8=>?_)<|λa8=>Z ?_
   ·refine A9 mixed (Bx (e8 b3 zk 47::e8 b2 (ez xe) 54::e8 b1 (kx kd wd mo bd nd k v) 47::(Y2++I)) 14<|Dr 1 C (Aq C)<|Dr 2 C (Aq C)<|Dr 3 C (Aq C)<|Dr 4 C (A2 (α:=Lk) (xs:=M) A3 J7 C C (Bd an<|B3 (κ:=κ)<|by repeat (first|exact hH|exact Bh _|apply Bg|apply B1|apply Bo)) om om)<|Dr 5 C (Da (α:=Lk) (xs:=M) J7 C (Bd an<|B3 (κ:=κ)<|by repeat (first|exact hH|exact Bh _|apply Bg|apply B1|apply Bo)) om om)<|Dr 6 C (Aq C)<|D.two (e8 b4 [e7 nd,.slice aw.a X2.length aw.c] 35::e8 b3 zk 47::e8 b2 (ez xe) 54::e8 b1 (kx kd wd mo bd nd k v) 47::(Y2++I)) 8 Az ?_)
    refine Ff 0 C kr kr kr C kr (λ_ _ _ _ h=>h) (Ap C) C C Az (Bm (vs:=[_,_]) W2) ?_
    refine E1 (rs:=[7]) kr C C<|Do ?_
    refine Dt C (Ap C) (Ac c_ C C<|ci8 (e_ M i) ah) ?_
    rintro _ _ ⟨_,_,⟨rfl,rfl⟩,rfl,rfl⟩
    refine ⟨Az,?_⟩
    refine D2.stop kr ?_
    refine Ds1 8<|Se C (Ac c_ C C<|Cl (J:=vk 54 be bb o2::e8 b4 [e7 nd,.slice aw.a X2.length aw.c] 35::e8 b3 zk 47::e8 b2 (ez xe) 54::e8 b1 (kx kd wd mo bd nd k v) 47::(Y2++I)) Az<|bt6 (nd:=nd) (e:=(⟨2,ah,(e_ M i).u,(e_ M i).v,0,0,0⟩:Ev)) (Bd bn<|B3 (κ:=κ)<|by repeat (first|exact hH|exact Bh _|apply Bg|apply B1|apply Bo)) ba (dk4 hJ.val (Bn (xs:=M) (i:=(i:Int)) om om) om) om om) ?_
    rintro _ _ ⟨_,_,⟨a1,a3,br,bu,rfl,rfl⟩,rfl,rfl⟩
    refine ⟨Az,?_⟩
    refine Dr 9 C (Aq C)<|Dr 10 C (Bk C C)<|Dr 11 C (Bk C C)<|Ds1 12<|Se0 C (Cr W2)<|Z ?_
    exact Bt ((i+1),(ep X2 (⟨2,ah,(e_ M i).u,(e_ M i).v,0,0,0⟩:Ev)),((⟨a1,a3⟩:SlA)),((vk 82 a1 a3 (ep X2 (⟨2,ah,(e_ M i).u,(e_ M i).v,0,0,0⟩:Ev))::Y2)),(br),(bu),((o2++[(⟨2,ah,(e_ M i).u,(e_ M i).v,0,0,0⟩:Ev)]))) (by dsimp only;exact ⟨om,(by rw [hX];exact cu6 wd ah M M i om a8),(by rw [ho,by9 om a8,Fu];rfl),(J5 ba<|dk4 hJ.val (Bn (xs:=M) (i:=(i:Int)) om om) om),(Cy<|Gk _ A_),(show Sl κ (vk 82 a1 a3 (ep X2 (⟨2,ah,(e_ M i).u,(e_ M i).v,0,0,0⟩:Ev))::(Y2++T)) _ _ from Bd an (Fb<|Dd _)),(by rw [By,E_,Fw];omega)⟩) (hI:=by (try dsimp only);exact (show Fit κ _ (vk 54 br bu (o2++[(⟨2,ah,(e_ M i).u,(e_ M i).v,0,0,0⟩:Ev)])::e8 b4 [e7 nd,.slice (⟨a1,a3⟩:SlA).a (ep X2 (⟨2,ah,(e_ M i).u,(e_ M i).v,0,0,0⟩:Ev)).length (⟨a1,a3⟩:SlA).c] 35::e8 b3 zk 47::e8 b2 (ez xe) 54::e8 b1 (kx kd wd mo bd nd k v) 47::vk 82 a1 a3 (ep X2 (⟨2,ah,(e_ M i).u,(e_ M i).v,0,0,0⟩:Ev))::(Y2++I)) from Az))
   exact Bt ((i+1),(X2),(aw),(Y2),(be),(bb),(o2))<|by dsimp only;exact ⟨om,(by rw [co8 om a8];exact hX),(by rw [co8 om a8];exact ho),ba,bn,an,om⟩
  rw [show M.take i=M from Fx om,cu7 (mo:=mo) hc.2.1 cd] at hX ho
  have hg:=ae1 (kd:=kd) (wd:=wd) (mo:=mo) (nw:=ah) hJ.val
  rw [hg] at hX
  exact Bt ((X2),(aw),(Y2),(be),(bb),(o2)) (by dsimp only;exact ⟨(by rw [hX,ho];exact a7.trans<|cv9 hc.2.1 ⟨az,by omega⟩ hz),(by rw [hX];exact hJ.filter _),bn,(by rw [hX,ho,By];omega)⟩) (hlt:=by (try dsimp only);exact (by rw [hX];exact dn6 hc.2.1 az hz))
 rintro ⟨X1,a0,Y1,bk,bm,o1⟩ hp
 obtain ⟨bq,ax,cf,ct⟩:(R5 kd wd mo xe.tm (k.S,[])=(X1,o1))/\(SlI nd kd wd xe.tm X1)/\(Sl κ (Y1++T) (.slice a0.a X1.length a0.c) X1)/\(X1.length+o1.length=k.S.length):=hp
 show W Tryz.prog κ 142 _ _ ([(2,pt b1),(3,pt b2),(4,pt b3),(8,.slice bk o1.length bm),(9,pt b4)]:Env) (vk 54 bk bm o1::e8 b4 [e7 nd,.slice a0.a X1.length a0.c] 35::e8 b3 zk 47::e8 b2 (ez xe) 54::e8 b1 (kx kd wd mo bd nd k v) 47::(Y1++I))
 have ce:=q9 (G2 ax.val)
 rw [G7] at ce
 have cz:=ah7 X1 xe
 refine Z ?_
 refine G.e (Ac c_ C C<|Cl (J:=vk 54 bk bm o1::e8 b4 [e7 nd,.slice a0.a X1.length a0.c] 35::e8 b3 zk 47::e8 b2 (ez xe) 54::e8 b1 (kx kd wd mo bd nd k v) 47::(Y1++I)) Az<|bt6 (nd:=nd) (e:=xe) (Bd cf<|B3 (κ:=κ)<|by repeat (first|exact hH|exact Bh _|apply Bg|apply B1|apply Bo)) ax.val hx om om) ?_
 rintro _ _ ⟨_,_,⟨ad,ae,aq,ar,rfl,rfl⟩,rfl,rfl⟩
 refine Z ?_
 refine Ge0 (Cr W2) ?_
 refine Ga C<|Ar<|Fe (σ:=(List Lk)×SlA×(List Item)×(Option Addr)×Nat×(List Ev)) (λs=>([(2,pt b1),(3,pt b2),(4,pt b3),(8,.slice s.2.2.2.1 s.2.2.2.2.2.length s.2.2.2.2.1),(9,pt b4)]:Env)) (λs=>vk 54 s.2.2.2.1 s.2.2.2.2.1 s.2.2.2.2.2::e8 b4 [e7 nd,.slice s.2.1.a s.1.length s.2.1.c] 35::e8 b3 zk 47::e8 b2 (ez xe) 54::e8 b1 (kx kd wd mo bd nd k v) 47::(s.2.2.1++I)) (λs=>(q7 kd wd mo (k.S,[]) xe=(s.1,s.2.2.2.2.2))/\(p9 nd s.1=0)/\(Sl κ (s.2.2.1++T) (.slice s.2.1.a s.1.length s.2.1.c) s.1)) ?_ ?_
 ·refine Z ?_
  refine Z ?_
  refine A0 (S6 108 8 2 3 4 9)<|Al C (λa5=>?_)<|λa5=>Z ?_
  ·refine Am (Gl2 W2 ?_)
   refine Gf br8 C<|Gl3 da2 ?_
   refine Gf Q9 C<|Gl ef ?_
   refine G.e (Ac c_ C C<|ci5 (nd:=nd) (kd:=kd) (wd:=wd) (mo:=mo) (nw:=xe.tm) (xs:=ep X1 xe) A5 om) ?_
   rintro _ _ ⟨_,_,(⟨a4,rfl,rfl⟩|⟨aj,ai,b8,rfl,rfl⟩),rfl,rfl⟩
   ·exact absurd (SlI.ask (ax.step hx rfl<|cv2 hK.win) hK.win hx.tm<|Hn _) a4
   show G Tryz.prog κ _ _ _ _ ([(115,.tuple #[.slice aj (s6 kd wd mo xe.tm<|ep X1 xe).length ai,e7 0]),(114,e7<|xe.tm),(113,.pointer<|some ⟨b2,1,none⟩),(112,.agg #[e7 kd,e7 wd,e7 mo]),(111,pt b1),(110,.agg #[e7 nd,.slice ad (ep X1 xe).length ae]),(108,.bool<|decide<|kd=3),(8,.slice aq (o1++[xe]).length ar),(2,pt b1),(3,pt b2),(4,pt b3),(9,pt b4)]:Env) (vk 54 aj ai (s6 kd wd mo xe.tm<|ep X1 xe)::vk 82 ad ae (ep X1 xe)::vk 54 aq ar (o1++[xe])::e8 b4 [e7 nd,.slice ad (ep X1 xe).length ae] 35::e8 b3 zk 47::e8 b2 (ez xe) 54::e8 b1 (kx kd wd mo bd nd k v) 47::(Y1++I))
   refine Z ?_
   refine B9 (σ:=Nat×(List Lk)×SlA×(List Item)×(Option Addr)×Nat×(List Ev)) (λs=>([(2,pt b1),(3,pt b2),(4,pt b3),(8,.slice s.2.2.2.2.1 s.2.2.2.2.2.2.length s.2.2.2.2.2.1),(9,pt b4),(15,.slice aj (s6 kd wd mo xe.tm<|ep X1 xe).length ai),(17,e7 ((s.1:Nat):Int))]:Env)) (λs=>vk 54 s.2.2.2.2.1 s.2.2.2.2.2.1 s.2.2.2.2.2.2::vk 54 aj ai (s6 kd wd mo xe.tm<|ep X1 xe)::e8 b4 [e7 nd,.slice s.2.2.1.a s.2.1.length s.2.2.1.c] 35::e8 b3 zk 47::e8 b2 (ez xe) 54::e8 b1 (kx kd wd mo bd nd k v) 47::(s.2.2.2.1++I)) (λs=>(s.1<=(s6 kd wd mo xe.tm<|ep X1 xe).length)/\(s.2.1=((s6 kd wd mo xe.tm<|ep X1 xe).take s.1).foldl ep (ep X1 xe))/\(s.2.2.2.2.2.2=o1++[xe]++(s6 kd wd mo xe.tm<|ep X1 xe).take s.1)/\(p9 nd s.2.1=0)/\(Sl κ (s.2.2.2.1++T) (.slice s.2.2.1.a s.2.1.length s.2.2.1.c) s.2.1)) (λs=>(s6 kd wd mo xe.tm<|ep X1 xe).length - s.1) (0,(ep X1 xe),(⟨ad,ae⟩:SlA),(vk 82 ad ae (ep X1 xe)::Y1),aq,ar,(o1++[xe])) (show ((0:Nat)<=(s6 kd wd mo xe.tm<|ep X1 xe).length)/\(((ep X1 xe):List Lk)=((s6 kd wd mo xe.tm<|ep X1 xe).take (0:Nat)).foldl ep (ep X1 xe))/\(((o1++[xe]):List Ev)=o1++[xe]++(s6 kd wd mo xe.tm<|ep X1 xe).take (0:Nat))/\(p9 nd ((ep X1 xe):List Lk)=0)/\(Sl κ (((vk 82 ad ae (ep X1 xe)::Y1):List Item)++T) (.slice ((⟨ad,ae⟩:SlA):SlA).a ((ep X1 xe):List Lk).length ((⟨ad,ae⟩:SlA):SlA).c) ((ep X1 xe):List Lk)) from ⟨om,rfl,(by show _=_++[];rw [Gt]),(J5 ax.val hx),(Cy<|Gk _ A_)⟩) (cx2<|Aa C<|Aa (Db C<|by first|rfl|simp)<|cx2<|Aa Cn Bb) (show Fit κ _ (vk 54 aq ar ((o1++[xe]))::vk 54 aj ai (s6 kd wd mo xe.tm<|ep X1 xe)::e8 b4 [e7 nd,.slice ((⟨ad,ae⟩:SlA)).a ((ep X1 xe)).length ((⟨ad,ae⟩:SlA)).c] 35::e8 b3 zk 47::e8 b2 (ez xe) 54::e8 b1 (kx kd wd mo bd nd k v) 47::(((vk 82 ad ae (ep X1 xe)::Y1))++I)) from Az) ?_
   rintro ⟨i,X3,a9,Y3,bt,bp,o3⟩ hp
   dsimp only at hp ⊢
   obtain ⟨hi,hX,ho,bc,b7⟩:=hp
   have bj:=q9 (G2 bc)
   rw [G7] at bj
   have cx:=af8 kd wd mo xe.tm (ep X1 xe)
   have ci:o3.length=o1.length+1+i:=by rw [ho];simp only [By,E_,Fw,Fr];omega
   refine Z ?_
   refine Al C (λbw=>Z ?_)<|λbw=>Z ?_
   ·refine A9 mixed (Bx (vk 54 aj ai (s6 kd wd mo xe.tm<|ep X1 xe)::e8 b3 zk 47::e8 b2 (ez xe) 54::e8 b1 (kx kd wd mo bd nd k v) 47::(Y3++I)) 12<|Dr 1 C (Aq C)<|Z ?_)
    refine D.two (vk 54 aj ai (s6 kd wd mo xe.tm<|ep X1 xe)::e8 b4 [e7 nd,.slice a9.a X3.length a9.c] 35::e8 b3 zk 47::e8 b2 (ez xe) 54::e8 b1 (kx kd wd mo bd nd k v) 47::(Y3++I)) 6 Az ?_
    refine Ff 0 C kr kr kr C kr (λ_ _ _ _ h=>h) (Ap C) C C Az (Bm (vs:=[_,_]) W2) ?_
    refine D2.stop kr ?_
    refine Ds1 6<|Se C (Ac c_ C C<|Cl (J:=vk 54 bt bp o3::vk 54 aj ai (s6 kd wd mo xe.tm<|ep X1 xe)::e8 b4 [e7 nd,.slice a9.a X3.length a9.c] 35::e8 b3 zk 47::e8 b2 (ez xe) 54::e8 b1 (kx kd wd mo bd nd k v) 47::(Y3++I)) Az<|bt6 (nd:=nd) (e:=(e_ (s6 kd wd mo xe.tm<|ep X1 xe) (i:Int))) (Bd b7<|B3 (κ:=κ)<|by repeat (first|exact hH|exact Bh _|apply Bg|apply B1|apply Bo)) bc (ak9 (J5 ax.val hx) hx.tm _<|Bn om om) om om) ?_
    rintro _ _ ⟨_,_,⟨av,au,bg,bh,rfl,rfl⟩,rfl,rfl⟩
    refine ⟨Az,?_⟩
    refine Z ?_
    refine Ds1 10<|Se0 C (Cr W2)<|Z ?_
    exact Bt ((i+1),(ep X3<|e_ (s6 kd wd mo xe.tm<|ep X1 xe) (i:Int)),((⟨av,au⟩:SlA)),((vk 82 av au (ep X3<|e_ (s6 kd wd mo xe.tm<|ep X1 xe) (i:Int))::Y3)),(bg),(bh),((o3++[(e_ (s6 kd wd mo xe.tm<|ep X1 xe) (i:Int))]))) (by dsimp only;exact ⟨om,(by rw [Ca (s6 kd wd mo xe.tm<|ep X1 xe) i om,Hf,←hX];rfl),(by rw [Ca (s6 kd wd mo xe.tm<|ep X1 xe) i om,ho];simp only [Fu]),(J5 bc<|ak9 (J5 ax.val hx) hx.tm _<|Bn om om),(Cy<|Gk _ A_)⟩) (hI:=by (try dsimp only);exact (show Fit κ _ (vk 54 bg bh (o3++[(e_ (s6 kd wd mo xe.tm<|ep X1 xe) (i:Int))])::vk 54 aj ai (s6 kd wd mo xe.tm<|ep X1 xe)::e8 b4 [e7 nd,.slice (⟨av,au⟩:SlA).a (ep X3<|e_ (s6 kd wd mo xe.tm<|ep X1 xe) (i:Int)).length (⟨av,au⟩:SlA).c] 35::e8 b3 zk 47::e8 b2 (ez xe) 54::e8 b1 (kx kd wd mo bd nd k v) 47::vk 82 av au (ep X3<|e_ (s6 kd wd mo xe.tm<|ep X1 xe) (i:Int))::(Y3++I)) from Az))
   rw [show (s6 kd wd mo xe.tm<|ep X1 xe).take i=(s6 kd wd mo xe.tm<|ep X1 xe) from Fx om] at hX ho
   exact Di ((X3),(a9),(Y3),(bt),(bp),(o3))<|by dsimp only;exact ⟨(by rw [hX,ho];exact bw2 (nd:=nd) bq a5<|J5 ax.val hx),bc,b7⟩
  exact Di (((ep X1 xe)),((⟨ad,ae⟩:SlA)),((vk 82 ad ae (ep X1 xe)::Y1)),(aq),(ar),((o1++[xe]))) (by dsimp only;exact ⟨(step_end bq a5),(J5 ax.val hx),(Cy<|Gk _ A_)⟩) (hI:=by (try dsimp only);exact (show Fit κ _ (vk 54 aq ar (o1++[xe])::e8 b4 [e7 nd,.slice (⟨ad,ae⟩:SlA).a (ep X1 xe).length (⟨ad,ae⟩:SlA).c] 35::e8 b3 zk 47::e8 b2 (ez xe) 54::e8 b1 (kx kd wd mo bd nd k v) 47::vk 82 ad ae (ep X1 xe)::(Y1++I)) from Az))
 rintro ⟨X4,ab,Y4,ao,ap,o4⟩ hp
 obtain ⟨hE,cc,bv⟩:(q7 kd wd mo (k.S,[]) xe=(X4,o4))/\(p9 nd X4=0)/\(Sl κ (Y4++T) (.slice ab.a X4.length ab.c) X4):=hp
 show W Tryz.prog κ 142 _ _ ([(2,pt b1),(3,pt b2),(4,pt b3),(8,.slice ao o4.length ap),(9,pt b4)]:Env) (vk 54 ao ap o4::e8 b4 [e7 nd,.slice ab.a X4.length ab.c] 35::e8 b3 zk 47::e8 b2 (ez xe) 54::e8 b1 (kx kd wd mo bd nd k v) 47::(Y4++I))
 refine Ay<|A9 mixed<|Bx (vk 54 ao ap o4::e8 b4 [e7 nd,.slice ab.a X4.length ab.c] 35::e8 b3 zk 47::e8 b2 (ez xe) 54::(Y4++I)) 7<|Z ?_
 refine Ds1 4<|Se0 C (Br (cs:=[_,_,_,_,_,_,_,_,_,_,_,_,_,_,_,_,_,_,_,_,_,_,_,_,_]) (vs:=[_,_]) (cs':=[_,_,_,_,_,_,_,_,_,_,_,_,_,_,_,_,_,_,_,_,_,_,_,_,_]) W2)<|Z ?_
 refine Ds1 6<|Se0 C (Br (cs:=[_,_,_,_,_,_,_,_,_,_,_,_,_,_,_,_,_,_,_,_,_,_,_,_,_]) (vs:=[_]) (cs':=[_,_,_,_,_,_,_,_,_,_,_,_,_,_,_,_,_,_,_,_,_,_,_,_,_]) ef)<|Z ?_
 refine G.e (Ac c_ C C<|ax1 (nd:=nd) (S:=X4) (Bd bv<|B3 (κ:=κ)<|by repeat (first|exact hH|exact Bh _|apply Bg|apply B1|apply Bo)) cc om) ?_
 rintro _ _ ⟨_,_,⟨aa,Y21,rfl,bo,rfl⟩,rfl,rfl⟩
 refine Ds (J:=vk 54 ao ap o4::e8 b4 [e7 nd,.slice ab.a X4.length ab.c] 35::e8 b3 zk 47::e8 b2 (ez xe) 54::e8 b1 (ky kd wd mo bd k.b.lt k.b.mr v.w.a k.b.ws.length v.w.c nd ab.a X4.length ab.c (j8 k.S) v.p xe.tm) 47::(Y21++(Y4++I))) (Cj<|C0 (A:=Y21) (L:=[vk 54 ao ap o4,e8 b4 [e7 nd,.slice ab.a X4.length ab.c] 35,e8 b3 zk 47,e8 b2 (ez xe) 54,e8 b1 (ky kd wd mo bd k.b.lt k.b.mr v.w.a k.b.ws.length v.w.c nd ab.a X4.length ab.c (j8 k.S) v.p xe.tm) 47]) (T:=(Y4++I))) ?_
 show G Tryz.prog κ _ _ _ _ ([(140,.agg (ky kd wd mo bd k.b.lt k.b.mr v.w.a k.b.ws.length v.w.c nd ab.a X4.length ab.c (j8 X4) aa xe.tm).toArray),(139,.agg (ky kd wd mo bd k.b.lt k.b.mr v.w.a k.b.ws.length v.w.c nd ab.a X4.length ab.c (j8 k.S) v.p xe.tm).toArray),(138,.pointer<|some ⟨b1,24,none⟩),(137,.pointer<|some ⟨b1,7,none⟩),(136,e7<|xe.tm),(135,.pointer<|some ⟨b2,1,none⟩),(134,.agg #[e7 nd,.slice ab.a X4.length ab.c]),(2,pt b1),(3,pt b2),(4,pt b3),(8,.slice ao o4.length ap),(9,pt b4)]:Env) (vk 54 ao ap o4::e8 b4 [e7 nd,.slice ab.a X4.length ab.c] 35::e8 b3 zk 47::e8 b2 (ez xe) 54::e8 b1 (ky kd wd mo bd k.b.lt k.b.mr v.w.a k.b.ws.length v.w.c nd ab.a X4.length ab.c (j8 k.S) v.p xe.tm) 47::(Y21++(Y4++I)))
 refine Gm C<|Ge0 (Eff.sq H3)<|Z ?_
 rw [hE]
 exact Cu C H3 C C C mm C (((vk 54 ao ap o4::(Y21++Y4))++I)) tb2 ⟨(⟨v.w,ab,aa⟩:KpV),(vk 54 ao ap o4::(Y21++Y4)),ao,ap,rfl,(by simp only [Jd,Fu];exact ⟨Bd hF.w Ah,Bd bv Ah,PkR.fit bo<|C1<|by repeat (first|exact Hm _ _|apply List.Sublist.cons)⟩),Cy<|Gk _ A_,rfl⟩
end Go.Sl
