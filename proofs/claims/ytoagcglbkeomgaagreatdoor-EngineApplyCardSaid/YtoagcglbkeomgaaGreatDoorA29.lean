/- A part of the proofs of statements of this seat: contracts of functions, and the plain laws that they lean on. No conditions. -/
import Derived.Test.YtoagcglbkeomgaaGreatDoorA28
set_option linter.unusedVariables false
set_option linter.unusedSimpArgs false
set_option linter.unusedSectionVars false
open Go.Proofs.Tryz (prog)
set_option maxHeartbeats 4000000
namespace Go.Sl
open Go.Proofs
set_option maxRecDepth 4000
variable{c lt mr nd:Int}{T:List Item}{ua ub va vb:Value}{es:List Pt}{ns:List Int}
attribute [local irreducible] W G V D A j8 Eff
theorem ff6{κ:Ctx}{I:List Item}{kd wd mo bd:Int}{k:EnS}{v:KpV}(hH:Has I T)(hF:KpF κ T nd k v)(hK:bi3 nd kd wd mo bd k)(M:k.b.ws.length<=4000){xe:Ev}(hx:H4 nd xe)(hT:F4 κ I 0 p5):eu prog κ 17 [.agg (kx kd wd mo bd nd k v).toArray,.agg (ez xe).toArray] I λr J=>(xe.tm<=k.b.mr/\r = .tuple #[.agg zk.toArray,.slice none 0 0,e7 10]/\I=J)\/(k.b.mr<xe.tm/\∃(v':KpV) (Y:List Item) (a:Option Addr) (c:Nat),r = .tuple #[.agg (kx kd wd mo bd nd ((k.feed kd wd mo bd xe)) v').toArray,.slice a ((k.da4 kd wd mo bd xe)).length c,e7 0]/\KpF κ (Y++T) nd (k.feed kd wd mo bd xe) v'/\Sl κ (Y++T) (.slice a ((k.da4 kd wd mo bd xe)).length c) (k.da4 kd wd mo bd xe)/\J=Y++I):=by
 by_cases ht:xe.tm<=k.b.mr
 ·exact (ff5 (hF.fit hH.fit) hK M hx ht hT).mono λr J h=> .inl ⟨ht,h⟩
 exact (fr9 hH hF hK M hx om hT).mono λr J h=> .inr ⟨by omega,h⟩
section
variable {kd wd mo bd:Int}{k k0:EnS}{evs:List Ev}{e:Ev}{i:Nat}
theorem cj6(hk:k=k0.all kd wd mo bd (evs.take i))(hi:i<evs.length)(M:e_ evs i=e):k.next kd wd mo bd e=k0.all kd wd mo bd (evs.take (i+1)):=by
 rw [Ca evs i hi,EnS.fp3,←hk,M];rfl
theorem dt7(hk:k=k0.all kd wd mo bd (evs.take i))(hi:i<evs.length)(he:e_ evs i=e)(M:e.tm<=k.b.mr):k=k0.all kd wd mo bd (evs.take (i+1)):=by
 rw [←cj6 hk hi he];unfold EnS.next;rw [B_ M]
theorem dt8(hk:k=k0.all kd wd mo bd (evs.take i))(hi:i<evs.length)(M:e_ evs i=e)(ht:k.b.mr<e.tm):k.feed kd wd mo bd e=k0.all kd wd mo bd (evs.take (i+1)):=by
 rw [←cj6 hk hi M];unfold EnS.next;rw [An om]
theorem dd2(hk:k=k0.all kd wd mo bd (evs.take i))(hi:i<evs.length)(he:e_ evs i=e):BfS.an8 bd k0.b (evs.take (i+1))=BfS.an8 bd k0.b (evs.take i)+(if e.tm<=k.b.mr then 1 else 0):=by
 have h1:=(cg8 (kd:=kd) (wd:=wd) (mo:=mo) (bd:=bd) (evs.take i) k0).1
 have M:k.b=k0.b.all bd (evs.take i):=by rw [hk,h1];rfl
 rw [Ca evs i hi,BfS.bx8,he,M];rfl
theorem bf5(k:EnS)(e:Ev):(k.feed kd wd mo bd e).b.ws.length<=k.b.ws.length+1:=bw5 k.b bd e
end
theorem bm1(bd:Int):∀(l:List Ev) (s:BfS),BfS.an8 bd s l<=l.length
 |[],s=>Gi _
 |e::l,s=>by
  have h:=bm1 bd l (s.next bd e)
  show (if e.tm<=s.mr then 1 else 0)+BfS.an8 bd (s.next bd e) l<=l.length+1
  split<;>omega
theorem dh0(bd:Int)(s:BfS)(l:List Ev):BfS.an8 bd s l<=l.length:=bm1 bd l s
theorem dq4{κ:Ctx}{I:List Item}{kd wd mo bd:Int}{evs:List Ev}{ea:Option Addr}{ec:Nat}(hH:Has I T)(he:Sl κ I (.slice ea evs.length ec) evs)(ak:0<=nd/\nd<=64)(hw:s7 kd wd mo=0)(hb:0<=bd/\bd<=1048576)(ap:∀e∈evs,H4 nd e)(a1:evs.length<=4000)(hT:F4 κ I 0 p5):eu prog κ 30 [e7 nd,e7 bd,.agg #[e7 kd,e7 wd,e7 mo],.slice ea evs.length ec] I (λr J=>∃(v':KpV) (Y:List Item),r = .tuple #[.agg (kx kd wd mo bd nd ((EnS.run kd wd mo bd evs)) v').toArray,e7 (((BfS.an8 bd ⟨-1, -1,[]⟩ evs):Nat):Int),e7 0]/\KpF κ (Y++T) nd (EnS.run kd wd mo bd evs) v'/\J=Y++I):=by
 refine Ce4 Tryz.func30 C C ?_
 refine Al<|Ge1 (Av (cs:=[_,_,_]) C C C) λb1=>Ge1 (Aj H2 C) λb2=>Z ?_
 refine G.e (Ab c_ C C<|fe8 (nd:=nd) (bd:=bd) T ak hw hb<|Ba hT Ah) ?_
 rintro _ _ ⟨_,_,⟨ar,Y4,rfl,ah,rfl⟩,rfl,rfl⟩
 refine Dp (J:=e8 b2 zk 47::e8 b1 [e7 kd,e7 wd,e7 mo] 29::(Y4++I)) (Cj<|Cz (A:=Y4) (L:=[e8 b2 zk 47,e8 b1 [e7 kd,e7 wd,e7 mo] 29]) (T:=I))<|Z ?_
 refine Ge1 (Aj H2 C) λb5=>Ge0 (Eff.sq H2)<|Z ?_
 refine Ao C (λao=>?_)<|λao=>Z ?_
 ·exact absurd ao dc
 refine B9 (σ:=Nat×EnS×KpV×(List Item)×Nat) (λs=>([(8,pt b2),(11,pt b5),(13,e7 ((s.2.2.2.2:Nat):Int)),(30,.slice ea evs.length ec),(31,e7 ((evs.length:Nat):Int)),(32,e7 ((s.1:Nat):Int))]:Env)) (λs=>e8 b5 (kx kd wd mo bd nd s.2.1 s.2.2.1) 47::e8 b2 zk 47::e8 b1 [e7 kd,e7 wd,e7 mo] 29::(s.2.2.2.1++I)) (λs=>(s.1<=evs.length)/\(s.2.1=(⟨⟨-1, -1,[]⟩,[],0⟩:EnS).all kd wd mo bd (evs.take s.1))/\(s.2.2.2.2=BfS.an8 bd ⟨-1, -1,[]⟩ (evs.take s.1))/\(bi3 nd kd wd mo bd s.2.1)/\(KpF κ (s.2.2.2.1++T) nd s.2.1 s.2.2.1)/\(s.2.1.b.ws.length<=s.1)) (λs=>evs.length - s.1) (0,(⟨⟨-1, -1,[]⟩,[],0⟩:EnS),ar,Y4,0) ⟨om,rfl,rfl,(bi3.open_ ak hw hb),ah,(by show (0:Nat)<=0;omega)⟩ (cx2<|Aa Cl<|cx2<|Aa Cl Bb) Az ?_
 rintro ⟨i,k,v,Y,n⟩ hp
 dsimp only at hp ⊢
 obtain ⟨hi,hk,hn,hK,hF,a4⟩:=hp
 have a6:n<=i:=by rw [hn];exact Hd (dh0 _ _ _) (by rw [Ft];omega)
 refine Z ?_
 refine Ao C (λaq=>Z ?_)<|λaq=>Z ?_
 ·have ad:=ap _ (Bo (xs:=evs) (i:=(i:Int)) om om)
  generalize hxe:e_ evs i=xe at ad ⊢
  refine Ge1 (Aj z6 C) λb6=>Ge0 (E5 z6)<|Z ?_
  refine G.e (Ab c_ C C<|ff6 (T:=(Y++T)) (k:=k) (v:=v) ta2 hF hK om ad<|Ba hT Ah) ?_
  rintro _ _ ⟨_,_,(⟨M,rfl,rfl⟩|⟨M,av,Y8,a5,az,rfl,aj,ax,rfl⟩),rfl,rfl⟩
  ·skip
   refine Z ?_
   refine Ge1 (Aj H2 C) λa0=>Ge0 (Eff.sq H2)<|Z ?_
   refine Ao C (λaa=>?_)<|λaa=>Z ?_
   ·exact absurd aa dc
   refine Ao C (λai=>Z ?_)<|λai=>?_
   ·exact Bu ((i+1),(k),(v),(Y),(n+1))<|by dsimp only;exact ⟨om,(dt7 hk om hxe M),(by rw [dd2 (k0:=(⟨⟨-1, -1,[]⟩,[],0⟩:EnS)) hk om hxe,B_ M,hn]),hK,hF,om⟩
   exact absurd dc ai
  refine Dp (J:=e8 b6 (ez xe) 54::e8 b5 (kx kd wd mo bd nd k v) 47::e8 b2 zk 47::e8 b1 [e7 kd,e7 wd,e7 mo] 29::(Y8++(Y++I))) (Cj<|Cz (A:=Y8) (L:=[e8 b6 (ez xe) 54,e8 b5 (kx kd wd mo bd nd k v) 47,e8 b2 zk 47,e8 b1 [e7 kd,e7 wd,e7 mo] 29]) (T:=(Y++I)))<|Z ?_
  refine Ge1 (Aj H2 C) λa3=>Ge0 (Eff.sq H2)<|Z ?_
  refine Ao C (λaa=>Z ?_)<|λaa=>?_
  ·refine Ge0 (Eff.sq H2) (Z ?_)
   exact Bu ((i+1),((k.feed kd wd mo bd xe)),(av),((Y8++Y)),(n)) (by dsimp only;exact ⟨om,(dt8 hk om hxe M),(by rw [dd2 (k0:=(⟨⟨-1, -1,[]⟩,[],0⟩:EnS)) hk om hxe,An om,hn];rfl),(hK.feed ad M),(by rw [Fv];exact aj),(by have h9:=bf5 (kd:=kd) (wd:=wd) (mo:=mo) (bd:=bd) k xe;omega)⟩) (hI:=by (try dsimp only);exact ta7)
  exact absurd dc aa
 refine G.e (Ab c_ C C<|ff3 (T:=(Y++T)) (k:=k) (v:=v) ta2 hF hK om<|Ba hT Ah) ?_
 rintro _ _ ⟨_,_,⟨an,Y14,aw,ay,rfl,ab,au,rfl⟩,rfl,rfl⟩
 refine Dp (J:=e8 b5 (kx kd wd mo bd nd k v) 47::e8 b2 zk 47::e8 b1 [e7 kd,e7 wd,e7 mo] 29::(Y14++(Y++I))) (Cj<|Cz (A:=Y14) (L:=[e8 b5 (kx kd wd mo bd nd k v) 47,e8 b2 zk 47,e8 b1 [e7 kd,e7 wd,e7 mo] 29]) (T:=(Y++I)))<|Z ?_
 refine Ge0 (Eff.sq H2)<|Z ?_
 refine Ao C (λae=>?_)<|λae=>Z ?_
 ·exact absurd ae dc
 refine Ge0 (Eff.sq H2)<|Z ?_
 rw [show evs.take i=evs from Fz om] at hk hn
 have hR:(EnS.run kd wd mo bd evs)=k.flush kd wd mo:=by rw [hk];rfl
 rw [hR,←hn]
 exact Cs C H2 C C C mm C (((Y14++Y)++I)) ta7 ⟨an,(Y14++Y),rfl,(by rw [Fv];exact ab),rfl⟩
theorem ax2{κ:Ctx}{I:List Item}{la:Option Addr}{lc:Nat}{S:List Lk}{kd wd mo bd tm:Int}{wa:Option Addr}{wn wc:Nat}{y0 y1 y2 y3 y4 y5 y6 y7 y8 y9 aw a1 ax az a0:Value}(hl:Sl κ I (.slice la S.length lc) S)(hv:p9 nd S=0)(h1:1<=nd):eu prog κ 121 [.agg #[e7 kd,e7 wd,e7 mo,e7 bd,e7 lt,e7 mr,.slice wa wn wc,e7 nd,.slice la S.length lc,y0,y1,y2,y3,y4,y5,y6,y7,y8,y9,aw,a1,ax,az,a0,e7 tm]] I (λr J=>∃(pv:PkV) (Y:List Item),r = .agg (ky kd wd mo bd lt mr wa wn wc nd la S.length lc (j6 S) pv tm).toArray/\PkR κ Y nd (j6 S) pv/\J=Y++I):=by
 have M:=F6 hv
 have av:=q9 M
 have ay:=av
 rw [G0] at ay
 have a3:=M.rng
 refine Ce1 Tryz.func121 C C ?_
 refine Al<|Ge1 (Av (cs:=[_,_,_,_,_,_,_,_,_,_,_,_,_,_,_,_,_,_,_,_,_,_,_,_,_]) C C C) λb1=>Ge1 (Aj H2 C) λb2=>Z ?_
 refine G.e (Ab c_ C C<|dq7 (nd:=nd) (A3 hl) hv om) ?_
 rintro _ _ ⟨_,_,⟨ao,an,rfl,rfl⟩,rfl,rfl⟩
 refine Z ?_
 refine Ge1 (Aj K0 C) λb5=>Ge0 (Co K0)<|Z ?_
 refine G.e (Ab c_ C C<|dp5 (nd:=nd) A5 M om) ?_
 rintro _ _ ⟨_,_,⟨au,aq,ar,ap,rfl,rfl⟩,rfl,rfl⟩
 refine Z ?_
 refine Ge0 (Bt (cs:=[_,_,_,_,_,_,_,_,_,_,_,_,_,_,_,_,_,_,_,_,_,_,_,_,_]) (vs:=[_,_,_]) (cs':=[_,_,_,_,_,_,_,_,_,_,_,_,_,_,_,_,_,_,_,_,_,_,_,_,_]) ab6)<|Z ?_
 refine G.e (Ab c_ C C<|dp4 (nd:=nd) A5 M) ?_
 rintro _ _ ⟨_,_,⟨ak,ad,ai,aj,rfl,rfl⟩,rfl,rfl⟩
 refine Z ?_
 refine Ge0 (Bt (cs:=[_,_,_,_,_,_,_,_,_,_,_,_,_,_,_,_,_,_,_,_,_,_,_,_,_]) (vs:=[_,_,_]) (cs':=[_,_,_,_,_,_,_,_,_,_,_,_,_,_,_,_,_,_,_,_,_,_,_,_,_]) L6)<|Z ?_
 refine Gc2 (Ab c_ C C<|dp3 (nd:=nd) A5 M) λah aa=>Z ?_
 refine Ge0 (Bt (cs:=[_,_,_,_,_,_,_,_,_,_,_,_,_,_,_,_,_,_,_,_,_,_,_,_,_]) (vs:=[_,_,_,_]) (cs':=[_,_,_,_,_,_,_,_,_,_,_,_,_,_,_,_,_,_,_,_,_,_,_,_,_]) ad0)<|Z ?_
 refine Gc2 (Ab c_ C C<|dp2 (nd:=nd) A5 M) λae ab=>Z ?_
 refine Ge0 (Bt (cs:=[_,_,_,_,_,_,_,_,_,_,_,_,_,_,_,_,_,_,_,_,_,_,_,_,_]) (vs:=[_,_,_,_,_]) (cs':=[_,_,_,_,_,_,_,_,_,_,_,_,_,_,_,_,_,_,_,_,_,_,_,_,_]) V5)<|Z ?_
 refine Ge0 (Eff.sq H2) ?_
 exact Ar<|B3<|Ej C H2 C mm C (vk 3 ae ab (r9 nd<|j6 S)::vk 3 ah aa (H9 nd<|j6 S)::vk 105 ak ad (j6 S)::vk 3 ai aj (j5 nd<|j6 S)::vk 105 au aq (j6 S)::vk 3 ar ap (j9 nd<|j6 S)::vk 105 ao an (j6 S)::I) Az ⟨⟨⟨au,aq⟩,⟨ar,ap⟩,⟨ak,ad⟩,⟨ai,aj⟩,⟨ao,an⟩,⟨ah,aa⟩,⟨ao,an⟩,⟨ae,ab⟩⟩,[vk 3 ae ab (r9 nd<|j6 S),vc 3 (.slice ah (H9 nd<|j6 S).length aa)<|H9 nd<|j6 S,vc 105 (.slice ak (j6 S).length ad)<|j6 S,vc 3 (.slice ai (j5 nd<|j6 S).length aj)<|j5 nd<|j6 S,vc 105 (.slice au (j6 S).length aq)<|j6 S,vc 3 (.slice ar (j9 nd<|j6 S).length ap)<|j9 nd<|j6 S,vc 105 (.slice ao (j6 S).length an)<|j6 S],rfl,⟨A5,A5,A5,A5,A5,A5,A5,A5⟩,rfl⟩
variable {κ:Ctx}{I:List Item}
structure Wn3 where
 k:Int
 w:Int
 m:Int
deriving DecidableEq,Inhabited
instance:Enc Wn3:=⟨λa=>[e7 a.k,e7 a.w,e7 a.m],3,by omega,λ_=>rfl,λa x h=>by
 simp only [F_,Ke,Ms] at h
 rcases h with rfl|rfl|rfl<;>rfl⟩
theorem gg4:EqT prog 29 Wn3:=EqT.flat (λp:Wn3=>[p.k,p.w,p.m]) (λ_=>rfl) (λx y h=>by cases x;cases y;simpa using h) (n:=3) (λ_=>rfl) kr kr kr kr kr
theorem fc3{bd:Int}{xs:List Ev}(hl:Sl κ I va xs)(hm:Sl κ I vb xs):eu prog κ 74 [.agg #[e7 bd,e7 lt,e7 mr,va],.agg #[e7 bd,e7 lt,e7 mr,vb]] I (λr J=>r = .bool true/\I=J):=by
 refine Ce2 Tryz.func74 C C ?_
 refine Al<|Ge1 (Av (cs:=[_,_,_,_]) C C C) λb1=>Ge1 (Av (cs:=[_,_,_,_]) C C C) λb2=>Z ?_
 refine A4 (d:=10) C (λaa=>Z ?_)<|λaa=>?_
 ·refine A4 (d:=17) C (λab=>Z ?_) (λab=>?_)
  ·refine A4 (d:=24) C (λM=>Z ?_) (λM=>?_)
   ·refine Dt (Cm C C C) (Ab c_ C C<|fc4 (A3 hl)<|A3 hm) ?_
    rintro _ _ ⟨_,_,⟨rfl,rfl⟩,rfl,rfl⟩
    refine Z ?_
    exact Am C C I Ah ⟨by first|rfl|(rw [As rfl])|(rw [As ⟨rfl,rfl⟩])|(simp;done),rfl⟩
   exact absurd rfl M
  exact absurd rfl ab
 exact absurd rfl aa
theorem do6(hl:Sl κ I va es)(hm:Sl κ I ua ns)(aa:Sl κ I vb es)(ab:Sl κ I ub ns):eu prog κ 75 [.agg #[e7 nd,va,ua],.agg #[e7 nd,vb,ub]] I (λr J=>r = .bool true/\I=J):=by
 refine Ce2 Tryz.func75 C C ?_
 refine Al<|Ge1 (Av (cs:=[_,_,_]) C C C) λb1=>Ge1 (Av (cs:=[_,_,_]) C C C) λb2=>Z ?_
 refine Gc0 (Ab c_ C C<|at1 (A3 hl)<|A3 aa) ?_
 refine Gm C<|A4 (d:=10) C (λM=>Z ?_)<|λM=>?_
 ·refine Dt (Cm C C C) (Ab c_ C C<|do2 (A3 hm)<|A3 ab) ?_
  rintro _ _ ⟨_,_,⟨rfl,rfl⟩,rfl,rfl⟩
  refine Z ?_
  exact Am C C I Ah ⟨by first|rfl|(rw [As rfl])|(rw [As ⟨rfl,rfl⟩])|(simp;done),rfl⟩
 exact absurd ⟨rfl,rfl⟩ M
theorem do5(hl:Sl κ I va es)(hm:Sl κ I ua ns)(aa:Sl κ I vb es)(ab:Sl κ I ub ns):eu prog κ 76 [.agg #[e7 nd,va,ua],.agg #[e7 nd,vb,ub]] I (λr J=>r = .bool true/\I=J):=by
 refine Ce2 Tryz.func76 C C ?_
 refine Al<|Ge1 (Av (cs:=[_,_,_]) C C C) λb1=>Ge1 (Av (cs:=[_,_,_]) C C C) λb2=>Z ?_
 refine Gc0 (Ab c_ C C<|at1 (A3 hl)<|A3 aa) ?_
 refine Gm C<|A4 (d:=10) C (λM=>Z ?_)<|λM=>?_
 ·refine Dt (Cm C C C) (Ab c_ C C<|do2 (A3 hm)<|A3 ab) ?_
  rintro _ _ ⟨_,_,⟨rfl,rfl⟩,rfl,rfl⟩
  refine Z ?_
  exact Am C C I Ah ⟨by first|rfl|(rw [As rfl])|(rw [As ⟨rfl,rfl⟩])|(simp;done),rfl⟩
 exact absurd ⟨rfl,rfl⟩ M
theorem do4(hl:Sl κ I va es)(hm:Sl κ I ua ns)(ae:Sl κ I vb es)(aj:Sl κ I ub ns):eu prog κ 77 [.agg #[e7 nd,va,e7 c,ua],.agg #[e7 nd,vb,e7 c,ub]] I (λr J=>r = .bool true/\I=J):=by
 refine Bx hm.le λai=>?_
 refine Ce2 Tryz.func77 C C ?_
 refine Al<|Ge1 (Av (cs:=[_,_,_,_]) C C C) λb1=>Ge1 (Av (cs:=[_,_,_,_]) C C C) λb2=>Z ?_
 refine Gc0 (Ab c_ C C<|at1 (A3 hl)<|A3 ae)<|Z ?_
 refine A4 (d:=12) C (λaa=>?_)<|λaa=>Z ?_
 ·exact absurd ⟨rfl,rfl⟩ aa
 refine A4 (d:=19) C (λM=>?_)<|λM=>Z ?_
 ·exact absurd rfl M
 refine Ao C (λab=>?_)<|λab=>Z ?_
 ·exact absurd rfl ab
 refine Dj (σ:=Nat) (λs=>[(5,e7 ((s:Nat):Int))]) (λ_=>[]) (λs=>(s<=ns.length)) (λs=>ns.length - s) 0 (show ((0:Nat)<=ns.length) from om) ?_
 rintro k hp
 have hk:=hp
 refine Z ?_
 refine Ao C (λah=>Z ?_)<|λah=>Z ?_
 ·refine A8 mixed (Ee 11<|Z ?_)
  refine Ao C (λad=>?_)<|λad=>Z ?_
  ·exact absurd rfl ad
  exact Bu ((k+1)) om
 exact Am C C I Ah ⟨by first|rfl|(rw [As rfl])|(rw [As ⟨rfl,rfl⟩])|(simp;done),rfl⟩
theorem do3{w:Int}(hl:Sl κ I va es)(hm:Sl κ I ua ns)(ah:Sl κ I vb es)(ak:Sl κ I ub ns):eu prog κ 78 [.agg #[e7 nd,va,e7 w,e7 c,ua],.agg #[e7 nd,vb,e7 w,e7 c,ub]] I (λr J=>r = .bool true/\I=J):=by
 refine Bx hm.le λaj=>?_
 refine Ce2 Tryz.func78 C C ?_
 refine Al<|Ge1 (Av (cs:=[_,_,_,_,_]) C C C) λb1=>Ge1 (Av (cs:=[_,_,_,_,_]) C C C) λb2=>Z ?_
 refine Gc0 (Ab c_ C C<|at1 (A3 hl)<|A3 ah)<|Z ?_
 refine A4 (d:=12) C (λaa=>?_)<|λaa=>Z ?_
 ·exact absurd ⟨rfl,rfl⟩ aa
 refine A4 (d:=19) C (λM=>?_)<|λM=>Z ?_
 ·exact absurd rfl M
 refine A4 (d:=26) C (λab=>?_)<|λab=>Z ?_
 ·exact absurd rfl ab
 refine Ao C (λae=>?_)<|λae=>Z ?_
 ·exact absurd rfl ae
 refine Dj (σ:=Nat) (λs=>[(5,e7 ((s:Nat):Int))]) (λ_=>[]) (λs=>(s<=ns.length)) (λs=>ns.length - s) 0 (show ((0:Nat)<=ns.length) from om) ?_
 rintro k hp
 have hk:=hp
 refine Z ?_
 refine Ao C (λai=>Z ?_)<|λai=>Z ?_
 ·refine A8 mixed (Ee 11<|Z ?_)
  refine Ao C (λad=>?_)<|λad=>Z ?_
  ·exact absurd rfl ad
  exact Bu ((k+1)) om
 exact Am C C I Ah ⟨by first|rfl|(rw [As rfl])|(rw [As ⟨rfl,rfl⟩])|(simp;done),rfl⟩
theorem cx0{kd wd mo bd:Int}{k:EnS}{v v2:KpV}(hF:KpF κ I nd k v)(M:KpF κ I nd k v2):eu prog κ 33 [.agg (kx kd wd mo bd nd k v).toArray,.agg (kx kd wd mo bd nd k v2).toArray] I (λr J=>r = .bool true/\I=J):=by
 refine Ce2 Tryz.func33 C C ?_
 refine Al<|Ge1 (Av (cs:=[_,_,_,_,_,_,_,_,_,_,_,_,_,_,_,_,_,_,_,_,_,_,_,_,_]) C C C) λb1=>Ge1 (Av (cs:=[_,_,_,_,_,_,_,_,_,_,_,_,_,_,_,_,_,_,_,_,_,_,_,_,_]) C C C) λb2=>Z ?_
 refine Gr (Fm (α:=Wn3) (a:=(⟨kd,wd,mo⟩:Wn3)) (b:=(⟨kd,wd,mo⟩:Wn3)) gg4 C C)<|Gm C<|A4 (d:=10) C (λab=>Z ?_)<|λab=>?_
 ·refine Dt (Cm C C C) (Ab c_ C C<|fc3 (Bd hF.w<|B4 (κ:=κ)<|by repeat (first|exact hH|exact Bh _|apply Bg|apply B2|apply Bp))<|Bd M.w<|B4 (κ:=κ)<|by repeat (first|exact hH|exact Bh _|apply Bg|apply B2|apply Bp)) ?_
  rintro _ _ ⟨_,_,⟨rfl,rfl⟩,rfl,rfl⟩
  refine Z ?_
  refine Dt (Cm C C C) (Ab c_ C C<|cp8 (Bd hF.l<|B4 (κ:=κ)<|by repeat (first|exact hH|exact Bh _|apply Bg|apply B2|apply Bp))<|Bd M.l<|B4 (κ:=κ)<|by repeat (first|exact hH|exact Bh _|apply Bg|apply B2|apply Bp)) ?_
  rintro _ _ ⟨_,_,⟨rfl,rfl⟩,rfl,rfl⟩
  refine Z ?_
  refine A4 (d:=24) C (λaa=>Z ?_)<|λaa=>?_
  ·refine Dt (Cm C C C) (Ab c_ C C<|do6 (Bd hF.p.e1<|B4 (κ:=κ)<|by repeat (first|exact hH|exact Bh _|apply Bg|apply B2|apply Bp)) (Bd hF.p.n1<|B4 (κ:=κ)<|by repeat (first|exact hH|exact Bh _|apply Bg|apply B2|apply Bp)) (Bd M.p.e1<|B4 (κ:=κ)<|by repeat (first|exact hH|exact Bh _|apply Bg|apply B2|apply Bp))<|Bd M.p.n1<|B4 (κ:=κ)<|by repeat (first|exact hH|exact Bh _|apply Bg|apply B2|apply Bp)) ?_
   rintro _ _ ⟨_,_,⟨rfl,rfl⟩,rfl,rfl⟩
   refine Z ?_
   refine Dt (Cm C C C) (Ab c_ C C<|do5 (Bd hF.p.e2<|B4 (κ:=κ)<|by repeat (first|exact hH|exact Bh _|apply Bg|apply B2|apply Bp)) (Bd hF.p.n2<|B4 (κ:=κ)<|by repeat (first|exact hH|exact Bh _|apply Bg|apply B2|apply Bp)) (Bd M.p.e2<|B4 (κ:=κ)<|by repeat (first|exact hH|exact Bh _|apply Bg|apply B2|apply Bp))<|Bd M.p.n2<|B4 (κ:=κ)<|by repeat (first|exact hH|exact Bh _|apply Bg|apply B2|apply Bp)) ?_
   rintro _ _ ⟨_,_,⟨rfl,rfl⟩,rfl,rfl⟩
   refine Z ?_
   refine Dt (Cm C C C) (Ab c_ C C<|do4 (Bd hF.p.e3<|B4 (κ:=κ)<|by repeat (first|exact hH|exact Bh _|apply Bg|apply B2|apply Bp)) (Bd hF.p.n3<|B4 (κ:=κ)<|by repeat (first|exact hH|exact Bh _|apply Bg|apply B2|apply Bp)) (Bd M.p.e3<|B4 (κ:=κ)<|by repeat (first|exact hH|exact Bh _|apply Bg|apply B2|apply Bp))<|Bd M.p.n3<|B4 (κ:=κ)<|by repeat (first|exact hH|exact Bh _|apply Bg|apply B2|apply Bp)) ?_
   rintro _ _ ⟨_,_,⟨rfl,rfl⟩,rfl,rfl⟩
   refine Z ?_
   refine Dt (Cm C C C) (Ab c_ C C<|do3 (Bd hF.p.e4<|B4 (κ:=κ)<|by repeat (first|exact hH|exact Bh _|apply Bg|apply B2|apply Bp)) (Bd hF.p.n4<|B4 (κ:=κ)<|by repeat (first|exact hH|exact Bh _|apply Bg|apply B2|apply Bp)) (Bd M.p.e4<|B4 (κ:=κ)<|by repeat (first|exact hH|exact Bh _|apply Bg|apply B2|apply Bp))<|Bd M.p.n4<|B4 (κ:=κ)<|by repeat (first|exact hH|exact Bh _|apply Bg|apply B2|apply Bp)) ?_
   rintro _ _ ⟨_,_,⟨rfl,rfl⟩,rfl,rfl⟩
   refine Z ?_
   exact Am C C I Ah ⟨by first|rfl|(rw [As rfl])|(rw [As ⟨rfl,rfl⟩])|(simp;done),rfl⟩
  exact absurd ⟨rfl,rfl⟩ aa
 exact absurd rfl ab
abbrev ah1:List Ev:=[⟨1,1,0,1,1,0,1⟩,⟨1,2,1,2,1,0,1⟩,⟨1,3,0,2,1,0,1⟩]
theorem by3:∀e∈ah1,H4 3 e:=λe M=>cf9.1 (by
 simp only [F_,Ke,Ms] at M
 rcases M with rfl|rfl|rfl<;>decide)
theorem by2:ge0 0 ah1=ah1:=by decide+kernel
theorem cg0:BfS.an8 0 ⟨-1, -1,[]⟩ ah1=0:=by decide+kernel
theorem dj6:(EnS.run 1 0 0 0 ah1).S=[⟨0,1,1,0,1,1⟩,⟨0,2,1,0,1,3⟩,⟨1,2,1,0,1,2⟩]:=by
 rw [run_eq,by2];decide+kernel
theorem gd4(T:Int)(S:List Lk)(o:List Ev)(e:Ev)(M:e.tm=T):p6 2 2 0 (S,o) e=(ep (bi2 2 0 T S o).1 e,(bi2 2 0 T S o).2++[e]):=by rw [←M];rfl
theorem by4:(EnS.run 2 2 0 0 ah1).S=[⟨0,2,1,0,1,3⟩,⟨1,2,1,0,1,2⟩]:=by
 have a1:p6 2 2 0 ([],[]) ⟨1,1,0,1,1,0,1⟩=([⟨0,1,1,0,1,1⟩],[⟨1,1,0,1,1,0,1⟩]):=by
  rw [gd4 1 _ _ _ rfl,Q6<|by decide+kernel];decide+kernel
 have a2:p6 2 2 0 ([⟨0,1,1,0,1,1⟩],[⟨1,1,0,1,1,0,1⟩]) ⟨1,2,1,2,1,0,1⟩=([⟨0,1,1,0,1,1⟩,⟨1,2,1,0,1,2⟩],[⟨1,1,0,1,1,0,1⟩,⟨1,2,1,2,1,0,1⟩]):=by
  rw [gd4 2 _ _ _ rfl,Q6<|by decide+kernel];decide+kernel
 have s3:List.filter (inW 2 2 0 (ab4 ([⟨0,1,1,0,1,1⟩,⟨1,2,1,0,1,2⟩]:List Lk)+2) [⟨0,1,1,0,1,1⟩,⟨1,2,1,0,1,2⟩]) ([⟨0,1,1,0,1,1⟩,⟨1,2,1,0,1,2⟩]:List Lk)=[⟨1,2,1,0,1,2⟩]:=by decide+kernel
 have M:(p6 2 2 0 ([⟨0,1,1,0,1,1⟩,⟨1,2,1,0,1,2⟩],[⟨1,1,0,1,1,0,1⟩,⟨1,2,1,2,1,0,1⟩]) ⟨1,3,0,2,1,0,1⟩).1=[⟨0,2,1,0,1,3⟩,⟨1,2,1,0,1,2⟩]:=by
  rw [gd4 3 _ _ _ rfl,ae3<|by decide+kernel,s3,Q6<|by decide+kernel];decide+kernel
 rw [run_eq,by2]
 show (p6 2 2 0 (p6 2 2 0 (p6 2 2 0 ([],[]) ⟨1,1,0,1,1,0,1⟩) ⟨1,2,1,2,1,0,1⟩) ⟨1,3,0,2,1,0,1⟩).1=_
 rw [a1,a2,M]
theorem bo1{κ:Ctx}{I:List Item}(hT:F4 κ I 0 p5):eu prog κ 11 [] I (λr J=>r = .bool true/\I=J):=by
 refine Ce0 Tryz.func11 C C<|Z ?_
 refine Ge1 (B1 (α:=Ev) (cs:=[e7 1,e7 1,e7 0,e7 1,e7 1,e7 0,e7 1,e7 1,e7 2,e7 1,e7 2,e7 1,e7 0,e7 1,e7 1,e7 3,e7 0,e7 2,e7 1,e7 0,e7 1]) (xs:=[⟨1,1,0,1,1,0,1⟩,⟨1,2,1,2,1,0,1⟩,⟨1,3,0,2,1,0,1⟩]) Ad z6 C C dc dc C kr C C) λaa=>Z ?_
 refine G.e (Ab c_ C C<|dq4 (T:=I) (evs:=ah1) (by repeat (first|exact Bh _|apply Bg|apply Bp)) A5 dc dc dc by3 dc<|Ba hT Ah) ?_
 rintro _ _ ⟨_,_,⟨M,Y3,rfl,an,rfl⟩,rfl,rfl⟩
 refine Dp (J:=vc 54 (.slice aa 3 3) (ah1)::(Y3++I)) (Cj<|Cz (A:=Y3) (L:=[vc 54 (.slice aa 3 3) ah1]) (T:=I))<|Z ?_
 refine Ge1 (Aj H2 C) λb4=>Ge0 (Eff.sq H2)<|Z ?_
 refine G.e (Ab c_ C C<|dq4 (T:=(Y3++I)) (evs:=ah1) (by repeat (first|exact Bh _|apply Bg|apply Bp)) A5 dc dc dc by3 dc<|Ba hT Ah) ?_
 rintro _ _ ⟨_,_,⟨ap,Y6,rfl,ae,rfl⟩,rfl,rfl⟩
 refine Dp (J:=e8 b4 (kx 2 2 0 0 3 ((EnS.run 2 2 0 0 ah1)) M) 47::vc 54 (.slice aa 3 3) (ah1)::(Y6++(Y3++I))) (Cj<|Cz (A:=Y6) (L:=[e8 b4 (kx 2 2 0 0 3 ((EnS.run 2 2 0 0 ah1)) M) 47,vc 54 (.slice aa 3 3) ah1]) (T:=(Y3++I)))<|Z ?_
 refine Ge1 (Aj H2 C) λb7=>Ge0 (Eff.sq H2)<|Z ?_
 refine A4 (d:=28) C (λai=>Z ?_)<|λai=>?_
 ·refine A4 (d:=32) C (λaj=>Z ?_) (λaj=>?_)
  ·refine A4 (d:=39) C (λah=>Z ?_) (λah=>?_)
   ·refine A4 (d:=45) C (λab=>Z ?_) (λab=>?_)
    ·refine A4 (d:=49) C (λad=>Z ?_) (λad=>?_)
     ·refine A4 (d:=55) C (λak=>Z ?_) (λak=>?_)
      ·refine Dt (Cm C C C) (B1 (α:=Int) (cs:=[_,_,_]) (xs:=[2,2,2]) Ac ef C C dc dc C C C C) ?_
       rintro _ _ ⟨ao,rfl,rfl⟩
       refine Dt (Cm C C C) (Ab c_ C C<|fj3 (KpF.fit ae<|B4 (κ:=κ)<|by repeat (first|exact Bh _|apply Bg|apply Bp)).p.n1 A5) ?_
       rintro _ _ ⟨_,_,⟨rfl,rfl⟩,rfl,rfl⟩
       refine Z ?_
       exact Am C C I (by first|exact Ah|exact Z1) ⟨rfl,rfl⟩
      exact absurd (show V6 3 (j6 (EnS.run 1 0 0 0 ah1).S) / 3=1 by rw [dj6];decide+kernel) ak
     exact absurd rfl ad
    exact absurd (show V6 3 (j6 (EnS.run 2 2 0 0 ah1).S) / 3=0 by rw [by4];decide+kernel) ab
   exact absurd (show (((EnS.run 2 2 0 0 ah1).S.length:Nat):Int)=2 by rw [by4];rfl) ah
  exact absurd (show ((BfS.an8 0 ⟨-1, -1,[]⟩ ah1:Nat):Int)=0 by rw [cg0];rfl) aj
 exact absurd rfl ai
end Go.Sl
namespace Go.Sl
open Go.Proofs
set_option maxRecDepth 4000
end Go.Sl
namespace Go.Sl
open Go.Proofs
set_option maxRecDepth 4000
variable{i most n:Int}{b:Nat}{lv:Value}{ls:List Int}
variable {κ:Ctx}{I:List Item}
attribute [local irreducible] W G V D A j8 Eff
theorem dw2{tt:Int}{out:List Ev}{e:Ev}(h:∀e∈out,H4 n e/\e.tm<=60)(M:H4 n e)(ht:e.tm=tt)(hb:tt<=60):∀a∈out++[e],H4 n a/\a.tm<=60:=λa ha=>by
 rcases Gw.1 ha with ha|ha
 ·exact h a ha
 rw [Gh.1 ha];exact ⟨M,by omega⟩
theorem cb6(hl:∀q,Sl κ (ao7 b lv q::I) lv ls)(h0:0<=i)(hn:2<=n/\n<=64)(hm:0<=most/\most<=20):eu prog κ 16 [(pt b),e7 n,e7 most] (e8 b [lv,e7 i] 85::I) (λr J=>∃y:(Option Addr)×Nat×(List Ev)×Int,((r = .slice y.1 y.2.2.1.length y.2.1/\((∀e∈y.2.2.1,H4 n e/\e.tm<=60)/\(y.2.2.1.length:Int)<=most))/\0<=y.2.2.2)/\J=[vk 54 y.1 y.2.1 y.2.2.1]++ao7 b lv y.2.2.2::I):=by
 refine Ce3 Tryz.func16 C C<|Z ?_
 refine G.e (Ab c_ C C<|P3 ta1 (Bd (hl _) Ah) om om) ?_
 rintro _ _ ⟨_,_,⟨x1,i2,rfl,ay,a0,rfl⟩,rfl,rfl⟩
 refine Ga C<|Ar<|A7<|Dj (σ:=Int×Int×(Option Addr)×Nat×(List Ev)×Int) (λs=>[(7,.slice s.2.2.1 s.2.2.2.2.1.length s.2.2.2.1),(8,e7<|s.2.2.2.2.2),(9,e7<|s.1)]) (λs=>[vk 54 s.2.2.1 s.2.2.2.1 s.2.2.2.2.1,e8 b [lv,e7<|s.2.1] 85]) (λs=>(0<=s.1/\(s.2.2.2.2.1.length:Int)+s.1<=most)/\(0<=s.2.1)/\(∀e∈s.2.2.2.2.1,H4 n e/\e.tm<=60)/\(5<=s.2.2.2.2.2/\s.2.2.2.2.2<=5+2*(s.2.2.2.2.1.length:Int))) (λs=>s.1.toNat) (x1,i2,none,0,[],5) ⟨tb3,om,(λe he=>by cases he),tb3⟩ (hI:=(B6 _ _)) ?_
 rintro ⟨kq,ab,a1,c1,out,tt⟩ hp
 dsimp only at hp ⊢
 obtain ⟨av,aq,hE,ax⟩:=hp
 refine Z ?_
 refine A4 (d:=16) C (λap=>Z ?_)<|λap=>Z ?_
 ·refine Ao C (λao=>Z ?_) (λao=>?_)
  ·refine G.e (Ab c_ C C<|P3 ta1 (Bd (hl _) Ah) om om) ?_
   rintro _ _ ⟨_,_,⟨x3,i4,rfl,a3,az,rfl⟩,rfl,rfl⟩
   refine Z ?_
   have ah:(if 0<(tt - x3) then (tt - x3) else 0)=max 0 ((tt - x3)):=by split<;>omega
   rw [ah]
   refine G.e (Ab c_ C C<|am1 ta1 (λ_=>Bd (hl _) Ah) om  om om) ?_
   rintro _ _ ⟨_,_,⟨⟨M,i6⟩,⟨⟨rfl,aa,ad⟩,ae⟩,rfl⟩,rfl,rfl⟩
   have ae:0<=i6:=ae
   dsimp only at aa
   dsimp only at ad
   refine Ge1 (B1 (α:=Ev) (cs:=(ez M)) (xs:=[⟨M.kd,M.tm,M.u,M.v,M.w,M.lb,M.sg⟩]) Ad z6 C C dc dc C kr C C) λaw=>?_
   refine Ge2 (Bs (α:=Ev) (e:=54) (xs:=out) (ys:=([M]:List Ev)) Ad z6 C C C mm A5 lcn dc C<|λ_ _=>am) λan ai=>Z ?_
   refine G.e (Ab c_ C C<|P3 ta1 (Bd (hl _) Ah) om om) ?_
   rintro _ _ ⟨_,_,⟨ak,aj,rfl,au,ar,rfl⟩,rfl,rfl⟩
   refine Z ?_
   exact Bu ((kq - 1),(aj),(an),(ai),(out++([M]:List Ev)),(tt+ak))<|by dsimp only;exact ⟨lap,om,(by first|exact dw2 hE asm asm om),lap⟩
  exact absurd hn.1 om
 exact Am C C (vk 54 a1 c1 out::e8 b [lv,e7 ab] 85::I) Ai ⟨(a1,c1,out,ab),⟨⟨rfl,⟨hE,by show (out.length:Int)<=most;omega⟩⟩,by show 0<=ab;omega⟩,rfl⟩
theorem cy3{F:Item->List Item}(M:AtF I (ao7 b lv i) F)(hl:∀q,Sl κ (F (ao7 b lv q)) lv ls)(h0:0<=i)(hn:2<=n/\n<=64)(hm:0<=most/\most<=20):eu prog κ 16 [(pt b),e7 n,e7 most] I λr J=>∃y:(Option Addr)×Nat×(List Ev)×Int,((r = .slice y.1 y.2.2.1.length y.2.1/\((∀e∈y.2.2.1,H4 n e/\e.tm<=60)/\(y.2.2.1.length:Int)<=most))/\0<=y.2.2.2)/\J=[vk 54 y.1 y.2.1 y.2.2.1]++F (ao7 b lv y.2.2.2):=
 Fq (Post:=λr (y:(Option Addr)×Nat×(List Ev)×Int)=>(r = .slice y.1 y.2.2.1.length y.2.1/\((∀e∈y.2.2.1,H4 n e/\e.tm<=60)/\(y.2.2.1.length:Int)<=most))/\0<=y.2.2.2) (Z:=λy:(Option Addr)×Nat×(List Ev)×Int=>[vk 54 y.1 y.2.1 y.2.2.1]) (X:=λy:(Option Addr)×Nat×(List Ev)×Int=>ao7 b lv y.2.2.2) M λJ _ hF=>cb6 (λq=>(hl q).fit (hF _)) h0  hn hm
end Go.Sl
namespace Go.Sl
open Go.Proofs
set_option maxRecDepth 4000
end Go.Sl
namespace Go.Sl
open Go.Proofs
set_option maxRecDepth 4000
variable{ws:List Ev}{k wc:Nat}{bd m:Int}{wa:Option Addr}
variable {κ:Ctx}{I:List Item}
attribute [local irreducible] W G V D A j8 Eff
theorem fb1(h:ws.Pairwise λa b=>a.tm<=b.tm)(h0:0<k)(M:k<ws.length):(e_ ws ((k:Int) - 1)).tm<=(e_ ws k).tm:=by
 have e:((k:Int) - 1)=((k - 1:Nat):Int):=by omega
 rw [e]
 exact (E4 ws).1 h (k - 1) k om M
theorem aj9(M:k<ws.length):(ao5 m (ws.take (k+1))=ao5 m (ws.take k)++if (e_ ws k).tm<=m then [e_ ws k] else [])/\(beyond m (ws.take (k+1))=beyond m (ws.take k)++if (e_ ws k).tm<=m then [] else [e_ ws k]):=by
 unfold ao5 beyond
 rw [Ca ws k M,Gu,Gu]
 by_cases h:(e_ ws k).tm<=m<;>simp [h]
theorem ax1{bf:BfS}(hl:Sl κ I (.slice wa bf.ws.length wc) bf.ws)(M:az2 bd bf)(hw:bf.ws.length<=4096):eu prog κ 111 [.agg #[e7 bd,e7 (bf.lt),e7 (bf.mr),.slice wa bf.ws.length wc]] I (λr J=>r = .bool true/\I=J):=by
 have aw:=M.bd
 have ax:=M.lt
 have au:=M.mr
 refine Ce1 Tryz.func111 C C ?_
 refine Al<|Ge1 (Av (cs:=[_,_,_,_]) C C C) λb1=>Z ?_
 refine A4 (d:=8) C (λg8=>?_)<|λg8=>Z ?_
 ·omega
 refine A4 (d:=13) C (λak=>?_)<|λak=>Z ?_
 ·omega
 refine A4 (d:=18) C (λan=>?_)<|λan=>Z ?_
 ·omega
 refine A4 (d:=25) C (λar=>?_)<|λar=>Z ?_
 ·omega
 refine A4 (d:=30) C (λae=>?_)<|λae=>Z ?_
 ·omega
 refine Ao C (λaj=>?_)<|λaj=>Z ?_
 ·omega
 refine Dj (σ:=Nat) (λs=>[(39,e7 ((s:Nat):Int))]) (λ_=>[]) (λs=>(s<=bf.ws.length)) (λs=>bf.ws.length - s) 0 om ?_
 rintro k hp
 have hk:=hp
 refine Z ?_
 refine Ao C (λaq=>Z ?_)<|λaq=>Z ?_
 ·have ad:=M.chk _ (Bo (xs:=bf.ws) (i:=(k:Int)) om om)
  have av:=M.rng _ (Bo (xs:=bf.ws) (i:=(k:Int)) om om)
  have ab:=λq:0<k=>fb1 M.asc (k:=k) q om
  refine Ge1 (Aj z6 C) λb2=>Ga C<|Ge0 (E5 z6) ?_
  refine Ar<|Ax<|A8 mixed<|Ee 33<|Z ?_
  refine Ds1 1<|Sc0 C (Ab c_ C C<|Z5<|e_ bf.ws k)<|Z ?_
  refine Df (d:=47) C (λaa=>?_)<|λaa=>Z ?_
  ·exact absurd ad aa
  refine Df (d:=54) C (λap=>?_)<|λap=>Z ?_
  ·omega
  refine Df (d:=61) C (λao=>?_)<|λao=>Z ?_
  ·omega
  refine Df (d:=64) C (λah=>Z ?_)<|λah=>?_
  ·refine Ao C (λai=>?_) (λai=>Z ?_)
   ·exact absurd (ab om) om
   exact Bu ((k+1)) om
  refine Dpo 21 C<|Z ?_
  exact Bu ((k+1)) om
 exact Am C C I Ah ⟨rfl,rfl⟩
theorem cp9{lt mr:Int}(hl:Sl κ I (.slice wa ws.length wc) ws)(hw:ws.length<=5000):eu prog κ 113 [.agg #[e7 bd,e7 lt,e7 mr,.slice wa ws.length wc],e7 m] I (λr J=>∃(a:Option Addr) (c:Nat) (a2:Option Addr) (c2:Nat),r = .tuple #[.agg #[e7 bd,e7 lt,e7 (max mr m),.slice a (beyond m ws).length c],.slice a2 (ao5 m ws).length c2]/\J=vk 54 a2 c2 (ao5 m ws)::vk 54 a c (beyond m ws)::I):=by
 refine Ce2 Tryz.func113 C C ?_
 refine Al<|Ge1 (Av (cs:=[_,_,_,_]) C C C) λb1=>Ge1 (Aj J6 C) λb2=>Z ?_
 refine B9 (σ:=Nat×(Option Addr)×Nat×(List Ev)×(Option Addr)×Nat×(List Ev)) (λs=>([(1,e7 m),(2,pt b1),(4,pt b2),(6,.slice s.2.1 s.2.2.2.1.length s.2.2.1),(7,.slice s.2.2.2.2.1 s.2.2.2.2.2.2.length s.2.2.2.2.2.1),(11,.slice wa ws.length wc),(12,e7 ((ws.length:Nat):Int)),(13,e7 ((s.1:Nat):Int))]:Env)) (λs=>vk 54 s.2.1 s.2.2.1 s.2.2.2.1::vk 54 s.2.2.2.2.1 s.2.2.2.2.2.1 s.2.2.2.2.2.2::e8 b2 [e7 0,e7 0,e7 0,.slice none 0 0] 32::e8 b1 [e7 bd,e7 lt,e7 mr,.slice wa ws.length wc] 32::I) (λs=>(s.1<=ws.length)/\(s.2.2.2.1=ao5 m (ws.take s.1))/\(s.2.2.2.2.2.2=beyond m (ws.take s.1))/\(s.2.2.2.1.length<=s.1/\s.2.2.2.2.2.2.length<=s.1)) (λs=>ws.length - s.1) (0,none,0,[],none,0,[]) ⟨om,rfl,rfl,(by simp)⟩ (cx2<|Aa C<|Aa (Da C<|by first|rfl|simp)<|Aa (Da C<|by first|rfl|simp)<|cx2<|Aa Cl Bb) (A9 (A9 (show Fit κ _ _ from Az)<|B6 (α:=Ev) _ _)<|B6 (α:=Ev) _ _) ?_
 rintro ⟨k,oa,oc,o,ra,rc,rs⟩ hp
 dsimp only at hp ⊢
 obtain ⟨hk,ho,hr,aj⟩:=hp
 refine Z ?_
 refine Ao C (λad=>Z ?_)<|λad=>Z ?_
 ·refine Ge1 (Aj z6 C) λb3=>Ge0 (E5 z6) (Z ?_)
  refine Ao C (λM=>Z ?_)<|λM=>Z ?_
  ·refine Ge1 (B1 (α:=Ev) (cs:=(ez (e_ ws k))) (xs:=[⟨(e_ ws k).kd,(e_ ws k).tm,(e_ ws k).u,(e_ ws k).v,(e_ ws k).w,(e_ ws k).lb,(e_ ws k).sg⟩]) Ad z6 C C dc dc C kr C C) λai=>?_
   refine Ge2 (Bs (α:=Ev) (e:=54) (xs:=o) (ys:=([⟨(e_ ws k).kd,(e_ ws k).tm,(e_ ws k).u,(e_ ws k).v,(e_ ws k).w,(e_ ws k).lb,(e_ ws k).sg⟩]:List Ev)) Ad z6 C C C mm A5 lcn dc C<|λ_ _=>am) λah aa=>Z ?_
   exact Bu ((k+1),(ah),(aa),(o++([⟨(e_ ws k).kd,(e_ ws k).tm,(e_ ws k).u,(e_ ws k).v,(e_ ws k).w,(e_ ws k).lb,(e_ ws k).sg⟩]:List Ev)),(ra),(rc),(rs))<|by dsimp only;exact ⟨om,(by rw [(aj9 om).1,←ho];first|(rw [B_ M];done)|(rw [B_ M];rfl)|(rw [An M,Gv])),(by rw [(aj9 om).2,←hr];first|(rw [An M];done)|(rw [An M];rfl)|(rw [B_ M,Gv])),olp⟩
  refine Ge1 (B1 (α:=Ev) (cs:=(ez (e_ ws k))) (xs:=[⟨(e_ ws k).kd,(e_ ws k).tm,(e_ ws k).u,(e_ ws k).v,(e_ ws k).w,(e_ ws k).lb,(e_ ws k).sg⟩]) Ad z6 C C dc dc C kr C C) λak=>?_
  refine Ge2 (Bs (α:=Ev) (e:=54) (xs:=rs) (ys:=([⟨(e_ ws k).kd,(e_ ws k).tm,(e_ ws k).u,(e_ ws k).v,(e_ ws k).w,(e_ ws k).lb,(e_ ws k).sg⟩]:List Ev)) Ad z6 C C C mm A5 lcn dc C<|λ_ _=>am) λab ae=>Z ?_
  exact Bu ((k+1),(oa),(oc),(o),(ab),(ae),(rs++([⟨(e_ ws k).kd,(e_ ws k).tm,(e_ ws k).u,(e_ ws k).v,(e_ ws k).w,(e_ ws k).lb,(e_ ws k).sg⟩]:List Ev)))<|by dsimp only;exact ⟨om,(by rw [(aj9 om).1,←ho];first|(rw [B_ M];done)|(rw [B_ M];rfl)|(rw [An M,Gv])),(by rw [(aj9 om).2,←hr];first|(rw [An M];done)|(rw [An M];rfl)|(rw [B_ M,Gv])),olp⟩
 refine Ge0 (Bt (cs:=[_,_,_,_]) (vs:=[_]) (cs':=[_,_,_,_]) ap1) ?_
 refine Gf cf8 C<|Ge0 (Bt (cs:=[_,_,_,_]) (vs:=[_]) (cs':=[_,_,_,_]) ef)<|Z ?_
 refine Ge0 (C9 J6)<|Z ?_
 rw [show ws.take k=ws from Fz om] at ho hr
 exact Cp C J6 C C mm C (vk 54 oa oc (ao5 m ws)::vk 54 ra rc (beyond m ws)::I) (by unfold vk;rw [←ho,←hr];exact Az) ⟨ra,rc,oa,oc,by rw [←ho,←hr,←an9],rfl⟩
end Go.Sl
