/- A part of the proofs of statements of this seat: contracts of functions, and the plain laws that they lean on. No conditions. -/
import Derived.Test.YtoagcglbkeomgaaGreatDoorV28
set_option linter.unusedVariables false
set_option linter.unusedSimpArgs false
set_option linter.unusedSectionVars false
open Go.Proofs.Tryz (prog)
set_option maxHeartbeats 4000000
namespace Go.Sl
open Go.Proofs
set_option maxRecDepth 4000
variable{c lt mr nd:Int}{T:List Item}{ua ub va vb:Value}{es:List Pt}{M ns:List Int}
attribute [local irreducible] W G V D A j8 Eff
theorem fg8{κ:Ctx}{I:List Item}{kd wd mo bd:Int}{k:EnS}{v:KpV}(hH:Has I T)(hF:KpF κ T nd k v)(hK:bj0 nd kd wd mo bd k)(M:k.b.ws.length<=4000){xe:Ev}(hx:H7 nd xe)(hT:F4 κ I 0 p6):eu prog κ 17 [.agg (kx kd wd mo bd nd k v).toArray,.agg (ez xe).toArray] I λr J=>(xe.tm<=k.b.mr/\r = .tuple #[.agg zk.toArray,.slice none 0 0,e7 10]/\I=J)\/(k.b.mr<xe.tm/\∃(v':KpV) (Y:List Item) (a:Option Addr) (c:Nat),r = .tuple #[.agg (kx kd wd mo bd nd ((k.feed kd wd mo bd xe)) v').toArray,.slice a ((k.da9 kd wd mo bd xe)).length c,e7 0]/\KpF κ (Y++T) nd (k.feed kd wd mo bd xe) v'/\Sl κ (Y++T) (.slice a ((k.da9 kd wd mo bd xe)).length c) (k.da9 kd wd mo bd xe)/\J=Y++I):=by
 by_cases ht:xe.tm<=k.b.mr
 ·exact (fg7 (hF.fit hH.fit) hK M hx ht hT).mono λr J h=> .inl ⟨ht,h⟩
 exact (ft2 hH hF hK M hx om hT).mono λr J h=> .inr ⟨by omega,h⟩
section
variable {kd wd mo bd:Int}{k k0:EnS}{evs:List Ev}{e:Ev}{i:Nat}
theorem cj6(M:k=k0.all kd wd mo bd (evs.take i))(hi:i<evs.length)(he:e_ evs i=e):k.next kd wd mo bd e=k0.all kd wd mo bd (evs.take (i+1)):=by
 rw [Ca evs i hi,EnS.fq6,←M,he];rfl
theorem du8(hk:k=k0.all kd wd mo bd (evs.take i))(hi:i<evs.length)(he:e_ evs i=e)(M:e.tm<=k.b.mr):k=k0.all kd wd mo bd (evs.take (i+1)):=by
 rw [←cj6 hk hi he];unfold EnS.next;rw [B_ M]
theorem du9(M:k=k0.all kd wd mo bd (evs.take i))(hi:i<evs.length)(he:e_ evs i=e)(ht:k.b.mr<e.tm):k.feed kd wd mo bd e=k0.all kd wd mo bd (evs.take (i+1)):=by
 rw [←cj6 M hi he];unfold EnS.next;rw [An om]
theorem dd8(hk:k=k0.all kd wd mo bd (evs.take i))(hi:i<evs.length)(he:e_ evs i=e):BfS.ao3 bd k0.b (evs.take (i+1))=BfS.ao3 bd k0.b (evs.take i)+(if e.tm<=k.b.mr then 1 else 0):=by
 have M:=(cg8 (kd:=kd) (wd:=wd) (mo:=mo) (bd:=bd) (evs.take i) k0).1
 have h2:k.b=k0.b.all bd (evs.take i):=by rw [hk,M];rfl
 rw [Ca evs i hi,BfS.by3,he,h2];rfl
theorem bg2(k:EnS)(e:Ev):(k.feed kd wd mo bd e).b.ws.length<=k.b.ws.length+1:=bx0 k.b bd e
end
theorem bm8(bd:Int):∀(l:List Ev) (s:BfS),BfS.ao3 bd s l<=l.length
 |[],s=>Gd _
 |e::l,s=>by
  have h:=bm8 bd l (s.next bd e)
  show (if e.tm<=s.mr then 1 else 0)+BfS.ao3 bd (s.next bd e) l<=l.length+1
  split<;>omega
theorem dh9(bd:Int)(s:BfS)(l:List Ev):BfS.ao3 bd s l<=l.length:=bm8 bd l s
theorem dr3{κ:Ctx}{I:List Item}{kd wd mo bd:Int}{evs:List Ev}{ea:Option Addr}{ec:Nat}(hH:Has I T)(he:Sl κ I (.slice ea evs.length ec) evs)(ai:0<=nd/\nd<=64)(hw:s7 kd wd mo=0)(hb:0<=bd/\bd<=1048576)(ap:∀e∈evs,H7 nd e)(a5:evs.length<=4000)(hT:F4 κ I 0 p6):eu prog κ 30 [e7 nd,e7 bd,.agg #[e7 kd,e7 wd,e7 mo],.slice ea evs.length ec] I (λr J=>∃(v':KpV) (Y:List Item),r = .tuple #[.agg (kx kd wd mo bd nd ((EnS.run kd wd mo bd evs)) v').toArray,e7 (((BfS.ao3 bd ⟨-1, -1,[]⟩ evs):Nat):Int),e7 0]/\KpF κ (Y++T) nd (EnS.run kd wd mo bd evs) v'/\J=Y++I):=by
 refine Ce4 Tryz.func30 C C ?_
 refine Ak<|Ge1 (Au (cs:=[_,_,_]) C C C) λb1=>Ge1 (Aj H2 C) λb2=>Z ?_
 refine G.e (Ac c_ C C<|ff9 (nd:=nd) (bd:=bd) T ai hw hb<|A8 hT Ah) ?_
 rintro _ _ ⟨_,_,⟨av,Y4,rfl,ae,rfl⟩,rfl,rfl⟩
 refine Dq (J:=e8 b2 zk 47::e8 b1 [e7 kd,e7 wd,e7 mo] 29::(Y4++I)) (Cj<|C1 (A:=Y4) (L:=[e8 b2 zk 47,e8 b1 [e7 kd,e7 wd,e7 mo] 29]) (T:=I))<|Z ?_
 refine Ge1 (Aj H2 C) λb5=>Ge0 (Eff.sq H2)<|Z ?_
 refine Am C (λao=>?_)<|λao=>Z ?_
 ·exact absurd ao dc
 refine B9 (σ:=Nat×EnS×KpV×(List Item)×Nat) (λs=>([(8,pt b2),(11,pt b5),(13,e7 ((s.2.2.2.2:Nat):Int)),(30,.slice ea evs.length ec),(31,e7 ((evs.length:Nat):Int)),(32,e7 ((s.1:Nat):Int))]:Env)) (λs=>e8 b5 (kx kd wd mo bd nd s.2.1 s.2.2.1) 47::e8 b2 zk 47::e8 b1 [e7 kd,e7 wd,e7 mo] 29::(s.2.2.2.1++I)) (λs=>(s.1<=evs.length)/\(s.2.1=(⟨⟨-1, -1,[]⟩,[],0⟩:EnS).all kd wd mo bd (evs.take s.1))/\(s.2.2.2.2=BfS.ao3 bd ⟨-1, -1,[]⟩ (evs.take s.1))/\(bj0 nd kd wd mo bd s.2.1)/\(KpF κ (s.2.2.2.1++T) nd s.2.1 s.2.2.1)/\(s.2.1.b.ws.length<=s.1)) (λs=>evs.length - s.1) (0,(⟨⟨-1, -1,[]⟩,[],0⟩:EnS),av,Y4,0) ⟨om,rfl,rfl,(bj0.open_ ai hw hb),ae,(by show (0:Nat)<=0;omega)⟩ (cx2<|Aa Co<|cx2<|Aa Co Bb) Az ?_
 rintro ⟨i,k,v,Y,n⟩ hp
 dsimp only at hp ⊢
 obtain ⟨hi,hk,hn,hK,hF,a1⟩:=hp
 have a0:n<=i:=by rw [hn];exact G_ (dh9 _ _ _) (by rw [Fp];omega)
 refine Z ?_
 refine Am C (λaq=>Z ?_)<|λaq=>Z ?_
 ·have ab:=ap _ (Bp (xs:=evs) (i:=(i:Int)) om om)
  generalize hxe:e_ evs i=xe at ab ⊢
  refine Ge1 (Aj s9 C) λb6=>Ge0 (au3 s9)<|Z ?_
  refine G.e (Ac c_ C C<|fg8 (T:=(Y++T)) (k:=k) (v:=v) ta2 hF hK om ab<|A8 hT Ah) ?_
  rintro _ _ ⟨_,_,(⟨M,rfl,rfl⟩|⟨M,ar,Y8,a4,aw,rfl,an,az,rfl⟩),rfl,rfl⟩
  ·skip
   refine Z ?_
   refine Ge1 (Aj H2 C) λa3=>Ge0 (Eff.sq H2)<|Z ?_
   refine Am C (λaa=>?_)<|λaa=>Z ?_
   ·exact absurd aa dc
   refine Am C (λaj=>Z ?_)<|λaj=>?_
   ·exact Bt ((i+1),(k),(v),(Y),(n+1))<|by dsimp only;exact ⟨om,(du8 hk om hxe M),(by rw [dd8 (k0:=(⟨⟨-1, -1,[]⟩,[],0⟩:EnS)) hk om hxe,B_ M,hn]),hK,hF,om⟩
   exact absurd dc aj
  refine Dq (J:=e8 b6 (ez xe) 54::e8 b5 (kx kd wd mo bd nd k v) 47::e8 b2 zk 47::e8 b1 [e7 kd,e7 wd,e7 mo] 29::(Y8++(Y++I))) (Cj<|C1 (A:=Y8) (L:=[e8 b6 (ez xe) 54,e8 b5 (kx kd wd mo bd nd k v) 47,e8 b2 zk 47,e8 b1 [e7 kd,e7 wd,e7 mo] 29]) (T:=(Y++I)))<|Z ?_
  refine Ge1 (Aj H2 C) λa6=>Ge0 (Eff.sq H2)<|Z ?_
  refine Am C (λaa=>Z ?_)<|λaa=>?_
  ·refine Ge0 (Eff.sq H2) (Z ?_)
   exact Bt ((i+1),((k.feed kd wd mo bd xe)),(ar),((Y8++Y)),(n)) (by dsimp only;exact ⟨om,(du9 hk om hxe M),(by rw [dd8 (k0:=(⟨⟨-1, -1,[]⟩,[],0⟩:EnS)) hk om hxe,An om,hn];rfl),(hK.feed ab M),(by rw [Fr];exact an),(by have h9:=bg2 (kd:=kd) (wd:=wd) (mo:=mo) (bd:=bd) k xe;omega)⟩) (hI:=by (try dsimp only);exact ta7)
  exact absurd dc aa
 refine G.e (Ac c_ C C<|fg4 (T:=(Y++T)) (k:=k) (v:=v) ta2 hF hK om<|A8 hT Ah) ?_
 rintro _ _ ⟨_,_,⟨ak,Y14,ay,ax,rfl,ad,au,rfl⟩,rfl,rfl⟩
 refine Dq (J:=e8 b5 (kx kd wd mo bd nd k v) 47::e8 b2 zk 47::e8 b1 [e7 kd,e7 wd,e7 mo] 29::(Y14++(Y++I))) (Cj<|C1 (A:=Y14) (L:=[e8 b5 (kx kd wd mo bd nd k v) 47,e8 b2 zk 47,e8 b1 [e7 kd,e7 wd,e7 mo] 29]) (T:=(Y++I)))<|Z ?_
 refine Ge0 (Eff.sq H2)<|Z ?_
 refine Am C (λah=>?_)<|λah=>Z ?_
 ·exact absurd ah dc
 refine Ge0 (Eff.sq H2)<|Z ?_
 rw [show evs.take i=evs from Fv om] at hk hn
 have hR:(EnS.run kd wd mo bd evs)=k.flush kd wd mo:=by rw [hk];rfl
 rw [hR,←hn]
 exact Cu C H2 C C C mm C (((Y14++Y)++I)) ta7 ⟨ak,(Y14++Y),rfl,(by rw [Fr];exact ad),rfl⟩
theorem ax4{κ:Ctx}{I:List Item}{la:Option Addr}{lc:Nat}{S:List Lk}{kd wd mo bd tm:Int}{wa:Option Addr}{wn wc:Nat}{y0 y1 y2 y3 y4 y5 y6 y7 y8 y9 a1 av ax a0 ay:Value}(hl:Sl κ I (.slice la S.length lc) S)(hv:q7 nd S=0)(h1:1<=nd):eu prog κ 121 [.agg #[e7 kd,e7 wd,e7 mo,e7 bd,e7 lt,e7 mr,.slice wa wn wc,e7 nd,.slice la S.length lc,y0,y1,y2,y3,y4,y5,y6,y7,y8,y9,a1,av,ax,a0,ay,e7 tm]] I (λr J=>∃(pv:PkV) (Y:List Item),r = .agg (ky kd wd mo bd lt mr wa wn wc nd la S.length lc (j5 S) pv tm).toArray/\PkR κ Y nd (j5 S) pv/\J=Y++I):=by
 have M:=F1 hv
 have az:=q9 M
 have aw:=az
 rw [G5] at aw
 have a3:=M.rng
 refine Ce1 Tryz.func121 C C ?_
 refine Ak<|Ge1 (Au (cs:=[_,_,_,_,_,_,_,_,_,_,_,_,_,_,_,_,_,_,_,_,_,_,_,_,_]) C C C) λb1=>Ge1 (Aj H2 C) λb2=>Z ?_
 refine G.e (Ac c_ C C<|dr6 (nd:=nd) (A4 hl) hv om) ?_
 rintro _ _ ⟨_,_,⟨an,ao,rfl,rfl⟩,rfl,rfl⟩
 refine Z ?_
 refine Ge1 (Aj J8 C) λb5=>Ge0 (Cs J8)<|Z ?_
 refine G.e (Ac c_ C C<|dq4 (nd:=nd) A5 M om) ?_
 rintro _ _ ⟨_,_,⟨ar,ap,aq,au,rfl,rfl⟩,rfl,rfl⟩
 refine Z ?_
 refine Ge0 (Bs (cs:=[_,_,_,_,_,_,_,_,_,_,_,_,_,_,_,_,_,_,_,_,_,_,_,_,_]) (vs:=[_,_,_]) (cs':=[_,_,_,_,_,_,_,_,_,_,_,_,_,_,_,_,_,_,_,_,_,_,_,_,_]) ab7)<|Z ?_
 refine G.e (Ac c_ C C<|dq3 (nd:=nd) A5 M) ?_
 rintro _ _ ⟨_,_,⟨ad,aa,ai,ab,rfl,rfl⟩,rfl,rfl⟩
 refine Z ?_
 refine Ge0 (Bs (cs:=[_,_,_,_,_,_,_,_,_,_,_,_,_,_,_,_,_,_,_,_,_,_,_,_,_]) (vs:=[_,_,_]) (cs':=[_,_,_,_,_,_,_,_,_,_,_,_,_,_,_,_,_,_,_,_,_,_,_,_,_]) L4)<|Z ?_
 refine Gc2 (Ac c_ C C<|dq2 (nd:=nd) A5 M) λae ak=>Z ?_
 refine Ge0 (Bs (cs:=[_,_,_,_,_,_,_,_,_,_,_,_,_,_,_,_,_,_,_,_,_,_,_,_,_]) (vs:=[_,_,_,_]) (cs':=[_,_,_,_,_,_,_,_,_,_,_,_,_,_,_,_,_,_,_,_,_,_,_,_,_]) ad3)<|Z ?_
 refine Gc2 (Ac c_ C C<|dq1 (nd:=nd) A5 M) λaj ah=>Z ?_
 refine Ge0 (Bs (cs:=[_,_,_,_,_,_,_,_,_,_,_,_,_,_,_,_,_,_,_,_,_,_,_,_,_]) (vs:=[_,_,_,_,_]) (cs':=[_,_,_,_,_,_,_,_,_,_,_,_,_,_,_,_,_,_,_,_,_,_,_,_,_]) V6)<|Z ?_
 refine Ge0 (Eff.sq H2) ?_
 exact Ar<|B3<|Ek C H2 C mm C (vk 3 aj ah (r8 nd<|j5 S)::vk 3 ae ak (H3 nd<|j5 S)::vk 105 ad aa (j5 S)::vk 3 ai ab (j6 nd<|j5 S)::vk 105 ar ap (j5 S)::vk 3 aq au (j9 nd<|j5 S)::vk 105 an ao (j5 S)::I) Az ⟨⟨⟨ar,ap⟩,⟨aq,au⟩,⟨ad,aa⟩,⟨ai,ab⟩,⟨an,ao⟩,⟨ae,ak⟩,⟨an,ao⟩,⟨aj,ah⟩⟩,[vk 3 aj ah (r8 nd<|j5 S),vc 3 (.slice ae (H3 nd<|j5 S).length ak)<|H3 nd<|j5 S,vc 105 (.slice ad (j5 S).length aa)<|j5 S,vc 3 (.slice ai (j6 nd<|j5 S).length ab)<|j6 nd<|j5 S,vc 105 (.slice ar (j5 S).length ap)<|j5 S,vc 3 (.slice aq (j9 nd<|j5 S).length au)<|j9 nd<|j5 S,vc 105 (.slice an (j5 S).length ao)<|j5 S],rfl,⟨A5,A5,A5,A5,A5,A5,A5,A5⟩,rfl⟩
variable {κ:Ctx}{I:List Item}
structure Wn3 where
 k:Int
 w:Int
 m:Int
deriving DecidableEq,Inhabited
instance:Enc Wn3:=⟨λa=>[e7 a.k,e7 a.w,e7 a.m],3,by omega,λ_=>rfl,λa x h=>by
 simp only [Fw,Kb,Mo] at h
 rcases h with rfl|rfl|rfl<;>rfl⟩
theorem gh6:EqT prog 29 Wn3:=EqT.flat (λp:Wn3=>[p.k,p.w,p.m]) (λ_=>rfl) (λx y h=>by cases x;cases y;simpa using h) (n:=3) (λ_=>rfl) kr kr kr kr kr
theorem fd3{bd:Int}{xs:List Ev}(hl:Sl κ I va xs)(hm:Sl κ I vb xs):eu prog κ 74 [.agg #[e7 bd,e7 lt,e7 mr,va],.agg #[e7 bd,e7 lt,e7 mr,vb]] I (λr J=>r = .bool true/\I=J):=by
 refine Ce2 Tryz.func74 C C ?_
 refine Ak<|Ge1 (Au (cs:=[_,_,_,_]) C C C) λb1=>Ge1 (Au (cs:=[_,_,_,_]) C C C) λb2=>Z ?_
 refine A3 (d:=10) C (λM=>Z ?_)<|λM=>?_
 ·refine A3 (d:=17) C (λaa=>Z ?_) (λaa=>?_)
  ·refine A3 (d:=24) C (λab=>Z ?_) (λab=>?_)
   ·refine Ds (Cn C C C) (Ac c_ C C<|fd5 (A4 hl)<|A4 hm) ?_
    rintro _ _ ⟨_,_,⟨rfl,rfl⟩,rfl,rfl⟩
    refine Z ?_
    exact Al C C I Ah ⟨by first|rfl|(rw [As rfl])|(rw [As ⟨rfl,rfl⟩])|(simp;done),rfl⟩
   exact absurd rfl ab
  exact absurd rfl aa
 exact absurd rfl M
theorem dp5(hl:Sl κ I va es)(hm:Sl κ I ua ns)(aa:Sl κ I vb es)(ab:Sl κ I ub ns):eu prog κ 75 [.agg #[e7 nd,va,ua],.agg #[e7 nd,vb,ub]] I (λr J=>r = .bool true/\I=J):=by
 refine Ce2 Tryz.func75 C C ?_
 refine Ak<|Ge1 (Au (cs:=[_,_,_]) C C C) λb1=>Ge1 (Au (cs:=[_,_,_]) C C C) λb2=>Z ?_
 refine Gc0 (Ac c_ C C<|at6 (A4 hl)<|A4 aa) ?_
 refine Gm C<|A3 (d:=10) C (λM=>Z ?_)<|λM=>?_
 ·refine Ds (Cn C C C) (Ac c_ C C<|dp1 (A4 hm)<|A4 ab) ?_
  rintro _ _ ⟨_,_,⟨rfl,rfl⟩,rfl,rfl⟩
  refine Z ?_
  exact Al C C I Ah ⟨by first|rfl|(rw [As rfl])|(rw [As ⟨rfl,rfl⟩])|(simp;done),rfl⟩
 exact absurd ⟨rfl,rfl⟩ M
theorem dp4(hl:Sl κ I va es)(hm:Sl κ I ua ns)(aa:Sl κ I vb es)(ab:Sl κ I ub ns):eu prog κ 76 [.agg #[e7 nd,va,ua],.agg #[e7 nd,vb,ub]] I (λr J=>r = .bool true/\I=J):=by
 refine Ce2 Tryz.func76 C C ?_
 refine Ak<|Ge1 (Au (cs:=[_,_,_]) C C C) λb1=>Ge1 (Au (cs:=[_,_,_]) C C C) λb2=>Z ?_
 refine Gc0 (Ac c_ C C<|at6 (A4 hl)<|A4 aa) ?_
 refine Gm C<|A3 (d:=10) C (λM=>Z ?_)<|λM=>?_
 ·refine Ds (Cn C C C) (Ac c_ C C<|dp1 (A4 hm)<|A4 ab) ?_
  rintro _ _ ⟨_,_,⟨rfl,rfl⟩,rfl,rfl⟩
  refine Z ?_
  exact Al C C I Ah ⟨by first|rfl|(rw [As rfl])|(rw [As ⟨rfl,rfl⟩])|(simp;done),rfl⟩
 exact absurd ⟨rfl,rfl⟩ M
theorem dp3(hl:Sl κ I va es)(hm:Sl κ I ua M)(ah:Sl κ I vb es)(ak:Sl κ I ub M):eu prog κ 77 [.agg #[e7 nd,va,e7 c,ua],.agg #[e7 nd,vb,e7 c,ub]] I (λr J=>r = .bool true/\I=J):=by
 refine Bv hm.le λaj=>?_
 refine Ce2 Tryz.func77 C C ?_
 refine Ak<|Ge1 (Au (cs:=[_,_,_,_]) C C C) λb1=>Ge1 (Au (cs:=[_,_,_,_]) C C C) λb2=>Z ?_
 refine Gc0 (Ac c_ C C<|at6 (A4 hl)<|A4 ah)<|Z ?_
 refine A3 (d:=12) C (λae=>?_)<|λae=>Z ?_
 ·exact absurd ⟨rfl,rfl⟩ ae
 refine A3 (d:=19) C (λab=>?_)<|λab=>Z ?_
 ·exact absurd rfl ab
 refine Am C (λad=>?_)<|λad=>Z ?_
 ·exact absurd rfl ad
 refine Dh (σ:=Nat) (λs=>[(5,e7 ((s:Nat):Int))]) (λ_=>[]) (λs=>(s<=M.length)) (λs=>M.length - s) 0 (show ((0:Nat)<=M.length) from om) ?_
 rintro k hp
 have hk:=hp
 refine Z ?_
 refine Am C (λai=>Z ?_)<|λai=>Z ?_
 ·refine Ba mixed (Ee 11<|Z ?_)
  refine Am C (λaa=>?_)<|λaa=>Z ?_
  ·exact absurd rfl aa
  exact Bt ((k+1)) om
 exact Al C C I Ah ⟨by first|rfl|(rw [As rfl])|(rw [As ⟨rfl,rfl⟩])|(simp;done),rfl⟩
theorem dp2{w:Int}(hl:Sl κ I va es)(hm:Sl κ I ua M)(ai:Sl κ I vb es)(an:Sl κ I ub M):eu prog κ 78 [.agg #[e7 nd,va,e7 w,e7 c,ua],.agg #[e7 nd,vb,e7 w,e7 c,ub]] I (λr J=>r = .bool true/\I=J):=by
 refine Bv hm.le λak=>?_
 refine Ce2 Tryz.func78 C C ?_
 refine Ak<|Ge1 (Au (cs:=[_,_,_,_,_]) C C C) λb1=>Ge1 (Au (cs:=[_,_,_,_,_]) C C C) λb2=>Z ?_
 refine Gc0 (Ac c_ C C<|at6 (A4 hl)<|A4 ai)<|Z ?_
 refine A3 (d:=12) C (λah=>?_)<|λah=>Z ?_
 ·exact absurd ⟨rfl,rfl⟩ ah
 refine A3 (d:=19) C (λab=>?_)<|λab=>Z ?_
 ·exact absurd rfl ab
 refine A3 (d:=26) C (λad=>?_)<|λad=>Z ?_
 ·exact absurd rfl ad
 refine Am C (λae=>?_)<|λae=>Z ?_
 ·exact absurd rfl ae
 refine Dh (σ:=Nat) (λs=>[(5,e7 ((s:Nat):Int))]) (λ_=>[]) (λs=>(s<=M.length)) (λs=>M.length - s) 0 (show ((0:Nat)<=M.length) from om) ?_
 rintro k hp
 have hk:=hp
 refine Z ?_
 refine Am C (λaj=>Z ?_)<|λaj=>Z ?_
 ·refine Ba mixed (Ee 11<|Z ?_)
  refine Am C (λaa=>?_)<|λaa=>Z ?_
  ·exact absurd rfl aa
  exact Bt ((k+1)) om
 exact Al C C I Ah ⟨by first|rfl|(rw [As rfl])|(rw [As ⟨rfl,rfl⟩])|(simp;done),rfl⟩
theorem cx6{kd wd mo bd:Int}{k:EnS}{v v2:KpV}(hF:KpF κ I nd k v)(M:KpF κ I nd k v2):eu prog κ 33 [.agg (kx kd wd mo bd nd k v).toArray,.agg (kx kd wd mo bd nd k v2).toArray] I (λr J=>r = .bool true/\I=J):=by
 refine Ce2 Tryz.func33 C C ?_
 refine Ak<|Ge1 (Au (cs:=[_,_,_,_,_,_,_,_,_,_,_,_,_,_,_,_,_,_,_,_,_,_,_,_,_]) C C C) λb1=>Ge1 (Au (cs:=[_,_,_,_,_,_,_,_,_,_,_,_,_,_,_,_,_,_,_,_,_,_,_,_,_]) C C C) λb2=>Z ?_
 refine Gr (j8.fu1 (α:=Wn3) (a:=(⟨kd,wd,mo⟩:Wn3)) (b:=(⟨kd,wd,mo⟩:Wn3)) gh6 C C)<|Gm C<|A3 (d:=10) C (λaa=>Z ?_)<|λaa=>?_
 ·refine Ds (Cn C C C) (Ac c_ C C<|fd3 (Bg hF.w<|B0 (κ:=κ)<|by repeat (first|exact hH|exact Bf _|apply Be|apply B4|apply Bn))<|Bg M.w<|B0 (κ:=κ)<|by repeat (first|exact hH|exact Bf _|apply Be|apply B4|apply Bn)) ?_
  rintro _ _ ⟨_,_,⟨rfl,rfl⟩,rfl,rfl⟩
  refine Z ?_
  refine Ds (Cn C C C) (Ac c_ C C<|fd4 (Bg hF.l<|B0 (κ:=κ)<|by repeat (first|exact hH|exact Bf _|apply Be|apply B4|apply Bn))<|Bg M.l<|B0 (κ:=κ)<|by repeat (first|exact hH|exact Bf _|apply Be|apply B4|apply Bn)) ?_
  rintro _ _ ⟨_,_,⟨rfl,rfl⟩,rfl,rfl⟩
  refine Z ?_
  refine A3 (d:=24) C (λab=>Z ?_)<|λab=>?_
  ·refine Ds (Cn C C C) (Ac c_ C C<|dp5 (Bg hF.p.e1<|B0 (κ:=κ)<|by repeat (first|exact hH|exact Bf _|apply Be|apply B4|apply Bn)) (Bg hF.p.n1<|B0 (κ:=κ)<|by repeat (first|exact hH|exact Bf _|apply Be|apply B4|apply Bn)) (Bg M.p.e1<|B0 (κ:=κ)<|by repeat (first|exact hH|exact Bf _|apply Be|apply B4|apply Bn))<|Bg M.p.n1<|B0 (κ:=κ)<|by repeat (first|exact hH|exact Bf _|apply Be|apply B4|apply Bn)) ?_
   rintro _ _ ⟨_,_,⟨rfl,rfl⟩,rfl,rfl⟩
   refine Z ?_
   refine Ds (Cn C C C) (Ac c_ C C<|dp4 (Bg hF.p.e2<|B0 (κ:=κ)<|by repeat (first|exact hH|exact Bf _|apply Be|apply B4|apply Bn)) (Bg hF.p.n2<|B0 (κ:=κ)<|by repeat (first|exact hH|exact Bf _|apply Be|apply B4|apply Bn)) (Bg M.p.e2<|B0 (κ:=κ)<|by repeat (first|exact hH|exact Bf _|apply Be|apply B4|apply Bn))<|Bg M.p.n2<|B0 (κ:=κ)<|by repeat (first|exact hH|exact Bf _|apply Be|apply B4|apply Bn)) ?_
   rintro _ _ ⟨_,_,⟨rfl,rfl⟩,rfl,rfl⟩
   refine Z ?_
   refine Ds (Cn C C C) (Ac c_ C C<|dp3 (Bg hF.p.e3<|B0 (κ:=κ)<|by repeat (first|exact hH|exact Bf _|apply Be|apply B4|apply Bn)) (Bg hF.p.n3<|B0 (κ:=κ)<|by repeat (first|exact hH|exact Bf _|apply Be|apply B4|apply Bn)) (Bg M.p.e3<|B0 (κ:=κ)<|by repeat (first|exact hH|exact Bf _|apply Be|apply B4|apply Bn))<|Bg M.p.n3<|B0 (κ:=κ)<|by repeat (first|exact hH|exact Bf _|apply Be|apply B4|apply Bn)) ?_
   rintro _ _ ⟨_,_,⟨rfl,rfl⟩,rfl,rfl⟩
   refine Z ?_
   refine Ds (Cn C C C) (Ac c_ C C<|dp2 (Bg hF.p.e4<|B0 (κ:=κ)<|by repeat (first|exact hH|exact Bf _|apply Be|apply B4|apply Bn)) (Bg hF.p.n4<|B0 (κ:=κ)<|by repeat (first|exact hH|exact Bf _|apply Be|apply B4|apply Bn)) (Bg M.p.e4<|B0 (κ:=κ)<|by repeat (first|exact hH|exact Bf _|apply Be|apply B4|apply Bn))<|Bg M.p.n4<|B0 (κ:=κ)<|by repeat (first|exact hH|exact Bf _|apply Be|apply B4|apply Bn)) ?_
   rintro _ _ ⟨_,_,⟨rfl,rfl⟩,rfl,rfl⟩
   refine Z ?_
   exact Al C C I Ah ⟨by first|rfl|(rw [As rfl])|(rw [As ⟨rfl,rfl⟩])|(simp;done),rfl⟩
  exact absurd ⟨rfl,rfl⟩ ab
 exact absurd rfl aa
abbrev ah6:List Ev:=[⟨1,1,0,1,1,0,1⟩,⟨1,2,1,2,1,0,1⟩,⟨1,3,0,2,1,0,1⟩]
theorem by8:∀e∈ah6,H7 3 e:=λe M=>cf9.1 (by
 simp only [Fw,Kb,Mo] at M
 rcases M with rfl|rfl|rfl<;>decide)
theorem by7:gf1 0 ah6=ah6:=by decide+kernel
theorem cg0:BfS.ao3 0 ⟨-1, -1,[]⟩ ah6=0:=by decide+kernel
theorem dk4:(EnS.run 1 0 0 0 ah6).S=[⟨0,1,1,0,1,1⟩,⟨0,2,1,0,1,3⟩,⟨1,2,1,0,1,2⟩]:=by
 rw [run_eq,by7];decide+kernel
theorem ge5(T:Int)(S:List Lk)(o:List Ev)(e:Ev)(M:e.tm=T):p5 2 2 0 (S,o) e=(ep (bi9 2 0 T S o).1 e,(bi9 2 0 T S o).2++[e]):=by rw [←M];rfl
theorem by9:(EnS.run 2 2 0 0 ah6).S=[⟨0,2,1,0,1,3⟩,⟨1,2,1,0,1,2⟩]:=by
 have a1:p5 2 2 0 ([],[]) ⟨1,1,0,1,1,0,1⟩=([⟨0,1,1,0,1,1⟩],[⟨1,1,0,1,1,0,1⟩]):=by
  rw [ge5 1 _ _ _ rfl,Q5<|by decide+kernel];decide+kernel
 have a2:p5 2 2 0 ([⟨0,1,1,0,1,1⟩],[⟨1,1,0,1,1,0,1⟩]) ⟨1,2,1,2,1,0,1⟩=([⟨0,1,1,0,1,1⟩,⟨1,2,1,0,1,2⟩],[⟨1,1,0,1,1,0,1⟩,⟨1,2,1,2,1,0,1⟩]):=by
  rw [ge5 2 _ _ _ rfl,Q5<|by decide+kernel];decide+kernel
 have M:List.filter (inW 2 2 0 (ab5 ([⟨0,1,1,0,1,1⟩,⟨1,2,1,0,1,2⟩]:List Lk)+2) [⟨0,1,1,0,1,1⟩,⟨1,2,1,0,1,2⟩]) ([⟨0,1,1,0,1,1⟩,⟨1,2,1,0,1,2⟩]:List Lk)=[⟨1,2,1,0,1,2⟩]:=by decide+kernel
 have a3:(p5 2 2 0 ([⟨0,1,1,0,1,1⟩,⟨1,2,1,0,1,2⟩],[⟨1,1,0,1,1,0,1⟩,⟨1,2,1,2,1,0,1⟩]) ⟨1,3,0,2,1,0,1⟩).1=[⟨0,2,1,0,1,3⟩,⟨1,2,1,0,1,2⟩]:=by
  rw [ge5 3 _ _ _ rfl,ae7<|by decide+kernel,M,Q5<|by decide+kernel];decide+kernel
 rw [run_eq,by7]
 show (p5 2 2 0 (p5 2 2 0 (p5 2 2 0 ([],[]) ⟨1,1,0,1,1,0,1⟩) ⟨1,2,1,2,1,0,1⟩) ⟨1,3,0,2,1,0,1⟩).1=_
 rw [a1,a2,a3]
theorem ax8{κ:Ctx}{I:List Item}(hT:F4 κ I 0 p6):eu prog κ 11 [] I (λr J=>r = .bool true/\I=J):=by
 refine Ce0 Tryz.func11 C C<|Z ?_
 refine Ge1 (B2 (α:=Ev) (cs:=[e7 1,e7 1,e7 0,e7 1,e7 1,e7 0,e7 1,e7 1,e7 2,e7 1,e7 2,e7 1,e7 0,e7 1,e7 1,e7 3,e7 0,e7 2,e7 1,e7 0,e7 1]) (xs:=[⟨1,1,0,1,1,0,1⟩,⟨1,2,1,2,1,0,1⟩,⟨1,3,0,2,1,0,1⟩]) Ad s9 C C dc dc C kr C C) λaa=>Z ?_
 refine G.e (Ac c_ C C<|dr3 (T:=I) (evs:=ah6) (by repeat (first|exact Bf _|apply Be|apply Bn)) A5 dc dc dc by8 dc<|A8 hT Ah) ?_
 rintro _ _ ⟨_,_,⟨M,Y3,rfl,an,rfl⟩,rfl,rfl⟩
 refine Dq (J:=vc 54 (.slice aa 3 3) (ah6)::(Y3++I)) (Cj<|C1 (A:=Y3) (L:=[vc 54 (.slice aa 3 3) ah6]) (T:=I))<|Z ?_
 refine Ge1 (Aj H2 C) λb4=>Ge0 (Eff.sq H2)<|Z ?_
 refine G.e (Ac c_ C C<|dr3 (T:=(Y3++I)) (evs:=ah6) (by repeat (first|exact Bf _|apply Be|apply Bn)) A5 dc dc dc by8 dc<|A8 hT Ah) ?_
 rintro _ _ ⟨_,_,⟨ap,Y6,rfl,ad,rfl⟩,rfl,rfl⟩
 refine Dq (J:=e8 b4 (kx 2 2 0 0 3 ((EnS.run 2 2 0 0 ah6)) M) 47::vc 54 (.slice aa 3 3) (ah6)::(Y6++(Y3++I))) (Cj<|C1 (A:=Y6) (L:=[e8 b4 (kx 2 2 0 0 3 ((EnS.run 2 2 0 0 ah6)) M) 47,vc 54 (.slice aa 3 3) ah6]) (T:=(Y3++I)))<|Z ?_
 refine Ge1 (Aj H2 C) λb7=>Ge0 (Eff.sq H2)<|Z ?_
 refine A3 (d:=28) C (λai=>Z ?_)<|λai=>?_
 ·refine A3 (d:=32) C (λaj=>Z ?_) (λaj=>?_)
  ·refine A3 (d:=39) C (λak=>Z ?_) (λak=>?_)
   ·refine A3 (d:=45) C (λab=>Z ?_) (λab=>?_)
    ·refine A3 (d:=49) C (λah=>Z ?_) (λah=>?_)
     ·refine A3 (d:=55) C (λae=>Z ?_) (λae=>?_)
      ·refine Ds (Cn C C C) (B2 (α:=Int) (cs:=[_,_,_]) (xs:=[2,2,2]) Ab ef C C dc dc C C C C) ?_
       rintro _ _ ⟨ao,rfl,rfl⟩
       refine Ds (Cn C C C) (Ac c_ C C<|fk5 (KpF.fit ad<|B0 (κ:=κ)<|by repeat (first|exact Bf _|apply Be|apply Bn)).p.n1 A5) ?_
       rintro _ _ ⟨_,_,⟨rfl,rfl⟩,rfl,rfl⟩
       refine Z ?_
       exact Al C C I (by first|exact Ah|exact X8) ⟨rfl,rfl⟩
      exact absurd (show V7 3 (j5 (EnS.run 1 0 0 0 ah6).S) / 3=1 by rw [dk4];decide+kernel) ae
     exact absurd rfl ah
    exact absurd (show V7 3 (j5 (EnS.run 2 2 0 0 ah6).S) / 3=0 by rw [by9];decide+kernel) ab
   exact absurd (show (((EnS.run 2 2 0 0 ah6).S.length:Nat):Int)=2 by rw [by9];rfl) ak
  exact absurd (show ((BfS.ao3 0 ⟨-1, -1,[]⟩ ah6:Nat):Int)=0 by rw [cg0];rfl) aj
 exact absurd rfl ai
end Go.Sl
namespace Go.Sl
open Go.Proofs
set_option maxRecDepth 4000
end Go.Sl
namespace Go.Sl
open Go.Proofs
set_option maxRecDepth 4000
variable{i most n:Int}{b:Nat}{lv:Value}{ls:List Int}
variable {κ:Ctx}{I:List Item}
attribute [local irreducible] W G V D A j8 Eff
theorem dx3{tt:Int}{out:List Ev}{e:Ev}(h:∀e∈out,H7 n e/\e.tm<=60)(M:H7 n e)(ht:e.tm=tt)(hb:tt<=60):∀a∈out++[e],H7 n a/\a.tm<=60:=λa ha=>by
 rcases Gt.1 ha with ha|ha
 ·exact h a ha
 rw [Gc.1 ha];exact ⟨M,by omega⟩
theorem cc1(hl:∀q,Sl κ (ap5 b lv q::I) lv ls)(h0:0<=i)(hn:2<=n/\n<=64)(hm:0<=most/\most<=20):eu prog κ 16 [(pt b),e7 n,e7 most] (e8 b [lv,e7 i] 85::I) (λr J=>∃y:(Option Addr)×Nat×(List Ev)×Int,((r = .slice y.1 y.2.2.1.length y.2.1/\((∀e∈y.2.2.1,H7 n e/\e.tm<=60)/\(y.2.2.1.length:Int)<=most))/\0<=y.2.2.2)/\J=[vk 54 y.1 y.2.1 y.2.2.1]++ap5 b lv y.2.2.2::I):=by
 refine Ce3 Tryz.func16 C C<|Z ?_
 refine G.e (Ac c_ C C<|Q1 ta1 (Bg (hl _) Ah) om om) ?_
 rintro _ _ ⟨_,_,⟨x1,i2,rfl,aw,a3,rfl⟩,rfl,rfl⟩
 refine Ga C<|Ar<|A7<|Dh (σ:=Int×Int×(Option Addr)×Nat×(List Ev)×Int) (λs=>[(7,.slice s.2.2.1 s.2.2.2.2.1.length s.2.2.2.1),(8,e7<|s.2.2.2.2.2),(9,e7<|s.1)]) (λs=>[vk 54 s.2.2.1 s.2.2.2.1 s.2.2.2.2.1,e8 b [lv,e7<|s.2.1] 85]) (λs=>(0<=s.1/\(s.2.2.2.2.1.length:Int)+s.1<=most)/\(0<=s.2.1)/\(∀e∈s.2.2.2.2.1,H7 n e/\e.tm<=60)/\(5<=s.2.2.2.2.2/\s.2.2.2.2.2<=5+2*(s.2.2.2.2.1.length:Int))) (λs=>s.1.toNat) (x1,i2,none,0,[],5) ⟨tb3,om,(λe he=>by cases he),tb3⟩ (hI:=(B7 _ _)) ?_
 rintro ⟨kq,ad,a1,c1,out,tt⟩ hp
 dsimp only at hp ⊢
 obtain ⟨ax,au,hE,ay⟩:=hp
 refine Z ?_
 refine A3 (d:=16) C (λah=>Z ?_)<|λah=>Z ?_
 ·refine Am C (λai=>Z ?_) (λai=>?_)
  ·refine G.e (Ac c_ C C<|Q1 ta1 (Bg (hl _) Ah) om om) ?_
   rintro _ _ ⟨_,_,⟨x3,i4,rfl,av,a0,rfl⟩,rfl,rfl⟩
   refine Z ?_
   have ap:(if 0<(tt - x3) then (tt - x3) else 0)=max 0 ((tt - x3)):=by split<;>omega
   rw [ap]
   refine G.e (Ac c_ C C<|cy8 ta1 (λ_=>Bg (hl _) Ah) om  om om) ?_
   rintro _ _ ⟨_,_,⟨⟨M,i6⟩,⟨⟨rfl,aa,ab⟩,ae⟩,rfl⟩,rfl,rfl⟩
   have ae:0<=i6:=ae
   dsimp only at aa
   dsimp only at ab
   refine Ge1 (B2 (α:=Ev) (cs:=(ez M)) (xs:=[⟨M.kd,M.tm,M.u,M.v,M.w,M.lb,M.sg⟩]) Ad s9 C C dc dc C kr C C) λaz=>?_
   refine Ge2 (Br (α:=Ev) (e:=54) (xs:=out) (ys:=([M]:List Ev)) Ad s9 C C C mm A5 lcn dc C<|λ_ _=>am) λan ao=>Z ?_
   refine G.e (Ac c_ C C<|Q1 ta1 (Bg (hl _) Ah) om om) ?_
   rintro _ _ ⟨_,_,⟨ak,aj,rfl,aq,ar,rfl⟩,rfl,rfl⟩
   refine Z ?_
   exact Bt ((kq - 1),(aj),(an),(ao),(out++([M]:List Ev)),(tt+ak))<|by dsimp only;exact ⟨lap,om,(by first|exact dx3 hE asm asm om),lap⟩
  exact absurd hn.1 om
 exact Al C C (vk 54 a1 c1 out::e8 b [lv,e7 ad] 85::I) Ai ⟨(a1,c1,out,ad),⟨⟨rfl,⟨hE,by show (out.length:Int)<=most;omega⟩⟩,by show 0<=ad;omega⟩,rfl⟩
theorem cy7{F:Item->List Item}(M:AtF I (ap5 b lv i) F)(hl:∀q,Sl κ (F (ap5 b lv q)) lv ls)(h0:0<=i)(hn:2<=n/\n<=64)(hm:0<=most/\most<=20):eu prog κ 16 [(pt b),e7 n,e7 most] I λr J=>∃y:(Option Addr)×Nat×(List Ev)×Int,((r = .slice y.1 y.2.2.1.length y.2.1/\((∀e∈y.2.2.1,H7 n e/\e.tm<=60)/\(y.2.2.1.length:Int)<=most))/\0<=y.2.2.2)/\J=[vk 54 y.1 y.2.1 y.2.2.1]++F (ap5 b lv y.2.2.2):=
 Fl (Post:=λr (y:(Option Addr)×Nat×(List Ev)×Int)=>(r = .slice y.1 y.2.2.1.length y.2.1/\((∀e∈y.2.2.1,H7 n e/\e.tm<=60)/\(y.2.2.1.length:Int)<=most))/\0<=y.2.2.2) (Z:=λy:(Option Addr)×Nat×(List Ev)×Int=>[vk 54 y.1 y.2.1 y.2.2.1]) (X:=λy:(Option Addr)×Nat×(List Ev)×Int=>ap5 b lv y.2.2.2) M λJ _ hF=>cc1 (λq=>(hl q).fit (hF _)) h0  hn hm
end Go.Sl
namespace Go.Sl
open Go.Proofs
set_option maxRecDepth 4000
end Go.Sl
namespace Go.Sl
open Go.Proofs
set_option maxRecDepth 4000
variable{ws:List Ev}{k wc:Nat}{bd m:Int}{wa:Option Addr}
variable {κ:Ctx}{I:List Item}
attribute [local irreducible] W G V D A j8 Eff
theorem fc1(h:ws.Pairwise λa b=>a.tm<=b.tm)(h0:0<k)(M:k<ws.length):(e_ ws ((k:Int) - 1)).tm<=(e_ ws k).tm:=by
 have e:((k:Int) - 1)=((k - 1:Nat):Int):=by omega
 rw [e]
 exact (Fd ws).1 h (k - 1) k om M
theorem ak4(M:k<ws.length):(ap2 m (ws.take (k+1))=ap2 m (ws.take k)++if (e_ ws k).tm<=m then [e_ ws k] else [])/\(beyond m (ws.take (k+1))=beyond m (ws.take k)++if (e_ ws k).tm<=m then [] else [e_ ws k]):=by
 unfold ap2 beyond
 rw [Ca ws k M,Gj,Gj]
 by_cases h:(e_ ws k).tm<=m<;>simp [h]
theorem ax3{bf:BfS}(hl:Sl κ I (.slice wa bf.ws.length wc) bf.ws)(M:az5 bd bf)(hw:bf.ws.length<=4096):eu prog κ 111 [.agg #[e7 bd,e7 (bf.lt),e7 (bf.mr),.slice wa bf.ws.length wc]] I (λr J=>r = .bool true/\I=J):=by
 have ax:=M.bd
 have av:=M.lt
 have aw:=M.mr
 refine Ce1 Tryz.func111 C C ?_
 refine Ak<|Ge1 (Au (cs:=[_,_,_,_]) C C C) λb1=>Z ?_
 refine A3 (d:=8) C (λg8=>?_)<|λg8=>Z ?_
 ·omega
 refine A3 (d:=13) C (λap=>?_)<|λap=>Z ?_
 ·omega
 refine A3 (d:=18) C (λao=>?_)<|λao=>Z ?_
 ·omega
 refine A3 (d:=25) C (λan=>?_)<|λan=>Z ?_
 ·omega
 refine A3 (d:=30) C (λai=>?_)<|λai=>Z ?_
 ·omega
 refine Am C (λak=>?_)<|λak=>Z ?_
 ·omega
 refine Dh (σ:=Nat) (λs=>[(39,e7 ((s:Nat):Int))]) (λ_=>[]) (λs=>(s<=bf.ws.length)) (λs=>bf.ws.length - s) 0 om ?_
 rintro k hp
 have hk:=hp
 refine Z ?_
 refine Am C (λah=>Z ?_)<|λah=>Z ?_
 ·have ab:=M.chk _ (Bp (xs:=bf.ws) (i:=(k:Int)) om om)
  have au:=M.rng _ (Bp (xs:=bf.ws) (i:=(k:Int)) om om)
  have aa:=λq:0<k=>fc1 M.asc (k:=k) q om
  refine Ge1 (Aj s9 C) λb2=>Ga C<|Ge0 (au3 s9) ?_
  refine Ar<|Ax<|Ba mixed<|Ee 33<|Z ?_
  refine Ds1 1<|Sc0 C (Ac c_ C C<|Z8<|e_ bf.ws k)<|Z ?_
  refine Dj (d:=47) C (λad=>?_)<|λad=>Z ?_
  ·exact absurd ab ad
  refine Dj (d:=54) C (λaq=>?_)<|λaq=>Z ?_
  ·omega
  refine Dj (d:=61) C (λae=>?_)<|λae=>Z ?_
  ·omega
  refine Dj (d:=64) C (λaj=>Z ?_)<|λaj=>?_
  ·refine Am C (λar=>?_) (λar=>Z ?_)
   ·exact absurd (aa om) om
   exact Bt ((k+1)) om
  refine Dpo 21 C<|Z ?_
  exact Bt ((k+1)) om
 exact Al C C I Ah ⟨rfl,rfl⟩
theorem cq0{lt mr:Int}(hl:Sl κ I (.slice wa ws.length wc) ws)(hw:ws.length<=5000):eu prog κ 113 [.agg #[e7 bd,e7 lt,e7 mr,.slice wa ws.length wc],e7 m] I (λr J=>∃(a:Option Addr) (c:Nat) (a2:Option Addr) (c2:Nat),r = .tuple #[.agg #[e7 bd,e7 lt,e7 (max mr m),.slice a (beyond m ws).length c],.slice a2 (ap2 m ws).length c2]/\J=vk 54 a2 c2 (ap2 m ws)::vk 54 a c (beyond m ws)::I):=by
 refine Ce2 Tryz.func113 C C ?_
 refine Ak<|Ge1 (Au (cs:=[_,_,_,_]) C C C) λb1=>Ge1 (Aj J4 C) λb2=>Z ?_
 refine B9 (σ:=Nat×(Option Addr)×Nat×(List Ev)×(Option Addr)×Nat×(List Ev)) (λs=>([(1,e7 m),(2,pt b1),(4,pt b2),(6,.slice s.2.1 s.2.2.2.1.length s.2.2.1),(7,.slice s.2.2.2.2.1 s.2.2.2.2.2.2.length s.2.2.2.2.2.1),(11,.slice wa ws.length wc),(12,e7 ((ws.length:Nat):Int)),(13,e7 ((s.1:Nat):Int))]:Env)) (λs=>vk 54 s.2.1 s.2.2.1 s.2.2.2.1::vk 54 s.2.2.2.2.1 s.2.2.2.2.2.1 s.2.2.2.2.2.2::e8 b2 [e7 0,e7 0,e7 0,.slice none 0 0] 32::e8 b1 [e7 bd,e7 lt,e7 mr,.slice wa ws.length wc] 32::I) (λs=>(s.1<=ws.length)/\(s.2.2.2.1=ap2 m (ws.take s.1))/\(s.2.2.2.2.2.2=beyond m (ws.take s.1))/\(s.2.2.2.1.length<=s.1/\s.2.2.2.2.2.2.length<=s.1)) (λs=>ws.length - s.1) (0,none,0,[],none,0,[]) ⟨om,rfl,rfl,(by simp)⟩ (cx2<|Aa C<|Aa (Db C<|by first|rfl|simp)<|Aa (Db C<|by first|rfl|simp)<|cx2<|Aa Co Bb) (A9 (A9 (show Fit κ _ _ from Az)<|B7 (α:=Ev) _ _)<|B7 (α:=Ev) _ _) ?_
 rintro ⟨k,oa,oc,o,ra,rc,rs⟩ hp
 dsimp only at hp ⊢
 obtain ⟨hk,ho,hr,aj⟩:=hp
 refine Z ?_
 refine Am C (λah=>Z ?_)<|λah=>Z ?_
 ·refine Ge1 (Aj s9 C) λb3=>Ge0 (au3 s9) (Z ?_)
  refine Am C (λM=>Z ?_)<|λM=>Z ?_
  ·refine Ge1 (B2 (α:=Ev) (cs:=(ez (e_ ws k))) (xs:=[⟨(e_ ws k).kd,(e_ ws k).tm,(e_ ws k).u,(e_ ws k).v,(e_ ws k).w,(e_ ws k).lb,(e_ ws k).sg⟩]) Ad s9 C C dc dc C kr C C) λak=>?_
   refine Ge2 (Br (α:=Ev) (e:=54) (xs:=o) (ys:=([⟨(e_ ws k).kd,(e_ ws k).tm,(e_ ws k).u,(e_ ws k).v,(e_ ws k).w,(e_ ws k).lb,(e_ ws k).sg⟩]:List Ev)) Ad s9 C C C mm A5 lcn dc C<|λ_ _=>am) λae ad=>Z ?_
   exact Bt ((k+1),(ae),(ad),(o++([⟨(e_ ws k).kd,(e_ ws k).tm,(e_ ws k).u,(e_ ws k).v,(e_ ws k).w,(e_ ws k).lb,(e_ ws k).sg⟩]:List Ev)),(ra),(rc),(rs))<|by dsimp only;exact ⟨om,(by rw [(ak4 om).1,←ho];first|(rw [B_ M];done)|(rw [B_ M];rfl)|(rw [An M,Gq])),(by rw [(ak4 om).2,←hr];first|(rw [An M];done)|(rw [An M];rfl)|(rw [B_ M,Gq])),olp⟩
  refine Ge1 (B2 (α:=Ev) (cs:=(ez (e_ ws k))) (xs:=[⟨(e_ ws k).kd,(e_ ws k).tm,(e_ ws k).u,(e_ ws k).v,(e_ ws k).w,(e_ ws k).lb,(e_ ws k).sg⟩]) Ad s9 C C dc dc C kr C C) λai=>?_
  refine Ge2 (Br (α:=Ev) (e:=54) (xs:=rs) (ys:=([⟨(e_ ws k).kd,(e_ ws k).tm,(e_ ws k).u,(e_ ws k).v,(e_ ws k).w,(e_ ws k).lb,(e_ ws k).sg⟩]:List Ev)) Ad s9 C C C mm A5 lcn dc C<|λ_ _=>am) λaa ab=>Z ?_
  exact Bt ((k+1),(oa),(oc),(o),(aa),(ab),(rs++([⟨(e_ ws k).kd,(e_ ws k).tm,(e_ ws k).u,(e_ ws k).v,(e_ ws k).w,(e_ ws k).lb,(e_ ws k).sg⟩]:List Ev)))<|by dsimp only;exact ⟨om,(by rw [(ak4 om).1,←ho];first|(rw [B_ M];done)|(rw [B_ M];rfl)|(rw [An M,Gq])),(by rw [(ak4 om).2,←hr];first|(rw [An M];done)|(rw [An M];rfl)|(rw [B_ M,Gq])),olp⟩
 refine Ge0 (Bs (cs:=[_,_,_,_]) (vs:=[_]) (cs':=[_,_,_,_]) ap8) ?_
 refine Gf cf8 C<|Ge0 (Bs (cs:=[_,_,_,_]) (vs:=[_]) (cs':=[_,_,_,_]) ef)<|Z ?_
 refine Ge0 (C8 J4)<|Z ?_
 rw [show ws.take k=ws from Fv om] at ho hr
 exact Cp C J4 C C mm C (vk 54 oa oc (ap2 m ws)::vk 54 ra rc (beyond m ws)::I) (by unfold vk;rw [←ho,←hr];exact Az) ⟨ra,rc,oa,oc,by rw [←ho,←hr,←ao4],rfl⟩
end Go.Sl
