/- A part of the proofs of statements of this seat: contracts of functions, and the plain laws that they lean on. No conditions. -/
import Derived.Test.YtoagcglbkeomgaaGreatDoorE26
set_option linter.unusedVariables false
set_option linter.unusedSimpArgs false
set_option linter.unusedSectionVars false
open Go.Proofs.Tryz (prog)
set_option maxHeartbeats 4000000
namespace Go.Sl
open Go.Proofs
set_option maxRecDepth 4000
variable{bd tm:Int}{ea ga na wa:Option Addr}{b ec gb gc nc wc:Nat}{T:List Item}{M aa ab ad ae ah ai aj ak an ao ap aq ar x0 x1 x2 x3 x4 x5 x6 x7 x8 x9 y0 y1 y2 y3 y4 y5 y6 y7 y8 y9:Value}{es:List Pt}
variable {κ:Ctx}{I:List Item}
attribute [local irreducible] W G V D A j7 Eff
theorem ax3{bf:BfS}(hl:Sl κ I (.slice wa bf.ws.length wc) bf.ws)(hw:bf.ws.length<=4096):eu prog κ 93 [.agg #[e7 bd,e7 (bf.lt),e7 (bf.mr),.slice wa bf.ws.length wc]] I (λr J=>∃(a:Option Addr) (c:Nat),r = .agg #[e7 bd,e7 bf.lt,e7 bf.mr,.slice a bf.ws.length c]/\J=vk 54 a c bf.ws::I):=by
 refine Ce1 Tryz.func93 C C ?_
 refine Am<|Ge1 (Au (cs:=[_,_,_,_]) C C C) λb1=>Ge1 (Aj J4 C) λb2=>Z ?_
 refine Gc2 (Ac c_ C C<|ay7 (xs:=bf.ws) (A4 hl) om) λM aa=>?_
 refine Gf R0 C<|Ge0 (Br (cs:=[_,_,_,_]) (vs:=[_]) (cs':=[_,_,_,_]) ap3)<|Z ?_
 refine Ge0 (C7 J4) ?_
 exact Ar<|B2<|Ej C J4 C mm C (vk 54 M aa bf.ws::I) Az ⟨M,aa,rfl,rfl⟩
theorem dr4{bf:BfS}(hH:Has I T)(hl:Sl κ T (.slice wa bf.ws.length wc) bf.ws)(M:au4 bd bf)(hw:bf.ws.length<=4096):eu prog κ 65 [.agg #[e7 bd,e7 (bf.lt),e7 (bf.mr),.slice wa bf.ws.length wc]] I (λr J=>∃(a:Option Addr) (c:Nat) (a2:Option Addr) (c2:Nat) (Y:List Item),r = .tuple #[.agg #[e7 bd,e7 bf.flush.lt,e7 bf.flush.mr,.slice a bf.flush.ws.length c],.slice a2 (bf.ws).length c2,e7 0]/\Sl κ (Y++T) (.slice a bf.flush.ws.length c) bf.flush.ws/\Sl κ (Y++T) (.slice a2 bf.ws.length c2) bf.ws/\J=Y++I):=by
 have az:=M.bd
 have a0:=M.lt
 have ay:=M.mr
 refine Ce1 Tryz.func65 C C ?_
 refine Am<|Ge1 (Au (cs:=[_,_,_,_]) C C C) λb1=>Ge1 (Aj J4 C) λb2=>Z ?_
 refine G.e (Ac c_ C C<|au1 (bd:=bd) (bf:=bf) (Bd (Bd hl hH.fit) Ah) M om) ?_
 rintro _ _ ⟨_,_,⟨rfl,rfl⟩,rfl,rfl⟩
 refine Z ?_
 refine A9 mixed<|Ed 11<|Z ?_
 refine C8 (rs:=[1,8]) kr C C<|Ei ?_<|Do ?_
 ·refine Sc2 C (Ac c_ C C<|ax3 (bd:=bd) (bf:=bf) (Bd (Bd hl hH.fit) Ah) om) λaa ak=>?_
  refine C8 (rs:=[4,8]) kr C C<|Ei ?_<|Do ?_
  ·refine Se C (Ac c_ C C<|ao6 (bd:=bd) (lt:=bf.lt) (mr:=bf.mr) (m:=bf.lt) A5 M.asc om) ?_
   rintro _ _ ⟨_,_,⟨aq,ap,ax,rfl,av,rfl⟩,rfl,rfl⟩
   refine ⟨Ah,?_⟩
   refine Z ?_
   refine Ds1 8<|Se1 C (Aj J4 C) λb8=>?_
   refine Ds1 9<|Se0 C (C7 J4)<|Z ?_
   refine Ge0 (C7 J4)<|Z ?_
   have ad:max bf.mr bf.lt=bf.lt:=by omega
   exact Cu C J4 C C C mm C (vk 54 aq ap (beyond bf.lt bf.ws)::vk 54 aa ak bf.ws::I) Az ⟨aq,ap,aa,ax,[vk 54 aq ap (beyond bf.lt bf.ws),vc 54 (.slice aa bf.ws.length ak)<|bf.ws],(by rw [ad,M.none,M.all];rfl),Sl.cast (xs:=beyond bf.lt bf.ws) A5 M.none,Sl.cast (xs:=ao7 bf.lt bf.ws) (Sl.ao7 A5 av) M.all,rfl⟩
  refine Se1 C (Aj J4 C) λb9=>?_
  refine Ds1 4<|Se C (Ac c_ C C<|ao6 (bd:=bd) (lt:=bf.lt) (mr:=bf.mr) (m:=bf.lt) A5 M.asc om) ?_
  rintro _ _ ⟨_,_,⟨ab,aj,aw,rfl,ao,rfl⟩,rfl,rfl⟩
  refine ⟨Ah,?_⟩
  refine Z ?_
  refine Ds1 9<|Se0 C (C7 J4)<|Z ?_
  refine Ge0 (C7 J4)<|Z ?_
  have ad:max bf.mr bf.lt=bf.lt:=by omega
  exact Cu C J4 C C C mm C (vk 54 ab aj (beyond bf.lt bf.ws)::vk 54 aa ak bf.ws::I) Az ⟨ab,aj,aa,aw,[vk 54 ab aj (beyond bf.lt bf.ws),vc 54 (.slice aa bf.ws.length ak)<|bf.ws],(by rw [ad,M.none,M.all];rfl),Sl.cast (xs:=beyond bf.lt bf.ws) A5 M.none,Sl.cast (xs:=ao7 bf.lt bf.ws) (Sl.ao7 A5 ao) M.all,rfl⟩
 refine Se1 C (Aj J4 C) λa1=>?_
 refine Ds1 1<|Sc2 C (Ac c_ C C<|ax3 (bd:=bd) (bf:=bf) (Bd (Bd hl hH.fit) Ah) om) λah an=>?_
 refine Ds1 4<|Se C (Ac c_ C C<|ao6 (bd:=bd) (lt:=bf.lt) (mr:=bf.mr) (m:=bf.lt) A5 M.asc om) ?_
 rintro _ _ ⟨_,_,⟨ae,ai,au,rfl,ar,rfl⟩,rfl,rfl⟩
 refine ⟨Ah,?_⟩
 refine Z ?_
 refine Ds1 9<|Se0 C (C7 J4)<|Z ?_
 refine Ge0 (C7 J4)<|Z ?_
 have ad:max bf.mr bf.lt=bf.lt:=by omega
 exact Cu C J4 C C C mm C (vk 54 ae ai (beyond bf.lt bf.ws)::vk 54 ah an bf.ws::I) Az ⟨ae,ai,ah,au,[vk 54 ae ai (beyond bf.lt bf.ws),vc 54 (.slice ah bf.ws.length an)<|bf.ws],(by rw [ad,M.none,M.all];rfl),Sl.cast (xs:=beyond bf.lt bf.ws) A5 M.none,Sl.cast (xs:=ao7 bf.lt bf.ws) (Sl.ao7 A5 ar) M.all,rfl⟩
theorem dr3{e:Ev}{bf:BfS}(hl:Sl κ I (.slice wa bf.ws.length wc) bf.ws)(hB:au4 bd bf)(hw:bf.ws.length<=4096)(he:z7 e=0)(ht:e.tm<=bf.mr):eu prog κ 47 [.agg #[e7 bd,e7 (bf.lt),e7 (bf.mr),.slice wa bf.ws.length wc],.agg (ez e).toArray] I (λr J=>∃(a:Option Addr) (c:Nat),r = .tuple #[.agg #[e7 bd,e7 bf.lt,e7 bf.mr,.slice a bf.ws.length c],.slice none 0 0,e7 10]/\I=J):=by
 have ai:=hB.bd
 have ae:=hB.lt
 have ah:=hB.mr
 refine Ce2 Tryz.func47 C C ?_
 refine Am<|Ge1 (Au (cs:=[_,_,_,_]) C C C) λb1=>Ge1 (Au (cs:=[_,_,_,_,_,_,_]) C C C) λb2=>Ge1 (Aj J4 C) λb3=>Ga C<|Ga C<|Ar<|Am<|Gl7 z6 ?_
 refine G.e (Ac c_ C C<|ab3 e) ?_
 rintro _ _ ⟨_,_,⟨rfl,rfl⟩,rfl,rfl⟩
 refine Ga C<|Ar<|Ay<|A8<|Am<|Gl4 J4 ?_
 refine G.e (Ac c_ C C<|au1 (bd:=bd) (bf:=bf) (A4 hl) hB om) ?_
 rintro _ _ ⟨_,_,⟨rfl,rfl⟩,rfl,rfl⟩
 refine Z ?_
 refine Al C (λM=>?_)<|λM=>Z ?_
 ·exact absurd he M
 refine Al C (λaa=>?_)<|λaa=>?_
 ·refine Am (Gl4 J4 ?_)
  refine Gc2 (Ac c_ C C<|ax3 (bd:=bd) (bf:=bf) (A4 hl) om) λab ad=>?_
  refine Ge0 (C7 J4)<|Z ?_
  exact Cu C J4 C C C mm C I Ah ⟨ab,ad,rfl,rfl⟩
 omega
theorem fh2(hb:0<=bd/\bd<=1048576):eu prog κ 39 [e7 bd] I (λr J=>r = .tuple #[.agg #[e7 bd,e7 (-1),e7 (-1),.slice none 0 0],e7 0]/\I=J):=by
 refine Ce1 Tryz.func39 C C ?_
 refine Am<|Ge1 (Aj J4 C) λb1=>Z ?_
 refine A1 (d:=6) C (λM=>?_)<|λM=>Z ?_
 ·omega
 refine Al C (λc9=>?_)<|λc9=>Z ?_
 ·omega
 refine Ge0 (C7 J4) ?_
 exact Ga C<|Ar<|B2<|Co C J4 C C mm C I Ah ⟨rfl,rfl⟩
variable {κ:Ctx}{I:List Item}
structure KpV where
 w:SlA
 l:SlA
 p:PkV
abbrev kx(kd wd mo bd nd:Int)(k:EnS)(v:KpV):List Value:=[e7 kd,e7 wd,e7 mo,e7 bd,e7 k.b.lt,e7 k.b.mr,.slice v.w.a k.b.ws.length v.w.c,e7 nd,.slice v.l.a k.S.length v.l.c,e7 nd,.slice v.p.e1.a (j8 k.S).length v.p.e1.c,.slice v.p.n1.a (j9 nd (j8 k.S)).length v.p.n1.c,e7 nd,.slice v.p.e2.a (j8 k.S).length v.p.e2.c,.slice v.p.n2.a (j5 nd (j8 k.S)).length v.p.n2.c,e7 nd,.slice v.p.e3.a (j8 k.S).length v.p.e3.c,e7 (V5 nd (j8 k.S) / 3),.slice v.p.n3.a (H7 nd (j8 k.S)).length v.p.n3.c,e7 nd,.slice v.p.e4.a (j8 k.S).length v.p.e4.c,e7 (F7 nd (j8 k.S)),e7 (J8 nd (j8 k.S)),.slice v.p.n4.a (r9 nd (j8 k.S)).length v.p.n4.c,e7 k.tm]
structure KpF (κ:Ctx) (T:List Item) (nd:Int) (k:EnS) (v:KpV):Prop where
 w:Sl κ T (.slice v.w.a k.b.ws.length v.w.c) k.b.ws
 l:Sl κ T (.slice v.l.a k.S.length v.l.c) k.S
 p:PkR κ T nd (j8 k.S) v.p
theorem KpF.fit{κ:Ctx}{I J:List Item}{nd:Int}{k:EnS}{v:KpV}(h:KpF κ I nd k v)(f:Fit κ J I):KpF κ J nd k v:=⟨h.w.fit f,h.l.fit f,h.p.fit f⟩
structure EnV (nd kd wd mo bd:Int) (k:EnS):Prop where
 win:s7 kd wd mo=0
 buf:au4 bd k.b
 inv:SlI nd kd wd k.tm k.S
 tm:0<=k.tm/\k.tm<=1048576
theorem az1.v{nd kd wd mo:Int}{k:EnS}(h:az1 nd kd wd mo bd k):EnV nd kd wd mo bd k:=⟨h.win,h.buf,h.inv,h.tm.1,h.tm.2.1⟩
theorem fn2{nd kd wd mo:Int}{k:EnS}(h:EnV nd kd wd mo bd k):k.S.any (λx=>decide (k.tm<x.tm))=false:=by
 rw [Bool.eq_false_iff]
 intro h1
 obtain ⟨x,M,h2⟩:=Kd.1 h1
 have:=h.inv.tm x M
 have:=Fs h2
 omega
theorem ff1(hb:ab7 κ I b [x0,x1,x2,x3,x4,x5,x6,x7,x8,x9,ak,aq,an,ad,M,aa,ap,ai,ae,ar,ah,aj,ab,ao,e7 (tm)] 47)(x:Lk):eu prog κ 59 [.agg (kl x).toArray,(pt b)] I (λr J=>r = .bool (decide (tm<x.tm))/\I=J):=by
 refine Ce2 Tryz.func59 C C ?_
 refine Am<|Ge1 (Au (cs:=[_,_,_,_,_,_]) C C C) λb1=>Z ?_
 refine Gr (Ea ef C (Em hb Ah) C)<|Z ?_
 exact Ak C C I Ah ⟨rfl,rfl⟩
theorem cz0(hb:ab7 κ I b [x0,x1,x2,x3,x4,x5,x6,x7,x8,x9,an,ar,ao,ad,M,aa,aq,ai,ae,ak,ah,aj,ab,ap,e7 (tm)] 47):do3 prog κ I 59 [(pt b)] (λx:Lk=>decide (tm<x.tm)):=⟨c_,λx J hf=>ff1 (hb.fit hf) x⟩
theorem dq5{nd:Int}(hl:Sl κ I (.slice ea es.length ec) es)(hm:Sl κ I (.slice na (j9 nd es).length nc) (j9 nd es))(hG:s8 nd es)(hg:Sl κ I (.slice ga es.length gc) es)(hT:F4 κ I 0 p5):eu prog κ 63 [.iface 170 ((pt b)),(pt gb)] (e8 b [e7 nd,.slice ea es.length ec,.slice na (j9 nd es).length nc,y3,y4,y5,y6,y7,y8,y9,ae,M,ad,aa,ab] 169::e8 gb [e7 nd,.slice ga es.length gc] 38::I) (λr J=>r = .bool false/\J=e8 b [e7 nd,.slice ea es.length ec,.slice na (j9 nd es).length nc,y3,y4,y5,y6,y7,y8,y9,ae,M,ad,aa,ab] 169::e8 gb [e7 nd,.slice ga es.length gc] 38::I):=by
 refine Ce2 Tryz.func63 C C<|Z ?_
 refine G.e (D0 c_ C (λw=>by kernel_rfl) C C<|Cl (J:=e8 b [e7 nd,.slice ea es.length ec,.slice na (j9 nd es).length nc,y3,y4,y5,y6,y7,y8,y9,ae,M,ad,aa,ab] 169::e8 gb [e7 nd,.slice ga es.length gc] 38::I) Az<|fq1 (b:=b) (A4 hl) (A4 hm) hG (A4 hg)<|A6 hT Ah) ?_
 rintro _ _ ⟨_,_,⟨rfl,rfl⟩,rfl,rfl⟩
 refine Z ?_
 exact Ak C C (e8 b [e7 nd,.slice ea es.length ec,.slice na (j9 nd es).length nc,y3,y4,y5,y6,y7,y8,y9,ae,M,ad,aa,ab] 169::e8 gb [e7 nd,.slice ga es.length gc] 38::I) Az ⟨rfl,rfl⟩
theorem dq4{nd:Int}(hl:Sl κ I (.slice ea es.length ec) es)(hm:Sl κ I (.slice na (j5 nd es).length nc) (j5 nd es))(hG:s8 nd es)(hg:Sl κ I (.slice ga es.length gc) es)(hT:F4 κ I 0 p5):eu prog κ 63 [.iface 171 (.pointer (some ⟨b,3,none⟩)),(pt gb)] (e8 b [y0,y1,y2,e7 nd,.slice ea es.length ec,.slice na (j5 nd es).length nc,y6,y7,y8,y9,ae,M,ad,aa,ab] 169::e8 gb [e7 nd,.slice ga es.length gc] 38::I) (λr J=>r = .bool false/\J=e8 b [y0,y1,y2,e7 nd,.slice ea es.length ec,.slice na (j5 nd es).length nc,y6,y7,y8,y9,ae,M,ad,aa,ab] 169::e8 gb [e7 nd,.slice ga es.length gc] 38::I):=by
 refine Ce2 Tryz.func63 C C<|Z ?_
 refine G.e (D0 c_ C (λw=>by kernel_rfl) C C<|Cl (J:=e8 b [y0,y1,y2,e7 nd,.slice ea es.length ec,.slice na (j5 nd es).length nc,y6,y7,y8,y9,ae,M,ad,aa,ab] 169::e8 gb [e7 nd,.slice ga es.length gc] 38::I) Az<|fq0 (b:=b) (A4 hl) (A4 hm) hG (A4 hg)<|A6 hT Ah) ?_
 rintro _ _ ⟨_,_,⟨rfl,rfl⟩,rfl,rfl⟩
 refine Z ?_
 exact Ak C C (e8 b [y0,y1,y2,e7 nd,.slice ea es.length ec,.slice na (j5 nd es).length nc,y6,y7,y8,y9,ae,M,ad,aa,ab] 169::e8 gb [e7 nd,.slice ga es.length gc] 38::I) Az ⟨rfl,rfl⟩
theorem dq3{nd:Int}(hl:Sl κ I (.slice ea es.length ec) es)(hm:Sl κ I (.slice na (H7 nd es).length nc) (H7 nd es))(hG:s8 nd es)(hg:Sl κ I (.slice ga es.length gc) es)  :
    eu prog κ 63 [.iface 172 (.pointer<|some ⟨b,6,none⟩),pt gb] (e8 b [y0,y1,y2,y3,y4,y5,e7 nd,.slice ea es.length ec,e7<|V5 nd es / 3,.slice na (H7 nd es).length nc,ae,M,ad,aa,ab] 169::e8 gb [e7 nd,.slice ga es.length gc] 38::I) (λr J=>r = .bool false/\J=e8 b [y0,y1,y2,y3,y4,y5,e7 nd,.slice ea es.length ec,e7<|V5 nd es / 3,.slice na (H7 nd es).length nc,ae,M,ad,aa,ab] 169::e8 gb [e7 nd,.slice ga es.length gc] 38::I):=by
 refine Ce2 Tryz.func63 C C<|Z ?_
 refine G.e (D0 c_ C (λw=>by kernel_rfl) C C<|Cl (J:=e8 b [y0,y1,y2,y3,y4,y5,e7 nd,.slice ea es.length ec,e7<|V5 nd es / 3,.slice na (H7 nd es).length nc,ae,M,ad,aa,ab] 169::e8 gb [e7 nd,.slice ga es.length gc] 38::I) Az<|fp9 (b:=b) (A4 hl) (A4 hm) hG<|A4 hg) ?_
 rintro _ _ ⟨_,_,⟨rfl,rfl⟩,rfl,rfl⟩
 refine Z ?_
 exact Ak C C (e8 b [y0,y1,y2,y3,y4,y5,e7 nd,.slice ea es.length ec,e7<|V5 nd es / 3,.slice na (H7 nd es).length nc,ae,M,ad,aa,ab] 169::e8 gb [e7 nd,.slice ga es.length gc] 38::I) Az ⟨rfl,rfl⟩
theorem dq2{nd:Int}{M:Nat}(hl:Sl κ I (.slice ea es.length M) es)(hm:Sl κ I (.slice na (r9 nd es).length nc) (r9 nd es))(hG:s8 nd es)(hg:Sl κ I (.slice ga es.length gc) es)(hT:F4 κ I 0 p5):eu prog κ 63 [.iface 173 (.pointer (some ⟨b,10,none⟩)),(pt gb)] (e8 b [y0,y1,y2,y3,y4,y5,y6,y7,y8,y9,e7 nd,.slice ea es.length M,e7 (F7 nd es),e7 (J8 nd es),.slice na (r9 nd es).length nc] 169::e8 gb [e7 nd,.slice ga es.length gc] 38::I) (λr J=>r = .bool false/\J=e8 b [y0,y1,y2,y3,y4,y5,y6,y7,y8,y9,e7 nd,.slice ea es.length M,e7 (F7 nd es),e7 (J8 nd es),.slice na (r9 nd es).length nc] 169::e8 gb [e7 nd,.slice ga es.length gc] 38::I):=by
 refine Ce2 Tryz.func63 C C<|Z ?_
 refine G.e (D0 c_ C (λw=>by kernel_rfl) C C<|Cl (J:=e8 b [y0,y1,y2,y3,y4,y5,y6,y7,y8,y9,e7 nd,.slice ea es.length M,e7<|F7 nd es,e7<|J8 nd es,.slice na (r9 nd es).length nc] 169::e8 gb [e7 nd,.slice ga es.length gc] 38::I) Az<|fp8 (b:=b) (A4 hl) (A4 hm) hG (A4 hg)<|A6 hT Ah) ?_
 rintro _ _ ⟨_,_,⟨rfl,rfl⟩,rfl,rfl⟩
 refine Z ?_
 exact Ak C C (e8 b [y0,y1,y2,y3,y4,y5,y6,y7,y8,y9,e7 nd,.slice ea es.length M,e7<|F7 nd es,e7<|J8 nd es,.slice na (r9 nd es).length nc] 169::e8 gb [e7 nd,.slice ga es.length gc] 38::I) Az ⟨rfl,rfl⟩
variable {κ:Ctx}{I:List Item}
theorem fr9{nd:Int}{v:PkV}{fa:Option Addr}(hp:PkR κ I nd es v)(hg:Sl κ I (.slice ga es.length gc) es)(hG:s8 nd es)(hT:F4 κ I 0 p5):eu prog κ 110 [.slice fa 4 4,.func (.func 63) #[] #[(pt gb)]] (vc 117 (.slice fa 4 4) (([⟨170,b,0⟩,⟨171,b,3⟩,⟨172,b,6⟩,⟨173,b,10⟩]:List P0))::e8 b (pq nd es v) 169::e8 gb [e7 nd,.slice ga es.length gc] 38::I) (λr J=>r=e7 (-1)/\J=vc 117 (.slice fa 4 4) (([⟨170,b,0⟩,⟨171,b,3⟩,⟨172,b,6⟩,⟨173,b,10⟩]:List P0))::e8 b (pq nd es v) 169::e8 gb [e7 nd,.slice ga es.length gc] 38::I):=by
 refine Ce2 Tryz.func110 C C ?_
 refine Am<|Ga C<|Ar<|Ay<|Am<|Gm C<|Gr (Bl Ce C)<|Gm C<|Ar<|A8<|W.rounds 5 ?_
 refine De (n:=4)<|A0 (L':=[(8,e7 0),(7,e7 ((4:Nat):Int)),(0,.slice fa 4 4),(1,.func (.func 63) #[] #[(pt gb)])]) (cx2<|Aa C<|Aa C Bb)<|Am<|Gr (Bj C C)<|Ar<|Ay<|Al C (λM=>?_)<|λM=>?_
 ·refine Bc (Ao<|Ay<|A8<|Am<|Gm C<|Ga C<|Ar<|Am<|Gm C<|Gm C<|Gm C<|Gr (A2 (α:=P0) (xs:=([⟨170,b,0⟩,⟨171,b,3⟩,⟨172,b,6⟩,⟨173,b,10⟩]:List P0)) Ce W5 C C A5 om om)<|Gr (Cc (α:=P0) (xs:=([⟨170,b,0⟩,⟨171,b,3⟩,⟨172,b,6⟩,⟨173,b,10⟩]:List P0)) (u:= .iface 170 (pt b)) W5 C A5 dc (show (0:Int)<((4:Nat):Int) by decide) C)<|G.e (Cx c_ C C C<|Cl (J:=e8 b (pq nd es v) 169::e8 gb [e7 nd,.slice ga es.length gc] 38::vc 117 (.slice fa 4 4) (([⟨170,b,0⟩,⟨171,b,3⟩,⟨172,b,6⟩,⟨173,b,10⟩]:List P0))::I) Az<|dq5 (b:=b) (gb:=gb) (A4 hp.e1) (A4 hp.n1) hG (A4 hg)<|A6 hT Ah) ?_)
  rintro _ _ ⟨_,_,⟨rfl,rfl⟩,rfl,rfl⟩
  refine Ar<|W.no C<|Bc<|Av<|Ao<|Ba<|Gr (Rad C C)<|Gm C<|Bs<|De (n:=3)<|A0 (L':=[(8,e7 1),(7,e7 ((4:Nat):Int)),(0,.slice fa 4 4),(1,.func (.func 63) #[] #[(pt gb)])]) (cx2<|Aa C<|Aa C Bb)<|Am<|Gr (Bj C C)<|Ar<|Ay<|Al C (λM=>?_)<|λM=>?_
  ·refine Bc (Ao<|Ay<|A8<|Am<|Gm C<|Ga C<|Ar<|Am<|Gm C<|Gm C<|Gm C<|Gr (A2 (α:=P0) (xs:=([⟨170,b,0⟩,⟨171,b,3⟩,⟨172,b,6⟩,⟨173,b,10⟩]:List P0)) Ce W5 C C A5 om om)<|Gr (Cc (α:=P0) (xs:=([⟨170,b,0⟩,⟨171,b,3⟩,⟨172,b,6⟩,⟨173,b,10⟩]:List P0)) (u:= .iface 171 (.pointer<|some ⟨b,3,none⟩)) W5 C A5 dc (show (1:Int)<((4:Nat):Int) by decide) C)<|Gc1 (Cx c_ C C C<|Cl (J:=e8 b (pq nd es v) 169::e8 gb [e7 nd,.slice ga es.length gc] 38::vc 117 (.slice fa 4 4) (([⟨170,b,0⟩,⟨171,b,3⟩,⟨172,b,6⟩,⟨173,b,10⟩]:List P0))::I) Az<|dq4 (b:=b) (gb:=gb) (A4 hp.e2) (A4 hp.n2) hG (A4 hg)<|A6 hT Ah) ?_)
   refine Ar<|W.no C<|Bc<|Av<|Ao<|Ba<|Gr (Rad C C)<|Gm C<|Bs<|De (n:=2)<|A0 (L':=[(8,e7 2),(7,e7 ((4:Nat):Int)),(0,.slice fa 4 4),(1,.func (.func 63) #[] #[(pt gb)])]) (cx2<|Aa C<|Aa C Bb)<|Am<|Gr (Bj C C)<|Ar<|Ay<|Al C (λM=>?_)<|λM=>?_
   ·refine Bc (Ao<|Ay<|A8<|Am<|Gm C<|Ga C<|Ar<|Am<|Gm C<|Gm C<|Gm C<|Gr (A2 (α:=P0) (xs:=([⟨170,b,0⟩,⟨171,b,3⟩,⟨172,b,6⟩,⟨173,b,10⟩]:List P0)) Ce W5 C C A5 om om)<|Gr (Cc (α:=P0) (xs:=([⟨170,b,0⟩,⟨171,b,3⟩,⟨172,b,6⟩,⟨173,b,10⟩]:List P0)) (u:= .iface 172 (.pointer<|some ⟨b,6,none⟩)) W5 C A5 dc (show (2:Int)<((4:Nat):Int) by decide) C)<|Gc1 (Cx c_ C C C<|Cl (J:=e8 b (pq nd es v) 169::e8 gb [e7 nd,.slice ga es.length gc] 38::vc 117 (.slice fa 4 4) (([⟨170,b,0⟩,⟨171,b,3⟩,⟨172,b,6⟩,⟨173,b,10⟩]:List P0))::I) Az<|dq3 (b:=b) (gb:=gb) (A4 hp.e3) (A4 hp.n3) hG<|A4 hg) ?_)
    refine Ar<|W.no C<|Bc<|Av<|Ao<|Ba<|Gr (Rad C C)<|Gm C<|Bs<|De (n:=1)<|A0 (L':=[(8,e7 3),(7,e7 ((4:Nat):Int)),(0,.slice fa 4 4),(1,.func (.func 63) #[] #[(pt gb)])]) (cx2<|Aa C<|Aa C Bb)<|Am<|Gr (Bj C C)<|Ar<|Ay<|Al C (λM=>?_)<|λM=>?_
    ·refine Bc (Ao<|Ay<|A8<|Am<|Gm C<|Ga C<|Ar<|Am<|Gm C<|Gm C<|Gm C<|Gr (A2 (α:=P0) (xs:=([⟨170,b,0⟩,⟨171,b,3⟩,⟨172,b,6⟩,⟨173,b,10⟩]:List P0)) Ce W5 C C A5 om om)<|Gr (Cc (α:=P0) (xs:=([⟨170,b,0⟩,⟨171,b,3⟩,⟨172,b,6⟩,⟨173,b,10⟩]:List P0)) (u:= .iface 173 (.pointer<|some ⟨b,10,none⟩)) W5 C A5 dc (show (3:Int)<((4:Nat):Int) by decide) C)<|Gc1 (Cx c_ C C C<|Cl (J:=e8 b (pq nd es v) 169::e8 gb [e7 nd,.slice ga es.length gc] 38::vc 117 (.slice fa 4 4) (([⟨170,b,0⟩,⟨171,b,3⟩,⟨172,b,6⟩,⟨173,b,10⟩]:List P0))::I) Az<|dq2 (b:=b) (gb:=gb) (A4 hp.e4) (A4 hp.n4) hG (A4 hg)<|A6 hT Ah) ?_)
     refine Ar<|W.no C<|Bc<|Av<|Ao<|Ba<|Gr (Rad C C)<|Gm C<|Bs<|De (n:=0)<|A0 (L':=[(8,e7 4),(7,e7 ((4:Nat):Int)),(0,.slice fa 4 4),(1,.func (.func 63) #[] #[(pt gb)])]) (cx2<|Aa C<|Aa C Bb)<|Am<|Gr (Bj C C)<|Ar<|Ay<|Al C (λM=>?_)<|λM=>?_
     ·exact absurd M dc
     exact Ck<|Aw<|Aw<|Bi<|Ao<|Am<|Ga C<|Ar<|B2<|Ak C C (vc 117 (.slice fa 4 4) (([⟨170,b,0⟩,⟨171,b,3⟩,⟨172,b,6⟩,⟨173,b,10⟩]:List P0))::e8 b (pq nd es v) 169::e8 gb [e7 nd,.slice ga es.length gc] 38::I) Az ⟨rfl,rfl⟩
    exact absurd dc M
   exact absurd dc M
  exact absurd dc M
 exact absurd dc M
theorem fs0{nd:Int}{v:PkV}{M:Option Addr}(hp:PkR κ I nd es v)(hg:Sl κ I (.slice ga es.length gc) es)(hG:s8 nd es)(hT:F4 κ I 0 p5):eu prog κ 60 [.slice M 4 4,.func (.func 63) #[] #[(pt gb)]] (vc 117 (.slice M 4 4) (([⟨170,b,0⟩,⟨171,b,3⟩,⟨172,b,6⟩,⟨173,b,10⟩]:List P0))::e8 b (pq nd es v) 169::e8 gb [e7 nd,.slice ga es.length gc] 38::I) (λr J=>r = .bool false/\J=vc 117 (.slice M 4 4) (([⟨170,b,0⟩,⟨171,b,3⟩,⟨172,b,6⟩,⟨173,b,10⟩]:List P0))::e8 b (pq nd es v) 169::e8 gb [e7 nd,.slice ga es.length gc] 38::I):=by
 refine Ce2 Tryz.func60 C C<|Z ?_
 refine Gc1 (Ac c_ C C<|Cl (J:=vc 117 (.slice M 4 4) (([⟨170,b,0⟩,⟨171,b,3⟩,⟨172,b,6⟩,⟨173,b,10⟩]:List P0))::e8 b (pq nd es v) 169::e8 gb [e7 nd,.slice ga es.length gc] 38::I) Az<|fr9 (b:=b) (gb:=gb) (PkR.fit hp Ah) (A4 hg) hG<|A6 hT Ah)<|Z ?_
 exact Ak C C (vc 117 (.slice M 4 4) (([⟨170,b,0⟩,⟨171,b,3⟩,⟨172,b,6⟩,⟨173,b,10⟩]:List P0))::e8 b (pq nd es v) 169::e8 gb [e7 nd,.slice ga es.length gc] 38::I) Az ⟨rfl,rfl⟩
theorem ak0{nd kd wd mo:Int}{k:EnS}{v:KpV}(hF:KpF κ I nd k v)(hK:EnV nd kd wd mo bd k)(ao:k.b.ws.length<=4096)(hT:F4 κ I 0 p5):eu prog κ 23 [.agg (kx kd wd mo bd nd k v).toArray] I (λr J=>r = .bool true/\I=J):=by
 have ak:=q9 (G2 hK.inv.val)
 have an:=ak
 rw [G7] at an
 have aq:=hK.tm
 refine Ce1 Tryz.func23 C C ?_
 refine Am<|Ge1 (Au (cs:=[_,_,_,_,_,_,_,_,_,_,_,_,_,_,_,_,_,_,_,_,_,_,_,_,_]) C C C) λb1=>Z ?_
 refine G.e (Ac c_ C C<|au1 (bd:=bd) (bf:=k.b) (Bd hF.w<|B3 (κ:=κ)<|by repeat (first|exact hH|exact Bh _|apply Bg|apply B1|apply Bo)) hK.buf ao) ?_
 rintro _ _ ⟨_,_,⟨rfl,rfl⟩,rfl,rfl⟩
 refine Z ?_
 refine Dj (Cf C C C) (Ac c_ C C<|bh6 kd wd mo) ?_
 rintro _ _ ⟨_,_,⟨rfl,rfl⟩,rfl,rfl⟩
 refine Z ?_
 refine A1 (d:=15) C (λad=>?_)<|λad=>Z ?_
 ·exact absurd hK.win ad
 refine A1 (d:=20) C (λaj=>?_)<|λaj=>Z ?_
 ·omega
 refine Al C (λai=>?_)<|λai=>Z ?_
 ·omega
 refine Gc2 (Ac c_ C C<|cc2 (nd:=nd) (Bd hF.l<|B3 (κ:=κ)<|by repeat (first|exact hH|exact Bh _|apply Bg|apply B1|apply Bo)) hK.inv.val om) λab ae=>Z ?_
 refine Ge1 (Aj J9 C) λb4=>Ge0 (Cr J9)<|Z ?_
 refine A1 (d:=33) C (λah=>?_)<|λah=>Z ?_
 ·exact absurd rfl ah
 refine e9 (Dv C C)<|Dj (Cf C C C) (Ac c_ C C<|at7 (Bd hF.l<|B3 (κ:=κ)<|by repeat (first|exact hH|exact Bh _|apply Bg|apply B1|apply Bo))<|cz0<|Dm mm) ?_
 rintro _ _ ⟨_,_,⟨rfl,rfl⟩,rfl,rfl⟩
 refine Z ?_
 refine Dq C (λaa=>?_)<|λaa=>Z ?_
 ·rw [fn2 hK] at aa;exact absurd aa dc
 refine G.e (Ac c_ C C fj2) ?_
 rintro _ _ ⟨_,_,⟨M,rfl,rfl⟩,rfl,rfl⟩
 refine G.e (Ac c_ C C dr8) ?_
 rintro _ _ ⟨_,_,⟨ap,rfl,rfl⟩,rfl,rfl⟩
 refine Gr (Dv C C)<|Gc1 (Ac c_ C C<|Cl (J:=vc 117 (.slice ap 4 4) (([⟨170,M,0⟩,⟨171,M,3⟩,⟨172,M,6⟩,⟨173,M,10⟩]:List P0))::e8 M (pq nd (j8 k.S) v.p) 169::e8 b4 [e7 nd,.slice ab (j8 k.S).length ae] 38::vk 105 ab ae (j8 k.S)::e8 b1 (kx kd wd mo bd nd k v) 47::I) Az<|fs0 (b:=M) (gb:=b4) (PkR.fit hF.p Ah) A5 (G2 hK.inv.val)<|A6 hT Ah)<|Z ?_
 exact Ak C C I Ah ⟨rfl,rfl⟩
theorem dr2{κ:Ctx}{I:List Item}{nd kd wd mo:Int}{k:EnS}{v:KpV}(hH:Has I T)(hF:KpF κ T nd k v)(hv:p9 nd k.S=0)(bc:k.b.ws.length<=100000):eu prog κ 82 [.agg (kx kd wd mo bd nd k v).toArray] I (λr J=>∃(v':KpV) (Y:List Item),r = .agg (kx kd wd mo bd nd k v').toArray/\KpF κ (Y++T) nd k v'/\J=Y++I):=by
 have hG:=G2 hv
 have a5:=q9 hG
 have a6:=a5
 rw [G7] at a6
 have a8:=hG.rng
 have a9:=bz2 nd (j8 k.S)
 have a7:=G3 hG
 have ba:=H2 nd (j8 k.S)
 have bb:=G1 nd (j8 k.S)
 refine Ce1 Tryz.func82 C C ?_
 refine Am<|Ge1 (Au (cs:=[_,_,_,_,_,_,_,_,_,_,_,_,_,_,_,_,_,_,_,_,_,_,_,_,_]) C C C) λb1=>Ge1 (Aj H3 C) λb2=>Ar<|Ay<|A9 mixed<|Bx (e8 b2 zk 47::I) 14<|Z ?_
 refine D.two (e8 b2 zk 47::e8 b1 (kx kd wd mo bd nd k v) 47::I) 10 Az ?_
 refine Ff 2 C kr kr kr C kr (λ_ _ _ _ h=>h) (Ap C) C C Az (Bf ap3) ?_
 refine Ff 6 C kr kr kr C kr (λ_ _ _ _ h=>h) (Ap C) C C Az (Bf au7) ?_
 refine E1 (rs:=[3]) kr C C<|Do ?_
 refine Dt C (Ap C) (Ac c_ C C<|ay7 (xs:=k.b.ws) (Bd hF.w<|B3 (κ:=κ)<|by repeat (first|exact hH|exact Bh _|apply Bg|apply B1|apply Bo)) om) ?_
 rintro _ _ ⟨_,_,⟨ay,a4,rfl,rfl⟩,rfl,rfl⟩
 refine ⟨Az,?_⟩
 refine E1 (rs:=[7]) kr C C<|Do ?_
 refine Dt C (Ap C) (Ac c_ C C<|bh5 (xs:=k.S) (Bd hF.l<|B3 (κ:=κ)<|by repeat (first|exact hH|exact Bh _|apply Bg|apply B1|apply Bo)) om) ?_
 rintro _ _ ⟨_,_,⟨a0,a3,rfl,rfl⟩,rfl,rfl⟩
 refine ⟨Az,?_⟩
 refine E1 (rs:=[8]) kr C C<|Do ?_
 refine ch5.read C (Ap C) C C (Af aw4 C) Az ?_
 refine Ff 9 C kr kr kr C kr (λ_ _ _ _ h=>h) (Ap C) C C Az (Af R0 C) ?_
 refine D2.stop kr ?_
 refine Ds1 10<|Se0 C (Br (cs:=[_,_,_,_,_,_,_,_,_,_,_,_,_,_,_,_,_,_,_,_,_,_,_,_,_]) (vs:=[_]) (cs':=[_,_,_,_,_,_,_,_,_,_,_,_,_,_,_,_,_,_,_,_,_,_,_,_,_]) ap3)<|Z ?_
 refine Ds1 13<|Se0 C (Br (cs:=[_,_,_,_,_,_,_,_,_,_,_,_,_,_,_,_,_,_,_,_,_,_,_,_,_]) (vs:=[_]) (cs':=[_,_,_,_,_,_,_,_,_,_,_,_,_,_,_,_,_,_,_,_,_,_,_,_,_]) au7)<|Z ?_
 refine Ge1 (B0 (α:=aj9) (cs:=[_,_,_,_]) (xs:=[⟨b1,9⟩,⟨b1,12⟩,⟨b1,15⟩,⟨b1,19⟩]) D8 bi5 C C dc dc C C C C) λak=>Z ?_
 refine W.rounds 5 ?_
 refine De (n:=4)<|A0 (L':=[(29,e7 0),(28,e7 ((4:Nat):Int)),(27,.slice ak 4 4),(2,pt b2),(1,pt b1)]) (cx4<|Aa C Bb)<|Am<|Gr (Bj C C)<|Ar<|Ay<|Al C (λaa=>?_)<|λaa=>?_
 ·refine Bc (Ao<|Ay<|A8<|Am<|Gr (A2 (α:=aj9) (xs:=([⟨b1,9⟩,⟨b1,12⟩,⟨b1,15⟩,⟨b1,19⟩]:List aj9)) D8 bi5 C C A5 om om)<|Gr (Cc (α:=aj9) (xs:=([⟨b1,9⟩,⟨b1,12⟩,⟨b1,15⟩,⟨b1,19⟩]:List aj9)) (u:= .pointer (some ⟨b1,9,none⟩)) bi5 C A5 dc (show (0:Int)<((4:Nat):Int) by decide) C)<|Z ?_)
  refine Gc2 (Ac c_ C C<|an3 (xs:=(j8 k.S)) (Bd hF.p.e1<|B3 (κ:=κ)<|by repeat (first|exact hH|exact Bh _|apply Bg|apply B1|apply Bo)) om) λaz a1=>Z ?_
  refine Ge0 (Br (cs:=[_,_,_,_,_,_,_,_,_,_,_,_,_,_,_,_,_,_,_,_,_,_,_,_,_]) (vs:=[_]) (cs':=[_,_,_,_,_,_,_,_,_,_,_,_,_,_,_,_,_,_,_,_,_,_,_,_,_]) am8)<|Z ?_
  refine De (n:=3)<|A0 (L':=[(29,e7 1),(28,e7 ((4:Nat):Int)),(27,.slice ak 4 4),(2,pt b2),(1,pt b1)]) (cx4<|Aa C Bb)<|Am<|Gr (Bj C C)<|Ar<|Ay<|Al C (λaa=>?_)<|λaa=>?_
  ·refine Bc (Ao<|Ay<|A8<|Am<|Gr (A2 (α:=aj9) (xs:=([⟨b1,9⟩,⟨b1,12⟩,⟨b1,15⟩,⟨b1,19⟩]:List aj9)) D8 bi5 C C A5 om om)<|Gr (Cc (α:=aj9) (xs:=([⟨b1,9⟩,⟨b1,12⟩,⟨b1,15⟩,⟨b1,19⟩]:List aj9)) (u:= .pointer (some ⟨b1,12,none⟩)) bi5 C A5 dc (show (1:Int)<((4:Nat):Int) by decide) C)<|Z ?_)
   refine Gc2 (Ac c_ C C<|an3 (xs:=(j8 k.S)) (Bd hF.p.e2<|B3 (κ:=κ)<|by repeat (first|exact hH|exact Bh _|apply Bg|apply B1|apply Bo)) om) λad aj=>Z ?_
   refine Ge0 (Br (cs:=[_,_,_,_,_,_,_,_,_,_,_,_,_,_,_,_,_,_,_,_,_,_,_,_,_]) (vs:=[_]) (cs':=[_,_,_,_,_,_,_,_,_,_,_,_,_,_,_,_,_,_,_,_,_,_,_,_,_]) am8)<|Z ?_
   refine De (n:=2)<|A0 (L':=[(29,e7 2),(28,e7 ((4:Nat):Int)),(27,.slice ak 4 4),(2,pt b2),(1,pt b1)]) (cx4<|Aa C Bb)<|Am<|Gr (Bj C C)<|Ar<|Ay<|Al C (λaa=>?_)<|λaa=>?_
   ·refine Bc (Ao<|Ay<|A8<|Am<|Gr (A2 (α:=aj9) (xs:=([⟨b1,9⟩,⟨b1,12⟩,⟨b1,15⟩,⟨b1,19⟩]:List aj9)) D8 bi5 C C A5 om om)<|Gr (Cc (α:=aj9) (xs:=([⟨b1,9⟩,⟨b1,12⟩,⟨b1,15⟩,⟨b1,19⟩]:List aj9)) (u:= .pointer (some ⟨b1,15,none⟩)) bi5 C A5 dc (show (2:Int)<((4:Nat):Int) by decide) C)<|Z ?_)
    refine Gc2 (Ac c_ C C<|an3 (xs:=(j8 k.S)) (Bd hF.p.e3<|B3 (κ:=κ)<|by repeat (first|exact hH|exact Bh _|apply Bg|apply B1|apply Bo)) om) λae ar=>Z ?_
    refine Ge0 (Br (cs:=[_,_,_,_,_,_,_,_,_,_,_,_,_,_,_,_,_,_,_,_,_,_,_,_,_]) (vs:=[_]) (cs':=[_,_,_,_,_,_,_,_,_,_,_,_,_,_,_,_,_,_,_,_,_,_,_,_,_]) am8)<|Z ?_
    refine De (n:=1)<|A0 (L':=[(29,e7 3),(28,e7 ((4:Nat):Int)),(27,.slice ak 4 4),(2,pt b2),(1,pt b1)]) (cx4<|Aa C Bb)<|Am<|Gr (Bj C C)<|Ar<|Ay<|Al C (λaa=>?_)<|λaa=>?_
    ·refine Bc (Ao<|Ay<|A8<|Am<|Gr (A2 (α:=aj9) (xs:=([⟨b1,9⟩,⟨b1,12⟩,⟨b1,15⟩,⟨b1,19⟩]:List aj9)) D8 bi5 C C A5 om om)<|Gr (Cc (α:=aj9) (xs:=([⟨b1,9⟩,⟨b1,12⟩,⟨b1,15⟩,⟨b1,19⟩]:List aj9)) (u:= .pointer (some ⟨b1,19,none⟩)) bi5 C A5 dc (show (3:Int)<((4:Nat):Int) by decide) C)<|Z ?_)
     refine Gc2 (Ac c_ C C<|an3 (xs:=(j8 k.S)) (Bd hF.p.e4<|B3 (κ:=κ)<|by repeat (first|exact hH|exact Bh _|apply Bg|apply B1|apply Bo)) om) λaq ap=>Z ?_
     refine Ge0 (Br (cs:=[_,_,_,_,_,_,_,_,_,_,_,_,_,_,_,_,_,_,_,_,_,_,_,_,_]) (vs:=[_]) (cs':=[_,_,_,_,_,_,_,_,_,_,_,_,_,_,_,_,_,_,_,_,_,_,_,_,_]) am8)<|Z ?_
     refine De (n:=0)<|A0 (L':=[(29,e7 4),(28,e7 ((4:Nat):Int)),(27,.slice ak 4 4),(2,pt b2),(1,pt b1)]) (cx4<|Aa C Bb)<|Am<|Gr (Bj C C)<|Ar<|Ay<|Al C (λaa=>?_)<|λaa=>Z ?_
     ·exact absurd aa dc
     refine Ge1 (B0 (α:=aj9) (cs:=[_,_,_,_]) (xs:=[⟨b1,11⟩,⟨b1,14⟩,⟨b1,18⟩,⟨b1,23⟩]) D7 bi4 C C dc dc C C C C) λab=>Z ?_
     refine W.rounds 5 ?_
     refine De (n:=4)<|A0 (L':=[(52,e7 0),(51,e7 ((4:Nat):Int)),(50,.slice ab 4 4),(2,pt b2),(1,pt b1)]) (cx4<|Aa C Bb)<|Am<|Gr (Bj C C)<|Ar<|Ay<|Al C (λM=>?_)<|λM=>?_
     ·refine Bc (Ao<|Ay<|A8<|Am<|Gr (A2 (α:=aj9) (xs:=([⟨b1,11⟩,⟨b1,14⟩,⟨b1,18⟩,⟨b1,23⟩]:List aj9)) D7 bi4 C C A5 om om)<|Gr (Cc (α:=aj9) (xs:=([⟨b1,11⟩,⟨b1,14⟩,⟨b1,18⟩,⟨b1,23⟩]:List aj9)) (u:= .pointer (some ⟨b1,11,none⟩)) bi4 C A5 dc (show (0:Int)<((4:Nat):Int) by decide) C)<|Z ?_)
      refine Gc2 (Ac c_ C C<|ah0 (xs:=j9 nd (j8 k.S)) (Bd hF.p.n1<|B3 (κ:=κ)<|by repeat (first|exact hH|exact Bh _|apply Bg|apply B1|apply Bo)) om) λaw ai=>?_
      refine Gr (Ee C)<|Ge0 (Br (cs:=[_,_,_,_,_,_,_,_,_,_,_,_,_,_,_,_,_,_,_,_,_,_,_,_,_]) (vs:=[_]) (cs':=[_,_,_,_,_,_,_,_,_,_,_,_,_,_,_,_,_,_,_,_,_,_,_,_,_]) W4)<|Z ?_
      refine De (n:=3)<|A0 (L':=[(52,e7 1),(51,e7 ((4:Nat):Int)),(50,.slice ab 4 4),(2,pt b2),(1,pt b1)]) (cx4<|Aa C Bb)<|Am<|Gr (Bj C C)<|Ar<|Ay<|Al C (λM=>?_)<|λM=>?_
      ·refine Bc (Ao<|Ay<|A8<|Am<|Gr (A2 (α:=aj9) (xs:=([⟨b1,11⟩,⟨b1,14⟩,⟨b1,18⟩,⟨b1,23⟩]:List aj9)) D7 bi4 C C A5 om om)<|Gr (Cc (α:=aj9) (xs:=([⟨b1,11⟩,⟨b1,14⟩,⟨b1,18⟩,⟨b1,23⟩]:List aj9)) (u:= .pointer (some ⟨b1,14,none⟩)) bi4 C A5 dc (show (1:Int)<((4:Nat):Int) by decide) C)<|Z ?_)
       refine Gc2 (Ac c_ C C<|ah0 (xs:=j5 nd (j8 k.S)) (Bd hF.p.n2<|B3 (κ:=κ)<|by repeat (first|exact hH|exact Bh _|apply Bg|apply B1|apply Bo)) om) λax ao=>?_
       refine Gr (Ee C)<|Ge0 (Br (cs:=[_,_,_,_,_,_,_,_,_,_,_,_,_,_,_,_,_,_,_,_,_,_,_,_,_]) (vs:=[_]) (cs':=[_,_,_,_,_,_,_,_,_,_,_,_,_,_,_,_,_,_,_,_,_,_,_,_,_]) W4)<|Z ?_
       refine De (n:=2)<|A0 (L':=[(52,e7 2),(51,e7 ((4:Nat):Int)),(50,.slice ab 4 4),(2,pt b2),(1,pt b1)]) (cx4<|Aa C Bb)<|Am<|Gr (Bj C C)<|Ar<|Ay<|Al C (λM=>?_)<|λM=>?_
       ·refine Bc (Ao<|Ay<|A8<|Am<|Gr (A2 (α:=aj9) (xs:=([⟨b1,11⟩,⟨b1,14⟩,⟨b1,18⟩,⟨b1,23⟩]:List aj9)) D7 bi4 C C A5 om om)<|Gr (Cc (α:=aj9) (xs:=([⟨b1,11⟩,⟨b1,14⟩,⟨b1,18⟩,⟨b1,23⟩]:List aj9)) (u:= .pointer (some ⟨b1,18,none⟩)) bi4 C A5 dc (show (2:Int)<((4:Nat):Int) by decide) C)<|Z ?_)
        refine Gc2 (Ac c_ C C<|ah0 (xs:=H7 nd (j8 k.S)) (Bd hF.p.n3<|B3 (κ:=κ)<|by repeat (first|exact hH|exact Bh _|apply Bg|apply B1|apply Bo)) om) λav an=>?_
        refine Gr (Ee C)<|Ge0 (Br (cs:=[_,_,_,_,_,_,_,_,_,_,_,_,_,_,_,_,_,_,_,_,_,_,_,_,_]) (vs:=[_]) (cs':=[_,_,_,_,_,_,_,_,_,_,_,_,_,_,_,_,_,_,_,_,_,_,_,_,_]) W4)<|Z ?_
        refine De (n:=1)<|A0 (L':=[(52,e7 3),(51,e7 ((4:Nat):Int)),(50,.slice ab 4 4),(2,pt b2),(1,pt b1)]) (cx4<|Aa C Bb)<|Am<|Gr (Bj C C)<|Ar<|Ay<|Al C (λM=>?_)<|λM=>?_
        ·refine Bc (Ao<|Ay<|A8<|Am<|Gr (A2 (α:=aj9) (xs:=([⟨b1,11⟩,⟨b1,14⟩,⟨b1,18⟩,⟨b1,23⟩]:List aj9)) D7 bi4 C C A5 om om)<|Gr (Cc (α:=aj9) (xs:=([⟨b1,11⟩,⟨b1,14⟩,⟨b1,18⟩,⟨b1,23⟩]:List aj9)) (u:= .pointer (some ⟨b1,23,none⟩)) bi4 C A5 dc (show (3:Int)<((4:Nat):Int) by decide) C)<|Z ?_)
         refine Gc2 (Ac c_ C C<|ah0 (xs:=r9 nd (j8 k.S)) (Bd hF.p.n4<|B3 (κ:=κ)<|by repeat (first|exact hH|exact Bh _|apply Bg|apply B1|apply Bo)) om) λau ah=>?_
         refine Gr (Ee C)<|Ge0 (Br (cs:=[_,_,_,_,_,_,_,_,_,_,_,_,_,_,_,_,_,_,_,_,_,_,_,_,_]) (vs:=[_]) (cs':=[_,_,_,_,_,_,_,_,_,_,_,_,_,_,_,_,_,_,_,_,_,_,_,_,_]) W4)<|Z ?_
         refine De (n:=0)<|A0 (L':=[(52,e7 4),(51,e7 ((4:Nat):Int)),(50,.slice ab 4 4),(2,pt b2),(1,pt b1)]) (cx4<|Aa C Bb)<|Am<|Gr (Bj C C)<|Ar<|Ay<|Al C (λM=>?_)<|λM=>Z ?_
         ·exact absurd M dc
         refine Ge0 (Eff.sq H3) ?_
         exact Ar<|B2<|Ej C H3 C mm C (([vk 54 ay a4 k.b.ws,vc 82 (.slice a0 k.S.length a3)<|k.S,vc 105 (.slice az (j8 k.S).length a1)<|(j8 k.S),vc 3 (.slice aw (j9 nd<|j8 k.S).length ai)<|j9 nd<|j8 k.S,vc 105 (.slice ad (j8 k.S).length aj)<|(j8 k.S),vc 3 (.slice ax (j5 nd<|j8 k.S).length ao)<|j5 nd<|j8 k.S,vc 105 (.slice ae (j8 k.S).length ar)<|(j8 k.S),vc 3 (.slice av (H7 nd<|j8 k.S).length an)<|H7 nd<|j8 k.S,vc 105 (.slice aq (j8 k.S).length ap)<|(j8 k.S),vc 3 (.slice au (r9 nd<|j8 k.S).length ah)<|r9 nd<|j8 k.S]++I)) Az ⟨⟨⟨ay,a4⟩,⟨a0,a3⟩,⟨⟨az,a1⟩,⟨aw,ai⟩,⟨ad,aj⟩,⟨ax,ao⟩,⟨ae,ar⟩,⟨av,an⟩,⟨aq,ap⟩,⟨au,ah⟩⟩⟩,[vk 54 ay a4 k.b.ws,vc 82 (.slice a0 k.S.length a3)<|k.S,vc 105 (.slice az (j8 k.S).length a1)<|(j8 k.S),vc 3 (.slice aw (j9 nd<|j8 k.S).length ai)<|j9 nd<|j8 k.S,vc 105 (.slice ad (j8 k.S).length aj)<|(j8 k.S),vc 3 (.slice ax (j5 nd<|j8 k.S).length ao)<|j5 nd<|j8 k.S,vc 105 (.slice ae (j8 k.S).length ar)<|(j8 k.S),vc 3 (.slice av (H7 nd<|j8 k.S).length an)<|H7 nd<|j8 k.S,vc 105 (.slice aq (j8 k.S).length ap)<|(j8 k.S),vc 3 (.slice au (r9 nd<|j8 k.S).length ah)<|r9 nd<|j8 k.S],rfl,⟨A5,A5,⟨A5,A5,A5,A5,A5,A5,A5,A5⟩⟩,rfl⟩
        exact absurd dc M
       exact absurd dc M
      exact absurd dc M
     exact absurd dc M
    exact absurd dc aa
   exact absurd dc aa
  exact absurd dc aa
 exact absurd dc aa
section
variable {nd kd wd mo:Int}{X X1:List Lk}{o evs:List Ev}{e:Ev}{t0:Int}{i:Nat}
theorem bp3(h:X7 kd wd mo X (evs.take i)=(X1,o))(hi:i<evs.length)(M:e_ evs i=e):X7 kd wd mo X (evs.take (i+1))=((q7 kd wd mo (X1,[]) e).1,o++(q7 kd wd mo (X1,[]) e).2):=by
 rw [Ca evs i hi,aq6,h,M];rfl
theorem ar7(hi:i<evs.length)(M:e_ evs i=e):T4 t0 (evs.take (i+1))=e.tm:=by
 rw [Ca evs i hi,bd9,M];rfl
theorem ce4(ha:evs.Pairwise λa b=>a.tm<=b.tm)(M:∀e∈evs,t0<=e.tm)(hi:i<evs.length):T4 t0 (evs.take i)<=(e_ evs i).tm:=by
 cases i with
 |zero=>exact M _ (Bn om om)
 |succ j=>
  rw [ar7 om rfl]
  exact (Fd evs).1 ha j (j+1) om hi
end
theorem bg7{κ:Ctx}{I:List Item}{nd kd wd mo:Int}{k:EnS}{v:KpV}{bf:BfS}{evs:List Ev}(hH:Has I T)(hF:KpF κ T nd k v)(hK:az1 nd kd wd mo bd k)(a8:Sl κ T (.slice wa bf.ws.length wc) bf.ws)(he:Sl κ T (.slice ea evs.length ec) evs)(a4:evs.Pairwise λa b=>a.tm<=b.tm)(an:∀e∈evs,J1 nd e/\k.tm<=e.tm)(ba:bf.ws.length<=100000)(bc:evs.length<=5000)(hT:F4 κ I 0 p5):eu prog κ 48 [.agg (kx kd wd mo bd nd k v).toArray,.agg #[e7 bd,e7 (bf.lt),e7 (bf.mr),.slice wa bf.ws.length wc],.slice ea evs.length ec] I (λr J=>∃(v':KpV) (Y:List Item) (a:Option Addr) (c:Nat),r = .tuple #[.agg (kx kd wd mo bd nd ((k.rel kd wd mo bf evs)) v').toArray,.slice a ((X7 kd wd mo k.S evs).2).length c,e7 0]/\KpF κ (Y++T) nd (k.rel kd wd mo bf evs) v'/\Sl κ (Y++T) (.slice a ((X7 kd wd mo k.S evs).2).length c) (X7 kd wd mo k.S evs).2/\J=Y++I):=by
 refine Ce3 Tryz.func48 C C ?_
 refine Am<|Ge1 (Au (cs:=[_,_,_,_,_,_,_,_,_,_,_,_,_,_,_,_,_,_,_,_,_,_,_,_,_]) C C C) λb1=>Ge1 (Au (cs:=[_,_,_,_]) C C C) λb2=>Ge1 (Aj H3 C) λb3=>Z ?_
 refine Ge0 (Br (cs:=[_,_,_,_,_,_,_,_,_,_,_,_,_,_,_,_,_,_,_,_,_,_,_,_,_]) (vs:=[_,_,_,_]) (cs':=[_,_,_,_,_,_,_,_,_,_,_,_,_,_,_,_,_,_,_,_,_,_,_,_,_]) J4)<|Z ?_
 refine B9 (σ:=Nat×(List Lk)×SlA×PkV×Int×(List Item)×(Option Addr)×Nat×(List Ev)) (λs=>([(3,pt b1),(6,pt b3),(9,.slice s.2.2.2.2.2.2.1 s.2.2.2.2.2.2.2.2.length s.2.2.2.2.2.2.2.1),(17,.slice ea evs.length ec),(18,e7 ((evs.length:Nat):Int)),(19,e7 ((s.1:Nat):Int))]:Env)) (λs=>vk 54 s.2.2.2.2.2.2.1 s.2.2.2.2.2.2.2.1 s.2.2.2.2.2.2.2.2::e8 b3 zk 47::e8 b2 [e7 bd,e7<|bf.lt,e7<|bf.mr,.slice wa bf.ws.length wc] 32::e8 b1 (ky kd wd mo bd bf.lt bf.mr wa bf.ws.length wc nd s.2.2.1.a s.2.1.length s.2.2.1.c (j8 s.2.1) s.2.2.2.1 s.2.2.2.2.1) 47::(s.2.2.2.2.2.1++I)) (λs=>(s.1<=evs.length)/\(X7 kd wd mo k.S (evs.take s.1)=(s.2.1,s.2.2.2.2.2.2.2.2))/\(s.2.2.2.2.1=T4 k.tm (evs.take s.1))/\(SlI nd kd wd s.2.2.2.2.1 s.2.1)/\(Sl κ (s.2.2.2.2.2.1++T) (.slice s.2.2.1.a s.2.1.length s.2.2.1.c) s.2.1)/\(PkR κ (s.2.2.2.2.2.1++T) nd (j8 s.2.1) s.2.2.2.1)/\(0<=s.2.2.2.2.1)/\(s.2.2.2.2.2.2.2.2.length<=5000*s.1)) (λs=>evs.length - s.1) (0,k.S,v.l,v.p,k.tm,[],none,0,[]) ⟨om,rfl,rfl,hK.inv,hF.l,hF.p,hK.tm.1,(by simp)⟩ (cx2<|Aa (Db C<|by first|rfl|simp)<|cx2<|Aa Cn Bb) (A7 (show Fit κ _ _ from Az)<|B6 (α:=Ev) _ _) ?_
 rintro ⟨i,X1,lw,pw,t1,Y,oa,oc,o⟩ hp
 dsimp only at hp ⊢
 obtain ⟨hi,aa,aq,ad,a0,av,ay,be⟩:=hp
 have a6:=q9 (G2 ad.val)
 rw [G7] at a6
 refine Z ?_
 refine Al C (λa9=>?_)<|λa9=>Z ?_
 ·refine Bc (Ao<|Ay<|A8<|Am<|Gr (A2 (α:=Ev) (xs:=evs) Ad z6 C C (Bd (Bd he hH.fit) Ah) om om)<|Gr (Da (α:=Ev) (xs:=evs) z6 C (Bd (Bd he hH.fit) Ah) om om) ?_)
  have ab:=an _ (Bn (xs:=evs) (i:=(i:Int)) om om)
  have ah:=ce4 a4 (λe he=>(an e he).2) (i:=i) om
  rw [←aq] at ah
  generalize hxe:e_ evs i=xe at ab ah ⊢
  have ap:=cd5 ad ay ah ab.1 hK.win
  have bb:=ap.len
  refine Ge1 (Aj z6 C) λb4=>Ge0 (Fk z6)<|Z ?_
  refine G.e (Ac c_ C C<|fq4 (T:=(Y++T)) (X:=X1) (xe:=xe) ta2 a0 av ad hK.win ab.1 ⟨ay,ah⟩<|A6 hT Ah) ?_
  rintro _ _ ⟨_,_,⟨ae,M,Y7,aw,az,rfl,ak,ai,aj,rfl⟩,rfl,rfl⟩
  refine Ds (J:=e8 b4 (ez xe) 54::vk 54 oa oc o::e8 b3 zk 47::e8 b2 [e7 bd,e7<|bf.lt,e7<|bf.mr,.slice wa bf.ws.length wc] 32::e8 b1 (ky kd wd mo bd bf.lt bf.mr wa bf.ws.length wc nd lw.a X1.length lw.c (j8 X1) pw t1) 47::(Y7++(Y++I))) (Cj<|C0 (A:=Y7) (L:=[e8 b4 (ez xe) 54,vk 54 oa oc o,e8 b3 zk 47,e8 b2 [e7 bd,e7<|bf.lt,e7<|bf.mr,.slice wa bf.ws.length wc] 32,e8 b1 (ky kd wd mo bd bf.lt bf.mr wa bf.ws.length wc nd lw.a X1.length lw.c (j8 X1) pw t1) 47]) (T:=(Y++I)))<|Z ?_
  refine Ge1 (Aj H3 C) λa7=>Ge0 (Eff.sq H3)<|Z ?_
  refine Al C (λau=>?_)<|λau=>?_
  ·exact absurd au dc
  refine Bc<|Ao<|A9 mixed<|Bx (e8 a7 (ky kd wd mo bd bf.lt bf.mr wa bf.ws.length wc nd ae.a (q7 kd wd mo (X1,[]) xe).1.length ae.c (j8 (q7 kd wd mo (X1,[]) xe).1) M xe.tm) 47::e8 b4 (ez xe) 54::e8 b3 zk 47::e8 b2 [e7 bd,e7<|bf.lt,e7<|bf.mr,.slice wa bf.ws.length wc] 32::(Y7++(Y++I))) 4<|Z ?_
  refine C8 (rs:=[1,2]) kr C C<|Ei ?_<|Do ?_
  ·refine Sr C (Aq C) Az ?_
   refine Ds1 2<|Sr C (Aq C) Az ?_
   refine Ds1 3<|Se2 C (Bp (α:=Ev) (e:=54) (xs:=o) (ys:=(q7 kd wd mo (X1,[]) xe).2) Ad z6 C C C mm (Bd (show Sl κ (Y7++(Y++I)) (.slice aw (q7 kd wd mo (X1,[]) xe).2.length az) (q7 kd wd mo (X1,[]) xe).2 from Bd aj (B3 (κ:=κ)<|by repeat (first|exact hH|exact Bh _|apply Bg|apply B1|apply Bo))) Ah) om dc C<|λ_ _=>am) λa3 ax=>?_
   refine Cg kr ?_
   refine Ae 4 C (Eff.sq H3) ?_
   rintro _ _ ⟨rfl,rfl⟩
   refine Dg (i:=5) kr C (Ap C) C C (Be C) ?_
   refine Ch kr<|Z ?_
   exact Bt ((i+1),((q7 kd wd mo (X1,[]) xe).1),(ae),(M),(xe.tm),((Y7++Y)),(a3),(ax),(o++((q7 kd wd mo (X1,[]) xe).2))) (by dsimp only;exact ⟨om,(bp3 aa om hxe),(ar7 om hxe).symm,ap.inv,(by rw [Fu];exact ak),(by rw [Fu];exact ai),ab.1.tm.1,(by rw [By];omega)⟩) (hI:=by (try dsimp only);exact ta7)
  refine Sr C (Aq C) Az ?_
  refine Ds1 1<|Sr C (Aq C) Az ?_
  refine Ds1 3<|Se2 C (Bp (α:=Ev) (e:=54) (xs:=o) (ys:=(q7 kd wd mo (X1,[]) xe).2) Ad z6 C C C mm (Bd (show Sl κ (Y7++(Y++I)) (.slice aw (q7 kd wd mo (X1,[]) xe).2.length az) (q7 kd wd mo (X1,[]) xe).2 from Bd aj (B3 (κ:=κ)<|by repeat (first|exact hH|exact Bh _|apply Bg|apply B1|apply Bo))) Ah) om dc C<|λ_ _=>am) λa1 a5=>?_
  refine Cg kr ?_
  refine Ae 4 C (Eff.sq H3) ?_
  rintro _ _ ⟨rfl,rfl⟩
  refine Dg (i:=5) kr C (Ap C) C C (Be C) ?_
  refine Ch kr<|Z ?_
  exact Bt ((i+1),((q7 kd wd mo (X1,[]) xe).1),(ae),(M),(xe.tm),((Y7++Y)),(a1),(a5),(o++((q7 kd wd mo (X1,[]) xe).2))) (by dsimp only;exact ⟨om,(bp3 aa om hxe),(ar7 om hxe).symm,ap.inv,(by rw [Fu];exact ak),(by rw [Fu];exact ai),ab.1.tm.1,(by rw [By];omega)⟩) (hI:=by (try dsimp only);exact ta7)
 refine G.e (Ac c_ C C<|dr2 (T:=(Y++T)) (k:=(⟨bf,X1,t1⟩:EnS)) (v:=(⟨⟨wa,wc⟩,lw,pw⟩:KpV)) ta2 ⟨a8.fit<|Bu _ _,a0,av⟩ ad.val ba) ?_
 rintro _ _ ⟨_,_,⟨ar,Y16,rfl,ao,rfl⟩,rfl,rfl⟩
 refine Ds (J:=vk 54 oa oc o::e8 b3 zk 47::e8 b2 [e7 bd,e7<|bf.lt,e7<|bf.mr,.slice wa bf.ws.length wc] 32::e8 b1 (ky kd wd mo bd bf.lt bf.mr wa bf.ws.length wc nd lw.a X1.length lw.c (j8 X1) pw t1) 47::(Y16++(Y++I))) (Cj<|C0 (A:=Y16) (L:=[vk 54 oa oc o,e8 b3 zk 47,e8 b2 [e7 bd,e7<|bf.lt,e7<|bf.mr,.slice wa bf.ws.length wc] 32,e8 b1 (ky kd wd mo bd bf.lt bf.mr wa bf.ws.length wc nd lw.a X1.length lw.c (j8 X1) pw t1) 47]) (T:=(Y++I))) ?_
 refine Gm C<|Ge0 (Eff.sq H3)<|Z ?_
 rw [show evs.take i=evs from Fx om] at aa aq
 have hk:(k.rel kd wd mo bf evs)=⟨bf,X1,t1⟩:=by unfold EnS.rel;rw [aa,←aq]
 rw [hk,aa]
 exact Cu C H3 C C C mm C (((vk 54 oa oc o::(Y16++Y))++I)) tb2 ⟨ar,(vk 54 oa oc o::(Y16++Y)),oa,oc,rfl,(by simp only [Jd,Fu];exact KpF.fit ao<|Fb<|Dd _),Cy<|Gk _ A_,rfl⟩
end Go.Sl
