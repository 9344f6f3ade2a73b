/- A part of the proofs of statements of this seat: contracts of functions, and the plain laws that they lean on. No conditions. -/
import Derived.Test.YtoagcglbkeomgaaGreatDoorV26
set_option linter.unusedVariables false
set_option linter.unusedSimpArgs false
set_option linter.unusedSectionVars false
open Go.Proofs.Tryz (prog)
set_option maxHeartbeats 4000000
namespace Go.Sl
open Go.Proofs
set_option maxRecDepth 4000
variable{bd tm:Int}{ea ga na wa:Option Addr}{b ec gb gc nc wc:Nat}{T:List Item}{M aa ab ad ae ah ai aj ak an ao ap aq ar x0 x1 x2 x3 x4 x5 x6 x7 x8 x9 y0 y1 y2 y3 y4 y5 y6 y7 y8 y9:Value}{es:List Pt}
variable {κ:Ctx}{I:List Item}
attribute [local irreducible] W G V D A j8 Eff
theorem ax7{bf:BfS}(hl:Sl κ I (.slice wa bf.ws.length wc) bf.ws)(hw:bf.ws.length<=4096):eu prog κ 93 [.agg #[e7 bd,e7 (bf.lt),e7 (bf.mr),.slice wa bf.ws.length wc]] I (λr J=>∃(a:Option Addr) (c:Nat),r = .agg #[e7 bd,e7 bf.lt,e7 bf.mr,.slice a bf.ws.length c]/\J=vk 54 a c bf.ws::I):=by
 refine Ce1 Tryz.func93 C C ?_
 refine Ak<|Ge1 (Au (cs:=[_,_,_,_]) C C C) λb1=>Ge1 (Aj J4 C) λb2=>Z ?_
 refine Gc2 (Ac c_ C C<|az1 (xs:=bf.ws) (A4 hl) om) λM aa=>?_
 refine Gf R1 C<|Ge0 (Bs (cs:=[_,_,_,_]) (vs:=[_]) (cs':=[_,_,_,_]) ap8)<|Z ?_
 refine Ge0 (C8 J4) ?_
 exact Ar<|B3<|Ek C J4 C mm C (vk 54 M aa bf.ws::I) Az ⟨M,aa,rfl,rfl⟩
theorem ds2{bf:BfS}(hH:Has I T)(hl:Sl κ T (.slice wa bf.ws.length wc) bf.ws)(M:az5 bd bf)(hw:bf.ws.length<=4096):eu prog κ 65 [.agg #[e7 bd,e7 (bf.lt),e7 (bf.mr),.slice wa bf.ws.length wc]] I (λr J=>∃(a:Option Addr) (c:Nat) (a2:Option Addr) (c2:Nat) (Y:List Item),r = .tuple #[.agg #[e7 bd,e7 bf.flush.lt,e7 bf.flush.mr,.slice a bf.flush.ws.length c],.slice a2 (bf.ws).length c2,e7 0]/\Sl κ (Y++T) (.slice a bf.flush.ws.length c) bf.flush.ws/\Sl κ (Y++T) (.slice a2 bf.ws.length c2) bf.ws/\J=Y++I):=by
 have a0:=M.bd
 have az:=M.lt
 have ay:=M.mr
 refine Ce1 Tryz.func65 C C ?_
 refine Ak<|Ge1 (Au (cs:=[_,_,_,_]) C C C) λb1=>Ge1 (Aj J4 C) λb2=>Z ?_
 refine G.e (Ac c_ C C<|au6 (bd:=bd) (bf:=bf) (Bg (Bg hl hH.fit) Ah) M om) ?_
 rintro _ _ ⟨_,_,⟨rfl,rfl⟩,rfl,rfl⟩
 refine Z ?_
 refine Ba mixed<|Ee 11<|Z ?_
 refine C9 (rs:=[1,8]) kr C C<|Ej ?_<|Do ?_
 ·refine Sc2 C (Ac c_ C C<|ax7 (bd:=bd) (bf:=bf) (Bg (Bg hl hH.fit) Ah) om) λaa ak=>?_
  refine C9 (rs:=[4,8]) kr C C<|Ej ?_<|Do ?_
  ·refine Se C (Ac c_ C C<|ap1 (bd:=bd) (lt:=bf.lt) (mr:=bf.mr) (m:=bf.lt) A5 M.asc om) ?_
   rintro _ _ ⟨_,_,⟨ar,ao,ax,rfl,au,rfl⟩,rfl,rfl⟩
   refine ⟨Ah,?_⟩
   refine Z ?_
   refine Ds1 8<|Se1 C (Aj J4 C) λb8=>?_
   refine Ds1 9<|Se0 C (C8 J4)<|Z ?_
   refine Ge0 (C8 J4)<|Z ?_
   have ai:max bf.mr bf.lt=bf.lt:=by omega
   exact Cu C J4 C C C mm C (vk 54 ar ao (beyond bf.lt bf.ws)::vk 54 aa ak bf.ws::I) Az ⟨ar,ao,aa,ax,[vk 54 ar ao (beyond bf.lt bf.ws),vc 54 (.slice aa bf.ws.length ak)<|bf.ws],(by rw [ai,M.none,M.all];rfl),Sl.cast (xs:=beyond bf.lt bf.ws) A5 M.none,Sl.cast (xs:=ap2 bf.lt bf.ws) (Sl.ap2 A5 au) M.all,rfl⟩
  refine Se1 C (Aj J4 C) λb9=>?_
  refine Ds1 4<|Se C (Ac c_ C C<|ap1 (bd:=bd) (lt:=bf.lt) (mr:=bf.mr) (m:=bf.lt) A5 M.asc om) ?_
  rintro _ _ ⟨_,_,⟨ad,ab,aw,rfl,ap,rfl⟩,rfl,rfl⟩
  refine ⟨Ah,?_⟩
  refine Z ?_
  refine Ds1 9<|Se0 C (C8 J4)<|Z ?_
  refine Ge0 (C8 J4)<|Z ?_
  have ai:max bf.mr bf.lt=bf.lt:=by omega
  exact Cu C J4 C C C mm C (vk 54 ad ab (beyond bf.lt bf.ws)::vk 54 aa ak bf.ws::I) Az ⟨ad,ab,aa,aw,[vk 54 ad ab (beyond bf.lt bf.ws),vc 54 (.slice aa bf.ws.length ak)<|bf.ws],(by rw [ai,M.none,M.all];rfl),Sl.cast (xs:=beyond bf.lt bf.ws) A5 M.none,Sl.cast (xs:=ap2 bf.lt bf.ws) (Sl.ap2 A5 ap) M.all,rfl⟩
 refine Se1 C (Aj J4 C) λa1=>?_
 refine Ds1 1<|Sc2 C (Ac c_ C C<|ax7 (bd:=bd) (bf:=bf) (Bg (Bg hl hH.fit) Ah) om) λae an=>?_
 refine Ds1 4<|Se C (Ac c_ C C<|ap1 (bd:=bd) (lt:=bf.lt) (mr:=bf.mr) (m:=bf.lt) A5 M.asc om) ?_
 rintro _ _ ⟨_,_,⟨aj,ah,av,rfl,aq,rfl⟩,rfl,rfl⟩
 refine ⟨Ah,?_⟩
 refine Z ?_
 refine Ds1 9<|Se0 C (C8 J4)<|Z ?_
 refine Ge0 (C8 J4)<|Z ?_
 have ai:max bf.mr bf.lt=bf.lt:=by omega
 exact Cu C J4 C C C mm C (vk 54 aj ah (beyond bf.lt bf.ws)::vk 54 ae an bf.ws::I) Az ⟨aj,ah,ae,av,[vk 54 aj ah (beyond bf.lt bf.ws),vc 54 (.slice ae bf.ws.length an)<|bf.ws],(by rw [ai,M.none,M.all];rfl),Sl.cast (xs:=beyond bf.lt bf.ws) A5 M.none,Sl.cast (xs:=ap2 bf.lt bf.ws) (Sl.ap2 A5 aq) M.all,rfl⟩
theorem ds1{e:Ev}{bf:BfS}(hl:Sl κ I (.slice wa bf.ws.length wc) bf.ws)(hB:az5 bd bf)(hw:bf.ws.length<=4096)(he:z6 e=0)(ht:e.tm<=bf.mr):eu prog κ 47 [.agg #[e7 bd,e7 (bf.lt),e7 (bf.mr),.slice wa bf.ws.length wc],.agg (ez e).toArray] I (λr J=>∃(a:Option Addr) (c:Nat),r = .tuple #[.agg #[e7 bd,e7 bf.lt,e7 bf.mr,.slice a bf.ws.length c],.slice none 0 0,e7 10]/\I=J):=by
 have ah:=hB.bd
 have ai:=hB.lt
 have ae:=hB.mr
 refine Ce2 Tryz.func47 C C ?_
 refine Ak<|Ge1 (Au (cs:=[_,_,_,_]) C C C) λb1=>Ge1 (Au (cs:=[_,_,_,_,_,_,_]) C C C) λb2=>Ge1 (Aj J4 C) λb3=>Ga C<|Ga C<|Ar<|Ak<|Gl7 s9 ?_
 refine G.e (Ac c_ C C<|ab4 e) ?_
 rintro _ _ ⟨_,_,⟨rfl,rfl⟩,rfl,rfl⟩
 refine Ga C<|Ar<|Ax<|A7<|Ak<|Gl4 J4 ?_
 refine G.e (Ac c_ C C<|au6 (bd:=bd) (bf:=bf) (A4 hl) hB om) ?_
 rintro _ _ ⟨_,_,⟨rfl,rfl⟩,rfl,rfl⟩
 refine Z ?_
 refine Am C (λM=>?_)<|λM=>Z ?_
 ·exact absurd he M
 refine Am C (λad=>?_)<|λad=>?_
 ·refine Ak (Gl4 J4 ?_)
  refine Gc2 (Ac c_ C C<|ax7 (bd:=bd) (bf:=bf) (A4 hl) om) λaa ab=>?_
  refine Ge0 (C8 J4)<|Z ?_
  exact Cu C J4 C C C mm C I Ah ⟨aa,ab,rfl,rfl⟩
 omega
theorem fi2(hb:0<=bd/\bd<=1048576):eu prog κ 39 [e7 bd] I (λr J=>r = .tuple #[.agg #[e7 bd,e7 (-1),e7 (-1),.slice none 0 0],e7 0]/\I=J):=by
 refine Ce1 Tryz.func39 C C ?_
 refine Ak<|Ge1 (Aj J4 C) λb1=>Z ?_
 refine A3 (d:=6) C (λg6=>?_)<|λg6=>Z ?_
 ·omega
 refine Am C (λM=>?_)<|λM=>Z ?_
 ·omega
 refine Ge0 (C8 J4) ?_
 exact Ga C<|Ar<|B3<|Cp C J4 C C mm C I Ah ⟨rfl,rfl⟩
variable {κ:Ctx}{I:List Item}
structure KpV where
 w:SlA
 l:SlA
 p:PkV
abbrev kx(kd wd mo bd nd:Int)(k:EnS)(v:KpV):List Value:=[e7 kd,e7 wd,e7 mo,e7 bd,e7 k.b.lt,e7 k.b.mr,.slice v.w.a k.b.ws.length v.w.c,e7 nd,.slice v.l.a k.S.length v.l.c,e7 nd,.slice v.p.e1.a (j5 k.S).length v.p.e1.c,.slice v.p.n1.a (j9 nd (j5 k.S)).length v.p.n1.c,e7 nd,.slice v.p.e2.a (j5 k.S).length v.p.e2.c,.slice v.p.n2.a (j6 nd (j5 k.S)).length v.p.n2.c,e7 nd,.slice v.p.e3.a (j5 k.S).length v.p.e3.c,e7 (V7 nd (j5 k.S) / 3),.slice v.p.n3.a (H3 nd (j5 k.S)).length v.p.n3.c,e7 nd,.slice v.p.e4.a (j5 k.S).length v.p.e4.c,e7 (F8 nd (j5 k.S)),e7 (J7 nd (j5 k.S)),.slice v.p.n4.a (r8 nd (j5 k.S)).length v.p.n4.c,e7 k.tm]
structure KpF (κ:Ctx) (T:List Item) (nd:Int) (k:EnS) (v:KpV):Prop where
 w:Sl κ T (.slice v.w.a k.b.ws.length v.w.c) k.b.ws
 l:Sl κ T (.slice v.l.a k.S.length v.l.c) k.S
 p:PkR κ T nd (j5 k.S) v.p
theorem KpF.fit{κ:Ctx}{I J:List Item}{nd:Int}{k:EnS}{v:KpV}(h:KpF κ I nd k v)(f:Fit κ J I):KpF κ J nd k v:=⟨h.w.fit f,h.l.fit f,h.p.fit f⟩
structure EnV (nd kd wd mo bd:Int) (k:EnS):Prop where
 win:s7 kd wd mo=0
 buf:az5 bd k.b
 inv:SlI nd kd wd k.tm k.S
 tm:0<=k.tm/\k.tm<=1048576
theorem bj0.v{nd kd wd mo:Int}{k:EnS}(h:bj0 nd kd wd mo bd k):EnV nd kd wd mo bd k:=⟨h.win,h.buf,h.inv,h.tm.1,h.tm.2.1⟩
theorem fo4{nd kd wd mo:Int}{k:EnS}(h:EnV nd kd wd mo bd k):k.S.any (λx=>decide (k.tm<x.tm))=false:=by
 rw [Bool.eq_false_iff]
 intro h1
 obtain ⟨x,M,h2⟩:=Kc.1 h1
 have:=h.inv.tm x M
 have:=Fq h2
 omega
theorem ff8(hb:ab8 κ I b [x0,x1,x2,x3,x4,x5,x6,x7,x8,x9,ar,ae,ai,aa,ab,ad,ao,aq,ap,M,ak,an,ah,aj,e7 (tm)] 47)(x:Lk):eu prog κ 59 [.agg (kl x).toArray,(pt b)] I (λr J=>r = .bool (decide (tm<x.tm))/\I=J):=by
 refine Ce2 Tryz.func59 C C ?_
 refine Ak<|Ge1 (Au (cs:=[_,_,_,_,_,_]) C C C) λb1=>Z ?_
 refine Gr (Eb ef C (El hb Ah) C)<|Z ?_
 exact Al C C I Ah ⟨rfl,rfl⟩
theorem cz3(hb:ab8 κ I b [x0,x1,x2,x3,x4,x5,x6,x7,x8,x9,ar,ae,ai,aa,ab,ad,ao,aq,ap,M,ak,an,ah,aj,e7 (tm)] 47):dp0 prog κ I 59 [(pt b)] (λx:Lk=>decide (tm<x.tm)):=⟨c_,λx J hf=>ff8 (hb.fit hf) x⟩
theorem dr2{nd:Int}(hl:Sl κ I (.slice ea es.length ec) es)(hm:Sl κ I (.slice na (j9 nd es).length nc) (j9 nd es))(hG:s6 nd es)(hg:Sl κ I (.slice ga es.length gc) es)(hT:F4 κ I 0 p6):eu prog κ 63 [.iface 170 ((pt b)),(pt gb)] (e8 b [e7 nd,.slice ea es.length ec,.slice na (j9 nd es).length nc,y3,y4,y5,y6,y7,y8,y9,aa,M,ab,ae,ad] 169::e8 gb [e7 nd,.slice ga es.length gc] 38::I) (λr J=>r = .bool false/\J=e8 b [e7 nd,.slice ea es.length ec,.slice na (j9 nd es).length nc,y3,y4,y5,y6,y7,y8,y9,aa,M,ab,ae,ad] 169::e8 gb [e7 nd,.slice ga es.length gc] 38::I):=by
 refine Ce2 Tryz.func63 C C<|Z ?_
 refine G.e (D1 c_ C (λw=>by kernel_rfl) C C<|Cm (J:=e8 b [e7 nd,.slice ea es.length ec,.slice na (j9 nd es).length nc,y3,y4,y5,y6,y7,y8,y9,aa,M,ab,ae,ad] 169::e8 gb [e7 nd,.slice ga es.length gc] 38::I) Az<|fr3 (b:=b) (A4 hl) (A4 hm) hG (A4 hg)<|A8 hT Ah) ?_
 rintro _ _ ⟨_,_,⟨rfl,rfl⟩,rfl,rfl⟩
 refine Z ?_
 exact Al C C (e8 b [e7 nd,.slice ea es.length ec,.slice na (j9 nd es).length nc,y3,y4,y5,y6,y7,y8,y9,aa,M,ab,ae,ad] 169::e8 gb [e7 nd,.slice ga es.length gc] 38::I) Az ⟨rfl,rfl⟩
theorem dr1{nd:Int}(hl:Sl κ I (.slice ea es.length ec) es)(hm:Sl κ I (.slice na (j6 nd es).length nc) (j6 nd es))(hG:s6 nd es)(hg:Sl κ I (.slice ga es.length gc) es)(hT:F4 κ I 0 p6):eu prog κ 63 [.iface 171 (.pointer (some ⟨b,3,none⟩)),(pt gb)] (e8 b [y0,y1,y2,e7 nd,.slice ea es.length ec,.slice na (j6 nd es).length nc,y6,y7,y8,y9,aa,M,ab,ae,ad] 169::e8 gb [e7 nd,.slice ga es.length gc] 38::I) (λr J=>r = .bool false/\J=e8 b [y0,y1,y2,e7 nd,.slice ea es.length ec,.slice na (j6 nd es).length nc,y6,y7,y8,y9,aa,M,ab,ae,ad] 169::e8 gb [e7 nd,.slice ga es.length gc] 38::I):=by
 refine Ce2 Tryz.func63 C C<|Z ?_
 refine G.e (D1 c_ C (λw=>by kernel_rfl) C C<|Cm (J:=e8 b [y0,y1,y2,e7 nd,.slice ea es.length ec,.slice na (j6 nd es).length nc,y6,y7,y8,y9,aa,M,ab,ae,ad] 169::e8 gb [e7 nd,.slice ga es.length gc] 38::I) Az<|fr2 (b:=b) (A4 hl) (A4 hm) hG (A4 hg)<|A8 hT Ah) ?_
 rintro _ _ ⟨_,_,⟨rfl,rfl⟩,rfl,rfl⟩
 refine Z ?_
 exact Al C C (e8 b [y0,y1,y2,e7 nd,.slice ea es.length ec,.slice na (j6 nd es).length nc,y6,y7,y8,y9,aa,M,ab,ae,ad] 169::e8 gb [e7 nd,.slice ga es.length gc] 38::I) Az ⟨rfl,rfl⟩
theorem dr0{nd:Int}(hl:Sl κ I (.slice ea es.length ec) es)(hm:Sl κ I (.slice na (H3 nd es).length nc) (H3 nd es))(hG:s6 nd es)(hg:Sl κ I (.slice ga es.length gc) es)  :
    eu prog κ 63 [.iface 172 (.pointer<|some ⟨b,6,none⟩),pt gb] (e8 b [y0,y1,y2,y3,y4,y5,e7 nd,.slice ea es.length ec,e7<|V7 nd es / 3,.slice na (H3 nd es).length nc,aa,M,ab,ae,ad] 169::e8 gb [e7 nd,.slice ga es.length gc] 38::I) (λr J=>r = .bool false/\J=e8 b [y0,y1,y2,y3,y4,y5,e7 nd,.slice ea es.length ec,e7<|V7 nd es / 3,.slice na (H3 nd es).length nc,aa,M,ab,ae,ad] 169::e8 gb [e7 nd,.slice ga es.length gc] 38::I):=by
 refine Ce2 Tryz.func63 C C<|Z ?_
 refine G.e (D1 c_ C (λw=>by kernel_rfl) C C<|Cm (J:=e8 b [y0,y1,y2,y3,y4,y5,e7 nd,.slice ea es.length ec,e7<|V7 nd es / 3,.slice na (H3 nd es).length nc,aa,M,ab,ae,ad] 169::e8 gb [e7 nd,.slice ga es.length gc] 38::I) Az<|fr1 (b:=b) (A4 hl) (A4 hm) hG<|A4 hg) ?_
 rintro _ _ ⟨_,_,⟨rfl,rfl⟩,rfl,rfl⟩
 refine Z ?_
 exact Al C C (e8 b [y0,y1,y2,y3,y4,y5,e7 nd,.slice ea es.length ec,e7<|V7 nd es / 3,.slice na (H3 nd es).length nc,aa,M,ab,ae,ad] 169::e8 gb [e7 nd,.slice ga es.length gc] 38::I) Az ⟨rfl,rfl⟩
theorem dq9{nd:Int}{M:Nat}(hl:Sl κ I (.slice ea es.length ec) es)(hm:Sl κ I (.slice na (r8 nd es).length M) (r8 nd es))(hG:s6 nd es)(hg:Sl κ I (.slice ga es.length gc) es)(hT:F4 κ I 0 p6):eu prog κ 63 [.iface 173 (.pointer (some ⟨b,10,none⟩)),(pt gb)] (e8 b [y0,y1,y2,y3,y4,y5,y6,y7,y8,y9,e7 nd,.slice ea es.length ec,e7 (F8 nd es),e7 (J7 nd es),.slice na (r8 nd es).length M] 169::e8 gb [e7 nd,.slice ga es.length gc] 38::I) (λr J=>r = .bool false/\J=e8 b [y0,y1,y2,y3,y4,y5,y6,y7,y8,y9,e7 nd,.slice ea es.length ec,e7 (F8 nd es),e7 (J7 nd es),.slice na (r8 nd es).length M] 169::e8 gb [e7 nd,.slice ga es.length gc] 38::I):=by
 refine Ce2 Tryz.func63 C C<|Z ?_
 refine G.e (D1 c_ C (λw=>by kernel_rfl) C C<|Cm (J:=e8 b [y0,y1,y2,y3,y4,y5,y6,y7,y8,y9,e7 nd,.slice ea es.length ec,e7<|F8 nd es,e7<|J7 nd es,.slice na (r8 nd es).length M] 169::e8 gb [e7 nd,.slice ga es.length gc] 38::I) Az<|fr0 (b:=b) (A4 hl) (A4 hm) hG (A4 hg)<|A8 hT Ah) ?_
 rintro _ _ ⟨_,_,⟨rfl,rfl⟩,rfl,rfl⟩
 refine Z ?_
 exact Al C C (e8 b [y0,y1,y2,y3,y4,y5,y6,y7,y8,y9,e7 nd,.slice ea es.length ec,e7<|F8 nd es,e7<|J7 nd es,.slice na (r8 nd es).length M] 169::e8 gb [e7 nd,.slice ga es.length gc] 38::I) Az ⟨rfl,rfl⟩
variable {κ:Ctx}{I:List Item}
theorem ft0{nd:Int}{v:PkV}{fa:Option Addr}(hp:PkR κ I nd es v)(hg:Sl κ I (.slice ga es.length gc) es)(hG:s6 nd es)(hT:F4 κ I 0 p6):eu prog κ 110 [.slice fa 4 4,.func (.func 63) #[] #[(pt gb)]] (vc 117 (.slice fa 4 4) (([⟨170,b,0⟩,⟨171,b,3⟩,⟨172,b,6⟩,⟨173,b,10⟩]:List P0))::e8 b (pq nd es v) 169::e8 gb [e7 nd,.slice ga es.length gc] 38::I) (λr J=>r=e7 (-1)/\J=vc 117 (.slice fa 4 4) (([⟨170,b,0⟩,⟨171,b,3⟩,⟨172,b,6⟩,⟨173,b,10⟩]:List P0))::e8 b (pq nd es v) 169::e8 gb [e7 nd,.slice ga es.length gc] 38::I):=by
 refine Ce2 Tryz.func110 C C ?_
 refine Ak<|Ga C<|Ar<|Ax<|Ak<|Gm C<|Gr (Bk Ce C)<|Gm C<|Ar<|A7<|W.rounds 5 ?_
 refine De (n:=4)<|A1 (L':=[(8,e7 0),(7,e7 ((4:Nat):Int)),(0,.slice fa 4 4),(1,.func (.func 63) #[] #[(pt gb)])]) (cx2<|Aa C<|Aa C Bb)<|Ak<|Gr (Bl C C)<|Ar<|Ax<|Am C (λM=>?_)<|λM=>?_
 ·refine Bc (Ao<|Ax<|A7<|Ak<|Gm C<|Ga C<|Ar<|Ak<|Gm C<|Gm C<|Gm C<|Gr (A2 (α:=P0) (xs:=([⟨170,b,0⟩,⟨171,b,3⟩,⟨172,b,6⟩,⟨173,b,10⟩]:List P0)) Ce W5 C C A5 om om)<|Gr (Cc (α:=P0) (xs:=([⟨170,b,0⟩,⟨171,b,3⟩,⟨172,b,6⟩,⟨173,b,10⟩]:List P0)) (u:= .iface 170 (pt b)) W5 C A5 dc (show (0:Int)<((4:Nat):Int) by decide) C)<|G.e (Cy c_ C C C<|Cm (J:=e8 b (pq nd es v) 169::e8 gb [e7 nd,.slice ga es.length gc] 38::vc 117 (.slice fa 4 4) (([⟨170,b,0⟩,⟨171,b,3⟩,⟨172,b,6⟩,⟨173,b,10⟩]:List P0))::I) Az<|dr2 (b:=b) (gb:=gb) (A4 hp.e1) (A4 hp.n1) hG (A4 hg)<|A8 hT Ah) ?_)
  rintro _ _ ⟨_,_,⟨rfl,rfl⟩,rfl,rfl⟩
  refine Ar<|W.no C<|Bc<|Av<|Ao<|A6<|Gr (Rad C C)<|Gm C<|Bq<|De (n:=3)<|A1 (L':=[(8,e7 1),(7,e7 ((4:Nat):Int)),(0,.slice fa 4 4),(1,.func (.func 63) #[] #[(pt gb)])]) (cx2<|Aa C<|Aa C Bb)<|Ak<|Gr (Bl C C)<|Ar<|Ax<|Am C (λM=>?_)<|λM=>?_
  ·refine Bc (Ao<|Ax<|A7<|Ak<|Gm C<|Ga C<|Ar<|Ak<|Gm C<|Gm C<|Gm C<|Gr (A2 (α:=P0) (xs:=([⟨170,b,0⟩,⟨171,b,3⟩,⟨172,b,6⟩,⟨173,b,10⟩]:List P0)) Ce W5 C C A5 om om)<|Gr (Cc (α:=P0) (xs:=([⟨170,b,0⟩,⟨171,b,3⟩,⟨172,b,6⟩,⟨173,b,10⟩]:List P0)) (u:= .iface 171 (.pointer<|some ⟨b,3,none⟩)) W5 C A5 dc (show (1:Int)<((4:Nat):Int) by decide) C)<|Gc1 (Cy c_ C C C<|Cm (J:=e8 b (pq nd es v) 169::e8 gb [e7 nd,.slice ga es.length gc] 38::vc 117 (.slice fa 4 4) (([⟨170,b,0⟩,⟨171,b,3⟩,⟨172,b,6⟩,⟨173,b,10⟩]:List P0))::I) Az<|dr1 (b:=b) (gb:=gb) (A4 hp.e2) (A4 hp.n2) hG (A4 hg)<|A8 hT Ah) ?_)
   refine Ar<|W.no C<|Bc<|Av<|Ao<|A6<|Gr (Rad C C)<|Gm C<|Bq<|De (n:=2)<|A1 (L':=[(8,e7 2),(7,e7 ((4:Nat):Int)),(0,.slice fa 4 4),(1,.func (.func 63) #[] #[(pt gb)])]) (cx2<|Aa C<|Aa C Bb)<|Ak<|Gr (Bl C C)<|Ar<|Ax<|Am C (λM=>?_)<|λM=>?_
   ·refine Bc (Ao<|Ax<|A7<|Ak<|Gm C<|Ga C<|Ar<|Ak<|Gm C<|Gm C<|Gm C<|Gr (A2 (α:=P0) (xs:=([⟨170,b,0⟩,⟨171,b,3⟩,⟨172,b,6⟩,⟨173,b,10⟩]:List P0)) Ce W5 C C A5 om om)<|Gr (Cc (α:=P0) (xs:=([⟨170,b,0⟩,⟨171,b,3⟩,⟨172,b,6⟩,⟨173,b,10⟩]:List P0)) (u:= .iface 172 (.pointer<|some ⟨b,6,none⟩)) W5 C A5 dc (show (2:Int)<((4:Nat):Int) by decide) C)<|Gc1 (Cy c_ C C C<|Cm (J:=e8 b (pq nd es v) 169::e8 gb [e7 nd,.slice ga es.length gc] 38::vc 117 (.slice fa 4 4) (([⟨170,b,0⟩,⟨171,b,3⟩,⟨172,b,6⟩,⟨173,b,10⟩]:List P0))::I) Az<|dr0 (b:=b) (gb:=gb) (A4 hp.e3) (A4 hp.n3) hG<|A4 hg) ?_)
    refine Ar<|W.no C<|Bc<|Av<|Ao<|A6<|Gr (Rad C C)<|Gm C<|Bq<|De (n:=1)<|A1 (L':=[(8,e7 3),(7,e7 ((4:Nat):Int)),(0,.slice fa 4 4),(1,.func (.func 63) #[] #[(pt gb)])]) (cx2<|Aa C<|Aa C Bb)<|Ak<|Gr (Bl C C)<|Ar<|Ax<|Am C (λM=>?_)<|λM=>?_
    ·refine Bc (Ao<|Ax<|A7<|Ak<|Gm C<|Ga C<|Ar<|Ak<|Gm C<|Gm C<|Gm C<|Gr (A2 (α:=P0) (xs:=([⟨170,b,0⟩,⟨171,b,3⟩,⟨172,b,6⟩,⟨173,b,10⟩]:List P0)) Ce W5 C C A5 om om)<|Gr (Cc (α:=P0) (xs:=([⟨170,b,0⟩,⟨171,b,3⟩,⟨172,b,6⟩,⟨173,b,10⟩]:List P0)) (u:= .iface 173 (.pointer<|some ⟨b,10,none⟩)) W5 C A5 dc (show (3:Int)<((4:Nat):Int) by decide) C)<|Gc1 (Cy c_ C C C<|Cm (J:=e8 b (pq nd es v) 169::e8 gb [e7 nd,.slice ga es.length gc] 38::vc 117 (.slice fa 4 4) (([⟨170,b,0⟩,⟨171,b,3⟩,⟨172,b,6⟩,⟨173,b,10⟩]:List P0))::I) Az<|dq9 (b:=b) (gb:=gb) (A4 hp.e4) (A4 hp.n4) hG (A4 hg)<|A8 hT Ah) ?_)
     refine Ar<|W.no C<|Bc<|Av<|Ao<|A6<|Gr (Rad C C)<|Gm C<|Bq<|De (n:=0)<|A1 (L':=[(8,e7 4),(7,e7 ((4:Nat):Int)),(0,.slice fa 4 4),(1,.func (.func 63) #[] #[(pt gb)])]) (cx2<|Aa C<|Aa C Bb)<|Ak<|Gr (Bl C C)<|Ar<|Ax<|Am C (λM=>?_)<|λM=>?_
     ·exact absurd M dc
     exact Ci<|Aw<|Aw<|Bi<|Ao<|Ak<|Ga C<|Ar<|B3<|Al C C (vc 117 (.slice fa 4 4) (([⟨170,b,0⟩,⟨171,b,3⟩,⟨172,b,6⟩,⟨173,b,10⟩]:List P0))::e8 b (pq nd es v) 169::e8 gb [e7 nd,.slice ga es.length gc] 38::I) Az ⟨rfl,rfl⟩
    exact absurd dc M
   exact absurd dc M
  exact absurd dc M
 exact absurd dc M
theorem ft1{nd:Int}{v:PkV}{M:Option Addr}(hp:PkR κ I nd es v)(hg:Sl κ I (.slice ga es.length gc) es)(hG:s6 nd es)(hT:F4 κ I 0 p6):eu prog κ 60 [.slice M 4 4,.func (.func 63) #[] #[(pt gb)]] (vc 117 (.slice M 4 4) (([⟨170,b,0⟩,⟨171,b,3⟩,⟨172,b,6⟩,⟨173,b,10⟩]:List P0))::e8 b (pq nd es v) 169::e8 gb [e7 nd,.slice ga es.length gc] 38::I) (λr J=>r = .bool false/\J=vc 117 (.slice M 4 4) (([⟨170,b,0⟩,⟨171,b,3⟩,⟨172,b,6⟩,⟨173,b,10⟩]:List P0))::e8 b (pq nd es v) 169::e8 gb [e7 nd,.slice ga es.length gc] 38::I):=by
 refine Ce2 Tryz.func60 C C<|Z ?_
 refine Gc1 (Ac c_ C C<|Cm (J:=vc 117 (.slice M 4 4) (([⟨170,b,0⟩,⟨171,b,3⟩,⟨172,b,6⟩,⟨173,b,10⟩]:List P0))::e8 b (pq nd es v) 169::e8 gb [e7 nd,.slice ga es.length gc] 38::I) Az<|ft0 (b:=b) (gb:=gb) (PkR.fit hp Ah) (A4 hg) hG<|A8 hT Ah)<|Z ?_
 exact Al C C (vc 117 (.slice M 4 4) (([⟨170,b,0⟩,⟨171,b,3⟩,⟨172,b,6⟩,⟨173,b,10⟩]:List P0))::e8 b (pq nd es v) 169::e8 gb [e7 nd,.slice ga es.length gc] 38::I) Az ⟨rfl,rfl⟩
theorem au0{nd kd wd mo:Int}{k:EnS}{v:KpV}(hF:KpF κ I nd k v)(hK:EnV nd kd wd mo bd k)(aj:k.b.ws.length<=4096)(hT:F4 κ I 0 p6):eu prog κ 23 [.agg (kx kd wd mo bd nd k v).toArray] I (λr J=>r = .bool true/\I=J):=by
 have ao:=q9 (F1 hK.inv.val)
 have ak:=ao
 rw [G5] at ak
 have aq:=hK.tm
 refine Ce1 Tryz.func23 C C ?_
 refine Ak<|Ge1 (Au (cs:=[_,_,_,_,_,_,_,_,_,_,_,_,_,_,_,_,_,_,_,_,_,_,_,_,_]) C C C) λb1=>Z ?_
 refine G.e (Ac c_ C C<|au6 (bd:=bd) (bf:=k.b) (Bg hF.w<|B0 (κ:=κ)<|by repeat (first|exact hH|exact Bf _|apply Be|apply B4|apply Bn)) hK.buf aj) ?_
 rintro _ _ ⟨_,_,⟨rfl,rfl⟩,rfl,rfl⟩
 refine Z ?_
 refine Ds (Cn C C C) (Ac c_ C C<|bi5 kd wd mo) ?_
 rintro _ _ ⟨_,_,⟨rfl,rfl⟩,rfl,rfl⟩
 refine Z ?_
 refine A3 (d:=15) C (λae=>?_)<|λae=>Z ?_
 ·exact absurd hK.win ae
 refine A3 (d:=20) C (λan=>?_)<|λan=>Z ?_
 ·omega
 refine Am C (λap=>?_)<|λap=>Z ?_
 ·omega
 refine Gc2 (Ac c_ C C<|cc5 (nd:=nd) (Bg hF.l<|B0 (κ:=κ)<|by repeat (first|exact hH|exact Bf _|apply Be|apply B4|apply Bn)) hK.inv.val om) λah ad=>Z ?_
 refine Ge1 (Aj J8 C) λb4=>Ge0 (Cs J8)<|Z ?_
 refine A3 (d:=33) C (λab=>?_)<|λab=>Z ?_
 ·exact absurd rfl ab
 refine e9 (D0 C C)<|Ds (Cn C C C) (Ac c_ C C<|au4 (Bg hF.l<|B0 (κ:=κ)<|by repeat (first|exact hH|exact Bf _|apply Be|apply B4|apply Bn))<|cz3<|Dl mm) ?_
 rintro _ _ ⟨_,_,⟨rfl,rfl⟩,rfl,rfl⟩
 refine Z ?_
 refine Dp C (λaa=>?_)<|λaa=>Z ?_
 ·rw [fo4 hK] at aa;exact absurd aa dc
 refine G.e (Ac c_ C C fk4) ?_
 rintro _ _ ⟨_,_,⟨M,rfl,rfl⟩,rfl,rfl⟩
 refine G.e (Ac c_ C C ds6) ?_
 rintro _ _ ⟨_,_,⟨ai,rfl,rfl⟩,rfl,rfl⟩
 refine Gr (D0 C C)<|Gc1 (Ac c_ C C<|Cm (J:=vc 117 (.slice ai 4 4) (([⟨170,M,0⟩,⟨171,M,3⟩,⟨172,M,6⟩,⟨173,M,10⟩]:List P0))::e8 M (pq nd (j5 k.S) v.p) 169::e8 b4 [e7 nd,.slice ah (j5 k.S).length ad] 38::vk 105 ah ad (j5 k.S)::e8 b1 (kx kd wd mo bd nd k v) 47::I) Az<|ft1 (b:=M) (gb:=b4) (PkR.fit hF.p Ah) A5 (F1 hK.inv.val)<|A8 hT Ah)<|Z ?_
 exact Al C C I Ah ⟨rfl,rfl⟩
theorem cc6{κ:Ctx}{I:List Item}{nd kd wd mo:Int}{k:EnS}{v:KpV}(hH:Has I T)(hF:KpF κ T nd k v)(hv:q7 nd k.S=0)(a9:k.b.ws.length<=100000):eu prog κ 82 [.agg (kx kd wd mo bd nd k v).toArray] I (λr J=>∃(v':KpV) (Y:List Item),r = .agg (kx kd wd mo bd nd k v').toArray/\KpF κ (Y++T) nd k v'/\J=Y++I):=by
 have hG:=F1 hv
 have a5:=q9 hG
 have a6:=a5
 rw [G5] at a6
 have a7:=hG.rng
 have a8:=bz6 nd (j5 k.S)
 have bc:=G3 hG
 have ba:=G8 nd (j5 k.S)
 have bb:=F7 nd (j5 k.S)
 refine Ce1 Tryz.func82 C C ?_
 refine Ak<|Ge1 (Au (cs:=[_,_,_,_,_,_,_,_,_,_,_,_,_,_,_,_,_,_,_,_,_,_,_,_,_]) C C C) λb1=>Ge1 (Aj H2 C) λb2=>Ar<|Ax<|Ba mixed<|Bx (e8 b2 zk 47::I) 14<|Z ?_
 refine D.two (e8 b2 zk 47::e8 b1 (kx kd wd mo bd nd k v) 47::I) 10 Az ?_
 refine Fe 2 C kr kr kr C kr (λ_ _ _ _ h=>h) (Ap C) C C Az (Bd ap8) ?_
 refine Fe 6 C kr kr kr C kr (λ_ _ _ _ h=>h) (Ap C) C C Az (Bd ap3) ?_
 refine Ez (rs:=[3]) kr C C<|Do ?_
 refine Dt C (Ap C) (Ac c_ C C<|az1 (xs:=k.b.ws) (Bg hF.w<|B0 (κ:=κ)<|by repeat (first|exact hH|exact Bf _|apply Be|apply B4|apply Bn)) om) ?_
 rintro _ _ ⟨_,_,⟨ay,a4,rfl,rfl⟩,rfl,rfl⟩
 refine ⟨Az,?_⟩
 refine Ez (rs:=[7]) kr C C<|Do ?_
 refine Dt C (Ap C) (Ac c_ C C<|bi4 (xs:=k.S) (Bg hF.l<|B0 (κ:=κ)<|by repeat (first|exact hH|exact Bf _|apply Be|apply B4|apply Bn)) om) ?_
 rintro _ _ ⟨_,_,⟨a0,a1,rfl,rfl⟩,rfl,rfl⟩
 refine ⟨Az,?_⟩
 refine Ez (rs:=[8]) kr C C<|Do ?_
 refine ch4.read C (Ap C) C C (Af aw7 C) Az ?_
 refine Fe 9 C kr kr kr C kr (λ_ _ _ _ h=>h) (Ap C) C C Az (Af R1 C) ?_
 refine D2.stop kr ?_
 refine Ds1 10<|Se0 C (Bs (cs:=[_,_,_,_,_,_,_,_,_,_,_,_,_,_,_,_,_,_,_,_,_,_,_,_,_]) (vs:=[_]) (cs':=[_,_,_,_,_,_,_,_,_,_,_,_,_,_,_,_,_,_,_,_,_,_,_,_,_]) ap8)<|Z ?_
 refine Ds1 13<|Se0 C (Bs (cs:=[_,_,_,_,_,_,_,_,_,_,_,_,_,_,_,_,_,_,_,_,_,_,_,_,_]) (vs:=[_]) (cs':=[_,_,_,_,_,_,_,_,_,_,_,_,_,_,_,_,_,_,_,_,_,_,_,_,_]) ap3)<|Z ?_
 refine Ge1 (B2 (α:=ak3) (cs:=[_,_,_,_]) (xs:=[⟨b1,9⟩,⟨b1,12⟩,⟨b1,15⟩,⟨b1,19⟩]) D9 bj5 C C dc dc C C C C) λai=>Z ?_
 refine W.rounds 5 ?_
 refine De (n:=4)<|A1 (L':=[(29,e7 0),(28,e7 ((4:Nat):Int)),(27,.slice ai 4 4),(2,pt b2),(1,pt b1)]) (cx4<|Aa C Bb)<|Ak<|Gr (Bl C C)<|Ar<|Ax<|Am C (λM=>?_)<|λM=>?_
 ·refine Bc (Ao<|Ax<|A7<|Ak<|Gr (A2 (α:=ak3) (xs:=([⟨b1,9⟩,⟨b1,12⟩,⟨b1,15⟩,⟨b1,19⟩]:List ak3)) D9 bj5 C C A5 om om)<|Gr (Cc (α:=ak3) (xs:=([⟨b1,9⟩,⟨b1,12⟩,⟨b1,15⟩,⟨b1,19⟩]:List ak3)) (u:= .pointer (some ⟨b1,9,none⟩)) bj5 C A5 dc (show (0:Int)<((4:Nat):Int) by decide) C)<|Z ?_)
  refine Gc2 (Ac c_ C C<|an7 (xs:=(j5 k.S)) (Bg hF.p.e1<|B0 (κ:=κ)<|by repeat (first|exact hH|exact Bf _|apply Be|apply B4|apply Bn)) om) λa3 az=>Z ?_
  refine Ge0 (Bs (cs:=[_,_,_,_,_,_,_,_,_,_,_,_,_,_,_,_,_,_,_,_,_,_,_,_,_]) (vs:=[_]) (cs':=[_,_,_,_,_,_,_,_,_,_,_,_,_,_,_,_,_,_,_,_,_,_,_,_,_]) an1)<|Z ?_
  refine De (n:=3)<|A1 (L':=[(29,e7 1),(28,e7 ((4:Nat):Int)),(27,.slice ai 4 4),(2,pt b2),(1,pt b1)]) (cx4<|Aa C Bb)<|Ak<|Gr (Bl C C)<|Ar<|Ax<|Am C (λM=>?_)<|λM=>?_
  ·refine Bc (Ao<|Ax<|A7<|Ak<|Gr (A2 (α:=ak3) (xs:=([⟨b1,9⟩,⟨b1,12⟩,⟨b1,15⟩,⟨b1,19⟩]:List ak3)) D9 bj5 C C A5 om om)<|Gr (Cc (α:=ak3) (xs:=([⟨b1,9⟩,⟨b1,12⟩,⟨b1,15⟩,⟨b1,19⟩]:List ak3)) (u:= .pointer (some ⟨b1,12,none⟩)) bj5 C A5 dc (show (1:Int)<((4:Nat):Int) by decide) C)<|Z ?_)
   refine Gc2 (Ac c_ C C<|an7 (xs:=(j5 k.S)) (Bg hF.p.e2<|B0 (κ:=κ)<|by repeat (first|exact hH|exact Bf _|apply Be|apply B4|apply Bn)) om) λar ad=>Z ?_
   refine Ge0 (Bs (cs:=[_,_,_,_,_,_,_,_,_,_,_,_,_,_,_,_,_,_,_,_,_,_,_,_,_]) (vs:=[_]) (cs':=[_,_,_,_,_,_,_,_,_,_,_,_,_,_,_,_,_,_,_,_,_,_,_,_,_]) an1)<|Z ?_
   refine De (n:=2)<|A1 (L':=[(29,e7 2),(28,e7 ((4:Nat):Int)),(27,.slice ai 4 4),(2,pt b2),(1,pt b1)]) (cx4<|Aa C Bb)<|Ak<|Gr (Bl C C)<|Ar<|Ax<|Am C (λM=>?_)<|λM=>?_
   ·refine Bc (Ao<|Ax<|A7<|Ak<|Gr (A2 (α:=ak3) (xs:=([⟨b1,9⟩,⟨b1,12⟩,⟨b1,15⟩,⟨b1,19⟩]:List ak3)) D9 bj5 C C A5 om om)<|Gr (Cc (α:=ak3) (xs:=([⟨b1,9⟩,⟨b1,12⟩,⟨b1,15⟩,⟨b1,19⟩]:List ak3)) (u:= .pointer (some ⟨b1,15,none⟩)) bj5 C A5 dc (show (2:Int)<((4:Nat):Int) by decide) C)<|Z ?_)
    refine Gc2 (Ac c_ C C<|an7 (xs:=(j5 k.S)) (Bg hF.p.e3<|B0 (κ:=κ)<|by repeat (first|exact hH|exact Bf _|apply Be|apply B4|apply Bn)) om) λax ae=>Z ?_
    refine Ge0 (Bs (cs:=[_,_,_,_,_,_,_,_,_,_,_,_,_,_,_,_,_,_,_,_,_,_,_,_,_]) (vs:=[_]) (cs':=[_,_,_,_,_,_,_,_,_,_,_,_,_,_,_,_,_,_,_,_,_,_,_,_,_]) an1)<|Z ?_
    refine De (n:=1)<|A1 (L':=[(29,e7 3),(28,e7 ((4:Nat):Int)),(27,.slice ai 4 4),(2,pt b2),(1,pt b1)]) (cx4<|Aa C Bb)<|Ak<|Gr (Bl C C)<|Ar<|Ax<|Am C (λM=>?_)<|λM=>?_
    ·refine Bc (Ao<|Ax<|A7<|Ak<|Gr (A2 (α:=ak3) (xs:=([⟨b1,9⟩,⟨b1,12⟩,⟨b1,15⟩,⟨b1,19⟩]:List ak3)) D9 bj5 C C A5 om om)<|Gr (Cc (α:=ak3) (xs:=([⟨b1,9⟩,⟨b1,12⟩,⟨b1,15⟩,⟨b1,19⟩]:List ak3)) (u:= .pointer (some ⟨b1,19,none⟩)) bj5 C A5 dc (show (3:Int)<((4:Nat):Int) by decide) C)<|Z ?_)
     refine Gc2 (Ac c_ C C<|an7 (xs:=(j5 k.S)) (Bg hF.p.e4<|B0 (κ:=κ)<|by repeat (first|exact hH|exact Bf _|apply Be|apply B4|apply Bn)) om) λau an=>Z ?_
     refine Ge0 (Bs (cs:=[_,_,_,_,_,_,_,_,_,_,_,_,_,_,_,_,_,_,_,_,_,_,_,_,_]) (vs:=[_]) (cs':=[_,_,_,_,_,_,_,_,_,_,_,_,_,_,_,_,_,_,_,_,_,_,_,_,_]) an1)<|Z ?_
     refine De (n:=0)<|A1 (L':=[(29,e7 4),(28,e7 ((4:Nat):Int)),(27,.slice ai 4 4),(2,pt b2),(1,pt b1)]) (cx4<|Aa C Bb)<|Ak<|Gr (Bl C C)<|Ar<|Ax<|Am C (λM=>?_)<|λM=>Z ?_
     ·exact absurd M dc
     refine Ge1 (B2 (α:=ak3) (cs:=[_,_,_,_]) (xs:=[⟨b1,11⟩,⟨b1,14⟩,⟨b1,18⟩,⟨b1,23⟩]) D8 bj4 C C dc dc C C C C) λab=>Z ?_
     refine W.rounds 5 ?_
     refine De (n:=4)<|A1 (L':=[(52,e7 0),(51,e7 ((4:Nat):Int)),(50,.slice ab 4 4),(2,pt b2),(1,pt b1)]) (cx4<|Aa C Bb)<|Ak<|Gr (Bl C C)<|Ar<|Ax<|Am C (λaa=>?_)<|λaa=>?_
     ·refine Bc (Ao<|Ax<|A7<|Ak<|Gr (A2 (α:=ak3) (xs:=([⟨b1,11⟩,⟨b1,14⟩,⟨b1,18⟩,⟨b1,23⟩]:List ak3)) D8 bj4 C C A5 om om)<|Gr (Cc (α:=ak3) (xs:=([⟨b1,11⟩,⟨b1,14⟩,⟨b1,18⟩,⟨b1,23⟩]:List ak3)) (u:= .pointer (some ⟨b1,11,none⟩)) bj4 C A5 dc (show (0:Int)<((4:Nat):Int) by decide) C)<|Z ?_)
      refine Gc2 (Ac c_ C C<|ah1 (xs:=j9 nd (j5 k.S)) (Bg hF.p.n1<|B0 (κ:=κ)<|by repeat (first|exact hH|exact Bf _|apply Be|apply B4|apply Bn)) om) λaw ao=>?_
      refine Gr (Ef C)<|Ge0 (Bs (cs:=[_,_,_,_,_,_,_,_,_,_,_,_,_,_,_,_,_,_,_,_,_,_,_,_,_]) (vs:=[_]) (cs':=[_,_,_,_,_,_,_,_,_,_,_,_,_,_,_,_,_,_,_,_,_,_,_,_,_]) U1)<|Z ?_
      refine De (n:=3)<|A1 (L':=[(52,e7 1),(51,e7 ((4:Nat):Int)),(50,.slice ab 4 4),(2,pt b2),(1,pt b1)]) (cx4<|Aa C Bb)<|Ak<|Gr (Bl C C)<|Ar<|Ax<|Am C (λaa=>?_)<|λaa=>?_
      ·refine Bc (Ao<|Ax<|A7<|Ak<|Gr (A2 (α:=ak3) (xs:=([⟨b1,11⟩,⟨b1,14⟩,⟨b1,18⟩,⟨b1,23⟩]:List ak3)) D8 bj4 C C A5 om om)<|Gr (Cc (α:=ak3) (xs:=([⟨b1,11⟩,⟨b1,14⟩,⟨b1,18⟩,⟨b1,23⟩]:List ak3)) (u:= .pointer (some ⟨b1,14,none⟩)) bj4 C A5 dc (show (1:Int)<((4:Nat):Int) by decide) C)<|Z ?_)
       refine Gc2 (Ac c_ C C<|ah1 (xs:=j6 nd (j5 k.S)) (Bg hF.p.n2<|B0 (κ:=κ)<|by repeat (first|exact hH|exact Bf _|apply Be|apply B4|apply Bn)) om) λap ak=>?_
       refine Gr (Ef C)<|Ge0 (Bs (cs:=[_,_,_,_,_,_,_,_,_,_,_,_,_,_,_,_,_,_,_,_,_,_,_,_,_]) (vs:=[_]) (cs':=[_,_,_,_,_,_,_,_,_,_,_,_,_,_,_,_,_,_,_,_,_,_,_,_,_]) U1)<|Z ?_
       refine De (n:=2)<|A1 (L':=[(52,e7 2),(51,e7 ((4:Nat):Int)),(50,.slice ab 4 4),(2,pt b2),(1,pt b1)]) (cx4<|Aa C Bb)<|Ak<|Gr (Bl C C)<|Ar<|Ax<|Am C (λaa=>?_)<|λaa=>?_
       ·refine Bc (Ao<|Ax<|A7<|Ak<|Gr (A2 (α:=ak3) (xs:=([⟨b1,11⟩,⟨b1,14⟩,⟨b1,18⟩,⟨b1,23⟩]:List ak3)) D8 bj4 C C A5 om om)<|Gr (Cc (α:=ak3) (xs:=([⟨b1,11⟩,⟨b1,14⟩,⟨b1,18⟩,⟨b1,23⟩]:List ak3)) (u:= .pointer (some ⟨b1,18,none⟩)) bj4 C A5 dc (show (2:Int)<((4:Nat):Int) by decide) C)<|Z ?_)
        refine Gc2 (Ac c_ C C<|ah1 (xs:=H3 nd (j5 k.S)) (Bg hF.p.n3<|B0 (κ:=κ)<|by repeat (first|exact hH|exact Bf _|apply Be|apply B4|apply Bn)) om) λaq aj=>?_
        refine Gr (Ef C)<|Ge0 (Bs (cs:=[_,_,_,_,_,_,_,_,_,_,_,_,_,_,_,_,_,_,_,_,_,_,_,_,_]) (vs:=[_]) (cs':=[_,_,_,_,_,_,_,_,_,_,_,_,_,_,_,_,_,_,_,_,_,_,_,_,_]) U1)<|Z ?_
        refine De (n:=1)<|A1 (L':=[(52,e7 3),(51,e7 ((4:Nat):Int)),(50,.slice ab 4 4),(2,pt b2),(1,pt b1)]) (cx4<|Aa C Bb)<|Ak<|Gr (Bl C C)<|Ar<|Ax<|Am C (λaa=>?_)<|λaa=>?_
        ·refine Bc (Ao<|Ax<|A7<|Ak<|Gr (A2 (α:=ak3) (xs:=([⟨b1,11⟩,⟨b1,14⟩,⟨b1,18⟩,⟨b1,23⟩]:List ak3)) D8 bj4 C C A5 om om)<|Gr (Cc (α:=ak3) (xs:=([⟨b1,11⟩,⟨b1,14⟩,⟨b1,18⟩,⟨b1,23⟩]:List ak3)) (u:= .pointer (some ⟨b1,23,none⟩)) bj4 C A5 dc (show (3:Int)<((4:Nat):Int) by decide) C)<|Z ?_)
         refine Gc2 (Ac c_ C C<|ah1 (xs:=r8 nd (j5 k.S)) (Bg hF.p.n4<|B0 (κ:=κ)<|by repeat (first|exact hH|exact Bf _|apply Be|apply B4|apply Bn)) om) λah av=>?_
         refine Gr (Ef C)<|Ge0 (Bs (cs:=[_,_,_,_,_,_,_,_,_,_,_,_,_,_,_,_,_,_,_,_,_,_,_,_,_]) (vs:=[_]) (cs':=[_,_,_,_,_,_,_,_,_,_,_,_,_,_,_,_,_,_,_,_,_,_,_,_,_]) U1)<|Z ?_
         refine De (n:=0)<|A1 (L':=[(52,e7 4),(51,e7 ((4:Nat):Int)),(50,.slice ab 4 4),(2,pt b2),(1,pt b1)]) (cx4<|Aa C Bb)<|Ak<|Gr (Bl C C)<|Ar<|Ax<|Am C (λaa=>?_)<|λaa=>Z ?_
         ·exact absurd aa dc
         refine Ge0 (Eff.sq H2) ?_
         exact Ar<|B3<|Ek C H2 C mm C (([vk 54 ay a4 k.b.ws,vc 82 (.slice a0 k.S.length a1)<|k.S,vc 105 (.slice a3 (j5 k.S).length az)<|(j5 k.S),vc 3 (.slice aw (j9 nd<|j5 k.S).length ao)<|j9 nd<|j5 k.S,vc 105 (.slice ar (j5 k.S).length ad)<|(j5 k.S),vc 3 (.slice ap (j6 nd<|j5 k.S).length ak)<|j6 nd<|j5 k.S,vc 105 (.slice ax (j5 k.S).length ae)<|(j5 k.S),vc 3 (.slice aq (H3 nd<|j5 k.S).length aj)<|H3 nd<|j5 k.S,vc 105 (.slice au (j5 k.S).length an)<|(j5 k.S),vc 3 (.slice ah (r8 nd<|j5 k.S).length av)<|r8 nd<|j5 k.S]++I)) Az ⟨⟨⟨ay,a4⟩,⟨a0,a1⟩,⟨⟨a3,az⟩,⟨aw,ao⟩,⟨ar,ad⟩,⟨ap,ak⟩,⟨ax,ae⟩,⟨aq,aj⟩,⟨au,an⟩,⟨ah,av⟩⟩⟩,[vk 54 ay a4 k.b.ws,vc 82 (.slice a0 k.S.length a1)<|k.S,vc 105 (.slice a3 (j5 k.S).length az)<|(j5 k.S),vc 3 (.slice aw (j9 nd<|j5 k.S).length ao)<|j9 nd<|j5 k.S,vc 105 (.slice ar (j5 k.S).length ad)<|(j5 k.S),vc 3 (.slice ap (j6 nd<|j5 k.S).length ak)<|j6 nd<|j5 k.S,vc 105 (.slice ax (j5 k.S).length ae)<|(j5 k.S),vc 3 (.slice aq (H3 nd<|j5 k.S).length aj)<|H3 nd<|j5 k.S,vc 105 (.slice au (j5 k.S).length an)<|(j5 k.S),vc 3 (.slice ah (r8 nd<|j5 k.S).length av)<|r8 nd<|j5 k.S],rfl,⟨A5,A5,⟨A5,A5,A5,A5,A5,A5,A5,A5⟩⟩,rfl⟩
        exact absurd dc aa
       exact absurd dc aa
      exact absurd dc aa
     exact absurd dc aa
    exact absurd dc M
   exact absurd dc M
  exact absurd dc M
 exact absurd dc M
section
variable {nd kd wd mo:Int}{X X1:List Lk}{o evs:List Ev}{e:Ev}{t0:Int}{i:Nat}
theorem bq0(h:X9 kd wd mo X (evs.take i)=(X1,o))(hi:i<evs.length)(M:e_ evs i=e):X9 kd wd mo X (evs.take (i+1))=((p5 kd wd mo (X1,[]) e).1,o++(p5 kd wd mo (X1,[]) e).2):=by
 rw [Ca evs i hi,ar1,h,M];rfl
theorem as1(hi:i<evs.length)(M:e_ evs i=e):W7 t0 (evs.take (i+1))=e.tm:=by
 rw [Ca evs i hi,be5,M];rfl
theorem ce7(M:evs.Pairwise λa b=>a.tm<=b.tm)(hl:∀e∈evs,t0<=e.tm)(hi:i<evs.length):W7 t0 (evs.take i)<=(e_ evs i).tm:=by
 cases i with
 |zero=>exact hl _ (Bp om om)
 |succ j=>
  rw [as1 om rfl]
  exact (Fd evs).1 M j (j+1) om hi
end
theorem bh7{κ:Ctx}{I:List Item}{nd kd wd mo:Int}{k:EnS}{v:KpV}{bf:BfS}{evs:List Ev}(hH:Has I T)(hF:KpF κ T nd k v)(hK:bj0 nd kd wd mo bd k)(a9:Sl κ T (.slice wa bf.ws.length wc) bf.ws)(he:Sl κ T (.slice ea evs.length ec) evs)(ar:evs.Pairwise λa b=>a.tm<=b.tm)(aj:∀e∈evs,H7 nd e/\k.tm<=e.tm)(a6:bf.ws.length<=100000)(be:evs.length<=5000)(hT:F4 κ I 0 p6):eu prog κ 48 [.agg (kx kd wd mo bd nd k v).toArray,.agg #[e7 bd,e7 (bf.lt),e7 (bf.mr),.slice wa bf.ws.length wc],.slice ea evs.length ec] I (λr J=>∃(v':KpV) (Y:List Item) (a:Option Addr) (c:Nat),r = .tuple #[.agg (kx kd wd mo bd nd ((k.rel kd wd mo bf evs)) v').toArray,.slice a ((X9 kd wd mo k.S evs).2).length c,e7 0]/\KpF κ (Y++T) nd (k.rel kd wd mo bf evs) v'/\Sl κ (Y++T) (.slice a ((X9 kd wd mo k.S evs).2).length c) (X9 kd wd mo k.S evs).2/\J=Y++I):=by
 refine Ce3 Tryz.func48 C C ?_
 refine Ak<|Ge1 (Au (cs:=[_,_,_,_,_,_,_,_,_,_,_,_,_,_,_,_,_,_,_,_,_,_,_,_,_]) C C C) λb1=>Ge1 (Au (cs:=[_,_,_,_]) C C C) λb2=>Ge1 (Aj H2 C) λb3=>Z ?_
 refine Ge0 (Bs (cs:=[_,_,_,_,_,_,_,_,_,_,_,_,_,_,_,_,_,_,_,_,_,_,_,_,_]) (vs:=[_,_,_,_]) (cs':=[_,_,_,_,_,_,_,_,_,_,_,_,_,_,_,_,_,_,_,_,_,_,_,_,_]) J4)<|Z ?_
 refine B9 (σ:=Nat×(List Lk)×SlA×PkV×Int×(List Item)×(Option Addr)×Nat×(List Ev)) (λs=>([(3,pt b1),(6,pt b3),(9,.slice s.2.2.2.2.2.2.1 s.2.2.2.2.2.2.2.2.length s.2.2.2.2.2.2.2.1),(17,.slice ea evs.length ec),(18,e7 ((evs.length:Nat):Int)),(19,e7 ((s.1:Nat):Int))]:Env)) (λs=>vk 54 s.2.2.2.2.2.2.1 s.2.2.2.2.2.2.2.1 s.2.2.2.2.2.2.2.2::e8 b3 zk 47::e8 b2 [e7 bd,e7<|bf.lt,e7<|bf.mr,.slice wa bf.ws.length wc] 32::e8 b1 (ky kd wd mo bd bf.lt bf.mr wa bf.ws.length wc nd s.2.2.1.a s.2.1.length s.2.2.1.c (j5 s.2.1) s.2.2.2.1 s.2.2.2.2.1) 47::(s.2.2.2.2.2.1++I)) (λs=>(s.1<=evs.length)/\(X9 kd wd mo k.S (evs.take s.1)=(s.2.1,s.2.2.2.2.2.2.2.2))/\(s.2.2.2.2.1=W7 k.tm (evs.take s.1))/\(SlI nd kd wd s.2.2.2.2.1 s.2.1)/\(Sl κ (s.2.2.2.2.2.1++T) (.slice s.2.2.1.a s.2.1.length s.2.2.1.c) s.2.1)/\(PkR κ (s.2.2.2.2.2.1++T) nd (j5 s.2.1) s.2.2.2.1)/\(0<=s.2.2.2.2.1)/\(s.2.2.2.2.2.2.2.2.length<=5000*s.1)) (λs=>evs.length - s.1) (0,k.S,v.l,v.p,k.tm,[],none,0,[]) ⟨om,rfl,rfl,hK.inv,hF.l,hF.p,hK.tm.1,(by simp)⟩ (cx2<|Aa (Db C<|by first|rfl|simp)<|cx2<|Aa Co Bb) (A9 (show Fit κ _ _ from Az)<|B7 (α:=Ev) _ _) ?_
 rintro ⟨i,X1,lw,pw,t1,Y,oa,oc,o⟩ hp
 dsimp only at hp ⊢
 obtain ⟨hi,aa,ap,ae,aw,az,a5,bc⟩:=hp
 have a7:=q9 (F1 ae.val)
 rw [G5] at a7
 refine Z ?_
 refine Am C (λa8=>?_)<|λa8=>Z ?_
 ·refine Bc (Ao<|Ax<|A7<|Ak<|Gr (A2 (α:=Ev) (xs:=evs) Ad s9 C C (Bg (Bg he hH.fit) Ah) om om)<|Gr (C6 (α:=Ev) (xs:=evs) s9 C (Bg (Bg he hH.fit) Ah) om om) ?_)
  have ab:=aj _ (Bp (xs:=evs) (i:=(i:Int)) om om)
  have ad:=ce7 ar (λe he=>(aj e he).2) (i:=i) om
  rw [←ap] at ad
  generalize hxe:e_ evs i=xe at ab ad ⊢
  have aq:=bc6 ae a5 ad ab.1 hK.win
  have bb:=aq.len
  refine Ge1 (Aj s9 C) λb4=>Ge0 (au3 s9)<|Z ?_
  refine G.e (Ac c_ C C<|do7 (T:=(Y++T)) (X:=X1) (xe:=xe) ta2 aw az ae hK.win ab.1 ⟨a5,ad⟩<|A8 hT Ah) ?_
  rintro _ _ ⟨_,_,⟨ah,M,Y7,a1,ay,rfl,ai,an,ak,rfl⟩,rfl,rfl⟩
  refine Dq (J:=e8 b4 (ez xe) 54::vk 54 oa oc o::e8 b3 zk 47::e8 b2 [e7 bd,e7<|bf.lt,e7<|bf.mr,.slice wa bf.ws.length wc] 32::e8 b1 (ky kd wd mo bd bf.lt bf.mr wa bf.ws.length wc nd lw.a X1.length lw.c (j5 X1) pw t1) 47::(Y7++(Y++I))) (Cj<|C1 (A:=Y7) (L:=[e8 b4 (ez xe) 54,vk 54 oa oc o,e8 b3 zk 47,e8 b2 [e7 bd,e7<|bf.lt,e7<|bf.mr,.slice wa bf.ws.length wc] 32,e8 b1 (ky kd wd mo bd bf.lt bf.mr wa bf.ws.length wc nd lw.a X1.length lw.c (j5 X1) pw t1) 47]) (T:=(Y++I)))<|Z ?_
  refine Ge1 (Aj H2 C) λba=>Ge0 (Eff.sq H2)<|Z ?_
  refine Am C (λav=>?_)<|λav=>?_
  ·exact absurd av dc
  refine Bc<|Ao<|Ba mixed<|Bx (e8 ba (ky kd wd mo bd bf.lt bf.mr wa bf.ws.length wc nd ah.a (p5 kd wd mo (X1,[]) xe).1.length ah.c (j5 (p5 kd wd mo (X1,[]) xe).1) M xe.tm) 47::e8 b4 (ez xe) 54::e8 b3 zk 47::e8 b2 [e7 bd,e7<|bf.lt,e7<|bf.mr,.slice wa bf.ws.length wc] 32::(Y7++(Y++I))) 4<|Z ?_
  refine C9 (rs:=[1,2]) kr C C<|Ej ?_<|Do ?_
  ·refine Sr C (Aq C) Az ?_
   refine Ds1 2<|Sr C (Aq C) Az ?_
   refine Ds1 3<|Se2 C (Br (α:=Ev) (e:=54) (xs:=o) (ys:=(p5 kd wd mo (X1,[]) xe).2) Ad s9 C C C mm (Bg (show Sl κ (Y7++(Y++I)) (.slice a1 (p5 kd wd mo (X1,[]) xe).2.length ay) (p5 kd wd mo (X1,[]) xe).2 from Bg ak (B0 (κ:=κ)<|by repeat (first|exact hH|exact Bf _|apply Be|apply B4|apply Bn))) Ah) om dc C<|λ_ _=>am) λa3 a0=>?_
   refine Cg kr ?_
   refine Ae 4 C (Eff.sq H2) ?_
   rintro _ _ ⟨rfl,rfl⟩
   refine Dg (i:=5) kr C (Ap C) C C (Bh C) ?_
   refine Ch kr<|Z ?_
   exact Bt ((i+1),((p5 kd wd mo (X1,[]) xe).1),(ah),(M),(xe.tm),((Y7++Y)),(a3),(a0),(o++((p5 kd wd mo (X1,[]) xe).2))) (by dsimp only;exact ⟨om,(bq0 aa om hxe),(as1 om hxe).symm,aq.inv,(by rw [Fr];exact ai),(by rw [Fr];exact an),ab.1.tm.1,(by rw [By];omega)⟩) (hI:=by (try dsimp only);exact ta7)
  refine Sr C (Aq C) Az ?_
  refine Ds1 1<|Sr C (Aq C) Az ?_
  refine Ds1 3<|Se2 C (Br (α:=Ev) (e:=54) (xs:=o) (ys:=(p5 kd wd mo (X1,[]) xe).2) Ad s9 C C C mm (Bg (show Sl κ (Y7++(Y++I)) (.slice a1 (p5 kd wd mo (X1,[]) xe).2.length ay) (p5 kd wd mo (X1,[]) xe).2 from Bg ak (B0 (κ:=κ)<|by repeat (first|exact hH|exact Bf _|apply Be|apply B4|apply Bn))) Ah) om dc C<|λ_ _=>am) λax a4=>?_
  refine Cg kr ?_
  refine Ae 4 C (Eff.sq H2) ?_
  rintro _ _ ⟨rfl,rfl⟩
  refine Dg (i:=5) kr C (Ap C) C C (Bh C) ?_
  refine Ch kr<|Z ?_
  exact Bt ((i+1),((p5 kd wd mo (X1,[]) xe).1),(ah),(M),(xe.tm),((Y7++Y)),(ax),(a4),(o++((p5 kd wd mo (X1,[]) xe).2))) (by dsimp only;exact ⟨om,(bq0 aa om hxe),(as1 om hxe).symm,aq.inv,(by rw [Fr];exact ai),(by rw [Fr];exact an),ab.1.tm.1,(by rw [By];omega)⟩) (hI:=by (try dsimp only);exact ta7)
 refine G.e (Ac c_ C C<|cc6 (T:=(Y++T)) (k:=(⟨bf,X1,t1⟩:EnS)) (v:=(⟨⟨wa,wc⟩,lw,pw⟩:KpV)) ta2 ⟨a9.fit<|Bu _ _,aw,az⟩ ae.val a6) ?_
 rintro _ _ ⟨_,_,⟨au,Y16,rfl,ao,rfl⟩,rfl,rfl⟩
 refine Dq (J:=vk 54 oa oc o::e8 b3 zk 47::e8 b2 [e7 bd,e7<|bf.lt,e7<|bf.mr,.slice wa bf.ws.length wc] 32::e8 b1 (ky kd wd mo bd bf.lt bf.mr wa bf.ws.length wc nd lw.a X1.length lw.c (j5 X1) pw t1) 47::(Y16++(Y++I))) (Cj<|C1 (A:=Y16) (L:=[vk 54 oa oc o,e8 b3 zk 47,e8 b2 [e7 bd,e7<|bf.lt,e7<|bf.mr,.slice wa bf.ws.length wc] 32,e8 b1 (ky kd wd mo bd bf.lt bf.mr wa bf.ws.length wc nd lw.a X1.length lw.c (j5 X1) pw t1) 47]) (T:=(Y++I))) ?_
 refine Gm C<|Ge0 (Eff.sq H2)<|Z ?_
 rw [show evs.take i=evs from Fv om] at aa ap
 have hk:(k.rel kd wd mo bf evs)=⟨bf,X1,t1⟩:=by unfold EnS.rel;rw [aa,←ap]
 rw [hk,aa]
 exact Cu C H2 C C C mm C (((vk 54 oa oc o::(Y16++Y))++I)) tb2 ⟨au,(vk 54 oa oc o::(Y16++Y)),oa,oc,rfl,(by simp only [Jc,Fr];exact KpF.fit ao<|Fa<|Dd _),Cz<|Gi _ A_,rfl⟩
end Go.Sl
