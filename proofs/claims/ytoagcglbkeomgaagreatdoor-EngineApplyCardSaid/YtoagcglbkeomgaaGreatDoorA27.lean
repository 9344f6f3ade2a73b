/- A part of the proofs of statements of this seat: contracts of functions, and the plain laws that they lean on. No conditions. -/
import Derived.Test.YtoagcglbkeomgaaGreatDoorA26
set_option linter.unusedVariables false
set_option linter.unusedSimpArgs false
set_option linter.unusedSectionVars false
open Go.Proofs.Tryz (prog)
set_option maxHeartbeats 4000000
namespace Go.Sl
open Go.Proofs
set_option maxRecDepth 4000
variable{bd tm:Int}{ea ga na wa:Option Addr}{b ec gb gc nc wc:Nat}{T:List Item}{M aa ab ad ae ah ai aj ak an ao ap aq ar x0 x1 x2 x3 x4 x5 x6 x7 x8 x9 y0 y1 y2 y3 y4 y5 y6 y7 y8 y9:Value}{es:List Pt}
variable {κ:Ctx}{I:List Item}
attribute [local irreducible] W G V D A j8 Eff
theorem ax4{bf:BfS}(hl:Sl κ I (.slice wa bf.ws.length wc) bf.ws)(hw:bf.ws.length<=4096):eu prog κ 93 [.agg #[e7 bd,e7 (bf.lt),e7 (bf.mr),.slice wa bf.ws.length wc]] I (λr J=>∃(a:Option Addr) (c:Nat),r = .agg #[e7 bd,e7 bf.lt,e7 bf.mr,.slice a bf.ws.length c]/\J=vk 54 a c bf.ws::I):=by
 refine Ce1 Tryz.func93 C C ?_
 refine Al<|Ge1 (Av (cs:=[_,_,_,_]) C C C) λb1=>Ge1 (Aj J6 C) λb2=>Z ?_
 refine Gc2 (Ab c_ C C<|ay7 (xs:=bf.ws) (A3 hl) om) λaa M=>?_
 refine Gf R2 C<|Ge0 (Bt (cs:=[_,_,_,_]) (vs:=[_]) (cs':=[_,_,_,_]) ap1)<|Z ?_
 refine Ge0 (C9 J6) ?_
 exact Ar<|B3<|Ej C J6 C mm C (vk 54 aa M bf.ws::I) Az ⟨aa,M,rfl,rfl⟩
theorem dr2{bf:BfS}(hH:Has I T)(hl:Sl κ T (.slice wa bf.ws.length wc) bf.ws)(M:az2 bd bf)(hw:bf.ws.length<=4096):eu prog κ 65 [.agg #[e7 bd,e7 (bf.lt),e7 (bf.mr),.slice wa bf.ws.length wc]] I (λr J=>∃(a:Option Addr) (c:Nat) (a2:Option Addr) (c2:Nat) (Y:List Item),r = .tuple #[.agg #[e7 bd,e7 bf.flush.lt,e7 bf.flush.mr,.slice a bf.flush.ws.length c],.slice a2 (bf.ws).length c2,e7 0]/\Sl κ (Y++T) (.slice a bf.flush.ws.length c) bf.flush.ws/\Sl κ (Y++T) (.slice a2 bf.ws.length c2) bf.ws/\J=Y++I):=by
 have a1:=M.bd
 have a0:=M.lt
 have az:=M.mr
 refine Ce1 Tryz.func65 C C ?_
 refine Al<|Ge1 (Av (cs:=[_,_,_,_]) C C C) λb1=>Ge1 (Aj J6 C) λb2=>Z ?_
 refine G.e (Ab c_ C C<|au0 (bd:=bd) (bf:=bf) (Bd (Bd hl hH.fit) Ah) M om) ?_
 rintro _ _ ⟨_,_,⟨rfl,rfl⟩,rfl,rfl⟩
 refine Z ?_
 refine A8 mixed<|Ee 11<|Z ?_
 refine C5 (rs:=[1,8]) kr C C<|D5 ?_<|Dl ?_
 ·refine Sc2 C (Ab c_ C C<|ax4 (bd:=bd) (bf:=bf) (Bd (Bd hl hH.fit) Ah) om) λaa ak=>?_
  refine C5 (rs:=[4,8]) kr C C<|D5 ?_<|Dl ?_
  ·refine Se C (Ab c_ C C<|ao4 (bd:=bd) (lt:=bf.lt) (mr:=bf.mr) (m:=bf.lt) A5 M.asc om) ?_
   rintro _ _ ⟨_,_,⟨ap,aq,ax,rfl,aw,rfl⟩,rfl,rfl⟩
   refine ⟨Ah,?_⟩
   refine Z ?_
   refine Ds1 8<|Se1 C (Aj J6 C) λb8=>?_
   refine Ds1 9<|Se0 C (C9 J6)<|Z ?_
   refine Ge0 (C9 J6)<|Z ?_
   have ai:max bf.mr bf.lt=bf.lt:=by omega
   exact Cs C J6 C C C mm C (vk 54 ap aq (beyond bf.lt bf.ws)::vk 54 aa ak bf.ws::I) Az ⟨ap,aq,aa,ax,[vk 54 ap aq (beyond bf.lt bf.ws),vc 54 (.slice aa bf.ws.length ak)<|bf.ws],(by rw [ai,M.none,M.all];rfl),Sl.cast (xs:=beyond bf.lt bf.ws) A5 M.none,Sl.cast (xs:=ao5 bf.lt bf.ws) (Sl.ao5 A5 aw) M.all,rfl⟩
  refine Se1 C (Aj J6 C) λb9=>?_
  refine Ds1 4<|Se C (Ab c_ C C<|ao4 (bd:=bd) (lt:=bf.lt) (mr:=bf.mr) (m:=bf.lt) A5 M.asc om) ?_
  rintro _ _ ⟨_,_,⟨aj,ad,av,rfl,ar,rfl⟩,rfl,rfl⟩
  refine ⟨Ah,?_⟩
  refine Z ?_
  refine Ds1 9<|Se0 C (C9 J6)<|Z ?_
  refine Ge0 (C9 J6)<|Z ?_
  have ai:max bf.mr bf.lt=bf.lt:=by omega
  exact Cs C J6 C C C mm C (vk 54 aj ad (beyond bf.lt bf.ws)::vk 54 aa ak bf.ws::I) Az ⟨aj,ad,aa,av,[vk 54 aj ad (beyond bf.lt bf.ws),vc 54 (.slice aa bf.ws.length ak)<|bf.ws],(by rw [ai,M.none,M.all];rfl),Sl.cast (xs:=beyond bf.lt bf.ws) A5 M.none,Sl.cast (xs:=ao5 bf.lt bf.ws) (Sl.ao5 A5 ar) M.all,rfl⟩
 refine Se1 C (Aj J6 C) λay=>?_
 refine Ds1 1<|Sc2 C (Ab c_ C C<|ax4 (bd:=bd) (bf:=bf) (Bd (Bd hl hH.fit) Ah) om) λah an=>?_
 refine Ds1 4<|Se C (Ab c_ C C<|ao4 (bd:=bd) (lt:=bf.lt) (mr:=bf.mr) (m:=bf.lt) A5 M.asc om) ?_
 rintro _ _ ⟨_,_,⟨ae,ab,au,rfl,ao,rfl⟩,rfl,rfl⟩
 refine ⟨Ah,?_⟩
 refine Z ?_
 refine Ds1 9<|Se0 C (C9 J6)<|Z ?_
 refine Ge0 (C9 J6)<|Z ?_
 have ai:max bf.mr bf.lt=bf.lt:=by omega
 exact Cs C J6 C C C mm C (vk 54 ae ab (beyond bf.lt bf.ws)::vk 54 ah an bf.ws::I) Az ⟨ae,ab,ah,au,[vk 54 ae ab (beyond bf.lt bf.ws),vc 54 (.slice ah bf.ws.length an)<|bf.ws],(by rw [ai,M.none,M.all];rfl),Sl.cast (xs:=beyond bf.lt bf.ws) A5 M.none,Sl.cast (xs:=ao5 bf.lt bf.ws) (Sl.ao5 A5 ao) M.all,rfl⟩
theorem dr1{e:Ev}{bf:BfS}(hl:Sl κ I (.slice wa bf.ws.length wc) bf.ws)(hB:az2 bd bf)(hw:bf.ws.length<=4096)(he:z7 e=0)(ht:e.tm<=bf.mr):eu prog κ 47 [.agg #[e7 bd,e7 (bf.lt),e7 (bf.mr),.slice wa bf.ws.length wc],.agg (ez e).toArray] I (λr J=>∃(a:Option Addr) (c:Nat),r = .tuple #[.agg #[e7 bd,e7 bf.lt,e7 bf.mr,.slice a bf.ws.length c],.slice none 0 0,e7 10]/\I=J):=by
 have ai:=hB.bd
 have ah:=hB.lt
 have ae:=hB.mr
 refine Ce2 Tryz.func47 C C ?_
 refine Al<|Ge1 (Av (cs:=[_,_,_,_]) C C C) λb1=>Ge1 (Av (cs:=[_,_,_,_,_,_,_]) C C C) λb2=>Ge1 (Aj J6 C) λb3=>Ga C<|Ga C<|Ar<|Al<|Gl7 z6 ?_
 refine G.e (Ab c_ C C<|ab3 e) ?_
 rintro _ _ ⟨_,_,⟨rfl,rfl⟩,rfl,rfl⟩
 refine Ga C<|Ar<|Ax<|A7<|Al<|Gl4 J6 ?_
 refine G.e (Ab c_ C C<|au0 (bd:=bd) (bf:=bf) (A3 hl) hB om) ?_
 rintro _ _ ⟨_,_,⟨rfl,rfl⟩,rfl,rfl⟩
 refine Z ?_
 refine Ao C (λM=>?_)<|λM=>Z ?_
 ·exact absurd he M
 refine Ao C (λad=>?_)<|λad=>?_
 ·refine Al (Gl4 J6 ?_)
  refine Gc2 (Ab c_ C C<|ax4 (bd:=bd) (bf:=bf) (A3 hl) om) λab aa=>?_
  refine Ge0 (C9 J6)<|Z ?_
  exact Cs C J6 C C C mm C I Ah ⟨ab,aa,rfl,rfl⟩
 omega
theorem fh0(hb:0<=bd/\bd<=1048576):eu prog κ 39 [e7 bd] I (λr J=>r = .tuple #[.agg #[e7 bd,e7 (-1),e7 (-1),.slice none 0 0],e7 0]/\I=J):=by
 refine Ce1 Tryz.func39 C C ?_
 refine Al<|Ge1 (Aj J6 C) λb1=>Z ?_
 refine A4 (d:=6) C (λg6=>?_)<|λg6=>Z ?_
 ·omega
 refine Ao C (λM=>?_)<|λM=>Z ?_
 ·omega
 refine Ge0 (C9 J6) ?_
 exact Ga C<|Ar<|B3<|Cp C J6 C C mm C I Ah ⟨rfl,rfl⟩
variable {κ:Ctx}{I:List Item}
structure KpV where
 w:SlA
 l:SlA
 p:PkV
abbrev kx(kd wd mo bd nd:Int)(k:EnS)(v:KpV):List Value:=[e7 kd,e7 wd,e7 mo,e7 bd,e7 k.b.lt,e7 k.b.mr,.slice v.w.a k.b.ws.length v.w.c,e7 nd,.slice v.l.a k.S.length v.l.c,e7 nd,.slice v.p.e1.a (j6 k.S).length v.p.e1.c,.slice v.p.n1.a (j9 nd (j6 k.S)).length v.p.n1.c,e7 nd,.slice v.p.e2.a (j6 k.S).length v.p.e2.c,.slice v.p.n2.a (j5 nd (j6 k.S)).length v.p.n2.c,e7 nd,.slice v.p.e3.a (j6 k.S).length v.p.e3.c,e7 (V6 nd (j6 k.S) / 3),.slice v.p.n3.a (H9 nd (j6 k.S)).length v.p.n3.c,e7 nd,.slice v.p.e4.a (j6 k.S).length v.p.e4.c,e7 (F8 nd (j6 k.S)),e7 (J9 nd (j6 k.S)),.slice v.p.n4.a (r9 nd (j6 k.S)).length v.p.n4.c,e7 k.tm]
structure KpF (κ:Ctx) (T:List Item) (nd:Int) (k:EnS) (v:KpV):Prop where
 w:Sl κ T (.slice v.w.a k.b.ws.length v.w.c) k.b.ws
 l:Sl κ T (.slice v.l.a k.S.length v.l.c) k.S
 p:PkR κ T nd (j6 k.S) v.p
theorem KpF.fit{κ:Ctx}{I J:List Item}{nd:Int}{k:EnS}{v:KpV}(h:KpF κ I nd k v)(f:Fit κ J I):KpF κ J nd k v:=⟨h.w.fit f,h.l.fit f,h.p.fit f⟩
structure EnV (nd kd wd mo bd:Int) (k:EnS):Prop where
 win:s7 kd wd mo=0
 buf:az2 bd k.b
 inv:SlI nd kd wd k.tm k.S
 tm:0<=k.tm/\k.tm<=1048576
theorem bi3.v{nd kd wd mo:Int}{k:EnS}(h:bi3 nd kd wd mo bd k):EnV nd kd wd mo bd k:=⟨h.win,h.buf,h.inv,h.tm.1,h.tm.2.1⟩
theorem fn1{nd kd wd mo:Int}{k:EnS}(h:EnV nd kd wd mo bd k):k.S.any (λx=>decide (k.tm<x.tm))=false:=by
 rw [Bool.eq_false_iff]
 intro h1
 obtain ⟨x,M,h2⟩:=Kf.1 h1
 have:=h.inv.tm x M
 have:=Fu h2
 omega
theorem fe7(hb:ab7 κ I b [x0,x1,x2,x3,x4,x5,x6,x7,x8,x9,ap,aa,ae,ao,an,M,ar,ai,aq,ad,ah,aj,ab,ak,e7 (tm)] 47)(x:Lk):eu prog κ 59 [.agg (kl x).toArray,(pt b)] I (λr J=>r = .bool (decide (tm<x.tm))/\I=J):=by
 refine Ce2 Tryz.func59 C C ?_
 refine Al<|Ge1 (Av (cs:=[_,_,_,_,_,_]) C C C) λb1=>Z ?_
 refine Gr (Ec ef C (Ek hb Ah) C)<|Z ?_
 exact Am C C I Ah ⟨rfl,rfl⟩
theorem cy8(hb:ab7 κ I b [x0,x1,x2,x3,x4,x5,x6,x7,x8,x9,ap,aa,ae,ao,an,M,ar,ai,aq,ad,ah,aj,ab,ak,e7 (tm)] 47):do1 prog κ I 59 [(pt b)] (λx:Lk=>decide (tm<x.tm)):=⟨c_,λx J hf=>fe7 (hb.fit hf) x⟩
theorem dq3{nd:Int}(hl:Sl κ I (.slice ea es.length ec) es)(hm:Sl κ I (.slice na (j9 nd es).length nc) (j9 nd es))(hG:s8 nd es)(hg:Sl κ I (.slice ga es.length gc) es)(hT:F4 κ I 0 p5):eu prog κ 63 [.iface 170 ((pt b)),(pt gb)] (e8 b [e7 nd,.slice ea es.length ec,.slice na (j9 nd es).length nc,y3,y4,y5,y6,y7,y8,y9,ad,ae,M,aa,ab] 169::e8 gb [e7 nd,.slice ga es.length gc] 38::I) (λr J=>r = .bool false/\J=e8 b [e7 nd,.slice ea es.length ec,.slice na (j9 nd es).length nc,y3,y4,y5,y6,y7,y8,y9,ad,ae,M,aa,ab] 169::e8 gb [e7 nd,.slice ga es.length gc] 38::I):=by
 refine Ce2 Tryz.func63 C C<|Z ?_
 refine G.e (D1 c_ C (λw=>by kernel_rfl) C C<|Ck (J:=e8 b [e7 nd,.slice ea es.length ec,.slice na (j9 nd es).length nc,y3,y4,y5,y6,y7,y8,y9,ad,ae,M,aa,ab] 169::e8 gb [e7 nd,.slice ga es.length gc] 38::I) Az<|fq0 (b:=b) (A3 hl) (A3 hm) hG (A3 hg)<|Ba hT Ah) ?_
 rintro _ _ ⟨_,_,⟨rfl,rfl⟩,rfl,rfl⟩
 refine Z ?_
 exact Am C C (e8 b [e7 nd,.slice ea es.length ec,.slice na (j9 nd es).length nc,y3,y4,y5,y6,y7,y8,y9,ad,ae,M,aa,ab] 169::e8 gb [e7 nd,.slice ga es.length gc] 38::I) Az ⟨rfl,rfl⟩
theorem dq2{nd:Int}(hl:Sl κ I (.slice ea es.length ec) es)(hm:Sl κ I (.slice na (j5 nd es).length nc) (j5 nd es))(hG:s8 nd es)(hg:Sl κ I (.slice ga es.length gc) es)(hT:F4 κ I 0 p5):eu prog κ 63 [.iface 171 (.pointer (some ⟨b,3,none⟩)),(pt gb)] (e8 b [y0,y1,y2,e7 nd,.slice ea es.length ec,.slice na (j5 nd es).length nc,y6,y7,y8,y9,ad,ae,M,aa,ab] 169::e8 gb [e7 nd,.slice ga es.length gc] 38::I) (λr J=>r = .bool false/\J=e8 b [y0,y1,y2,e7 nd,.slice ea es.length ec,.slice na (j5 nd es).length nc,y6,y7,y8,y9,ad,ae,M,aa,ab] 169::e8 gb [e7 nd,.slice ga es.length gc] 38::I):=by
 refine Ce2 Tryz.func63 C C<|Z ?_
 refine G.e (D1 c_ C (λw=>by kernel_rfl) C C<|Ck (J:=e8 b [y0,y1,y2,e7 nd,.slice ea es.length ec,.slice na (j5 nd es).length nc,y6,y7,y8,y9,ad,ae,M,aa,ab] 169::e8 gb [e7 nd,.slice ga es.length gc] 38::I) Az<|fp9 (b:=b) (A3 hl) (A3 hm) hG (A3 hg)<|Ba hT Ah) ?_
 rintro _ _ ⟨_,_,⟨rfl,rfl⟩,rfl,rfl⟩
 refine Z ?_
 exact Am C C (e8 b [y0,y1,y2,e7 nd,.slice ea es.length ec,.slice na (j5 nd es).length nc,y6,y7,y8,y9,ad,ae,M,aa,ab] 169::e8 gb [e7 nd,.slice ga es.length gc] 38::I) Az ⟨rfl,rfl⟩
theorem dq1{nd:Int}(hl:Sl κ I (.slice ea es.length ec) es)(hm:Sl κ I (.slice na (H9 nd es).length nc) (H9 nd es))(hG:s8 nd es)(hg:Sl κ I (.slice ga es.length gc) es)  :
    eu prog κ 63 [.iface 172 (.pointer<|some ⟨b,6,none⟩),pt gb] (e8 b [y0,y1,y2,y3,y4,y5,e7 nd,.slice ea es.length ec,e7<|V6 nd es / 3,.slice na (H9 nd es).length nc,ad,ae,M,aa,ab] 169::e8 gb [e7 nd,.slice ga es.length gc] 38::I) (λr J=>r = .bool false/\J=e8 b [y0,y1,y2,y3,y4,y5,e7 nd,.slice ea es.length ec,e7<|V6 nd es / 3,.slice na (H9 nd es).length nc,ad,ae,M,aa,ab] 169::e8 gb [e7 nd,.slice ga es.length gc] 38::I):=by
 refine Ce2 Tryz.func63 C C<|Z ?_
 refine G.e (D1 c_ C (λw=>by kernel_rfl) C C<|Ck (J:=e8 b [y0,y1,y2,y3,y4,y5,e7 nd,.slice ea es.length ec,e7<|V6 nd es / 3,.slice na (H9 nd es).length nc,ad,ae,M,aa,ab] 169::e8 gb [e7 nd,.slice ga es.length gc] 38::I) Az<|fp8 (b:=b) (A3 hl) (A3 hm) hG<|A3 hg) ?_
 rintro _ _ ⟨_,_,⟨rfl,rfl⟩,rfl,rfl⟩
 refine Z ?_
 exact Am C C (e8 b [y0,y1,y2,y3,y4,y5,e7 nd,.slice ea es.length ec,e7<|V6 nd es / 3,.slice na (H9 nd es).length nc,ad,ae,M,aa,ab] 169::e8 gb [e7 nd,.slice ga es.length gc] 38::I) Az ⟨rfl,rfl⟩
theorem dq0{nd:Int}{M:Option Addr}(hl:Sl κ I (.slice M es.length ec) es)(hm:Sl κ I (.slice na (r9 nd es).length nc) (r9 nd es))(hG:s8 nd es)(hg:Sl κ I (.slice ga es.length gc) es)(hT:F4 κ I 0 p5):eu prog κ 63 [.iface 173 (.pointer (some ⟨b,10,none⟩)),(pt gb)] (e8 b [y0,y1,y2,y3,y4,y5,y6,y7,y8,y9,e7 nd,.slice M es.length ec,e7 (F8 nd es),e7 (J9 nd es),.slice na (r9 nd es).length nc] 169::e8 gb [e7 nd,.slice ga es.length gc] 38::I) (λr J=>r = .bool false/\J=e8 b [y0,y1,y2,y3,y4,y5,y6,y7,y8,y9,e7 nd,.slice M es.length ec,e7 (F8 nd es),e7 (J9 nd es),.slice na (r9 nd es).length nc] 169::e8 gb [e7 nd,.slice ga es.length gc] 38::I):=by
 refine Ce2 Tryz.func63 C C<|Z ?_
 refine G.e (D1 c_ C (λw=>by kernel_rfl) C C<|Ck (J:=e8 b [y0,y1,y2,y3,y4,y5,y6,y7,y8,y9,e7 nd,.slice M es.length ec,e7<|F8 nd es,e7<|J9 nd es,.slice na (r9 nd es).length nc] 169::e8 gb [e7 nd,.slice ga es.length gc] 38::I) Az<|fp7 (b:=b) (A3 hl) (A3 hm) hG (A3 hg)<|Ba hT Ah) ?_
 rintro _ _ ⟨_,_,⟨rfl,rfl⟩,rfl,rfl⟩
 refine Z ?_
 exact Am C C (e8 b [y0,y1,y2,y3,y4,y5,y6,y7,y8,y9,e7 nd,.slice M es.length ec,e7<|F8 nd es,e7<|J9 nd es,.slice na (r9 nd es).length nc] 169::e8 gb [e7 nd,.slice ga es.length gc] 38::I) Az ⟨rfl,rfl⟩
variable {κ:Ctx}{I:List Item}
theorem fr7{nd:Int}{v:PkV}{fa:Option Addr}(hp:PkR κ I nd es v)(hg:Sl κ I (.slice ga es.length gc) es)(hG:s8 nd es)(hT:F4 κ I 0 p5):eu prog κ 110 [.slice fa 4 4,.func (.func 63) #[] #[(pt gb)]] (vc 117 (.slice fa 4 4) (([⟨170,b,0⟩,⟨171,b,3⟩,⟨172,b,6⟩,⟨173,b,10⟩]:List P2))::e8 b (pq nd es v) 169::e8 gb [e7 nd,.slice ga es.length gc] 38::I) (λr J=>r=e7 (-1)/\J=vc 117 (.slice fa 4 4) (([⟨170,b,0⟩,⟨171,b,3⟩,⟨172,b,6⟩,⟨173,b,10⟩]:List P2))::e8 b (pq nd es v) 169::e8 gb [e7 nd,.slice ga es.length gc] 38::I):=by
 refine Ce2 Tryz.func110 C C ?_
 refine Al<|Ga C<|Ar<|Ax<|Al<|Gm C<|Gr (Bn Ce C)<|Gm C<|Ar<|A7<|W.rounds 5 ?_
 refine Dg (n:=4)<|A0 (L':=[(8,e7 0),(7,e7 ((4:Nat):Int)),(0,.slice fa 4 4),(1,.func (.func 63) #[] #[(pt gb)])]) (cx2<|Aa C<|Aa C Bb)<|Al<|Gr (Bm C C)<|Ar<|Ax<|Ao C (λM=>?_)<|λM=>?_
 ·refine Bc (Ak<|Ax<|A7<|Al<|Gm C<|Ga C<|Ar<|Al<|Gm C<|Gm C<|Gm C<|Gr (A1 (α:=P2) (xs:=([⟨170,b,0⟩,⟨171,b,3⟩,⟨172,b,6⟩,⟨173,b,10⟩]:List P2)) Ce W5 C C A5 om om)<|Gr (Cc (α:=P2) (xs:=([⟨170,b,0⟩,⟨171,b,3⟩,⟨172,b,6⟩,⟨173,b,10⟩]:List P2)) (u:= .iface 170 (pt b)) W5 C A5 dc (show (0:Int)<((4:Nat):Int) by decide) C)<|G.e (Cx c_ C C C<|Ck (J:=e8 b (pq nd es v) 169::e8 gb [e7 nd,.slice ga es.length gc] 38::vc 117 (.slice fa 4 4) (([⟨170,b,0⟩,⟨171,b,3⟩,⟨172,b,6⟩,⟨173,b,10⟩]:List P2))::I) Az<|dq3 (b:=b) (gb:=gb) (A3 hp.e1) (A3 hp.n1) hG (A3 hg)<|Ba hT Ah) ?_)
  rintro _ _ ⟨_,_,⟨rfl,rfl⟩,rfl,rfl⟩
  refine Ar<|W.no C<|Bc<|Au<|Ak<|A6<|Gr (Rad C C)<|Gm C<|Bq<|Dg (n:=3)<|A0 (L':=[(8,e7 1),(7,e7 ((4:Nat):Int)),(0,.slice fa 4 4),(1,.func (.func 63) #[] #[(pt gb)])]) (cx2<|Aa C<|Aa C Bb)<|Al<|Gr (Bm C C)<|Ar<|Ax<|Ao C (λM=>?_)<|λM=>?_
  ·refine Bc (Ak<|Ax<|A7<|Al<|Gm C<|Ga C<|Ar<|Al<|Gm C<|Gm C<|Gm C<|Gr (A1 (α:=P2) (xs:=([⟨170,b,0⟩,⟨171,b,3⟩,⟨172,b,6⟩,⟨173,b,10⟩]:List P2)) Ce W5 C C A5 om om)<|Gr (Cc (α:=P2) (xs:=([⟨170,b,0⟩,⟨171,b,3⟩,⟨172,b,6⟩,⟨173,b,10⟩]:List P2)) (u:= .iface 171 (.pointer<|some ⟨b,3,none⟩)) W5 C A5 dc (show (1:Int)<((4:Nat):Int) by decide) C)<|Gc1 (Cx c_ C C C<|Ck (J:=e8 b (pq nd es v) 169::e8 gb [e7 nd,.slice ga es.length gc] 38::vc 117 (.slice fa 4 4) (([⟨170,b,0⟩,⟨171,b,3⟩,⟨172,b,6⟩,⟨173,b,10⟩]:List P2))::I) Az<|dq2 (b:=b) (gb:=gb) (A3 hp.e2) (A3 hp.n2) hG (A3 hg)<|Ba hT Ah) ?_)
   refine Ar<|W.no C<|Bc<|Au<|Ak<|A6<|Gr (Rad C C)<|Gm C<|Bq<|Dg (n:=2)<|A0 (L':=[(8,e7 2),(7,e7 ((4:Nat):Int)),(0,.slice fa 4 4),(1,.func (.func 63) #[] #[(pt gb)])]) (cx2<|Aa C<|Aa C Bb)<|Al<|Gr (Bm C C)<|Ar<|Ax<|Ao C (λM=>?_)<|λM=>?_
   ·refine Bc (Ak<|Ax<|A7<|Al<|Gm C<|Ga C<|Ar<|Al<|Gm C<|Gm C<|Gm C<|Gr (A1 (α:=P2) (xs:=([⟨170,b,0⟩,⟨171,b,3⟩,⟨172,b,6⟩,⟨173,b,10⟩]:List P2)) Ce W5 C C A5 om om)<|Gr (Cc (α:=P2) (xs:=([⟨170,b,0⟩,⟨171,b,3⟩,⟨172,b,6⟩,⟨173,b,10⟩]:List P2)) (u:= .iface 172 (.pointer<|some ⟨b,6,none⟩)) W5 C A5 dc (show (2:Int)<((4:Nat):Int) by decide) C)<|Gc1 (Cx c_ C C C<|Ck (J:=e8 b (pq nd es v) 169::e8 gb [e7 nd,.slice ga es.length gc] 38::vc 117 (.slice fa 4 4) (([⟨170,b,0⟩,⟨171,b,3⟩,⟨172,b,6⟩,⟨173,b,10⟩]:List P2))::I) Az<|dq1 (b:=b) (gb:=gb) (A3 hp.e3) (A3 hp.n3) hG<|A3 hg) ?_)
    refine Ar<|W.no C<|Bc<|Au<|Ak<|A6<|Gr (Rad C C)<|Gm C<|Bq<|Dg (n:=1)<|A0 (L':=[(8,e7 3),(7,e7 ((4:Nat):Int)),(0,.slice fa 4 4),(1,.func (.func 63) #[] #[(pt gb)])]) (cx2<|Aa C<|Aa C Bb)<|Al<|Gr (Bm C C)<|Ar<|Ax<|Ao C (λM=>?_)<|λM=>?_
    ·refine Bc (Ak<|Ax<|A7<|Al<|Gm C<|Ga C<|Ar<|Al<|Gm C<|Gm C<|Gm C<|Gr (A1 (α:=P2) (xs:=([⟨170,b,0⟩,⟨171,b,3⟩,⟨172,b,6⟩,⟨173,b,10⟩]:List P2)) Ce W5 C C A5 om om)<|Gr (Cc (α:=P2) (xs:=([⟨170,b,0⟩,⟨171,b,3⟩,⟨172,b,6⟩,⟨173,b,10⟩]:List P2)) (u:= .iface 173 (.pointer<|some ⟨b,10,none⟩)) W5 C A5 dc (show (3:Int)<((4:Nat):Int) by decide) C)<|Gc1 (Cx c_ C C C<|Ck (J:=e8 b (pq nd es v) 169::e8 gb [e7 nd,.slice ga es.length gc] 38::vc 117 (.slice fa 4 4) (([⟨170,b,0⟩,⟨171,b,3⟩,⟨172,b,6⟩,⟨173,b,10⟩]:List P2))::I) Az<|dq0 (b:=b) (gb:=gb) (A3 hp.e4) (A3 hp.n4) hG (A3 hg)<|Ba hT Ah) ?_)
     refine Ar<|W.no C<|Bc<|Au<|Ak<|A6<|Gr (Rad C C)<|Gm C<|Bq<|Dg (n:=0)<|A0 (L':=[(8,e7 4),(7,e7 ((4:Nat):Int)),(0,.slice fa 4 4),(1,.func (.func 63) #[] #[(pt gb)])]) (cx2<|Aa C<|Aa C Bb)<|Al<|Gr (Bm C C)<|Ar<|Ax<|Ao C (λM=>?_)<|λM=>?_
     ·exact absurd M dc
     exact Cg<|Aw<|Aw<|Bi<|Ak<|Al<|Ga C<|Ar<|B3<|Am C C (vc 117 (.slice fa 4 4) (([⟨170,b,0⟩,⟨171,b,3⟩,⟨172,b,6⟩,⟨173,b,10⟩]:List P2))::e8 b (pq nd es v) 169::e8 gb [e7 nd,.slice ga es.length gc] 38::I) Az ⟨rfl,rfl⟩
    exact absurd dc M
   exact absurd dc M
  exact absurd dc M
 exact absurd dc M
theorem fr8{nd:Int}{v:PkV}{M:Option Addr}(hp:PkR κ I nd es v)(hg:Sl κ I (.slice ga es.length gc) es)(hG:s8 nd es)(hT:F4 κ I 0 p5):eu prog κ 60 [.slice M 4 4,.func (.func 63) #[] #[(pt gb)]] (vc 117 (.slice M 4 4) (([⟨170,b,0⟩,⟨171,b,3⟩,⟨172,b,6⟩,⟨173,b,10⟩]:List P2))::e8 b (pq nd es v) 169::e8 gb [e7 nd,.slice ga es.length gc] 38::I) (λr J=>r = .bool false/\J=vc 117 (.slice M 4 4) (([⟨170,b,0⟩,⟨171,b,3⟩,⟨172,b,6⟩,⟨173,b,10⟩]:List P2))::e8 b (pq nd es v) 169::e8 gb [e7 nd,.slice ga es.length gc] 38::I):=by
 refine Ce2 Tryz.func60 C C<|Z ?_
 refine Gc1 (Ab c_ C C<|Ck (J:=vc 117 (.slice M 4 4) (([⟨170,b,0⟩,⟨171,b,3⟩,⟨172,b,6⟩,⟨173,b,10⟩]:List P2))::e8 b (pq nd es v) 169::e8 gb [e7 nd,.slice ga es.length gc] 38::I) Az<|fr7 (b:=b) (gb:=gb) (PkR.fit hp Ah) (A3 hg) hG<|Ba hT Ah)<|Z ?_
 exact Am C C (vc 117 (.slice M 4 4) (([⟨170,b,0⟩,⟨171,b,3⟩,⟨172,b,6⟩,⟨173,b,10⟩]:List P2))::e8 b (pq nd es v) 169::e8 gb [e7 nd,.slice ga es.length gc] 38::I) Az ⟨rfl,rfl⟩
theorem at3{nd kd wd mo:Int}{k:EnS}{v:KpV}(hF:KpF κ I nd k v)(hK:EnV nd kd wd mo bd k)(aj:k.b.ws.length<=4096)(hT:F4 κ I 0 p5):eu prog κ 23 [.agg (kx kd wd mo bd nd k v).toArray] I (λr J=>r = .bool true/\I=J):=by
 have ai:=q9 (F6 hK.inv.val)
 have ak:=ai
 rw [G0] at ak
 have aq:=hK.tm
 refine Ce1 Tryz.func23 C C ?_
 refine Al<|Ge1 (Av (cs:=[_,_,_,_,_,_,_,_,_,_,_,_,_,_,_,_,_,_,_,_,_,_,_,_,_]) C C C) λb1=>Z ?_
 refine G.e (Ab c_ C C<|au0 (bd:=bd) (bf:=k.b) (Bd hF.w<|B4 (κ:=κ)<|by repeat (first|exact hH|exact Bh _|apply Bg|apply B2|apply Bp)) hK.buf aj) ?_
 rintro _ _ ⟨_,_,⟨rfl,rfl⟩,rfl,rfl⟩
 refine Z ?_
 refine Dt (Cm C C C) (Ab c_ C C<|bh8 kd wd mo) ?_
 rintro _ _ ⟨_,_,⟨rfl,rfl⟩,rfl,rfl⟩
 refine Z ?_
 refine A4 (d:=15) C (λah=>?_)<|λah=>Z ?_
 ·exact absurd hK.win ah
 refine A4 (d:=20) C (λao=>?_)<|λao=>Z ?_
 ·omega
 refine Ao C (λan=>?_)<|λan=>Z ?_
 ·omega
 refine Gc2 (Ab c_ C C<|cc0 (nd:=nd) (Bd hF.l<|B4 (κ:=κ)<|by repeat (first|exact hH|exact Bh _|apply Bg|apply B2|apply Bp)) hK.inv.val om) λab ae=>Z ?_
 refine Ge1 (Aj K0 C) λb4=>Ge0 (Co K0)<|Z ?_
 refine A4 (d:=33) C (λad=>?_)<|λad=>Z ?_
 ·exact absurd rfl ad
 refine e9 (D0 C C)<|Dt (Cm C C C) (Ab c_ C C<|at6 (Bd hF.l<|B4 (κ:=κ)<|by repeat (first|exact hH|exact Bh _|apply Bg|apply B2|apply Bp))<|cy8<|Dn mm) ?_
 rintro _ _ ⟨_,_,⟨rfl,rfl⟩,rfl,rfl⟩
 refine Z ?_
 refine Ds C (λaa=>?_)<|λaa=>Z ?_
 ·rw [fn1 hK] at aa;exact absurd aa dc
 refine G.e (Ab c_ C C fj2) ?_
 rintro _ _ ⟨_,_,⟨M,rfl,rfl⟩,rfl,rfl⟩
 refine G.e (Ab c_ C C dr5) ?_
 rintro _ _ ⟨_,_,⟨ap,rfl,rfl⟩,rfl,rfl⟩
 refine Gr (D0 C C)<|Gc1 (Ab c_ C C<|Ck (J:=vc 117 (.slice ap 4 4) (([⟨170,M,0⟩,⟨171,M,3⟩,⟨172,M,6⟩,⟨173,M,10⟩]:List P2))::e8 M (pq nd (j6 k.S) v.p) 169::e8 b4 [e7 nd,.slice ab (j6 k.S).length ae] 38::vk 105 ab ae (j6 k.S)::e8 b1 (kx kd wd mo bd nd k v) 47::I) Az<|fr8 (b:=M) (gb:=b4) (PkR.fit hF.p Ah) A5 (F6 hK.inv.val)<|Ba hT Ah)<|Z ?_
 exact Am C C I Ah ⟨rfl,rfl⟩
theorem cc1{κ:Ctx}{I:List Item}{nd kd wd mo:Int}{k:EnS}{v:KpV}(hH:Has I T)(hF:KpF κ T nd k v)(hv:p9 nd k.S=0)(bb:k.b.ws.length<=100000):eu prog κ 82 [.agg (kx kd wd mo bd nd k v).toArray] I (λr J=>∃(v':KpV) (Y:List Item),r = .agg (kx kd wd mo bd nd k v').toArray/\KpF κ (Y++T) nd k v'/\J=Y++I):=by
 have hG:=F6 hv
 have a5:=q9 hG
 have a6:=a5
 rw [G0] at a6
 have a7:=hG.rng
 have ba:=bz0 nd (j6 k.S)
 have a9:=G4 hG
 have a8:=H3 nd (j6 k.S)
 have bc:=G3 nd (j6 k.S)
 refine Ce1 Tryz.func82 C C ?_
 refine Al<|Ge1 (Av (cs:=[_,_,_,_,_,_,_,_,_,_,_,_,_,_,_,_,_,_,_,_,_,_,_,_,_]) C C C) λb1=>Ge1 (Aj H2 C) λb2=>Ar<|Ax<|A8 mixed<|Bv (e8 b2 zk 47::I) 14<|Z ?_
 refine D.two (e8 b2 zk 47::e8 b1 (kx kd wd mo bd nd k v) 47::I) 10 Az ?_
 refine Fh 2 C kr kr kr C kr (λ_ _ _ _ h=>h) (Aq C) C C Az (Be ap1) ?_
 refine Fh 6 C kr kr kr C kr (λ_ _ _ _ h=>h) (Aq C) C C Az (Be au1) ?_
 refine E0 (rs:=[3]) kr C C<|Dl ?_
 refine Du C (Aq C) (Ab c_ C C<|ay7 (xs:=k.b.ws) (Bd hF.w<|B4 (κ:=κ)<|by repeat (first|exact hH|exact Bh _|apply Bg|apply B2|apply Bp)) om) ?_
 rintro _ _ ⟨_,_,⟨a1,a0,rfl,rfl⟩,rfl,rfl⟩
 refine ⟨Az,?_⟩
 refine E0 (rs:=[7]) kr C C<|Dl ?_
 refine Du C (Aq C) (Ab c_ C C<|bh7 (xs:=k.S) (Bd hF.l<|B4 (κ:=κ)<|by repeat (first|exact hH|exact Bh _|apply Bg|apply B2|apply Bp)) om) ?_
 rintro _ _ ⟨_,_,⟨a3,az,rfl,rfl⟩,rfl,rfl⟩
 refine ⟨Az,?_⟩
 refine E0 (rs:=[8]) kr C C<|Dl ?_
 refine ch4.read C (Aq C) C C (Af aw3 C) Az ?_
 refine Fh 9 C kr kr kr C kr (λ_ _ _ _ h=>h) (Aq C) C C Az (Af R2 C) ?_
 refine D2.stop kr ?_
 refine Ds1 10<|Se0 C (Bt (cs:=[_,_,_,_,_,_,_,_,_,_,_,_,_,_,_,_,_,_,_,_,_,_,_,_,_]) (vs:=[_]) (cs':=[_,_,_,_,_,_,_,_,_,_,_,_,_,_,_,_,_,_,_,_,_,_,_,_,_]) ap1)<|Z ?_
 refine Ds1 13<|Se0 C (Bt (cs:=[_,_,_,_,_,_,_,_,_,_,_,_,_,_,_,_,_,_,_,_,_,_,_,_,_]) (vs:=[_]) (cs':=[_,_,_,_,_,_,_,_,_,_,_,_,_,_,_,_,_,_,_,_,_,_,_,_,_]) au1)<|Z ?_
 refine Ge1 (B1 (α:=aj8) (cs:=[_,_,_,_]) (xs:=[⟨b1,9⟩,⟨b1,12⟩,⟨b1,15⟩,⟨b1,19⟩]) Ea bi8 C C dc dc C C C C) λav=>Z ?_
 refine W.rounds 5 ?_
 refine Dg (n:=4)<|A0 (L':=[(29,e7 0),(28,e7 ((4:Nat):Int)),(27,.slice av 4 4),(2,pt b2),(1,pt b1)]) (cx4<|Aa C Bb)<|Al<|Gr (Bm C C)<|Ar<|Ax<|Ao C (λaa=>?_)<|λaa=>?_
 ·refine Bc (Ak<|Ax<|A7<|Al<|Gr (A1 (α:=aj8) (xs:=([⟨b1,9⟩,⟨b1,12⟩,⟨b1,15⟩,⟨b1,19⟩]:List aj8)) Ea bi8 C C A5 om om)<|Gr (Cc (α:=aj8) (xs:=([⟨b1,9⟩,⟨b1,12⟩,⟨b1,15⟩,⟨b1,19⟩]:List aj8)) (u:= .pointer (some ⟨b1,9,none⟩)) bi8 C A5 dc (show (0:Int)<((4:Nat):Int) by decide) C)<|Z ?_)
  refine Gc2 (Ab c_ C C<|an2 (xs:=(j6 k.S)) (Bd hF.p.e1<|B4 (κ:=κ)<|by repeat (first|exact hH|exact Bh _|apply Bg|apply B2|apply Bp)) om) λa4 ay=>Z ?_
  refine Ge0 (Bt (cs:=[_,_,_,_,_,_,_,_,_,_,_,_,_,_,_,_,_,_,_,_,_,_,_,_,_]) (vs:=[_]) (cs':=[_,_,_,_,_,_,_,_,_,_,_,_,_,_,_,_,_,_,_,_,_,_,_,_,_]) am7)<|Z ?_
  refine Dg (n:=3)<|A0 (L':=[(29,e7 1),(28,e7 ((4:Nat):Int)),(27,.slice av 4 4),(2,pt b2),(1,pt b1)]) (cx4<|Aa C Bb)<|Al<|Gr (Bm C C)<|Ar<|Ax<|Ao C (λaa=>?_)<|λaa=>?_
  ·refine Bc (Ak<|Ax<|A7<|Al<|Gr (A1 (α:=aj8) (xs:=([⟨b1,9⟩,⟨b1,12⟩,⟨b1,15⟩,⟨b1,19⟩]:List aj8)) Ea bi8 C C A5 om om)<|Gr (Cc (α:=aj8) (xs:=([⟨b1,9⟩,⟨b1,12⟩,⟨b1,15⟩,⟨b1,19⟩]:List aj8)) (u:= .pointer (some ⟨b1,12,none⟩)) bi8 C A5 dc (show (1:Int)<((4:Nat):Int) by decide) C)<|Z ?_)
   refine Gc2 (Ab c_ C C<|an2 (xs:=(j6 k.S)) (Bd hF.p.e2<|B4 (κ:=κ)<|by repeat (first|exact hH|exact Bh _|apply Bg|apply B2|apply Bp)) om) λan ae=>Z ?_
   refine Ge0 (Bt (cs:=[_,_,_,_,_,_,_,_,_,_,_,_,_,_,_,_,_,_,_,_,_,_,_,_,_]) (vs:=[_]) (cs':=[_,_,_,_,_,_,_,_,_,_,_,_,_,_,_,_,_,_,_,_,_,_,_,_,_]) am7)<|Z ?_
   refine Dg (n:=2)<|A0 (L':=[(29,e7 2),(28,e7 ((4:Nat):Int)),(27,.slice av 4 4),(2,pt b2),(1,pt b1)]) (cx4<|Aa C Bb)<|Al<|Gr (Bm C C)<|Ar<|Ax<|Ao C (λaa=>?_)<|λaa=>?_
   ·refine Bc (Ak<|Ax<|A7<|Al<|Gr (A1 (α:=aj8) (xs:=([⟨b1,9⟩,⟨b1,12⟩,⟨b1,15⟩,⟨b1,19⟩]:List aj8)) Ea bi8 C C A5 om om)<|Gr (Cc (α:=aj8) (xs:=([⟨b1,9⟩,⟨b1,12⟩,⟨b1,15⟩,⟨b1,19⟩]:List aj8)) (u:= .pointer (some ⟨b1,15,none⟩)) bi8 C A5 dc (show (2:Int)<((4:Nat):Int) by decide) C)<|Z ?_)
    refine Gc2 (Ab c_ C C<|an2 (xs:=(j6 k.S)) (Bd hF.p.e3<|B4 (κ:=κ)<|by repeat (first|exact hH|exact Bh _|apply Bg|apply B2|apply Bp)) om) λau aw=>Z ?_
    refine Ge0 (Bt (cs:=[_,_,_,_,_,_,_,_,_,_,_,_,_,_,_,_,_,_,_,_,_,_,_,_,_]) (vs:=[_]) (cs':=[_,_,_,_,_,_,_,_,_,_,_,_,_,_,_,_,_,_,_,_,_,_,_,_,_]) am7)<|Z ?_
    refine Dg (n:=1)<|A0 (L':=[(29,e7 3),(28,e7 ((4:Nat):Int)),(27,.slice av 4 4),(2,pt b2),(1,pt b1)]) (cx4<|Aa C Bb)<|Al<|Gr (Bm C C)<|Ar<|Ax<|Ao C (λaa=>?_)<|λaa=>?_
    ·refine Bc (Ak<|Ax<|A7<|Al<|Gr (A1 (α:=aj8) (xs:=([⟨b1,9⟩,⟨b1,12⟩,⟨b1,15⟩,⟨b1,19⟩]:List aj8)) Ea bi8 C C A5 om om)<|Gr (Cc (α:=aj8) (xs:=([⟨b1,9⟩,⟨b1,12⟩,⟨b1,15⟩,⟨b1,19⟩]:List aj8)) (u:= .pointer (some ⟨b1,19,none⟩)) bi8 C A5 dc (show (3:Int)<((4:Nat):Int) by decide) C)<|Z ?_)
     refine Gc2 (Ab c_ C C<|an2 (xs:=(j6 k.S)) (Bd hF.p.e4<|B4 (κ:=κ)<|by repeat (first|exact hH|exact Bh _|apply Bg|apply B2|apply Bp)) om) λah ap=>Z ?_
     refine Ge0 (Bt (cs:=[_,_,_,_,_,_,_,_,_,_,_,_,_,_,_,_,_,_,_,_,_,_,_,_,_]) (vs:=[_]) (cs':=[_,_,_,_,_,_,_,_,_,_,_,_,_,_,_,_,_,_,_,_,_,_,_,_,_]) am7)<|Z ?_
     refine Dg (n:=0)<|A0 (L':=[(29,e7 4),(28,e7 ((4:Nat):Int)),(27,.slice av 4 4),(2,pt b2),(1,pt b1)]) (cx4<|Aa C Bb)<|Al<|Gr (Bm C C)<|Ar<|Ax<|Ao C (λaa=>?_)<|λaa=>Z ?_
     ·exact absurd aa dc
     refine Ge1 (B1 (α:=aj8) (cs:=[_,_,_,_]) (xs:=[⟨b1,11⟩,⟨b1,14⟩,⟨b1,18⟩,⟨b1,23⟩]) D9 bi7 C C dc dc C C C C) λab=>Z ?_
     refine W.rounds 5 ?_
     refine Dg (n:=4)<|A0 (L':=[(52,e7 0),(51,e7 ((4:Nat):Int)),(50,.slice ab 4 4),(2,pt b2),(1,pt b1)]) (cx4<|Aa C Bb)<|Al<|Gr (Bm C C)<|Ar<|Ax<|Ao C (λM=>?_)<|λM=>?_
     ·refine Bc (Ak<|Ax<|A7<|Al<|Gr (A1 (α:=aj8) (xs:=([⟨b1,11⟩,⟨b1,14⟩,⟨b1,18⟩,⟨b1,23⟩]:List aj8)) D9 bi7 C C A5 om om)<|Gr (Cc (α:=aj8) (xs:=([⟨b1,11⟩,⟨b1,14⟩,⟨b1,18⟩,⟨b1,23⟩]:List aj8)) (u:= .pointer (some ⟨b1,11,none⟩)) bi7 C A5 dc (show (0:Int)<((4:Nat):Int) by decide) C)<|Z ?_)
      refine Gc2 (Ab c_ C C<|ag9 (xs:=j9 nd (j6 k.S)) (Bd hF.p.n1<|B4 (κ:=κ)<|by repeat (first|exact hH|exact Bh _|apply Bg|apply B2|apply Bp)) om) λax ao=>?_
      refine Gr (Ef C)<|Ge0 (Bt (cs:=[_,_,_,_,_,_,_,_,_,_,_,_,_,_,_,_,_,_,_,_,_,_,_,_,_]) (vs:=[_]) (cs':=[_,_,_,_,_,_,_,_,_,_,_,_,_,_,_,_,_,_,_,_,_,_,_,_,_]) W4)<|Z ?_
      refine Dg (n:=3)<|A0 (L':=[(52,e7 1),(51,e7 ((4:Nat):Int)),(50,.slice ab 4 4),(2,pt b2),(1,pt b1)]) (cx4<|Aa C Bb)<|Al<|Gr (Bm C C)<|Ar<|Ax<|Ao C (λM=>?_)<|λM=>?_
      ·refine Bc (Ak<|Ax<|A7<|Al<|Gr (A1 (α:=aj8) (xs:=([⟨b1,11⟩,⟨b1,14⟩,⟨b1,18⟩,⟨b1,23⟩]:List aj8)) D9 bi7 C C A5 om om)<|Gr (Cc (α:=aj8) (xs:=([⟨b1,11⟩,⟨b1,14⟩,⟨b1,18⟩,⟨b1,23⟩]:List aj8)) (u:= .pointer (some ⟨b1,14,none⟩)) bi7 C A5 dc (show (1:Int)<((4:Nat):Int) by decide) C)<|Z ?_)
       refine Gc2 (Ab c_ C C<|ag9 (xs:=j5 nd (j6 k.S)) (Bd hF.p.n2<|B4 (κ:=κ)<|by repeat (first|exact hH|exact Bh _|apply Bg|apply B2|apply Bp)) om) λak ai=>?_
       refine Gr (Ef C)<|Ge0 (Bt (cs:=[_,_,_,_,_,_,_,_,_,_,_,_,_,_,_,_,_,_,_,_,_,_,_,_,_]) (vs:=[_]) (cs':=[_,_,_,_,_,_,_,_,_,_,_,_,_,_,_,_,_,_,_,_,_,_,_,_,_]) W4)<|Z ?_
       refine Dg (n:=2)<|A0 (L':=[(52,e7 2),(51,e7 ((4:Nat):Int)),(50,.slice ab 4 4),(2,pt b2),(1,pt b1)]) (cx4<|Aa C Bb)<|Al<|Gr (Bm C C)<|Ar<|Ax<|Ao C (λM=>?_)<|λM=>?_
       ·refine Bc (Ak<|Ax<|A7<|Al<|Gr (A1 (α:=aj8) (xs:=([⟨b1,11⟩,⟨b1,14⟩,⟨b1,18⟩,⟨b1,23⟩]:List aj8)) D9 bi7 C C A5 om om)<|Gr (Cc (α:=aj8) (xs:=([⟨b1,11⟩,⟨b1,14⟩,⟨b1,18⟩,⟨b1,23⟩]:List aj8)) (u:= .pointer (some ⟨b1,18,none⟩)) bi7 C A5 dc (show (2:Int)<((4:Nat):Int) by decide) C)<|Z ?_)
        refine Gc2 (Ab c_ C C<|ag9 (xs:=H9 nd (j6 k.S)) (Bd hF.p.n3<|B4 (κ:=κ)<|by repeat (first|exact hH|exact Bh _|apply Bg|apply B2|apply Bp)) om) λaj ad=>?_
        refine Gr (Ef C)<|Ge0 (Bt (cs:=[_,_,_,_,_,_,_,_,_,_,_,_,_,_,_,_,_,_,_,_,_,_,_,_,_]) (vs:=[_]) (cs':=[_,_,_,_,_,_,_,_,_,_,_,_,_,_,_,_,_,_,_,_,_,_,_,_,_]) W4)<|Z ?_
        refine Dg (n:=1)<|A0 (L':=[(52,e7 3),(51,e7 ((4:Nat):Int)),(50,.slice ab 4 4),(2,pt b2),(1,pt b1)]) (cx4<|Aa C Bb)<|Al<|Gr (Bm C C)<|Ar<|Ax<|Ao C (λM=>?_)<|λM=>?_
        ·refine Bc (Ak<|Ax<|A7<|Al<|Gr (A1 (α:=aj8) (xs:=([⟨b1,11⟩,⟨b1,14⟩,⟨b1,18⟩,⟨b1,23⟩]:List aj8)) D9 bi7 C C A5 om om)<|Gr (Cc (α:=aj8) (xs:=([⟨b1,11⟩,⟨b1,14⟩,⟨b1,18⟩,⟨b1,23⟩]:List aj8)) (u:= .pointer (some ⟨b1,23,none⟩)) bi7 C A5 dc (show (3:Int)<((4:Nat):Int) by decide) C)<|Z ?_)
         refine Gc2 (Ab c_ C C<|ag9 (xs:=r9 nd (j6 k.S)) (Bd hF.p.n4<|B4 (κ:=κ)<|by repeat (first|exact hH|exact Bh _|apply Bg|apply B2|apply Bp)) om) λaq ar=>?_
         refine Gr (Ef C)<|Ge0 (Bt (cs:=[_,_,_,_,_,_,_,_,_,_,_,_,_,_,_,_,_,_,_,_,_,_,_,_,_]) (vs:=[_]) (cs':=[_,_,_,_,_,_,_,_,_,_,_,_,_,_,_,_,_,_,_,_,_,_,_,_,_]) W4)<|Z ?_
         refine Dg (n:=0)<|A0 (L':=[(52,e7 4),(51,e7 ((4:Nat):Int)),(50,.slice ab 4 4),(2,pt b2),(1,pt b1)]) (cx4<|Aa C Bb)<|Al<|Gr (Bm C C)<|Ar<|Ax<|Ao C (λM=>?_)<|λM=>Z ?_
         ·exact absurd M dc
         refine Ge0 (Eff.sq H2) ?_
         exact Ar<|B3<|Ej C H2 C mm C (([vk 54 a1 a0 k.b.ws,vc 82 (.slice a3 k.S.length az)<|k.S,vc 105 (.slice a4 (j6 k.S).length ay)<|(j6 k.S),vc 3 (.slice ax (j9 nd<|j6 k.S).length ao)<|j9 nd<|j6 k.S,vc 105 (.slice an (j6 k.S).length ae)<|(j6 k.S),vc 3 (.slice ak (j5 nd<|j6 k.S).length ai)<|j5 nd<|j6 k.S,vc 105 (.slice au (j6 k.S).length aw)<|(j6 k.S),vc 3 (.slice aj (H9 nd<|j6 k.S).length ad)<|H9 nd<|j6 k.S,vc 105 (.slice ah (j6 k.S).length ap)<|(j6 k.S),vc 3 (.slice aq (r9 nd<|j6 k.S).length ar)<|r9 nd<|j6 k.S]++I)) Az ⟨⟨⟨a1,a0⟩,⟨a3,az⟩,⟨⟨a4,ay⟩,⟨ax,ao⟩,⟨an,ae⟩,⟨ak,ai⟩,⟨au,aw⟩,⟨aj,ad⟩,⟨ah,ap⟩,⟨aq,ar⟩⟩⟩,[vk 54 a1 a0 k.b.ws,vc 82 (.slice a3 k.S.length az)<|k.S,vc 105 (.slice a4 (j6 k.S).length ay)<|(j6 k.S),vc 3 (.slice ax (j9 nd<|j6 k.S).length ao)<|j9 nd<|j6 k.S,vc 105 (.slice an (j6 k.S).length ae)<|(j6 k.S),vc 3 (.slice ak (j5 nd<|j6 k.S).length ai)<|j5 nd<|j6 k.S,vc 105 (.slice au (j6 k.S).length aw)<|(j6 k.S),vc 3 (.slice aj (H9 nd<|j6 k.S).length ad)<|H9 nd<|j6 k.S,vc 105 (.slice ah (j6 k.S).length ap)<|(j6 k.S),vc 3 (.slice aq (r9 nd<|j6 k.S).length ar)<|r9 nd<|j6 k.S],rfl,⟨A5,A5,⟨A5,A5,A5,A5,A5,A5,A5,A5⟩⟩,rfl⟩
        exact absurd dc M
       exact absurd dc M
      exact absurd dc M
     exact absurd dc M
    exact absurd dc aa
   exact absurd dc aa
  exact absurd dc aa
 exact absurd dc aa
section
variable {nd kd wd mo:Int}{X X1:List Lk}{o evs:List Ev}{e:Ev}{t0:Int}{i:Nat}
theorem bp5(h:X6 kd wd mo X (evs.take i)=(X1,o))(hi:i<evs.length)(M:e_ evs i=e):X6 kd wd mo X (evs.take (i+1))=((p6 kd wd mo (X1,[]) e).1,o++(p6 kd wd mo (X1,[]) e).2):=by
 rw [Ca evs i hi,aq4,h,M];rfl
theorem ar5(hi:i<evs.length)(M:e_ evs i=e):W7 t0 (evs.take (i+1))=e.tm:=by
 rw [Ca evs i hi,be2,M];rfl
theorem ce3(M:evs.Pairwise λa b=>a.tm<=b.tm)(hl:∀e∈evs,t0<=e.tm)(hi:i<evs.length):W7 t0 (evs.take i)<=(e_ evs i).tm:=by
 cases i with
 |zero=>exact hl _ (Bo om om)
 |succ j=>
  rw [ar5 om rfl]
  exact (E4 evs).1 M j (j+1) om hi
end
theorem bh0{κ:Ctx}{I:List Item}{nd kd wd mo:Int}{k:EnS}{v:KpV}{bf:BfS}{evs:List Ev}(hH:Has I T)(hF:KpF κ T nd k v)(hK:bi3 nd kd wd mo bd k)(ba:Sl κ T (.slice wa bf.ws.length wc) bf.ws)(he:Sl κ T (.slice ea evs.length ec) evs)(aw:evs.Pairwise λa b=>a.tm<=b.tm)(an:∀e∈evs,H4 nd e/\k.tm<=e.tm)(a9:bf.ws.length<=100000)(bc:evs.length<=5000)(hT:F4 κ I 0 p5):eu prog κ 48 [.agg (kx kd wd mo bd nd k v).toArray,.agg #[e7 bd,e7 (bf.lt),e7 (bf.mr),.slice wa bf.ws.length wc],.slice ea evs.length ec] I (λr J=>∃(v':KpV) (Y:List Item) (a:Option Addr) (c:Nat),r = .tuple #[.agg (kx kd wd mo bd nd ((k.rel kd wd mo bf evs)) v').toArray,.slice a ((X6 kd wd mo k.S evs).2).length c,e7 0]/\KpF κ (Y++T) nd (k.rel kd wd mo bf evs) v'/\Sl κ (Y++T) (.slice a ((X6 kd wd mo k.S evs).2).length c) (X6 kd wd mo k.S evs).2/\J=Y++I):=by
 refine Ce3 Tryz.func48 C C ?_
 refine Al<|Ge1 (Av (cs:=[_,_,_,_,_,_,_,_,_,_,_,_,_,_,_,_,_,_,_,_,_,_,_,_,_]) C C C) λb1=>Ge1 (Av (cs:=[_,_,_,_]) C C C) λb2=>Ge1 (Aj H2 C) λb3=>Z ?_
 refine Ge0 (Bt (cs:=[_,_,_,_,_,_,_,_,_,_,_,_,_,_,_,_,_,_,_,_,_,_,_,_,_]) (vs:=[_,_,_,_]) (cs':=[_,_,_,_,_,_,_,_,_,_,_,_,_,_,_,_,_,_,_,_,_,_,_,_,_]) J6)<|Z ?_
 refine B9 (σ:=Nat×(List Lk)×SlA×PkV×Int×(List Item)×(Option Addr)×Nat×(List Ev)) (λs=>([(3,pt b1),(6,pt b3),(9,.slice s.2.2.2.2.2.2.1 s.2.2.2.2.2.2.2.2.length s.2.2.2.2.2.2.2.1),(17,.slice ea evs.length ec),(18,e7 ((evs.length:Nat):Int)),(19,e7 ((s.1:Nat):Int))]:Env)) (λs=>vk 54 s.2.2.2.2.2.2.1 s.2.2.2.2.2.2.2.1 s.2.2.2.2.2.2.2.2::e8 b3 zk 47::e8 b2 [e7 bd,e7<|bf.lt,e7<|bf.mr,.slice wa bf.ws.length wc] 32::e8 b1 (ky kd wd mo bd bf.lt bf.mr wa bf.ws.length wc nd s.2.2.1.a s.2.1.length s.2.2.1.c (j6 s.2.1) s.2.2.2.1 s.2.2.2.2.1) 47::(s.2.2.2.2.2.1++I)) (λs=>(s.1<=evs.length)/\(X6 kd wd mo k.S (evs.take s.1)=(s.2.1,s.2.2.2.2.2.2.2.2))/\(s.2.2.2.2.1=W7 k.tm (evs.take s.1))/\(SlI nd kd wd s.2.2.2.2.1 s.2.1)/\(Sl κ (s.2.2.2.2.2.1++T) (.slice s.2.2.1.a s.2.1.length s.2.2.1.c) s.2.1)/\(PkR κ (s.2.2.2.2.2.1++T) nd (j6 s.2.1) s.2.2.2.1)/\(0<=s.2.2.2.2.1)/\(s.2.2.2.2.2.2.2.2.length<=5000*s.1)) (λs=>evs.length - s.1) (0,k.S,v.l,v.p,k.tm,[],none,0,[]) ⟨om,rfl,rfl,hK.inv,hF.l,hF.p,hK.tm.1,(by simp)⟩ (cx2<|Aa (Da C<|by first|rfl|simp)<|cx2<|Aa Cl Bb) (A9 (show Fit κ _ _ from Az)<|B6 (α:=Ev) _ _) ?_
 rintro ⟨i,X1,lw,pw,t1,Y,oa,oc,o⟩ hp
 dsimp only at hp ⊢
 obtain ⟨hi,aa,ap,ad,ax,a4,a3,be⟩:=hp
 have a6:=q9 (F6 ad.val)
 rw [G0] at a6
 refine Z ?_
 refine Ao C (λa8=>?_)<|λa8=>Z ?_
 ·refine Bc (Ak<|Ax<|A7<|Al<|Gr (A1 (α:=Ev) (xs:=evs) Ad z6 C C (Bd (Bd he hH.fit) Ah) om om)<|Gr (C7 (α:=Ev) (xs:=evs) z6 C (Bd (Bd he hH.fit) Ah) om om) ?_)
  have ab:=an _ (Bo (xs:=evs) (i:=(i:Int)) om om)
  have ae:=ce3 aw (λe he=>(an e he).2) (i:=i) om
  rw [←ap] at ae
  generalize hxe:e_ evs i=xe at ab ae ⊢
  have ao:=bc2 ad a3 ae ab.1 hK.win
  have bb:=ao.len
  refine Ge1 (Aj z6 C) λb4=>Ge0 (E5 z6)<|Z ?_
  refine G.e (Ab c_ C C<|dn8 (T:=(Y++T)) (X:=X1) (xe:=xe) ta2 ax a4 ad hK.win ab.1 ⟨a3,ae⟩<|Ba hT Ah) ?_
  rintro _ _ ⟨_,_,⟨ah,M,Y7,a0,av,rfl,ak,aj,ai,rfl⟩,rfl,rfl⟩
  refine Dp (J:=e8 b4 (ez xe) 54::vk 54 oa oc o::e8 b3 zk 47::e8 b2 [e7 bd,e7<|bf.lt,e7<|bf.mr,.slice wa bf.ws.length wc] 32::e8 b1 (ky kd wd mo bd bf.lt bf.mr wa bf.ws.length wc nd lw.a X1.length lw.c (j6 X1) pw t1) 47::(Y7++(Y++I))) (Cj<|Cz (A:=Y7) (L:=[e8 b4 (ez xe) 54,vk 54 oa oc o,e8 b3 zk 47,e8 b2 [e7 bd,e7<|bf.lt,e7<|bf.mr,.slice wa bf.ws.length wc] 32,e8 b1 (ky kd wd mo bd bf.lt bf.mr wa bf.ws.length wc nd lw.a X1.length lw.c (j6 X1) pw t1) 47]) (T:=(Y++I)))<|Z ?_
  refine Ge1 (Aj H2 C) λa7=>Ge0 (Eff.sq H2)<|Z ?_
  refine Ao C (λa1=>?_)<|λa1=>?_
  ·exact absurd a1 dc
  refine Bc<|Ak<|A8 mixed<|Bv (e8 a7 (ky kd wd mo bd bf.lt bf.mr wa bf.ws.length wc nd ah.a (p6 kd wd mo (X1,[]) xe).1.length ah.c (j6 (p6 kd wd mo (X1,[]) xe).1) M xe.tm) 47::e8 b4 (ez xe) 54::e8 b3 zk 47::e8 b2 [e7 bd,e7<|bf.lt,e7<|bf.mr,.slice wa bf.ws.length wc] 32::(Y7++(Y++I))) 4<|Z ?_
  refine C5 (rs:=[1,2]) kr C C<|D5 ?_<|Dl ?_
  ·refine Sr C (Ap C) Az ?_
   refine Ds1 2<|Sr C (Ap C) Az ?_
   refine Ds1 3<|Se2 C (Bs (α:=Ev) (e:=54) (xs:=o) (ys:=(p6 kd wd mo (X1,[]) xe).2) Ad z6 C C C mm (Bd (show Sl κ (Y7++(Y++I)) (.slice a0 (p6 kd wd mo (X1,[]) xe).2.length av) (p6 kd wd mo (X1,[]) xe).2 from Bd ai (B4 (κ:=κ)<|by repeat (first|exact hH|exact Bh _|apply Bg|apply B2|apply Bp))) Ah) om dc C<|λ_ _=>am) λay au=>?_
   refine Ch kr ?_
   refine Ae 4 C (Eff.sq H2) ?_
   rintro _ _ ⟨rfl,rfl⟩
   refine Di (i:=5) kr C (Aq C) C C (Bj C) ?_
   refine Ci kr<|Z ?_
   exact Bu ((i+1),((p6 kd wd mo (X1,[]) xe).1),(ah),(M),(xe.tm),((Y7++Y)),(ay),(au),(o++((p6 kd wd mo (X1,[]) xe).2))) (by dsimp only;exact ⟨om,(bp5 aa om hxe),(ar5 om hxe).symm,ao.inv,(by rw [Fv];exact ak),(by rw [Fv];exact aj),ab.1.tm.1,(by rw [By];omega)⟩) (hI:=by (try dsimp only);exact ta7)
  refine Sr C (Ap C) Az ?_
  refine Ds1 1<|Sr C (Ap C) Az ?_
  refine Ds1 3<|Se2 C (Bs (α:=Ev) (e:=54) (xs:=o) (ys:=(p6 kd wd mo (X1,[]) xe).2) Ad z6 C C C mm (Bd (show Sl κ (Y7++(Y++I)) (.slice a0 (p6 kd wd mo (X1,[]) xe).2.length av) (p6 kd wd mo (X1,[]) xe).2 from Bd ai (B4 (κ:=κ)<|by repeat (first|exact hH|exact Bh _|apply Bg|apply B2|apply Bp))) Ah) om dc C<|λ_ _=>am) λar az=>?_
  refine Ch kr ?_
  refine Ae 4 C (Eff.sq H2) ?_
  rintro _ _ ⟨rfl,rfl⟩
  refine Di (i:=5) kr C (Aq C) C C (Bj C) ?_
  refine Ci kr<|Z ?_
  exact Bu ((i+1),((p6 kd wd mo (X1,[]) xe).1),(ah),(M),(xe.tm),((Y7++Y)),(ar),(az),(o++((p6 kd wd mo (X1,[]) xe).2))) (by dsimp only;exact ⟨om,(bp5 aa om hxe),(ar5 om hxe).symm,ao.inv,(by rw [Fv];exact ak),(by rw [Fv];exact aj),ab.1.tm.1,(by rw [By];omega)⟩) (hI:=by (try dsimp only);exact ta7)
 refine G.e (Ab c_ C C<|cc1 (T:=(Y++T)) (k:=(⟨bf,X1,t1⟩:EnS)) (v:=(⟨⟨wa,wc⟩,lw,pw⟩:KpV)) ta2 ⟨ba.fit<|Br _ _,ax,a4⟩ ad.val a9) ?_
 rintro _ _ ⟨_,_,⟨a5,Y16,rfl,aq,rfl⟩,rfl,rfl⟩
 refine Dp (J:=vk 54 oa oc o::e8 b3 zk 47::e8 b2 [e7 bd,e7<|bf.lt,e7<|bf.mr,.slice wa bf.ws.length wc] 32::e8 b1 (ky kd wd mo bd bf.lt bf.mr wa bf.ws.length wc nd lw.a X1.length lw.c (j6 X1) pw t1) 47::(Y16++(Y++I))) (Cj<|Cz (A:=Y16) (L:=[vk 54 oa oc o,e8 b3 zk 47,e8 b2 [e7 bd,e7<|bf.lt,e7<|bf.mr,.slice wa bf.ws.length wc] 32,e8 b1 (ky kd wd mo bd bf.lt bf.mr wa bf.ws.length wc nd lw.a X1.length lw.c (j6 X1) pw t1) 47]) (T:=(Y++I))) ?_
 refine Gm C<|Ge0 (Eff.sq H2)<|Z ?_
 rw [show evs.take i=evs from Fz om] at aa ap
 have hk:(k.rel kd wd mo bf evs)=⟨bf,X1,t1⟩:=by unfold EnS.rel;rw [aa,←ap]
 rw [hk,aa]
 exact Cs C H2 C C C mm C (((vk 54 oa oc o::(Y16++Y))++I)) tb2 ⟨a5,(vk 54 oa oc o::(Y16++Y)),oa,oc,rfl,(by simp only [Jf,Fv];exact KpF.fit aq<|Ff<|De _),Cy<|Gk _ A_,rfl⟩
end Go.Sl
